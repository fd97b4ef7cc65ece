/- The machine side of FnExactGridOf: what each Go function that it reaches comes to. Conditions: none. -/
import Derived.Test.YtnidkpkfkklkaaaProg
import Derived.Below
import Derived.Deep.Draws
import Derived.Deep.AppendLies
import Derived.Maps.AppendAt
import Derived.OwnWalk
import Derived.Laws.BytesArg
import Derived.Laws.MakeOwn
import Derived.Laws.OwnMore
import Derived.Deep.OwnRows
import Derived.Tactics
import Derived.Lib.ConvBytes
import Derived.Laws.Slices
import Derived.WalkKit
import Derived.KernelRfl
import Derived.RowKit3
import Derived.Deep.LoopGhost
import Derived.Deep.QuietTactic
import Derived.BigQuiet
import Derived.WideLaws
import Derived.Deep.DeepCutAuto
import Derived.Deep.CutBlock
import Derived.Deep.RegionHeld3
import Derived.Laws.Rows
import Derived.Lib.AppendStr
import Derived.ArgAppend
import Derived.Laws.IdiomCopy
import Derived.OrdersHeld
import Derived.Laws.BitsLemmas
import Derived.RowKit
import Derived.Laws.Externs
import Derived.Test.YtnidkpkfkklkaaaShelf
import Derived.Sort.OwnSortedInts
import Derived.Test.YtnidkpkfkklkaaaWWords
import Derived.Test.YtnidkpkfkklkaaaWLast
import Derived.Test.YtnidkpkfkklkaaaWTab
import Derived.Test.YtnidkpkfkklkaaaWFour
import Derived.Test.YtnidkpkfkklkaaaWQPut
import Derived.Test.YtnidkpkfkklkaaaWApart
import Derived.Test.YtnidkpkfkklkaaaWArr
import Derived.Test.YtnidkpkfkklkaaaWZeros
import Derived.Test.YtnidkpkfkklkaaaWFoot
import Derived.Test.YtnidkpkfkklkaaaWKept
import Derived.Test.YtnidkpkfkklkaaaWShare
import Derived.Test.YtnidkpkfkklkaaaWN
import Derived.Test.YtnidkpkfkklkaaaWFootNe
import Derived.Test.YtnidkpkfkklkaaaWAt
import Derived.Test.YtnidkpkfkklkaaaWEqStruct
import Derived.Test.YtnidkpkfkklkaaaWRepsOne
import Derived.Test.YtnidkpkfkklkaaaWInv
import Derived.Test.YtnidkpkfkklkaaaWInvWords
import Derived.Test.YtnidkpkfkklkaaaWGuard
import Derived.Test.YtnidkpkfkklkaaaWNEv
import Derived.Test.YtnidkpkfkklkaaaWMore
namespace Go.Proofs.Ytnidkpkfkklkaaa.QFnExactGridOf
open Go.RowKit Go.Proofs.YtnidkpkfkklkaaaW.PrintWords Go.Proofs.YtnidkpkfkklkaaaW.PrintLast Go.Proofs.YtnidkpkfkklkaaaW.PrintMore
attribute [local go_sem] max2_int min2_int max_two min_two max_three min_three max_four min_four   -- for this text's walks alone
set_option linter.unusedVariables false
set_option linter.unusedSimpArgs false
section
variable {P : Program} {md : Region.Mode} {ops : Array Oper} {Q : Exit → Act → World → Prop} {S : World → Prop} {ds : List Nat} {T : Bool × List (List Nat × List Nat)} {B : List Nat} {fuel : Nat} {l : Array Bool} {a a' : Act} {w : World} {oi : Oper} {v : Value}
def qB : Nat → Nat → List Bool
  | 0, _ => []
  | n + 1, m => (m % 2 == 1) :: qB n (m / 2)
def qM (n m : Nat) : Array Bool := (qB n m).toArray
theorem ifp {α : Type} {c : Prop} [Decidable c] {x : Option α} {r : α} (h : (if c then x else none) = some r) : c ∧ x = some r := by
  by_cases k : c
  · rw [if_pos k] at h; exact ⟨k, h⟩
  · rw [if_neg k] at h; exact absurd h (by simp)
theorem zR {p : Prop} (h : p := by first | (rw [hyy];with_reducible exact H) | (have H2_ := (Option.bind_some _ _).symm.trans H;rw [hyy];with_reducible exact H2_) | (have H2_ := (Option.bind_some _ _).symm.trans H;with_reducible exact H2_) | with_reducible exact H | (rw [hyy];exact H) | exact H) : p := h
theorem dD {w : World} {m n : Nat} : (w.drewN m).drewN n = w.drewN (m + n) := World.drewN_drewN _ _ _
theorem dT {w : World} {m n k : Nat} : (w.drewN (m + n)).drewN k = w.drewN (m + (n + k)) := Eq.trans (World.drewN_drewN _ _ _) (congrArg (World.drewN _) (Nat.add_assoc _ _ _))
theorem bc {W : World} {g t : Nat} {cs : Array Value} (h : Aside0 (W.heap[g]? = some (.cells cs t (0, 0)))) (j : Nat) {v : Value} (hj : cs[j]? = some v := by rfl) : W.cell? ⟨g, j, none⟩ = some v := (blk_cell h.out j).trans hj
theorem rP (i : Nat) (N : Tmp) (n m : Nat) (HT_ : Aside0 (rtab md ops = T)) (hi : ops[i]? = some oi := by rfl) (hN : oi.dst = some N := by rfl) (hc : anyT T l.toList (qM n m).toList i = true := by kernel_rfl) (hQ : ∀ c a w, Q (.panic c) (a.put oi.dst v) w → Q (.panic c) a w := by exact fun _ _ _ h => h) (hy : Region.wanted oi (yielded ops a.tmps) = true := by rfl) (hr : ∀ w, (execOp a.eval oi).run P w = .ok (.value v) w := by intro w'; go_simp; with_reducible rfl) (ha : a.put (some N) v = a' := by simp only [Act.put, List.setIfInBounds_toArray, List.set_cons_zero, List.set_cons_succ, i64_w, i32_w]; rfl) (h : wpAnyLast P md ops Q S ds fuel (qM n m) a' w) : wpAnyLast P md ops Q S ds (fuel + 1) l a w :=
  pure_ (qM n m) hi hN (any_of HT_.out hc) hQ (Or.inl ⟨hy, hr⟩) ha h
theorem rU (i : Nat) (N : Tmp) (n m : Nat) (HT_ : Aside0 (rtab md ops = T)) (hi : ops[i]? = some oi := by rfl) (hN : oi.dst = some N := by rfl) (hc : anyT T l.toList (qM n m).toList i = true := by kernel_rfl) (hQ : ∀ c a w, Q (.panic c) (a.put oi.dst undef) w → Q (.panic c) a w := by exact fun _ _ _ h => h) (hy : Region.wanted oi (yielded ops a.tmps) = false := by rfl) (ha : a.put (some N) undef = a' := by simp only [Act.put, List.setIfInBounds_toArray, List.set_cons_zero, List.set_cons_succ, i64_w, i32_w]; rfl) (h : wpAnyLast P md ops Q S ds fuel (qM n m) a' w) : wpAnyLast P md ops Q S ds (fuel + 1) l a w :=
  pure_ (qM n m) hi hN (any_of HT_.out hc) hQ (Or.inr ⟨hy, rfl⟩) ha h
theorem rO (i : Nat) (N : Tmp) (n m : Nat) (HT_ : Aside0 (rtab md ops = T)) (hi : ops[i]? = some oi := by rfl) (hN : oi.dst = some N := by rfl) (hc : (readyT T.2 l.toList == [i] && l.toList.set i true == (qM n m).toList) = true := by kernel_rfl) (hd : i ∉ ds := by decide) (h : ∀ K : Act → World → Prop, Shut (∀ a' w', S w' → (S w' → wpAnyLast P md ops Q S ds fuel (qM n m) a' w') → K a' w') → if Region.wanted oi (yielded ops a.tmps) = true then Oper.wp P oi a w K Q else K (a.put (some N) undef) w) : wpAnyLast P md ops Q S ds (fuel + 1) l a w :=
  one_ (qM n m) hi hN (one_of HT_.out hc) hd h
theorem sP (i : Nat) (N : Tmp) (n m : Nat) (hi : ops[i]? = some oi := by rfl) (hN : oi.dst = some N := by rfl) (hc : anyB md ops l (qM n m) i = true := by kernel_rfl) (hQ : ∀ c a w, Q (.panic c) (a.put oi.dst v) w → Q (.panic c) a w := by exact fun _ _ _ h => h) (hy : Region.wanted oi (yielded ops a.tmps) = true := by rfl) (hr : ∀ w, (execOp a.eval oi).run P w = .ok (.value v) w := by intro w'; go_simp; with_reducible rfl) (ha : a.put (some N) v = a' := by simp only [Act.put, List.setIfInBounds_toArray, List.set_cons_zero, List.set_cons_succ, i64_w, i32_w]; rfl) (h : wpAnyLast P md ops Q S ds fuel (qM n m) a' w) : wpAnyLast P md ops Q S ds (fuel + 1) l a w :=
  pure_ (qM n m) hi hN hc hQ (Or.inl ⟨hy, hr⟩) ha h
theorem sU (i : Nat) (N : Tmp) (n m : Nat) (hi : ops[i]? = some oi := by rfl) (hN : oi.dst = some N := by rfl) (hc : anyB md ops l (qM n m) i = true := by kernel_rfl) (hQ : ∀ c a w, Q (.panic c) (a.put oi.dst undef) w → Q (.panic c) a w := by exact fun _ _ _ h => h) (hy : Region.wanted oi (yielded ops a.tmps) = false := by rfl) (ha : a.put (some N) undef = a' := by simp only [Act.put, List.setIfInBounds_toArray, List.set_cons_zero, List.set_cons_succ, i64_w, i32_w]; rfl) (h : wpAnyLast P md ops Q S ds fuel (qM n m) a' w) : wpAnyLast P md ops Q S ds (fuel + 1) l a w :=
  pure_ (qM n m) hi hN hc hQ (Or.inr ⟨hy, rfl⟩) ha h
theorem sO (i : Nat) (N : Tmp) (n m : Nat) (hi : ops[i]? = some oi := by rfl) (hN : oi.dst = some N := by rfl) (hc : readyB md ops l (qM n m) i = true := by kernel_rfl) (hd : i ∉ ds := by decide) (h : ∀ K : Act → World → Prop, Shut (∀ a' w', S w' → (S w' → wpAnyLast P md ops Q S ds fuel (qM n m) a' w') → K a' w') → if Region.wanted oi (yielded ops a.tmps) = true then Oper.wp P oi a w K Q else K (a.put (some N) undef) w) : wpAnyLast P md ops Q S ds (fuel + 1) l a w :=
  one_ (qM n m) hi hN hc hd h
theorem rT2 (i : Nat) (N : Tmp) (n m : Nat) (HT_ : Aside0 (rtab md ops = T)) (HW_ : Aside0 (waitsOk T.2 B = true)) (hS : S w) (hi : ops[i]? = some oi := by rfl) (hN : oi.dst = some N := by rfl) (hc : takeW T B ds l.toList (qM n m).toList i = true := by kernel_rfl) (hQ : ∀ c a w, Q (.panic c) (a.put oi.dst v) w → Q (.panic c) a w := by exact fun _ _ _ h => h) (hy : Region.wanted oi (yielded ops a.tmps) = true := by rfl) (hr : ∀ w, S w → (execOp a.eval oi).run P w = .ok (.value v) w := by rintro w' ⟨s0, s1⟩; go_simp; with_reducible rfl) (ha : a.put (some N) v = a' := by simp only [Act.put, List.setIfInBounds_toArray, List.set_cons_zero, List.set_cons_succ, i64_w, i32_w]; rfl) (h : wpAnyLast P md ops Q S ds fuel (qM n m) a' w) : wpAnyLast P md ops Q S ds (fuel + 1) l a w :=
  take_ (qM n m) hi hN (take_ofW HT_.out HW_.out hc) hQ (Or.inl ⟨hy, hr⟩) hS ha h
theorem rT4 (i : Nat) (N : Tmp) (n m : Nat) (HT_ : Aside0 (rtab md ops = T)) (HW_ : Aside0 (waitsOk T.2 B = true)) (hS : S w) (hi : ops[i]? = some oi := by rfl) (hN : oi.dst = some N := by rfl) (hc : takeW T B ds l.toList (qM n m).toList i = true := by kernel_rfl) (hQ : ∀ c a w, Q (.panic c) (a.put oi.dst v) w → Q (.panic c) a w := by exact fun _ _ _ h => h) (hy : Region.wanted oi (yielded ops a.tmps) = true := by rfl) (hr : ∀ w, S w → (execOp a.eval oi).run P w = .ok (.value v) w := by rintro w' ⟨s0, s1, s2, s3⟩; go_simp; with_reducible rfl) (ha : a.put (some N) v = a' := by simp only [Act.put, List.setIfInBounds_toArray, List.set_cons_zero, List.set_cons_succ, i64_w, i32_w]; rfl) (h : wpAnyLast P md ops Q S ds fuel (qM n m) a' w) : wpAnyLast P md ops Q S ds (fuel + 1) l a w :=
  take_ (qM n m) hi hN (take_ofW HT_.out HW_.out hc) hQ (Or.inl ⟨hy, hr⟩) hS ha h
theorem sT8 (i : Nat) (N : Tmp) (n m : Nat) (hS : S w) (hi : ops[i]? = some oi := by rfl) (hN : oi.dst = some N := by rfl) (hc : takeB md ops ds l (qM n m) i = true := by kernel_rfl) (hQ : ∀ c a w, Q (.panic c) (a.put oi.dst v) w → Q (.panic c) a w := by exact fun _ _ _ h => h) (hy : Region.wanted oi (yielded ops a.tmps) = true := by rfl) (hr : ∀ w, S w → (execOp a.eval oi).run P w = .ok (.value v) w := by rintro w' ⟨s0, s1, s2, s3, s4, s5, s6, s7⟩; go_simp; with_reducible rfl) (ha : a.put (some N) v = a' := by simp only [Act.put, List.setIfInBounds_toArray, List.set_cons_zero, List.set_cons_succ, i64_w, i32_w]; rfl) (h : wpAnyLast P md ops Q S ds fuel (qM n m) a' w) : wpAnyLast P md ops Q S ds (fuel + 1) l a w :=
  take_ (qM n m) hi hN hc hQ (Or.inl ⟨hy, hr⟩) hS ha h
theorem rN (ha : a = a' := by show Act.put _ (some _) _ = _; simp only [Act.put, List.setIfInBounds_toArray, List.set_cons_zero, List.set_cons_succ, i64_w, i32_w]; rfl) (h : wpAnyLast P md ops Q S ds fuel l a' w) : wpAnyLast P md ops Q S ds fuel l a w := norm_ ha h
end
section
theorem jA {a b : Prop} (x : a) (y : b) : Aside0 a ∧ b := ⟨.mk x, y⟩
theorem jB {a b : Prop} (x : a) (y : b) : a ∧ b := ⟨x, y⟩
theorem cells2 {w : World} {g : Nat} {t : TypeId} {a0 a1 : Value} (h : w.heap[g]? = some (.cells #[a0,a1] t (0,0))) : w.cell? ⟨g,0,none⟩ = some a0 ∧ w.cell? ⟨g,1,none⟩ = some a1 ∧ w.frozen? ⟨g,0,none⟩ = false ∧ w.frozen? ⟨g,1,none⟩ = false := ⟨(blk_cell h 0).trans rfl,(blk_cell h 1).trans rfl,blk_frozen h 0,blk_frozen h 1⟩
theorem cells4 {w : World} {g : Nat} {t : TypeId} {a0 a1 a2 a3 : Value} (h : w.heap[g]? = some (.cells #[a0,a1,a2,a3] t (0,0))) : w.cell? ⟨g,0,none⟩ = some a0 ∧ w.cell? ⟨g,1,none⟩ = some a1 ∧ w.cell? ⟨g,2,none⟩ = some a2 ∧ w.cell? ⟨g,3,none⟩ = some a3 ∧ w.frozen? ⟨g,0,none⟩ = false ∧ w.frozen? ⟨g,1,none⟩ = false ∧ w.frozen? ⟨g,2,none⟩ = false ∧ w.frozen? ⟨g,3,none⟩ = false := ⟨(blk_cell h 0).trans rfl,(blk_cell h 1).trans rfl,(blk_cell h 2).trans rfl,(blk_cell h 3).trans rfl,blk_frozen h 0,blk_frozen h 1,blk_frozen h 2,blk_frozen h 3⟩
theorem bE {P : Program} {ops : Array Oper} {Q : Exit → Act → World → Prop} {rest : List Oper} {o : Oper} {a : Act} {W : World} (N : Tmp) (cs : Array Value) (t : TypeId) (hgd : o.guard = none := by rfl) (hd : o.dst = some N := by rfl)
    (hrun : (execOp a.eval o).run P W = .ok (.value (.pointer (some ⟨W.heap.size, 0, none⟩))) (W.alloc (.cells cs t (0, 0))) := by first | (go_simp; done) | (go_simp; rfl))
    (h : ∀ g, g = W.heap.size → ∀ w1, w1.heap[g]? = some (.cells cs t (0, 0)) → Below W.heap.size W w1 → wpList P ops Q rest (a.put o.dst (.pointer (some ⟨g, 0, none⟩))) w1) : wpList P ops Q (o :: rest) a W := box_event hgd hd hrun h
variable {p : Prop}
theorem Z1 (h : p := by exact jA (blk_below (g := gb396) (o := .cells #[.slice A0_0 l0_0.length c0_0,.string a0_1,.slice A0_2 l0_2.length c0_2,.slice A0_3 l0_3.length c0_3] 31 (0,0)) Z291 hb) (jA (below_step Z295 hb) (jA (hbox) (jA ((Z249 : w.heap.size ≤ gb397)) (jA ((Z249 : w.heap.size ≤ gb397)) (jA ((by rw [hg];exact Nat.ne_of_lt (blk_lt (g := gb396) (o := .cells #[.slice A0_0 l0_0.length c0_0,.string a0_1,.slice A0_2 l0_2.length c0_2,.slice A0_3 l0_3.length c0_3] 31 (0,0)) Z291) : gb396 ≠ gb397)) (Aside0.mk ((by rw [hg];exact Nat.ne_of_gt (blk_lt (g := gb396) (o := .cells #[.slice A0_0 l0_0.length c0_0,.string a0_1,.slice A0_2 l0_2.length c0_2,.slice A0_3 l0_3.length c0_3] 31 (0,0)) Z291) : gb397 ≠ gb396))))))))) : p := h
theorem Z2 (h : p := by exact jA (blk_below (g := gb390) (o := .cells #[.slice A0_0 l0_0.length c0_0,.slice A0_1 l0_1.length c0_1] 29 (0,0)) Z292 hb) (jA (below_step Z296 hb) (jA (hbox) (jA ((Z250 : w.heap.size ≤ gb391)) (jA ((Z250 : w.heap.size ≤ gb391)) (jA ((by rw [hg];exact Nat.ne_of_lt (blk_lt (g := gb390) (o := .cells #[.slice A0_0 l0_0.length c0_0,.slice A0_1 l0_1.length c0_1] 29 (0,0)) Z292) : gb390 ≠ gb391)) (Aside0.mk ((by rw [hg];exact Nat.ne_of_gt (blk_lt (g := gb390) (o := .cells #[.slice A0_0 l0_0.length c0_0,.slice A0_1 l0_1.length c0_1] 29 (0,0)) Z292) : gb391 ≠ gb390))))))))) : p := h
theorem Z3 (h : p := by exact (fun k_ hk => ⟨(Nat.le_trans (below_size Z240) hk),Kd.fresh' (Kd.R_lt Z266) k_ hk,Kd.fresh' (Zn_lt Z278) k_ hk,Kd.fresh' (Zn_lt Z279) k_ hk,Kd.freshB (g := gb351) (o := .cells #[.slice A0_0 l0_0.length c0_0,.string a0_1,.slice A0_2 l0_2.length c0_2,.slice A0_3 l0_3.length c0_3] 31 (0,0)) Z282 k_ hk,Kd.freshB (g := gb352) (o := .cells #[.slice none 0 0,.slice none 0 0] 29 (0,0)) Z283 k_ hk,Kd.freshB (g := gb353) (o := .cells #[.slice Ao54 x354000_2.length co54,.slice Ao56 x354001_2.length co56] 29 (0,0)) Z284 k_ hk⟩)) : p := h
theorem Z4 (h : p := by exact jA (blk_below (g := gb351) (o := .cells #[.slice A0_0 l0_0.length c0_0,.string a0_1,.slice A0_2 l0_2.length c0_2,.slice A0_3 l0_3.length c0_3] 31 (0,0)) Z265 hb) (jA (blk_below (g := gb352) (o := .cells #[.slice none 0 0,.slice none 0 0] 29 (0,0)) Z264 hb) (jA (blk_below (g := gb353) (o := .cells #[.slice none 0 0,.slice none 0 0] 29 (0,0)) (by refine bP ?_;refine blk_put (cs := #[.slice none 0 0,.slice none 0 0]) ?_ 1 _ rfl;refine bP ?_;refine blk_put (cs := #[.slice none 0 0,.slice none 0 0]) ?_ 0 _ rfl;refine bP ?_;exact BK353.out) hb) (Aside0.mk (below_step Z240 hb))))) : p := h
theorem Z5 (h : p := by exact jA (blk_below (g := gb235) (o := .cells #[.slice A0_0 l0_0.length c0_0,.string a0_1,.slice A0_2 l0_2.length c0_2,.slice A0_3 l0_3.length c0_3] 31 (0,0)) (by refine bP ?_;refine blk_far ?_ NB235_237.out _;refine bP ?_;refine blk_far ?_ NB235_237.out _;refine bP ?_;exact BK235.out) hb) (jA (blk_below (g := gb236) (o := .cells #[.slice none 0 0,.slice none 0 0] 29 (0,0)) (by refine bP ?_;refine blk_far ?_ NB236_237.out _;refine bP ?_;refine blk_far ?_ NB236_237.out _;refine bP ?_;exact BK236.out) hb) (jA (blk_below (g := gb237) (o := .cells #[.slice none 0 0,.slice none 0 0] 29 (0,0)) (by refine bP ?_;refine blk_put (cs := #[.slice none 0 0,.slice none 0 0]) ?_ 1 _ rfl;refine bP ?_;refine blk_put (cs := #[.slice none 0 0,.slice none 0 0]) ?_ 0 _ rfl;refine bP ?_;exact BK237.out) hb) (Aside0.mk (below_step Z241 hb))))) : p := h
theorem Z6 (h : p := by exact jA (Kd.R_elder' Z276 (Kd.R_base hoq3) hb) (jA (Kd.R_elder' Z274 (Kd.R_base hoq3) hb) (jA (Kd.R_lower (Kd.R_new' (Kd.R_new' hoq3 (Kd.R_lt Z276)) (Kd.R_lt Z274)) (below_size Z297)) (Aside0.mk (below_step Z297 hb))))) : p := h
theorem Z7 (h : p := by exact jA (Kd.R_below Z267 hb) (jA (Kd.R_below (by (with_reducible repeat (first | apply Kd.R_alloc | apply Kd.R_drewN | apply Kd.R_drew));exact HO311.out) hb) (jA (blk_below (g := gb301) (o := .cells #[.slice A0_0 l0_0.length c0_0,.string a0_1,.slice A0_2 l0_2.length c0_2,.slice A0_3 l0_3.length c0_3] 31 (0,0)) Z281 hb) (Aside0.mk (below_step Z253 hb))))) : p := h
theorem Z8 (h : p := by exact jA (Kd.R_elder' Z271 (Kd.R_base ho13) hb) (jA (Kd.R_lower (Kd.R_new' ho13 (Kd.R_lt Z271)) (below_size Z297)) (Aside0.mk (below_step Z297 hb)))) : p := h
theorem Z9 (h : p := by exact jA (Kd.R_elder' Z272 (Kd.R_base ho0) hb) (jA (Kd.R_lower (Kd.R_new' ho0 (Kd.R_lt Z272)) (below_size Z297)) (Aside0.mk (below_step Z297 hb)))) : p := h
theorem Z10 (h : p := by exact jA (Kd.R_elder' Z275 (Kd.R_base ho0) hb) (jA (Kd.R_lower (Kd.R_new' ho0 (Kd.R_lt Z275)) (below_size Z297)) (Aside0.mk (below_step Z297 hb)))) : p := h
theorem Z11 (h : p := by exact jA (below_step Z297 hb) (jA (hbox) (jA ((Z254 : w.heap.size ≤ gb301)) (Aside0.mk ((Z254 : w.heap.size ≤ gb301)))))) : p := h
theorem Z12 (h : p := by exact jA (below_step Z297 hb) (jA (hbox) (jA ((Z254 : w.heap.size ≤ gb396)) (Aside0.mk ((Z254 : w.heap.size ≤ gb396)))))) : p := h
theorem Z13 (h : p := by exact jA (below_step Z297 hb) (jA (hbox) (jA ((Z254 : w.heap.size ≤ gb106)) (Aside0.mk ((Z254 : w.heap.size ≤ gb106)))))) : p := h
theorem Z14 (h : p := by exact jA (below_step Z297 hb) (jA (hbox) (jA ((Z254 : w.heap.size ≤ gb410)) (Aside0.mk ((Z254 : w.heap.size ≤ gb410)))))) : p := h
theorem Z15 (h : p := by exact jA (below_step Z297 hb) (jA (hbox) (jA ((Z254 : w.heap.size ≤ gb390)) (Aside0.mk ((Z254 : w.heap.size ≤ gb390)))))) : p := h
theorem Z16 (h : p := by exact jA (below_step Z297 hb) (jA (hbox) (jA ((Z254 : w.heap.size ≤ gb115)) (Aside0.mk ((Z254 : w.heap.size ≤ gb115)))))) : p := h
theorem Z17 (h : p := by exact jA (below_step Z297 hb) (jA (hbox) (jA ((Z254 : w.heap.size ≤ gb413)) (Aside0.mk ((Z254 : w.heap.size ≤ gb413)))))) : p := h
theorem Z18 (h : p := by exact jA (below_step Z297 hb) (jA (hbox) (jA ((Z254 : w.heap.size ≤ gb316)) (Aside0.mk ((Z254 : w.heap.size ≤ gb316)))))) : p := h
theorem Z19 (h : p := by exact jA (Kd.R_mono (ok' := fun k_ => some k_ ≠ (vq2 : Value).ownBlock) (Kd.R_keptB (HO_6.out) hkp (fun k_ hk_ hs_ => (hk_) hs_)) (fun k_ hk_ => fun e_ => Or.elim (hoq3.1 k_ e_.symm) (fun hs_ => hk_.2.1 hs_) (fun hn_ => Nat.not_le.2 hk_.2.2 hn_))) (jA (Kd.R_mono (ok' := fun k_ => some k_ ≠ (v339 : Value).ownBlock) hoq3 (fun k_ hk_ => Or.elim hk_ (fun hs_ => fun e_ => (((HO_6.out).1 k_ e_.symm)) hs_) (fun hn_ => (Kd.fresh' (Kd.R_lt Z276) k_ hn_)))) (Aside0.mk (hb)))) : p := h
theorem Z20 (h : p := by (with_reducible repeat (first | apply Kd.R_alloc | apply Kd.R_drewN | apply Kd.R_drew));exact (Kd.R_mono (Kd.R_far (p := ⟨gb442,3,none⟩) (Kd.R_far (p := ⟨gb442,2,none⟩) (Kd.R_far (p := ⟨gb442,1,none⟩) (Kd.R_far (p := ⟨gb442,0,none⟩) (Kd.R_types HO441.out BK442.out Z293) (fun _ hk => hk.2) (.slice Ao36 t432.length co36)) (fun _ hk => hk.2) (.string t435)) (fun _ hk => hk.2) (.slice Ao40 t436.length co40)) (fun _ hk => hk.2) (.slice Ao41 t439.length co41)) (fun _ h_ => h_.1))) : p := h
theorem Z21 (h : p := by (with_reducible repeat (first | apply Kd.R_alloc | apply Kd.R_drewN | apply Kd.R_drew));exact (Kd.R_mono (Kd.R_far (p := ⟨gb442,3,none⟩) (Kd.R_far (p := ⟨gb442,2,none⟩) (Kd.R_far (p := ⟨gb442,1,none⟩) (Kd.R_far (p := ⟨gb442,0,none⟩) (Kd.R_types HO424.out BK442.out Z293) (fun _ hk => hk.2) (.slice Ao36 t432.length co36)) (fun _ hk => hk.2) (.string t435)) (fun _ hk => hk.2) (.slice Ao40 t436.length co40)) (fun _ hk => hk.2) (.slice Ao41 t439.length co41)) (fun _ h_ => h_.1))) : p := h
theorem Z22 (h : p := by (with_reducible repeat (first | apply Kd.R_alloc | apply Kd.R_drewN | apply Kd.R_drew));exact (Kd.R_mono (Kd.R_far (p := ⟨gb442,3,none⟩) (Kd.R_far (p := ⟨gb442,2,none⟩) (Kd.R_far (p := ⟨gb442,1,none⟩) (Kd.R_far (p := ⟨gb442,0,none⟩) (Kd.R_types HO434.out BK442.out Z293) (fun _ hk => hk.2) (.slice Ao36 t432.length co36)) (fun _ hk => hk.2) (.string t435)) (fun _ hk => hk.2) (.slice Ao40 t436.length co40)) (fun _ hk => hk.2) (.slice Ao41 t439.length co41)) (fun _ h_ => h_.1))) : p := h
theorem Z23 (h : p := by (with_reducible repeat (first | apply Sc_alloc | apply Sc_drewN | apply Sc_drew));exact (Sc_mono (Sc_far (p := ⟨gb442,3,none⟩) (Sc_far (p := ⟨gb442,2,none⟩) (Sc_far (p := ⟨gb442,1,none⟩) (Sc_far (p := ⟨gb442,0,none⟩) (Sc_types HO438.out BK442.out Z293) (fun _ hk => hk.2) (.slice Ao36 t432.length co36)) (fun _ hk => hk.2) (.string t435)) (fun _ hk => hk.2) (.slice Ao40 t436.length co40)) (fun _ hk => hk.2) (.slice Ao41 t439.length co41)) (fun _ h_ => h_.1))) : p := h
theorem Z24 (h : p := by (with_reducible repeat (first | apply Sc_alloc | apply Sc_drewN | apply Sc_drew));exact (Sc_mono (Sc_far (p := ⟨gb442,3,none⟩) (Sc_far (p := ⟨gb442,2,none⟩) (Sc_far (p := ⟨gb442,1,none⟩) (Sc_far (p := ⟨gb442,0,none⟩) (Sc_types HO430.out BK442.out Z293) (fun _ hk => hk.2) (.slice Ao36 t432.length co36)) (fun _ hk => hk.2) (.string t435)) (fun _ hk => hk.2) (.slice Ao40 t436.length co40)) (fun _ hk => hk.2) (.slice Ao41 t439.length co41)) (fun _ h_ => h_.1))) : p := h
theorem Z25 (h : p := by (with_reducible repeat (first | apply Sc_alloc | apply Sc_drewN | apply Sc_drew));exact (Sc_mono (Sc_far (p := ⟨gb442,3,none⟩) (Sc_far (p := ⟨gb442,2,none⟩) (Sc_far (p := ⟨gb442,1,none⟩) (Sc_far (p := ⟨gb442,0,none⟩) (Sc_types HO427.out BK442.out Z293) (fun _ hk => hk.2) (.slice Ao36 t432.length co36)) (fun _ hk => hk.2) (.string t435)) (fun _ hk => hk.2) (.slice Ao40 t436.length co40)) (fun _ hk => hk.2) (.slice Ao41 t439.length co41)) (fun _ h_ => h_.1))) : p := h
theorem Z26 (h : p := by (with_reducible repeat (first | apply Sc_alloc | apply Sc_drewN | apply Sc_drew));exact (Sc_mono (Sc_far (p := ⟨gb442,3,none⟩) (Sc_far (p := ⟨gb442,2,none⟩) (Sc_far (p := ⟨gb442,1,none⟩) (Sc_far (p := ⟨gb442,0,none⟩) (Sc_types HO421.out BK442.out Z293) (fun _ hk => hk.2) (.slice Ao36 t432.length co36)) (fun _ hk => hk.2) (.string t435)) (fun _ hk => hk.2) (.slice Ao40 t436.length co40)) (fun _ hk => hk.2) (.slice Ao41 t439.length co41)) (fun _ h_ => h_.1))) : p := h
theorem Z27 (h : p := by exact jA (blk_below (g := gb413) (o := .cells #[.slice A0_0 l0_0.length c0_0,.string a0_1,.slice A0_2 l0_2.length c0_2,.slice A0_3 l0_3.length c0_3] 26 (0,0)) Z285 hb) (Aside0.mk (below_step Z256 hb))) : p := h
theorem Z28 (h : p := by repeat (first | exact (Kd.C_below HR1_2.out Z244) | (with_reducible refine Kd.C_alloc ?_ _) | (with_reducible refine Kd.C_drewN ?_ _) | (with_reducible refine Kd.C_drew ?_))) : p := h
theorem Z29 (h : p := by repeat (first | exact (Kd.C_below HR0_2.out Z244) | (with_reducible refine Kd.C_alloc ?_ _) | (with_reducible refine Kd.C_drewN ?_ _) | (with_reducible refine Kd.C_drew ?_))) : p := h
theorem Z30 (h : p := by repeat (first | exact (Kd.C_below HR1_3.out Z244) | (with_reducible refine Kd.C_alloc ?_ _) | (with_reducible refine Kd.C_drewN ?_ _) | (with_reducible refine Kd.C_drew ?_))) : p := h
theorem Z31 (h : p := by repeat (first | exact (Kd.C_below HR1_1.out Z245) | (with_reducible refine Kd.C_alloc ?_ _) | (with_reducible refine Kd.C_drewN ?_ _) | (with_reducible refine Kd.C_drew ?_))) : p := h
theorem Z32 (h : p := by repeat (first | exact (Kd.C_below HR0_3.out Z244) | (with_reducible refine Kd.C_alloc ?_ _) | (with_reducible refine Kd.C_drewN ?_ _) | (with_reducible refine Kd.C_drew ?_))) : p := h
theorem Z33 (h : p := by repeat (first | exact (Kd.C_below HR0_1.out Z245) | (with_reducible refine Kd.C_alloc ?_ _) | (with_reducible refine Kd.C_drewN ?_ _) | (with_reducible refine Kd.C_drew ?_))) : p := h
theorem Z34 (h : p := by exact jA (Kd.R_lower hoq3 (below_size Z297)) (Aside0.mk (below_step Z297 hb))) : p := h
theorem Z35 (h : p := by (with_reducible repeat (first | apply Kd.R_alloc | apply Kd.R_drewN | apply Kd.R_drew));exact (Kd.R_mono (Kd.R_far (p := ⟨gb431,1,none⟩) (Kd.R_far (p := ⟨gb431,0,none⟩) (Kd.R_types HO424.out BK431.out Z293) (fun _ hk => hk.2) (.slice Ao29 t425.length co29)) (fun _ hk => hk.2) (.slice Ao32 t428.length co32)) (fun _ h_ => h_.1))) : p := h
theorem Z36 (h : p := by (with_reducible repeat (first | apply Kd.R_alloc | apply Kd.R_drewN | apply Kd.R_drew));exact (Kd.R_mono (Kd.R_far (p := ⟨gb431,1,none⟩) (Kd.R_far (p := ⟨gb431,0,none⟩) (Kd.R_types HO417.out BK431.out Z293) (fun _ hk => hk.2) (.slice Ao29 t425.length co29)) (fun _ hk => hk.2) (.slice Ao32 t428.length co32)) (fun _ h_ => h_.1))) : p := h
theorem Z37 (h : p := by exact jA (Kd.R_lower ho5 (below_size Z297)) (Aside0.mk (below_step Z297 hb))) : p := h
theorem Z38 (h : p := by exact jA (Kd.R_lower ho4 (below_size Z297)) (Aside0.mk (below_step Z297 hb))) : p := h
theorem Z39 (h : p := by exact jA (Kd.R_lower ho0 (below_size Z297)) (Aside0.mk (below_step Z297 hb))) : p := h
theorem Z40 (h : p := by repeat (first | exact Z251 | (with_reducible refine Kd.C_alloc ?_ _) | (with_reducible refine Kd.C_drewN ?_ _) | (with_reducible refine Kd.C_drew ?_))) : p := h
theorem Z41 (h : p := by repeat (first | exact Z252 | (with_reducible refine Kd.C_alloc ?_ _) | (with_reducible refine Kd.C_drewN ?_ _) | (with_reducible refine Kd.C_drew ?_))) : p := h
theorem Z42 (h : p := by repeat (first | exact (Kd.C_below HR0_0.out Z255) | (with_reducible refine Kd.C_alloc ?_ _) | (with_reducible refine Kd.C_drewN ?_ _) | (with_reducible refine Kd.C_drew ?_))) : p := h
theorem Z43 (h : p := by repeat (first | exact (Kd.C_below HR122.out Z255) | (with_reducible refine Kd.C_alloc ?_ _) | (with_reducible refine Kd.C_drewN ?_ _) | (with_reducible refine Kd.C_drew ?_))) : p := h
theorem Z44 (h : p := by repeat (first | exact (Kd.C_below HR0_0.out Z253) | (with_reducible refine Kd.C_alloc ?_ _) | (with_reducible refine Kd.C_drewN ?_ _) | (with_reducible refine Kd.C_drew ?_))) : p := h
theorem Z45 (h : p := by repeat (first | exact (Kd.C_below HR0_2.out Z259) | (with_reducible refine Kd.C_alloc ?_ _) | (with_reducible refine Kd.C_drewN ?_ _) | (with_reducible refine Kd.C_drew ?_))) : p := h
theorem Z46 (h : p := by repeat (first | exact (Kd.C_below HR0_3.out Z253) | (with_reducible refine Kd.C_alloc ?_ _) | (with_reducible refine Kd.C_drewN ?_ _) | (with_reducible refine Kd.C_drew ?_))) : p := h
theorem Z47 (h : p := by repeat (first | exact (Kd.C_below HR0_3.out Z259) | (with_reducible refine Kd.C_alloc ?_ _) | (with_reducible refine Kd.C_drewN ?_ _) | (with_reducible refine Kd.C_drew ?_))) : p := h
theorem Z48 (h : p := by repeat (first | exact (Kd.C_below HR0_2.out Z253) | (with_reducible refine Kd.C_alloc ?_ _) | (with_reducible refine Kd.C_drewN ?_ _) | (with_reducible refine Kd.C_drew ?_))) : p := h
theorem Z49 (h : p := by repeat (first | exact (Kd.C_below HR0_1.out Z260) | (with_reducible refine Kd.C_alloc ?_ _) | (with_reducible refine Kd.C_drewN ?_ _) | (with_reducible refine Kd.C_drew ?_))) : p := h
theorem Z50 (h : p := by (with_reducible repeat (first | apply Sc_alloc | apply Sc_drewN | apply Sc_drew));exact (Sc_mono (Sc_far (p := ⟨gb487,1,none⟩) (Sc_far (p := ⟨gb487,0,none⟩) (Sc_types HO_432001.out BK487.out Z293) (fun _ hk => hk.2) (.slice Aoq21 t481.length coq21)) (fun _ hk => hk.2) (.slice Aoq27 t484.length coq27)) (fun _ h_ => h_.1))) : p := h
theorem Z51 (h : p := by (with_reducible repeat (first | apply Sc_alloc | apply Sc_drewN | apply Sc_drew));exact (Sc_mono (Sc_far (p := ⟨gb487,1,none⟩) (Sc_far (p := ⟨gb487,0,none⟩) (Sc_types HO_432000.out BK487.out Z293) (fun _ hk => hk.2) (.slice Aoq21 t481.length coq21)) (fun _ hk => hk.2) (.slice Aoq27 t484.length coq27)) (fun _ h_ => h_.1))) : p := h
theorem Z52 (h : p := by (with_reducible repeat (first | apply Sc_alloc | apply Sc_drewN | apply Sc_drew));exact (Sc_mono (Sc_far (p := ⟨gb487,1,none⟩) (Sc_far (p := ⟨gb487,0,none⟩) (Sc_types HO486.out BK487.out Z293) (fun _ hk => hk.2) (.slice Aoq21 t481.length coq21)) (fun _ hk => hk.2) (.slice Aoq27 t484.length coq27)) (fun _ h_ => h_.1))) : p := h
theorem Z53 (h : p := by (with_reducible repeat (first | apply Sc_alloc | apply Sc_drewN | apply Sc_drew));exact (Sc_mono (Sc_far (p := ⟨gb487,1,none⟩) (Sc_far (p := ⟨gb487,0,none⟩) (Sc_types HO483.out BK487.out Z293) (fun _ hk => hk.2) (.slice Aoq21 t481.length coq21)) (fun _ hk => hk.2) (.slice Aoq27 t484.length coq27)) (fun _ h_ => h_.1))) : p := h
theorem Z54 (h : p := by (with_reducible repeat (first | apply Sc_alloc | apply Sc_drewN | apply Sc_drew));exact (Sc_mono (Sc_far (p := ⟨gb449,1,none⟩) (Sc_far (p := ⟨gb449,0,none⟩) (Sc_types HO448.out BK449.out Z293) (fun _ hk => hk.2) (.slice Ao44 t443.length co44)) (fun _ hk => hk.2) (.slice Ao49 t446.length co49)) (fun _ h_ => h_.1))) : p := h
theorem Z55 (h : p := by (with_reducible repeat (first | apply Sc_alloc | apply Sc_drewN | apply Sc_drew));exact (Sc_mono (Sc_far (p := ⟨gb449,1,none⟩) (Sc_far (p := ⟨gb449,0,none⟩) (Sc_types HO445.out BK449.out Z293) (fun _ hk => hk.2) (.slice Ao44 t443.length co44)) (fun _ hk => hk.2) (.slice Ao49 t446.length co49)) (fun _ h_ => h_.1))) : p := h
theorem Z56 (h : p := by (with_reducible repeat (first | apply Sc_alloc | apply Sc_drewN | apply Sc_drew));exact (Sc_mono (Sc_far (p := ⟨gb449,1,none⟩) (Sc_far (p := ⟨gb449,0,none⟩) (Sc_types HO430.out BK449.out Z293) (fun _ hk => hk.2) (.slice Ao44 t443.length co44)) (fun _ hk => hk.2) (.slice Ao49 t446.length co49)) (fun _ h_ => h_.1))) : p := h
theorem Z57 (h : p := by (with_reducible repeat (first | apply Sc_alloc | apply Sc_drewN | apply Sc_drew));exact (Sc_mono (Sc_far (p := ⟨gb449,1,none⟩) (Sc_far (p := ⟨gb449,0,none⟩) (Sc_types HO427.out BK449.out Z293) (fun _ hk => hk.2) (.slice Ao44 t443.length co44)) (fun _ hk => hk.2) (.slice Ao49 t446.length co49)) (fun _ h_ => h_.1))) : p := h
theorem Z58 (h : p := by (with_reducible repeat (first | apply Sc_alloc | apply Sc_drewN | apply Sc_drew));exact (Sc_mono (Sc_far (p := ⟨gb431,1,none⟩) (Sc_far (p := ⟨gb431,0,none⟩) (Sc_types HO430.out BK431.out Z293) (fun _ hk => hk.2) (.slice Ao29 t425.length co29)) (fun _ hk => hk.2) (.slice Ao32 t428.length co32)) (fun _ h_ => h_.1))) : p := h
theorem Z59 (h : p := by (with_reducible repeat (first | apply Sc_alloc | apply Sc_drewN | apply Sc_drew));exact (Sc_mono (Sc_far (p := ⟨gb431,1,none⟩) (Sc_far (p := ⟨gb431,0,none⟩) (Sc_types HO427.out BK431.out Z293) (fun _ hk => hk.2) (.slice Ao29 t425.length co29)) (fun _ hk => hk.2) (.slice Ao32 t428.length co32)) (fun _ h_ => h_.1))) : p := h
theorem Z60 (h : p := by (with_reducible repeat (first | apply Sc_alloc | apply Sc_drewN | apply Sc_drew));exact (Sc_mono (Sc_far (p := ⟨gb431,1,none⟩) (Sc_far (p := ⟨gb431,0,none⟩) (Sc_types HO421.out BK431.out Z293) (fun _ hk => hk.2) (.slice Ao29 t425.length co29)) (fun _ hk => hk.2) (.slice Ao32 t428.length co32)) (fun _ h_ => h_.1))) : p := h
theorem Z61 (h : p := by exact (fun k_ hk => ⟨Kd.fresh' (Kd.R_lt Z273) k_ hk,Kd.fresh' (Kd.R_lt Z269) k_ hk⟩)) : p := h
theorem Z62 (h : p := by exact (fun k_ hk => ⟨Kd.fresh' (Kd.R_lt Z273) k_ hk,Kd.fresh' (Kd.R_lt Z270) k_ hk⟩)) : p := h
theorem Z63 (h : p := by repeat (first | (with_reducible first | exact HB.out | apply below_alloc | apply pw_below_drewN | apply below_drew1 | refine below_set ?_ GE413.out | refine below_set ?_ GE431.out | refine below_set ?_ GE442.out | refine below_set ?_ GE449.out | refine below_set ?_ GE487.out) | exact HB.out)) : p := h
theorem Z64 (h : p := by rw [hg];exact (below_size Z239)) : p := h
theorem Z65 (h : p := by (try simp only [List.map_toArray,List.map_cons,List.map_nil]);first | done | (rw [show t468.length = t443.length from (Sc_reads' HO_450000.out).1.symm,show t469.length = t446.length from (Sc_reads' HO_450001.out).1.symm] <;> rfl) | rfl | (simp only [List.length_drop,List.length_take];rfl)) : p := h
theorem Z66 (h : p := by (with_reducible repeat (first | apply Zn_alloc | apply Zn_drewN | apply Zn_drew));exact Zn_mono HO_354001.out (fun _ hk => ⟨⟨hk.1.1.1,⟨hk.1.1.2.2.2.1,⟨hk.1.2,⟨hk.2,⟨hk.1.1.2.2.2.2.2.1,⟨hk.1.1.2.2.2.2.2.2.1,hk.1.1.2.2.2.2.2.2.2⟩⟩⟩⟩⟩⟩,hk.1.1.2.2.2.2.1⟩)) : p := h
theorem Z67 (h : p := by exact jA (blk_grown (g := gb316) (o := .cells #[.slice A0_0 l0_0.length c0_0,.string a0_1,.slice (some ad321) l0_2.length c0_2,.slice A0_3 l0_3.length c0_3] 31 (0,0)) Z289 hg (Kd.R_ne HO_5.out BK316.out Z293)) (jA (hb) (Aside0.mk (ho)))) : p := h
theorem Z68 (h : p := by exact jA (blk_grown (g := gb131) (o := .cells #[.slice A0_0 l0_0.length c0_0,.string a0_1,.slice (some ad136) l0_2.length c0_2,.slice A0_3 l0_3.length c0_3] 31 (0,0)) Z288 hg (Kd.R_ne HO_5.out BK131.out Z293)) (jA (hb) (Aside0.mk (ho)))) : p := h
theorem Z69 (h : p := by rw [hg];exact (below_size Z242)) : p := h
theorem Z70 (h : p := by exact Kd.C_below HR0_3.out Z240) : p := h
theorem Z71 (h : p := by exact Kd.C_below HR0_3.out Z241) : p := h
theorem Z72 (h : p := by exact Kd.C_below HR0_2.out Z240) : p := h
theorem Z73 (h : p := by exact Kd.C_below HR0_2.out Z241) : p := h
theorem Z74 (h : p := by exact Kd.C_below HR0_0.out Z240) : p := h
theorem Z75 (h : p := by exact Kd.C_below HR0_0.out Z241) : p := h
theorem Z76 (h : p := by (with_reducible repeat (first | apply Zn_alloc | apply Zn_drewN | apply Zn_drew));exact Zn_mono HO381.out (fun _ hk => ⟨hk.1.1,⟨hk.1.2.2.2.1,⟨hk.2,⟨hk.1.2.1,⟨hk.1.2.2.1,⟨hk.1.2.2.2.2.1,⟨hk.1.2.2.2.2.2.1,hk.1.2.2.2.2.2.2⟩⟩⟩⟩⟩⟩⟩)) : p := h
theorem Z77 (h : p := by (with_reducible repeat (first | apply Zn_alloc | apply Zn_drewN | apply Zn_drew));exact Zn_mono HO375.out (fun _ hk => ⟨hk.1.1,⟨hk.2,⟨hk.1.2.2.2.1,⟨hk.1.2.1,⟨hk.1.2.2.1,⟨hk.1.2.2.2.2.1,⟨hk.1.2.2.2.2.2.1,hk.1.2.2.2.2.2.2⟩⟩⟩⟩⟩⟩⟩)) : p := h
theorem Z78 (h : p := by exact (below_size Z240)) : p := h
theorem Z79 (h : p := by exact (below_size Z241)) : p := h
theorem Z80 (h : p := by exact Z240) : p := h
theorem Z81 (h : p := by exact Z241) : p := h
theorem Z82 (h : p := by (with_reducible repeat (first | apply Zn_alloc | apply Zn_drewN | apply Zn_drew));exact Zn_mono HO378.out (fun _ hk => ⟨hk.1,⟨hk.2.2.2.1,⟨hk.2.1,⟨hk.2.2.1,⟨hk.2.2.2.2.1,⟨hk.2.2.2.2.2.1,hk.2.2.2.2.2.2⟩⟩⟩⟩⟩⟩)) : p := h
theorem Z83 (h : p := by repeat (first | (with_reducible first | exact HB.out | apply below_alloc | apply pw_below_drewN | apply below_drew1 | refine below_set ?_ GE278.out | refine below_set ?_ GE279.out | refine below_set ?_ GE280.out) | exact HB.out)) : p := h
theorem Z84 (h : p := by exact jA (Kd.R_after (ok := (fun _ => True)) (by (with_reducible repeat (first | apply Kd.R_alloc | apply Kd.R_drewN | apply Kd.R_drew));exact Kd.R_mono HO_6.out (fun _ hk => ⟨trivial,hk⟩)) hg hat) (jA (hb) (Aside0.mk (ho)))) : p := h
theorem Z85 (h : p := by exact jA (Kd.R_after (ok := (fun _ => True)) (by (with_reducible repeat (first | apply Kd.R_alloc | apply Kd.R_drewN | apply Kd.R_drew));exact Kd.R_mono HO_4.out (fun _ hk => ⟨trivial,hk⟩)) hg hat) (jA (hb) (Aside0.mk (ho)))) : p := h
theorem Z86 (h : p := by rw [hg];exact (below_size Z243)) : p := h
theorem Z87 (h : p := by rw [hg];exact (below_size Z246)) : p := h
theorem Z88 (h : p := by rw [hg];exact (below_size Z247)) : p := h
theorem Z89 (h : p := by rw [hg];exact (below_size Z248)) : p := h
theorem Z90 (h : p := by rw [hg];exact Nat.ne_of_lt (blk_lt (g := gb413) (o := .cells #[.slice A0_0 l0_0.length c0_0,.string a0_1,.slice A0_2 l0_2.length c0_2,.slice A0_3 l0_3.length c0_3] 26 (0,0)) Z285)) : p := h
theorem Z91 (h : p := by rw [hg];exact Nat.ne_of_gt (blk_lt (g := gb413) (o := .cells #[.slice A0_0 l0_0.length c0_0,.string a0_1,.slice A0_2 l0_2.length c0_2,.slice A0_3 l0_3.length c0_3] 26 (0,0)) Z285)) : p := h
theorem Z92 (h : p := by rw [hg];exact Nat.ne_of_lt (blk_lt (g := gb351) (o := .cells #[.slice A0_0 l0_0.length c0_0,.string a0_1,.slice A0_2 l0_2.length c0_2,.slice A0_3 l0_3.length c0_3] 31 (0,0)) Z282)) : p := h
theorem Z93 (h : p := by rw [hg];exact Nat.ne_of_lt (blk_lt (g := gb278) (o := .cells #[.slice A0_0 l0_0.length c0_0,.string a0_1,.slice A0_2 l0_2.length c0_2,.slice A0_3 l0_3.length c0_3] 26 (0,0)) Z290)) : p := h
theorem Z94 (h : p := by rw [hg];exact Nat.ne_of_lt (blk_lt (g := gb235) (o := .cells #[.slice A0_0 l0_0.length c0_0,.string a0_1,.slice A0_2 l0_2.length c0_2,.slice A0_3 l0_3.length c0_3] 31 (0,0)) Z287)) : p := h
theorem Z95 (h : p := by rw [hg];exact Nat.ne_of_gt (blk_lt (g := gb351) (o := .cells #[.slice A0_0 l0_0.length c0_0,.string a0_1,.slice A0_2 l0_2.length c0_2,.slice A0_3 l0_3.length c0_3] 31 (0,0)) Z282)) : p := h
theorem Z96 (h : p := by rw [hg];exact Nat.ne_of_gt (blk_lt (g := gb278) (o := .cells #[.slice A0_0 l0_0.length c0_0,.string a0_1,.slice A0_2 l0_2.length c0_2,.slice A0_3 l0_3.length c0_3] 26 (0,0)) Z290)) : p := h
theorem Z97 (h : p := by rw [hg];exact Nat.ne_of_gt (blk_lt (g := gb235) (o := .cells #[.slice A0_0 l0_0.length c0_0,.string a0_1,.slice A0_2 l0_2.length c0_2,.slice A0_3 l0_3.length c0_3] 31 (0,0)) Z287)) : p := h
theorem Z98 (h : p := by rw [hg];exact (below_size Z256)) : p := h
theorem Z99 (h : p := by rw [hg];exact (below_size Z261)) : p := h
theorem Z100 (h : p := by rw [hg];exact (below_size Z262)) : p := h
theorem Z101 (h : p := by rw [hg];exact (below_size Z263)) : p := h
theorem Z102 (h : p := by exact (below_size Z253)) : p := h
theorem Z103 (h : p := by exact (below_size Z257)) : p := h
theorem Z104 (h : p := by exact (below_size Z258)) : p := h
theorem Z105 (h : p := by repeat (first | exact (Kd.C_below HR0_0.out HB.out) | (with_reducible refine Kd.C_alloc ?_ _) | (with_reducible refine Kd.C_drewN ?_ _) | (with_reducible refine Kd.C_drew ?_))) : p := h
theorem Z106 (h : p := by repeat (first | exact (Kd.C_below HR1_0.out HB.out) | (with_reducible refine Kd.C_alloc ?_ _) | (with_reducible refine Kd.C_drewN ?_ _) | (with_reducible refine Kd.C_drew ?_))) : p := h
theorem Z107 (h : p := by repeat (first | exact (Kd.C_below HR0_3.out HB.out) | (with_reducible refine Kd.C_alloc ?_ _) | (with_reducible refine Kd.C_drewN ?_ _) | (with_reducible refine Kd.C_drew ?_))) : p := h
theorem Z108 (h : p := by repeat (first | exact (Kd.C_below HR0_2.out HB.out) | (with_reducible refine Kd.C_alloc ?_ _) | (with_reducible refine Kd.C_drewN ?_ _) | (with_reducible refine Kd.C_drew ?_))) : p := h
theorem Z109 (h : p := by exact Z253) : p := h
theorem Z110 (h : p := by repeat (first | exact (Sc_reads' HO_450001.out).2.2 | (with_reducible refine Kd.C_alloc ?_ _) | (with_reducible refine Kd.C_drewN ?_ _) | (with_reducible refine Kd.C_drew ?_))) : p := h
theorem Z111 (h : p := by repeat (first | exact (Sc_reads' HO_450000.out).2.2 | (with_reducible refine Kd.C_alloc ?_ _) | (with_reducible refine Kd.C_drewN ?_ _) | (with_reducible refine Kd.C_drew ?_))) : p := h
theorem Z112 (h : p := by exact Z257) : p := h
theorem Z113 (h : p := by exact Z258) : p := h
theorem Z114 (h : p := by repeat (first | exact (Kd.C_below HR0.out HB.out) | (with_reducible refine Kd.C_alloc ?_ _) | (with_reducible refine Kd.C_drewN ?_ _) | (with_reducible refine Kd.C_drew ?_))) : p := h
theorem Z115 (h : p := by repeat (first | exact (Kd.R_reads' HO311.out).2.2 | (with_reducible refine Kd.C_alloc ?_ _) | (with_reducible refine Kd.C_drewN ?_ _) | (with_reducible refine Kd.C_drew ?_))) : p := h
theorem Z116 (h : p := by repeat (first | exact (Kd.R_reads' HO308.out).2.2 | (with_reducible refine Kd.C_alloc ?_ _) | (with_reducible refine Kd.C_drewN ?_ _) | (with_reducible refine Kd.C_drew ?_))) : p := h
theorem Z117 (h : p := by repeat (first | exact (Kd.R_reads' HO_7.out).2.2 | (with_reducible refine Kd.C_alloc ?_ _) | (with_reducible refine Kd.C_drewN ?_ _) | (with_reducible refine Kd.C_drew ?_))) : p := h
theorem Z118 (h : p := by rw [hg];exact Nat.ne_of_lt (blk_lt (g := gb431) (o := .cells #[.slice Ao29 t425.length co29,.slice Ao32 t428.length co32] 29 (0,0)) Z286)) : p := h
theorem Z119 (h : p := by rw [hg];exact Nat.ne_of_gt (blk_lt (g := gb431) (o := .cells #[.slice Ao29 t425.length co29,.slice Ao32 t428.length co32] 29 (0,0)) Z286)) : p := h
theorem Z120 (h : p := by repeat (first | exact HR388_0.out | (with_reducible refine Kd.C_alloc ?_ _) | (with_reducible refine Kd.C_drewN ?_ _) | (with_reducible refine Kd.C_drew ?_))) : p := h
theorem Z121 (h : p := by repeat (first | exact HR387_0.out | (with_reducible refine Kd.C_alloc ?_ _) | (with_reducible refine Kd.C_drewN ?_ _) | (with_reducible refine Kd.C_drew ?_))) : p := h
theorem Z122 (h : p := by repeat (first | exact HR408_0.out | (with_reducible refine Kd.C_alloc ?_ _) | (with_reducible refine Kd.C_drewN ?_ _) | (with_reducible refine Kd.C_drew ?_))) : p := h
theorem Z123 (h : p := by repeat (first | exact HR104_0.out | (with_reducible refine Kd.C_alloc ?_ _) | (with_reducible refine Kd.C_drewN ?_ _) | (with_reducible refine Kd.C_drew ?_))) : p := h
theorem Z124 (h : p := by exact (below_size Z297)) : p := h
theorem Z125 (h : p := by exact (by (with_reducible repeat (first | apply Kd.R_alloc | apply Kd.R_drewN | apply Kd.R_drew));exact Kd.R_mono HO176.out (fun _ hk => ⟨hk.1.2,hk.2⟩))) : p := h
theorem Z126 (h : p := by exact (by (with_reducible repeat (first | apply Kd.R_alloc | apply Kd.R_drewN | apply Kd.R_drew));exact Kd.R_mono HO152.out (fun _ hk => ⟨hk.1.2,hk.2⟩))) : p := h
theorem Z127 (h : p := by exact (fun k_ hk => Kd.fresh' (Kd.R_lt Z267) k_ hk)) : p := h
theorem Z128 (h : p := by repeat (first | exact HR295.out | (with_reducible refine Kd.C_alloc ?_ _) | (with_reducible refine Kd.C_drewN ?_ _) | (with_reducible refine Kd.C_drew ?_))) : p := h
theorem Z129 (h : p := by exact (fun k_ hk => Kd.fresh' (Kd.R_lt Z276) k_ hk)) : p := h
theorem Z130 (h : p := by exact (fun k_ hk => Kd.fresh' (Kd.R_lt Z277) k_ hk)) : p := h
theorem Z131 (h : p := by exact (fun k_ hk => Kd.fresh' (Kd.R_lt Z273) k_ hk)) : p := h
theorem Z132 (h : p := by repeat (first | exact HR0.out | (with_reducible refine Kd.C_alloc ?_ _) | (with_reducible refine Kd.C_drewN ?_ _) | (with_reducible refine Kd.C_drew ?_))) : p := h
theorem Z133 (h : p := by (with_reducible repeat (first | apply Kd.R_alloc | apply Kd.R_drewN | apply Kd.R_drew));exact Kd.R_mono HO187.out (fun _ hk => ⟨hk.1.2,hk.2⟩)) : p := h
theorem Z134 (h : p := by (with_reducible repeat (first | apply Kd.R_alloc | apply Kd.R_drewN | apply Kd.R_drew));exact Kd.R_mono HO163.out (fun _ hk => ⟨hk.1.2,hk.2⟩)) : p := h
theorem Z135 (h : p := by (with_reducible repeat (first | apply Kd.R_alloc | apply Kd.R_drewN | apply Kd.R_drew));exact Kd.R_mono HO_3.out (fun _ hk => ⟨hk.1.2,hk.2⟩)) : p := h
theorem Z136 (h : p := by (with_reducible repeat (first | apply Kd.R_alloc | apply Kd.R_drewN | apply Kd.R_drew));exact Kd.R_mono HO308.out (fun _ hk => ⟨trivial,hk⟩)) : p := h
theorem Z137 (h : p := by (with_reducible repeat (first | apply Kd.R_alloc | apply Kd.R_drewN | apply Kd.R_drew));exact Kd.R_mono HO_3.out (fun _ hk => ⟨hk.2,hk.1.2⟩)) : p := h
theorem Z138 (h : p := by exact Z297) : p := h
theorem Z139 (h : p := by (with_reducible repeat (first | apply Kd.R_alloc | apply Kd.R_drewN | apply Kd.R_drew));exact Kd.R_mono HO183.out (fun _ hk => ⟨hk.2,hk.1⟩)) : p := h
theorem Z140 (h : p := by (with_reducible repeat (first | apply Kd.R_alloc | apply Kd.R_drewN | apply Kd.R_drew));exact Kd.R_mono HO159.out (fun _ hk => ⟨hk.2,hk.1⟩)) : p := h
theorem Z141 (h : p := by (with_reducible repeat (first | apply Kd.R_alloc | apply Kd.R_drewN | apply Kd.R_drew));exact Kd.R_mono HO187.out (fun _ hk => ⟨hk.2,hk.1⟩)) : p := h
theorem Z142 (h : p := by (with_reducible repeat (first | apply Kd.R_alloc | apply Kd.R_drewN | apply Kd.R_drew));exact Kd.R_mono HO163.out (fun _ hk => ⟨hk.2,hk.1⟩)) : p := h
theorem Z143 (h : p := by (with_reducible repeat (first | apply Kd.R_alloc | apply Kd.R_drewN | apply Kd.R_drew));exact Kd.R_mono HO_3.out (fun _ hk => ⟨hk.2,hk.1⟩)) : p := h
theorem Z144 (h : p := by first | exact Kd.S_nil _ _ _ _ _ | exact Zn_nil _ _ _ _ _ _ _ | exact Kd.V_nil _ _ _ _ _ | exact Kd.Q_nil _ _ _ _ _ | exact Kd.R_nil _ _ _ _ _) : p := h
theorem Z145 (h : p := by first | exact Kd.S_nil _ _ _ _ _ | exact Kd.N_nil _ _ _ _ _ | exact Kd.V_nil _ _ _ _ _ | exact Kd.Q_nil _ _ _ _ _ | exact Kd.R_nil _ _ _ _ _) : p := h
theorem Z146 (h : p := by (try simp only [List.map_toArray,List.map_cons,List.map_nil]);first | done | rfl | (simp only [List.length_drop,List.length_take];rfl)) : p := h
theorem Z147 (h : p := by (with_reducible repeat (first | apply Kd.R_alloc | apply Kd.R_drewN | apply Kd.R_drew));exact Kd.R_mono HO308.out (fun _ hk => hk.2)) : p := h
theorem Z148 (h : p := by (with_reducible repeat (first | apply Kd.R_alloc | apply Kd.R_drewN | apply Kd.R_drew));exact Kd.R_mono HO305.out (fun _ hk => hk.2)) : p := h
theorem Z149 (h : p := by (with_reducible repeat (first | apply Kd.R_alloc | apply Kd.R_drewN | apply Kd.R_drew));exact Kd.R_mono HO_35.out (fun _ hk => hk.1)) : p := h
theorem Z150 (h : p := by (with_reducible repeat (first | apply Kd.R_alloc | apply Kd.R_drewN | apply Kd.R_drew));exact Kd.R_mono HO_6.out (fun _ hk => hk.2)) : p := h
theorem Z151 (h : p := by (with_reducible repeat (first | apply Kd.R_alloc | apply Kd.R_drewN | apply Kd.R_drew));exact Kd.R_mono HO_4.out (fun _ hk => hk.2)) : p := h
theorem Z152 (h : p := by repeat (first | (with_reducible first | exact HK.out | apply Kept.alloc | apply Kept.drewN | apply Kept.drew) | exact HK.out)) : p := h
theorem Z153 (h : p := by exact Z268) : p := h
theorem Z154 (h : p := by exact Z275) : p := h
theorem Z155 (h : p := by exact Z273) : p := h
theorem Z156 (h : p := by exact Z274) : p := h
theorem Z157 (h : p := by exact (Reps.one (show Kd.M (Kd.int .i64) _ _ _ (rd l0 x4_1) [.int .i64 (rd l0 x4_1)] from rfl) (Reps.none _ _))) : p := h
theorem Z158 (h : p := by rw [show t469.length = t446.length from (Sc_reads' HO_450001.out).1.symm];exact (Sc_reads' HO_450001.out).2.1) : p := h
theorem Z159 (h : p := by rw [show t468.length = t443.length from (Sc_reads' HO_450000.out).1.symm];exact (Sc_reads' HO_450000.out).2.1) : p := h
theorem Z160 (h : p := by (with_reducible repeat (first | apply Kd.R_alloc | apply Kd.R_drewN | apply Kd.R_drew));exact HO_443003.out) : p := h
theorem Z161 (h : p := by (with_reducible repeat (first | apply Kd.R_alloc | apply Kd.R_drewN | apply Kd.R_drew));exact HO_443000.out) : p := h
theorem Z162 (h : p := by (with_reducible repeat (first | apply Kd.S_alloc | apply Kd.S_drewN | apply Kd.S_drew));exact HO_238001.out) : p := h
theorem Z163 (h : p := by (with_reducible repeat (first | apply Kd.S_alloc | apply Kd.S_drewN | apply Kd.S_drew));exact HO_238000.out) : p := h
theorem Z164 (h : p := by (with_reducible repeat (first | apply Kd.R_alloc | apply Kd.R_drewN | apply Kd.R_drew));exact HO424.out) : p := h
theorem Z165 (h : p := by (with_reducible repeat (first | apply Kd.R_alloc | apply Kd.R_drewN | apply Kd.R_drew));exact HO417.out) : p := h
theorem Z166 (h : p := by (with_reducible repeat (first | apply Kd.R_alloc | apply Kd.R_drewN | apply Kd.R_drew));exact HO441.out) : p := h
theorem Z167 (h : p := by (with_reducible repeat (first | apply Kd.R_alloc | apply Kd.R_drewN | apply Kd.R_drew));exact HO434.out) : p := h
theorem Z168 (h : p := by (with_reducible repeat (first | apply Kd.R_alloc | apply Kd.R_drewN | apply Kd.R_drew));exact HO480.out) : p := h
theorem Z169 (h : p := by (with_reducible repeat (first | apply Kd.R_alloc | apply Kd.R_drewN | apply Kd.R_drew));exact HO358.out) : p := h
theorem Z170 (h : p := by (with_reducible repeat (first | apply Kd.R_alloc | apply Kd.R_drewN | apply Kd.R_drew));exact HO242.out) : p := h
theorem Z171 (h : p := by (with_reducible repeat (first | apply Kd.R_alloc | apply Kd.R_drewN | apply Kd.R_drew));exact HO473.out) : p := h
theorem Z172 (h : p := by (with_reducible repeat (first | apply Kd.R_alloc | apply Kd.R_drewN | apply Kd.R_drew));exact HO460.out) : p := h
theorem Z173 (h : p := by (with_reducible repeat (first | apply Kd.R_alloc | apply Kd.R_drewN | apply Kd.R_drew));exact HO453.out) : p := h
theorem Z174 (h : p := by (with_reducible repeat (first | apply Kd.R_alloc | apply Kd.R_drewN | apply Kd.R_drew));exact HO361.out) : p := h
theorem Z175 (h : p := by (with_reducible repeat (first | apply Kd.R_alloc | apply Kd.R_drewN | apply Kd.R_drew));exact HO245.out) : p := h
theorem Z176 (h : p := by (with_reducible repeat (first | apply Kd.R_alloc | apply Kd.R_drewN | apply Kd.R_drew));exact HO183.out) : p := h
theorem Z177 (h : p := by (with_reducible repeat (first | apply Kd.R_alloc | apply Kd.R_drewN | apply Kd.R_drew));exact HO176.out) : p := h
theorem Z178 (h : p := by (with_reducible repeat (first | apply Kd.R_alloc | apply Kd.R_drewN | apply Kd.R_drew));exact HO159.out) : p := h
theorem Z179 (h : p := by (with_reducible repeat (first | apply Kd.R_alloc | apply Kd.R_drewN | apply Kd.R_drew));exact HO152.out) : p := h
theorem Z180 (h : p := by (with_reducible repeat (first | apply Kd.R_alloc | apply Kd.R_drewN | apply Kd.R_drew));exact HO335.out) : p := h
theorem Z181 (h : p := by (with_reducible repeat (first | apply Kd.R_alloc | apply Kd.R_drewN | apply Kd.R_drew));exact HO319.out) : p := h
theorem Z182 (h : p := by (with_reducible repeat (first | apply Kd.R_alloc | apply Kd.R_drewN | apply Kd.R_drew));exact HO_8.out) : p := h
theorem Z183 (h : p := by (with_reducible repeat (first | apply Kd.R_alloc | apply Kd.R_drewN | apply Kd.R_drew));exact HO_9.out) : p := h
theorem Z184 (h : p := by (with_reducible repeat (first | apply Kd.R_alloc | apply Kd.R_drewN | apply Kd.R_drew));exact HO_0.out) : p := h
theorem Z185 (h : p := by (with_reducible repeat (first | apply Kd.S_alloc | apply Kd.S_drewN | apply Kd.S_drew));exact HO_3.out) : p := h
theorem Z186 (h : p := by (with_reducible repeat (first | apply Kd.S_alloc | apply Kd.S_drewN | apply Kd.S_drew));exact HO_0.out) : p := h
theorem Z187 (h : p := by (with_reducible repeat (first | apply Zn_alloc | apply Zn_drewN | apply Zn_drew));exact HO_354000.out) : p := h
theorem Z188 (h : p := by (with_reducible repeat (first | apply Sc_alloc | apply Sc_drewN | apply Sc_drew));exact HO_450001.out) : p := h
theorem Z189 (h : p := by (with_reducible repeat (first | apply Sc_alloc | apply Sc_drewN | apply Sc_drew));exact HO_450000.out) : p := h
theorem Z190 (h : p := by (with_reducible repeat (first | apply Sc_alloc | apply Sc_drewN | apply Sc_drew));exact HO_443002.out) : p := h
theorem Z191 (h : p := by (with_reducible repeat (first | apply Sc_alloc | apply Sc_drewN | apply Sc_drew));exact HO_432001.out) : p := h
theorem Z192 (h : p := by (with_reducible repeat (first | apply Sc_alloc | apply Sc_drewN | apply Sc_drew));exact HO_432000.out) : p := h
theorem Z193 (h : p := by (with_reducible repeat (first | apply Kd.R_alloc | apply Kd.R_drewN | apply Kd.R_drew));exact HO0.out) : p := h
theorem Z194 (h : p := by exact jA (hp_) (Aside0.mk ((by rw [hw];exact below_set (HB.out) GB9.out : Below w.heap.size w w11)))) : p := h
theorem Z195 (h : p := by (with_reducible repeat (first | apply Sc_alloc | apply Sc_drewN | apply Sc_drew));exact HO421.out) : p := h
theorem Z196 (h : p := by (with_reducible repeat (first | apply Sc_alloc | apply Sc_drewN | apply Sc_drew));exact HO430.out) : p := h
theorem Z197 (h : p := by (with_reducible repeat (first | apply Sc_alloc | apply Sc_drewN | apply Sc_drew));exact HO427.out) : p := h
theorem Z198 (h : p := by (with_reducible repeat (first | apply Sc_alloc | apply Sc_drewN | apply Sc_drew));exact HO438.out) : p := h
theorem Z199 (h : p := by (with_reducible repeat (first | apply Zn_alloc | apply Zn_drewN | apply Zn_drew));exact HO375.out) : p := h
theorem Z200 (h : p := by (with_reducible repeat (first | apply Sc_alloc | apply Sc_drewN | apply Sc_drew));exact HO477.out) : p := h
theorem Z201 (h : p := by (with_reducible repeat (first | apply Sc_alloc | apply Sc_drewN | apply Sc_drew));exact HO448.out) : p := h
theorem Z202 (h : p := by (with_reducible repeat (first | apply Sc_alloc | apply Sc_drewN | apply Sc_drew));exact HO445.out) : p := h
theorem Z203 (h : p := by (with_reducible repeat (first | apply Zn_alloc | apply Zn_drewN | apply Zn_drew));exact HO378.out) : p := h
theorem Z204 (h : p := by (with_reducible repeat (first | apply Sc_alloc | apply Sc_drewN | apply Sc_drew));exact HO486.out) : p := h
theorem Z205 (h : p := by (with_reducible repeat (first | apply Sc_alloc | apply Sc_drewN | apply Sc_drew));exact HO483.out) : p := h
theorem Z206 (h : p := by (with_reducible repeat (first | apply Sc_alloc | apply Sc_drewN | apply Sc_drew));exact HO457.out) : p := h
theorem Z207 (h : p := by first | rfl | (simp [errW_none,errW_some] <;> rfl) | (simp [*,errW_none,errW_some] <;> rfl)) : p := h
theorem Z208 (h : p := by simp only [putAll,Act.put,List.setIfInBounds_toArray,List.set_cons_zero,List.set_cons_succ]) : p := h
theorem Z209 (h : p := by exact (Reps.one (show Kd.M Kd.string _ _ _ a0_1 [.string a0_1] from rfl) (Reps.none _ _))) : p := h
theorem Z210 (h : p := by have := HJ1.out;have := HK2.out;have := HK3.out;have := HJ32.out;have := HK5.out;omega) : p := h
theorem Z211 (h : p := by have := HJ1.out;have := HK2.out;have := HK3.out;first | omega | exact Nat.le_refl _) : p := h
theorem Z212 (h : p := by refine bP ?_;refine blk_far ?_ NB236_237.out _;refine bP ?_;exact BK236.out) : p := h
theorem Z213 (h : p := by refine bP ?_;refine blk_far ?_ NB235_237.out _;refine bP ?_;exact BK235.out) : p := h
theorem Z214 (h : p := by repeat (first | exact Drawn0.refl _ | apply Drawn0.step)) : p := h
theorem Z215 (h : p := by have := HJ2.out;have := HK2.out;have := HK3.out;omega) : p := h
theorem Z216 (h : p := by have := HK1.out;first | omega | exact Nat.le_refl _) : p := h
theorem Z217 (h : p := by first | (with_reducible assumption) | assumption) : p := h
theorem Z218 (h : p := by first | rfl | (simp;done) | (simp [*];done)) : p := h
theorem Z219 (h : p := by first | (go_simp;done) | (go_simp;rfl)) : p := h
theorem Z220 (h : p := by have := HJ2.out;have := HK2.out;omega) : p := h
theorem Z221 (h : p := by have := HK1.out;have := HK2.out;omega) : p := h
theorem Z222 (h : p := by have := HJ1.out;have := HK2.out;omega) : p := h
theorem Z223 (h : p := by first | omega | exact Nat.le_refl _) : p := h
theorem Z224 (h : p := by exact (Kd.R_reads' HO311.out).2.1) : p := h
theorem Z225 (h : p := by refine bP ?_;exact BK442.out) : p := h
theorem Z226 (h : p := by refine bP ?_;exact BK236.out) : p := h
theorem Z227 (h : p := by refine bP ?_;exact BK449.out) : p := h
theorem Z228 (h : p := by refine bP ?_;exact BK115.out) : p := h
theorem Z229 (h : p := by refine bP ?_;exact BK237.out) : p := h
theorem Z230 (h : p := by refine bP ?_;exact BK279.out) : p := h
theorem Z231 (h : p := by have := HK1.out;omega) : p := h
theorem Z232 (h : p := by exact (Reps.none _ _)) : p := h
theorem Z233 (h : p := by exact HC0_0.out) : p := h
theorem Z234 (h : p := by exact HC0_2.out) : p := h
theorem Z235 (h : p := by exact HC0_3.out) : p := h
theorem Z236 (h : p := by kernel_rfl) : p := h
theorem Z237 (h : p := by omega) : p := h
theorem Z238 (h : p := by rfl) : p := h
theorem Z239 (h : p := by repeat (first | (with_reducible first | exact HB.out | apply below_alloc | apply pw_below_drewN | apply below_drew1 | refine below_set ?_ GE413.out | refine below_set ?_ GE431.out | refine below_set ?_ GE442.out | refine below_set ?_ GE449.out) | exact HB.out)) : p := h
theorem Z240 (h : p := by repeat (first | (with_reducible first | exact HB.out | apply below_alloc | apply pw_below_drewN | apply below_drew1 | refine below_set ?_ GE351.out | refine below_set ?_ GE352.out | refine below_set ?_ GE353.out) | exact HB.out)) : p := h
theorem Z241 (h : p := by repeat (first | (with_reducible first | exact HB.out | apply below_alloc | apply pw_below_drewN | apply below_drew1 | refine below_set ?_ GE235.out | refine below_set ?_ GE236.out | refine below_set ?_ GE237.out) | exact HB.out)) : p := h
theorem Z242 (h : p := by repeat (first | (with_reducible first | exact HB.out | apply below_alloc | apply pw_below_drewN | apply below_drew1 | refine below_set ?_ GE413.out | refine below_set ?_ GE431.out | refine below_set ?_ GE442.out) | exact HB.out)) : p := h
theorem Z243 (h : p := by repeat (first | (with_reducible first | exact HB.out | apply below_alloc | apply pw_below_drewN | apply below_drew1 | refine below_set ?_ GE413.out | refine below_set ?_ GE431.out) | exact HB.out)) : p := h
theorem Z244 (h : p := by repeat (first | (with_reducible first | exact HB.out | apply below_alloc | apply pw_below_drewN | apply below_drew1 | refine below_set ?_ GE396.out | refine below_set ?_ GE397.out) | exact HB.out)) : p := h
theorem Z245 (h : p := by repeat (first | (with_reducible first | exact HB.out | apply below_alloc | apply pw_below_drewN | apply below_drew1 | refine below_set ?_ GE390.out | refine below_set ?_ GE391.out) | exact HB.out)) : p := h
theorem Z246 (h : p := by repeat (first | (with_reducible first | exact HB.out | apply below_alloc | apply pw_below_drewN | apply below_drew1 | refine below_set ?_ GE351.out | refine below_set ?_ GE352.out) | exact HB.out)) : p := h
theorem Z247 (h : p := by repeat (first | (with_reducible first | exact HB.out | apply below_alloc | apply pw_below_drewN | apply below_drew1 | refine below_set ?_ GE278.out | refine below_set ?_ GE279.out) | exact HB.out)) : p := h
theorem Z248 (h : p := by repeat (first | (with_reducible first | exact HB.out | apply below_alloc | apply pw_below_drewN | apply below_drew1 | refine below_set ?_ GE235.out | refine below_set ?_ GE236.out) | exact HB.out)) : p := h
theorem Z249 (h : p := by rw [hg];exact (below_size Z295)) : p := h
theorem Z250 (h : p := by rw [hg];exact (below_size Z296)) : p := h
theorem Z251 (h : p := by repeat (first | (with_reducible exact HR180.out) | (with_reducible refine Kd.C_alloc ?_ _) | (with_reducible refine Kd.C_drewN ?_ _) | (with_reducible refine Kd.C_drew ?_) | exact HR180.out)) : p := h
theorem Z252 (h : p := by repeat (first | (with_reducible exact HR156.out) | (with_reducible refine Kd.C_alloc ?_ _) | (with_reducible refine Kd.C_drewN ?_ _) | (with_reducible refine Kd.C_drew ?_) | exact HR156.out)) : p := h
theorem Z253 (h : p := by repeat (first | (with_reducible first | exact HB.out | apply below_alloc | apply pw_below_drewN | apply below_drew1 | refine below_set ?_ GE301.out) | exact HB.out)) : p := h
theorem Z254 (h : p := by rw [hg];exact (below_size Z297)) : p := h
theorem Z255 (h : p := by repeat (first | (with_reducible first | exact HB.out | apply below_alloc | apply pw_below_drewN | apply below_drew1 | refine below_set ?_ GE115.out) | exact HB.out)) : p := h
theorem Z256 (h : p := by repeat (first | (with_reducible first | exact HB.out | apply below_alloc | apply pw_below_drewN | apply below_drew1 | refine below_set ?_ GE413.out) | exact HB.out)) : p := h
theorem Z257 (h : p := by repeat (first | (with_reducible first | exact HB.out | apply below_alloc | apply pw_below_drewN | apply below_drew1 | refine below_set ?_ GE316.out) | exact HB.out)) : p := h
theorem Z258 (h : p := by repeat (first | (with_reducible first | exact HB.out | apply below_alloc | apply pw_below_drewN | apply below_drew1 | refine below_set ?_ GE131.out) | exact HB.out)) : p := h
theorem Z259 (h : p := by repeat (first | (with_reducible first | exact HB.out | apply below_alloc | apply pw_below_drewN | apply below_drew1 | refine below_set ?_ GE106.out) | exact HB.out)) : p := h
theorem Z260 (h : p := by repeat (first | (with_reducible first | exact HB.out | apply below_alloc | apply pw_below_drewN | apply below_drew1 | refine below_set ?_ GE410.out) | exact HB.out)) : p := h
theorem Z261 (h : p := by repeat (first | (with_reducible first | exact HB.out | apply below_alloc | apply pw_below_drewN | apply below_drew1 | refine below_set ?_ GE351.out) | exact HB.out)) : p := h
theorem Z262 (h : p := by repeat (first | (with_reducible first | exact HB.out | apply below_alloc | apply pw_below_drewN | apply below_drew1 | refine below_set ?_ GE278.out) | exact HB.out)) : p := h
theorem Z263 (h : p := by repeat (first | (with_reducible first | exact HB.out | apply below_alloc | apply pw_below_drewN | apply below_drew1 | refine below_set ?_ GE235.out) | exact HB.out)) : p := h
theorem Z264 (h : p := by refine bP ?_;refine blk_far ?_ NB352_353.out _;refine bP ?_;refine blk_far ?_ NB352_353.out _;refine bP ?_;exact BK352.out) : p := h
theorem Z265 (h : p := by refine bP ?_;refine blk_far ?_ NB351_353.out _;refine bP ?_;refine blk_far ?_ NB351_353.out _;refine bP ?_;exact BK351.out) : p := h
theorem Z266 (h : p := by (with_reducible repeat (first | apply Kd.R_alloc | apply Kd.R_drewN | apply Kd.R_drew));exact HO_35.out) : p := h
theorem Z267 (h : p := by (with_reducible repeat (first | apply Kd.R_alloc | apply Kd.R_drewN | apply Kd.R_drew));exact HO308.out) : p := h
theorem Z268 (h : p := by (with_reducible repeat (first | apply Kd.R_alloc | apply Kd.R_drewN | apply Kd.R_drew));exact HO305.out) : p := h
theorem Z269 (h : p := by (with_reducible repeat (first | apply Kd.R_alloc | apply Kd.R_drewN | apply Kd.R_drew));exact HO187.out) : p := h
theorem Z270 (h : p := by (with_reducible repeat (first | apply Kd.R_alloc | apply Kd.R_drewN | apply Kd.R_drew));exact HO163.out) : p := h
theorem Z271 (h : p := by (with_reducible repeat (first | apply Kd.R_alloc | apply Kd.R_drewN | apply Kd.R_drew));exact HO221.out) : p := h
theorem Z272 (h : p := by (with_reducible repeat (first | apply Kd.R_alloc | apply Kd.R_drewN | apply Kd.R_drew));exact HO200.out) : p := h
theorem Z273 (h : p := by (with_reducible repeat (first | apply Kd.R_alloc | apply Kd.R_drewN | apply Kd.R_drew));exact HO_3.out) : p := h
theorem Z274 (h : p := by (with_reducible repeat (first | apply Kd.R_alloc | apply Kd.R_drewN | apply Kd.R_drew));exact HO_7.out) : p := h
theorem Z275 (h : p := by (with_reducible repeat (first | apply Kd.R_alloc | apply Kd.R_drewN | apply Kd.R_drew));exact HO_5.out) : p := h
theorem Z276 (h : p := by (with_reducible repeat (first | apply Kd.R_alloc | apply Kd.R_drewN | apply Kd.R_drew));exact HO_6.out) : p := h
theorem Z277 (h : p := by (with_reducible repeat (first | apply Kd.R_alloc | apply Kd.R_drewN | apply Kd.R_drew));exact HO_4.out) : p := h
theorem Z278 (h : p := by (with_reducible repeat (first | apply Zn_alloc | apply Zn_drewN | apply Zn_drew));exact HO_354001.out) : p := h
theorem Z279 (h : p := by (with_reducible repeat (first | apply Zn_alloc | apply Zn_drewN | apply Zn_drew));exact HO381.out) : p := h
theorem Z280 (h : p := by (try simp only [List.map_toArray,List.map_cons,List.map_nil]);first | done | rfl) : p := h
theorem Z281 (h : p := by refine bP ?_;exact BK301.out) : p := h
theorem Z282 (h : p := by refine bP ?_;exact BK351.out) : p := h
theorem Z283 (h : p := by refine bP ?_;exact BK352.out) : p := h
theorem Z284 (h : p := by refine bP ?_;exact BK353.out) : p := h
theorem Z285 (h : p := by refine bP ?_;exact BK413.out) : p := h
theorem Z286 (h : p := by refine bP ?_;exact BK431.out) : p := h
theorem Z287 (h : p := by refine bP ?_;exact BK235.out) : p := h
theorem Z288 (h : p := by refine bP ?_;exact BK131.out) : p := h
theorem Z289 (h : p := by refine bP ?_;exact BK316.out) : p := h
theorem Z290 (h : p := by refine bP ?_;exact BK278.out) : p := h
theorem Z291 (h : p := by refine bP ?_;exact BK396.out) : p := h
theorem Z292 (h : p := by refine bP ?_;exact BK390.out) : p := h
theorem Z293 (h : p := by decide) : p := h
theorem Z294 (h : p := by simp) : p := h
theorem Z295 (h : p := by repeat (first | (with_reducible first | exact HB.out | apply below_alloc | apply pw_below_drewN | apply below_drew1 | refine below_set ?_ GE396.out) | exact HB.out)) : p := h
theorem Z296 (h : p := by repeat (first | (with_reducible first | exact HB.out | apply below_alloc | apply pw_below_drewN | apply below_drew1 | refine below_set ?_ GE390.out) | exact HB.out)) : p := h
theorem Z297 (h : p := by repeat (first | (with_reducible first | exact HB.out | apply below_alloc | apply pw_below_drewN | apply below_drew1) | exact HB.out)) : p := h
end



def errW : Option Int → Value
 | none => .nilIface
 | some c => .iface 0 (.int .i64 c)
theorem errW_none : errW none = .nilIface := rfl
theorem errW_some (c : Int) : errW (some c) = .iface 0 (.int .i64 c) := rfl

theorem info3 : (Try.prog.info? 3).map (fun i => (i.zero, i.size, i.bytes)) = some (some (.int .i64 0), 1, 8) := by kernel_rfl
theorem info5 : (Try.prog.info? 5).map (fun i => (i.zero, i.size, i.bytes)) = some (some (.int .u8 0), 1, 1) := by kernel_rfl
theorem info9 : (Try.prog.info? 9).map (fun i => (i.zero, i.size, i.bytes)) = some (some (.string ⟨#[]⟩), 1, 16) := by kernel_rfl
theorem info24 : (Try.prog.info? 24).map (fun i => (i.zero, i.size, i.bytes)) = some (some (.slice none 0 0), 1, 24) := by kernel_rfl
-- the values' own types
def rd_L2 (xs : List (List Int)) (i : Int) : (List Int) := xs.getD i.toNat ([] : List Int)
theorem at_L2 {w : World} {A : Option Addr} {n : Nat} {xs : List (List Int)} (h : Kd.C (Kd.slice 3 (Kd.int .i64)) w A n xs) (i : Int) (h0 : 0 ≤ i) (h1 : i < n) : ∃ ad A0 c0, A = some ad ∧ w.cell? (ad.add i.toNat) = some (.slice A0 (rd_L2 xs i).length c0) ∧ (rd_L2 xs i).length ≤ c0 ∧ (Kd.int .i64).C w A0 (rd_L2 xs i).length (rd_L2 xs i) := by
 obtain ⟨ad, c, e, _, hK, hc0⟩ := Kd.C_get h ([] : List Int) i h0 h1
 have hc : ∀ j u, c[j]? = some u → w.cell? (ad.add (i.toNat * 1 + j)) = some u := hc0
 obtain ⟨A0, c0, rfl, l0, g0⟩ := hK
 exact ⟨ad, A0, c0, e, by have hq := hc 0 _ rfl; rwa [Nat.mul_one, Nat.add_zero] at hq, l0, g0⟩

theorem bA {w : World} {g : Nat} {o : Obj} (h : w.heap[g]? = some o) (n : Nat) : (w.drewN n).heap[g]? = some o := blk_drewN h n
theorem bB {w : World} {g : Nat} {o : Obj} (h : w.heap[g]? = some o) : w.drew.heap[g]? = some o := blk_drew h
theorem bC {w : World} {g : Nat} {o : Obj} (h : w.heap[g]? = some o) (o' : Obj) : (w.alloc o').heap[g]? = some o := blk_alloc h o'
theorem bP {p q : Prop} (x : q) (h : q → p := by (intro h_; (with_reducible repeat (first | refine bA ?_ _ | refine bB ?_ | refine bC ?_ _)); exact h_)) : p := h x
end Go.Proofs.Ytnidkpkfkklkaaa.QFnExactGridOf
