/- The machine side of FnExactReadConfig: what each Go function that it reaches comes to. Conditions: none. -/
import Derived.Test.YtepnbcdbagjmbacDoorProg
import Derived.Below
import Derived.Deep.Draws
import Derived.Deep.AppendLies
import Derived.Maps.AppendAt
import Derived.OwnWalk
import Derived.Laws.BytesArg
import Derived.Laws.MakeOwn
import Derived.Laws.OwnMore
import Derived.Deep.OwnRows
import Derived.Tactics
import Derived.Lib.ConvBytes
import Derived.Laws.Slices
import Derived.WalkKit
import Derived.KernelRfl
import Derived.RowKit3
import Derived.Deep.LoopGhost
import Derived.Deep.QuietTactic
import Derived.BigQuiet
import Derived.WideLaws
import Derived.Deep.DeepCutAuto
import Derived.Deep.CutBlock
import Derived.Deep.RegionHeld3
import Derived.Laws.Rows
import Derived.Lib.AppendStr
import Derived.ArgAppend
import Derived.Laws.IdiomCopy
import Derived.OrdersHeld
import Derived.Laws.BitsLemmas
import Derived.RowKit
import Derived.Laws.Externs
import Derived.Test.YtepnbcdbagjmbacDoorShelf
import Derived.Test.YtepnbcdbagjmbacDoorGlob
import Derived.Test.YtepnbcdbagjmbacDoorWWords
import Derived.Test.YtepnbcdbagjmbacDoorWLast
import Derived.Test.YtepnbcdbagjmbacDoorWTab
import Derived.Test.YtepnbcdbagjmbacDoorWFour
import Derived.Test.YtepnbcdbagjmbacDoorWQPut
import Derived.Test.YtepnbcdbagjmbacDoorWApart
import Derived.Test.YtepnbcdbagjmbacDoorWArr
import Derived.Test.YtepnbcdbagjmbacDoorWZeros
import Derived.Test.YtepnbcdbagjmbacDoorWFoot
import Derived.Test.YtepnbcdbagjmbacDoorWKept
import Derived.Test.YtepnbcdbagjmbacDoorWShare
import Derived.Test.YtepnbcdbagjmbacDoorWN
import Derived.Test.YtepnbcdbagjmbacDoorWFootNe
import Derived.Test.YtepnbcdbagjmbacDoorWAt
import Derived.Test.YtepnbcdbagjmbacDoorWEqStruct
import Derived.Test.YtepnbcdbagjmbacDoorWRepsOne
import Derived.Test.YtepnbcdbagjmbacDoorWInv
import Derived.Test.YtepnbcdbagjmbacDoorWInvWords
import Derived.Test.YtepnbcdbagjmbacDoorWGuard
import Derived.Test.YtepnbcdbagjmbacDoorWNEv
import Derived.Test.YtepnbcdbagjmbacDoorWMore
namespace Go.Proofs.YtepnbcdbagjmbacDoor.QFnExactReadConfig
open Go.RowKit Go.Proofs.YtepnbcdbagjmbacDoorW.PrintWords Go.Proofs.YtepnbcdbagjmbacDoorW.PrintLast Go.Proofs.YtepnbcdbagjmbacDoorW.PrintMore
attribute [local go_sem] max2_int min2_int max_two min_two max_three min_three max_four min_four   -- for this text's walks alone
set_option linter.unusedVariables false
set_option linter.unusedSimpArgs false
section
variable {P : Program} {md : Region.Mode} {ops : Array Oper} {Q : Exit → Act → World → Prop} {S : World → Prop} {ds : List Nat} {T : Bool × List (List Nat × List Nat)} {B : List Nat} {fuel : Nat} {l : Array Bool} {a a' : Act} {w : World} {oi : Oper} {v : Value}
def qB : Nat → Nat → List Bool
  | 0, _ => []
  | n + 1, m => (m % 2 == 1) :: qB n (m / 2)
def qM (n m : Nat) : Array Bool := (qB n m).toArray
theorem ifp {α : Type} {c : Prop} [Decidable c] {x : Option α} {r : α} (h : (if c then x else none) = some r) : c ∧ x = some r := by
  by_cases k : c
  · rw [if_pos k] at h; exact ⟨k, h⟩
  · rw [if_neg k] at h; exact absurd h (by simp)
theorem zR {p : Prop} (h : p := by first | (rw [hyy];with_reducible exact H) | (have H2_ := (Option.bind_some _ _).symm.trans H;rw [hyy];with_reducible exact H2_) | (have H2_ := (Option.bind_some _ _).symm.trans H;with_reducible exact H2_) | with_reducible exact H | (rw [hyy];exact H) | exact H) : p := h
theorem dD {w : World} {m n : Nat} : (w.drewN m).drewN n = w.drewN (m + n) := World.drewN_drewN _ _ _
theorem dT {w : World} {m n k : Nat} : (w.drewN (m + n)).drewN k = w.drewN (m + (n + k)) := Eq.trans (World.drewN_drewN _ _ _) (congrArg (World.drewN _) (Nat.add_assoc _ _ _))
theorem bc {W : World} {g t : Nat} {cs : Array Value} (h : Aside0 (W.heap[g]? = some (.cells cs t (0, 0)))) (j : Nat) {v : Value} (hj : cs[j]? = some v := by rfl) : W.cell? ⟨g, j, none⟩ = some v := (blk_cell h.out j).trans hj
theorem rP (i : Nat) (N : Tmp) (n m : Nat) (HT_ : Aside0 (rtab md ops = T)) (hi : ops[i]? = some oi := by rfl) (hN : oi.dst = some N := by rfl) (hc : anyT T l.toList (qM n m).toList i = true := by kernel_rfl) (hQ : ∀ c a w, Q (.panic c) (a.put oi.dst v) w → Q (.panic c) a w := by exact fun _ _ _ h => h) (hy : Region.wanted oi (yielded ops a.tmps) = true := by rfl) (hr : ∀ w, (execOp a.eval oi).run P w = .ok (.value v) w := by intro w'; go_simp; with_reducible rfl) (ha : a.put (some N) v = a' := by simp only [Act.put, List.setIfInBounds_toArray, List.set_cons_zero, List.set_cons_succ, i64_w, i32_w]; rfl) (h : wpAnyLast P md ops Q S ds fuel (qM n m) a' w) : wpAnyLast P md ops Q S ds (fuel + 1) l a w :=
  pure_ (qM n m) hi hN (any_of HT_.out hc) hQ (Or.inl ⟨hy, hr⟩) ha h
theorem rU (i : Nat) (N : Tmp) (n m : Nat) (HT_ : Aside0 (rtab md ops = T)) (hi : ops[i]? = some oi := by rfl) (hN : oi.dst = some N := by rfl) (hc : anyT T l.toList (qM n m).toList i = true := by kernel_rfl) (hQ : ∀ c a w, Q (.panic c) (a.put oi.dst undef) w → Q (.panic c) a w := by exact fun _ _ _ h => h) (hy : Region.wanted oi (yielded ops a.tmps) = false := by rfl) (ha : a.put (some N) undef = a' := by simp only [Act.put, List.setIfInBounds_toArray, List.set_cons_zero, List.set_cons_succ, i64_w, i32_w]; rfl) (h : wpAnyLast P md ops Q S ds fuel (qM n m) a' w) : wpAnyLast P md ops Q S ds (fuel + 1) l a w :=
  pure_ (qM n m) hi hN (any_of HT_.out hc) hQ (Or.inr ⟨hy, rfl⟩) ha h
theorem rO (i : Nat) (N : Tmp) (n m : Nat) (HT_ : Aside0 (rtab md ops = T)) (hi : ops[i]? = some oi := by rfl) (hN : oi.dst = some N := by rfl) (hc : (readyT T.2 l.toList == [i] && l.toList.set i true == (qM n m).toList) = true := by kernel_rfl) (hd : i ∉ ds := by decide) (h : ∀ K : Act → World → Prop, Shut (∀ a' w', S w' → (S w' → wpAnyLast P md ops Q S ds fuel (qM n m) a' w') → K a' w') → if Region.wanted oi (yielded ops a.tmps) = true then Oper.wp P oi a w K Q else K (a.put (some N) undef) w) : wpAnyLast P md ops Q S ds (fuel + 1) l a w :=
  one_ (qM n m) hi hN (one_of HT_.out hc) hd h
theorem sP (i : Nat) (N : Tmp) (n m : Nat) (hi : ops[i]? = some oi := by rfl) (hN : oi.dst = some N := by rfl) (hc : anyB md ops l (qM n m) i = true := by kernel_rfl) (hQ : ∀ c a w, Q (.panic c) (a.put oi.dst v) w → Q (.panic c) a w := by exact fun _ _ _ h => h) (hy : Region.wanted oi (yielded ops a.tmps) = true := by rfl) (hr : ∀ w, (execOp a.eval oi).run P w = .ok (.value v) w := by intro w'; go_simp; with_reducible rfl) (ha : a.put (some N) v = a' := by simp only [Act.put, List.setIfInBounds_toArray, List.set_cons_zero, List.set_cons_succ, i64_w, i32_w]; rfl) (h : wpAnyLast P md ops Q S ds fuel (qM n m) a' w) : wpAnyLast P md ops Q S ds (fuel + 1) l a w :=
  pure_ (qM n m) hi hN hc hQ (Or.inl ⟨hy, hr⟩) ha h
theorem sU (i : Nat) (N : Tmp) (n m : Nat) (hi : ops[i]? = some oi := by rfl) (hN : oi.dst = some N := by rfl) (hc : anyB md ops l (qM n m) i = true := by kernel_rfl) (hQ : ∀ c a w, Q (.panic c) (a.put oi.dst undef) w → Q (.panic c) a w := by exact fun _ _ _ h => h) (hy : Region.wanted oi (yielded ops a.tmps) = false := by rfl) (ha : a.put (some N) undef = a' := by simp only [Act.put, List.setIfInBounds_toArray, List.set_cons_zero, List.set_cons_succ, i64_w, i32_w]; rfl) (h : wpAnyLast P md ops Q S ds fuel (qM n m) a' w) : wpAnyLast P md ops Q S ds (fuel + 1) l a w :=
  pure_ (qM n m) hi hN hc hQ (Or.inr ⟨hy, rfl⟩) ha h
theorem sO (i : Nat) (N : Tmp) (n m : Nat) (hi : ops[i]? = some oi := by rfl) (hN : oi.dst = some N := by rfl) (hc : readyB md ops l (qM n m) i = true := by kernel_rfl) (hd : i ∉ ds := by decide) (h : ∀ K : Act → World → Prop, Shut (∀ a' w', S w' → (S w' → wpAnyLast P md ops Q S ds fuel (qM n m) a' w') → K a' w') → if Region.wanted oi (yielded ops a.tmps) = true then Oper.wp P oi a w K Q else K (a.put (some N) undef) w) : wpAnyLast P md ops Q S ds (fuel + 1) l a w :=
  one_ (qM n m) hi hN hc hd h
theorem rT1 (i : Nat) (N : Tmp) (n m : Nat) (HT_ : Aside0 (rtab md ops = T)) (HW_ : Aside0 (waitsOk T.2 B = true)) (hS : S w) (hi : ops[i]? = some oi := by rfl) (hN : oi.dst = some N := by rfl) (hc : takeW T B ds l.toList (qM n m).toList i = true := by kernel_rfl) (hQ : ∀ c a w, Q (.panic c) (a.put oi.dst v) w → Q (.panic c) a w := by exact fun _ _ _ h => h) (hy : Region.wanted oi (yielded ops a.tmps) = true := by rfl) (hr : ∀ w, S w → (execOp a.eval oi).run P w = .ok (.value v) w := by rintro w' s0; go_simp; with_reducible rfl) (ha : a.put (some N) v = a' := by simp only [Act.put, List.setIfInBounds_toArray, List.set_cons_zero, List.set_cons_succ, i64_w, i32_w]; rfl) (h : wpAnyLast P md ops Q S ds fuel (qM n m) a' w) : wpAnyLast P md ops Q S ds (fuel + 1) l a w :=
  take_ (qM n m) hi hN (take_ofW HT_.out HW_.out hc) hQ (Or.inl ⟨hy, hr⟩) hS ha h
theorem rT2 (i : Nat) (N : Tmp) (n m : Nat) (HT_ : Aside0 (rtab md ops = T)) (HW_ : Aside0 (waitsOk T.2 B = true)) (hS : S w) (hi : ops[i]? = some oi := by rfl) (hN : oi.dst = some N := by rfl) (hc : takeW T B ds l.toList (qM n m).toList i = true := by kernel_rfl) (hQ : ∀ c a w, Q (.panic c) (a.put oi.dst v) w → Q (.panic c) a w := by exact fun _ _ _ h => h) (hy : Region.wanted oi (yielded ops a.tmps) = true := by rfl) (hr : ∀ w, S w → (execOp a.eval oi).run P w = .ok (.value v) w := by rintro w' ⟨s0, s1⟩; go_simp; with_reducible rfl) (ha : a.put (some N) v = a' := by simp only [Act.put, List.setIfInBounds_toArray, List.set_cons_zero, List.set_cons_succ, i64_w, i32_w]; rfl) (h : wpAnyLast P md ops Q S ds fuel (qM n m) a' w) : wpAnyLast P md ops Q S ds (fuel + 1) l a w :=
  take_ (qM n m) hi hN (take_ofW HT_.out HW_.out hc) hQ (Or.inl ⟨hy, hr⟩) hS ha h
theorem rT9 (i : Nat) (N : Tmp) (n m : Nat) (HT_ : Aside0 (rtab md ops = T)) (HW_ : Aside0 (waitsOk T.2 B = true)) (hS : S w) (hi : ops[i]? = some oi := by rfl) (hN : oi.dst = some N := by rfl) (hc : takeW T B ds l.toList (qM n m).toList i = true := by kernel_rfl) (hQ : ∀ c a w, Q (.panic c) (a.put oi.dst v) w → Q (.panic c) a w := by exact fun _ _ _ h => h) (hy : Region.wanted oi (yielded ops a.tmps) = true := by rfl) (hr : ∀ w, S w → (execOp a.eval oi).run P w = .ok (.value v) w := by rintro w' ⟨s0, s1, s2, s3, s4, s5, s6, s7, s8⟩; go_simp; with_reducible rfl) (ha : a.put (some N) v = a' := by simp only [Act.put, List.setIfInBounds_toArray, List.set_cons_zero, List.set_cons_succ, i64_w, i32_w]; rfl) (h : wpAnyLast P md ops Q S ds fuel (qM n m) a' w) : wpAnyLast P md ops Q S ds (fuel + 1) l a w :=
  take_ (qM n m) hi hN (take_ofW HT_.out HW_.out hc) hQ (Or.inl ⟨hy, hr⟩) hS ha h
theorem rN (ha : a = a' := by show Act.put _ (some _) _ = _; simp only [Act.put, List.setIfInBounds_toArray, List.set_cons_zero, List.set_cons_succ, i64_w, i32_w]; rfl) (h : wpAnyLast P md ops Q S ds fuel l a' w) : wpAnyLast P md ops Q S ds fuel l a w := norm_ ha h
end
section
theorem jA {a b : Prop} (x : a) (y : b) : Aside0 a ∧ b := ⟨.mk x, y⟩
theorem jB {a b : Prop} (x : a) (y : b) : a ∧ b := ⟨x, y⟩
theorem cells3 {w : World} {g : Nat} {t : TypeId} {a0 a1 a2 : Value} (h : w.heap[g]? = some (.cells #[a0,a1,a2] t (0,0))) : w.cell? ⟨g,0,none⟩ = some a0 ∧ w.cell? ⟨g,1,none⟩ = some a1 ∧ w.cell? ⟨g,2,none⟩ = some a2 ∧ w.frozen? ⟨g,0,none⟩ = false ∧ w.frozen? ⟨g,1,none⟩ = false ∧ w.frozen? ⟨g,2,none⟩ = false := ⟨(blk_cell h 0).trans rfl,(blk_cell h 1).trans rfl,(blk_cell h 2).trans rfl,blk_frozen h 0,blk_frozen h 1,blk_frozen h 2⟩
theorem cells8 {w : World} {g : Nat} {t : TypeId} {a0 a1 a2 a3 a4 a5 a6 a7 : Value} (h : w.heap[g]? = some (.cells #[a0,a1,a2,a3,a4,a5,a6,a7] t (0,0))) : w.cell? ⟨g,0,none⟩ = some a0 ∧ w.cell? ⟨g,1,none⟩ = some a1 ∧ w.cell? ⟨g,2,none⟩ = some a2 ∧ w.cell? ⟨g,3,none⟩ = some a3 ∧ w.cell? ⟨g,4,none⟩ = some a4 ∧ w.cell? ⟨g,5,none⟩ = some a5 ∧ w.cell? ⟨g,6,none⟩ = some a6 ∧ w.cell? ⟨g,7,none⟩ = some a7 ∧ w.frozen? ⟨g,0,none⟩ = false ∧ w.frozen? ⟨g,1,none⟩ = false ∧ w.frozen? ⟨g,2,none⟩ = false ∧ w.frozen? ⟨g,3,none⟩ = false ∧ w.frozen? ⟨g,4,none⟩ = false ∧ w.frozen? ⟨g,5,none⟩ = false ∧ w.frozen? ⟨g,6,none⟩ = false ∧ w.frozen? ⟨g,7,none⟩ = false := ⟨(blk_cell h 0).trans rfl,(blk_cell h 1).trans rfl,(blk_cell h 2).trans rfl,(blk_cell h 3).trans rfl,(blk_cell h 4).trans rfl,(blk_cell h 5).trans rfl,(blk_cell h 6).trans rfl,(blk_cell h 7).trans rfl,blk_frozen h 0,blk_frozen h 1,blk_frozen h 2,blk_frozen h 3,blk_frozen h 4,blk_frozen h 5,blk_frozen h 6,blk_frozen h 7⟩
theorem bE {P : Program} {ops : Array Oper} {Q : Exit → Act → World → Prop} {rest : List Oper} {o : Oper} {a : Act} {W : World} (N : Tmp) (cs : Array Value) (t : TypeId) (hgd : o.guard = none := by rfl) (hd : o.dst = some N := by rfl)
    (hrun : (execOp a.eval o).run P W = .ok (.value (.pointer (some ⟨W.heap.size, 0, none⟩))) (W.alloc (.cells cs t (0, 0))) := by first | (go_simp; done) | (go_simp; rfl))
    (h : ∀ g, g = W.heap.size → ∀ w1, w1.heap[g]? = some (.cells cs t (0, 0)) → Below W.heap.size W w1 → wpList P ops Q rest (a.put o.dst (.pointer (some ⟨g, 0, none⟩))) w1) : wpList P ops Q (o :: rest) a W := box_event hgd hd hrun h
variable {p : Prop}
theorem Z1 (h : p := by exact jA (Kd.R_elder' Z166 (Kd.R_base hoq4) hb) (jA (Kd.R_elder' Z163 (Kd.R_base hoq4) hb) (jA (Kd.R_below Z161 hb) (jA (Kd.R_lower (Kd.R_new' (Kd.R_new' hoq4 (Kd.R_lt Z166)) (Kd.R_lt Z163)) (below_size Z139)) (jA (blk_below (g := gb249) (o := .cells #[.int .i64 x250000_1,.int .i64 x250001_1,.int .i64 x250002_1,.int .i64 x250003_1,.int .i64 x250004_1,.int .i64 x250005_1,.int .i64 x250006_1,.slice none 0 0] 24 (0,0)) Z189 hb) (jA (blk_below (g := gb250) (o := .cells #[.int .i64 x251000_1,.int .i64 x251001_1,.int .i64 x251002_1] 26 (0,0)) Z174 hb) (jA (blk_below (g := gb264) (o := .cells #[.int .i64 x265000_1,.int .i64 x265001_1,.int .i64 x265002_1,.int .i64 x265003_1,.int .i64 x265004_1,.int .i64 x265005_1,.int .i64 x265006_1,u265007] 24 (0,0)) Z176 hb) (Aside0.mk (below_step Z139 hb))))))))) : p := h
theorem Z2 (h : p := by refine bP ?_;refine blk_far ?_ NB249_250.out _;refine bP ?_;refine blk_far ?_ NB249_250.out _;refine bP ?_;refine blk_far ?_ NB249_250.out _;refine bP ?_;refine blk_put (cs := #[.int .i64 0,.int .i64 0,.int .i64 0,.int .i64 0,.int .i64 0,.int .i64 0,.int .i64 0,.slice none 0 0]) ?_ 7 _ rfl;refine bP ?_;refine blk_put (cs := #[.int .i64 0,.int .i64 0,.int .i64 0,.int .i64 0,.int .i64 0,.int .i64 0,.int .i64 x250006_1,.slice none 0 0]) ?_ 6 _ rfl;refine bP ?_;refine blk_put (cs := #[.int .i64 0,.int .i64 0,.int .i64 0,.int .i64 0,.int .i64 0,.int .i64 x250005_1,.int .i64 x250006_1,.slice none 0 0]) ?_ 5 _ rfl;refine bP ?_;refine blk_put (cs := #[.int .i64 0,.int .i64 0,.int .i64 0,.int .i64 0,.int .i64 x250004_1,.int .i64 x250005_1,.int .i64 x250006_1,.slice none 0 0]) ?_ 4 _ rfl;refine bP ?_;refine blk_put (cs := #[.int .i64 0,.int .i64 0,.int .i64 0,.int .i64 x250003_1,.int .i64 x250004_1,.int .i64 x250005_1,.int .i64 x250006_1,.slice none 0 0]) ?_ 3 _ rfl;refine bP ?_;refine blk_put (cs := #[.int .i64 0,.int .i64 0,.int .i64 x250002_1,.int .i64 x250003_1,.int .i64 x250004_1,.int .i64 x250005_1,.int .i64 x250006_1,.slice none 0 0]) ?_ 2 _ rfl;refine bP ?_;refine blk_put (cs := #[.int .i64 0,.int .i64 x250001_1,.int .i64 x250002_1,.int .i64 x250003_1,.int .i64 x250004_1,.int .i64 x250005_1,.int .i64 x250006_1,.slice none 0 0]) ?_ 1 _ rfl;refine bP ?_;refine blk_put (cs := #[.int .i64 x250000_1,.int .i64 x250001_1,.int .i64 x250002_1,.int .i64 x250003_1,.int .i64 x250004_1,.int .i64 x250005_1,.int .i64 x250006_1,.slice none 0 0]) ?_ 0 _ rfl;refine bP ?_;exact BK249.out) : p := h
theorem Z3 (h : p := by refine bP ?_;refine blk_far ?_ NB185_186.out _;refine bP ?_;refine blk_far ?_ NB185_186.out _;refine bP ?_;refine blk_far ?_ NB185_186.out _;refine bP ?_;refine blk_put (cs := #[.int .i64 0,.int .i64 0,.int .i64 0,.int .i64 0,.int .i64 0,.int .i64 0,.int .i64 0,.slice none 0 0]) ?_ 7 _ rfl;refine bP ?_;refine blk_put (cs := #[.int .i64 0,.int .i64 0,.int .i64 0,.int .i64 0,.int .i64 0,.int .i64 0,.int .i64 x186006_1,.slice none 0 0]) ?_ 6 _ rfl;refine bP ?_;refine blk_put (cs := #[.int .i64 0,.int .i64 0,.int .i64 0,.int .i64 0,.int .i64 0,.int .i64 x186005_1,.int .i64 x186006_1,.slice none 0 0]) ?_ 5 _ rfl;refine bP ?_;refine blk_put (cs := #[.int .i64 0,.int .i64 0,.int .i64 0,.int .i64 0,.int .i64 x186004_1,.int .i64 x186005_1,.int .i64 x186006_1,.slice none 0 0]) ?_ 4 _ rfl;refine bP ?_;refine blk_put (cs := #[.int .i64 0,.int .i64 0,.int .i64 0,.int .i64 x186003_1,.int .i64 x186004_1,.int .i64 x186005_1,.int .i64 x186006_1,.slice none 0 0]) ?_ 3 _ rfl;refine bP ?_;refine blk_put (cs := #[.int .i64 0,.int .i64 0,.int .i64 x186002_1,.int .i64 x186003_1,.int .i64 x186004_1,.int .i64 x186005_1,.int .i64 x186006_1,.slice none 0 0]) ?_ 2 _ rfl;refine bP ?_;refine blk_put (cs := #[.int .i64 0,.int .i64 x186001_1,.int .i64 x186002_1,.int .i64 x186003_1,.int .i64 x186004_1,.int .i64 x186005_1,.int .i64 x186006_1,.slice none 0 0]) ?_ 1 _ rfl;refine bP ?_;refine blk_put (cs := #[.int .i64 x186000_1,.int .i64 x186001_1,.int .i64 x186002_1,.int .i64 x186003_1,.int .i64 x186004_1,.int .i64 x186005_1,.int .i64 x186006_1,.slice none 0 0]) ?_ 0 _ rfl;refine bP ?_;exact BK185.out) : p := h
theorem Z4 (h : p := by refine bP ?_;refine blk_put (cs := #[.int .i64 x166000_33,.int .i64 x166001_33,.int .i64 x166002_33,.int .i64 x166003_33,.int .i64 x166004_33,.int .i64 a0_5,.int .i64 a0_6,.slice none 0 0]) ?_ 7 _ rfl;refine bP ?_;refine blk_put (cs := #[.int .i64 x166000_33,.int .i64 x166001_33,.int .i64 x166002_33,.int .i64 x166003_33,.int .i64 x166004_33,.int .i64 a0_5,.int .i64 0,.slice none 0 0]) ?_ 6 _ rfl;refine bP ?_;refine blk_put (cs := #[.int .i64 x166000_33,.int .i64 x166001_33,.int .i64 x166002_33,.int .i64 x166003_33,.int .i64 x166004_33,.int .i64 0,.int .i64 0,.slice none 0 0]) ?_ 5 _ rfl;refine bP ?_;refine blk_put (cs := #[.int .i64 x166000_33,.int .i64 x166001_33,.int .i64 x166002_33,.int .i64 x166003_33,.int .i64 0,.int .i64 0,.int .i64 0,.slice none 0 0]) ?_ 4 _ rfl;refine bP ?_;refine blk_put (cs := #[.int .i64 x166000_33,.int .i64 x166001_33,.int .i64 x166002_33,.int .i64 0,.int .i64 0,.int .i64 0,.int .i64 0,.slice none 0 0]) ?_ 3 _ rfl;refine bP ?_;refine blk_put (cs := #[.int .i64 x166000_33,.int .i64 x166001_33,.int .i64 0,.int .i64 0,.int .i64 0,.int .i64 0,.int .i64 0,.slice none 0 0]) ?_ 2 _ rfl;refine bP ?_;refine blk_put (cs := #[.int .i64 x166000_33,.int .i64 0,.int .i64 0,.int .i64 0,.int .i64 0,.int .i64 0,.int .i64 0,.slice none 0 0]) ?_ 1 _ rfl;refine bP ?_;refine blk_put (cs := #[.int .i64 0,.int .i64 0,.int .i64 0,.int .i64 0,.int .i64 0,.int .i64 0,.int .i64 0,.slice none 0 0]) ?_ 0 _ rfl;refine bP ?_;exact BK166.out) : p := h
theorem Z5 (h : p := by exact jA (blk_below (g := gb302) (o := .cells #[.int .i64 a0_0,.int .i64 a0_1,.int .i64 a0_2,.int .i64 a0_3,.int .i64 a0_4,.int .i64 a0_5,.int .i64 a0_6,.slice A0_7 l0_7.length c0_7] 24 (0,0)) Z178 hb) (jA (below_step Z183 hb) (jA (hbox) (jA ((Z151 : w.heap.size ≤ gb303)) (jA ((Z151 : w.heap.size ≤ gb303)) (jA ((by rw [hg];exact Nat.ne_of_lt (blk_lt (g := gb302) (o := .cells #[.int .i64 a0_0,.int .i64 a0_1,.int .i64 a0_2,.int .i64 a0_3,.int .i64 a0_4,.int .i64 a0_5,.int .i64 a0_6,.slice A0_7 l0_7.length c0_7] 24 (0,0)) Z178) : gb302 ≠ gb303)) (Aside0.mk ((by rw [hg];exact Nat.ne_of_gt (blk_lt (g := gb302) (o := .cells #[.int .i64 a0_0,.int .i64 a0_1,.int .i64 a0_2,.int .i64 a0_3,.int .i64 a0_4,.int .i64 a0_5,.int .i64 a0_6,.slice A0_7 l0_7.length c0_7] 24 (0,0)) Z178) : gb303 ≠ gb302))))))))) : p := h
theorem Z6 (h : p := by refine bP ?_;refine blk_put (cs := #[.int .i64 a0_0,.int .i64 a0_1,.int .i64 a0_2,.int .i64 a0_3,.int .i64 a0_4,.int .i64 a0_5,.int .i64 a0_6,.slice none 0 0]) ?_ 7 _ rfl;refine bP ?_;refine blk_put (cs := #[.int .i64 a0_0,.int .i64 a0_1,.int .i64 a0_2,.int .i64 a0_3,.int .i64 a0_4,.int .i64 a0_5,.int .i64 0,.slice none 0 0]) ?_ 6 _ rfl;refine bP ?_;refine blk_put (cs := #[.int .i64 a0_0,.int .i64 a0_1,.int .i64 a0_2,.int .i64 a0_3,.int .i64 a0_4,.int .i64 0,.int .i64 0,.slice none 0 0]) ?_ 5 _ rfl;refine bP ?_;refine blk_put (cs := #[.int .i64 a0_0,.int .i64 a0_1,.int .i64 a0_2,.int .i64 a0_3,.int .i64 0,.int .i64 0,.int .i64 0,.slice none 0 0]) ?_ 4 _ rfl;refine bP ?_;refine blk_put (cs := #[.int .i64 a0_0,.int .i64 a0_1,.int .i64 a0_2,.int .i64 0,.int .i64 0,.int .i64 0,.int .i64 0,.slice none 0 0]) ?_ 3 _ rfl;refine bP ?_;refine blk_put (cs := #[.int .i64 a0_0,.int .i64 a0_1,.int .i64 0,.int .i64 0,.int .i64 0,.int .i64 0,.int .i64 0,.slice none 0 0]) ?_ 2 _ rfl;refine bP ?_;refine blk_put (cs := #[.int .i64 a0_0,.int .i64 0,.int .i64 0,.int .i64 0,.int .i64 0,.int .i64 0,.int .i64 0,.slice none 0 0]) ?_ 1 _ rfl;refine bP ?_;refine blk_put (cs := #[.int .i64 0,.int .i64 0,.int .i64 0,.int .i64 0,.int .i64 0,.int .i64 0,.int .i64 0,.slice none 0 0]) ?_ 0 _ rfl;refine bP ?_;refine blk_far ?_ NB166_165.out _;refine bP ?_;exact BK166.out) : p := h
theorem Z7 (h : p := by exact jA (blk_below (g := gb249) (o := .cells #[.int .i64 0,.int .i64 0,.int .i64 0,.int .i64 0,.int .i64 0,.int .i64 0,.int .i64 0,.slice none 0 0] 24 (0,0)) Z189 hb) (jA (below_step Z184 hb) (jA (hbox) (jA ((Z152 : w.heap.size ≤ gb250)) (jA ((Z152 : w.heap.size ≤ gb250)) (jA ((Z142 : gb249 ≠ gb250)) (Aside0.mk ((Z144 : gb250 ≠ gb249))))))))) : p := h
theorem Z8 (h : p := by exact jA (blk_below (g := gb185) (o := .cells #[.int .i64 0,.int .i64 0,.int .i64 0,.int .i64 0,.int .i64 0,.int .i64 0,.int .i64 0,.slice none 0 0] 24 (0,0)) Z188 hb) (jA (below_step Z185 hb) (jA (hbox) (jA ((Z153 : w.heap.size ≤ gb186)) (jA ((Z153 : w.heap.size ≤ gb186)) (jA ((Z143 : gb185 ≠ gb186)) (Aside0.mk ((Z145 : gb186 ≠ gb185))))))))) : p := h
theorem Z9 (h : p := by exact jA (Kd.R_below Z166 hb) (jA (Kd.R_below Z163 hb) (jA (Kd.R_below Z161 hb) (jA (blk_below (g := gb249) (o := .cells #[.int .i64 x250000_1,.int .i64 x250001_1,.int .i64 x250002_1,.int .i64 x250003_1,.int .i64 x250004_1,.int .i64 x250005_1,.int .i64 x250006_1,.slice none 0 0] 24 (0,0)) Z189 hb) (jA (blk_below (g := gb250) (o := .cells #[.int .i64 x251000_1,.int .i64 x251001_1,.int .i64 x251002_1] 26 (0,0)) Z174 hb) (jA (blk_below (g := gb264) (o := .cells #[.int .i64 x265000_1,.int .i64 x265001_1,.int .i64 x265002_1,.int .i64 x265003_1,.int .i64 x265004_1,.int .i64 x265005_1,.int .i64 x265006_1,u265007] 24 (0,0)) Z176 hb) (Aside0.mk (below_step Z139 hb)))))))) : p := h
theorem Z10 (h : p := by exact jA (Kd.R_below Z166 hb) (jA (Kd.R_below Z167 hb) (jA (Kd.R_below Z160 hb) (jA (blk_below (g := gb185) (o := .cells #[.int .i64 x186000_1,.int .i64 x186001_1,.int .i64 x186002_1,.int .i64 x186003_1,.int .i64 x186004_1,.int .i64 x186005_1,.int .i64 x186006_1,.slice none 0 0] 24 (0,0)) Z188 hb) (jA (blk_below (g := gb186) (o := .cells #[.int .i64 x187000_1,.int .i64 x187001_1,.int .i64 x187002_1] 26 (0,0)) Z169 hb) (jA (blk_below (g := gb197) (o := .cells #[.int .i64 x198000_1,.int .i64 x198001_1,.int .i64 x198002_1,.int .i64 x198003_1,.int .i64 x198004_1,.int .i64 x198005_1,.int .i64 x198006_1,u198007] 24 (0,0)) Z170 hb) (Aside0.mk (below_step Z138 hb)))))))) : p := h
theorem Z11 (h : p := by exact jA (blk_below (g := gb305) (o := .cells #[.int .i64 a0_0,.int .i64 a0_1,.int .i64 a0_2] 26 (0,0)) Z177 hb) (jA (below_step Z182 hb) (jA (hbox) (jA ((Z150 : w.heap.size ≤ gb306)) (jA ((Z150 : w.heap.size ≤ gb306)) (jA ((by rw [hg];exact Nat.ne_of_lt (blk_lt (g := gb305) (o := .cells #[.int .i64 a0_0,.int .i64 a0_1,.int .i64 a0_2] 26 (0,0)) Z177) : gb305 ≠ gb306)) (Aside0.mk ((by rw [hg];exact Nat.ne_of_gt (blk_lt (g := gb305) (o := .cells #[.int .i64 a0_0,.int .i64 a0_1,.int .i64 a0_2] 26 (0,0)) Z177) : gb306 ≠ gb305))))))))) : p := h
theorem Z12 (h : p := by exact jA (Kd.R_mono (Kd.R_keep (Kd.R_types Z166 BK264.out Z180) hk (fun _ h => h.2)) (fun _ h => h.1)) (jA (Kd.R_mono (Kd.R_keep (Kd.R_types Z163 BK264.out Z180) hk (fun _ h => h.2)) (fun _ h => h.1)) (jA (KeepBut.blk hk (g' := gb249) (o := .cells #[.int .i64 x250000_1,.int .i64 x250001_1,.int .i64 x250002_1,.int .i64 x250003_1,.int .i64 x250004_1,.int .i64 x250005_1,.int .i64 x250006_1,.slice none 0 0] 24 (0,0)) Z189 NB249_264.out Z181) (jA (KeepBut.blk hk (g' := gb250) (o := .cells #[.int .i64 x251000_1,.int .i64 x251001_1,.int .i64 x251002_1] 26 (0,0)) Z174 NB250_264.out Z181) (jA (Kd.R_mono (Kd.R_keep (Kd.R_types Z165 BK264.out Z180) hk (fun _ h => h.2)) (fun _ h => h.1)) (jA (hb) (jA (hi) (Aside0.mk (hy))))))))) : p := h
theorem Z13 (h : p := by (with_reducible repeat (first | apply Kd.R_alloc | apply Kd.R_drewN | apply Kd.R_drew));exact (Kd.R_mono (Kd.R_mono (Kd.R_far (p := ⟨gb363,2,none⟩) (Kd.R_far (p := ⟨gb363,1,none⟩) (Kd.R_far (p := ⟨gb363,0,none⟩) (Kd.R_far (p := ⟨gb362,7,none⟩) (Kd.R_far (p := ⟨gb362,6,none⟩) (Kd.R_far (p := ⟨gb362,5,none⟩) (Kd.R_far (p := ⟨gb362,4,none⟩) (Kd.R_far (p := ⟨gb362,3,none⟩) (Kd.R_far (p := ⟨gb362,2,none⟩) (Kd.R_far (p := ⟨gb362,1,none⟩) (Kd.R_far (p := ⟨gb362,0,none⟩) (Kd.R_types (Kd.R_types HO_328007.out BK362.out Z180) BK363.out Z180) (fun _ hk => hk.1.2) (.int .i64 t349)) (fun _ hk => hk.1.2) (.int .i64 t350)) (fun _ hk => hk.1.2) (.int .i64 t351)) (fun _ hk => hk.1.2) (.int .i64 t352)) (fun _ hk => hk.1.2) (.int .i64 t353)) (fun _ hk => hk.1.2) (.int .i64 t354)) (fun _ hk => hk.1.2) (.int .i64 t355)) (fun _ hk => hk.1.2) (.slice Ao62 t356.length co62)) (fun _ hk => hk.2) (.int .i64 t359)) (fun _ hk => hk.2) (.int .i64 t360)) (fun _ hk => hk.2) (.int .i64 t361)) (fun _ h_ => h_.1)) (fun _ h_ => h_.1))) : p := h
theorem Z14 (h : p := by (with_reducible repeat (first | apply Kd.R_alloc | apply Kd.R_drewN | apply Kd.R_drew));exact (Kd.R_mono (Kd.R_mono (Kd.R_far (p := ⟨gb363,2,none⟩) (Kd.R_far (p := ⟨gb363,1,none⟩) (Kd.R_far (p := ⟨gb363,0,none⟩) (Kd.R_far (p := ⟨gb362,7,none⟩) (Kd.R_far (p := ⟨gb362,6,none⟩) (Kd.R_far (p := ⟨gb362,5,none⟩) (Kd.R_far (p := ⟨gb362,4,none⟩) (Kd.R_far (p := ⟨gb362,3,none⟩) (Kd.R_far (p := ⟨gb362,2,none⟩) (Kd.R_far (p := ⟨gb362,1,none⟩) (Kd.R_far (p := ⟨gb362,0,none⟩) (Kd.R_types (Kd.R_types HO358.out BK362.out Z180) BK363.out Z180) (fun _ hk => hk.1.2) (.int .i64 t349)) (fun _ hk => hk.1.2) (.int .i64 t350)) (fun _ hk => hk.1.2) (.int .i64 t351)) (fun _ hk => hk.1.2) (.int .i64 t352)) (fun _ hk => hk.1.2) (.int .i64 t353)) (fun _ hk => hk.1.2) (.int .i64 t354)) (fun _ hk => hk.1.2) (.int .i64 t355)) (fun _ hk => hk.1.2) (.slice Ao62 t356.length co62)) (fun _ hk => hk.2) (.int .i64 t359)) (fun _ hk => hk.2) (.int .i64 t360)) (fun _ hk => hk.2) (.int .i64 t361)) (fun _ h_ => h_.1)) (fun _ h_ => h_.1))) : p := h
theorem Z15 (h : p := by (with_reducible repeat (first | apply Kd.R_alloc | apply Kd.R_drewN | apply Kd.R_drew));exact (Kd.R_mono (Kd.R_mono (Kd.R_far (p := ⟨gb343,2,none⟩) (Kd.R_far (p := ⟨gb343,1,none⟩) (Kd.R_far (p := ⟨gb343,0,none⟩) (Kd.R_far (p := ⟨gb342,7,none⟩) (Kd.R_far (p := ⟨gb342,6,none⟩) (Kd.R_far (p := ⟨gb342,5,none⟩) (Kd.R_far (p := ⟨gb342,4,none⟩) (Kd.R_far (p := ⟨gb342,3,none⟩) (Kd.R_far (p := ⟨gb342,2,none⟩) (Kd.R_far (p := ⟨gb342,1,none⟩) (Kd.R_far (p := ⟨gb342,0,none⟩) (Kd.R_types (Kd.R_types HO338.out BK342.out Z180) BK343.out Z180) (fun _ hk => hk.1.2) (.int .i64 t329)) (fun _ hk => hk.1.2) (.int .i64 t330)) (fun _ hk => hk.1.2) (.int .i64 t331)) (fun _ hk => hk.1.2) (.int .i64 t332)) (fun _ hk => hk.1.2) (.int .i64 t333)) (fun _ hk => hk.1.2) (.int .i64 t334)) (fun _ hk => hk.1.2) (.int .i64 t335)) (fun _ hk => hk.1.2) (.slice Ao20 t336.length co20)) (fun _ hk => hk.2) (.int .i64 t339)) (fun _ hk => hk.2) (.int .i64 t340)) (fun _ hk => hk.2) (.int .i64 t341)) (fun _ h_ => h_.1)) (fun _ h_ => h_.1))) : p := h
theorem Z16 (h : p := by (with_reducible repeat (first | apply Kd.R_alloc | apply Kd.R_drewN | apply Kd.R_drew));exact (Kd.R_mono (Kd.R_mono (Kd.R_far (p := ⟨gb343,2,none⟩) (Kd.R_far (p := ⟨gb343,1,none⟩) (Kd.R_far (p := ⟨gb343,0,none⟩) (Kd.R_far (p := ⟨gb342,7,none⟩) (Kd.R_far (p := ⟨gb342,6,none⟩) (Kd.R_far (p := ⟨gb342,5,none⟩) (Kd.R_far (p := ⟨gb342,4,none⟩) (Kd.R_far (p := ⟨gb342,3,none⟩) (Kd.R_far (p := ⟨gb342,2,none⟩) (Kd.R_far (p := ⟨gb342,1,none⟩) (Kd.R_far (p := ⟨gb342,0,none⟩) (Kd.R_types (Kd.R_types HO323.out BK342.out Z180) BK343.out Z180) (fun _ hk => hk.1.2) (.int .i64 t329)) (fun _ hk => hk.1.2) (.int .i64 t330)) (fun _ hk => hk.1.2) (.int .i64 t331)) (fun _ hk => hk.1.2) (.int .i64 t332)) (fun _ hk => hk.1.2) (.int .i64 t333)) (fun _ hk => hk.1.2) (.int .i64 t334)) (fun _ hk => hk.1.2) (.int .i64 t335)) (fun _ hk => hk.1.2) (.slice Ao20 t336.length co20)) (fun _ hk => hk.2) (.int .i64 t339)) (fun _ hk => hk.2) (.int .i64 t340)) (fun _ hk => hk.2) (.int .i64 t341)) (fun _ h_ => h_.1)) (fun _ h_ => h_.1))) : p := h
theorem Z17 (h : p := by (with_reducible repeat (first | apply Kd.R_alloc | apply Kd.R_drewN | apply Kd.R_drew));exact (Kd.R_mono (Kd.R_mono (Kd.R_far (p := ⟨gb328,2,none⟩) (Kd.R_far (p := ⟨gb328,1,none⟩) (Kd.R_far (p := ⟨gb328,0,none⟩) (Kd.R_far (p := ⟨gb327,7,none⟩) (Kd.R_far (p := ⟨gb327,6,none⟩) (Kd.R_far (p := ⟨gb327,5,none⟩) (Kd.R_far (p := ⟨gb327,4,none⟩) (Kd.R_far (p := ⟨gb327,3,none⟩) (Kd.R_far (p := ⟨gb327,2,none⟩) (Kd.R_far (p := ⟨gb327,1,none⟩) (Kd.R_far (p := ⟨gb327,0,none⟩) (Kd.R_types (Kd.R_types HO323.out BK327.out Z180) BK328.out Z180) (fun _ hk => hk.1.2) (.int .i64 t314)) (fun _ hk => hk.1.2) (.int .i64 t315)) (fun _ hk => hk.1.2) (.int .i64 t316)) (fun _ hk => hk.1.2) (.int .i64 t317)) (fun _ hk => hk.1.2) (.int .i64 t318)) (fun _ hk => hk.1.2) (.int .i64 t319)) (fun _ hk => hk.1.2) (.int .i64 t320)) (fun _ hk => hk.1.2) (.slice Ao11 t321.length co11)) (fun _ hk => hk.2) (.int .i64 t324)) (fun _ hk => hk.2) (.int .i64 t325)) (fun _ hk => hk.2) (.int .i64 t326)) (fun _ h_ => h_.1)) (fun _ h_ => h_.1))) : p := h
theorem Z18 (h : p := by exact (Reps.one (show Kd.M Kd.string _ _ _ (⟨#[114,111,117,110,100,115]⟩ : ByteArray) [.string (⟨#[114,111,117,110,100,115]⟩ : ByteArray)] from rfl) (Reps.one (show Kd.M Kd.string _ _ _ (⟨#[100,101,112,116,104]⟩ : ByteArray) [.string (⟨#[100,101,112,116,104]⟩ : ByteArray)] from rfl) (Reps.one (show Kd.M Kd.string _ _ _ (⟨#[98,105,110,115]⟩ : ByteArray) [.string (⟨#[98,105,110,115]⟩ : ByteArray)] from rfl) (Reps.one (show Kd.M Kd.string _ _ _ (⟨#[108,97,109,98,100,97]⟩ : ByteArray) [.string (⟨#[108,97,109,98,100,97]⟩ : ByteArray)] from rfl) (Reps.one (show Kd.M Kd.string _ _ _ (⟨#[114,111,119,115]⟩ : ByteArray) [.string (⟨#[114,111,119,115]⟩ : ByteArray)] from rfl) (Reps.one (show Kd.M Kd.string _ _ _ (⟨#[114,97,116,101]⟩ : ByteArray) [.string (⟨#[114,97,116,101]⟩ : ByteArray)] from rfl) (Reps.one (show Kd.M Kd.string _ _ _ (⟨#[115,105,103,110,115]⟩ : ByteArray) [.string (⟨#[115,105,103,110,115]⟩ : ByteArray)] from rfl) (Reps.none _ _))))))))) : p := h
theorem Z19 (h : p := by exact jA (Kd.R_below Z162 hb) (jA (Kept.below (S := (fun k_ => P0_7_ k_)) Z187 hb) (jA (below_step Z186 hb) (jA (hbox) (jA ((by rw [hg];exact Z146 : w.heap.size ≤ gb165)) (Aside0.mk ((Z155 : w0.heap.size ≤ gb165)))))))) : p := h
theorem Z20 (h : p := by (with_reducible repeat (first | apply Kd.R_alloc | apply Kd.R_drewN | apply Kd.R_drew));exact Kd.R_mono (Kd.R_far (p := ⟨gb166,7,none⟩) (Kd.R_far (p := ⟨gb166,6,none⟩) (Kd.R_far (p := ⟨gb166,5,none⟩) (Kd.R_far (p := ⟨gb166,4,none⟩) (Kd.R_far (p := ⟨gb166,3,none⟩) (Kd.R_far (p := ⟨gb166,2,none⟩) (Kd.R_far (p := ⟨gb166,1,none⟩) (Kd.R_far (p := ⟨gb166,0,none⟩) (Kd.R_far (p := ⟨gb165,7,none⟩) (Kd.R_types (Kd.R_types HO170.out BK165.out Z180) BK166.out Z180) (fun _ hk => hk.1.2) (.slice Aoq6 t167.length coq6)) (fun _ hk => hk.2) (.int .i64 a0_0)) (fun _ hk => hk.2) (.int .i64 a0_1)) (fun _ hk => hk.2) (.int .i64 a0_2)) (fun _ hk => hk.2) (.int .i64 a0_3)) (fun _ hk => hk.2) (.int .i64 a0_4)) (fun _ hk => hk.2) (.int .i64 a0_5)) (fun _ hk => hk.2) (.int .i64 a0_6)) (fun _ hk => hk.2) (.slice Aoq6 t167.length coq6)) (fun _ hk => hk.1.1.1.1)) : p := h
theorem Z21 (h : p := by (with_reducible repeat (first | apply Kd.R_alloc | apply Kd.R_drewN | apply Kd.R_drew));exact Kd.R_mono (Kd.R_far (p := ⟨gb166,7,none⟩) (Kd.R_far (p := ⟨gb166,6,none⟩) (Kd.R_far (p := ⟨gb166,5,none⟩) (Kd.R_far (p := ⟨gb166,4,none⟩) (Kd.R_far (p := ⟨gb166,3,none⟩) (Kd.R_far (p := ⟨gb166,2,none⟩) (Kd.R_far (p := ⟨gb166,1,none⟩) (Kd.R_far (p := ⟨gb166,0,none⟩) (Kd.R_types HO_166007.out BK166.out Z180) (fun _ hk => hk.2) (.int .i64 x166000_33)) (fun _ hk => hk.2) (.int .i64 x166001_33)) (fun _ hk => hk.2) (.int .i64 x166002_33)) (fun _ hk => hk.2) (.int .i64 x166003_33)) (fun _ hk => hk.2) (.int .i64 x166004_33)) (fun _ hk => hk.2) (.int .i64 a0_5)) (fun _ hk => hk.2) (.int .i64 a0_6)) (fun _ hk => hk.2) (.slice Ao35 l0_7.length co35)) (fun _ hk => hk.1.1.1)) : p := h
theorem Z22 (h : p := by (with_reducible repeat (first | apply Kd.R_alloc | apply Kd.R_drewN | apply Kd.R_drew));exact (Kd.R_mono (Kd.R_far (p := ⟨gb264,7,none⟩) (Kd.R_far (p := ⟨gb264,6,none⟩) (Kd.R_far (p := ⟨gb264,5,none⟩) (Kd.R_far (p := ⟨gb264,4,none⟩) (Kd.R_far (p := ⟨gb264,3,none⟩) (Kd.R_far (p := ⟨gb264,2,none⟩) (Kd.R_far (p := ⟨gb264,1,none⟩) (Kd.R_far (p := ⟨gb264,0,none⟩) (Kd.R_types HO263.out BK264.out Z180) (fun _ hk => hk.2) (.int .i64 t251)) (fun _ hk => hk.2) (.int .i64 t252)) (fun _ hk => hk.2) (.int .i64 t253)) (fun _ hk => hk.2) (.int .i64 t254)) (fun _ hk => hk.2) (.int .i64 t255)) (fun _ hk => hk.2) (.int .i64 t256)) (fun _ hk => hk.2) (.int .i64 t257)) (fun _ hk => hk.2) (.slice Ao19 t258.length co19)) (fun _ h_ => h_.1))) : p := h
theorem Z23 (h : p := by exact jA (below_step Z186 hb) (jA (hbox) (jA ((Z155 : w.heap.size ≤ gb302)) (Aside0.mk ((Z155 : w.heap.size ≤ gb302)))))) : p := h
theorem Z24 (h : p := by exact jA (below_step Z186 hb) (jA (hbox) (jA ((Z155 : w.heap.size ≤ gb305)) (Aside0.mk ((Z155 : w.heap.size ≤ gb305)))))) : p := h
theorem Z25 (h : p := by exact jA (below_step Z186 hb) (jA (hbox) (jA ((Z155 : w.heap.size ≤ gb312)) (Aside0.mk ((Z155 : w.heap.size ≤ gb312)))))) : p := h
theorem Z26 (h : p := by exact jA (below_step Z186 hb) (jA (hbox) (jA ((Z155 : w.heap.size ≤ gb249)) (Aside0.mk ((Z155 : w.heap.size ≤ gb249)))))) : p := h
theorem Z27 (h : p := by exact jA (below_step Z186 hb) (jA (hbox) (jA ((Z155 : w.heap.size ≤ gb185)) (Aside0.mk ((Z155 : w.heap.size ≤ gb185)))))) : p := h
theorem Z28 (h : p := by first | (rw [add_block];exact (fun hs_ => ((((Kd.R_apart' HO_6.out (Kd.R_typed HO_198007.out) Z180)).1 _ rfl).2) hs_)) | (show ¬ _;simp only [add_block];exact (fun hs_ => ((((Kd.R_apart' HO_6.out (Kd.R_typed HO_198007.out) Z180)).1 _ rfl).2) hs_)) | exact (fun hs_ => ((((Kd.R_apart' HO_6.out (Kd.R_typed HO_198007.out) Z180)).1 _ rfl).2) hs_) | (dsimp only;exact (fun hs_ => ((((Kd.R_apart' HO_6.out (Kd.R_typed HO_198007.out) Z180)).1 _ rfl).2) hs_))) : p := h
theorem Z29 (h : p := by exact jA (Kd.R_below Z168 hb) (jA (Kd.R_below Z164 hb) (Aside0.mk (below_step Z186 hb)))) : p := h
theorem Z30 (h : p := by exact jA (Kd.R_lower hoq3 (below_size Z186)) (Aside0.mk (below_step Z186 hb))) : p := h
theorem Z31 (h : p := by exact jA (Kd.R_lower ho0 (below_size Z186)) (Aside0.mk (below_step Z186 hb))) : p := h
theorem Z32 (h : p := by exact jA (Kd.R_lower ho9 (below_size Z186)) (Aside0.mk (below_step Z186 hb))) : p := h
theorem Z33 (h : p := by exact jA (Kd.R_lower ho4 (below_size Z186)) (Aside0.mk (below_step Z186 hb))) : p := h
theorem Z34 (h : p := by first | exact Kd.own_blk (Kd.R_ne HO_6.out BK224.out Z180) | (rw [add_block];exact Kd.own_blk (Kd.R_ne HO_6.out BK224.out Z180)) | (show (Addr.add _ _).block ≠ _;rw [add_block];exact Kd.own_blk (Kd.R_ne HO_6.out BK224.out Z180)) | (dsimp only;exact Kd.own_blk (Kd.R_ne HO_6.out BK224.out Z180))) : p := h
theorem Z35 (h : p := by repeat (first | (with_reducible first | exact HB.out | apply below_alloc | apply pw_below_drewN | apply below_drew1 | refine below_set ?_ GE327.out | refine below_set ?_ GE328.out | refine below_set ?_ GE342.out | refine below_set ?_ GE343.out | refine below_set ?_ GE362.out | refine below_set ?_ GE363.out) | exact HB.out)) : p := h
theorem Z36 (h : p := by rw [hg];exact (below_size Z136)) : p := h
theorem Z37 (h : p := by exact jA (Kd.R_below (by (with_reducible repeat (first | apply Kd.R_alloc | apply Kd.R_drewN | apply Kd.R_drew));exact HO150.out) hb) (Aside0.mk (below_step Z186 hb))) : p := h
theorem Z38 (h : p := by exact jA (Kd.R_over' Z166 (Kd.R_typed Z168) Z180 hg) (jA (hb) (Aside0.mk (ho)))) : p := h
theorem Z39 (h : p := by rw [hg];exact (below_size Z137)) : p := h
theorem Z40 (h : p := by first | exact HK.out.1 | exact (show Kept w _ (fun k_ => P0_7_ k_) from Z141).1) : p := h
theorem Z41 (h : p := by rw [hg];exact Nat.ne_of_lt (blk_lt (g := gb197) (o := .cells #[.int .i64 x198000_1,.int .i64 x198001_1,.int .i64 x198002_1,.int .i64 x198003_1,.int .i64 x198004_1,.int .i64 x198005_1,.int .i64 x198006_1,.slice Ao98 x198007_1.length co98] 24 (0,0)) Z170)) : p := h
theorem Z42 (h : p := by rw [hg];exact Nat.ne_of_lt (blk_lt (g := gb197) (o := .cells #[.int .i64 x198000_1,.int .i64 x198001_1,.int .i64 x198002_1,.int .i64 x198003_1,.int .i64 x198004_1,.int .i64 x198005_1,.int .i64 x198006_1,.slice Ao73 x198007_1.length co73] 24 (0,0)) Z170)) : p := h
theorem Z43 (h : p := by rw [hg];exact Nat.ne_of_gt (blk_lt (g := gb197) (o := .cells #[.int .i64 x198000_1,.int .i64 x198001_1,.int .i64 x198002_1,.int .i64 x198003_1,.int .i64 x198004_1,.int .i64 x198005_1,.int .i64 x198006_1,.slice Ao98 x198007_1.length co98] 24 (0,0)) Z170)) : p := h
theorem Z44 (h : p := by rw [hg];exact Nat.ne_of_gt (blk_lt (g := gb197) (o := .cells #[.int .i64 x198000_1,.int .i64 x198001_1,.int .i64 x198002_1,.int .i64 x198003_1,.int .i64 x198004_1,.int .i64 x198005_1,.int .i64 x198006_1,.slice Ao73 x198007_1.length co73] 24 (0,0)) Z170)) : p := h
theorem Z45 (h : p := by rw [hg];exact Nat.ne_of_lt (blk_lt (g := gb185) (o := .cells #[.int .i64 x186000_1,.int .i64 x186001_1,.int .i64 x186002_1,.int .i64 x186003_1,.int .i64 x186004_1,.int .i64 x186005_1,.int .i64 x186006_1,.slice none 0 0] 24 (0,0)) Z188)) : p := h
theorem Z46 (h : p := by rw [hg];exact Nat.ne_of_gt (blk_lt (g := gb185) (o := .cells #[.int .i64 x186000_1,.int .i64 x186001_1,.int .i64 x186002_1,.int .i64 x186003_1,.int .i64 x186004_1,.int .i64 x186005_1,.int .i64 x186006_1,.slice none 0 0] 24 (0,0)) Z188)) : p := h
theorem Z47 (h : p := by rw [hg];exact (below_size Z138)) : p := h
theorem Z48 (h : p := by repeat (first | (with_reducible first | exact HB.out | apply below_alloc | apply pw_below_drewN | apply below_drew1 | refine below_set ?_ GE185.out | refine below_set ?_ GE186.out | refine below_set ?_ GE197.out | refine below_set ?_ GE224.out) | exact HB.out)) : p := h
theorem Z49 (h : p := by rw [hg];exact (below_size Z140)) : p := h
theorem Z50 (h : p := by exact GT_below HG.out Z139) : p := h
theorem Z51 (h : p := by rw [← hq_];exact Z139) : p := h
theorem Z52 (h : p := by first | exact HK.out.1 | exact (show Kept w _ (fun k_ => P0_7_ k_) from Z154).1) : p := h
theorem Z53 (h : p := by rw [hg];exact Nat.ne_of_lt (blk_lt (g := gb327) (o := .cells #[.int .i64 t314,.int .i64 t315,.int .i64 t316,.int .i64 t317,.int .i64 t318,.int .i64 t319,.int .i64 t320,.slice Ao11 t321.length co11] 24 (0,0)) Z171)) : p := h
theorem Z54 (h : p := by rw [hg];exact Nat.ne_of_gt (blk_lt (g := gb327) (o := .cells #[.int .i64 t314,.int .i64 t315,.int .i64 t316,.int .i64 t317,.int .i64 t318,.int .i64 t319,.int .i64 t320,.slice Ao11 t321.length co11] 24 (0,0)) Z171)) : p := h
theorem Z55 (h : p := by rw [hg];exact Nat.ne_of_lt (blk_lt (g := gb342) (o := .cells #[.int .i64 t329,.int .i64 t330,.int .i64 t331,.int .i64 t332,.int .i64 t333,.int .i64 t334,.int .i64 t335,.slice Ao20 t336.length co20] 24 (0,0)) Z172)) : p := h
theorem Z56 (h : p := by rw [hg];exact Nat.ne_of_gt (blk_lt (g := gb342) (o := .cells #[.int .i64 t329,.int .i64 t330,.int .i64 t331,.int .i64 t332,.int .i64 t333,.int .i64 t334,.int .i64 t335,.slice Ao20 t336.length co20] 24 (0,0)) Z172)) : p := h
theorem Z57 (h : p := by rw [hg];exact (below_size Z148)) : p := h
theorem Z58 (h : p := by rw [hg];exact (below_size Z147)) : p := h
theorem Z59 (h : p := by rw [hg];exact (below_size Z149)) : p := h
theorem Z60 (h : p := by repeat (first | (with_reducible first | exact HB.out | apply below_alloc | apply pw_below_drewN | apply below_drew1 | refine below_set ?_ GE165.out | refine below_set ?_ GE166.out) | exact HB.out)) : p := h
theorem Z61 (h : p := by repeat (first | (with_reducible first | exact HB.out | apply below_alloc | apply pw_below_drewN | apply below_drew1 | refine below_set ?_ GE302.out | refine below_set ?_ GE303.out) | exact HB.out)) : p := h
theorem Z62 (h : p := by rw [hg];exact (below_size Z156)) : p := h
theorem Z63 (h : p := by repeat (first | (with_reducible first | exact HB.out | apply below_alloc | apply pw_below_drewN | apply below_drew1 | refine below_set ?_ GE305.out | refine below_set ?_ GE306.out) | exact HB.out)) : p := h
theorem Z64 (h : p := by rw [hg];exact (below_size Z157)) : p := h
theorem Z65 (h : p := by repeat (first | exact (Kd.R_reads' HO_343007.out).2.2 | (with_reducible refine Kd.C_alloc ?_ _) | (with_reducible refine Kd.C_drewN ?_ _) | (with_reducible refine Kd.C_drew ?_))) : p := h
theorem Z66 (h : p := by repeat (first | exact (Kd.C_below HR0_7.out HB.out) | (with_reducible refine Kd.C_alloc ?_ _) | (with_reducible refine Kd.C_drewN ?_ _) | (with_reducible refine Kd.C_drew ?_))) : p := h
theorem Z67 (h : p := by repeat (first | exact (Kd.C_below HR1_7.out HB.out) | (with_reducible refine Kd.C_alloc ?_ _) | (with_reducible refine Kd.C_drewN ?_ _) | (with_reducible refine Kd.C_drew ?_))) : p := h
theorem Z68 (h : p := by repeat (first | exact (Kd.R_reads' HO274.out).2.2 | (with_reducible refine Kd.C_alloc ?_ _) | (with_reducible refine Kd.C_drewN ?_ _) | (with_reducible refine Kd.C_drew ?_))) : p := h
theorem Z69 (h : p := by repeat (first | exact (Kd.R_reads' HO_5.out).2.2 | (with_reducible refine Kd.C_alloc ?_ _) | (with_reducible refine Kd.C_drewN ?_ _) | (with_reducible refine Kd.C_drew ?_))) : p := h
theorem Z70 (h : p := by rw [← hq_];exact Z158) : p := h
theorem Z71 (h : p := by repeat (first | (with_reducible first | exact HK.out | apply Kept.alloc | apply Kept.drewN | apply Kept.drew | refine Kept.setCell ?_ (.inr GW308.out) _) | exact HK.out)) : p := h
theorem Z72 (h : p := by rw [hg];exact Nat.ne_of_lt (blk_lt (g := gb186) (o := .cells #[.int .i64 x187000_1,.int .i64 x187001_1,.int .i64 x187002_1] 26 (0,0)) Z169)) : p := h
theorem Z73 (h : p := by rw [hg];exact Nat.ne_of_gt (blk_lt (g := gb186) (o := .cells #[.int .i64 x187000_1,.int .i64 x187001_1,.int .i64 x187002_1] 26 (0,0)) Z169)) : p := h
theorem Z74 (h : p := by rw [← hq_];exact Z159) : p := h
theorem Z75 (h : p := by rw [← hq_];exact (by (with_reducible repeat (first | apply Kd.R_alloc | apply Kd.R_drewN | apply Kd.R_drew));exact Kd.R_mono HO_5.out (fun _ hk => ⟨hk.2,hk.1⟩))) : p := h
theorem Z76 (h : p := by repeat (first | (with_reducible first | exact HB.out | apply below_alloc | apply pw_below_drewN | apply below_drew1 | refine below_set ?_ GE312.out) | exact HB.out)) : p := h
theorem Z77 (h : p := by repeat (first | (with_reducible first | exact HB.out | apply below_alloc | apply pw_below_drewN | apply below_drew1 | refine below_set ?_ GE308.out) | exact HB.out)) : p := h
theorem Z78 (h : p := by (try simp only [List.map_toArray,List.map_cons,List.map_nil]);first | done | (simp only [hji64];rfl) | rfl | (simp only [List.length_drop,List.length_take];rfl)) : p := h
theorem Z79 (h : p := by exact GT_below HG.out Z186) : p := h
theorem Z80 (h : p := by exact (below_size Z186)) : p := h
theorem Z81 (h : p := by rw [hg];exact Nat.ne_of_lt (blk_lt (g := gb328) (o := .cells #[.int .i64 t324,.int .i64 t325,.int .i64 t326] 26 (0,0)) Z173)) : p := h
theorem Z82 (h : p := by rw [hg];exact Nat.ne_of_gt (blk_lt (g := gb328) (o := .cells #[.int .i64 t324,.int .i64 t325,.int .i64 t326] 26 (0,0)) Z173)) : p := h
theorem Z83 (h : p := by rw [hg];exact Nat.ne_of_lt (blk_lt (g := gb343) (o := .cells #[.int .i64 t339,.int .i64 t340,.int .i64 t341] 26 (0,0)) Z175)) : p := h
theorem Z84 (h : p := by rw [hg];exact Nat.ne_of_gt (blk_lt (g := gb343) (o := .cells #[.int .i64 t339,.int .i64 t340,.int .i64 t341] 26 (0,0)) Z175)) : p := h
theorem Z85 (h : p := by exact Z186) : p := h
theorem Z86 (h : p := by first | exact Kd.R_nil _ _ _ _ _ | exact Kd.N_nil _ _ _ _ _ | exact Kd.V_nil _ _ _ _ _ | exact Kd.Q_nil _ _ _ _ _ | exact Kd.S_nil _ _ _ _ _) : p := h
theorem Z87 (h : p := by (try simp only [List.map_toArray,List.map_cons,List.map_nil]);first | done | rfl | (simp only [List.length_drop,List.length_take];rfl)) : p := h
theorem Z88 (h : p := by rw [← hq_];exact Z161) : p := h
theorem Z89 (h : p := by exact by (with_reducible repeat (first | apply Kd.R_alloc | apply Kd.R_drewN | apply Kd.R_drew));exact HO_265007.out) : p := h
theorem Z90 (h : p := by exact Z168) : p := h
theorem Z91 (h : p := by exact Z166) : p := h
theorem Z92 (h : p := by (with_reducible repeat (first | apply Kd.R_alloc | apply Kd.R_drewN | apply Kd.R_drew));exact HO_166007.out) : p := h
theorem Z93 (h : p := by (with_reducible repeat (first | apply Kd.R_alloc | apply Kd.R_drewN | apply Kd.R_drew));exact HO_343007.out) : p := h
theorem Z94 (h : p := by (with_reducible repeat (first | apply Kd.R_alloc | apply Kd.R_drewN | apply Kd.R_drew));exact HO_328007.out) : p := h
theorem Z95 (h : p := by (with_reducible repeat (first | apply Kd.R_alloc | apply Kd.R_drewN | apply Kd.R_drew));exact HO222.out) : p := h
theorem Z96 (h : p := by (with_reducible repeat (first | apply Kd.R_alloc | apply Kd.R_drewN | apply Kd.R_drew));exact HO323.out) : p := h
theorem Z97 (h : p := by (with_reducible repeat (first | apply Kd.R_alloc | apply Kd.R_drewN | apply Kd.R_drew));exact HO178.out) : p := h
theorem Z98 (h : p := by (with_reducible repeat (first | apply Kd.R_alloc | apply Kd.R_drewN | apply Kd.R_drew));exact HO120.out) : p := h
theorem Z99 (h : p := by (with_reducible repeat (first | apply Kd.R_alloc | apply Kd.R_drewN | apply Kd.R_drew));exact HO358.out) : p := h
theorem Z100 (h : p := by (with_reducible repeat (first | apply Kd.R_alloc | apply Kd.R_drewN | apply Kd.R_drew));exact HO338.out) : p := h
theorem Z101 (h : p := by (with_reducible repeat (first | apply Kd.R_alloc | apply Kd.R_drewN | apply Kd.R_drew));exact HO260.out) : p := h
theorem Z102 (h : p := by (with_reducible repeat (first | apply Kd.R_alloc | apply Kd.R_drewN | apply Kd.R_drew));exact HO196.out) : p := h
theorem Z103 (h : p := by (with_reducible repeat (first | apply Kd.R_alloc | apply Kd.R_drewN | apply Kd.R_drew));exact HO290.out) : p := h
theorem Z104 (h : p := by (with_reducible repeat (first | apply Kd.R_alloc | apply Kd.R_drewN | apply Kd.R_drew));exact HO236.out) : p := h
theorem Z105 (h : p := by (with_reducible repeat (first | apply Kd.R_alloc | apply Kd.R_drewN | apply Kd.R_drew));exact HO200.out) : p := h
theorem Z106 (h : p := by (with_reducible repeat (first | apply Kd.R_alloc | apply Kd.R_drewN | apply Kd.R_drew));exact HO_0.out) : p := h
theorem Z107 (h : p := by first | rfl | (simp [errW_none,errW_some] <;> rfl) | (simp [*,errW_none,errW_some] <;> rfl)) : p := h
theorem Z108 (h : p := by simp only [putAll,Act.put,List.setIfInBounds_toArray,List.set_cons_zero,List.set_cons_succ]) : p := h
theorem Z109 (h : p := by have := HJ1.out;have := HJ6.out;have := HK3.out;first | omega | exact Nat.le_refl _) : p := h
theorem Z110 (h : p := by refine bP ?_;refine blk_far ?_ NB166_165.out _;refine bP ?_;exact BK166.out) : p := h
theorem Z111 (h : p := by have := HK1.out;have := HK2.out;first | omega | exact Nat.le_refl _) : p := h
theorem Z112 (h : p := by repeat (first | exact Drawn0.refl _ | apply Drawn0.step)) : p := h
theorem Z113 (h : p := by rw [← hq_];exact Z176) : p := h
theorem Z114 (h : p := by rw [← hq_];exact Z174) : p := h
theorem Z115 (h : p := by rw [← hq_];exact Z189) : p := h
theorem Z116 (h : p := by have := HJ1.out;first | omega | exact Nat.le_refl _) : p := h
theorem Z117 (h : p := by first | (with_reducible assumption) | assumption) : p := h
theorem Z118 (h : p := by first | rfl | (simp;done) | (simp [*];done)) : p := h
theorem Z119 (h : p := by first | (go_simp;done) | (go_simp;rfl)) : p := h
theorem Z120 (h : p := by first | omega | exact Nat.le_refl _) : p := h
theorem Z121 (h : p := by exact Kd.R_tight rfl HO_198007.out) : p := h
theorem Z122 (h : p := by exact (Kd.R_reads' HO274.out).2.1) : p := h
theorem Z123 (h : p := by refine bP ?_;exact BK165.out) : p := h
theorem Z124 (h : p := by refine bP ?_;exact BK166.out) : p := h
theorem Z125 (h : p := by refine bP ?_;exact BK224.out) : p := h
theorem Z126 (h : p := by refine bP ?_;exact BK362.out) : p := h
theorem Z127 (h : p := by refine bP ?_;exact BK363.out) : p := h
theorem Z128 (h : p := by exact (fun _ _ => trivial)) : p := h
theorem Z129 (h : p := by have := HK1.out;omega) : p := h
theorem Z130 (h : p := by exact (Reps.none _ _)) : p := h
theorem Z131 (h : p := by injection e207) : p := h
theorem Z132 (h : p := by injection e208) : p := h
theorem Z133 (h : p := by kernel_rfl) : p := h
theorem Z134 (h : p := by omega) : p := h
theorem Z135 (h : p := by rfl) : p := h
theorem Z136 (h : p := by repeat (first | (with_reducible first | exact HB.out | apply below_alloc | apply pw_below_drewN | apply below_drew1 | refine below_set ?_ GE327.out | refine below_set ?_ GE328.out | refine below_set ?_ GE342.out | refine below_set ?_ GE343.out | refine below_set ?_ GE362.out) | exact HB.out)) : p := h
theorem Z137 (h : p := by repeat (first | (with_reducible first | exact HB.out | apply below_alloc | apply pw_below_drewN | apply below_drew1 | refine below_set ?_ GE327.out | refine below_set ?_ GE328.out | refine below_set ?_ GE342.out | refine below_set ?_ GE343.out) | exact HB.out)) : p := h
theorem Z138 (h : p := by repeat (first | (with_reducible first | exact HB.out | apply below_alloc | apply pw_below_drewN | apply below_drew1 | refine below_set ?_ GE185.out | refine below_set ?_ GE186.out | refine below_set ?_ GE197.out) | exact HB.out)) : p := h
theorem Z139 (h : p := by repeat (first | (with_reducible first | exact HB.out | apply below_alloc | apply pw_below_drewN | apply below_drew1 | refine below_set ?_ GE249.out | refine below_set ?_ GE250.out | refine below_set ?_ GE264.out) | exact HB.out)) : p := h
theorem Z140 (h : p := by repeat (first | (with_reducible first | exact HB.out | apply below_alloc | apply pw_below_drewN | apply below_drew1 | refine below_set ?_ GE327.out | refine below_set ?_ GE328.out | refine below_set ?_ GE342.out) | exact HB.out)) : p := h
theorem Z141 (h : p := by repeat (first | (with_reducible first | exact HK.out | apply Kept.alloc | apply Kept.drewN | apply Kept.drew | refine Kept.setCell ?_ (.inr GW165.out) _ | refine Kept.setCell ?_ (.inr GW166.out) _) | exact HK.out)) : p := h
theorem Z142 (h : p := by rw [hg];exact Nat.ne_of_lt (blk_lt (g := gb249) (o := .cells #[.int .i64 0,.int .i64 0,.int .i64 0,.int .i64 0,.int .i64 0,.int .i64 0,.int .i64 0,.slice none 0 0] 24 (0,0)) Z189)) : p := h
theorem Z143 (h : p := by rw [hg];exact Nat.ne_of_lt (blk_lt (g := gb185) (o := .cells #[.int .i64 0,.int .i64 0,.int .i64 0,.int .i64 0,.int .i64 0,.int .i64 0,.int .i64 0,.slice none 0 0] 24 (0,0)) Z188)) : p := h
theorem Z144 (h : p := by rw [hg];exact Nat.ne_of_gt (blk_lt (g := gb249) (o := .cells #[.int .i64 0,.int .i64 0,.int .i64 0,.int .i64 0,.int .i64 0,.int .i64 0,.int .i64 0,.slice none 0 0] 24 (0,0)) Z189)) : p := h
theorem Z145 (h : p := by rw [hg];exact Nat.ne_of_gt (blk_lt (g := gb185) (o := .cells #[.int .i64 0,.int .i64 0,.int .i64 0,.int .i64 0,.int .i64 0,.int .i64 0,.int .i64 0,.slice none 0 0] 24 (0,0)) Z188)) : p := h
theorem Z146 (h : p := by first | exact HK.out.1 | exact (show Kept w _ (fun k_ => P0_7_ k_) from Z187).1) : p := h
theorem Z147 (h : p := by repeat (first | (with_reducible first | exact HB.out | apply below_alloc | apply pw_below_drewN | apply below_drew1 | refine below_set ?_ GE249.out | refine below_set ?_ GE250.out) | exact HB.out)) : p := h
theorem Z148 (h : p := by repeat (first | (with_reducible first | exact HB.out | apply below_alloc | apply pw_below_drewN | apply below_drew1 | refine below_set ?_ GE327.out | refine below_set ?_ GE328.out) | exact HB.out)) : p := h
theorem Z149 (h : p := by repeat (first | (with_reducible first | exact HB.out | apply below_alloc | apply pw_below_drewN | apply below_drew1 | refine below_set ?_ GE185.out | refine below_set ?_ GE186.out) | exact HB.out)) : p := h
theorem Z150 (h : p := by rw [hg];exact (below_size Z182)) : p := h
theorem Z151 (h : p := by rw [hg];exact (below_size Z183)) : p := h
theorem Z152 (h : p := by rw [hg];exact (below_size Z184)) : p := h
theorem Z153 (h : p := by rw [hg];exact (below_size Z185)) : p := h
theorem Z154 (h : p := by repeat (first | (with_reducible first | exact HK.out | apply Kept.alloc | apply Kept.drewN | apply Kept.drew | refine Kept.setCell ?_ (.inr GW165.out) _) | exact HK.out)) : p := h
theorem Z155 (h : p := by rw [hg];exact (below_size Z186)) : p := h
theorem Z156 (h : p := by repeat (first | (with_reducible first | exact HB.out | apply below_alloc | apply pw_below_drewN | apply below_drew1 | refine below_set ?_ GE165.out) | exact HB.out)) : p := h
theorem Z157 (h : p := by repeat (first | (with_reducible first | exact HB.out | apply below_alloc | apply pw_below_drewN | apply below_drew1 | refine below_set ?_ GE327.out) | exact HB.out)) : p := h
theorem Z158 (h : p := by (with_reducible repeat (first | apply Kd.R_alloc | apply Kd.R_drewN | apply Kd.R_drew));exact Kd.R_mono HO274.out (fun _ hk => ⟨hk.2,hk.1.2⟩)) : p := h
theorem Z159 (h : p := by (with_reducible repeat (first | apply Kd.R_alloc | apply Kd.R_drewN | apply Kd.R_drew));exact Kd.R_mono HO_20.out (fun _ hk => ⟨hk.2,hk.1⟩)) : p := h
theorem Z160 (h : p := by (with_reducible repeat (first | apply Kd.R_alloc | apply Kd.R_drewN | apply Kd.R_drew));exact HO_198007.out) : p := h
theorem Z161 (h : p := by (with_reducible repeat (first | apply Kd.R_alloc | apply Kd.R_drewN | apply Kd.R_drew));exact HO_265007.out) : p := h
theorem Z162 (h : p := by (with_reducible repeat (first | apply Kd.R_alloc | apply Kd.R_drewN | apply Kd.R_drew));exact HO0_7.out) : p := h
theorem Z163 (h : p := by (with_reducible repeat (first | apply Kd.R_alloc | apply Kd.R_drewN | apply Kd.R_drew));exact HO_20.out) : p := h
theorem Z164 (h : p := by (with_reducible repeat (first | apply Kd.R_alloc | apply Kd.R_drewN | apply Kd.R_drew));exact HO_10.out) : p := h
theorem Z165 (h : p := by (with_reducible repeat (first | apply Kd.R_alloc | apply Kd.R_drewN | apply Kd.R_drew));exact HO274.out) : p := h
theorem Z166 (h : p := by (with_reducible repeat (first | apply Kd.R_alloc | apply Kd.R_drewN | apply Kd.R_drew));exact HO_5.out) : p := h
theorem Z167 (h : p := by (with_reducible repeat (first | apply Kd.R_alloc | apply Kd.R_drewN | apply Kd.R_drew));exact HO_6.out) : p := h
theorem Z168 (h : p := by (with_reducible repeat (first | apply Kd.R_alloc | apply Kd.R_drewN | apply Kd.R_drew));exact HO_4.out) : p := h
theorem Z169 (h : p := by refine bP ?_;exact BK186.out) : p := h
theorem Z170 (h : p := by refine bP ?_;exact BK197.out) : p := h
theorem Z171 (h : p := by refine bP ?_;exact BK327.out) : p := h
theorem Z172 (h : p := by refine bP ?_;exact BK342.out) : p := h
theorem Z173 (h : p := by refine bP ?_;exact BK328.out) : p := h
theorem Z174 (h : p := by refine bP ?_;exact BK250.out) : p := h
theorem Z175 (h : p := by refine bP ?_;exact BK343.out) : p := h
theorem Z176 (h : p := by refine bP ?_;exact BK264.out) : p := h
theorem Z177 (h : p := by refine bP ?_;exact BK305.out) : p := h
theorem Z178 (h : p := by refine bP ?_;exact BK302.out) : p := h
theorem Z179 (h : p := by rw [hg];exact Z52) : p := h
theorem Z180 (h : p := by decide) : p := h
theorem Z181 (h : p := by simp) : p := h
theorem Z182 (h : p := by repeat (first | (with_reducible first | exact HB.out | apply below_alloc | apply pw_below_drewN | apply below_drew1 | refine below_set ?_ GE305.out) | exact HB.out)) : p := h
theorem Z183 (h : p := by repeat (first | (with_reducible first | exact HB.out | apply below_alloc | apply pw_below_drewN | apply below_drew1 | refine below_set ?_ GE302.out) | exact HB.out)) : p := h
theorem Z184 (h : p := by repeat (first | (with_reducible first | exact HB.out | apply below_alloc | apply pw_below_drewN | apply below_drew1 | refine below_set ?_ GE249.out) | exact HB.out)) : p := h
theorem Z185 (h : p := by repeat (first | (with_reducible first | exact HB.out | apply below_alloc | apply pw_below_drewN | apply below_drew1 | refine below_set ?_ GE185.out) | exact HB.out)) : p := h
theorem Z186 (h : p := by repeat (first | (with_reducible first | exact HB.out | apply below_alloc | apply pw_below_drewN | apply below_drew1) | exact HB.out)) : p := h
theorem Z187 (h : p := by repeat (first | (with_reducible first | exact HK.out | apply Kept.alloc | apply Kept.drewN | apply Kept.drew) | exact HK.out)) : p := h
theorem Z188 (h : p := by refine bP ?_;exact BK185.out) : p := h
theorem Z189 (h : p := by refine bP ?_;exact BK249.out) : p := h
end



def errW : Option Int → Value
 | none => .nilIface
 | some c => .iface 0 (.int .i64 c)
theorem errW_none : errW none = .nilIface := rfl
theorem errW_some (c : Int) : errW (some c) = .iface 0 (.int .i64 c) := rfl

theorem info3 : (Tryd.prog.info? 3).map (fun i => (i.zero, i.size, i.bytes)) = some (some (.int .i64 0), 1, 8) := by kernel_rfl
theorem info4 : (Tryd.prog.info? 4).map (fun i => (i.zero, i.size, i.bytes)) = some (some (.bool false), 1, 1) := by kernel_rfl
theorem info5 : (Tryd.prog.info? 5).map (fun i => (i.zero, i.size, i.bytes)) = some (some (.int .u8 0), 1, 1) := by kernel_rfl
theorem info9 : (Tryd.prog.info? 9).map (fun i => (i.zero, i.size, i.bytes)) = some (some (.string ⟨#[]⟩), 1, 16) := by kernel_rfl
-- the values' own types

theorem bA {w : World} {g : Nat} {o : Obj} (h : w.heap[g]? = some o) (n : Nat) : (w.drewN n).heap[g]? = some o := blk_drewN h n
theorem bB {w : World} {g : Nat} {o : Obj} (h : w.heap[g]? = some o) : w.drew.heap[g]? = some o := blk_drew h
theorem bC {w : World} {g : Nat} {o : Obj} (h : w.heap[g]? = some o) (o' : Obj) : (w.alloc o').heap[g]? = some o := blk_alloc h o'
theorem bP {p q : Prop} (x : q) (h : q → p := by (intro h_; (with_reducible repeat (first | refine bA ?_ _ | refine bB ?_ | refine bC ?_ _)); exact h_)) : p := h x
end Go.Proofs.YtepnbcdbagjmbacDoor.QFnExactReadConfig
