/- The machine side of FnGrid: what each Go function that it reaches comes to. Conditions: none. -/
import Derived.Test.YtlflcgdcegohjabProg
import Derived.Below
import Derived.Deep.Draws
import Derived.Deep.AppendLies
import Derived.Maps.AppendAt
import Derived.OwnWalk
import Derived.Laws.BytesArg
import Derived.Laws.MakeOwn
import Derived.Laws.OwnMore
import Derived.Deep.OwnRows
import Derived.Tactics
import Derived.Lib.ConvBytes
import Derived.Laws.Slices
import Derived.WalkKit
import Derived.KernelRfl
import Derived.RowKit3
import Derived.Deep.LoopGhost
import Derived.Deep.QuietTactic
import Derived.BigQuiet
import Derived.WideLaws
import Derived.Deep.DeepCutAuto
import Derived.Deep.CutBlock
import Derived.Deep.RegionHeld3
import Derived.Laws.Rows
import Derived.Lib.AppendStr
import Derived.ArgAppend
import Derived.Laws.IdiomCopy
import Derived.OrdersHeld
import Derived.Laws.BitsLemmas
import Derived.RowKit
import Derived.Laws.Externs
import Derived.Test.YtlflcgdcegohjabShelf
import Derived.Sort.OwnSortedInts
import Derived.Test.YtlflcgdcegohjabWWords
import Derived.Test.YtlflcgdcegohjabWLast
import Derived.Test.YtlflcgdcegohjabWTab
import Derived.Test.YtlflcgdcegohjabWFour
import Derived.Test.YtlflcgdcegohjabWQPut
import Derived.Test.YtlflcgdcegohjabWApart
import Derived.Test.YtlflcgdcegohjabWArr
import Derived.Test.YtlflcgdcegohjabWZeros
import Derived.Test.YtlflcgdcegohjabWFoot
import Derived.Test.YtlflcgdcegohjabWKept
import Derived.Test.YtlflcgdcegohjabWShare
import Derived.Test.YtlflcgdcegohjabWN
import Derived.Test.YtlflcgdcegohjabWFootNe
import Derived.Test.YtlflcgdcegohjabWAt
import Derived.Test.YtlflcgdcegohjabWEqStruct
import Derived.Test.YtlflcgdcegohjabWRepsOne
import Derived.Test.YtlflcgdcegohjabWInv
import Derived.Test.YtlflcgdcegohjabWInvWords
import Derived.Test.YtlflcgdcegohjabWGuard
import Derived.Test.YtlflcgdcegohjabWNEv
import Derived.Test.YtlflcgdcegohjabWMore
namespace Go.Proofs.Ytlflcgdcegohjab.QFnGrid
open Go.RowKit Go.Proofs.YtlflcgdcegohjabW.PrintWords Go.Proofs.YtlflcgdcegohjabW.PrintLast Go.Proofs.YtlflcgdcegohjabW.PrintMore
attribute [local go_sem] max2_int min2_int max_two min_two max_three min_three max_four min_four   -- for this text's walks alone
set_option linter.unusedVariables false
set_option linter.unusedSimpArgs false
section
variable {P : Program} {md : Region.Mode} {ops : Array Oper} {Q : Exit → Act → World → Prop} {S : World → Prop} {ds : List Nat} {T : Bool × List (List Nat × List Nat)} {B : List Nat} {fuel : Nat} {l : Array Bool} {a a' : Act} {w : World} {oi : Oper} {v : Value}
def qB : Nat → Nat → List Bool
  | 0, _ => []
  | n + 1, m => (m % 2 == 1) :: qB n (m / 2)
def qM (n m : Nat) : Array Bool := (qB n m).toArray
theorem ifp {α : Type} {c : Prop} [Decidable c] {x : Option α} {r : α} (h : (if c then x else none) = some r) : c ∧ x = some r := by
  by_cases k : c
  · rw [if_pos k] at h; exact ⟨k, h⟩
  · rw [if_neg k] at h; exact absurd h (by simp)
theorem zR {p : Prop} (h : p := by first | (rw [hyy];with_reducible exact H) | (have H2_ := (Option.bind_some _ _).symm.trans H;rw [hyy];with_reducible exact H2_) | (have H2_ := (Option.bind_some _ _).symm.trans H;with_reducible exact H2_) | with_reducible exact H | (rw [hyy];exact H) | exact H) : p := h
theorem dD {w : World} {m n : Nat} : (w.drewN m).drewN n = w.drewN (m + n) := World.drewN_drewN _ _ _
theorem dT {w : World} {m n k : Nat} : (w.drewN (m + n)).drewN k = w.drewN (m + (n + k)) := Eq.trans (World.drewN_drewN _ _ _) (congrArg (World.drewN _) (Nat.add_assoc _ _ _))
theorem bc {W : World} {g t : Nat} {cs : Array Value} (h : Aside0 (W.heap[g]? = some (.cells cs t (0, 0)))) (j : Nat) {v : Value} (hj : cs[j]? = some v := by rfl) : W.cell? ⟨g, j, none⟩ = some v := (blk_cell h.out j).trans hj
theorem rP (i : Nat) (N : Tmp) (n m : Nat) (HT_ : Aside0 (rtab md ops = T)) (hi : ops[i]? = some oi := by rfl) (hN : oi.dst = some N := by rfl) (hc : anyT T l.toList (qM n m).toList i = true := by kernel_rfl) (hQ : ∀ c a w, Q (.panic c) (a.put oi.dst v) w → Q (.panic c) a w := by exact fun _ _ _ h => h) (hy : Region.wanted oi (yielded ops a.tmps) = true := by rfl) (hr : ∀ w, (execOp a.eval oi).run P w = .ok (.value v) w := by intro w'; go_simp; with_reducible rfl) (ha : a.put (some N) v = a' := by simp only [Act.put, List.setIfInBounds_toArray, List.set_cons_zero, List.set_cons_succ, i64_w, i32_w]; rfl) (h : wpAnyLast P md ops Q S ds fuel (qM n m) a' w) : wpAnyLast P md ops Q S ds (fuel + 1) l a w :=
  pure_ (qM n m) hi hN (any_of HT_.out hc) hQ (Or.inl ⟨hy, hr⟩) ha h
theorem rU (i : Nat) (N : Tmp) (n m : Nat) (HT_ : Aside0 (rtab md ops = T)) (hi : ops[i]? = some oi := by rfl) (hN : oi.dst = some N := by rfl) (hc : anyT T l.toList (qM n m).toList i = true := by kernel_rfl) (hQ : ∀ c a w, Q (.panic c) (a.put oi.dst undef) w → Q (.panic c) a w := by exact fun _ _ _ h => h) (hy : Region.wanted oi (yielded ops a.tmps) = false := by rfl) (ha : a.put (some N) undef = a' := by simp only [Act.put, List.setIfInBounds_toArray, List.set_cons_zero, List.set_cons_succ, i64_w, i32_w]; rfl) (h : wpAnyLast P md ops Q S ds fuel (qM n m) a' w) : wpAnyLast P md ops Q S ds (fuel + 1) l a w :=
  pure_ (qM n m) hi hN (any_of HT_.out hc) hQ (Or.inr ⟨hy, rfl⟩) ha h
theorem rO (i : Nat) (N : Tmp) (n m : Nat) (HT_ : Aside0 (rtab md ops = T)) (hi : ops[i]? = some oi := by rfl) (hN : oi.dst = some N := by rfl) (hc : (readyT T.2 l.toList == [i] && l.toList.set i true == (qM n m).toList) = true := by kernel_rfl) (hd : i ∉ ds := by decide) (h : ∀ K : Act → World → Prop, Shut (∀ a' w', S w' → (S w' → wpAnyLast P md ops Q S ds fuel (qM n m) a' w') → K a' w') → if Region.wanted oi (yielded ops a.tmps) = true then Oper.wp P oi a w K Q else K (a.put (some N) undef) w) : wpAnyLast P md ops Q S ds (fuel + 1) l a w :=
  one_ (qM n m) hi hN (one_of HT_.out hc) hd h
theorem sP (i : Nat) (N : Tmp) (n m : Nat) (hi : ops[i]? = some oi := by rfl) (hN : oi.dst = some N := by rfl) (hc : anyB md ops l (qM n m) i = true := by kernel_rfl) (hQ : ∀ c a w, Q (.panic c) (a.put oi.dst v) w → Q (.panic c) a w := by exact fun _ _ _ h => h) (hy : Region.wanted oi (yielded ops a.tmps) = true := by rfl) (hr : ∀ w, (execOp a.eval oi).run P w = .ok (.value v) w := by intro w'; go_simp; with_reducible rfl) (ha : a.put (some N) v = a' := by simp only [Act.put, List.setIfInBounds_toArray, List.set_cons_zero, List.set_cons_succ, i64_w, i32_w]; rfl) (h : wpAnyLast P md ops Q S ds fuel (qM n m) a' w) : wpAnyLast P md ops Q S ds (fuel + 1) l a w :=
  pure_ (qM n m) hi hN hc hQ (Or.inl ⟨hy, hr⟩) ha h
theorem sU (i : Nat) (N : Tmp) (n m : Nat) (hi : ops[i]? = some oi := by rfl) (hN : oi.dst = some N := by rfl) (hc : anyB md ops l (qM n m) i = true := by kernel_rfl) (hQ : ∀ c a w, Q (.panic c) (a.put oi.dst undef) w → Q (.panic c) a w := by exact fun _ _ _ h => h) (hy : Region.wanted oi (yielded ops a.tmps) = false := by rfl) (ha : a.put (some N) undef = a' := by simp only [Act.put, List.setIfInBounds_toArray, List.set_cons_zero, List.set_cons_succ, i64_w, i32_w]; rfl) (h : wpAnyLast P md ops Q S ds fuel (qM n m) a' w) : wpAnyLast P md ops Q S ds (fuel + 1) l a w :=
  pure_ (qM n m) hi hN hc hQ (Or.inr ⟨hy, rfl⟩) ha h
theorem sO (i : Nat) (N : Tmp) (n m : Nat) (hi : ops[i]? = some oi := by rfl) (hN : oi.dst = some N := by rfl) (hc : readyB md ops l (qM n m) i = true := by kernel_rfl) (hd : i ∉ ds := by decide) (h : ∀ K : Act → World → Prop, Shut (∀ a' w', S w' → (S w' → wpAnyLast P md ops Q S ds fuel (qM n m) a' w') → K a' w') → if Region.wanted oi (yielded ops a.tmps) = true then Oper.wp P oi a w K Q else K (a.put (some N) undef) w) : wpAnyLast P md ops Q S ds (fuel + 1) l a w :=
  one_ (qM n m) hi hN hc hd h
theorem rT2 (i : Nat) (N : Tmp) (n m : Nat) (HT_ : Aside0 (rtab md ops = T)) (HW_ : Aside0 (waitsOk T.2 B = true)) (hS : S w) (hi : ops[i]? = some oi := by rfl) (hN : oi.dst = some N := by rfl) (hc : takeW T B ds l.toList (qM n m).toList i = true := by kernel_rfl) (hQ : ∀ c a w, Q (.panic c) (a.put oi.dst v) w → Q (.panic c) a w := by exact fun _ _ _ h => h) (hy : Region.wanted oi (yielded ops a.tmps) = true := by rfl) (hr : ∀ w, S w → (execOp a.eval oi).run P w = .ok (.value v) w := by rintro w' ⟨s0, s1⟩; go_simp; with_reducible rfl) (ha : a.put (some N) v = a' := by simp only [Act.put, List.setIfInBounds_toArray, List.set_cons_zero, List.set_cons_succ, i64_w, i32_w]; rfl) (h : wpAnyLast P md ops Q S ds fuel (qM n m) a' w) : wpAnyLast P md ops Q S ds (fuel + 1) l a w :=
  take_ (qM n m) hi hN (take_ofW HT_.out HW_.out hc) hQ (Or.inl ⟨hy, hr⟩) hS ha h
theorem rT3 (i : Nat) (N : Tmp) (n m : Nat) (HT_ : Aside0 (rtab md ops = T)) (HW_ : Aside0 (waitsOk T.2 B = true)) (hS : S w) (hi : ops[i]? = some oi := by rfl) (hN : oi.dst = some N := by rfl) (hc : takeW T B ds l.toList (qM n m).toList i = true := by kernel_rfl) (hQ : ∀ c a w, Q (.panic c) (a.put oi.dst v) w → Q (.panic c) a w := by exact fun _ _ _ h => h) (hy : Region.wanted oi (yielded ops a.tmps) = true := by rfl) (hr : ∀ w, S w → (execOp a.eval oi).run P w = .ok (.value v) w := by rintro w' ⟨s0, s1, s2⟩; go_simp; with_reducible rfl) (ha : a.put (some N) v = a' := by simp only [Act.put, List.setIfInBounds_toArray, List.set_cons_zero, List.set_cons_succ, i64_w, i32_w]; rfl) (h : wpAnyLast P md ops Q S ds fuel (qM n m) a' w) : wpAnyLast P md ops Q S ds (fuel + 1) l a w :=
  take_ (qM n m) hi hN (take_ofW HT_.out HW_.out hc) hQ (Or.inl ⟨hy, hr⟩) hS ha h
theorem sT4 (i : Nat) (N : Tmp) (n m : Nat) (hS : S w) (hi : ops[i]? = some oi := by rfl) (hN : oi.dst = some N := by rfl) (hc : takeB md ops ds l (qM n m) i = true := by kernel_rfl) (hQ : ∀ c a w, Q (.panic c) (a.put oi.dst v) w → Q (.panic c) a w := by exact fun _ _ _ h => h) (hy : Region.wanted oi (yielded ops a.tmps) = true := by rfl) (hr : ∀ w, S w → (execOp a.eval oi).run P w = .ok (.value v) w := by rintro w' ⟨s0, s1, s2, s3⟩; go_simp; with_reducible rfl) (ha : a.put (some N) v = a' := by simp only [Act.put, List.setIfInBounds_toArray, List.set_cons_zero, List.set_cons_succ, i64_w, i32_w]; rfl) (h : wpAnyLast P md ops Q S ds fuel (qM n m) a' w) : wpAnyLast P md ops Q S ds (fuel + 1) l a w :=
  take_ (qM n m) hi hN hc hQ (Or.inl ⟨hy, hr⟩) hS ha h
theorem rT4 (i : Nat) (N : Tmp) (n m : Nat) (HT_ : Aside0 (rtab md ops = T)) (HW_ : Aside0 (waitsOk T.2 B = true)) (hS : S w) (hi : ops[i]? = some oi := by rfl) (hN : oi.dst = some N := by rfl) (hc : takeW T B ds l.toList (qM n m).toList i = true := by kernel_rfl) (hQ : ∀ c a w, Q (.panic c) (a.put oi.dst v) w → Q (.panic c) a w := by exact fun _ _ _ h => h) (hy : Region.wanted oi (yielded ops a.tmps) = true := by rfl) (hr : ∀ w, S w → (execOp a.eval oi).run P w = .ok (.value v) w := by rintro w' ⟨s0, s1, s2, s3⟩; go_simp; with_reducible rfl) (ha : a.put (some N) v = a' := by simp only [Act.put, List.setIfInBounds_toArray, List.set_cons_zero, List.set_cons_succ, i64_w, i32_w]; rfl) (h : wpAnyLast P md ops Q S ds fuel (qM n m) a' w) : wpAnyLast P md ops Q S ds (fuel + 1) l a w :=
  take_ (qM n m) hi hN (take_ofW HT_.out HW_.out hc) hQ (Or.inl ⟨hy, hr⟩) hS ha h
theorem rT5 (i : Nat) (N : Tmp) (n m : Nat) (HT_ : Aside0 (rtab md ops = T)) (HW_ : Aside0 (waitsOk T.2 B = true)) (hS : S w) (hi : ops[i]? = some oi := by rfl) (hN : oi.dst = some N := by rfl) (hc : takeW T B ds l.toList (qM n m).toList i = true := by kernel_rfl) (hQ : ∀ c a w, Q (.panic c) (a.put oi.dst v) w → Q (.panic c) a w := by exact fun _ _ _ h => h) (hy : Region.wanted oi (yielded ops a.tmps) = true := by rfl) (hr : ∀ w, S w → (execOp a.eval oi).run P w = .ok (.value v) w := by rintro w' ⟨s0, s1, s2, s3, s4⟩; go_simp; with_reducible rfl) (ha : a.put (some N) v = a' := by simp only [Act.put, List.setIfInBounds_toArray, List.set_cons_zero, List.set_cons_succ, i64_w, i32_w]; rfl) (h : wpAnyLast P md ops Q S ds fuel (qM n m) a' w) : wpAnyLast P md ops Q S ds (fuel + 1) l a w :=
  take_ (qM n m) hi hN (take_ofW HT_.out HW_.out hc) hQ (Or.inl ⟨hy, hr⟩) hS ha h
theorem rT6 (i : Nat) (N : Tmp) (n m : Nat) (HT_ : Aside0 (rtab md ops = T)) (HW_ : Aside0 (waitsOk T.2 B = true)) (hS : S w) (hi : ops[i]? = some oi := by rfl) (hN : oi.dst = some N := by rfl) (hc : takeW T B ds l.toList (qM n m).toList i = true := by kernel_rfl) (hQ : ∀ c a w, Q (.panic c) (a.put oi.dst v) w → Q (.panic c) a w := by exact fun _ _ _ h => h) (hy : Region.wanted oi (yielded ops a.tmps) = true := by rfl) (hr : ∀ w, S w → (execOp a.eval oi).run P w = .ok (.value v) w := by rintro w' ⟨s0, s1, s2, s3, s4, s5⟩; go_simp; with_reducible rfl) (ha : a.put (some N) v = a' := by simp only [Act.put, List.setIfInBounds_toArray, List.set_cons_zero, List.set_cons_succ, i64_w, i32_w]; rfl) (h : wpAnyLast P md ops Q S ds fuel (qM n m) a' w) : wpAnyLast P md ops Q S ds (fuel + 1) l a w :=
  take_ (qM n m) hi hN (take_ofW HT_.out HW_.out hc) hQ (Or.inl ⟨hy, hr⟩) hS ha h
theorem rN (ha : a = a' := by show Act.put _ (some _) _ = _; simp only [Act.put, List.setIfInBounds_toArray, List.set_cons_zero, List.set_cons_succ, i64_w, i32_w]; rfl) (h : wpAnyLast P md ops Q S ds fuel l a' w) : wpAnyLast P md ops Q S ds fuel l a w := norm_ ha h
end
section
theorem jA {a b : Prop} (x : a) (y : b) : Aside0 a ∧ b := ⟨.mk x, y⟩
theorem jB {a b : Prop} (x : a) (y : b) : a ∧ b := ⟨x, y⟩
theorem cells1 {w : World} {g : Nat} {t : TypeId} {a0 : Value} (h : w.heap[g]? = some (.cells #[a0] t (0,0))) : w.cell? ⟨g,0,none⟩ = some a0 ∧ w.frozen? ⟨g,0,none⟩ = false := ⟨(blk_cell h 0).trans rfl,blk_frozen h 0⟩
theorem cells2 {w : World} {g : Nat} {t : TypeId} {a0 a1 : Value} (h : w.heap[g]? = some (.cells #[a0,a1] t (0,0))) : w.cell? ⟨g,0,none⟩ = some a0 ∧ w.cell? ⟨g,1,none⟩ = some a1 ∧ w.frozen? ⟨g,0,none⟩ = false ∧ w.frozen? ⟨g,1,none⟩ = false := ⟨(blk_cell h 0).trans rfl,(blk_cell h 1).trans rfl,blk_frozen h 0,blk_frozen h 1⟩
theorem cells4 {w : World} {g : Nat} {t : TypeId} {a0 a1 a2 a3 : Value} (h : w.heap[g]? = some (.cells #[a0,a1,a2,a3] t (0,0))) : w.cell? ⟨g,0,none⟩ = some a0 ∧ w.cell? ⟨g,1,none⟩ = some a1 ∧ w.cell? ⟨g,2,none⟩ = some a2 ∧ w.cell? ⟨g,3,none⟩ = some a3 ∧ w.frozen? ⟨g,0,none⟩ = false ∧ w.frozen? ⟨g,1,none⟩ = false ∧ w.frozen? ⟨g,2,none⟩ = false ∧ w.frozen? ⟨g,3,none⟩ = false := ⟨(blk_cell h 0).trans rfl,(blk_cell h 1).trans rfl,(blk_cell h 2).trans rfl,(blk_cell h 3).trans rfl,blk_frozen h 0,blk_frozen h 1,blk_frozen h 2,blk_frozen h 3⟩
theorem bE {P : Program} {ops : Array Oper} {Q : Exit → Act → World → Prop} {rest : List Oper} {o : Oper} {a : Act} {W : World} (N : Tmp) (cs : Array Value) (t : TypeId) (hgd : o.guard = none := by rfl) (hd : o.dst = some N := by rfl)
    (hrun : (execOp a.eval o).run P W = .ok (.value (.pointer (some ⟨W.heap.size, 0, none⟩))) (W.alloc (.cells cs t (0, 0))) := by first | (go_simp; done) | (go_simp; rfl))
    (h : ∀ g, g = W.heap.size → ∀ w1, w1.heap[g]? = some (.cells cs t (0, 0)) → Below W.heap.size W w1 → wpList P ops Q rest (a.put o.dst (.pointer (some ⟨g, 0, none⟩))) w1) : wpList P ops Q (o :: rest) a W := box_event hgd hd hrun h
variable {p : Prop}
theorem Z1 (h : p := by exact jA (Kd.R_mono (Kd.R_keep (IsS53.apart (show IsS53 w0 _ g s0_0 x1001_3 x1002_3 from Z259) Z310 Z330) hk (fun _ h => h.2)) (fun _ h => h.1)) (jA (Kd.R_mono (Kd.R_keep (IsS53.apart (show IsS53 w0 _ g s0_0 x1001_3 x1002_3 from Z259) Z293 Z330) hk (fun _ h => h.2)) (fun _ h => h.1)) (jA (Kd.S_mono (Kd.S_keep (IsS53.apartS (show IsS53 w0 _ g s0_0 x1001_3 x1002_3 from Z259) Z295 Z330) hk (fun _ h => h.2)) (fun _ h => h.1)) (jA (Kd.R_mono (Kd.R_keep (IsS53.apart (show IsS53 w0 _ g s0_0 x1001_3 x1002_3 from Z259) Z294 Z330) hk (fun _ h => h.2)) (fun _ h => h.1)) (jA (KeepBut.blk hk (g' := gb150) (o := .cells #[.slice none 0 0,.string (⟨#[]⟩ : ByteArray),.slice none 0 0,.slice none 0 0] 28 (0,0)) Z320 NB150_0.out Z332) (jA (KeepBut.blk hk (g' := gb167) (o := .cells #[.slice Ao19 y164.length co19,.string (⟨#[121]⟩ : ByteArray),u168002,u168003] 28 (0,0)) Z321 NB167_0.out Z332) (jA (KeepBut.trans Z264 hk (.inl rfl)) (jA (hb) (Aside0.mk (hi)))))))))) : p := h
theorem Z2 (h : p := by exact jA (Kd.R_over' Z293 (Kd.R_typed Z310) Z330 hg) (jA (Kd.S_after (ok := (fun k_ => some k_ ≠ (u168003 : Value).ownBlock)) Z287 hg hat) (jA (Kd.R_after (ok := (fun _ => True)) (by (with_reducible repeat (first | apply Kd.R_alloc | apply Kd.R_drewN | apply Kd.R_drew));exact Kd.R_mono HO_168003.out (fun _ hk => ⟨trivial,hk⟩)) hg hat) (jA (blk_grown (g := gb150) (o := .cells #[.slice none 0 0,.string (⟨#[]⟩ : ByteArray),.slice none 0 0,.slice none 0 0] 28 (0,0)) Z320 hg (Kd.R_ne HO_8.out BK150.out Z330)) (jA (blk_grown (g := gb167) (o := .cells #[.slice Ao19 y164.length co19,.string (⟨#[121]⟩ : ByteArray),u168002,u168003] 28 (0,0)) Z321 hg (Kd.R_ne HO_8.out BK167.out Z330)) (jA (IsS53.grown Z258 hg (IsS53.own_ne HI0.out HO_8.out Z330)) (jA (below_weaken Z260 HL.out hb) (jA (KeepBut.trans Z264 (KeepBut.of_grown hg g) (Kd.R_base2 HO_8.out)) (Aside0.mk (ho)))))))))) : p := h
theorem Z3 (h : p := by exact jA (Kd.R_over' Z293 (Kd.S_typed Z295) Z330 hg) (jA (Kd.R_over' Z294 (Kd.S_typed Z295) Z330 hg) (jA (blk_grown (g := gb150) (o := .cells #[.slice none 0 0,.string (⟨#[]⟩ : ByteArray),.slice none 0 0,.slice none 0 0] 28 (0,0)) Z320 hg (Kd.S_ne HO_168002.out BK150.out Z330)) (jA (blk_grown (g := gb167) (o := .cells #[.slice Ao19 y164.length co19,.string (⟨#[121]⟩ : ByteArray),u168002,u168003] 28 (0,0)) Z321 hg (Kd.S_ne HO_168002.out BK167.out Z330)) (jA (IsS53.grown Z258 hg (IsS53.own_neS HI0.out HO_168002.out Z330)) (jA (below_weaken Z260 HL.out hb) (jA (KeepBut.trans Z264 (KeepBut.of_grown hg g) (Kd.S_base2 HO_168002.out)) (Aside0.mk (ho))))))))) : p := h
theorem Z4 (h : p := by exact jA (blk_below (g := gb604) (o := .cells #[.slice (some ad608) l0_0.length c0_0,.slice A0_1 l0_1.length c0_1] 32 (0,0)) Z325 hb) (jA (below_step Z333 hb) (jA (hbox) (jA ((Z269 : w.heap.size ≤ gb609)) (jA ((Z269 : w.heap.size ≤ gb609)) (jA ((by rw [hg];exact Nat.ne_of_lt (blk_lt (g := gb604) (o := .cells #[.slice (some ad608) l0_0.length c0_0,.slice A0_1 l0_1.length c0_1] 32 (0,0)) Z325) : gb604 ≠ gb609)) (Aside0.mk ((by rw [hg];exact Nat.ne_of_gt (blk_lt (g := gb604) (o := .cells #[.slice (some ad608) l0_0.length c0_0,.slice A0_1 l0_1.length c0_1] 32 (0,0)) Z325) : gb609 ≠ gb604))))))))) : p := h
theorem Z5 (h : p := by exact jA (Kd.R_below Z297 hb) (jA (Kd.N_below Z300 hb) (jA (Kd.R_below Z296 hb) (jA (Kd.N_below Z299 hb) (jA (Kd.N_below Z298 hb) (jA (blk_below (g := gb646) (o := .cells #[.slice Ao9 t635.length co9,.string t638,.slice Ao11 t639.length co11,.slice Ao12 t642.length co12] 28 (0,0)) Z322 hb) (jA (blk_below (g := gb653) (o := .cells #[.slice Ao15 t647.length co15,.slice Ao18 t650.length co18] 32 (0,0)) Z323 hb) (Aside0.mk (below_step Z265 hb))))))))) : p := h
theorem Z6 (h : p := by exact jA (blk_below (g := gb595) (o := .cells #[.slice A0_0 l0_0.length c0_0,.slice A0_1 l0_1.length c0_1] 32 (0,0)) Z328 hb) (jA (below_step Z334 hb) (jA (hbox) (jA ((Z270 : w.heap.size ≤ gb596)) (jA ((Z270 : w.heap.size ≤ gb596)) (jA ((by rw [hg];exact Nat.ne_of_lt (blk_lt (g := gb595) (o := .cells #[.slice A0_0 l0_0.length c0_0,.slice A0_1 l0_1.length c0_1] 32 (0,0)) Z328) : gb595 ≠ gb596)) (Aside0.mk ((by rw [hg];exact Nat.ne_of_gt (blk_lt (g := gb595) (o := .cells #[.slice A0_0 l0_0.length c0_0,.slice A0_1 l0_1.length c0_1] 32 (0,0)) Z328) : gb596 ≠ gb595))))))))) : p := h
theorem Z7 (h : p := by exact jA (blk_below (g := gb437) (o := .cells #[.slice A0_0 l0_0.length c0_0,.slice A0_1 l0_1.length c0_1] 32 (0,0)) Z329 hb) (jA (below_step Z335 hb) (jA (hbox) (jA ((Z271 : w.heap.size ≤ gb438)) (jA ((Z271 : w.heap.size ≤ gb438)) (jA ((by rw [hg];exact Nat.ne_of_lt (blk_lt (g := gb437) (o := .cells #[.slice A0_0 l0_0.length c0_0,.slice A0_1 l0_1.length c0_1] 32 (0,0)) Z329) : gb437 ≠ gb438)) (Aside0.mk ((by rw [hg];exact Nat.ne_of_gt (blk_lt (g := gb437) (o := .cells #[.slice A0_0 l0_0.length c0_0,.slice A0_1 l0_1.length c0_1] 32 (0,0)) Z329) : gb438 ≠ gb437))))))))) : p := h
theorem Z8 (h : p := by exact (fun k_ hk => ⟨(Nat.le_trans (below_size Z261) hk),Kd.fresh' (Kd.R_lt Z301) k_ hk,Kd.fresh' (Kd.N_lt Z292) k_ hk,Kd.fresh' (Kd.N_lt Z306) k_ hk,Kd.freshB (g := gb398) (o := .cells #[.slice A0_0 l0_0.length c0_0,.string a0_1,.slice A0_2 l0_2.length c0_2,.slice A0_3 l0_3.length c0_3] 28 (0,0)) Z317 k_ hk,Kd.freshB (g := gb399) (o := .cells #[.slice none 0 0,.slice none 0 0] 32 (0,0)) Z318 k_ hk,Kd.freshB (g := gb400) (o := .cells #[.slice Ao53 x401000_2.length co53,.slice Ao54 x401001_2.length co54] 32 (0,0)) Z319 k_ hk⟩)) : p := h
theorem Z9 (h : p := by exact jA (blk_below (g := gb566) (o := .cells #[.slice A0_0 l0_0.length c0_0,.string a0_1,.slice A0_2 l0_2.length c0_2,.slice A0_3 l0_3.length c0_3] 28 (0,0)) (by refine bP ?_;refine blk_far ?_ NB566_568.out _;refine bP ?_;refine blk_far ?_ NB566_568.out _;refine bP ?_;exact BK566.out) hb) (jA (blk_below (g := gb567) (o := .cells #[.slice none 0 0,.slice none 0 0] 32 (0,0)) (by refine bP ?_;refine blk_far ?_ NB567_568.out _;refine bP ?_;refine blk_far ?_ NB567_568.out _;refine bP ?_;exact BK567.out) hb) (jA (blk_below (g := gb568) (o := .cells #[.slice none 0 0,.slice none 0 0] 32 (0,0)) (by refine bP ?_;refine blk_put (cs := #[.slice none 0 0,.slice none 0 0]) ?_ 1 _ rfl;refine bP ?_;refine blk_put (cs := #[.slice none 0 0,.slice none 0 0]) ?_ 0 _ rfl;refine bP ?_;exact BK568.out) hb) (Aside0.mk (below_step Z262 hb))))) : p := h
theorem Z10 (h : p := by exact jA (blk_below (g := gb398) (o := .cells #[.slice A0_0 l0_0.length c0_0,.string a0_1,.slice A0_2 l0_2.length c0_2,.slice A0_3 l0_3.length c0_3] 28 (0,0)) Z291 hb) (jA (blk_below (g := gb399) (o := .cells #[.slice none 0 0,.slice none 0 0] 32 (0,0)) Z290 hb) (jA (blk_below (g := gb400) (o := .cells #[.slice none 0 0,.slice none 0 0] 32 (0,0)) (by refine bP ?_;refine blk_put (cs := #[.slice none 0 0,.slice none 0 0]) ?_ 1 _ rfl;refine bP ?_;refine blk_put (cs := #[.slice none 0 0,.slice none 0 0]) ?_ 0 _ rfl;refine bP ?_;exact BK400.out) hb) (Aside0.mk (below_step Z261 hb))))) : p := h
theorem Z11 (h : p := by exact jA (Kd.R_elder' Z313 (Kd.R_base hoq3) hb) (jA (Kd.R_elder' Z311 (Kd.R_base hoq3) hb) (jA (Kd.R_lower (Kd.R_new' (Kd.R_new' hoq3 (Kd.R_lt Z313)) (Kd.R_lt Z311)) (below_size Z336)) (Aside0.mk (below_step Z336 hb))))) : p := h
theorem Z12 (h : p := by exact jA (Kd.R_lower hoq4 (keep_size (w := w) (g := g) (row := none) Z288)) (jA (IsS53.below Z277 hb) (jA (KeepBut.trans Z288 (KeepBut.of_below hb g none) (.inl rfl)) (Aside0.mk (below_step Z276 hb))))) : p := h
theorem Z13 (h : p := by exact jA (Kd.R_below Z302 hb) (jA (Kd.R_below (by (with_reducible repeat (first | apply Kd.R_alloc | apply Kd.R_drewN | apply Kd.R_drew));exact HO358.out) hb) (jA (blk_below (g := gb348) (o := .cells #[.slice A0_0 l0_0.length c0_0,.string a0_1,.slice A0_2 l0_2.length c0_2,.slice A0_3 l0_3.length c0_3] 28 (0,0)) Z316 hb) (Aside0.mk (below_step Z278 hb))))) : p := h
theorem Z14 (h : p := by exact jA (Kd.R_elder' Z307 (Kd.R_base ho13) hb) (jA (Kd.R_lower (Kd.R_new' ho13 (Kd.R_lt Z307)) (below_size Z336)) (Aside0.mk (below_step Z336 hb)))) : p := h
theorem Z15 (h : p := by exact jA (Kd.R_elder' Z308 (Kd.R_base ho0) hb) (jA (Kd.R_lower (Kd.R_new' ho0 (Kd.R_lt Z308)) (below_size Z336)) (Aside0.mk (below_step Z336 hb)))) : p := h
theorem Z16 (h : p := by exact jA (Kd.R_elder' Z312 (Kd.R_base ho0) hb) (jA (Kd.R_lower (Kd.R_new' ho0 (Kd.R_lt Z312)) (below_size Z336)) (Aside0.mk (below_step Z336 hb)))) : p := h
theorem Z17 (h : p := by exact jA (below_step Z336 hb) (jA (hbox) (jA ((Z279 : w.heap.size ≤ gb348)) (Aside0.mk ((Z279 : w.heap.size ≤ gb348)))))) : p := h
theorem Z18 (h : p := by exact jA (below_step Z336 hb) (jA (hbox) (jA ((Z279 : w.heap.size ≤ gb446)) (Aside0.mk ((Z279 : w.heap.size ≤ gb446)))))) : p := h
theorem Z19 (h : p := by exact jA (below_step Z336 hb) (jA (hbox) (jA ((Z279 : w.heap.size ≤ gb615)) (Aside0.mk ((Z279 : w.heap.size ≤ gb615)))))) : p := h
theorem Z20 (h : p := by exact jA (below_step Z336 hb) (jA (hbox) (jA ((Z279 : w.heap.size ≤ gb599)) (Aside0.mk ((Z279 : w.heap.size ≤ gb599)))))) : p := h
theorem Z21 (h : p := by exact jA (below_step Z336 hb) (jA (hbox) (jA ((Z279 : w.heap.size ≤ gb595)) (Aside0.mk ((Z279 : w.heap.size ≤ gb595)))))) : p := h
theorem Z22 (h : p := by exact jA (below_step Z336 hb) (jA (hbox) (jA ((Z279 : w.heap.size ≤ gb437)) (Aside0.mk ((Z279 : w.heap.size ≤ gb437)))))) : p := h
theorem Z23 (h : p := by exact jA (below_step Z336 hb) (jA (hbox) (jA ((Z279 : w.heap.size ≤ gb363)) (Aside0.mk ((Z279 : w.heap.size ≤ gb363)))))) : p := h
theorem Z24 (h : p := by exact jA (Kd.R_mono (ok' := fun k_ => some k_ ≠ (vq2 : Value).ownBlock) (Kd.R_keptB (HO_6.out) hkp (fun k_ hk_ hs_ => (hk_) hs_)) (fun k_ hk_ => fun e_ => Or.elim (hoq3.1 k_ e_.symm) (fun hs_ => hk_.2.1 hs_) (fun hn_ => Nat.not_le.2 hk_.2.2 hn_))) (jA (Kd.R_mono (ok' := fun k_ => some k_ ≠ (v386 : Value).ownBlock) hoq3 (fun k_ hk_ => Or.elim hk_ (fun hs_ => fun e_ => (((HO_6.out).1 k_ e_.symm)) hs_) (fun hn_ => (Kd.fresh' (Kd.R_lt Z313) k_ hn_)))) (Aside0.mk (hb)))) : p := h
theorem Z25 (h : p := by refine bP ?_;refine blk_put (cs := #[.slice Ao9 t635.length co9,.string t638,.slice Ao11 t639.length co11,.slice none 0 0]) ?_ 3 _ rfl;refine bP ?_;refine blk_put (cs := #[.slice Ao9 t635.length co9,.string t638,.slice none 0 0,.slice none 0 0]) ?_ 2 _ rfl;refine bP ?_;refine blk_put (cs := #[.slice Ao9 t635.length co9,.string (⟨#[]⟩ : ByteArray),.slice none 0 0,.slice none 0 0]) ?_ 1 _ rfl;refine bP ?_;refine blk_put (cs := #[.slice none 0 0,.string (⟨#[]⟩ : ByteArray),.slice none 0 0,.slice none 0 0]) ?_ 0 _ rfl;refine bP ?_;exact BK646.out) : p := h
theorem Z26 (h : p := by refine bP ?_;refine blk_put (cs := #[.slice Ao8 t240.length co8,.string t243,.slice Ao12 t244.length co12,.slice none 0 0]) ?_ 3 _ rfl;refine bP ?_;refine blk_put (cs := #[.slice Ao8 t240.length co8,.string t243,.slice none 0 0,.slice none 0 0]) ?_ 2 _ rfl;refine bP ?_;refine blk_put (cs := #[.slice Ao8 t240.length co8,.string (⟨#[]⟩ : ByteArray),.slice none 0 0,.slice none 0 0]) ?_ 1 _ rfl;refine bP ?_;refine blk_put (cs := #[.slice none 0 0,.string (⟨#[]⟩ : ByteArray),.slice none 0 0,.slice none 0 0]) ?_ 0 _ rfl;refine bP ?_;exact BK239.out) : p := h
theorem Z27 (h : p := by (with_reducible repeat (first | apply Kd.N_alloc | apply Kd.N_drewN | apply Kd.N_drew));exact (Kd.N_mono (Kd.N_far (p := ⟨gb646,3,none⟩) (Kd.N_far (p := ⟨gb646,2,none⟩) (Kd.N_far (p := ⟨gb646,1,none⟩) (Kd.N_far (p := ⟨gb646,0,none⟩) (Kd.N_mono HO641.out (fun k_ hk => (⟨hk,hk.2⟩ : _ ∧ k_ ≠ gb646))) (fun _ hk => hk.2) (.slice Ao9 t635.length co9)) (fun _ hk => hk.2) (.string t638)) (fun _ hk => hk.2) (.slice Ao11 t639.length co11)) (fun _ hk => hk.2) (.slice Ao12 t642.length co12)) (fun _ h_ => h_.1))) : p := h
theorem Z28 (h : p := by (with_reducible repeat (first | apply Kd.R_alloc | apply Kd.R_drewN | apply Kd.R_drew));exact (Kd.R_mono (Kd.R_far (p := ⟨gb646,3,none⟩) (Kd.R_far (p := ⟨gb646,2,none⟩) (Kd.R_far (p := ⟨gb646,1,none⟩) (Kd.R_far (p := ⟨gb646,0,none⟩) (Kd.R_types HO644.out BK646.out Z330) (fun _ hk => hk.2) (.slice Ao9 t635.length co9)) (fun _ hk => hk.2) (.string t638)) (fun _ hk => hk.2) (.slice Ao11 t639.length co11)) (fun _ hk => hk.2) (.slice Ao12 t642.length co12)) (fun _ h_ => h_.1))) : p := h
theorem Z29 (h : p := by (with_reducible repeat (first | apply Kd.R_alloc | apply Kd.R_drewN | apply Kd.R_drew));exact (Kd.R_mono (Kd.R_far (p := ⟨gb646,3,none⟩) (Kd.R_far (p := ⟨gb646,2,none⟩) (Kd.R_far (p := ⟨gb646,1,none⟩) (Kd.R_far (p := ⟨gb646,0,none⟩) (Kd.R_types HO637.out BK646.out Z330) (fun _ hk => hk.2) (.slice Ao9 t635.length co9)) (fun _ hk => hk.2) (.string t638)) (fun _ hk => hk.2) (.slice Ao11 t639.length co11)) (fun _ hk => hk.2) (.slice Ao12 t642.length co12)) (fun _ h_ => h_.1))) : p := h
theorem Z30 (h : p := by repeat (first | exact (Kd.C_below HR0_1.out Z266) | (with_reducible refine Kd.C_alloc ?_ _) | (with_reducible refine Kd.C_drewN ?_ _) | (with_reducible refine Kd.C_drew ?_))) : p := h
theorem Z31 (h : p := by repeat (first | exact (Kd.C_below HR0_0.out Z266) | (with_reducible refine Kd.C_alloc ?_ _) | (with_reducible refine Kd.C_drewN ?_ _) | (with_reducible refine Kd.C_drew ?_))) : p := h
theorem Z32 (h : p := by exact jA (Kd.R_lower hoq3 (below_size Z336)) (Aside0.mk (below_step Z336 hb))) : p := h
theorem Z33 (h : p := by exact jA (Kd.R_lower ho5 (below_size Z336)) (Aside0.mk (below_step Z336 hb))) : p := h
theorem Z34 (h : p := by exact jA (Kd.R_lower ho4 (below_size Z336)) (Aside0.mk (below_step Z336 hb))) : p := h
theorem Z35 (h : p := by exact jA (Kd.R_lower ho0 (below_size Z336)) (Aside0.mk (below_step Z336 hb))) : p := h
theorem Z36 (h : p := by repeat (first | exact Z272 | (with_reducible refine Kd.C_alloc ?_ _) | (with_reducible refine Kd.C_drewN ?_ _) | (with_reducible refine Kd.C_drew ?_))) : p := h
theorem Z37 (h : p := by repeat (first | exact Z273 | (with_reducible refine Kd.C_alloc ?_ _) | (with_reducible refine Kd.C_drewN ?_ _) | (with_reducible refine Kd.C_drew ?_))) : p := h
theorem Z38 (h : p := by repeat (first | exact (Kd.C_below HR0_0.out Z280) | (with_reducible refine Kd.C_alloc ?_ _) | (with_reducible refine Kd.C_drewN ?_ _) | (with_reducible refine Kd.C_drew ?_))) : p := h
theorem Z39 (h : p := by repeat (first | exact (Kd.C_below HR453.out Z280) | (with_reducible refine Kd.C_alloc ?_ _) | (with_reducible refine Kd.C_drewN ?_ _) | (with_reducible refine Kd.C_drew ?_))) : p := h
theorem Z40 (h : p := by repeat (first | exact (Kd.C_below HR0_0.out Z278) | (with_reducible refine Kd.C_alloc ?_ _) | (with_reducible refine Kd.C_drewN ?_ _) | (with_reducible refine Kd.C_drew ?_))) : p := h
theorem Z41 (h : p := by repeat (first | exact (Kd.C_below HR0_3.out Z278) | (with_reducible refine Kd.C_alloc ?_ _) | (with_reducible refine Kd.C_drewN ?_ _) | (with_reducible refine Kd.C_drew ?_))) : p := h
theorem Z42 (h : p := by repeat (first | exact (Kd.C_below HR0_2.out Z278) | (with_reducible refine Kd.C_alloc ?_ _) | (with_reducible refine Kd.C_drewN ?_ _) | (with_reducible refine Kd.C_drew ?_))) : p := h
theorem Z43 (h : p := by repeat (first | exact (Kd.C_below HR0_1.out Z281) | (with_reducible refine Kd.C_alloc ?_ _) | (with_reducible refine Kd.C_drewN ?_ _) | (with_reducible refine Kd.C_drew ?_))) : p := h
theorem Z44 (h : p := by repeat (first | exact (Kd.C_below HR0_0.out Z281) | (with_reducible refine Kd.C_alloc ?_ _) | (with_reducible refine Kd.C_drewN ?_ _) | (with_reducible refine Kd.C_drew ?_))) : p := h
theorem Z45 (h : p := by repeat (first | (with_reducible first | exact HI0.out | exact IsS53.far HI0.out NB0_239.out _ | exact IsS53.far HI0.out NB0_252.out _ | apply IsS53.alloc | apply IsS53.drewN | apply IsS53.drew | apply IsS53.set_1 | apply IsS53.set_2 | refine IsS53.far ?_ NB0_239.out _ | refine IsS53.far ?_ NB0_252.out _) | exact HI0.out)) : p := h
theorem Z46 (h : p := by exact (fun k_ hk => ⟨Kd.fresh' (Kd.R_lt Z309) k_ hk,Kd.fresh' (Kd.R_lt Z304) k_ hk⟩)) : p := h
theorem Z47 (h : p := by exact (fun k_ hk => ⟨Kd.fresh' (Kd.R_lt Z309) k_ hk,Kd.fresh' (Kd.R_lt Z305) k_ hk⟩)) : p := h
theorem Z48 (h : p := by (with_reducible repeat (first | apply Kd.N_alloc | apply Kd.N_drewN | apply Kd.N_drew));exact Kd.N_mono HO_401001.out (fun _ hk => ⟨⟨hk.1.1.1,⟨hk.1.1.2.2.2.1,⟨hk.1.2,⟨hk.2,⟨hk.1.1.2.2.2.2.2.1,⟨hk.1.1.2.2.2.2.2.2.1,hk.1.1.2.2.2.2.2.2.2⟩⟩⟩⟩⟩⟩,hk.1.1.2.2.2.2.1⟩)) : p := h
theorem Z49 (h : p := by exact Kd.M_row (Kd.R_mono (Kd.R_tight rfl (Kd.R_mono (ok' := fun k_ => ((fun k_ => some k_ ≠ (u168003 : Value).ownBlock)) k_ ∧ some k_ ≠ (u168002 : Value).ownBlock) (Kd.R_apart' (HO_8.out) (Kd.S_typed HO_168002.out) Z330) (fun k_ hk => ⟨hk.1,hk.2⟩))) (fun _ h_ => h_))) : p := h
theorem Z50 (h : p := by exact jA (blk_grown (g := gb462) (o := .cells #[.slice A0_0 l0_0.length c0_0,.string a0_1,.slice (some ad467) l0_2.length c0_2,.slice A0_3 l0_3.length c0_3] 28 (0,0)) Z326 hg (Kd.R_ne HO_5.out BK462.out Z330)) (jA (hb) (Aside0.mk (ho)))) : p := h
theorem Z51 (h : p := by exact jA (blk_grown (g := gb363) (o := .cells #[.slice A0_0 l0_0.length c0_0,.string a0_1,.slice (some ad368) l0_2.length c0_2,.slice A0_3 l0_3.length c0_3] 28 (0,0)) Z327 hg (Kd.R_ne HO_5.out BK363.out Z330)) (jA (hb) (Aside0.mk (ho)))) : p := h
theorem Z52 (h : p := by exact (keep_size (w := w) (g := g) (row := none) Z264)) : p := h
theorem Z53 (h : p := by exact (keep_size (w := w) (g := g) (row := none) Z263)) : p := h
theorem Z54 (h : p := by (with_reducible repeat (first | apply Kd.N_alloc | apply Kd.N_drewN | apply Kd.N_drew));exact Kd.N_mono HO428.out (fun _ hk => ⟨hk.1.1,⟨hk.1.2.2.2.1,⟨hk.2,⟨hk.1.2.1,⟨hk.1.2.2.1,⟨hk.1.2.2.2.2.1,⟨hk.1.2.2.2.2.2.1,hk.1.2.2.2.2.2.2⟩⟩⟩⟩⟩⟩⟩)) : p := h
theorem Z55 (h : p := by (with_reducible repeat (first | apply Kd.N_alloc | apply Kd.N_drewN | apply Kd.N_drew));exact Kd.N_mono HO422.out (fun _ hk => ⟨hk.1.1,⟨hk.2,⟨hk.1.2.2.2.1,⟨hk.1.2.1,⟨hk.1.2.2.1,⟨hk.1.2.2.2.2.1,⟨hk.1.2.2.2.2.2.1,hk.1.2.2.2.2.2.2⟩⟩⟩⟩⟩⟩⟩)) : p := h
theorem Z56 (h : p := by exact Kd.C_below HR0_3.out Z262) : p := h
theorem Z57 (h : p := by exact Kd.C_below HR0_3.out Z261) : p := h
theorem Z58 (h : p := by exact Kd.C_below HR0_2.out Z262) : p := h
theorem Z59 (h : p := by exact Kd.C_below HR0_2.out Z261) : p := h
theorem Z60 (h : p := by exact Kd.C_below HR0_0.out Z262) : p := h
theorem Z61 (h : p := by exact Kd.C_below HR0_0.out Z261) : p := h
theorem Z62 (h : p := by exact (below_size Z261)) : p := h
theorem Z63 (h : p := by exact (below_size Z262)) : p := h
theorem Z64 (h : p := by repeat (first | (with_reducible first | exact HI0.out | apply IsS53.alloc | apply IsS53.drewN | apply IsS53.drew | apply IsS53.set_1 | apply IsS53.set_2 | refine IsS53.far ?_ NB0_239.out _ | refine IsS53.far ?_ NB0_252.out _) | exact HI0.out)) : p := h
theorem Z65 (h : p := by rw [hg];exact (keep_size (w := w) (g := g) (row := none) Z275)) : p := h
theorem Z66 (h : p := by rw [hg];exact (keep_size (w := w) (g := g) (row := none) Z274)) : p := h
theorem Z67 (h : p := by exact Z261) : p := h
theorem Z68 (h : p := by exact Z262) : p := h
theorem Z69 (h : p := by first | (rw [add_block];exact (fun e_ => ((HL272_0.out.1 _ e_.symm).2) rfl)) | (show some (Addr.add _ _).block ≠ _;rw [add_block];exact (fun e_ => ((HL272_0.out.1 _ e_.symm).2) rfl)) | exact (fun e_ => ((HL272_0.out.1 _ e_.symm).2) rfl)) : p := h
theorem Z70 (h : p := by (with_reducible repeat (first | apply Kd.N_alloc | apply Kd.N_drewN | apply Kd.N_drew));exact Kd.N_mono HO425.out (fun _ hk => ⟨hk.1,⟨hk.2.2.2.1,⟨hk.2.1,⟨hk.2.2.1,⟨hk.2.2.2.2.1,⟨hk.2.2.2.2.2.1,hk.2.2.2.2.2.2⟩⟩⟩⟩⟩⟩)) : p := h
theorem Z71 (h : p := by repeat (first | (with_reducible first | exact HB.out | apply below_alloc | apply pw_below_drewN | apply below_drew1 | refine below_set ?_ (IsS53.ge HI0.out) | refine below_set ?_ GE239.out | refine below_set ?_ GE252.out) | exact HB.out)) : p := h
theorem Z72 (h : p := by exact jA (Kd.R_after (ok := (fun _ => True)) (by (with_reducible repeat (first | apply Kd.R_alloc | apply Kd.R_drewN | apply Kd.R_drew));exact Kd.R_mono HO_6.out (fun _ hk => ⟨trivial,hk⟩)) hg hat) (jA (hb) (Aside0.mk (ho)))) : p := h
theorem Z73 (h : p := by exact jA (Kd.R_after (ok := (fun _ => True)) (by (with_reducible repeat (first | apply Kd.R_alloc | apply Kd.R_drewN | apply Kd.R_drew));exact Kd.R_mono HO_4.out (fun _ hk => ⟨trivial,hk⟩)) hg hat) (jA (hb) (Aside0.mk (ho)))) : p := h
theorem Z74 (h : p := by rw [hg];exact (below_size Z267)) : p := h
theorem Z75 (h : p := by rw [hg];exact (below_size Z268)) : p := h
theorem Z76 (h : p := by exact jA (KeepBut.trans Z288 hk (.inl rfl)) (jA (hb) (Aside0.mk (hi)))) : p := h
theorem Z77 (h : p := by repeat (first | (with_reducible first | exact HI318.out | apply IsS53.alloc | apply IsS53.drewN | apply IsS53.drew | apply IsS53.set_1 | apply IsS53.set_2 | refine IsS53.far ?_ NB318_314.out _) | exact HI318.out)) : p := h
theorem Z78 (h : p := by rw [hg];exact (keep_size (w := w) (g := g) (row := none) Z288)) : p := h
theorem Z79 (h : p := by rw [hg];exact Nat.ne_of_lt (blk_lt (g := gb566) (o := .cells #[.slice A0_0 l0_0.length c0_0,.string a0_1,.slice A0_2 l0_2.length c0_2,.slice A0_3 l0_3.length c0_3] 28 (0,0)) Z324)) : p := h
theorem Z80 (h : p := by rw [hg];exact Nat.ne_of_lt (blk_lt (g := gb398) (o := .cells #[.slice A0_0 l0_0.length c0_0,.string a0_1,.slice A0_2 l0_2.length c0_2,.slice A0_3 l0_3.length c0_3] 28 (0,0)) Z317)) : p := h
theorem Z81 (h : p := by rw [hg];exact Nat.ne_of_gt (blk_lt (g := gb566) (o := .cells #[.slice A0_0 l0_0.length c0_0,.string a0_1,.slice A0_2 l0_2.length c0_2,.slice A0_3 l0_3.length c0_3] 28 (0,0)) Z324)) : p := h
theorem Z82 (h : p := by rw [hg];exact Nat.ne_of_gt (blk_lt (g := gb398) (o := .cells #[.slice A0_0 l0_0.length c0_0,.string a0_1,.slice A0_2 l0_2.length c0_2,.slice A0_3 l0_3.length c0_3] 28 (0,0)) Z317)) : p := h
theorem Z83 (h : p := by repeat (first | (with_reducible first | exact HB.out | apply below_alloc | apply pw_below_drewN | apply below_drew1 | refine below_set ?_ (IsS53.ge HI318.out) | refine below_set ?_ GE314.out) | exact HB.out)) : p := h
theorem Z84 (h : p := by repeat (first | (with_reducible first | exact HI0.out | apply IsS53.alloc | apply IsS53.drewN | apply IsS53.drew | apply IsS53.set_1 | apply IsS53.set_2 | refine IsS53.far ?_ NB0_150.out _) | exact HI0.out)) : p := h
theorem Z85 (h : p := by repeat (first | (with_reducible first | exact HI0.out | apply IsS53.alloc | apply IsS53.drewN | apply IsS53.drew | apply IsS53.set_1 | apply IsS53.set_2 | refine IsS53.far ?_ NB0_239.out _) | exact HI0.out)) : p := h
theorem Z86 (h : p := by repeat (first | (with_reducible first | exact HB.out | apply below_alloc | apply pw_below_drewN | apply below_drew1 | refine below_set ?_ (IsS53.ge HI0.out) | refine below_set ?_ GE150.out) | exact HB.out)) : p := h
theorem Z87 (h : p := by repeat (first | (with_reducible first | exact HB.out | apply below_alloc | apply pw_below_drewN | apply below_drew1 | refine below_set ?_ (IsS53.ge HI0.out) | refine below_set ?_ GE239.out) | exact HB.out)) : p := h
theorem Z88 (h : p := by repeat (first | (with_reducible first | exact HB.out | apply below_alloc | apply pw_below_drewN | apply below_drew1 | refine below_set ?_ GE595.out | refine below_set ?_ GE596.out) | exact HB.out)) : p := h
theorem Z89 (h : p := by repeat (first | (with_reducible first | exact HB.out | apply below_alloc | apply pw_below_drewN | apply below_drew1 | refine below_set ?_ GE437.out | refine below_set ?_ GE438.out) | exact HB.out)) : p := h
theorem Z90 (h : p := by rw [hg];exact (below_size Z284)) : p := h
theorem Z91 (h : p := by rw [hg];exact (below_size Z285)) : p := h
theorem Z92 (h : p := by rw [hg];exact (below_size Z286)) : p := h
theorem Z93 (h : p := by repeat (first | (with_reducible exact HR304_0.out) | (with_reducible refine Kd.C_alloc ?_ _) | (with_reducible refine Kd.C_drewN ?_ _) | (with_reducible refine Kd.C_drew ?_) | exact HR304_0.out)) : p := h
theorem Z94 (h : p := by repeat (first | (with_reducible exact HR163.out) | (with_reducible refine Kd.C_alloc ?_ _) | (with_reducible refine Kd.C_drewN ?_ _) | (with_reducible refine Kd.C_drew ?_) | exact HR163.out)) : p := h
theorem Z95 (h : p := by exact (below_size Z278)) : p := h
theorem Z96 (h : p := by exact (below_size Z283)) : p := h
theorem Z97 (h : p := by exact (below_size Z282)) : p := h
theorem Z98 (h : p := by repeat (first | exact (Kd.C_below HR608_0.out HB.out) | (with_reducible refine Kd.C_alloc ?_ _) | (with_reducible refine Kd.C_drewN ?_ _) | (with_reducible refine Kd.C_drew ?_))) : p := h
theorem Z99 (h : p := by repeat (first | exact (Kd.R_reads' HO_647003.out).2.2 | (with_reducible refine Kd.C_alloc ?_ _) | (with_reducible refine Kd.C_drewN ?_ _) | (with_reducible refine Kd.C_drew ?_))) : p := h
theorem Z100 (h : p := by repeat (first | exact (Kd.R_reads' HO_647000.out).2.2 | (with_reducible refine Kd.C_alloc ?_ _) | (with_reducible refine Kd.C_drewN ?_ _) | (with_reducible refine Kd.C_drew ?_))) : p := h
theorem Z101 (h : p := by repeat (first | exact (Kd.N_reads' HO_654001.out).2.2 | (with_reducible refine Kd.C_alloc ?_ _) | (with_reducible refine Kd.C_drewN ?_ _) | (with_reducible refine Kd.C_drew ?_))) : p := h
theorem Z102 (h : p := by repeat (first | exact (Kd.N_reads' HO_654000.out).2.2 | (with_reducible refine Kd.C_alloc ?_ _) | (with_reducible refine Kd.C_drewN ?_ _) | (with_reducible refine Kd.C_drew ?_))) : p := h
theorem Z103 (h : p := by repeat (first | exact (Kd.N_reads' HO_647002.out).2.2 | (with_reducible refine Kd.C_alloc ?_ _) | (with_reducible refine Kd.C_drewN ?_ _) | (with_reducible refine Kd.C_drew ?_))) : p := h
theorem Z104 (h : p := by repeat (first | exact (Kd.C_below HR625_0.out HB.out) | (with_reducible refine Kd.C_alloc ?_ _) | (with_reducible refine Kd.C_drewN ?_ _) | (with_reducible refine Kd.C_drew ?_))) : p := h
theorem Z105 (h : p := by repeat (first | exact (Kd.C_below HR613_0.out HB.out) | (with_reducible refine Kd.C_alloc ?_ _) | (with_reducible refine Kd.C_drewN ?_ _) | (with_reducible refine Kd.C_drew ?_))) : p := h
theorem Z106 (h : p := by repeat (first | exact (Kd.C_below HR0_0.out HB.out) | (with_reducible refine Kd.C_alloc ?_ _) | (with_reducible refine Kd.C_drewN ?_ _) | (with_reducible refine Kd.C_drew ?_))) : p := h
theorem Z107 (h : p := by exact Z278) : p := h
theorem Z108 (h : p := by repeat (first | exact (Kd.C_below HR1_0.out HB.out) | (with_reducible refine Kd.C_alloc ?_ _) | (with_reducible refine Kd.C_drewN ?_ _) | (with_reducible refine Kd.C_drew ?_))) : p := h
theorem Z109 (h : p := by repeat (first | exact (Kd.C_below HR0_3.out HB.out) | (with_reducible refine Kd.C_alloc ?_ _) | (with_reducible refine Kd.C_drewN ?_ _) | (with_reducible refine Kd.C_drew ?_))) : p := h
theorem Z110 (h : p := by repeat (first | exact (Kd.C_below HR0_2.out HB.out) | (with_reducible refine Kd.C_alloc ?_ _) | (with_reducible refine Kd.C_drewN ?_ _) | (with_reducible refine Kd.C_drew ?_))) : p := h
theorem Z111 (h : p := by exact Z283) : p := h
theorem Z112 (h : p := by exact Z282) : p := h
theorem Z113 (h : p := by repeat (first | exact (Kd.C_below HR0.out HB.out) | (with_reducible refine Kd.C_alloc ?_ _) | (with_reducible refine Kd.C_drewN ?_ _) | (with_reducible refine Kd.C_drew ?_))) : p := h
theorem Z114 (h : p := by repeat (first | exact (Kd.R_reads' HO358.out).2.2 | (with_reducible refine Kd.C_alloc ?_ _) | (with_reducible refine Kd.C_drewN ?_ _) | (with_reducible refine Kd.C_drew ?_))) : p := h
theorem Z115 (h : p := by repeat (first | exact (Kd.R_reads' HO355.out).2.2 | (with_reducible refine Kd.C_alloc ?_ _) | (with_reducible refine Kd.C_drewN ?_ _) | (with_reducible refine Kd.C_drew ?_))) : p := h
theorem Z116 (h : p := by repeat (first | exact (Kd.R_reads' HO644.out).2.2 | (with_reducible refine Kd.C_alloc ?_ _) | (with_reducible refine Kd.C_drewN ?_ _) | (with_reducible refine Kd.C_drew ?_))) : p := h
theorem Z117 (h : p := by repeat (first | exact (Kd.R_reads' HO637.out).2.2 | (with_reducible refine Kd.C_alloc ?_ _) | (with_reducible refine Kd.C_drewN ?_ _) | (with_reducible refine Kd.C_drew ?_))) : p := h
theorem Z118 (h : p := by repeat (first | exact (Kd.N_reads' HO652.out).2.2 | (with_reducible refine Kd.C_alloc ?_ _) | (with_reducible refine Kd.C_drewN ?_ _) | (with_reducible refine Kd.C_drew ?_))) : p := h
theorem Z119 (h : p := by repeat (first | exact (Kd.N_reads' HO649.out).2.2 | (with_reducible refine Kd.C_alloc ?_ _) | (with_reducible refine Kd.C_drewN ?_ _) | (with_reducible refine Kd.C_drew ?_))) : p := h
theorem Z120 (h : p := by repeat (first | exact (Kd.N_reads' HO641.out).2.2 | (with_reducible refine Kd.C_alloc ?_ _) | (with_reducible refine Kd.C_drewN ?_ _) | (with_reducible refine Kd.C_drew ?_))) : p := h
theorem Z121 (h : p := by repeat (first | exact (Kd.R_reads' HO_7.out).2.2 | (with_reducible refine Kd.C_alloc ?_ _) | (with_reducible refine Kd.C_drewN ?_ _) | (with_reducible refine Kd.C_drew ?_))) : p := h
theorem Z122 (h : p := by exact (by (with_reducible repeat (first | apply Kd.S_alloc | apply Kd.S_drewN | apply Kd.S_drew));exact Kd.S_mono HO_168002.out (fun k_ hk => ⟨hk.2,fun e_ => hk.1 e_⟩))) : p := h
theorem Z123 (h : p := by rw [hg];exact (below_size Z289)) : p := h
theorem Z124 (h : p := by repeat (first | (with_reducible first | exact HB.out | apply below_alloc | apply pw_below_drewN | apply below_drew1 | refine below_set ?_ GE615.out) | exact HB.out)) : p := h
theorem Z125 (h : p := by repeat (first | (with_reducible first | exact HB.out | apply below_alloc | apply pw_below_drewN | apply below_drew1 | refine below_set ?_ GE599.out) | exact HB.out)) : p := h
theorem Z126 (h : p := by (with_reducible repeat (first | apply Kd.S_alloc | apply Kd.S_drewN | apply Kd.S_drew));exact Kd.S_mono HO_253002.out (fun k_ hk => ⟨hk.1,fun e_ => hk.2 e_⟩)) : p := h
theorem Z127 (h : p := by exact (fun k_ hk => Kd.fresh' (Kd.R_lt Z294) k_ hk)) : p := h
theorem Z128 (h : p := by refine bP ?_;refine blk_put (cs := #[.slice Ao19 y164.length co19,.string (⟨#[121]⟩ : ByteArray),u168002,u168003]) ?_ 2 _ rfl;refine bP ?_;exact BK167.out) : p := h
theorem Z129 (h : p := by repeat (first | exact HR435_0.out | (with_reducible refine Kd.C_alloc ?_ _) | (with_reducible refine Kd.C_drewN ?_ _) | (with_reducible refine Kd.C_drew ?_))) : p := h
theorem Z130 (h : p := by repeat (first | exact HR434_0.out | (with_reducible refine Kd.C_alloc ?_ _) | (with_reducible refine Kd.C_drewN ?_ _) | (with_reducible refine Kd.C_drew ?_))) : p := h
theorem Z131 (h : p := by repeat (first | exact HR592_0.out | (with_reducible refine Kd.C_alloc ?_ _) | (with_reducible refine Kd.C_drewN ?_ _) | (with_reducible refine Kd.C_drew ?_))) : p := h
theorem Z132 (h : p := by repeat (first | exact HR591_0.out | (with_reducible refine Kd.C_alloc ?_ _) | (with_reducible refine Kd.C_drewN ?_ _) | (with_reducible refine Kd.C_drew ?_))) : p := h
theorem Z133 (h : p := by exact (below_size Z336)) : p := h
theorem Z134 (h : p := by exact (by (with_reducible repeat (first | apply Kd.R_alloc | apply Kd.R_drewN | apply Kd.R_drew));exact Kd.R_mono HO507.out (fun _ hk => ⟨hk.1.2,hk.2⟩))) : p := h
theorem Z135 (h : p := by exact (by (with_reducible repeat (first | apply Kd.R_alloc | apply Kd.R_drewN | apply Kd.R_drew));exact Kd.R_mono HO483.out (fun _ hk => ⟨hk.1.2,hk.2⟩))) : p := h
theorem Z136 (h : p := by exact (fun k_ hk => Kd.fresh' (Kd.R_lt Z302) k_ hk)) : p := h
theorem Z137 (h : p := by repeat (first | exact HR342.out | (with_reducible refine Kd.C_alloc ?_ _) | (with_reducible refine Kd.C_drewN ?_ _) | (with_reducible refine Kd.C_drew ?_))) : p := h
theorem Z138 (h : p := by exact (fun k_ hk => Kd.fresh' (Kd.R_lt Z313) k_ hk)) : p := h
theorem Z139 (h : p := by exact (fun k_ hk => Kd.fresh' (Kd.R_lt Z314) k_ hk)) : p := h
theorem Z140 (h : p := by exact (fun k_ hk => Kd.fresh' (Kd.R_lt Z309) k_ hk)) : p := h
theorem Z141 (h : p := by repeat (first | exact HR0.out | (with_reducible refine Kd.C_alloc ?_ _) | (with_reducible refine Kd.C_drewN ?_ _) | (with_reducible refine Kd.C_drew ?_))) : p := h
theorem Z142 (h : p := by repeat (first | exact HR1.out | (with_reducible refine Kd.C_alloc ?_ _) | (with_reducible refine Kd.C_drewN ?_ _) | (with_reducible refine Kd.C_drew ?_))) : p := h
theorem Z143 (h : p := by exact (by (with_reducible repeat (first | apply Kd.R_alloc | apply Kd.R_drewN | apply Kd.R_drew));exact Kd.R_mono HO_168003.out (fun _ hk => trivial))) : p := h
theorem Z144 (h : p := by (with_reducible repeat (first | apply Kd.R_alloc | apply Kd.R_drewN | apply Kd.R_drew));exact Kd.R_mono HO518.out (fun _ hk => ⟨hk.1.2,hk.2⟩)) : p := h
theorem Z145 (h : p := by (with_reducible repeat (first | apply Kd.R_alloc | apply Kd.R_drewN | apply Kd.R_drew));exact Kd.R_mono HO494.out (fun _ hk => ⟨hk.1.2,hk.2⟩)) : p := h
theorem Z146 (h : p := by (with_reducible repeat (first | apply Kd.R_alloc | apply Kd.R_drewN | apply Kd.R_drew));exact Kd.R_mono HO_3.out (fun _ hk => ⟨hk.1.2,hk.2⟩)) : p := h
theorem Z147 (h : p := by (with_reducible repeat (first | apply Kd.R_alloc | apply Kd.R_drewN | apply Kd.R_drew));exact Kd.R_mono HO355.out (fun _ hk => ⟨trivial,hk⟩)) : p := h
theorem Z148 (h : p := by (with_reducible repeat (first | apply Kd.R_alloc | apply Kd.R_drewN | apply Kd.R_drew));exact Kd.R_mono HO_3.out (fun _ hk => ⟨hk.2,hk.1.2⟩)) : p := h
theorem Z149 (h : p := by (with_reducible repeat (first | apply Kd.S_alloc | apply Kd.S_drewN | apply Kd.S_drew));exact Kd.S_mono HO197.out (fun _ hk => ⟨trivial,hk⟩)) : p := h
theorem Z150 (h : p := by exact Z336) : p := h
theorem Z151 (h : p := by (with_reducible repeat (first | apply Kd.R_alloc | apply Kd.R_drewN | apply Kd.R_drew));exact Kd.R_mono HO514.out (fun _ hk => ⟨hk.2,hk.1⟩)) : p := h
theorem Z152 (h : p := by (with_reducible repeat (first | apply Kd.R_alloc | apply Kd.R_drewN | apply Kd.R_drew));exact Kd.R_mono HO490.out (fun _ hk => ⟨hk.2,hk.1⟩)) : p := h
theorem Z153 (h : p := by (with_reducible repeat (first | apply Kd.R_alloc | apply Kd.R_drewN | apply Kd.R_drew));exact Kd.R_mono HO518.out (fun _ hk => ⟨hk.2,hk.1⟩)) : p := h
theorem Z154 (h : p := by (with_reducible repeat (first | apply Kd.R_alloc | apply Kd.R_drewN | apply Kd.R_drew));exact Kd.R_mono HO494.out (fun _ hk => ⟨hk.2,hk.1⟩)) : p := h
theorem Z155 (h : p := by (with_reducible repeat (first | apply Kd.R_alloc | apply Kd.R_drewN | apply Kd.R_drew));exact Kd.R_mono HO_3.out (fun _ hk => ⟨hk.2,hk.1⟩)) : p := h
theorem Z156 (h : p := by first | exact Kd.S_nil _ _ _ _ _ | exact Kd.N_nil _ _ _ _ _ | exact Kd.V_nil _ _ _ _ _ | exact Kd.Q_nil _ _ _ _ _ | exact Kd.R_nil _ _ _ _ _) : p := h
theorem Z157 (h : p := by (with_reducible repeat (first | apply Kd.R_alloc | apply Kd.R_drewN | apply Kd.R_drew));exact Kd.R_mono HO_168003.out (fun _ hk => hk.2)) : p := h
theorem Z158 (h : p := by (with_reducible repeat (first | apply Kd.R_alloc | apply Kd.R_drewN | apply Kd.R_drew));exact Kd.R_mono HO166.out (fun _ hk => trivial)) : p := h
theorem Z159 (h : p := by (try simp only [List.map_toArray,List.map_cons,List.map_nil]);first | done | rfl | (simp only [List.length_drop,List.length_take];rfl)) : p := h
theorem Z160 (h : p := by (with_reducible repeat (first | apply Kd.R_alloc | apply Kd.R_drewN | apply Kd.R_drew));exact Kd.R_mono HO355.out (fun _ hk => hk.2)) : p := h
theorem Z161 (h : p := by (with_reducible repeat (first | apply Kd.R_alloc | apply Kd.R_drewN | apply Kd.R_drew));exact Kd.R_mono HO352.out (fun _ hk => hk.2)) : p := h
theorem Z162 (h : p := by (with_reducible repeat (first | apply Kd.R_alloc | apply Kd.R_drewN | apply Kd.R_drew));exact Kd.R_mono HO_35.out (fun _ hk => hk.1)) : p := h
theorem Z163 (h : p := by (with_reducible repeat (first | apply Kd.R_alloc | apply Kd.R_drewN | apply Kd.R_drew));exact Kd.R_mono HO_6.out (fun _ hk => hk.2)) : p := h
theorem Z164 (h : p := by (with_reducible repeat (first | apply Kd.R_alloc | apply Kd.R_drewN | apply Kd.R_drew));exact Kd.R_mono HO_4.out (fun _ hk => hk.2)) : p := h
theorem Z165 (h : p := by exact Z303) : p := h
theorem Z166 (h : p := by exact Z312) : p := h
theorem Z167 (h : p := by exact Z309) : p := h
theorem Z168 (h : p := by exact Z311) : p := h
theorem Z169 (h : p := by exact Z310) : p := h
theorem Z170 (h : p := by first | (rw [add_block];exact hf1 _ rfl Z331) | exact hf1 _ rfl Z331 | exact hf1 adq2 rfl Z331) : p := h
theorem Z171 (h : p := by exact (Reps.one (show Kd.M (Kd.int .i64) _ _ _ (rd l0 x4_1) [.int .i64 (rd l0 x4_1)] from rfl) (Reps.none _ _))) : p := h
theorem Z172 (h : p := by (with_reducible repeat (first | apply Kd.R_alloc | apply Kd.R_drewN | apply Kd.R_drew));exact HO_253003.out) : p := h
theorem Z173 (h : p := by (with_reducible repeat (first | apply Kd.R_alloc | apply Kd.R_drewN | apply Kd.R_drew));exact HO_253000.out) : p := h
theorem Z174 (h : p := by (with_reducible repeat (first | apply Kd.N_alloc | apply Kd.N_drewN | apply Kd.N_drew));exact HO_401000.out) : p := h
theorem Z175 (h : p := by (with_reducible repeat (first | apply Kd.S_alloc | apply Kd.S_drewN | apply Kd.S_drew));exact HO_253002.out) : p := h
theorem Z176 (h : p := by (with_reducible repeat (first | apply Kd.S_alloc | apply Kd.S_drewN | apply Kd.S_drew));exact HO_569001.out) : p := h
theorem Z177 (h : p := by (with_reducible repeat (first | apply Kd.S_alloc | apply Kd.S_drewN | apply Kd.S_drew));exact HO_569000.out) : p := h
theorem Z178 (h : p := by (with_reducible repeat (first | apply Kd.R_alloc | apply Kd.R_drewN | apply Kd.R_drew));exact HL304_0.out) : p := h
theorem Z179 (h : p := by (with_reducible repeat (first | apply Kd.R_alloc | apply Kd.R_drewN | apply Kd.R_drew));exact HL277_0.out) : p := h
theorem Z180 (h : p := by (with_reducible repeat (first | apply Kd.R_alloc | apply Kd.R_drewN | apply Kd.R_drew));exact HO644.out) : p := h
theorem Z181 (h : p := by (with_reducible repeat (first | apply Kd.R_alloc | apply Kd.R_drewN | apply Kd.R_drew));exact HO637.out) : p := h
theorem Z182 (h : p := by (with_reducible repeat (first | apply Kd.N_alloc | apply Kd.N_drewN | apply Kd.N_drew));exact HO641.out) : p := h
theorem Z183 (h : p := by (with_reducible repeat (first | apply Kd.N_alloc | apply Kd.N_drewN | apply Kd.N_drew));exact HO652.out) : p := h
theorem Z184 (h : p := by (with_reducible repeat (first | apply Kd.N_alloc | apply Kd.N_drewN | apply Kd.N_drew));exact HO649.out) : p := h
theorem Z185 (h : p := by (with_reducible repeat (first | apply Kd.R_alloc | apply Kd.R_drewN | apply Kd.R_drew));exact HO159.out) : p := h
theorem Z186 (h : p := by (with_reducible repeat (first | apply Kd.N_alloc | apply Kd.N_drewN | apply Kd.N_drew));exact HO659.out) : p := h
theorem Z187 (h : p := by (with_reducible repeat (first | apply Kd.N_alloc | apply Kd.N_drewN | apply Kd.N_drew));exact HO656.out) : p := h
theorem Z188 (h : p := by (with_reducible repeat (first | apply Kd.N_alloc | apply Kd.N_drewN | apply Kd.N_drew));exact HO422.out) : p := h
theorem Z189 (h : p := by (with_reducible repeat (first | apply Kd.R_alloc | apply Kd.R_drewN | apply Kd.R_drew));exact HO573.out) : p := h
theorem Z190 (h : p := by (with_reducible repeat (first | apply Kd.R_alloc | apply Kd.R_drewN | apply Kd.R_drew));exact HO405.out) : p := h
theorem Z191 (h : p := by (with_reducible repeat (first | apply Kd.S_alloc | apply Kd.S_drewN | apply Kd.S_drew));exact HO197.out) : p := h
theorem Z192 (h : p := by (with_reducible repeat (first | apply Kd.R_alloc | apply Kd.R_drewN | apply Kd.R_drew));exact HO328.out) : p := h
theorem Z193 (h : p := by (with_reducible repeat (first | apply Kd.R_alloc | apply Kd.R_drewN | apply Kd.R_drew));exact HO166.out) : p := h
theorem Z194 (h : p := by (with_reducible repeat (first | apply Kd.N_alloc | apply Kd.N_drewN | apply Kd.N_drew));exact HO425.out) : p := h
theorem Z195 (h : p := by (with_reducible repeat (first | apply Kd.S_alloc | apply Kd.S_drewN | apply Kd.S_drew));exact HO246.out) : p := h
theorem Z196 (h : p := by (with_reducible repeat (first | apply Kd.R_alloc | apply Kd.R_drewN | apply Kd.R_drew));exact HO249.out) : p := h
theorem Z197 (h : p := by (with_reducible repeat (first | apply Kd.R_alloc | apply Kd.R_drewN | apply Kd.R_drew));exact HO242.out) : p := h
theorem Z198 (h : p := by (with_reducible repeat (first | apply Kd.S_alloc | apply Kd.S_drewN | apply Kd.S_drew));exact HO325.out) : p := h
theorem Z199 (h : p := by (with_reducible repeat (first | apply Kd.R_alloc | apply Kd.R_drewN | apply Kd.R_drew));exact HO576.out) : p := h
theorem Z200 (h : p := by (with_reducible repeat (first | apply Kd.R_alloc | apply Kd.R_drewN | apply Kd.R_drew));exact HO514.out) : p := h
theorem Z201 (h : p := by (with_reducible repeat (first | apply Kd.R_alloc | apply Kd.R_drewN | apply Kd.R_drew));exact HO507.out) : p := h
theorem Z202 (h : p := by (with_reducible repeat (first | apply Kd.R_alloc | apply Kd.R_drewN | apply Kd.R_drew));exact HO490.out) : p := h
theorem Z203 (h : p := by (with_reducible repeat (first | apply Kd.R_alloc | apply Kd.R_drewN | apply Kd.R_drew));exact HO483.out) : p := h
theorem Z204 (h : p := by (with_reducible repeat (first | apply Kd.R_alloc | apply Kd.R_drewN | apply Kd.R_drew));exact HO408.out) : p := h
theorem Z205 (h : p := by (with_reducible repeat (first | apply Kd.R_alloc | apply Kd.R_drewN | apply Kd.R_drew));exact HO321.out) : p := h
theorem Z206 (h : p := by (with_reducible repeat (first | apply Kd.R_alloc | apply Kd.R_drewN | apply Kd.R_drew));exact HO156.out) : p := h
theorem Z207 (h : p := by (with_reducible repeat (first | apply Kd.R_alloc | apply Kd.R_drewN | apply Kd.R_drew));exact HO382.out) : p := h
theorem Z208 (h : p := by (with_reducible repeat (first | apply Kd.R_alloc | apply Kd.R_drewN | apply Kd.R_drew));exact HO366.out) : p := h
theorem Z209 (h : p := by (with_reducible repeat (first | apply Kd.R_alloc | apply Kd.R_drewN | apply Kd.R_drew));exact HO_9.out) : p := h
theorem Z210 (h : p := by refine bP ?_;refine blk_put (cs := #[.slice none 0 0]) ?_ 0 _ rfl;refine bP ?_;exact BK609.out) : p := h
theorem Z211 (h : p := by first | rfl | (simp;done) | (simp only [← hji7] <;> (first | rfl | simp)) | (simp [*];done)) : p := h
theorem Z212 (h : p := by first | rfl | (simp [errW_none,errW_some] <;> rfl) | (simp [*,errW_none,errW_some] <;> rfl)) : p := h
theorem Z213 (h : p := by simp only [putAll,Act.put,List.setIfInBounds_toArray,List.set_cons_zero,List.set_cons_succ]) : p := h
theorem Z214 (h : p := by exact (Reps.one (show Kd.M Kd.string _ _ _ a0_1 [.string a0_1] from rfl) (Reps.none _ _))) : p := h
theorem Z215 (h : p := by have := HJ1.out;have := HK2.out;have := HK3.out;have := HJ32.out;have := HK5.out;omega) : p := h
theorem Z216 (h : p := by have := HJ1.out;have := HK2.out;have := HK3.out;first | omega | exact Nat.le_refl _) : p := h
theorem Z217 (h : p := by refine bP ?_;refine blk_far ?_ NB150_167.out _;refine bP ?_;exact BK150.out) : p := h
theorem Z218 (h : p := by refine bP ?_;refine blk_far ?_ NB604_609.out _;refine bP ?_;exact BK604.out) : p := h
theorem Z219 (h : p := by refine bP ?_;refine blk_far ?_ NB567_568.out _;refine bP ?_;exact BK567.out) : p := h
theorem Z220 (h : p := by refine bP ?_;refine blk_far ?_ NB566_568.out _;refine bP ?_;exact BK566.out) : p := h
theorem Z221 (h : p := by refine bP ?_;refine blk_far ?_ NB239_252.out _;refine bP ?_;exact BK239.out) : p := h
theorem Z222 (h : p := by have := HJ1.out;have := HK2.out;have := HJ14.out;have := HK4.out;omega) : p := h
theorem Z223 (h : p := by have := HJ1.out;have := HK2.out;first | omega | exact Nat.le_refl _) : p := h
theorem Z224 (h : p := by repeat (first | exact Drawn0.refl _ | apply Drawn0.step)) : p := h
theorem Z225 (h : p := by have := HJ8.out;have := HK2.out;have := HK3.out;omega) : p := h
theorem Z226 (h : p := by have := HJ2.out;have := HK2.out;have := HK3.out;omega) : p := h
theorem Z227 (h : p := by have := HJ5.out;first | omega | exact Nat.le_refl _) : p := h
theorem Z228 (h : p := by have := HK1.out;first | omega | exact Nat.le_refl _) : p := h
theorem Z229 (h : p := by first | (with_reducible assumption) | assumption) : p := h
theorem Z230 (h : p := by first | rfl | (simp;done) | (simp [*];done)) : p := h
theorem Z231 (h : p := by first | (go_simp;done) | (go_simp;rfl)) : p := h
theorem Z232 (h : p := by have := HJ2.out;have := HK2.out;omega) : p := h
theorem Z233 (h : p := by have := HJ1.out;have := HK2.out;omega) : p := h
theorem Z234 (h : p := by have := HK1.out;have := HK2.out;omega) : p := h
theorem Z235 (h : p := by exact (Kd.R_reads' HO_647003.out).2.1) : p := h
theorem Z236 (h : p := by exact (Kd.R_reads' HO_647000.out).2.1) : p := h
theorem Z237 (h : p := by exact (Kd.N_reads' HO_654001.out).2.1) : p := h
theorem Z238 (h : p := by exact (Kd.N_reads' HO_654000.out).2.1) : p := h
theorem Z239 (h : p := by exact (Kd.N_reads' HO_647002.out).2.1) : p := h
theorem Z240 (h : p := by first | omega | exact Nat.le_refl _) : p := h
theorem Z241 (h : p := by exact (Kd.R_reads' HO358.out).2.1) : p := h
theorem Z242 (h : p := by refine bP ?_;exact BK239.out) : p := h
theorem Z243 (h : p := by refine bP ?_;exact BK252.out) : p := h
theorem Z244 (h : p := by refine bP ?_;exact BK567.out) : p := h
theorem Z245 (h : p := by refine bP ?_;exact BK446.out) : p := h
theorem Z246 (h : p := by refine bP ?_;exact BK568.out) : p := h
theorem Z247 (h : p := by refine bP ?_;exact BK621.out) : p := h
theorem Z248 (h : p := by refine bP ?_;exact BK314.out) : p := h
theorem Z249 (h : p := by refine bP ?_;exact BK609.out) : p := h
theorem Z250 (h : p := by exact (fun _ _ => trivial)) : p := h
theorem Z251 (h : p := by have := HK1.out;omega) : p := h
theorem Z252 (h : p := by exact (Reps.none _ _)) : p := h
theorem Z253 (h : p := by exact HC0_0.out) : p := h
theorem Z254 (h : p := by exact HC0.out) : p := h
theorem Z255 (h : p := by rw [e_];rfl) : p := h
theorem Z256 (h : p := by kernel_rfl) : p := h
theorem Z257 (h : p := by rfl) : p := h
theorem Z258 (h : p := by repeat (first | (with_reducible first | exact HI0.out | exact IsS53.far HI0.out NB0_150.out _ | exact IsS53.far HI0.out NB0_167.out _ | apply IsS53.alloc | apply IsS53.drewN | apply IsS53.drew | apply IsS53.set_1 | apply IsS53.set_2 | refine IsS53.far ?_ NB0_150.out _ | refine IsS53.far ?_ NB0_167.out _) | exact HI0.out)) : p := h
theorem Z259 (h : p := by repeat (first | (with_reducible first | exact HI0.out | apply IsS53.alloc | apply IsS53.drewN | apply IsS53.drew | apply IsS53.set_1 | apply IsS53.set_2 | refine IsS53.far ?_ NB0_150.out _ | refine IsS53.far ?_ NB0_167.out _) | exact HI0.out)) : p := h
theorem Z260 (h : p := by repeat (first | (with_reducible first | exact HB.out | apply below_alloc | apply pw_below_drewN | apply below_drew1 | refine below_set ?_ (IsS53.ge HI0.out) | refine below_set ?_ GE150.out | refine below_set ?_ GE167.out) | exact HB.out)) : p := h
theorem Z261 (h : p := by repeat (first | (with_reducible first | exact HB.out | apply below_alloc | apply pw_below_drewN | apply below_drew1 | refine below_set ?_ GE398.out | refine below_set ?_ GE399.out | refine below_set ?_ GE400.out) | exact HB.out)) : p := h
theorem Z262 (h : p := by repeat (first | (with_reducible first | exact HB.out | apply below_alloc | apply pw_below_drewN | apply below_drew1 | refine below_set ?_ GE566.out | refine below_set ?_ GE567.out | refine below_set ?_ GE568.out) | exact HB.out)) : p := h
theorem Z263 (h : p := by repeat (first | (with_reducible first | exact HK.out | apply KeepBut.set_ | apply keep_drewN | apply keep_drew | apply keep_alloc | refine keep_far ?_ GW239.out _ | refine keep_far ?_ GW252.out _) | exact HK.out)) : p := h
theorem Z264 (h : p := by repeat (first | (with_reducible first | exact HK.out | apply KeepBut.set_ | apply keep_drewN | apply keep_drew | apply keep_alloc | refine keep_far ?_ GW150.out _ | refine keep_far ?_ GW167.out _) | exact HK.out)) : p := h
theorem Z265 (h : p := by repeat (first | (with_reducible first | exact HB.out | apply below_alloc | apply pw_below_drewN | apply below_drew1 | refine below_set ?_ GE646.out | refine below_set ?_ GE653.out) | exact HB.out)) : p := h
theorem Z266 (h : p := by repeat (first | (with_reducible first | exact HB.out | apply below_alloc | apply pw_below_drewN | apply below_drew1 | refine below_set ?_ GE604.out | refine below_set ?_ GE609.out) | exact HB.out)) : p := h
theorem Z267 (h : p := by repeat (first | (with_reducible first | exact HB.out | apply below_alloc | apply pw_below_drewN | apply below_drew1 | refine below_set ?_ GE566.out | refine below_set ?_ GE567.out) | exact HB.out)) : p := h
theorem Z268 (h : p := by repeat (first | (with_reducible first | exact HB.out | apply below_alloc | apply pw_below_drewN | apply below_drew1 | refine below_set ?_ GE398.out | refine below_set ?_ GE399.out) | exact HB.out)) : p := h
theorem Z269 (h : p := by rw [hg];exact (below_size Z333)) : p := h
theorem Z270 (h : p := by rw [hg];exact (below_size Z334)) : p := h
theorem Z271 (h : p := by rw [hg];exact (below_size Z335)) : p := h
theorem Z272 (h : p := by repeat (first | (with_reducible exact HR511.out) | (with_reducible refine Kd.C_alloc ?_ _) | (with_reducible refine Kd.C_drewN ?_ _) | (with_reducible refine Kd.C_drew ?_) | exact HR511.out)) : p := h
theorem Z273 (h : p := by repeat (first | (with_reducible exact HR487.out) | (with_reducible refine Kd.C_alloc ?_ _) | (with_reducible refine Kd.C_drewN ?_ _) | (with_reducible refine Kd.C_drew ?_) | exact HR487.out)) : p := h
theorem Z274 (h : p := by repeat (first | (with_reducible first | exact HK.out | apply KeepBut.set_ | apply keep_drewN | apply keep_drew | apply keep_alloc | refine keep_far ?_ GW150.out _) | exact HK.out)) : p := h
theorem Z275 (h : p := by repeat (first | (with_reducible first | exact HK.out | apply KeepBut.set_ | apply keep_drewN | apply keep_drew | apply keep_alloc | refine keep_far ?_ GW239.out _) | exact HK.out)) : p := h
theorem Z276 (h : p := by repeat (first | (with_reducible first | exact HB.out | apply below_alloc | apply pw_below_drewN | apply below_drew1 | refine below_set ?_ (IsS53.ge HI0.out)) | exact HB.out)) : p := h
theorem Z277 (h : p := by repeat (first | (with_reducible first | exact HI0.out | apply IsS53.alloc | apply IsS53.drewN | apply IsS53.drew | apply IsS53.set_1 | apply IsS53.set_2) | exact HI0.out)) : p := h
theorem Z278 (h : p := by repeat (first | (with_reducible first | exact HB.out | apply below_alloc | apply pw_below_drewN | apply below_drew1 | refine below_set ?_ GE348.out) | exact HB.out)) : p := h
theorem Z279 (h : p := by rw [hg];exact (below_size Z336)) : p := h
theorem Z280 (h : p := by repeat (first | (with_reducible first | exact HB.out | apply below_alloc | apply pw_below_drewN | apply below_drew1 | refine below_set ?_ GE446.out) | exact HB.out)) : p := h
theorem Z281 (h : p := by repeat (first | (with_reducible first | exact HB.out | apply below_alloc | apply pw_below_drewN | apply below_drew1 | refine below_set ?_ GE621.out) | exact HB.out)) : p := h
theorem Z282 (h : p := by repeat (first | (with_reducible first | exact HB.out | apply below_alloc | apply pw_below_drewN | apply below_drew1 | refine below_set ?_ GE363.out) | exact HB.out)) : p := h
theorem Z283 (h : p := by repeat (first | (with_reducible first | exact HB.out | apply below_alloc | apply pw_below_drewN | apply below_drew1 | refine below_set ?_ GE462.out) | exact HB.out)) : p := h
theorem Z284 (h : p := by repeat (first | (with_reducible first | exact HB.out | apply below_alloc | apply pw_below_drewN | apply below_drew1 | refine below_set ?_ GE646.out) | exact HB.out)) : p := h
theorem Z285 (h : p := by repeat (first | (with_reducible first | exact HB.out | apply below_alloc | apply pw_below_drewN | apply below_drew1 | refine below_set ?_ GE566.out) | exact HB.out)) : p := h
theorem Z286 (h : p := by repeat (first | (with_reducible first | exact HB.out | apply below_alloc | apply pw_below_drewN | apply below_drew1 | refine below_set ?_ GE398.out) | exact HB.out)) : p := h
theorem Z287 (h : p := by (with_reducible repeat (first | apply Kd.S_alloc | apply Kd.S_drewN | apply Kd.S_drew));exact Kd.S_mono HO_168002.out (fun _ hk => ⟨hk.2,hk.1⟩)) : p := h
theorem Z288 (h : p := by repeat (first | (with_reducible first | exact HK.out | apply KeepBut.set_ | apply keep_drewN | apply keep_drew | apply keep_alloc) | exact HK.out)) : p := h
theorem Z289 (h : p := by repeat (first | (with_reducible first | exact HBW.out | apply below_alloc | apply pw_below_drewN | apply below_drew1) | exact HBW.out)) : p := h
theorem Z290 (h : p := by refine bP ?_;refine blk_far ?_ NB399_400.out _;refine bP ?_;refine blk_far ?_ NB399_400.out _;refine bP ?_;exact BK399.out) : p := h
theorem Z291 (h : p := by refine bP ?_;refine blk_far ?_ NB398_400.out _;refine bP ?_;refine blk_far ?_ NB398_400.out _;refine bP ?_;exact BK398.out) : p := h
theorem Z292 (h : p := by (with_reducible repeat (first | apply Kd.N_alloc | apply Kd.N_drewN | apply Kd.N_drew));exact HO_401001.out) : p := h
theorem Z293 (h : p := by (with_reducible repeat (first | apply Kd.R_alloc | apply Kd.R_drewN | apply Kd.R_drew));exact HO_168000.out) : p := h
theorem Z294 (h : p := by (with_reducible repeat (first | apply Kd.R_alloc | apply Kd.R_drewN | apply Kd.R_drew));exact HO_168003.out) : p := h
theorem Z295 (h : p := by (with_reducible repeat (first | apply Kd.S_alloc | apply Kd.S_drewN | apply Kd.S_drew));exact HO_168002.out) : p := h
theorem Z296 (h : p := by (with_reducible repeat (first | apply Kd.R_alloc | apply Kd.R_drewN | apply Kd.R_drew));exact HO_647003.out) : p := h
theorem Z297 (h : p := by (with_reducible repeat (first | apply Kd.R_alloc | apply Kd.R_drewN | apply Kd.R_drew));exact HO_647000.out) : p := h
theorem Z298 (h : p := by (with_reducible repeat (first | apply Kd.N_alloc | apply Kd.N_drewN | apply Kd.N_drew));exact HO_654001.out) : p := h
theorem Z299 (h : p := by (with_reducible repeat (first | apply Kd.N_alloc | apply Kd.N_drewN | apply Kd.N_drew));exact HO_654000.out) : p := h
theorem Z300 (h : p := by (with_reducible repeat (first | apply Kd.N_alloc | apply Kd.N_drewN | apply Kd.N_drew));exact HO_647002.out) : p := h
theorem Z301 (h : p := by (with_reducible repeat (first | apply Kd.R_alloc | apply Kd.R_drewN | apply Kd.R_drew));exact HO_35.out) : p := h
theorem Z302 (h : p := by (with_reducible repeat (first | apply Kd.R_alloc | apply Kd.R_drewN | apply Kd.R_drew));exact HO355.out) : p := h
theorem Z303 (h : p := by (with_reducible repeat (first | apply Kd.R_alloc | apply Kd.R_drewN | apply Kd.R_drew));exact HO352.out) : p := h
theorem Z304 (h : p := by (with_reducible repeat (first | apply Kd.R_alloc | apply Kd.R_drewN | apply Kd.R_drew));exact HO518.out) : p := h
theorem Z305 (h : p := by (with_reducible repeat (first | apply Kd.R_alloc | apply Kd.R_drewN | apply Kd.R_drew));exact HO494.out) : p := h
theorem Z306 (h : p := by (with_reducible repeat (first | apply Kd.N_alloc | apply Kd.N_drewN | apply Kd.N_drew));exact HO428.out) : p := h
theorem Z307 (h : p := by (with_reducible repeat (first | apply Kd.R_alloc | apply Kd.R_drewN | apply Kd.R_drew));exact HO552.out) : p := h
theorem Z308 (h : p := by (with_reducible repeat (first | apply Kd.R_alloc | apply Kd.R_drewN | apply Kd.R_drew));exact HO531.out) : p := h
theorem Z309 (h : p := by (with_reducible repeat (first | apply Kd.R_alloc | apply Kd.R_drewN | apply Kd.R_drew));exact HO_3.out) : p := h
theorem Z310 (h : p := by (with_reducible repeat (first | apply Kd.R_alloc | apply Kd.R_drewN | apply Kd.R_drew));exact HO_8.out) : p := h
theorem Z311 (h : p := by (with_reducible repeat (first | apply Kd.R_alloc | apply Kd.R_drewN | apply Kd.R_drew));exact HO_7.out) : p := h
theorem Z312 (h : p := by (with_reducible repeat (first | apply Kd.R_alloc | apply Kd.R_drewN | apply Kd.R_drew));exact HO_5.out) : p := h
theorem Z313 (h : p := by (with_reducible repeat (first | apply Kd.R_alloc | apply Kd.R_drewN | apply Kd.R_drew));exact HO_6.out) : p := h
theorem Z314 (h : p := by (with_reducible repeat (first | apply Kd.R_alloc | apply Kd.R_drewN | apply Kd.R_drew));exact HO_4.out) : p := h
theorem Z315 (h : p := by (try simp only [List.map_toArray,List.map_cons,List.map_nil]);first | done | rfl) : p := h
theorem Z316 (h : p := by refine bP ?_;exact BK348.out) : p := h
theorem Z317 (h : p := by refine bP ?_;exact BK398.out) : p := h
theorem Z318 (h : p := by refine bP ?_;exact BK399.out) : p := h
theorem Z319 (h : p := by refine bP ?_;exact BK400.out) : p := h
theorem Z320 (h : p := by refine bP ?_;exact BK150.out) : p := h
theorem Z321 (h : p := by refine bP ?_;exact BK167.out) : p := h
theorem Z322 (h : p := by refine bP ?_;exact BK646.out) : p := h
theorem Z323 (h : p := by refine bP ?_;exact BK653.out) : p := h
theorem Z324 (h : p := by refine bP ?_;exact BK566.out) : p := h
theorem Z325 (h : p := by refine bP ?_;exact BK604.out) : p := h
theorem Z326 (h : p := by refine bP ?_;exact BK462.out) : p := h
theorem Z327 (h : p := by refine bP ?_;exact BK363.out) : p := h
theorem Z328 (h : p := by refine bP ?_;exact BK595.out) : p := h
theorem Z329 (h : p := by refine bP ?_;exact BK437.out) : p := h
theorem Z330 (h : p := by decide) : p := h
theorem Z331 (h : p := by omega) : p := h
theorem Z332 (h : p := by simp) : p := h
theorem Z333 (h : p := by repeat (first | (with_reducible first | exact HB.out | apply below_alloc | apply pw_below_drewN | apply below_drew1 | refine below_set ?_ GE604.out) | exact HB.out)) : p := h
theorem Z334 (h : p := by repeat (first | (with_reducible first | exact HB.out | apply below_alloc | apply pw_below_drewN | apply below_drew1 | refine below_set ?_ GE595.out) | exact HB.out)) : p := h
theorem Z335 (h : p := by repeat (first | (with_reducible first | exact HB.out | apply below_alloc | apply pw_below_drewN | apply below_drew1 | refine below_set ?_ GE437.out) | exact HB.out)) : p := h
theorem Z336 (h : p := by repeat (first | (with_reducible first | exact HB.out | apply below_alloc | apply pw_below_drewN | apply below_drew1) | exact HB.out)) : p := h
end



def errW : Option Int → Value
 | none => .nilIface
 | some c => .iface 0 (.int .i64 c)
theorem errW_none : errW none = .nilIface := rfl
theorem errW_some (c : Int) : errW (some c) = .iface 0 (.int .i64 c) := rfl

theorem info3 : (Try.prog.info? 3).map (fun i => (i.zero, i.size, i.bytes)) = some (some (.int .i64 0), 1, 8) := by kernel_rfl
theorem info9 : (Try.prog.info? 9).map (fun i => (i.zero, i.size, i.bytes)) = some (some (.string ⟨#[]⟩), 1, 16) := by kernel_rfl
theorem info26 : (Try.prog.info? 26).map (fun i => (i.zero, i.size, i.bytes)) = some (some (.slice none 0 0), 1, 24) := by kernel_rfl
-- the values' own types
def rd_L3 (xs : List (List Int)) (i : Int) : (List Int) := xs.getD i.toNat ([] : List Int)
theorem at_L3 {w : World} {A : Option Addr} {n : Nat} {xs : List (List Int)} (h : Kd.C (Kd.slice 3 (Kd.int .i64)) w A n xs) (i : Int) (h0 : 0 ≤ i) (h1 : i < n) : ∃ ad A0 c0, A = some ad ∧ w.cell? (ad.add i.toNat) = some (.slice A0 (rd_L3 xs i).length c0) ∧ (rd_L3 xs i).length ≤ c0 ∧ (Kd.int .i64).C w A0 (rd_L3 xs i).length (rd_L3 xs i) := by
 obtain ⟨ad, c, e, _, hK, hc0⟩ := Kd.C_get h ([] : List Int) i h0 h1
 have hc : ∀ j u, c[j]? = some u → w.cell? (ad.add (i.toNat * 1 + j)) = some u := hc0
 obtain ⟨A0, c0, rfl, l0, g0⟩ := hK
 exact ⟨ad, A0, c0, e, by have hq := hc 0 _ rfl; rwa [Nat.mul_one, Nat.add_zero] at hq, l0, g0⟩

theorem bA {w : World} {g : Nat} {o : Obj} (h : w.heap[g]? = some o) (n : Nat) : (w.drewN n).heap[g]? = some o := blk_drewN h n
theorem bB {w : World} {g : Nat} {o : Obj} (h : w.heap[g]? = some o) : w.drew.heap[g]? = some o := blk_drew h
theorem bC {w : World} {g : Nat} {o : Obj} (h : w.heap[g]? = some o) (o' : Obj) : (w.alloc o').heap[g]? = some o := blk_alloc h o'
theorem bP {p q : Prop} (x : q) (h : q → p := by (intro h_; (with_reducible repeat (first | refine bA ?_ _ | refine bB ?_ | refine bC ?_ _)); exact h_)) : p := h x
end Go.Proofs.Ytlflcgdcegohjab.QFnGrid
