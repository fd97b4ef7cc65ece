/- The machine side of FnConfigLines: what each Go function that it reaches comes to. Conditions: none. -/
import Derived.Test.YtepnbcdbagjmbadGreatDoorProg
import Derived.Below
import Derived.Deep.Draws
import Derived.Deep.AppendLies
import Derived.Maps.AppendAt
import Derived.OwnWalk
import Derived.Laws.BytesArg
import Derived.Laws.MakeOwn
import Derived.Laws.OwnMore
import Derived.Deep.OwnRows
import Derived.Tactics
import Derived.Lib.ConvBytes
import Derived.Laws.Slices
import Derived.WalkKit
import Derived.KernelRfl
import Derived.RowKit3
import Derived.Deep.LoopGhost
import Derived.Deep.QuietTactic
import Derived.BigQuiet
import Derived.WideLaws
import Derived.Deep.DeepCutAuto
import Derived.Deep.CutBlock
import Derived.Deep.RegionHeld3
import Derived.Laws.Rows
import Derived.Lib.AppendStr
import Derived.ArgAppend
import Derived.Laws.IdiomCopy
import Derived.OrdersHeld
import Derived.Laws.BitsLemmas
import Derived.RowKit
import Derived.Laws.Externs
import Derived.Test.YtepnbcdbagjmbadGreatDoorShelf
import Derived.Test.YtepnbcdbagjmbadGreatDoorGlob
import Derived.Test.YtepnbcdbagjmbadGreatDoorWWords
import Derived.Test.YtepnbcdbagjmbadGreatDoorWLast
import Derived.Test.YtepnbcdbagjmbadGreatDoorWTab
import Derived.Test.YtepnbcdbagjmbadGreatDoorWFour
import Derived.Test.YtepnbcdbagjmbadGreatDoorWQPut
import Derived.Test.YtepnbcdbagjmbadGreatDoorWApart
import Derived.Test.YtepnbcdbagjmbadGreatDoorWArr
import Derived.Test.YtepnbcdbagjmbadGreatDoorWZeros
import Derived.Test.YtepnbcdbagjmbadGreatDoorWFoot
import Derived.Test.YtepnbcdbagjmbadGreatDoorWKept
import Derived.Test.YtepnbcdbagjmbadGreatDoorWShare
import Derived.Test.YtepnbcdbagjmbadGreatDoorWN
import Derived.Test.YtepnbcdbagjmbadGreatDoorWFootNe
import Derived.Test.YtepnbcdbagjmbadGreatDoorWAt
import Derived.Test.YtepnbcdbagjmbadGreatDoorWEqStruct
import Derived.Test.YtepnbcdbagjmbadGreatDoorWRepsOne
import Derived.Test.YtepnbcdbagjmbadGreatDoorWInv
import Derived.Test.YtepnbcdbagjmbadGreatDoorWInvWords
import Derived.Test.YtepnbcdbagjmbadGreatDoorWGuard
import Derived.Test.YtepnbcdbagjmbadGreatDoorWNEv
import Derived.Test.YtepnbcdbagjmbadGreatDoorWMore
namespace Go.Proofs.YtepnbcdbagjmbadGreatDoor.QFnConfigLines
open Go.RowKit Go.Proofs.YtepnbcdbagjmbadGreatDoorW.PrintWords Go.Proofs.YtepnbcdbagjmbadGreatDoorW.PrintLast Go.Proofs.YtepnbcdbagjmbadGreatDoorW.PrintMore
attribute [local go_sem] max2_int min2_int max_two min_two max_three min_three max_four min_four   -- for this text's walks alone
set_option linter.unusedVariables false
set_option linter.unusedSimpArgs false
section
variable {P : Program} {md : Region.Mode} {ops : Array Oper} {Q : Exit → Act → World → Prop} {S : World → Prop} {ds : List Nat} {T : Bool × List (List Nat × List Nat)} {B : List Nat} {fuel : Nat} {l : Array Bool} {a a' : Act} {w : World} {oi : Oper} {v : Value}
def qB : Nat → Nat → List Bool
  | 0, _ => []
  | n + 1, m => (m % 2 == 1) :: qB n (m / 2)
def qM (n m : Nat) : Array Bool := (qB n m).toArray
theorem ifp {α : Type} {c : Prop} [Decidable c] {x : Option α} {r : α} (h : (if c then x else none) = some r) : c ∧ x = some r := by
  by_cases k : c
  · rw [if_pos k] at h; exact ⟨k, h⟩
  · rw [if_neg k] at h; exact absurd h (by simp)
theorem zR {p : Prop} (h : p := by first | (rw [hyy];with_reducible exact H) | (have H2_ := (Option.bind_some _ _).symm.trans H;rw [hyy];with_reducible exact H2_) | (have H2_ := (Option.bind_some _ _).symm.trans H;with_reducible exact H2_) | with_reducible exact H | (rw [hyy];exact H) | exact H) : p := h
theorem dD {w : World} {m n : Nat} : (w.drewN m).drewN n = w.drewN (m + n) := World.drewN_drewN _ _ _
theorem dT {w : World} {m n k : Nat} : (w.drewN (m + n)).drewN k = w.drewN (m + (n + k)) := Eq.trans (World.drewN_drewN _ _ _) (congrArg (World.drewN _) (Nat.add_assoc _ _ _))
theorem bc {W : World} {g t : Nat} {cs : Array Value} (h : Aside0 (W.heap[g]? = some (.cells cs t (0, 0)))) (j : Nat) {v : Value} (hj : cs[j]? = some v := by rfl) : W.cell? ⟨g, j, none⟩ = some v := (blk_cell h.out j).trans hj
theorem rP (i : Nat) (N : Tmp) (n m : Nat) (HT_ : Aside0 (rtab md ops = T)) (hi : ops[i]? = some oi := by rfl) (hN : oi.dst = some N := by rfl) (hc : anyT T l.toList (qM n m).toList i = true := by kernel_rfl) (hQ : ∀ c a w, Q (.panic c) (a.put oi.dst v) w → Q (.panic c) a w := by exact fun _ _ _ h => h) (hy : Region.wanted oi (yielded ops a.tmps) = true := by rfl) (hr : ∀ w, (execOp a.eval oi).run P w = .ok (.value v) w := by intro w'; go_simp; with_reducible rfl) (ha : a.put (some N) v = a' := by simp only [Act.put, List.setIfInBounds_toArray, List.set_cons_zero, List.set_cons_succ, i64_w, i32_w]; rfl) (h : wpAnyLast P md ops Q S ds fuel (qM n m) a' w) : wpAnyLast P md ops Q S ds (fuel + 1) l a w :=
  pure_ (qM n m) hi hN (any_of HT_.out hc) hQ (Or.inl ⟨hy, hr⟩) ha h
theorem rU (i : Nat) (N : Tmp) (n m : Nat) (HT_ : Aside0 (rtab md ops = T)) (hi : ops[i]? = some oi := by rfl) (hN : oi.dst = some N := by rfl) (hc : anyT T l.toList (qM n m).toList i = true := by kernel_rfl) (hQ : ∀ c a w, Q (.panic c) (a.put oi.dst undef) w → Q (.panic c) a w := by exact fun _ _ _ h => h) (hy : Region.wanted oi (yielded ops a.tmps) = false := by rfl) (ha : a.put (some N) undef = a' := by simp only [Act.put, List.setIfInBounds_toArray, List.set_cons_zero, List.set_cons_succ, i64_w, i32_w]; rfl) (h : wpAnyLast P md ops Q S ds fuel (qM n m) a' w) : wpAnyLast P md ops Q S ds (fuel + 1) l a w :=
  pure_ (qM n m) hi hN (any_of HT_.out hc) hQ (Or.inr ⟨hy, rfl⟩) ha h
theorem rO (i : Nat) (N : Tmp) (n m : Nat) (HT_ : Aside0 (rtab md ops = T)) (hi : ops[i]? = some oi := by rfl) (hN : oi.dst = some N := by rfl) (hc : (readyT T.2 l.toList == [i] && l.toList.set i true == (qM n m).toList) = true := by kernel_rfl) (hd : i ∉ ds := by decide) (h : ∀ K : Act → World → Prop, Shut (∀ a' w', S w' → (S w' → wpAnyLast P md ops Q S ds fuel (qM n m) a' w') → K a' w') → if Region.wanted oi (yielded ops a.tmps) = true then Oper.wp P oi a w K Q else K (a.put (some N) undef) w) : wpAnyLast P md ops Q S ds (fuel + 1) l a w :=
  one_ (qM n m) hi hN (one_of HT_.out hc) hd h
theorem sP (i : Nat) (N : Tmp) (n m : Nat) (hi : ops[i]? = some oi := by rfl) (hN : oi.dst = some N := by rfl) (hc : anyB md ops l (qM n m) i = true := by kernel_rfl) (hQ : ∀ c a w, Q (.panic c) (a.put oi.dst v) w → Q (.panic c) a w := by exact fun _ _ _ h => h) (hy : Region.wanted oi (yielded ops a.tmps) = true := by rfl) (hr : ∀ w, (execOp a.eval oi).run P w = .ok (.value v) w := by intro w'; go_simp; with_reducible rfl) (ha : a.put (some N) v = a' := by simp only [Act.put, List.setIfInBounds_toArray, List.set_cons_zero, List.set_cons_succ, i64_w, i32_w]; rfl) (h : wpAnyLast P md ops Q S ds fuel (qM n m) a' w) : wpAnyLast P md ops Q S ds (fuel + 1) l a w :=
  pure_ (qM n m) hi hN hc hQ (Or.inl ⟨hy, hr⟩) ha h
theorem sU (i : Nat) (N : Tmp) (n m : Nat) (hi : ops[i]? = some oi := by rfl) (hN : oi.dst = some N := by rfl) (hc : anyB md ops l (qM n m) i = true := by kernel_rfl) (hQ : ∀ c a w, Q (.panic c) (a.put oi.dst undef) w → Q (.panic c) a w := by exact fun _ _ _ h => h) (hy : Region.wanted oi (yielded ops a.tmps) = false := by rfl) (ha : a.put (some N) undef = a' := by simp only [Act.put, List.setIfInBounds_toArray, List.set_cons_zero, List.set_cons_succ, i64_w, i32_w]; rfl) (h : wpAnyLast P md ops Q S ds fuel (qM n m) a' w) : wpAnyLast P md ops Q S ds (fuel + 1) l a w :=
  pure_ (qM n m) hi hN hc hQ (Or.inr ⟨hy, rfl⟩) ha h
theorem sO (i : Nat) (N : Tmp) (n m : Nat) (hi : ops[i]? = some oi := by rfl) (hN : oi.dst = some N := by rfl) (hc : readyB md ops l (qM n m) i = true := by kernel_rfl) (hd : i ∉ ds := by decide) (h : ∀ K : Act → World → Prop, Shut (∀ a' w', S w' → (S w' → wpAnyLast P md ops Q S ds fuel (qM n m) a' w') → K a' w') → if Region.wanted oi (yielded ops a.tmps) = true then Oper.wp P oi a w K Q else K (a.put (some N) undef) w) : wpAnyLast P md ops Q S ds (fuel + 1) l a w :=
  one_ (qM n m) hi hN hc hd h
theorem rT1 (i : Nat) (N : Tmp) (n m : Nat) (HT_ : Aside0 (rtab md ops = T)) (HW_ : Aside0 (waitsOk T.2 B = true)) (hS : S w) (hi : ops[i]? = some oi := by rfl) (hN : oi.dst = some N := by rfl) (hc : takeW T B ds l.toList (qM n m).toList i = true := by kernel_rfl) (hQ : ∀ c a w, Q (.panic c) (a.put oi.dst v) w → Q (.panic c) a w := by exact fun _ _ _ h => h) (hy : Region.wanted oi (yielded ops a.tmps) = true := by rfl) (hr : ∀ w, S w → (execOp a.eval oi).run P w = .ok (.value v) w := by rintro w' s0; go_simp; with_reducible rfl) (ha : a.put (some N) v = a' := by simp only [Act.put, List.setIfInBounds_toArray, List.set_cons_zero, List.set_cons_succ, i64_w, i32_w]; rfl) (h : wpAnyLast P md ops Q S ds fuel (qM n m) a' w) : wpAnyLast P md ops Q S ds (fuel + 1) l a w :=
  take_ (qM n m) hi hN (take_ofW HT_.out HW_.out hc) hQ (Or.inl ⟨hy, hr⟩) hS ha h
theorem rT2 (i : Nat) (N : Tmp) (n m : Nat) (HT_ : Aside0 (rtab md ops = T)) (HW_ : Aside0 (waitsOk T.2 B = true)) (hS : S w) (hi : ops[i]? = some oi := by rfl) (hN : oi.dst = some N := by rfl) (hc : takeW T B ds l.toList (qM n m).toList i = true := by kernel_rfl) (hQ : ∀ c a w, Q (.panic c) (a.put oi.dst v) w → Q (.panic c) a w := by exact fun _ _ _ h => h) (hy : Region.wanted oi (yielded ops a.tmps) = true := by rfl) (hr : ∀ w, S w → (execOp a.eval oi).run P w = .ok (.value v) w := by rintro w' ⟨s0, s1⟩; go_simp; with_reducible rfl) (ha : a.put (some N) v = a' := by simp only [Act.put, List.setIfInBounds_toArray, List.set_cons_zero, List.set_cons_succ, i64_w, i32_w]; rfl) (h : wpAnyLast P md ops Q S ds fuel (qM n m) a' w) : wpAnyLast P md ops Q S ds (fuel + 1) l a w :=
  take_ (qM n m) hi hN (take_ofW HT_.out HW_.out hc) hQ (Or.inl ⟨hy, hr⟩) hS ha h
theorem rT3 (i : Nat) (N : Tmp) (n m : Nat) (HT_ : Aside0 (rtab md ops = T)) (HW_ : Aside0 (waitsOk T.2 B = true)) (hS : S w) (hi : ops[i]? = some oi := by rfl) (hN : oi.dst = some N := by rfl) (hc : takeW T B ds l.toList (qM n m).toList i = true := by kernel_rfl) (hQ : ∀ c a w, Q (.panic c) (a.put oi.dst v) w → Q (.panic c) a w := by exact fun _ _ _ h => h) (hy : Region.wanted oi (yielded ops a.tmps) = true := by rfl) (hr : ∀ w, S w → (execOp a.eval oi).run P w = .ok (.value v) w := by rintro w' ⟨s0, s1, s2⟩; go_simp; with_reducible rfl) (ha : a.put (some N) v = a' := by simp only [Act.put, List.setIfInBounds_toArray, List.set_cons_zero, List.set_cons_succ, i64_w, i32_w]; rfl) (h : wpAnyLast P md ops Q S ds fuel (qM n m) a' w) : wpAnyLast P md ops Q S ds (fuel + 1) l a w :=
  take_ (qM n m) hi hN (take_ofW HT_.out HW_.out hc) hQ (Or.inl ⟨hy, hr⟩) hS ha h
theorem rT8 (i : Nat) (N : Tmp) (n m : Nat) (HT_ : Aside0 (rtab md ops = T)) (HW_ : Aside0 (waitsOk T.2 B = true)) (hS : S w) (hi : ops[i]? = some oi := by rfl) (hN : oi.dst = some N := by rfl) (hc : takeW T B ds l.toList (qM n m).toList i = true := by kernel_rfl) (hQ : ∀ c a w, Q (.panic c) (a.put oi.dst v) w → Q (.panic c) a w := by exact fun _ _ _ h => h) (hy : Region.wanted oi (yielded ops a.tmps) = true := by rfl) (hr : ∀ w, S w → (execOp a.eval oi).run P w = .ok (.value v) w := by rintro w' ⟨s0, s1, s2, s3, s4, s5, s6, s7⟩; go_simp; with_reducible rfl) (ha : a.put (some N) v = a' := by simp only [Act.put, List.setIfInBounds_toArray, List.set_cons_zero, List.set_cons_succ, i64_w, i32_w]; rfl) (h : wpAnyLast P md ops Q S ds fuel (qM n m) a' w) : wpAnyLast P md ops Q S ds (fuel + 1) l a w :=
  take_ (qM n m) hi hN (take_ofW HT_.out HW_.out hc) hQ (Or.inl ⟨hy, hr⟩) hS ha h
theorem rT16 (i : Nat) (N : Tmp) (n m : Nat) (HT_ : Aside0 (rtab md ops = T)) (HW_ : Aside0 (waitsOk T.2 B = true)) (hS : S w) (hi : ops[i]? = some oi := by rfl) (hN : oi.dst = some N := by rfl) (hc : takeW T B ds l.toList (qM n m).toList i = true := by kernel_rfl) (hQ : ∀ c a w, Q (.panic c) (a.put oi.dst v) w → Q (.panic c) a w := by exact fun _ _ _ h => h) (hy : Region.wanted oi (yielded ops a.tmps) = true := by rfl) (hr : ∀ w, S w → (execOp a.eval oi).run P w = .ok (.value v) w := by rintro w' ⟨s0, s1, s2, s3, s4, s5, s6, s7, s8, s9, s10, s11, s12, s13, s14, s15⟩; go_simp; with_reducible rfl) (ha : a.put (some N) v = a' := by simp only [Act.put, List.setIfInBounds_toArray, List.set_cons_zero, List.set_cons_succ, i64_w, i32_w]; rfl) (h : wpAnyLast P md ops Q S ds fuel (qM n m) a' w) : wpAnyLast P md ops Q S ds (fuel + 1) l a w :=
  take_ (qM n m) hi hN (take_ofW HT_.out HW_.out hc) hQ (Or.inl ⟨hy, hr⟩) hS ha h
theorem rN (ha : a = a' := by show Act.put _ (some _) _ = _; simp only [Act.put, List.setIfInBounds_toArray, List.set_cons_zero, List.set_cons_succ, i64_w, i32_w]; rfl) (h : wpAnyLast P md ops Q S ds fuel l a' w) : wpAnyLast P md ops Q S ds fuel l a w := norm_ ha h
end
section
theorem jA {a b : Prop} (x : a) (y : b) : Aside0 a ∧ b := ⟨.mk x, y⟩
theorem jB {a b : Prop} (x : a) (y : b) : a ∧ b := ⟨x, y⟩
theorem cells3 {w : World} {g : Nat} {t : TypeId} {a0 a1 a2 : Value} (h : w.heap[g]? = some (.cells #[a0,a1,a2] t (0,0))) : w.cell? ⟨g,0,none⟩ = some a0 ∧ w.cell? ⟨g,1,none⟩ = some a1 ∧ w.cell? ⟨g,2,none⟩ = some a2 ∧ w.frozen? ⟨g,0,none⟩ = false ∧ w.frozen? ⟨g,1,none⟩ = false ∧ w.frozen? ⟨g,2,none⟩ = false := ⟨(blk_cell h 0).trans rfl,(blk_cell h 1).trans rfl,(blk_cell h 2).trans rfl,blk_frozen h 0,blk_frozen h 1,blk_frozen h 2⟩
theorem cells8 {w : World} {g : Nat} {t : TypeId} {a0 a1 a2 a3 a4 a5 a6 a7 : Value} (h : w.heap[g]? = some (.cells #[a0,a1,a2,a3,a4,a5,a6,a7] t (0,0))) : w.cell? ⟨g,0,none⟩ = some a0 ∧ w.cell? ⟨g,1,none⟩ = some a1 ∧ w.cell? ⟨g,2,none⟩ = some a2 ∧ w.cell? ⟨g,3,none⟩ = some a3 ∧ w.cell? ⟨g,4,none⟩ = some a4 ∧ w.cell? ⟨g,5,none⟩ = some a5 ∧ w.cell? ⟨g,6,none⟩ = some a6 ∧ w.cell? ⟨g,7,none⟩ = some a7 ∧ w.frozen? ⟨g,0,none⟩ = false ∧ w.frozen? ⟨g,1,none⟩ = false ∧ w.frozen? ⟨g,2,none⟩ = false ∧ w.frozen? ⟨g,3,none⟩ = false ∧ w.frozen? ⟨g,4,none⟩ = false ∧ w.frozen? ⟨g,5,none⟩ = false ∧ w.frozen? ⟨g,6,none⟩ = false ∧ w.frozen? ⟨g,7,none⟩ = false := ⟨(blk_cell h 0).trans rfl,(blk_cell h 1).trans rfl,(blk_cell h 2).trans rfl,(blk_cell h 3).trans rfl,(blk_cell h 4).trans rfl,(blk_cell h 5).trans rfl,(blk_cell h 6).trans rfl,(blk_cell h 7).trans rfl,blk_frozen h 0,blk_frozen h 1,blk_frozen h 2,blk_frozen h 3,blk_frozen h 4,blk_frozen h 5,blk_frozen h 6,blk_frozen h 7⟩
theorem bE {P : Program} {ops : Array Oper} {Q : Exit → Act → World → Prop} {rest : List Oper} {o : Oper} {a : Act} {W : World} (N : Tmp) (cs : Array Value) (t : TypeId) (hgd : o.guard = none := by rfl) (hd : o.dst = some N := by rfl)
    (hrun : (execOp a.eval o).run P W = .ok (.value (.pointer (some ⟨W.heap.size, 0, none⟩))) (W.alloc (.cells cs t (0, 0))) := by first | (go_simp; done) | (go_simp; rfl))
    (h : ∀ g, g = W.heap.size → ∀ w1, w1.heap[g]? = some (.cells cs t (0, 0)) → Below W.heap.size W w1 → wpList P ops Q rest (a.put o.dst (.pointer (some ⟨g, 0, none⟩))) w1) : wpList P ops Q (o :: rest) a W := box_event hgd hd hrun h
variable {p : Prop}
theorem Z1 (h : p := by exact jA (KeepBut.blk hk (g' := gb167) (o := .cells #[.int .i64 0,.int .i64 0,.int .i64 0,.int .i64 0,.int .i64 0,.int .i64 0,.int .i64 0,.slice none 0 0] 26 (0,0)) Z118 NB167_0.out Z164) (jA (Kd.R_mono (Kd.R_keep (IsS55.apart (show IsS55 w0 _ g s0_0 t178 t179 from Z119) (by (with_reducible repeat (first | apply Kd.R_alloc | apply Kd.R_drewN | apply Kd.R_drew));exact (Kd.R_mono (Kd.R_far (p := ⟨gb180,7,none⟩) (Kd.R_far (p := ⟨gb180,6,none⟩) (Kd.R_far (p := ⟨gb180,5,none⟩) (Kd.R_far (p := ⟨gb180,4,none⟩) (Kd.R_far (p := ⟨gb180,3,none⟩) (Kd.R_far (p := ⟨gb180,2,none⟩) (Kd.R_far (p := ⟨gb180,1,none⟩) (Kd.R_far (p := ⟨gb180,0,none⟩) (Kd.R_types HO177.out BK180.out Z163) (fun _ hk => hk.2) (.int .i64 t168)) (fun _ hk => hk.2) (.int .i64 t169)) (fun _ hk => hk.2) (.int .i64 t170)) (fun _ hk => hk.2) (.int .i64 t171)) (fun _ hk => hk.2) (.int .i64 t172)) (fun _ hk => hk.2) (.int .i64 t173)) (fun _ hk => hk.2) (.int .i64 t174)) (fun _ hk => hk.2) (.slice Aoq9 t175.length coq9)) (fun _ h_ => h_.1))) Z163) hk (fun _ h => h.2)) (fun _ h => h.1)) (jA (KeepBut.blk hk (g' := gb180) (o := .cells #[.int .i64 t168,.int .i64 t169,.int .i64 t170,.int .i64 t171,.int .i64 t172,.int .i64 t173,.int .i64 t174,.slice Aoq9 t175.length coq9] 26 (0,0)) Z117 NB180_0.out Z164) (jA (KeepBut.trans Z123 hk (.inl rfl)) (jA (hb) (Aside0.mk (hi))))))) : p := h
theorem Z2 (h : p := by exact jA (Kd.R_below Z145 hb) (jA (IsS55.below Z128 hb) (jA (blk_below (g := gb167) (o := .cells #[.int .i64 0,.int .i64 0,.int .i64 0,.int .i64 0,.int .i64 0,.int .i64 0,.int .i64 0,.slice none 0 0] 26 (0,0)) Z153 hb) (jA (KeepBut.trans Z165 (KeepBut.of_below hb g none) (.inl rfl)) (jA (below_step Z129 hb) (jA (hbox) (jA ((Z120 : w.heap.size ≤ gb180)) (jA ((Nat.le_trans HW0.out (Z120 : w.heap.size ≤ gb180) : w0.heap.size ≤ gb180)) (jA ((by rw [hg];exact Nat.ne_of_lt (blk_lt (g := gb167) (o := .cells #[.int .i64 0,.int .i64 0,.int .i64 0,.int .i64 0,.int .i64 0,.int .i64 0,.int .i64 0,.slice none 0 0] 26 (0,0)) Z153) : gb167 ≠ gb180)) (jA ((by rw [hg];exact Nat.ne_of_gt (blk_lt (g := gb167) (o := .cells #[.int .i64 0,.int .i64 0,.int .i64 0,.int .i64 0,.int .i64 0,.int .i64 0,.int .i64 0,.slice none 0 0] 26 (0,0)) Z153) : gb180 ≠ gb167)) (jA ((by rw [hg];exact Nat.ne_of_lt (IsS55.lt (show IsS55 w0 _ g s0_0 t178 t179 from Z128)) : g ≠ gb180)) (Aside0.mk ((by rw [hg];exact Nat.ne_of_gt (IsS55.lt (show IsS55 w0 _ g s0_0 t178 t179 from Z128)) : gb180 ≠ g)))))))))))))) : p := h
theorem Z3 (h : p := by exact jA (Kd.R_elder' Z152 (Kd.R_base hoq4) hb) (jA (Kd.R_elder' Z147 (Kd.R_base hoq4) hb) (jA (Kd.R_below Z144 hb) (jA (Kd.R_lower (Kd.R_new' (Kd.R_new' hoq4 (Kd.R_lt Z152)) (Kd.R_lt Z147)) (below_size Z122)) (jA (blk_below (g := gb393) (o := .cells #[.int .i64 x394000_1,.int .i64 x394001_1,.int .i64 x394002_1,.int .i64 x394003_1,.int .i64 x394004_1,.int .i64 x394005_1,.int .i64 x394006_1,.slice none 0 0] 26 (0,0)) Z170 hb) (jA (blk_below (g := gb394) (o := .cells #[.int .i64 x395000_1,.int .i64 x395001_1,.int .i64 x395002_1] 34 (0,0)) Z157 hb) (jA (blk_below (g := gb408) (o := .cells #[.int .i64 x409000_1,.int .i64 x409001_1,.int .i64 x409002_1,.int .i64 x409003_1,.int .i64 x409004_1,.int .i64 x409005_1,.int .i64 x409006_1,u409007] 26 (0,0)) Z161 hb) (Aside0.mk (below_step Z122 hb))))))))) : p := h
theorem Z4 (h : p := by exact jA (Kd.R_elder' Z145 (Kd.R_base hoq13) hb) (jA (Kd.R_lower (Kd.R_new' hoq13 (Kd.R_lt Z145)) (keep_size (w := w) (g := g) (row := none) Z123)) (jA (IsS55.below Z119 hb) (jA (blk_below (g := gb167) (o := .cells #[.int .i64 0,.int .i64 0,.int .i64 0,.int .i64 0,.int .i64 0,.int .i64 0,.int .i64 0,.slice none 0 0] 26 (0,0)) Z153 hb) (jA (blk_below (g := gb180) (o := .cells #[.int .i64 t168,.int .i64 t169,.int .i64 t170,.int .i64 t171,.int .i64 t172,.int .i64 t173,.int .i64 t174,.slice Aoq9 t175.length coq9] 26 (0,0)) Z160 hb) (jA (KeepBut.trans Z123 (KeepBut.of_below hb g none) (.inl rfl)) (Aside0.mk (below_step Z121 hb)))))))) : p := h
theorem Z5 (h : p := by exact jA (IsS55.below Z136 hb) (jA (KeepBut.trans Z168 (KeepBut.of_below hb g none) (.inl rfl)) (jA (below_step Z135 hb) (jA (hbox) (jA ((Z125 : w.heap.size ≤ gb167)) (jA ((Nat.le_trans HW0.out (Z125 : w.heap.size ≤ gb167) : w0.heap.size ≤ gb167)) (jA ((by rw [hg];exact Nat.ne_of_lt (IsS55.lt (show IsS55 w0 _ g s0_0 s0_1 s0_2 from Z136)) : g ≠ gb167)) (Aside0.mk ((by rw [hg];exact Nat.ne_of_gt (IsS55.lt (show IsS55 w0 _ g s0_0 s0_1 s0_2 from Z136)) : gb167 ≠ g)))))))))) : p := h
theorem Z6 (h : p := by refine bP ?_;refine blk_far ?_ NB393_394.out _;refine bP ?_;refine blk_far ?_ NB393_394.out _;refine bP ?_;refine blk_far ?_ NB393_394.out _;refine bP ?_;refine blk_put (cs := #[.int .i64 0,.int .i64 0,.int .i64 0,.int .i64 0,.int .i64 0,.int .i64 0,.int .i64 0,.slice none 0 0]) ?_ 7 _ rfl;refine bP ?_;refine blk_put (cs := #[.int .i64 0,.int .i64 0,.int .i64 0,.int .i64 0,.int .i64 0,.int .i64 0,.int .i64 x394006_1,.slice none 0 0]) ?_ 6 _ rfl;refine bP ?_;refine blk_put (cs := #[.int .i64 0,.int .i64 0,.int .i64 0,.int .i64 0,.int .i64 0,.int .i64 x394005_1,.int .i64 x394006_1,.slice none 0 0]) ?_ 5 _ rfl;refine bP ?_;refine blk_put (cs := #[.int .i64 0,.int .i64 0,.int .i64 0,.int .i64 0,.int .i64 x394004_1,.int .i64 x394005_1,.int .i64 x394006_1,.slice none 0 0]) ?_ 4 _ rfl;refine bP ?_;refine blk_put (cs := #[.int .i64 0,.int .i64 0,.int .i64 0,.int .i64 x394003_1,.int .i64 x394004_1,.int .i64 x394005_1,.int .i64 x394006_1,.slice none 0 0]) ?_ 3 _ rfl;refine bP ?_;refine blk_put (cs := #[.int .i64 0,.int .i64 0,.int .i64 x394002_1,.int .i64 x394003_1,.int .i64 x394004_1,.int .i64 x394005_1,.int .i64 x394006_1,.slice none 0 0]) ?_ 2 _ rfl;refine bP ?_;refine blk_put (cs := #[.int .i64 0,.int .i64 x394001_1,.int .i64 x394002_1,.int .i64 x394003_1,.int .i64 x394004_1,.int .i64 x394005_1,.int .i64 x394006_1,.slice none 0 0]) ?_ 1 _ rfl;refine bP ?_;refine blk_put (cs := #[.int .i64 x394000_1,.int .i64 x394001_1,.int .i64 x394002_1,.int .i64 x394003_1,.int .i64 x394004_1,.int .i64 x394005_1,.int .i64 x394006_1,.slice none 0 0]) ?_ 0 _ rfl;refine bP ?_;exact BK393.out) : p := h
theorem Z7 (h : p := by exact jA (blk_below (g := gb446) (o := .cells #[.int .i64 a0_0,.int .i64 a0_1,.int .i64 a0_2,.int .i64 a0_3,.int .i64 a0_4,.int .i64 a0_5,.int .i64 a0_6,.slice A0_7 l0_7.length c0_7] 26 (0,0)) Z159 hb) (jA (below_step Z166 hb) (jA (hbox) (jA ((Z132 : w.heap.size ≤ gb447)) (jA ((Z132 : w.heap.size ≤ gb447)) (jA ((by rw [hg];exact Nat.ne_of_lt (blk_lt (g := gb446) (o := .cells #[.int .i64 a0_0,.int .i64 a0_1,.int .i64 a0_2,.int .i64 a0_3,.int .i64 a0_4,.int .i64 a0_5,.int .i64 a0_6,.slice A0_7 l0_7.length c0_7] 26 (0,0)) Z159) : gb446 ≠ gb447)) (Aside0.mk ((by rw [hg];exact Nat.ne_of_gt (blk_lt (g := gb446) (o := .cells #[.int .i64 a0_0,.int .i64 a0_1,.int .i64 a0_2,.int .i64 a0_3,.int .i64 a0_4,.int .i64 a0_5,.int .i64 a0_6,.slice A0_7 l0_7.length c0_7] 26 (0,0)) Z159) : gb447 ≠ gb446))))))))) : p := h
theorem Z8 (h : p := by exact jA (blk_below (g := gb393) (o := .cells #[.int .i64 0,.int .i64 0,.int .i64 0,.int .i64 0,.int .i64 0,.int .i64 0,.int .i64 0,.slice none 0 0] 26 (0,0)) Z170 hb) (jA (below_step Z167 hb) (jA (hbox) (jA ((Z133 : w.heap.size ≤ gb394)) (jA ((Z133 : w.heap.size ≤ gb394)) (jA ((Z126 : gb393 ≠ gb394)) (Aside0.mk ((Z127 : gb394 ≠ gb393))))))))) : p := h
theorem Z9 (h : p := by exact jA (Kd.R_below Z152 hb) (jA (Kd.R_below Z147 hb) (jA (Kd.R_below Z144 hb) (jA (blk_below (g := gb393) (o := .cells #[.int .i64 x394000_1,.int .i64 x394001_1,.int .i64 x394002_1,.int .i64 x394003_1,.int .i64 x394004_1,.int .i64 x394005_1,.int .i64 x394006_1,.slice none 0 0] 26 (0,0)) Z170 hb) (jA (blk_below (g := gb394) (o := .cells #[.int .i64 x395000_1,.int .i64 x395001_1,.int .i64 x395002_1] 34 (0,0)) Z157 hb) (jA (blk_below (g := gb408) (o := .cells #[.int .i64 x409000_1,.int .i64 x409001_1,.int .i64 x409002_1,.int .i64 x409003_1,.int .i64 x409004_1,.int .i64 x409005_1,.int .i64 x409006_1,u409007] 26 (0,0)) Z161 hb) (Aside0.mk (below_step Z122 hb)))))))) : p := h
theorem Z10 (h : p := by exact jA (Kd.R_mono (Kd.R_keep (Kd.R_types Z152 BK408.out Z163) hk (fun _ h => h.2)) (fun _ h => h.1)) (jA (Kd.R_mono (Kd.R_keep (Kd.R_types Z147 BK408.out Z163) hk (fun _ h => h.2)) (fun _ h => h.1)) (jA (KeepBut.blk hk (g' := gb393) (o := .cells #[.int .i64 x394000_1,.int .i64 x394001_1,.int .i64 x394002_1,.int .i64 x394003_1,.int .i64 x394004_1,.int .i64 x394005_1,.int .i64 x394006_1,.slice none 0 0] 26 (0,0)) Z170 NB393_408.out Z164) (jA (KeepBut.blk hk (g' := gb394) (o := .cells #[.int .i64 x395000_1,.int .i64 x395001_1,.int .i64 x395002_1] 34 (0,0)) Z157 NB394_408.out Z164) (jA (Kd.R_mono (Kd.R_keep (Kd.R_types Z150 BK408.out Z163) hk (fun _ h => h.2)) (fun _ h => h.1)) (jA (hb) (jA (hi) (Aside0.mk (hy))))))))) : p := h
theorem Z11 (h : p := by (with_reducible repeat (first | apply Kd.R_alloc | apply Kd.R_drewN | apply Kd.R_drew));exact (Kd.R_mono (Kd.R_mono (Kd.R_far (p := ⟨gb507,2,none⟩) (Kd.R_far (p := ⟨gb507,1,none⟩) (Kd.R_far (p := ⟨gb507,0,none⟩) (Kd.R_far (p := ⟨gb506,7,none⟩) (Kd.R_far (p := ⟨gb506,6,none⟩) (Kd.R_far (p := ⟨gb506,5,none⟩) (Kd.R_far (p := ⟨gb506,4,none⟩) (Kd.R_far (p := ⟨gb506,3,none⟩) (Kd.R_far (p := ⟨gb506,2,none⟩) (Kd.R_far (p := ⟨gb506,1,none⟩) (Kd.R_far (p := ⟨gb506,0,none⟩) (Kd.R_types (Kd.R_types HO_468007.out BK506.out Z163) BK507.out Z163) (fun _ hk => hk.1.2) (.int .i64 t493)) (fun _ hk => hk.1.2) (.int .i64 t494)) (fun _ hk => hk.1.2) (.int .i64 t495)) (fun _ hk => hk.1.2) (.int .i64 t496)) (fun _ hk => hk.1.2) (.int .i64 t497)) (fun _ hk => hk.1.2) (.int .i64 t498)) (fun _ hk => hk.1.2) (.int .i64 t499)) (fun _ hk => hk.1.2) (.slice Ao53 t500.length co53)) (fun _ hk => hk.2) (.int .i64 t503)) (fun _ hk => hk.2) (.int .i64 t504)) (fun _ hk => hk.2) (.int .i64 t505)) (fun _ h_ => h_.1)) (fun _ h_ => h_.1))) : p := h
theorem Z12 (h : p := by (with_reducible repeat (first | apply Kd.R_alloc | apply Kd.R_drewN | apply Kd.R_drew));exact (Kd.R_mono (Kd.R_mono (Kd.R_far (p := ⟨gb507,2,none⟩) (Kd.R_far (p := ⟨gb507,1,none⟩) (Kd.R_far (p := ⟨gb507,0,none⟩) (Kd.R_far (p := ⟨gb506,7,none⟩) (Kd.R_far (p := ⟨gb506,6,none⟩) (Kd.R_far (p := ⟨gb506,5,none⟩) (Kd.R_far (p := ⟨gb506,4,none⟩) (Kd.R_far (p := ⟨gb506,3,none⟩) (Kd.R_far (p := ⟨gb506,2,none⟩) (Kd.R_far (p := ⟨gb506,1,none⟩) (Kd.R_far (p := ⟨gb506,0,none⟩) (Kd.R_types (Kd.R_types HO502.out BK506.out Z163) BK507.out Z163) (fun _ hk => hk.1.2) (.int .i64 t493)) (fun _ hk => hk.1.2) (.int .i64 t494)) (fun _ hk => hk.1.2) (.int .i64 t495)) (fun _ hk => hk.1.2) (.int .i64 t496)) (fun _ hk => hk.1.2) (.int .i64 t497)) (fun _ hk => hk.1.2) (.int .i64 t498)) (fun _ hk => hk.1.2) (.int .i64 t499)) (fun _ hk => hk.1.2) (.slice Ao53 t500.length co53)) (fun _ hk => hk.2) (.int .i64 t503)) (fun _ hk => hk.2) (.int .i64 t504)) (fun _ hk => hk.2) (.int .i64 t505)) (fun _ h_ => h_.1)) (fun _ h_ => h_.1))) : p := h
theorem Z13 (h : p := by exact (Reps.one (show Kd.M Kd.string _ _ _ (⟨#[114,111,117,110,100,115]⟩ : ByteArray) [.string (⟨#[114,111,117,110,100,115]⟩ : ByteArray)] from rfl) (Reps.one (show Kd.M Kd.string _ _ _ (⟨#[100,101,112,116,104]⟩ : ByteArray) [.string (⟨#[100,101,112,116,104]⟩ : ByteArray)] from rfl) (Reps.one (show Kd.M Kd.string _ _ _ (⟨#[98,105,110,115]⟩ : ByteArray) [.string (⟨#[98,105,110,115]⟩ : ByteArray)] from rfl) (Reps.one (show Kd.M Kd.string _ _ _ (⟨#[108,97,109,98,100,97]⟩ : ByteArray) [.string (⟨#[108,97,109,98,100,97]⟩ : ByteArray)] from rfl) (Reps.one (show Kd.M Kd.string _ _ _ (⟨#[114,111,119,115]⟩ : ByteArray) [.string (⟨#[114,111,119,115]⟩ : ByteArray)] from rfl) (Reps.one (show Kd.M Kd.string _ _ _ (⟨#[114,97,116,101]⟩ : ByteArray) [.string (⟨#[114,97,116,101]⟩ : ByteArray)] from rfl) (Reps.one (show Kd.M Kd.string _ _ _ (⟨#[115,105,103,110,115]⟩ : ByteArray) [.string (⟨#[115,105,103,110,115]⟩ : ByteArray)] from rfl) (Reps.none _ _))))))))) : p := h
theorem Z14 (h : p := by exact jA (KeepBut.blk hk (g' := gb122) (o := .cells #[.int .i64 0,.int .i64 0,.int .i64 0,.int .i64 0,.int .i64 0,.int .i64 0,.int .i64 0,.slice none 0 0] 26 (0,0)) Z158 NB122_0.out Z164) (jA (KeepBut.blk hk (g' := gb141) (o := .cells #[.int .i64 (wrap64 (1 + t123)),.int .i64 t126,.int .i64 (wrap64 (2 + t129)),.int .i64 x142003_8,.int .i64 (wrap64 (1 + t135)),.int .i64 1,.int .i64 (wrap64 (1 + t138)),.slice none 0 0] 26 (0,0)) Z162 NB141_0.out Z164) (jA (KeepBut.trans Z124 hk (.inl rfl)) (jA (hb) (Aside0.mk (hi)))))) : p := h
theorem Z15 (h : p := by (with_reducible repeat (first | apply Kd.R_alloc | apply Kd.R_drewN | apply Kd.R_drew));exact (Kd.R_mono (Kd.R_far (p := ⟨gb467,7,none⟩) (Kd.R_far (p := ⟨gb467,6,none⟩) (Kd.R_far (p := ⟨gb467,5,none⟩) (Kd.R_far (p := ⟨gb467,4,none⟩) (Kd.R_far (p := ⟨gb467,3,none⟩) (Kd.R_far (p := ⟨gb467,2,none⟩) (Kd.R_far (p := ⟨gb467,1,none⟩) (Kd.R_far (p := ⟨gb467,0,none⟩) (Kd.R_types HO466.out BK467.out Z163) (fun _ hk => hk.2) (.int .i64 t457)) (fun _ hk => hk.2) (.int .i64 t458)) (fun _ hk => hk.2) (.int .i64 t459)) (fun _ hk => hk.2) (.int .i64 t460)) (fun _ hk => hk.2) (.int .i64 t461)) (fun _ hk => hk.2) (.int .i64 t462)) (fun _ hk => hk.2) (.int .i64 t463)) (fun _ hk => hk.2) (.slice Ao10 t464.length co10)) (fun _ h_ => h_.1))) : p := h
theorem Z16 (h : p := by (with_reducible repeat (first | apply Kd.R_alloc | apply Kd.R_drewN | apply Kd.R_drew));exact (Kd.R_mono (Kd.R_far (p := ⟨gb408,7,none⟩) (Kd.R_far (p := ⟨gb408,6,none⟩) (Kd.R_far (p := ⟨gb408,5,none⟩) (Kd.R_far (p := ⟨gb408,4,none⟩) (Kd.R_far (p := ⟨gb408,3,none⟩) (Kd.R_far (p := ⟨gb408,2,none⟩) (Kd.R_far (p := ⟨gb408,1,none⟩) (Kd.R_far (p := ⟨gb408,0,none⟩) (Kd.R_types HO407.out BK408.out Z163) (fun _ hk => hk.2) (.int .i64 t395)) (fun _ hk => hk.2) (.int .i64 t396)) (fun _ hk => hk.2) (.int .i64 t397)) (fun _ hk => hk.2) (.int .i64 t398)) (fun _ hk => hk.2) (.int .i64 t399)) (fun _ hk => hk.2) (.int .i64 t400)) (fun _ hk => hk.2) (.int .i64 t401)) (fun _ hk => hk.2) (.slice Ao19 t402.length co19)) (fun _ h_ => h_.1))) : p := h
theorem Z17 (h : p := by exact jA (KeepBut.blk hk (g' := gb167) (o := .cells #[.int .i64 0,.int .i64 0,.int .i64 0,.int .i64 0,.int .i64 0,.int .i64 0,.int .i64 0,.slice none 0 0] 26 (0,0)) Z153 NB167_0.out Z164) (jA (Kd.R_lower hoq4 (keep_size (w := w) (g := g) (row := none) Z165)) (jA (KeepBut.trans Z165 hk (.inl rfl)) (jA (hb) (Aside0.mk (hi)))))) : p := h
theorem Z18 (h : p := by exact jA (below_step Z169 hb) (jA (hbox) (jA ((Z138 : w.heap.size ≤ gb255)) (Aside0.mk ((Z138 : w.heap.size ≤ gb255)))))) : p := h
theorem Z19 (h : p := by exact jA (below_step Z169 hb) (jA (hbox) (jA ((Z138 : w.heap.size ≤ gb446)) (Aside0.mk ((Z138 : w.heap.size ≤ gb446)))))) : p := h
theorem Z20 (h : p := by exact jA (below_step Z169 hb) (jA (hbox) (jA ((Z138 : w.heap.size ≤ gb274)) (Aside0.mk ((Z138 : w.heap.size ≤ gb274)))))) : p := h
theorem Z21 (h : p := by exact jA (below_step Z169 hb) (jA (hbox) (jA ((Z138 : w.heap.size ≤ gb393)) (Aside0.mk ((Z138 : w.heap.size ≤ gb393)))))) : p := h
theorem Z22 (h : p := by exact jA (below_step Z169 hb) (jA (hbox) (jA ((Z138 : w.heap.size ≤ gb335)) (Aside0.mk ((Z138 : w.heap.size ≤ gb335)))))) : p := h
theorem Z23 (h : p := by exact jA (Kd.R_below Z148 hb) (jA (blk_below (g := gb467) (o := .cells #[.int .i64 t457,.int .i64 t458,.int .i64 t459,.int .i64 t460,.int .i64 t461,.int .i64 t462,.int .i64 t463,.slice Ao10 t464.length co10] 26 (0,0)) Z156 hb) (Aside0.mk (below_step Z139 hb)))) : p := h
theorem Z24 (h : p := by exact jA (KeepBut.blk hk (g' := gb122) (o := .cells #[.int .i64 0,.int .i64 0,.int .i64 0,.int .i64 0,.int .i64 0,.int .i64 0,.int .i64 0,.slice none 0 0] 26 (0,0)) Z158 NB122_0.out Z164) (jA (KeepBut.trans Z134 hk (.inl rfl)) (jA (hb) (Aside0.mk (hi))))) : p := h
theorem Z25 (h : p := by rw [Ny478.out,KA39.out];exact Kd.C_drop (m := ((ji25) : Int).toNat) (c := co37) ((Kd.R_reads' (Kd.R_after (ok := (fun _ => True)) Z146 hg hat)).2.2) KL39.out ((Kd.R_reads' (Kd.R_after (ok := (fun _ => True)) Z146 hg hat)).2.1)) : p := h
theorem Z26 (h : p := by exact jA (blk_below (g := gb274) (o := .cells #[.int .i64 a0_0,.int .i64 a0_1,.int .i64 a0_2,.int .i64 a0_3,.int .i64 a0_4,.int .i64 a0_5,.int .i64 a0_6,.slice A0_7 l0_7.length c0_7] 26 (0,0)) Z155 hb) (Aside0.mk (below_step Z140 hb))) : p := h
theorem Z27 (h : p := by exact jA (Kd.R_below Z151 hb) (jA (Kd.R_below Z149 hb) (Aside0.mk (below_step Z169 hb)))) : p := h
theorem Z28 (h : p := by exact jA (blk_below (g := gb335) (o := .cells #[.int .i64 a0_0,.int .i64 a0_1,.int .i64 a0_2,.int .i64 a0_3,.int .i64 a0_4,.int .i64 a0_5,.int .i64 a0_6,.slice A0_7 l0_7.length c0_7] 26 (0,0)) Z154 hb) (Aside0.mk (below_step Z137 hb))) : p := h
theorem Z29 (h : p := by exact jA (Kd.R_lower hoq3 (below_size Z169)) (Aside0.mk (below_step Z169 hb))) : p := h
theorem Z30 (h : p := by exact jA (Kd.R_lower ho4 (below_size Z169)) (Aside0.mk (below_step Z169 hb))) : p := h
theorem Z31 (h : p := by exact GT_below HG.out Z122) : p := h
theorem Z32 (h : p := by rw [← hq_];exact Z122) : p := h
theorem Z33 (h : p := by repeat (first | (with_reducible first | exact HI0.out | apply IsS55.alloc | apply IsS55.drewN | apply IsS55.drew | apply IsS55.set_1 | apply IsS55.set_2 | refine IsS55.far ?_ NB0_122.out _ | refine IsS55.far ?_ NB0_141.out _) | exact HI0.out)) : p := h
theorem Z34 (h : p := by rw [hg];exact Nat.ne_of_lt (blk_lt (g := gb467) (o := .cells #[.int .i64 t457,.int .i64 t458,.int .i64 t459,.int .i64 t460,.int .i64 t461,.int .i64 t462,.int .i64 t463,.slice Ao10 t464.length co10] 26 (0,0)) Z156)) : p := h
theorem Z35 (h : p := by rw [hg];exact Nat.ne_of_gt (blk_lt (g := gb467) (o := .cells #[.int .i64 t457,.int .i64 t458,.int .i64 t459,.int .i64 t460,.int .i64 t461,.int .i64 t462,.int .i64 t463,.slice Ao10 t464.length co10] 26 (0,0)) Z156)) : p := h
theorem Z36 (h : p := by rw [hg];exact (keep_size (w := w) (g := g) (row := none) Z134)) : p := h
theorem Z37 (h : p := by rw [Ny485.out];exact Kd.C_take (m := ((ji25) : Int).toNat) ((Kd.R_reads' (Kd.R_after (ok := (fun _ => True)) Z146 hg hat)).2.2) KL40.out) : p := h
theorem Z38 (h : p := by repeat (first | (with_reducible first | exact HB.out | apply below_alloc | apply pw_below_drewN | apply below_drew1 | refine below_set ?_ (IsS55.ge HI0.out) | refine below_set ?_ GE122.out | refine below_set ?_ GE141.out) | exact HB.out)) : p := h
theorem Z39 (h : p := by repeat (first | (with_reducible first | exact HB.out | apply below_alloc | apply pw_below_drewN | apply below_drew1 | refine below_set ?_ GE467.out | refine below_set ?_ GE506.out | refine below_set ?_ GE507.out) | exact HB.out)) : p := h
theorem Z40 (h : p := by rw [hg];exact (below_size Z131)) : p := h
theorem Z41 (h : p := by rw [hg];exact (below_size Z130)) : p := h
theorem Z42 (h : p := by exact jA (KeepBut.trans Z168 hk (.inl rfl)) (jA (hb) (Aside0.mk (hi)))) : p := h
theorem Z43 (h : p := by repeat (first | (with_reducible first | exact HB.out | apply below_alloc | apply pw_below_drewN | apply below_drew1 | refine below_set ?_ (IsS55.ge HI239.out) | refine below_set ?_ GE235.out) | exact HB.out)) : p := h
theorem Z44 (h : p := by repeat (first | (with_reducible first | exact HI0.out | apply IsS55.alloc | apply IsS55.drewN | apply IsS55.drew | apply IsS55.set_1 | apply IsS55.set_2 | refine IsS55.far ?_ NB0_122.out _) | exact HI0.out)) : p := h
theorem Z45 (h : p := by repeat (first | (with_reducible first | exact HB.out | apply below_alloc | apply pw_below_drewN | apply below_drew1 | refine below_set ?_ (IsS55.ge HI0.out) | refine below_set ?_ GE122.out) | exact HB.out)) : p := h
theorem Z46 (h : p := by repeat (first | (with_reducible first | exact HB.out | apply below_alloc | apply pw_below_drewN | apply below_drew1 | refine below_set ?_ GE446.out | refine below_set ?_ GE447.out) | exact HB.out)) : p := h
theorem Z47 (h : p := by rw [hg];exact (below_size Z139)) : p := h
theorem Z48 (h : p := by exact GT_below HG.out Z140) : p := h
theorem Z49 (h : p := by exact GT_below HG.out Z139) : p := h
theorem Z50 (h : p := by repeat (first | (with_reducible exact HR488.out) | (with_reducible refine Kd.C_alloc ?_ _) | (with_reducible refine Kd.C_drewN ?_ _) | (with_reducible refine Kd.C_drew ?_) | exact HR488.out)) : p := h
theorem Z51 (h : p := by repeat (first | (with_reducible exact HR481.out) | (with_reducible refine Kd.C_alloc ?_ _) | (with_reducible refine Kd.C_drewN ?_ _) | (with_reducible refine Kd.C_drew ?_) | exact HR481.out)) : p := h
theorem Z52 (h : p := by exact (below_size Z139)) : p := h
theorem Z53 (h : p := by repeat (first | exact (Kd.C_below HR0_7.out HB.out) | (with_reducible refine Kd.C_alloc ?_ _) | (with_reducible refine Kd.C_drewN ?_ _) | (with_reducible refine Kd.C_drew ?_))) : p := h
theorem Z54 (h : p := by repeat (first | exact (Kd.C_below HR1_7.out HB.out) | (with_reducible refine Kd.C_alloc ?_ _) | (with_reducible refine Kd.C_drewN ?_ _) | (with_reducible refine Kd.C_drew ?_))) : p := h
theorem Z55 (h : p := by exact Z139) : p := h
theorem Z56 (h : p := by repeat (first | exact (Kd.R_reads' HO453.out).2.2 | (with_reducible refine Kd.C_alloc ?_ _) | (with_reducible refine Kd.C_drewN ?_ _) | (with_reducible refine Kd.C_drew ?_))) : p := h
theorem Z57 (h : p := by repeat (first | exact (Kd.R_reads' HO450.out).2.2 | (with_reducible refine Kd.C_alloc ?_ _) | (with_reducible refine Kd.C_drewN ?_ _) | (with_reducible refine Kd.C_drew ?_))) : p := h
theorem Z58 (h : p := by repeat (first | exact (Kd.R_reads' HO418.out).2.2 | (with_reducible refine Kd.C_alloc ?_ _) | (with_reducible refine Kd.C_drewN ?_ _) | (with_reducible refine Kd.C_drew ?_))) : p := h
theorem Z59 (h : p := by repeat (first | exact (Kd.R_reads' HO466.out).2.2 | (with_reducible refine Kd.C_alloc ?_ _) | (with_reducible refine Kd.C_drewN ?_ _) | (with_reducible refine Kd.C_drew ?_))) : p := h
theorem Z60 (h : p := by repeat (first | exact (Kd.R_reads' HO_5.out).2.2 | (with_reducible refine Kd.C_alloc ?_ _) | (with_reducible refine Kd.C_drewN ?_ _) | (with_reducible refine Kd.C_drew ?_))) : p := h
theorem Z61 (h : p := by rw [← hq_];exact Z141) : p := h
theorem Z62 (h : p := by rw [← hq_];exact Z142) : p := h
theorem Z63 (h : p := by rw [← hq_];exact (by (with_reducible repeat (first | apply Kd.R_alloc | apply Kd.R_drewN | apply Kd.R_drew));exact Kd.R_mono HO_5.out (fun _ hk => ⟨hk.2,hk.1⟩))) : p := h
theorem Z64 (h : p := by rw [hg];exact (below_size Z143)) : p := h
theorem Z65 (h : p := by repeat (first | (with_reducible first | exact HB.out | apply below_alloc | apply pw_below_drewN | apply below_drew1 | refine below_set ?_ GE308.out) | exact HB.out)) : p := h
theorem Z66 (h : p := by repeat (first | (with_reducible first | exact HB.out | apply below_alloc | apply pw_below_drewN | apply below_drew1 | refine below_set ?_ GE255.out) | exact HB.out)) : p := h
theorem Z67 (h : p := by repeat (first | (with_reducible first | exact HB.out | apply below_alloc | apply pw_below_drewN | apply below_drew1 | refine below_set ?_ GE298.out) | exact HB.out)) : p := h
theorem Z68 (h : p := by exact GT_below HG.out Z169) : p := h
theorem Z69 (h : p := by exact (below_size Z169)) : p := h
theorem Z70 (h : p := by exact (fun k_ hk => Kd.fresh' (Kd.R_lt Z146) k_ hk)) : p := h
theorem Z71 (h : p := by repeat (first | exact HR0.out | (with_reducible refine Kd.C_alloc ?_ _) | (with_reducible refine Kd.C_drewN ?_ _) | (with_reducible refine Kd.C_drew ?_))) : p := h
theorem Z72 (h : p := by exact Z169) : p := h
theorem Z73 (h : p := by first | exact Kd.R_nil _ _ _ _ _ | exact Kd.N_nil _ _ _ _ _ | exact Kd.V_nil _ _ _ _ _ | exact Kd.Q_nil _ _ _ _ _ | exact Kd.S_nil _ _ _ _ _) : p := h
theorem Z74 (h : p := by (try simp only [List.map_toArray,List.map_cons,List.map_nil]);first | done | rfl | (simp only [List.length_drop,List.length_take];rfl)) : p := h
theorem Z75 (h : p := by rw [← hq_];exact Z144) : p := h
theorem Z76 (h : p := by exact (Kd.own_of_R Z152)) : p := h
theorem Z77 (h : p := by exact by (with_reducible repeat (first | apply Kd.R_alloc | apply Kd.R_drewN | apply Kd.R_drew));exact HO_409007.out) : p := h
theorem Z78 (h : p := by exact Z152) : p := h
theorem Z79 (h : p := by (with_reducible repeat (first | apply Kd.R_alloc | apply Kd.R_drewN | apply Kd.R_drew));exact HO_468007.out) : p := h
theorem Z80 (h : p := by (with_reducible repeat (first | apply Kd.R_alloc | apply Kd.R_drewN | apply Kd.R_drew));exact HO_142007.out) : p := h
theorem Z81 (h : p := by (with_reducible repeat (first | apply Kd.R_alloc | apply Kd.R_drewN | apply Kd.R_drew));exact HO450.out) : p := h
theorem Z82 (h : p := by (with_reducible repeat (first | apply Kd.R_alloc | apply Kd.R_drewN | apply Kd.R_drew));exact HO491.out) : p := h
theorem Z83 (h : p := by (with_reducible repeat (first | apply Kd.R_alloc | apply Kd.R_drewN | apply Kd.R_drew));exact HO315.out) : p := h
theorem Z84 (h : p := by (with_reducible repeat (first | apply Kd.R_alloc | apply Kd.R_drewN | apply Kd.R_drew));exact HO404.out) : p := h
theorem Z85 (h : p := by (with_reducible repeat (first | apply Kd.R_alloc | apply Kd.R_drewN | apply Kd.R_drew));exact HO502.out) : p := h
theorem Z86 (h : p := by (with_reducible repeat (first | apply Kd.R_alloc | apply Kd.R_drewN | apply Kd.R_drew));exact HO484.out) : p := h
theorem Z87 (h : p := by (with_reducible repeat (first | apply Kd.R_alloc | apply Kd.R_drewN | apply Kd.R_drew));exact HO353.out) : p := h
theorem Z88 (h : p := by (with_reducible repeat (first | apply Kd.R_alloc | apply Kd.R_drewN | apply Kd.R_drew));exact HO434.out) : p := h
theorem Z89 (h : p := by (with_reducible repeat (first | apply Kd.R_alloc | apply Kd.R_drewN | apply Kd.R_drew));exact HO381.out) : p := h
theorem Z90 (h : p := by (with_reducible repeat (first | apply Kd.R_alloc | apply Kd.R_drewN | apply Kd.R_drew));exact HO_3.out) : p := h
theorem Z91 (h : p := by (with_reducible repeat (first | apply Kd.R_alloc | apply Kd.R_drewN | apply Kd.R_drew));exact HO_6.out) : p := h
theorem Z92 (h : p := by first | rfl | (simp [errW_none,errW_some] <;> rfl) | (simp [*,errW_none,errW_some] <;> rfl)) : p := h
theorem Z93 (h : p := by refine bP ?_;refine blk_far ?_ NB122_141.out _;refine bP ?_;exact BK122.out) : p := h
theorem Z94 (h : p := by repeat (first | exact Drawn0.refl _ | apply Drawn0.step)) : p := h
theorem Z95 (h : p := by rw [← hq_];exact Z161) : p := h
theorem Z96 (h : p := by rw [← hq_];exact Z157) : p := h
theorem Z97 (h : p := by rw [← hq_];exact Z170) : p := h
theorem Z98 (h : p := by have := HJ8.out;first | omega | exact Nat.le_refl _) : p := h
theorem Z99 (h : p := by first | (with_reducible assumption) | assumption) : p := h
theorem Z100 (h : p := by first | rfl | (simp;done) | (simp [*];done)) : p := h
theorem Z101 (h : p := by first | (go_simp;done) | (go_simp;rfl)) : p := h
theorem Z102 (h : p := by first | omega | exact Nat.le_refl _) : p := h
theorem Z103 (h : p := by exact (Kd.R_reads' HO453.out).2.1) : p := h
theorem Z104 (h : p := by exact (Kd.R_reads' HO450.out).2.1) : p := h
theorem Z105 (h : p := by exact (Kd.R_reads' HO418.out).2.1) : p := h
theorem Z106 (h : p := by refine bP ?_;exact BK308.out) : p := h
theorem Z107 (h : p := by refine bP ?_;exact BK447.out) : p := h
theorem Z108 (h : p := by refine bP ?_;exact BK235.out) : p := h
theorem Z109 (h : p := by refine bP ?_;exact BK506.out) : p := h
theorem Z110 (h : p := by exact (fun _ _ => trivial)) : p := h
theorem Z111 (h : p := by have := HK1.out;omega) : p := h
theorem Z112 (h : p := by exact (Reps.none _ _)) : p := h
theorem Z113 (h : p := by exact HC0_7.out) : p := h
theorem Z114 (h : p := by kernel_rfl) : p := h
theorem Z115 (h : p := by omega) : p := h
theorem Z116 (h : p := by rfl) : p := h
theorem Z117 (h : p := by refine bP ?_;refine blk_put (cs := #[.int .i64 t168,.int .i64 t169,.int .i64 t170,.int .i64 t171,.int .i64 t172,.int .i64 t173,.int .i64 t174,.slice none 0 0]) ?_ 7 _ rfl;refine bP ?_;refine blk_put (cs := #[.int .i64 t168,.int .i64 t169,.int .i64 t170,.int .i64 t171,.int .i64 t172,.int .i64 t173,.int .i64 0,.slice none 0 0]) ?_ 6 _ rfl;refine bP ?_;refine blk_put (cs := #[.int .i64 t168,.int .i64 t169,.int .i64 t170,.int .i64 t171,.int .i64 t172,.int .i64 0,.int .i64 0,.slice none 0 0]) ?_ 5 _ rfl;refine bP ?_;refine blk_put (cs := #[.int .i64 t168,.int .i64 t169,.int .i64 t170,.int .i64 t171,.int .i64 0,.int .i64 0,.int .i64 0,.slice none 0 0]) ?_ 4 _ rfl;refine bP ?_;refine blk_put (cs := #[.int .i64 t168,.int .i64 t169,.int .i64 t170,.int .i64 0,.int .i64 0,.int .i64 0,.int .i64 0,.slice none 0 0]) ?_ 3 _ rfl;refine bP ?_;refine blk_put (cs := #[.int .i64 t168,.int .i64 t169,.int .i64 0,.int .i64 0,.int .i64 0,.int .i64 0,.int .i64 0,.slice none 0 0]) ?_ 2 _ rfl;refine bP ?_;refine blk_put (cs := #[.int .i64 t168,.int .i64 0,.int .i64 0,.int .i64 0,.int .i64 0,.int .i64 0,.int .i64 0,.slice none 0 0]) ?_ 1 _ rfl;refine bP ?_;refine blk_put (cs := #[.int .i64 0,.int .i64 0,.int .i64 0,.int .i64 0,.int .i64 0,.int .i64 0,.int .i64 0,.slice none 0 0]) ?_ 0 _ rfl;refine bP ?_;exact BK180.out) : p := h
theorem Z118 (h : p := by refine bP ?_;refine blk_far ?_ NB167_180.out _;refine bP ?_;refine blk_far ?_ NB167_180.out _;refine bP ?_;refine blk_far ?_ NB167_180.out _;refine bP ?_;refine blk_far ?_ NB167_180.out _;refine bP ?_;refine blk_far ?_ NB167_180.out _;refine bP ?_;refine blk_far ?_ NB167_180.out _;refine bP ?_;refine blk_far ?_ NB167_180.out _;refine bP ?_;refine blk_far ?_ NB167_180.out _;refine bP ?_;exact BK167.out) : p := h
theorem Z119 (h : p := by repeat (first | (with_reducible first | exact HI0.out | apply IsS55.alloc | apply IsS55.drewN | apply IsS55.drew | apply IsS55.set_1 | apply IsS55.set_2 | refine IsS55.far ?_ NB0_167.out _ | refine IsS55.far ?_ NB0_180.out _) | exact HI0.out)) : p := h
theorem Z120 (h : p := by rw [hg];exact (keep_size (w := w) (g := g) (row := none) Z165)) : p := h
theorem Z121 (h : p := by repeat (first | (with_reducible first | exact HB.out | apply below_alloc | apply pw_below_drewN | apply below_drew1 | refine below_set ?_ (IsS55.ge HI0.out) | refine below_set ?_ GE167.out | refine below_set ?_ GE180.out) | exact HB.out)) : p := h
theorem Z122 (h : p := by repeat (first | (with_reducible first | exact HB.out | apply below_alloc | apply pw_below_drewN | apply below_drew1 | refine below_set ?_ GE393.out | refine below_set ?_ GE394.out | refine below_set ?_ GE408.out) | exact HB.out)) : p := h
theorem Z123 (h : p := by repeat (first | (with_reducible first | exact HK.out | apply KeepBut.set_ | apply keep_drewN | apply keep_drew | apply keep_alloc | refine keep_far ?_ GW167.out _ | refine keep_far ?_ GW180.out _) | exact HK.out)) : p := h
theorem Z124 (h : p := by repeat (first | (with_reducible first | exact HK.out | apply KeepBut.set_ | apply keep_drewN | apply keep_drew | apply keep_alloc | refine keep_far ?_ GW122.out _ | refine keep_far ?_ GW141.out _) | exact HK.out)) : p := h
theorem Z125 (h : p := by rw [hg];exact (keep_size (w := w) (g := g) (row := none) Z168)) : p := h
theorem Z126 (h : p := by rw [hg];exact Nat.ne_of_lt (blk_lt (g := gb393) (o := .cells #[.int .i64 0,.int .i64 0,.int .i64 0,.int .i64 0,.int .i64 0,.int .i64 0,.int .i64 0,.slice none 0 0] 26 (0,0)) Z170)) : p := h
theorem Z127 (h : p := by rw [hg];exact Nat.ne_of_gt (blk_lt (g := gb393) (o := .cells #[.int .i64 0,.int .i64 0,.int .i64 0,.int .i64 0,.int .i64 0,.int .i64 0,.int .i64 0,.slice none 0 0] 26 (0,0)) Z170)) : p := h
theorem Z128 (h : p := by repeat (first | (with_reducible first | exact HI0.out | apply IsS55.alloc | apply IsS55.drewN | apply IsS55.drew | apply IsS55.set_1 | apply IsS55.set_2 | refine IsS55.far ?_ NB0_167.out _) | exact HI0.out)) : p := h
theorem Z129 (h : p := by repeat (first | (with_reducible first | exact HB.out | apply below_alloc | apply pw_below_drewN | apply below_drew1 | refine below_set ?_ (IsS55.ge HI0.out) | refine below_set ?_ GE167.out) | exact HB.out)) : p := h
theorem Z130 (h : p := by repeat (first | (with_reducible first | exact HB.out | apply below_alloc | apply pw_below_drewN | apply below_drew1 | refine below_set ?_ GE393.out | refine below_set ?_ GE394.out) | exact HB.out)) : p := h
theorem Z131 (h : p := by repeat (first | (with_reducible first | exact HB.out | apply below_alloc | apply pw_below_drewN | apply below_drew1 | refine below_set ?_ GE467.out | refine below_set ?_ GE506.out) | exact HB.out)) : p := h
theorem Z132 (h : p := by rw [hg];exact (below_size Z166)) : p := h
theorem Z133 (h : p := by rw [hg];exact (below_size Z167)) : p := h
theorem Z134 (h : p := by repeat (first | (with_reducible first | exact HK.out | apply KeepBut.set_ | apply keep_drewN | apply keep_drew | apply keep_alloc | refine keep_far ?_ GW122.out _) | exact HK.out)) : p := h
theorem Z135 (h : p := by repeat (first | (with_reducible first | exact HB.out | apply below_alloc | apply pw_below_drewN | apply below_drew1 | refine below_set ?_ (IsS55.ge HI0.out)) | exact HB.out)) : p := h
theorem Z136 (h : p := by repeat (first | (with_reducible first | exact HI0.out | apply IsS55.alloc | apply IsS55.drewN | apply IsS55.drew | apply IsS55.set_1 | apply IsS55.set_2) | exact HI0.out)) : p := h
theorem Z137 (h : p := by repeat (first | (with_reducible first | exact HB.out | apply below_alloc | apply pw_below_drewN | apply below_drew1 | refine below_set ?_ GE335.out) | exact HB.out)) : p := h
theorem Z138 (h : p := by rw [hg];exact (below_size Z169)) : p := h
theorem Z139 (h : p := by repeat (first | (with_reducible first | exact HB.out | apply below_alloc | apply pw_below_drewN | apply below_drew1 | refine below_set ?_ GE467.out) | exact HB.out)) : p := h
theorem Z140 (h : p := by repeat (first | (with_reducible first | exact HB.out | apply below_alloc | apply pw_below_drewN | apply below_drew1 | refine below_set ?_ GE274.out) | exact HB.out)) : p := h
theorem Z141 (h : p := by (with_reducible repeat (first | apply Kd.R_alloc | apply Kd.R_drewN | apply Kd.R_drew));exact Kd.R_mono HO418.out (fun _ hk => ⟨hk.2,hk.1.2⟩)) : p := h
theorem Z142 (h : p := by (with_reducible repeat (first | apply Kd.R_alloc | apply Kd.R_drewN | apply Kd.R_drew));exact Kd.R_mono HO_20.out (fun _ hk => ⟨hk.2,hk.1⟩)) : p := h
theorem Z143 (h : p := by repeat (first | (with_reducible first | exact HBW.out | apply below_alloc | apply pw_below_drewN | apply below_drew1) | exact HBW.out)) : p := h
theorem Z144 (h : p := by (with_reducible repeat (first | apply Kd.R_alloc | apply Kd.R_drewN | apply Kd.R_drew));exact HO_409007.out) : p := h
theorem Z145 (h : p := by (with_reducible repeat (first | apply Kd.R_alloc | apply Kd.R_drewN | apply Kd.R_drew));exact HO177.out) : p := h
theorem Z146 (h : p := by (with_reducible repeat (first | apply Kd.R_alloc | apply Kd.R_drewN | apply Kd.R_drew));exact HO473.out) : p := h
theorem Z147 (h : p := by (with_reducible repeat (first | apply Kd.R_alloc | apply Kd.R_drewN | apply Kd.R_drew));exact HO_20.out) : p := h
theorem Z148 (h : p := by (with_reducible repeat (first | apply Kd.R_alloc | apply Kd.R_drewN | apply Kd.R_drew));exact HO466.out) : p := h
theorem Z149 (h : p := by (with_reducible repeat (first | apply Kd.R_alloc | apply Kd.R_drewN | apply Kd.R_drew));exact HO_10.out) : p := h
theorem Z150 (h : p := by (with_reducible repeat (first | apply Kd.R_alloc | apply Kd.R_drewN | apply Kd.R_drew));exact HO418.out) : p := h
theorem Z151 (h : p := by (with_reducible repeat (first | apply Kd.R_alloc | apply Kd.R_drewN | apply Kd.R_drew));exact HO_4.out) : p := h
theorem Z152 (h : p := by (with_reducible repeat (first | apply Kd.R_alloc | apply Kd.R_drewN | apply Kd.R_drew));exact HO_5.out) : p := h
theorem Z153 (h : p := by refine bP ?_;exact BK167.out) : p := h
theorem Z154 (h : p := by refine bP ?_;exact BK335.out) : p := h
theorem Z155 (h : p := by refine bP ?_;exact BK274.out) : p := h
theorem Z156 (h : p := by refine bP ?_;exact BK467.out) : p := h
theorem Z157 (h : p := by refine bP ?_;exact BK394.out) : p := h
theorem Z158 (h : p := by refine bP ?_;exact BK122.out) : p := h
theorem Z159 (h : p := by refine bP ?_;exact BK446.out) : p := h
theorem Z160 (h : p := by refine bP ?_;exact BK180.out) : p := h
theorem Z161 (h : p := by refine bP ?_;exact BK408.out) : p := h
theorem Z162 (h : p := by refine bP ?_;exact BK141.out) : p := h
theorem Z163 (h : p := by decide) : p := h
theorem Z164 (h : p := by simp) : p := h
theorem Z165 (h : p := by repeat (first | (with_reducible first | exact HK.out | apply KeepBut.set_ | apply keep_drewN | apply keep_drew | apply keep_alloc | refine keep_far ?_ GW167.out _) | exact HK.out)) : p := h
theorem Z166 (h : p := by repeat (first | (with_reducible first | exact HB.out | apply below_alloc | apply pw_below_drewN | apply below_drew1 | refine below_set ?_ GE446.out) | exact HB.out)) : p := h
theorem Z167 (h : p := by repeat (first | (with_reducible first | exact HB.out | apply below_alloc | apply pw_below_drewN | apply below_drew1 | refine below_set ?_ GE393.out) | exact HB.out)) : p := h
theorem Z168 (h : p := by repeat (first | (with_reducible first | exact HK.out | apply KeepBut.set_ | apply keep_drewN | apply keep_drew | apply keep_alloc) | exact HK.out)) : p := h
theorem Z169 (h : p := by repeat (first | (with_reducible first | exact HB.out | apply below_alloc | apply pw_below_drewN | apply below_drew1) | exact HB.out)) : p := h
theorem Z170 (h : p := by refine bP ?_;exact BK393.out) : p := h
end



def errW : Option Int → Value
 | none => .nilIface
 | some c => .iface 0 (.int .i64 c)
theorem errW_none : errW none = .nilIface := rfl
theorem errW_some (c : Int) : errW (some c) = .iface 0 (.int .i64 c) := rfl

theorem info3 : (Tryz.prog.info? 3).map (fun i => (i.zero, i.size, i.bytes)) = some (some (.int .i64 0), 1, 8) := by kernel_rfl
theorem info5 : (Tryz.prog.info? 5).map (fun i => (i.zero, i.size, i.bytes)) = some (some (.int .u8 0), 1, 1) := by kernel_rfl
theorem info9 : (Tryz.prog.info? 9).map (fun i => (i.zero, i.size, i.bytes)) = some (some (.string ⟨#[]⟩), 1, 16) := by kernel_rfl
-- the values' own types

theorem bA {w : World} {g : Nat} {o : Obj} (h : w.heap[g]? = some o) (n : Nat) : (w.drewN n).heap[g]? = some o := blk_drewN h n
theorem bB {w : World} {g : Nat} {o : Obj} (h : w.heap[g]? = some o) : w.drew.heap[g]? = some o := blk_drew h
theorem bC {w : World} {g : Nat} {o : Obj} (h : w.heap[g]? = some o) (o' : Obj) : (w.alloc o').heap[g]? = some o := blk_alloc h o'
theorem bP {p q : Prop} (x : q) (h : q → p := by (intro h_; (with_reducible repeat (first | refine bA ?_ _ | refine bB ?_ | refine bC ?_ _)); exact h_)) : p := h x
end Go.Proofs.YtepnbcdbagjmbadGreatDoor.QFnConfigLines
