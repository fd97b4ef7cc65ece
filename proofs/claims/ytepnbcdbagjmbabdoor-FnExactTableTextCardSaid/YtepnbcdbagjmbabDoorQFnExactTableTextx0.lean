/- The machine side of FnExactTableText: what each Go function that it reaches comes to. Conditions: none. -/
import Derived.Test.YtepnbcdbagjmbabDoorProg
import Derived.Below
import Derived.Deep.Draws
import Derived.Deep.AppendLies
import Derived.Maps.AppendAt
import Derived.OwnWalk
import Derived.Laws.BytesArg
import Derived.Laws.MakeOwn
import Derived.Laws.OwnMore
import Derived.Deep.OwnRows
import Derived.Tactics
import Derived.Lib.ConvBytes
import Derived.Laws.Slices
import Derived.WalkKit
import Derived.KernelRfl
import Derived.RowKit3
import Derived.Deep.LoopGhost
import Derived.Deep.QuietTactic
import Derived.BigQuiet
import Derived.WideLaws
import Derived.Deep.DeepCutAuto
import Derived.Deep.CutBlock
import Derived.Deep.RegionHeld3
import Derived.Laws.Rows
import Derived.Lib.AppendStr
import Derived.ArgAppend
import Derived.Laws.IdiomCopy
import Derived.OrdersHeld
import Derived.Laws.BitsLemmas
import Derived.RowKit
import Derived.Laws.Externs
import Derived.Test.YtepnbcdbagjmbabDoorShelf
import Derived.Test.YtepnbcdbagjmbabDoorGlob
import Derived.Test.YtepnbcdbagjmbabDoorWWords
import Derived.Test.YtepnbcdbagjmbabDoorWLast
import Derived.Test.YtepnbcdbagjmbabDoorWTab
import Derived.Test.YtepnbcdbagjmbabDoorWFour
import Derived.Test.YtepnbcdbagjmbabDoorWQPut
import Derived.Test.YtepnbcdbagjmbabDoorWApart
import Derived.Test.YtepnbcdbagjmbabDoorWArr
import Derived.Test.YtepnbcdbagjmbabDoorWZeros
import Derived.Test.YtepnbcdbagjmbabDoorWFoot
import Derived.Test.YtepnbcdbagjmbabDoorWKept
import Derived.Test.YtepnbcdbagjmbabDoorWShare
import Derived.Test.YtepnbcdbagjmbabDoorWN
import Derived.Test.YtepnbcdbagjmbabDoorWFootNe
import Derived.Test.YtepnbcdbagjmbabDoorWAt
import Derived.Test.YtepnbcdbagjmbabDoorWEqStruct
import Derived.Test.YtepnbcdbagjmbabDoorWRepsOne
import Derived.Test.YtepnbcdbagjmbabDoorWInv
import Derived.Test.YtepnbcdbagjmbabDoorWInvWords
import Derived.Test.YtepnbcdbagjmbabDoorWGuard
import Derived.Test.YtepnbcdbagjmbabDoorWNEv
import Derived.Test.YtepnbcdbagjmbabDoorWMore
namespace Go.Proofs.YtepnbcdbagjmbabDoor.QFnExactTableText
open Go.RowKit Go.Proofs.YtepnbcdbagjmbabDoorW.PrintWords Go.Proofs.YtepnbcdbagjmbabDoorW.PrintLast Go.Proofs.YtepnbcdbagjmbabDoorW.PrintMore
attribute [local go_sem] max2_int min2_int max_two min_two max_three min_three max_four min_four   -- for this text's walks alone
set_option linter.unusedVariables false
set_option linter.unusedSimpArgs false
section
variable {P : Program} {md : Region.Mode} {ops : Array Oper} {Q : Exit → Act → World → Prop} {S : World → Prop} {ds : List Nat} {T : Bool × List (List Nat × List Nat)} {B : List Nat} {fuel : Nat} {l : Array Bool} {a a' : Act} {w : World} {oi : Oper} {v : Value}
def qB : Nat → Nat → List Bool
  | 0, _ => []
  | n + 1, m => (m % 2 == 1) :: qB n (m / 2)
def qM (n m : Nat) : Array Bool := (qB n m).toArray
theorem ifp {α : Type} {c : Prop} [Decidable c] {x : Option α} {r : α} (h : (if c then x else none) = some r) : c ∧ x = some r := by
  by_cases k : c
  · rw [if_pos k] at h; exact ⟨k, h⟩
  · rw [if_neg k] at h; exact absurd h (by simp)
theorem zR {p : Prop} (h : p := by first | (rw [hyy];with_reducible exact H) | (have H2_ := (Option.bind_some _ _).symm.trans H;rw [hyy];with_reducible exact H2_) | (have H2_ := (Option.bind_some _ _).symm.trans H;with_reducible exact H2_) | with_reducible exact H | (rw [hyy];exact H) | exact H) : p := h
theorem dD {w : World} {m n : Nat} : (w.drewN m).drewN n = w.drewN (m + n) := World.drewN_drewN _ _ _
theorem dT {w : World} {m n k : Nat} : (w.drewN (m + n)).drewN k = w.drewN (m + (n + k)) := Eq.trans (World.drewN_drewN _ _ _) (congrArg (World.drewN _) (Nat.add_assoc _ _ _))
theorem bc {W : World} {g t : Nat} {cs : Array Value} (h : Aside0 (W.heap[g]? = some (.cells cs t (0, 0)))) (j : Nat) {v : Value} (hj : cs[j]? = some v := by rfl) : W.cell? ⟨g, j, none⟩ = some v := (blk_cell h.out j).trans hj
theorem rP (i : Nat) (N : Tmp) (n m : Nat) (HT_ : Aside0 (rtab md ops = T)) (hi : ops[i]? = some oi := by rfl) (hN : oi.dst = some N := by rfl) (hc : anyT T l.toList (qM n m).toList i = true := by kernel_rfl) (hQ : ∀ c a w, Q (.panic c) (a.put oi.dst v) w → Q (.panic c) a w := by exact fun _ _ _ h => h) (hy : Region.wanted oi (yielded ops a.tmps) = true := by rfl) (hr : ∀ w, (execOp a.eval oi).run P w = .ok (.value v) w := by intro w'; go_simp; with_reducible rfl) (ha : a.put (some N) v = a' := by simp only [Act.put, List.setIfInBounds_toArray, List.set_cons_zero, List.set_cons_succ, i64_w, i32_w]; rfl) (h : wpAnyLast P md ops Q S ds fuel (qM n m) a' w) : wpAnyLast P md ops Q S ds (fuel + 1) l a w :=
  pure_ (qM n m) hi hN (any_of HT_.out hc) hQ (Or.inl ⟨hy, hr⟩) ha h
theorem rU (i : Nat) (N : Tmp) (n m : Nat) (HT_ : Aside0 (rtab md ops = T)) (hi : ops[i]? = some oi := by rfl) (hN : oi.dst = some N := by rfl) (hc : anyT T l.toList (qM n m).toList i = true := by kernel_rfl) (hQ : ∀ c a w, Q (.panic c) (a.put oi.dst undef) w → Q (.panic c) a w := by exact fun _ _ _ h => h) (hy : Region.wanted oi (yielded ops a.tmps) = false := by rfl) (ha : a.put (some N) undef = a' := by simp only [Act.put, List.setIfInBounds_toArray, List.set_cons_zero, List.set_cons_succ, i64_w, i32_w]; rfl) (h : wpAnyLast P md ops Q S ds fuel (qM n m) a' w) : wpAnyLast P md ops Q S ds (fuel + 1) l a w :=
  pure_ (qM n m) hi hN (any_of HT_.out hc) hQ (Or.inr ⟨hy, rfl⟩) ha h
theorem rO (i : Nat) (N : Tmp) (n m : Nat) (HT_ : Aside0 (rtab md ops = T)) (hi : ops[i]? = some oi := by rfl) (hN : oi.dst = some N := by rfl) (hc : (readyT T.2 l.toList == [i] && l.toList.set i true == (qM n m).toList) = true := by kernel_rfl) (hd : i ∉ ds := by decide) (h : ∀ K : Act → World → Prop, Shut (∀ a' w', S w' → (S w' → wpAnyLast P md ops Q S ds fuel (qM n m) a' w') → K a' w') → if Region.wanted oi (yielded ops a.tmps) = true then Oper.wp P oi a w K Q else K (a.put (some N) undef) w) : wpAnyLast P md ops Q S ds (fuel + 1) l a w :=
  one_ (qM n m) hi hN (one_of HT_.out hc) hd h
theorem sP (i : Nat) (N : Tmp) (n m : Nat) (hi : ops[i]? = some oi := by rfl) (hN : oi.dst = some N := by rfl) (hc : anyB md ops l (qM n m) i = true := by kernel_rfl) (hQ : ∀ c a w, Q (.panic c) (a.put oi.dst v) w → Q (.panic c) a w := by exact fun _ _ _ h => h) (hy : Region.wanted oi (yielded ops a.tmps) = true := by rfl) (hr : ∀ w, (execOp a.eval oi).run P w = .ok (.value v) w := by intro w'; go_simp; with_reducible rfl) (ha : a.put (some N) v = a' := by simp only [Act.put, List.setIfInBounds_toArray, List.set_cons_zero, List.set_cons_succ, i64_w, i32_w]; rfl) (h : wpAnyLast P md ops Q S ds fuel (qM n m) a' w) : wpAnyLast P md ops Q S ds (fuel + 1) l a w :=
  pure_ (qM n m) hi hN hc hQ (Or.inl ⟨hy, hr⟩) ha h
theorem sU (i : Nat) (N : Tmp) (n m : Nat) (hi : ops[i]? = some oi := by rfl) (hN : oi.dst = some N := by rfl) (hc : anyB md ops l (qM n m) i = true := by kernel_rfl) (hQ : ∀ c a w, Q (.panic c) (a.put oi.dst undef) w → Q (.panic c) a w := by exact fun _ _ _ h => h) (hy : Region.wanted oi (yielded ops a.tmps) = false := by rfl) (ha : a.put (some N) undef = a' := by simp only [Act.put, List.setIfInBounds_toArray, List.set_cons_zero, List.set_cons_succ, i64_w, i32_w]; rfl) (h : wpAnyLast P md ops Q S ds fuel (qM n m) a' w) : wpAnyLast P md ops Q S ds (fuel + 1) l a w :=
  pure_ (qM n m) hi hN hc hQ (Or.inr ⟨hy, rfl⟩) ha h
theorem sO (i : Nat) (N : Tmp) (n m : Nat) (hi : ops[i]? = some oi := by rfl) (hN : oi.dst = some N := by rfl) (hc : readyB md ops l (qM n m) i = true := by kernel_rfl) (hd : i ∉ ds := by decide) (h : ∀ K : Act → World → Prop, Shut (∀ a' w', S w' → (S w' → wpAnyLast P md ops Q S ds fuel (qM n m) a' w') → K a' w') → if Region.wanted oi (yielded ops a.tmps) = true then Oper.wp P oi a w K Q else K (a.put (some N) undef) w) : wpAnyLast P md ops Q S ds (fuel + 1) l a w :=
  one_ (qM n m) hi hN hc hd h
theorem rT4 (i : Nat) (N : Tmp) (n m : Nat) (HT_ : Aside0 (rtab md ops = T)) (HW_ : Aside0 (waitsOk T.2 B = true)) (hS : S w) (hi : ops[i]? = some oi := by rfl) (hN : oi.dst = some N := by rfl) (hc : takeW T B ds l.toList (qM n m).toList i = true := by kernel_rfl) (hQ : ∀ c a w, Q (.panic c) (a.put oi.dst v) w → Q (.panic c) a w := by exact fun _ _ _ h => h) (hy : Region.wanted oi (yielded ops a.tmps) = true := by rfl) (hr : ∀ w, S w → (execOp a.eval oi).run P w = .ok (.value v) w := by rintro w' ⟨s0, s1, s2, s3⟩; go_simp; with_reducible rfl) (ha : a.put (some N) v = a' := by simp only [Act.put, List.setIfInBounds_toArray, List.set_cons_zero, List.set_cons_succ, i64_w, i32_w]; rfl) (h : wpAnyLast P md ops Q S ds fuel (qM n m) a' w) : wpAnyLast P md ops Q S ds (fuel + 1) l a w :=
  take_ (qM n m) hi hN (take_ofW HT_.out HW_.out hc) hQ (Or.inl ⟨hy, hr⟩) hS ha h
theorem rT5 (i : Nat) (N : Tmp) (n m : Nat) (HT_ : Aside0 (rtab md ops = T)) (HW_ : Aside0 (waitsOk T.2 B = true)) (hS : S w) (hi : ops[i]? = some oi := by rfl) (hN : oi.dst = some N := by rfl) (hc : takeW T B ds l.toList (qM n m).toList i = true := by kernel_rfl) (hQ : ∀ c a w, Q (.panic c) (a.put oi.dst v) w → Q (.panic c) a w := by exact fun _ _ _ h => h) (hy : Region.wanted oi (yielded ops a.tmps) = true := by rfl) (hr : ∀ w, S w → (execOp a.eval oi).run P w = .ok (.value v) w := by rintro w' ⟨s0, s1, s2, s3, s4⟩; go_simp; with_reducible rfl) (ha : a.put (some N) v = a' := by simp only [Act.put, List.setIfInBounds_toArray, List.set_cons_zero, List.set_cons_succ, i64_w, i32_w]; rfl) (h : wpAnyLast P md ops Q S ds fuel (qM n m) a' w) : wpAnyLast P md ops Q S ds (fuel + 1) l a w :=
  take_ (qM n m) hi hN (take_ofW HT_.out HW_.out hc) hQ (Or.inl ⟨hy, hr⟩) hS ha h
theorem sT8 (i : Nat) (N : Tmp) (n m : Nat) (hS : S w) (hi : ops[i]? = some oi := by rfl) (hN : oi.dst = some N := by rfl) (hc : takeB md ops ds l (qM n m) i = true := by kernel_rfl) (hQ : ∀ c a w, Q (.panic c) (a.put oi.dst v) w → Q (.panic c) a w := by exact fun _ _ _ h => h) (hy : Region.wanted oi (yielded ops a.tmps) = true := by rfl) (hr : ∀ w, S w → (execOp a.eval oi).run P w = .ok (.value v) w := by rintro w' ⟨s0, s1, s2, s3, s4, s5, s6, s7⟩; go_simp; with_reducible rfl) (ha : a.put (some N) v = a' := by simp only [Act.put, List.setIfInBounds_toArray, List.set_cons_zero, List.set_cons_succ, i64_w, i32_w]; rfl) (h : wpAnyLast P md ops Q S ds fuel (qM n m) a' w) : wpAnyLast P md ops Q S ds (fuel + 1) l a w :=
  take_ (qM n m) hi hN hc hQ (Or.inl ⟨hy, hr⟩) hS ha h
theorem rN (ha : a = a' := by show Act.put _ (some _) _ = _; simp only [Act.put, List.setIfInBounds_toArray, List.set_cons_zero, List.set_cons_succ, i64_w, i32_w]; rfl) (h : wpAnyLast P md ops Q S ds fuel l a' w) : wpAnyLast P md ops Q S ds fuel l a w := norm_ ha h
end
section
theorem jA {a b : Prop} (x : a) (y : b) : Aside0 a ∧ b := ⟨.mk x, y⟩
theorem jB {a b : Prop} (x : a) (y : b) : a ∧ b := ⟨x, y⟩
theorem cells4 {w : World} {g : Nat} {t : TypeId} {a0 a1 a2 a3 : Value} (h : w.heap[g]? = some (.cells #[a0,a1,a2,a3] t (0,0))) : w.cell? ⟨g,0,none⟩ = some a0 ∧ w.cell? ⟨g,1,none⟩ = some a1 ∧ w.cell? ⟨g,2,none⟩ = some a2 ∧ w.cell? ⟨g,3,none⟩ = some a3 ∧ w.frozen? ⟨g,0,none⟩ = false ∧ w.frozen? ⟨g,1,none⟩ = false ∧ w.frozen? ⟨g,2,none⟩ = false ∧ w.frozen? ⟨g,3,none⟩ = false := ⟨(blk_cell h 0).trans rfl,(blk_cell h 1).trans rfl,(blk_cell h 2).trans rfl,(blk_cell h 3).trans rfl,blk_frozen h 0,blk_frozen h 1,blk_frozen h 2,blk_frozen h 3⟩
theorem bE {P : Program} {ops : Array Oper} {Q : Exit → Act → World → Prop} {rest : List Oper} {o : Oper} {a : Act} {W : World} (N : Tmp) (cs : Array Value) (t : TypeId) (hgd : o.guard = none := by rfl) (hd : o.dst = some N := by rfl)
    (hrun : (execOp a.eval o).run P W = .ok (.value (.pointer (some ⟨W.heap.size, 0, none⟩))) (W.alloc (.cells cs t (0, 0))) := by first | (go_simp; done) | (go_simp; rfl))
    (h : ∀ g, g = W.heap.size → ∀ w1, w1.heap[g]? = some (.cells cs t (0, 0)) → Below W.heap.size W w1 → wpList P ops Q rest (a.put o.dst (.pointer (some ⟨g, 0, none⟩))) w1) : wpList P ops Q (o :: rest) a W := box_event hgd hd hrun h
variable {p : Prop}
theorem Z1 (h : p := by exact jA (blk_below (g := gb374) (o := .cells #[.slice A0_0 l0_0.length c0_0,.string a0_1,.slice A0_2 l0_2.length c0_2,.slice A0_3 l0_3.length c0_3] 29 (0,0)) Z144 hb) (jA (below_step Z147 hb) (jA (hbox) (jA ((Z126 : w.heap.size ≤ gb375)) (jA ((Z126 : w.heap.size ≤ gb375)) (jA ((by rw [hg];exact Nat.ne_of_lt (blk_lt (g := gb374) (o := .cells #[.slice A0_0 l0_0.length c0_0,.string a0_1,.slice A0_2 l0_2.length c0_2,.slice A0_3 l0_3.length c0_3] 29 (0,0)) Z144) : gb374 ≠ gb375)) (Aside0.mk ((by rw [hg];exact Nat.ne_of_gt (blk_lt (g := gb374) (o := .cells #[.slice A0_0 l0_0.length c0_0,.string a0_1,.slice A0_2 l0_2.length c0_2,.slice A0_3 l0_3.length c0_3] 29 (0,0)) Z144) : gb375 ≠ gb374))))))))) : p := h
theorem Z2 (h : p := by exact jA (Kd.R_below Z135 hb) (jA (Kd.R_below (by (with_reducible repeat (first | apply Kd.R_alloc | apply Kd.R_drewN | apply Kd.R_drew));exact HO294.out) hb) (jA (blk_below (g := gb284) (o := .cells #[.slice A0_0 l0_0.length c0_0,.string a0_1,.slice A0_2 l0_2.length c0_2,.slice A0_3 l0_3.length c0_3] 29 (0,0)) Z139 hb) (Aside0.mk (below_step Z127 hb))))) : p := h
theorem Z3 (h : p := by exact jA (below_step Z148 hb) (jA (hbox) (jA ((Z131 : w.heap.size ≤ gb284)) (Aside0.mk ((Z131 : w.heap.size ≤ gb284)))))) : p := h
theorem Z4 (h : p := by exact jA (below_step Z148 hb) (jA (hbox) (jA ((Z131 : w.heap.size ≤ gb374)) (Aside0.mk ((Z131 : w.heap.size ≤ gb374)))))) : p := h
theorem Z5 (h : p := by exact jA (below_step Z148 hb) (jA (hbox) (jA ((Z131 : w.heap.size ≤ gb106)) (Aside0.mk ((Z131 : w.heap.size ≤ gb106)))))) : p := h
theorem Z6 (h : p := by exact jA (below_step Z148 hb) (jA (hbox) (jA ((Z131 : w.heap.size ≤ gb115)) (Aside0.mk ((Z131 : w.heap.size ≤ gb115)))))) : p := h
theorem Z7 (h : p := by exact jA (below_step Z148 hb) (jA (hbox) (jA ((Z131 : w.heap.size ≤ gb379)) (Aside0.mk ((Z131 : w.heap.size ≤ gb379)))))) : p := h
theorem Z8 (h : p := by exact jA (below_step Z148 hb) (jA (hbox) (jA ((Z131 : w.heap.size ≤ gb334)) (Aside0.mk ((Z131 : w.heap.size ≤ gb334)))))) : p := h
theorem Z9 (h : p := by exact jA (below_step Z148 hb) (jA (hbox) (jA ((Z131 : w.heap.size ≤ gb198)) (Aside0.mk ((Z131 : w.heap.size ≤ gb198)))))) : p := h
theorem Z10 (h : p := by (with_reducible repeat (first | apply Kd.S_alloc | apply Kd.S_drewN | apply Kd.S_drew));exact (Kd.S_mono (Kd.S_far (p := ⟨gb402,3,none⟩) (Kd.S_far (p := ⟨gb402,2,none⟩) (Kd.S_far (p := ⟨gb402,1,none⟩) (Kd.S_far (p := ⟨gb402,0,none⟩) (Kd.S_types HO398.out BK402.out Z145) (fun _ hk => hk.2) (.slice Ao27 t392.length co27)) (fun _ hk => hk.2) (.string t395)) (fun _ hk => hk.2) (.slice Ao30 t396.length co30)) (fun _ hk => hk.2) (.slice Ao31 t399.length co31)) (fun _ h_ => h_.1))) : p := h
theorem Z11 (h : p := by (with_reducible repeat (first | apply Kd.R_alloc | apply Kd.R_drewN | apply Kd.R_drew));exact (Kd.R_mono (Kd.R_far (p := ⟨gb402,3,none⟩) (Kd.R_far (p := ⟨gb402,2,none⟩) (Kd.R_far (p := ⟨gb402,1,none⟩) (Kd.R_far (p := ⟨gb402,0,none⟩) (Kd.R_types HO401.out BK402.out Z145) (fun _ hk => hk.2) (.slice Ao27 t392.length co27)) (fun _ hk => hk.2) (.string t395)) (fun _ hk => hk.2) (.slice Ao30 t396.length co30)) (fun _ hk => hk.2) (.slice Ao31 t399.length co31)) (fun _ h_ => h_.1))) : p := h
theorem Z12 (h : p := by (with_reducible repeat (first | apply Kd.R_alloc | apply Kd.R_drewN | apply Kd.R_drew));exact (Kd.R_mono (Kd.R_far (p := ⟨gb402,3,none⟩) (Kd.R_far (p := ⟨gb402,2,none⟩) (Kd.R_far (p := ⟨gb402,1,none⟩) (Kd.R_far (p := ⟨gb402,0,none⟩) (Kd.R_types HO394.out BK402.out Z145) (fun _ hk => hk.2) (.slice Ao27 t392.length co27)) (fun _ hk => hk.2) (.string t395)) (fun _ hk => hk.2) (.slice Ao30 t396.length co30)) (fun _ hk => hk.2) (.slice Ao31 t399.length co31)) (fun _ h_ => h_.1))) : p := h
theorem Z13 (h : p := by exact jA (blk_below (g := gb379) (o := .cells #[.slice A0_0 l0_0.length c0_0,.string a0_1,.slice A0_2 l0_2.length c0_2,.slice A0_3 l0_3.length c0_3] 26 (0,0)) Z142 hb) (Aside0.mk (below_step Z132 hb))) : p := h
theorem Z14 (h : p := by exact jA (blk_below (g := gb334) (o := .cells #[.slice A0_0 l0_0.length c0_0,.string a0_1,.slice A0_2 l0_2.length c0_2,.slice A0_3 l0_3.length c0_3] 29 (0,0)) Z141 hb) (Aside0.mk (below_step Z129 hb))) : p := h
theorem Z15 (h : p := by exact jA (blk_below (g := gb198) (o := .cells #[.slice A0_0 l0_0.length c0_0,.string a0_1,.slice A0_2 l0_2.length c0_2,.slice A0_3 l0_3.length c0_3] 29 (0,0)) Z140 hb) (Aside0.mk (below_step Z128 hb))) : p := h
theorem Z16 (h : p := by repeat (first | exact (Kd.C_below HR1_2.out Z124) | (with_reducible refine Kd.C_alloc ?_ _) | (with_reducible refine Kd.C_drewN ?_ _) | (with_reducible refine Kd.C_drew ?_))) : p := h
theorem Z17 (h : p := by repeat (first | exact (Kd.C_below HR0_2.out Z124) | (with_reducible refine Kd.C_alloc ?_ _) | (with_reducible refine Kd.C_drewN ?_ _) | (with_reducible refine Kd.C_drew ?_))) : p := h
theorem Z18 (h : p := by repeat (first | exact (Kd.C_below HR1_3.out Z124) | (with_reducible refine Kd.C_alloc ?_ _) | (with_reducible refine Kd.C_drewN ?_ _) | (with_reducible refine Kd.C_drew ?_))) : p := h
theorem Z19 (h : p := by repeat (first | exact (Kd.C_below HR0_3.out Z124) | (with_reducible refine Kd.C_alloc ?_ _) | (with_reducible refine Kd.C_drewN ?_ _) | (with_reducible refine Kd.C_drew ?_))) : p := h
theorem Z20 (h : p := by exact jA (Kd.R_lower ho3 (below_size Z148)) (Aside0.mk (below_step Z148 hb))) : p := h
theorem Z21 (h : p := by exact jA (Kd.R_lower ho5 (below_size Z148)) (Aside0.mk (below_step Z148 hb))) : p := h
theorem Z22 (h : p := by repeat (first | exact (Kd.C_below HR0_0.out Z130) | (with_reducible refine Kd.C_alloc ?_ _) | (with_reducible refine Kd.C_drewN ?_ _) | (with_reducible refine Kd.C_drew ?_))) : p := h
theorem Z23 (h : p := by repeat (first | exact (Kd.C_below HR122.out Z130) | (with_reducible refine Kd.C_alloc ?_ _) | (with_reducible refine Kd.C_drewN ?_ _) | (with_reducible refine Kd.C_drew ?_))) : p := h
theorem Z24 (h : p := by repeat (first | exact (Kd.C_below HR0_0.out Z127) | (with_reducible refine Kd.C_alloc ?_ _) | (with_reducible refine Kd.C_drewN ?_ _) | (with_reducible refine Kd.C_drew ?_))) : p := h
theorem Z25 (h : p := by repeat (first | exact (Kd.C_below HR0_2.out Z133) | (with_reducible refine Kd.C_alloc ?_ _) | (with_reducible refine Kd.C_drewN ?_ _) | (with_reducible refine Kd.C_drew ?_))) : p := h
theorem Z26 (h : p := by repeat (first | exact (Kd.C_below HR0_3.out Z127) | (with_reducible refine Kd.C_alloc ?_ _) | (with_reducible refine Kd.C_drewN ?_ _) | (with_reducible refine Kd.C_drew ?_))) : p := h
theorem Z27 (h : p := by repeat (first | exact (Kd.C_below HR0_3.out Z133) | (with_reducible refine Kd.C_alloc ?_ _) | (with_reducible refine Kd.C_drewN ?_ _) | (with_reducible refine Kd.C_drew ?_))) : p := h
theorem Z28 (h : p := by repeat (first | exact (Kd.C_below HR0_2.out Z127) | (with_reducible refine Kd.C_alloc ?_ _) | (with_reducible refine Kd.C_drewN ?_ _) | (with_reducible refine Kd.C_drew ?_))) : p := h
theorem Z29 (h : p := by exact jA (Kd.R_below Z138 hb) (Aside0.mk (below_step Z148 hb))) : p := h
theorem Z30 (h : p := by repeat (first | (with_reducible first | exact HB.out | apply below_alloc | apply pw_below_drewN | apply below_drew1 | refine below_set ?_ GE261.out | refine below_set ?_ GE262.out | refine below_set ?_ GE263.out) | exact HB.out)) : p := h
theorem Z31 (h : p := by rw [hg];exact (below_size Z125)) : p := h
theorem Z32 (h : p := by rw [hg];exact Nat.ne_of_lt (blk_lt (g := gb261) (o := .cells #[.slice A0_0 l0_0.length c0_0,.string a0_1,.slice A0_2 l0_2.length c0_2,.slice A0_3 l0_3.length c0_3] 26 (0,0)) Z143)) : p := h
theorem Z33 (h : p := by rw [hg];exact Nat.ne_of_gt (blk_lt (g := gb261) (o := .cells #[.slice A0_0 l0_0.length c0_0,.string a0_1,.slice A0_2 l0_2.length c0_2,.slice A0_3 l0_3.length c0_3] 26 (0,0)) Z143)) : p := h
theorem Z34 (h : p := by repeat (first | (with_reducible first | exact HB.out | apply below_alloc | apply pw_below_drewN | apply below_drew1 | refine below_set ?_ GE379.out | refine below_set ?_ GE402.out) | exact HB.out)) : p := h
theorem Z35 (h : p := by rw [hg];exact (below_size Z132)) : p := h
theorem Z36 (h : p := by rw [hg];exact (below_size Z134)) : p := h
theorem Z37 (h : p := by exact GT_below HG.out Z129) : p := h
theorem Z38 (h : p := by exact (below_size Z128)) : p := h
theorem Z39 (h : p := by exact (below_size Z127)) : p := h
theorem Z40 (h : p := by exact (below_size Z129)) : p := h
theorem Z41 (h : p := by repeat (first | exact (Kd.C_below HR0_0.out HB.out) | (with_reducible refine Kd.C_alloc ?_ _) | (with_reducible refine Kd.C_drewN ?_ _) | (with_reducible refine Kd.C_drew ?_))) : p := h
theorem Z42 (h : p := by repeat (first | exact (Kd.C_below HR0_3.out HB.out) | (with_reducible refine Kd.C_alloc ?_ _) | (with_reducible refine Kd.C_drewN ?_ _) | (with_reducible refine Kd.C_drew ?_))) : p := h
theorem Z43 (h : p := by repeat (first | exact (Kd.C_below HR0_2.out HB.out) | (with_reducible refine Kd.C_alloc ?_ _) | (with_reducible refine Kd.C_drewN ?_ _) | (with_reducible refine Kd.C_drew ?_))) : p := h
theorem Z44 (h : p := by exact Z128) : p := h
theorem Z45 (h : p := by repeat (first | exact (Kd.C_below HR1_0.out HB.out) | (with_reducible refine Kd.C_alloc ?_ _) | (with_reducible refine Kd.C_drewN ?_ _) | (with_reducible refine Kd.C_drew ?_))) : p := h
theorem Z46 (h : p := by exact Z127) : p := h
theorem Z47 (h : p := by exact Z129) : p := h
theorem Z48 (h : p := by repeat (first | exact (Kd.R_reads' HO294.out).2.2 | (with_reducible refine Kd.C_alloc ?_ _) | (with_reducible refine Kd.C_drewN ?_ _) | (with_reducible refine Kd.C_drew ?_))) : p := h
theorem Z49 (h : p := by repeat (first | exact (Kd.R_reads' HO291.out).2.2 | (with_reducible refine Kd.C_alloc ?_ _) | (with_reducible refine Kd.C_drewN ?_ _) | (with_reducible refine Kd.C_drew ?_))) : p := h
theorem Z50 (h : p := by repeat (first | exact (Kd.N_reads' HO_3.out).2.2 | (with_reducible refine Kd.C_alloc ?_ _) | (with_reducible refine Kd.C_drewN ?_ _) | (with_reducible refine Kd.C_drew ?_))) : p := h
theorem Z51 (h : p := by exact (by (with_reducible repeat (first | apply Kd.N_alloc | apply Kd.N_drewN | apply Kd.N_drew));exact Kd.N_mono HO_3.out (fun _ hk => ⟨hk.1.1.1,hk.1.1.2⟩))) : p := h
theorem Z52 (h : p := by exact GT_below HG.out Z148) : p := h
theorem Z53 (h : p := by repeat (first | exact HR372_0.out | (with_reducible refine Kd.C_alloc ?_ _) | (with_reducible refine Kd.C_drewN ?_ _) | (with_reducible refine Kd.C_drew ?_))) : p := h
theorem Z54 (h : p := by repeat (first | exact HR371_0.out | (with_reducible refine Kd.C_alloc ?_ _) | (with_reducible refine Kd.C_drewN ?_ _) | (with_reducible refine Kd.C_drew ?_))) : p := h
theorem Z55 (h : p := by (with_reducible repeat (first | apply Kd.N_alloc | apply Kd.N_drewN | apply Kd.N_drew));exact Kd.N_mono HO_3.out (fun _ hk => ⟨⟨hk.2,hk.1.2⟩,hk.1.1⟩)) : p := h
theorem Z56 (h : p := by repeat (first | exact HR104_0.out | (with_reducible refine Kd.C_alloc ?_ _) | (with_reducible refine Kd.C_drewN ?_ _) | (with_reducible refine Kd.C_drew ?_))) : p := h
theorem Z57 (h : p := by exact (below_size Z148)) : p := h
theorem Z58 (h : p := by exact (fun k_ hk => Kd.fresh' (Kd.R_lt Z135) k_ hk)) : p := h
theorem Z59 (h : p := by exact (fun k_ hk => Kd.fresh' (Kd.R_lt Z137) k_ hk)) : p := h
theorem Z60 (h : p := by repeat (first | exact HR278.out | (with_reducible refine Kd.C_alloc ?_ _) | (with_reducible refine Kd.C_drewN ?_ _) | (with_reducible refine Kd.C_drew ?_))) : p := h
theorem Z61 (h : p := by repeat (first | exact HR0.out | (with_reducible refine Kd.C_alloc ?_ _) | (with_reducible refine Kd.C_drewN ?_ _) | (with_reducible refine Kd.C_drew ?_))) : p := h
theorem Z62 (h : p := by (with_reducible repeat (first | apply Kd.R_alloc | apply Kd.R_drewN | apply Kd.R_drew));exact Kd.R_mono HO291.out (fun _ hk => ⟨trivial,hk⟩)) : p := h
theorem Z63 (h : p := by exact Z148) : p := h
theorem Z64 (h : p := by exact (by (with_reducible repeat (first | apply Kd.R_alloc | apply Kd.R_drewN | apply Kd.R_drew));exact Kd.R_mono HO202.out (fun _ hk => hk.2))) : p := h
theorem Z65 (h : p := by exact (by (with_reducible repeat (first | apply Kd.R_alloc | apply Kd.R_drewN | apply Kd.R_drew));exact Kd.R_mono HO_5.out (fun _ hk => hk.2))) : p := h
theorem Z66 (h : p := by (try simp only [List.map_toArray,List.map_cons,List.map_nil]);first | done | rfl | (simp only [List.length_drop,List.length_take];rfl)) : p := h
theorem Z67 (h : p := by (with_reducible repeat (first | apply Kd.R_alloc | apply Kd.R_drewN | apply Kd.R_drew));exact Kd.R_mono HO291.out (fun _ hk => hk.2)) : p := h
theorem Z68 (h : p := by (with_reducible repeat (first | apply Kd.R_alloc | apply Kd.R_drewN | apply Kd.R_drew));exact Kd.R_mono HO288.out (fun _ hk => hk.2)) : p := h
theorem Z69 (h : p := by (with_reducible repeat (first | apply Kd.R_alloc | apply Kd.R_drewN | apply Kd.R_drew));exact Kd.R_mono HO208.out (fun _ hk => hk.2)) : p := h
theorem Z70 (h : p := by (with_reducible repeat (first | apply Kd.R_alloc | apply Kd.R_drewN | apply Kd.R_drew));exact Kd.R_mono HO341.out (fun _ hk => hk.2)) : p := h
theorem Z71 (h : p := by (with_reducible repeat (first | apply Kd.R_alloc | apply Kd.R_drewN | apply Kd.R_drew));exact Kd.R_mono HO338.out (fun _ hk => hk.2)) : p := h
theorem Z72 (h : p := by exact (Kd.own_of_R Z138)) : p := h
theorem Z73 (h : p := by exact Z136) : p := h
theorem Z74 (h : p := by exact (by (with_reducible repeat (first | apply Kd.R_alloc | apply Kd.R_drewN | apply Kd.R_drew));exact HO_4.out)) : p := h
theorem Z75 (h : p := by exact Z138) : p := h
theorem Z76 (h : p := by (with_reducible repeat (first | apply Kd.R_alloc | apply Kd.R_drewN | apply Kd.R_drew));exact HO390.out) : p := h
theorem Z77 (h : p := by (with_reducible repeat (first | apply Kd.S_alloc | apply Kd.S_drewN | apply Kd.S_drew));exact HO387.out) : p := h
theorem Z78 (h : p := by (with_reducible repeat (first | apply Kd.R_alloc | apply Kd.R_drewN | apply Kd.R_drew));exact HO383.out) : p := h
theorem Z79 (h : p := by (with_reducible repeat (first | apply Kd.R_alloc | apply Kd.R_drewN | apply Kd.R_drew));exact HO356.out) : p := h
theorem Z80 (h : p := by (with_reducible repeat (first | apply Kd.R_alloc | apply Kd.R_drewN | apply Kd.R_drew));exact HO233.out) : p := h
theorem Z81 (h : p := by (with_reducible repeat (first | apply Kd.R_alloc | apply Kd.R_drewN | apply Kd.R_drew));exact HO401.out) : p := h
theorem Z82 (h : p := by (with_reducible repeat (first | apply Kd.R_alloc | apply Kd.R_drewN | apply Kd.R_drew));exact HO341.out) : p := h
theorem Z83 (h : p := by (with_reducible repeat (first | apply Kd.R_alloc | apply Kd.R_drewN | apply Kd.R_drew));exact HO205.out) : p := h
theorem Z84 (h : p := by (with_reducible repeat (first | apply Kd.S_alloc | apply Kd.S_drewN | apply Kd.S_drew));exact HO398.out) : p := h
theorem Z85 (h : p := by (with_reducible repeat (first | apply Kd.R_alloc | apply Kd.R_drewN | apply Kd.R_drew));exact HO394.out) : p := h
theorem Z86 (h : p := by (with_reducible repeat (first | apply Kd.R_alloc | apply Kd.R_drewN | apply Kd.R_drew));exact HO351.out) : p := h
theorem Z87 (h : p := by (with_reducible repeat (first | apply Kd.R_alloc | apply Kd.R_drewN | apply Kd.R_drew));exact HO338.out) : p := h
theorem Z88 (h : p := by (with_reducible repeat (first | apply Kd.R_alloc | apply Kd.R_drewN | apply Kd.R_drew));exact HO202.out) : p := h
theorem Z89 (h : p := by (with_reducible repeat (first | apply Kd.R_alloc | apply Kd.R_drewN | apply Kd.R_drew));exact HO322.out) : p := h
theorem Z90 (h : p := by (with_reducible repeat (first | apply Kd.R_alloc | apply Kd.R_drewN | apply Kd.R_drew));exact HO225.out) : p := h
theorem Z91 (h : p := by (with_reducible repeat (first | apply Kd.R_alloc | apply Kd.R_drewN | apply Kd.R_drew));exact HO182.out) : p := h
theorem Z92 (h : p := by (with_reducible repeat (first | apply Kd.R_alloc | apply Kd.R_drewN | apply Kd.R_drew));exact HO157.out) : p := h
theorem Z93 (h : p := by (with_reducible repeat (first | apply Kd.R_alloc | apply Kd.R_drewN | apply Kd.R_drew));exact HO151.out) : p := h
theorem Z94 (h : p := by (with_reducible repeat (first | apply Kd.N_alloc | apply Kd.N_drewN | apply Kd.N_drew));exact HO_3.out) : p := h
theorem Z95 (h : p := by (with_reducible repeat (first | apply Kd.R_alloc | apply Kd.R_drewN | apply Kd.R_drew));exact HO_5.out) : p := h
theorem Z96 (h : p := by (with_reducible repeat (first | apply Kd.S_alloc | apply Kd.S_drewN | apply Kd.S_drew));exact HO_3.out) : p := h
theorem Z97 (h : p := by exact jA (hp_) (Aside0.mk ((by rw [hw];exact below_set (HB.out) GB9.out : Below w.heap.size w w11)))) : p := h
theorem Z98 (h : p := by first | rfl | (simp [errW_none,errW_some] <;> rfl) | (simp [*,errW_none,errW_some] <;> rfl)) : p := h
theorem Z99 (h : p := by simp only [putAll,Act.put,List.setIfInBounds_toArray,List.set_cons_zero,List.set_cons_succ]) : p := h
theorem Z100 (h : p := by exact (Reps.one (show Kd.M Kd.string _ _ _ a0_1 [.string a0_1] from rfl) (Reps.none _ _))) : p := h
theorem Z101 (h : p := by have := HJ1.out;have := HK2.out;have := HK3.out;have := HJ32.out;have := HK5.out;omega) : p := h
theorem Z102 (h : p := by have := HJ1.out;have := HK2.out;have := HK3.out;first | omega | exact Nat.le_refl _) : p := h
theorem Z103 (h : p := by have hq := hc 0 _ rfl; rwa [Nat.mul_one, Nat.add_zero] at hq) : p := h
theorem Z104 (h : p := by repeat (first | exact Drawn0.refl _ | apply Drawn0.step)) : p := h
theorem Z105 (h : p := by first | (with_reducible assumption) | assumption) : p := h
theorem Z106 (h : p := by first | rfl | (simp;done) | (simp [*];done)) : p := h
theorem Z107 (h : p := by first | (go_simp;done) | (go_simp;rfl)) : p := h
theorem Z108 (h : p := by have := HK1.out;have := HK2.out;omega) : p := h
theorem Z109 (h : p := by have := HJ1.out;have := HK2.out;omega) : p := h
theorem Z110 (h : p := by first | omega | exact Nat.le_refl _) : p := h
theorem Z111 (h : p := by exact (Kd.R_reads' HO294.out).2.1) : p := h
theorem Z112 (h : p := by refine bP ?_;exact BK115.out) : p := h
theorem Z113 (h : p := by refine bP ?_;exact BK262.out) : p := h
theorem Z114 (h : p := by exact (fun _ _ => trivial)) : p := h
theorem Z115 (h : p := by have := LMc5.out;omega) : p := h
theorem Z116 (h : p := by have := HK1.out;omega) : p := h
theorem Z117 (h : p := by exact (Reps.none _ _)) : p := h
theorem Z118 (h : p := by exact HC0_0.out) : p := h
theorem Z119 (h : p := by exact HC0_2.out) : p := h
theorem Z120 (h : p := by exact HC0_3.out) : p := h
theorem Z121 (h : p := by kernel_rfl) : p := h
theorem Z122 (h : p := by omega) : p := h
theorem Z123 (h : p := by rfl) : p := h
theorem Z124 (h : p := by repeat (first | (with_reducible first | exact HB.out | apply below_alloc | apply pw_below_drewN | apply below_drew1 | refine below_set ?_ GE374.out | refine below_set ?_ GE375.out) | exact HB.out)) : p := h
theorem Z125 (h : p := by repeat (first | (with_reducible first | exact HB.out | apply below_alloc | apply pw_below_drewN | apply below_drew1 | refine below_set ?_ GE261.out | refine below_set ?_ GE262.out) | exact HB.out)) : p := h
theorem Z126 (h : p := by rw [hg];exact (below_size Z147)) : p := h
theorem Z127 (h : p := by repeat (first | (with_reducible first | exact HB.out | apply below_alloc | apply pw_below_drewN | apply below_drew1 | refine below_set ?_ GE284.out) | exact HB.out)) : p := h
theorem Z128 (h : p := by repeat (first | (with_reducible first | exact HB.out | apply below_alloc | apply pw_below_drewN | apply below_drew1 | refine below_set ?_ GE198.out) | exact HB.out)) : p := h
theorem Z129 (h : p := by repeat (first | (with_reducible first | exact HB.out | apply below_alloc | apply pw_below_drewN | apply below_drew1 | refine below_set ?_ GE334.out) | exact HB.out)) : p := h
theorem Z130 (h : p := by repeat (first | (with_reducible first | exact HB.out | apply below_alloc | apply pw_below_drewN | apply below_drew1 | refine below_set ?_ GE115.out) | exact HB.out)) : p := h
theorem Z131 (h : p := by rw [hg];exact (below_size Z148)) : p := h
theorem Z132 (h : p := by repeat (first | (with_reducible first | exact HB.out | apply below_alloc | apply pw_below_drewN | apply below_drew1 | refine below_set ?_ GE379.out) | exact HB.out)) : p := h
theorem Z133 (h : p := by repeat (first | (with_reducible first | exact HB.out | apply below_alloc | apply pw_below_drewN | apply below_drew1 | refine below_set ?_ GE106.out) | exact HB.out)) : p := h
theorem Z134 (h : p := by repeat (first | (with_reducible first | exact HB.out | apply below_alloc | apply pw_below_drewN | apply below_drew1 | refine below_set ?_ GE261.out) | exact HB.out)) : p := h
theorem Z135 (h : p := by (with_reducible repeat (first | apply Kd.R_alloc | apply Kd.R_drewN | apply Kd.R_drew));exact HO291.out) : p := h
theorem Z136 (h : p := by (with_reducible repeat (first | apply Kd.R_alloc | apply Kd.R_drewN | apply Kd.R_drew));exact HO288.out) : p := h
theorem Z137 (h : p := by (with_reducible repeat (first | apply Kd.R_alloc | apply Kd.R_drewN | apply Kd.R_drew));exact HO208.out) : p := h
theorem Z138 (h : p := by (with_reducible repeat (first | apply Kd.R_alloc | apply Kd.R_drewN | apply Kd.R_drew));exact HO_3.out) : p := h
theorem Z139 (h : p := by refine bP ?_;exact BK284.out) : p := h
theorem Z140 (h : p := by refine bP ?_;exact BK198.out) : p := h
theorem Z141 (h : p := by refine bP ?_;exact BK334.out) : p := h
theorem Z142 (h : p := by refine bP ?_;exact BK379.out) : p := h
theorem Z143 (h : p := by refine bP ?_;exact BK261.out) : p := h
theorem Z144 (h : p := by refine bP ?_;exact BK374.out) : p := h
theorem Z145 (h : p := by decide) : p := h
theorem Z146 (h : p := by simp) : p := h
theorem Z147 (h : p := by repeat (first | (with_reducible first | exact HB.out | apply below_alloc | apply pw_below_drewN | apply below_drew1 | refine below_set ?_ GE374.out) | exact HB.out)) : p := h
theorem Z148 (h : p := by repeat (first | (with_reducible first | exact HB.out | apply below_alloc | apply pw_below_drewN | apply below_drew1) | exact HB.out)) : p := h
end



def errW : Option Int → Value
 | none => .nilIface
 | some c => .iface 0 (.int .i64 c)
theorem errW_none : errW none = .nilIface := rfl
theorem errW_some (c : Int) : errW (some c) = .iface 0 (.int .i64 c) := rfl

theorem info3 : (Tryd.prog.info? 3).map (fun i => (i.zero, i.size, i.bytes)) = some (some (.int .i64 0), 1, 8) := by kernel_rfl
theorem info5 : (Tryd.prog.info? 5).map (fun i => (i.zero, i.size, i.bytes)) = some (some (.int .u8 0), 1, 1) := by kernel_rfl
theorem info9 : (Tryd.prog.info? 9).map (fun i => (i.zero, i.size, i.bytes)) = some (some (.string ⟨#[]⟩), 1, 16) := by kernel_rfl
theorem info22 : (Tryd.prog.info? 22).map (fun i => (i.zero, i.size, i.bytes)) = some (some (.slice none 0 0), 1, 24) := by kernel_rfl
theorem info24 : (Tryd.prog.info? 24).map (fun i => (i.zero, i.size, i.bytes)) = some (some (.slice none 0 0), 1, 24) := by kernel_rfl
-- the values' own types
def rd_L2 (xs : List (List Int)) (i : Int) : (List Int) := xs.getD i.toNat ([] : List Int)
theorem at_L2 {w : World} {A : Option Addr} {n : Nat} {xs : List (List Int)} (h : Kd.C (Kd.slice 3 (Kd.int .i64)) w A n xs) (i : Int) (h0 : 0 ≤ i) (h1 : i < n) : ∃ ad A0 c0, A = some ad ∧ w.cell? (ad.add i.toNat) = some (.slice A0 (rd_L2 xs i).length c0) ∧ (rd_L2 xs i).length ≤ c0 ∧ (Kd.int .i64).C w A0 (rd_L2 xs i).length (rd_L2 xs i) := by
 obtain ⟨ad, c, e, _, hK, hc0⟩ := Kd.C_get h ([] : List Int) i h0 h1
 have hc : ∀ j u, c[j]? = some u → w.cell? (ad.add (i.toNat * 1 + j)) = some u := hc0
 obtain ⟨A0, c0, rfl, l0, g0⟩ := hK
 exact ⟨ad, A0, c0, e, Z103, l0, g0⟩

def rd_L4 (xs : List (List ByteArray)) (i : Int) : (List ByteArray) := xs.getD i.toNat ([] : List ByteArray)
theorem at_L4 {w : World} {A : Option Addr} {n : Nat} {xs : List (List ByteArray)} (h : Kd.C (Kd.slice 9 Kd.string) w A n xs) (i : Int) (h0 : 0 ≤ i) (h1 : i < n) : ∃ ad A0 c0, A = some ad ∧ w.cell? (ad.add i.toNat) = some (.slice A0 (rd_L4 xs i).length c0) ∧ (rd_L4 xs i).length ≤ c0 ∧ Kd.string.C w A0 (rd_L4 xs i).length (rd_L4 xs i) := by
 obtain ⟨ad, c, e, _, hK, hc0⟩ := Kd.C_get h ([] : List ByteArray) i h0 h1
 have hc : ∀ j u, c[j]? = some u → w.cell? (ad.add (i.toNat * 1 + j)) = some u := hc0
 obtain ⟨A0, c0, rfl, l0, g0⟩ := hK
 exact ⟨ad, A0, c0, e, Z103, l0, g0⟩

theorem bA {w : World} {g : Nat} {o : Obj} (h : w.heap[g]? = some o) (n : Nat) : (w.drewN n).heap[g]? = some o := blk_drewN h n
theorem bB {w : World} {g : Nat} {o : Obj} (h : w.heap[g]? = some o) : w.drew.heap[g]? = some o := blk_drew h
theorem bC {w : World} {g : Nat} {o : Obj} (h : w.heap[g]? = some o) (o' : Obj) : (w.alloc o').heap[g]? = some o := blk_alloc h o'
theorem bP {p q : Prop} (x : q) (h : q → p := by (intro h_; (with_reducible repeat (first | refine bA ?_ _ | refine bB ?_ | refine bC ?_ _)); exact h_)) : p := h x
theorem take_at_ {α : Type} {P : Program} {f : Nat} {A : Option Addr} {c : Nat} {v : Value} {w : World} {Q : Ending → World → Prop} {xs : List α} {j : Int} (h0 : 0 ≤ j) (hm : j ≤ (xs.length : Int)) (g : Calls P f #[.slice A (xs.take j.toNat).length c,v] w Q) : Calls P f #[.slice A j.toNat c,v] w Q := by
 have h : (xs.take j.toNat).length = j.toNat := by rw [List.length_take]; omega
 rwa [h] at g
end Go.Proofs.YtepnbcdbagjmbabDoor.QFnExactTableText
