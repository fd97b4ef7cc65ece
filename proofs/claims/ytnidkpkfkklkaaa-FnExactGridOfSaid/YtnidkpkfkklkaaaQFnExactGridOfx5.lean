/- The machine side of FnExactGridOf: what each Go function that it reaches comes to. Conditions: none. -/
import Derived.Test.YtnidkpkfkklkaaaQFnExactGridOfx0
import Derived.Test.YtnidkpkfkklkaaaQFnExactGridOfx1
import Derived.Test.YtnidkpkfkklkaaaQFnExactGridOfx4
namespace Go.Proofs.Ytnidkpkfkklkaaa.QFnExactGridOf
open Go.RowKit Go.Proofs.YtnidkpkfkklkaaaW.PrintWords Go.Proofs.YtnidkpkfkklkaaaW.PrintLast Go.Proofs.YtnidkpkfkklkaaaW.PrintMore
attribute [local go_sem] max2_int min2_int max_two min_two max_three min_three max_four min_four   -- for this text's walks alone
set_option linter.unusedVariables false
set_option linter.unusedSimpArgs false

/-! ### spec_Distinct: function 40 -/
def spec_Distinct.l0 : Nat → List Int → List Int → Int → Option (List Int)
 | 0,_,_,_ => none
 | k + 1,x3,x4,x5 => if x5 < (x4.length : Int) then (if x5 = 0 then (if 0 ≤ x5 then (if x3.length < 17592186044416 then (spec_Distinct.l0 k (x3 ++ [rd x4 x5]) x4 (wrap64 (x5 + 1))) else (none)) else (none)) else (if 0 ≤ x5 then (if 0 ≤ (wrap64 (x5 - 1)) then (if (wrap64 (x5 - 1)) < (x4.length : Int) then (if (rd x4 x5) = (rd x4 (wrap64 (x5 - 1))) then (spec_Distinct.l0 k x3 x4 (wrap64 (x5 + 1))) else (if x3.length < 17592186044416 then (spec_Distinct.l0 k (x3 ++ [rd x4 x5]) x4 (wrap64 (x5 + 1))) else (none))) else (none)) else (none)) else (none))) else (some x3)
def spec_Distinct.f (k : Nat) (l0 : List Int) : Option (List Int) := (spec_SortInts.f k l0).bind fun t201 => (spec_Distinct.l0 k (([] : List Int)) t201 0)
theorem spec_Distinct.mono_l : ∀ k,(∀ y0 y1 y2,LeO (spec_Distinct.l0 k y0 y1 y2) (spec_Distinct.l0 (k + 1) y0 y1 y2))
 | 0 => fun _ _ _ r h => by simp [spec_Distinct.l0] at h
 | k + 1 => by
  have ih0 := spec_Distinct.mono_l k
  ·intro y0 y1 y2
   unfold spec_Distinct.l0
   repeat' first
   | (with_reducible exact ih0 _ _ _)
   | (with_reducible exact spec_SortInts.mono _ _)
   | (with_reducible exact LeO.refl _)
   | (with_reducible exact LeO.none _)
   | (with_reducible refine LeO.ite ?_ ?_)
   | (with_reducible refine LeO.bind ?_ (fun _ => ?_))
   | exact ih0 _ _ _
   | exact spec_SortInts.mono _ _
   | exact LeO.none _
   | refine LeO.ite ?_ ?_
   | refine LeO.bind ?_ (fun _ => ?_)
theorem spec_Distinct.mono : ∀ a0 k,LeO (spec_Distinct.f k a0) (spec_Distinct.f (k + 1) a0) := by
 intro a0 k
 have ih0 := spec_Distinct.mono_l k
 unfold spec_Distinct.f
 repeat' first
   | (with_reducible exact ih0 _ _ _)
   | (with_reducible exact spec_SortInts.mono _ _)
   | (with_reducible exact LeO.refl _)
   | (with_reducible exact LeO.none _)
   | (with_reducible refine LeO.ite ?_ ?_)
   | (with_reducible refine LeO.bind ?_ (fun _ => ?_))
   | exact ih0 _ _ _
   | exact spec_SortInts.mono _ _
   | exact LeO.none _
   | refine LeO.ite ?_ ?_
   | refine LeO.bind ?_ (fun _ => ?_)
set_option maxHeartbeats 8000000 in
set_option maxRecDepth 100000 in
theorem spec_Distinct.calls (k : Nat) (A0 : Option Addr) (c0 : Nat) (l0 : List Int) (r : List Int) (w : World) (hr0 : Kd.C (Kd.int .i64) w A0 l0.length l0) (hc0 : l0.length ≤ c0) (h : spec_Distinct.f k l0 = some r) :
  Calls Try.prog 40 #[.slice A0 l0.length c0] w fun e w' => ∃ v0_ : Value,e = .returned (v0_) ∧ Kd.R (Kd.int .i64) 3 w' w.heap.size (fun _ => True) v0_ r ∧ Below w.heap.size w w' := by
 have HR0 := Aside0.mk hr0
 have HC0 := Aside0.mk hc0
 clear hr0 hc0
 have HB := Aside0.mk (Below.refl w.heap.size w)
 have H := h
 clear h
 unfold spec_Distinct.f at H
 obtain ⟨y198,hyy⟩ : ∃ y_ : List Int,y_ = (([] : List Int)) := ⟨_,rfl⟩
 replace H : ((spec_SortInts.f k l0).bind fun t201 => (spec_Distinct.l0 k y198 t201 0)) = some r := zR
 have Ny198 := Aside0.mk hyy
 clear hyy
 obtain ⟨t201,A20,H⟩ := Option.bind_eq_some_iff.mp H
 have A2 := Aside0.mk A20
 clear A20
 have H' := Aside0.mk H
 clear H
 go_enter Try.func40,Try.ntmps40
 go_wp2_with (first | ((with_reducible refine gate_dst (N := 6) rfl ?_);refine Kd.R_lit (Kd.int .i64) _ 3 ?hg (N := 6) ?hd (xs := ([] : List Int)) (inner := []) (ok := fun _ => True) (okp := fun _ => True) ?hr ?hp (fun _ hk => hk) trivial (Below.refl _ _) (Nat.le_refl _) Z294 ?_;(case hd => rfl);(case hg => rfl);(case hr => exact Z219);(case hp => exact Z232);intro v199 w3 ho4 hb hg_ hnew_;clear hg_ hnew_;(first | rw [← Ny198.out] at ho4 | (simp only [Int.reduceToNat] at ho4;rw [← Ny198.out] at ho4));have n_ := Z38;clear HB;obtain ⟨HO200,HB⟩ := n_;clear hb ho4) | (go_at_call 39;(with_reducible refine (spec_SortInts.calls k _ _ l0 t201 _ ?side1 ?side2 A2.out).mono ?_);(case side1 => exact Z114);(case side2 => exact HC0.out);rintro e w5 ⟨v202,rfl,ho0,hb⟩;have n_ := Z9;clear HO200 HB;obtain ⟨HO200,HO203,HB⟩ := n_;(try clear hb);(try clear hb2);(try clear hk);(try clear hi);(try clear ho0)))
 repeat (go_quiet (first | ((with_reducible refine gate_dst (N := 6) rfl ?_);refine Kd.R_lit (Kd.int .i64) _ 3 ?hg (N := 6) ?hd (xs := ([] : List Int)) (inner := []) (ok := fun _ => True) (okp := fun _ => True) ?hr ?hp (fun _ hk => hk) trivial (Below.refl _ _) (Nat.le_refl _) Z294 ?_;(case hd => rfl);(case hg => rfl);(case hr => exact Z219);(case hp => exact Z232);intro v199 w3 ho4 hb hg_ hnew_;clear hg_ hnew_;(first | rw [← Ny198.out] at ho4 | (simp only [Int.reduceToNat] at ho4;rw [← Ny198.out] at ho4));have n_ := Z38;clear HB;obtain ⟨HO200,HB⟩ := n_;clear hb ho4) | (go_at_call 39;(with_reducible refine (spec_SortInts.calls k _ _ l0 t201 _ ?side1 ?side2 A2.out).mono ?_);(case side1 => exact Z114);(case side2 => exact HC0.out);rintro e w5 ⟨v202,rfl,ho0,hb⟩;have n_ := Z9;clear HO200 HB;obtain ⟨HO200,HO203,HB⟩ := n_;(try clear hb);(try clear hb2);(try clear hk);(try clear hi);(try clear ho0)));try go_wp2_with (first | ((with_reducible refine gate_dst (N := 6) rfl ?_);refine Kd.R_lit (Kd.int .i64) _ 3 ?hg (N := 6) ?hd (xs := ([] : List Int)) (inner := []) (ok := fun _ => True) (okp := fun _ => True) ?hr ?hp (fun _ hk => hk) trivial (Below.refl _ _) (Nat.le_refl _) Z294 ?_;(case hd => rfl);(case hg => rfl);(case hr => exact Z219);(case hp => exact Z232);intro v199 w3 ho4 hb hg_ hnew_;clear hg_ hnew_;(first | rw [← Ny198.out] at ho4 | (simp only [Int.reduceToNat] at ho4;rw [← Ny198.out] at ho4));have n_ := Z38;clear HB;obtain ⟨HO200,HB⟩ := n_;clear hb ho4) | (go_at_call 39;(with_reducible refine (spec_SortInts.calls k _ _ l0 t201 _ ?side1 ?side2 A2.out).mono ?_);(case side1 => exact Z114);(case side2 => exact HC0.out);rintro e w5 ⟨v202,rfl,ho0,hb⟩;have n_ := Z9;clear HO200 HB;obtain ⟨HO200,HO203,HB⟩ := n_;(try clear hb);(try clear hb2);(try clear hk);(try clear hi);(try clear ho0))))
 go_loopg [3,5] k (fun kq v3 v5 w' => ∃ (x3_1 : List Int) (x5_1 : Int),v5 = .int .i64 x5_1 ∧ Aside0 (spec_Distinct.l0 kq x3_1 t201 x5_1 = some r) ∧ Aside0 (kq ≤ k) ∧ Aside0 (Kd.R (Kd.int .i64) 3 w' w.heap.size (fun k_ => some k_ ≠ (v202 : Value).ownBlock) v3 x3_1) ∧ Aside0 (Kd.R (Kd.int .i64) 3 w' w.heap.size (fun k_ => some k_ ≠ (v3 : Value).ownBlock) v202 t201) ∧ Aside0 (Below w.heap.size w w'))
 case atStart => exact ⟨(y198),(0),Z218,H',⟨Nat.le_refl _⟩,⟨by (with_reducible repeat (first | apply Kd.R_alloc | apply Kd.R_drewN | apply Kd.R_drew));exact Kd.R_mono HO200.out (fun _ hk => hk.2)⟩,⟨by (with_reducible repeat (first | apply Kd.R_alloc | apply Kd.R_drewN | apply Kd.R_drew));exact Kd.R_mono HO203.out (fun _ hk => hk.2)⟩,⟨Z297⟩⟩
 case round =>
  clear H'
  try clear p2
  try clear c4
  obtain ⟨x3_1,x5_1,rfl,HA,HK1,HO_3,HO_4,HB⟩ := hrel
  cases gk with
  | zero => exact absurd HA.out (by simp [spec_Distinct.l0])
  | succ k1 =>
   have H := HA.out
   clear HA
   simp only [spec_Distinct.l0] at H
   by_cases c6 : x5_1 < (t201.length : Int)
   rotate_left
   ·rw [if_neg c6] at H
    have c6b0 : decide (x5_1 < (t201.length : Int)) = false := decide_eq_false c6
    clear c6
    obtain rfl := Option.some.inj H
    obtain ⟨Ao21,co21,eo21⟩ := Kd.R_slice HO_4.out
    subst eo21
    go_wp2
    repeat (go_quiet (fail);try go_wp2)
    go_ret
    exact ⟨_,Z207,by (with_reducible repeat (first | apply Kd.R_alloc | apply Kd.R_drewN | apply Kd.R_drew));exact Kd.R_mono HO_3.out (fun _ hk => trivial),Z297⟩
   rw [if_pos c6] at H
   have c6b0 : decide (x5_1 < (t201.length : Int)) = true := decide_eq_true c6
   clear c6
   by_cases c7 : x5_1 = 0
   ·rw [if_pos c7] at H
    have c7b0 : (x5_1 == 0) = true := beq_iff_eq.mpr c7
    have c7b1 : (x5_1 != 0) = false := bne_eq_false_iff_eq.mpr c7
    clear c7
    obtain ⟨c8,H⟩ := ifp H
    have c8b0 : decide (0 ≤ x5_1) = true := decide_eq_true c8
    clear c8
    obtain ⟨c9,H⟩ := ifp H
    have LMc9 := Aside0.mk c9
    clear c9
    obtain ⟨y205,hyy⟩ : ∃ y_ : List Int,y_ = (x3_1 ++ [rd t201 x5_1]) := ⟨_,rfl⟩
    replace H : (spec_Distinct.l0 k1 y205 t201 (wrap64 (x5_1 + 1))) = some r := zR
    have Ny205 := Aside0.mk hyy
    clear hyy
    have H' := Aside0.mk H
    clear H
    obtain ⟨Ao10,co10,eo10⟩ := Kd.R_slice HO_4.out
    subst eo10
    have p204 : 0 ≤ (x5_1 : Int) := of_decide_eq_true Z217
    have q204 : x5_1 < (t201.length : Int) := of_decide_eq_true Z217
    obtain ⟨ad204,e204,hx204_0⟩ := Kd.at_int (Kd.R_reads' HO_4.out).2.2 x5_1 p204 q204
    cases e204
    replace p204 := eq_true p204
    replace q204 := eq_true q204
    go_wp2_with (first | ((with_reducible refine gate_builtin (b := .append) (xs := #[.tmp 29,.tmp 34]) rfl ?_);at_builtin;refine Kd.R_append (Kd.int .i64) (w0 := w) w.heap.size rfl (.tmp 29) (.tmp 34) 24 3 (.int .i64 0) 8 rfl Try.underlying24 info3 rfl Z293 Z237 u3 x3_1 (rd t201 x5_1) [.int .i64 (rd t201 x5_1)] (fun k_ => some k_ ≠ (.slice (some ad204) t201.length co10 : Value).ownBlock) (fun _ => False) rfl rfl ?aP (fun _ hk => hk.elim) ?aF ?aO ?aB ?aS ?aL ?_;(case aP => exact rfl);(case aB => exact Z138);(case aF => exact Z130);(case aO => exact Z155);(case aS => exact Z124);(case aL => have := LMc9.out;omega);intro v206 w11 ho hb hg hat;rw [← Ny205.out] at ho;have n_ := Z85;clear HO_4 HB HO_3;obtain ⟨HO_4,HB,HO207⟩ := n_;clear ho hb hg hat))
    repeat (go_quiet (first | ((with_reducible refine gate_builtin (b := .append) (xs := #[.tmp 29,.tmp 34]) rfl ?_);at_builtin;refine Kd.R_append (Kd.int .i64) (w0 := w) w.heap.size rfl (.tmp 29) (.tmp 34) 24 3 (.int .i64 0) 8 rfl Try.underlying24 info3 rfl Z293 Z237 u3 x3_1 (rd t201 x5_1) [.int .i64 (rd t201 x5_1)] (fun k_ => some k_ ≠ (.slice (some ad204) t201.length co10 : Value).ownBlock) (fun _ => False) rfl rfl ?aP (fun _ hk => hk.elim) ?aF ?aO ?aB ?aS ?aL ?_;(case aP => exact rfl);(case aB => exact Z138);(case aF => exact Z130);(case aO => exact Z155);(case aS => exact Z124);(case aL => have := LMc9.out;omega);intro v206 w11 ho hb hg hat;rw [← Ny205.out] at ho;have n_ := Z85;clear HO_4 HB HO_3;obtain ⟨HO_4,HB,HO207⟩ := n_;clear ho hb hg hat));try go_wp2_with (first | ((with_reducible refine gate_builtin (b := .append) (xs := #[.tmp 29,.tmp 34]) rfl ?_);at_builtin;refine Kd.R_append (Kd.int .i64) (w0 := w) w.heap.size rfl (.tmp 29) (.tmp 34) 24 3 (.int .i64 0) 8 rfl Try.underlying24 info3 rfl Z293 Z237 u3 x3_1 (rd t201 x5_1) [.int .i64 (rd t201 x5_1)] (fun k_ => some k_ ≠ (.slice (some ad204) t201.length co10 : Value).ownBlock) (fun _ => False) rfl rfl ?aP (fun _ hk => hk.elim) ?aF ?aO ?aB ?aS ?aL ?_;(case aP => exact rfl);(case aB => exact Z138);(case aF => exact Z130);(case aO => exact Z155);(case aS => exact Z124);(case aL => have := LMc9.out;omega);intro v206 w11 ho hb hg hat;rw [← Ny205.out] at ho;have n_ := Z85;clear HO_4 HB HO_3;obtain ⟨HO_4,HB,HO207⟩ := n_;clear ho hb hg hat)))
    go_roundg k1
    case measure => have := HK1.out;omega
    case rel => exact ⟨(y205),(wrap64 (x5_1 + 1)),Z218,H',⟨Z231⟩,⟨by (with_reducible repeat (first | apply Kd.R_alloc | apply Kd.R_drewN | apply Kd.R_drew));exact HO207.out⟩,⟨Z151⟩,⟨Z297⟩⟩
   rw [if_neg c7] at H
   have c7b0 : (x5_1 == 0) = false := beq_eq_false_iff_ne.mpr c7
   have c7b1 : (x5_1 != 0) = true := bne_iff_ne.mpr c7
   obtain ⟨c12,H⟩ := ifp H
   have c12b0 : decide (0 ≤ x5_1) = true := decide_eq_true c12
   clear c12
   obtain ⟨ji13,hji13⟩ : ∃ j_ : Int,(wrap64 (x5_1 - 1)) = j_ := ⟨_,rfl⟩
   replace H : (if 0 ≤ (ji13) then (if (ji13) < (t201.length : Int) then (if (rd t201 x5_1) = (rd t201 (ji13)) then (spec_Distinct.l0 k1 x3_1 t201 (wrap64 (x5_1 + 1))) else (if x3_1.length < 17592186044416 then (spec_Distinct.l0 k1 (x3_1 ++ [rd t201 x5_1]) t201 (wrap64 (x5_1 + 1))) else (none))) else (none)) else (none)) = some r := by first | (rw [hji13] at H;exact H) | (simp only [hji13] at H ⊢;exact H)
   have hji13w : (IntKind.i64.wrap (x5_1 - 1)) = ji13 := (i64_w _).trans hji13
   obtain ⟨c14,H⟩ := ifp H
   have c14b0 : decide (0 ≤ (ji13)) = true := decide_eq_true c14
   clear c14
   obtain ⟨c15,H⟩ := ifp H
   have c15b0 : decide ((ji13) < (t201.length : Int)) = true := decide_eq_true c15
   clear c15
   by_cases c16 : (rd t201 x5_1) = (rd t201 (ji13))
   ·rw [if_pos c16] at H
    have c16b0 : ((rd t201 x5_1) == (rd t201 (ji13))) = true := beq_iff_eq.mpr c16
    have c16b1 : ((rd t201 x5_1) != (rd t201 (ji13))) = false := bne_eq_false_iff_eq.mpr c16
    clear c16
    have H' := Aside0.mk H
    clear H
    obtain ⟨Ao17,co17,eo17⟩ := Kd.R_slice HO_4.out
    subst eo17
    have p208 : 0 ≤ (x5_1 : Int) := of_decide_eq_true Z217
    have q208 : x5_1 < (t201.length : Int) := of_decide_eq_true Z217
    obtain ⟨ad208,e208,hx208_0⟩ := Kd.at_int (Kd.R_reads' HO_4.out).2.2 x5_1 p208 q208
    cases e208
    replace p208 := eq_true p208
    replace q208 := eq_true q208
    have p209 : 0 ≤ ((ji13) : Int) := of_decide_eq_true Z217
    have q209 : (ji13) < (t201.length : Int) := of_decide_eq_true Z217
    obtain ⟨ad209,e209,hx209_0⟩ := Kd.at_int (Kd.R_reads' HO_4.out).2.2 (ji13) p209 q209
    obtain rfl : ad208 = ad209 := (by injection e209)
    replace p209 := eq_true p209
    replace q209 := eq_true q209
    go_wp2
    repeat (go_quiet (fail);try go_wp2)
    go_roundg k1
    case measure => have := HK1.out;omega
    case rel => exact ⟨(x3_1),(wrap64 (x5_1 + 1)),Z218,H',⟨Z231⟩,⟨Z273⟩,⟨Z277⟩,⟨Z297⟩⟩
   rw [if_neg c16] at H
   have c16b0 : ((rd t201 x5_1) == (rd t201 (ji13))) = false := beq_eq_false_iff_ne.mpr c16
   have c16b1 : ((rd t201 x5_1) != (rd t201 (ji13))) = true := bne_iff_ne.mpr c16
   obtain ⟨c18,H⟩ := ifp H
   have LMc18 := Aside0.mk c18
   clear c18
   obtain ⟨y211,hyy⟩ : ∃ y_ : List Int,y_ = (x3_1 ++ [rd t201 x5_1]) := ⟨_,rfl⟩
   replace H : (spec_Distinct.l0 k1 y211 t201 (wrap64 (x5_1 + 1))) = some r := zR
   have Ny211 := Aside0.mk hyy
   clear hyy
   have H' := Aside0.mk H
   clear H
   obtain ⟨Ao19,co19,eo19⟩ := Kd.R_slice HO_4.out
   subst eo19
   have p208 : 0 ≤ (x5_1 : Int) := of_decide_eq_true Z217
   have q208 : x5_1 < (t201.length : Int) := of_decide_eq_true Z217
   obtain ⟨ad208,e208,hx208_0⟩ := Kd.at_int (Kd.R_reads' HO_4.out).2.2 x5_1 p208 q208
   cases e208
   replace p208 := eq_true p208
   replace q208 := eq_true q208
   have p209 : 0 ≤ ((ji13) : Int) := of_decide_eq_true Z217
   have q209 : (ji13) < (t201.length : Int) := of_decide_eq_true Z217
   obtain ⟨ad209,e209,hx209_0⟩ := Kd.at_int (Kd.R_reads' HO_4.out).2.2 (ji13) p209 q209
   obtain rfl : ad208 = ad209 := (by injection e209)
   replace p209 := eq_true p209
   replace q209 := eq_true q209
   have p210 : 0 ≤ (x5_1 : Int) := of_decide_eq_true Z217
   have q210 : x5_1 < (t201.length : Int) := of_decide_eq_true Z217
   obtain ⟨ad210,e210,hx210_0⟩ := Kd.at_int (Kd.R_reads' HO_4.out).2.2 x5_1 p210 q210
   obtain rfl : ad208 = ad210 := (by injection e210)
   replace p210 := eq_true p210
   replace q210 := eq_true q210
   go_wp2_with (first | ((with_reducible refine gate_builtin (b := .append) (xs := #[.tmp 29,.tmp 34]) rfl ?_);at_builtin;refine Kd.R_append (Kd.int .i64) (w0 := w) w.heap.size rfl (.tmp 29) (.tmp 34) 24 3 (.int .i64 0) 8 rfl Try.underlying24 info3 rfl Z293 Z237 u3 x3_1 (rd t201 x5_1) [.int .i64 (rd t201 x5_1)] (fun k_ => some k_ ≠ (.slice (some ad208) t201.length co19 : Value).ownBlock) (fun _ => False) rfl rfl ?aP (fun _ hk => hk.elim) ?aF ?aO ?aB ?aS ?aL ?_;(case aP => exact rfl);(case aB => exact Z138);(case aF => exact Z130);(case aO => exact Z155);(case aS => exact Z124);(case aL => have := LMc18.out;omega);intro v212 w20 ho hb hg hat;rw [← Ny211.out] at ho;have n_ := Z85;clear HO_4 HB HO_3;obtain ⟨HO_4,HB,HO213⟩ := n_;clear ho hb hg hat))
   repeat (go_quiet (first | ((with_reducible refine gate_builtin (b := .append) (xs := #[.tmp 29,.tmp 34]) rfl ?_);at_builtin;refine Kd.R_append (Kd.int .i64) (w0 := w) w.heap.size rfl (.tmp 29) (.tmp 34) 24 3 (.int .i64 0) 8 rfl Try.underlying24 info3 rfl Z293 Z237 u3 x3_1 (rd t201 x5_1) [.int .i64 (rd t201 x5_1)] (fun k_ => some k_ ≠ (.slice (some ad208) t201.length co19 : Value).ownBlock) (fun _ => False) rfl rfl ?aP (fun _ hk => hk.elim) ?aF ?aO ?aB ?aS ?aL ?_;(case aP => exact rfl);(case aB => exact Z138);(case aF => exact Z130);(case aO => exact Z155);(case aS => exact Z124);(case aL => have := LMc18.out;omega);intro v212 w20 ho hb hg hat;rw [← Ny211.out] at ho;have n_ := Z85;clear HO_4 HB HO_3;obtain ⟨HO_4,HB,HO213⟩ := n_;clear ho hb hg hat));try go_wp2_with (first | ((with_reducible refine gate_builtin (b := .append) (xs := #[.tmp 29,.tmp 34]) rfl ?_);at_builtin;refine Kd.R_append (Kd.int .i64) (w0 := w) w.heap.size rfl (.tmp 29) (.tmp 34) 24 3 (.int .i64 0) 8 rfl Try.underlying24 info3 rfl Z293 Z237 u3 x3_1 (rd t201 x5_1) [.int .i64 (rd t201 x5_1)] (fun k_ => some k_ ≠ (.slice (some ad208) t201.length co19 : Value).ownBlock) (fun _ => False) rfl rfl ?aP (fun _ hk => hk.elim) ?aF ?aO ?aB ?aS ?aL ?_;(case aP => exact rfl);(case aB => exact Z138);(case aF => exact Z130);(case aO => exact Z155);(case aS => exact Z124);(case aL => have := LMc18.out;omega);intro v212 w20 ho hb hg hat;rw [← Ny211.out] at ho;have n_ := Z85;clear HO_4 HB HO_3;obtain ⟨HO_4,HB,HO213⟩ := n_;clear ho hb hg hat)))
   go_roundg k1
   case measure => have := HK1.out;omega
   case rel => exact ⟨(y211),(wrap64 (x5_1 + 1)),Z218,H',⟨Z231⟩,⟨by (with_reducible repeat (first | apply Kd.R_alloc | apply Kd.R_drewN | apply Kd.R_drew));exact HO213.out⟩,⟨Z151⟩,⟨Z297⟩⟩

/-! ### spec_CutsOf: function 19 -/
mutual
def spec_CutsOf.j0 : Nat → List Int → Int → Int → Bool → Option (List Int)
 | 0,_,_,_,_ => none
 | k + 1,x0,x1,x5,x19 => if x19 = true then (some (([] : List Int))) else ((spec_SortInts.f k x0).bind fun t219 => (spec_CutsOf.l0 k x1 x5 t219 (([] : List Int)) 1))
def spec_CutsOf.l0 : Nat → Int → Int → List Int → List Int → Int → Option (List Int)
 | 0,_,_,_,_,_ => none
 | k + 1,x1,x5,x6,x7,x8 => if x8 < x1 then (if x1 = 0 then (none) else (if (wrap64 (Int.tdiv (wrap64 (x5 * x8)) x1)) ≥ 1 then (if 0 ≤ (wrap64 ((wrap64 (Int.tdiv (wrap64 (x5 * x8)) x1)) - 1)) then (if (wrap64 ((wrap64 (Int.tdiv (wrap64 (x5 * x8)) x1)) - 1)) < (x6.length : Int) then (if 0 ≤ (wrap64 (x5 - 1)) then (if (wrap64 (x5 - 1)) < (x6.length : Int) then (if (rd x6 (wrap64 ((wrap64 (Int.tdiv (wrap64 (x5 * x8)) x1)) - 1))) < (rd x6 (wrap64 (x5 - 1))) then (if x7.length < 17592186044416 then (spec_CutsOf.l0 k x1 x5 x6 (x7 ++ [rd x6 (wrap64 ((wrap64 (Int.tdiv (wrap64 (x5 * x8)) x1)) - 1))]) (wrap64 (x8 + 1))) else (none)) else (spec_CutsOf.l0 k x1 x5 x6 x7 (wrap64 (x8 + 1)))) else (none)) else (none)) else (none)) else (none)) else (spec_CutsOf.l0 k x1 x5 x6 x7 (wrap64 (x8 + 1))))) else ((spec_Distinct.f k x7).bind fun t231 => (some t231))
end
def spec_CutsOf.f (k : Nat) (l0 : List Int) (a1 : Int) : Option (List Int) := (spec_l1In.f a1 2 8).bind fun t214 => (if t214 = true then ((spec_l1In.f (l0.length : Int) 1 40).bind fun t215 => (spec_CutsOf.j0 k l0 a1 (l0.length : Int) (!t215))) else (spec_CutsOf.j0 k l0 a1 (l0.length : Int) true))
theorem spec_CutsOf.mono_l : ∀ k,(∀ y0 y1 y2 y3,LeO (spec_CutsOf.j0 k y0 y1 y2 y3) (spec_CutsOf.j0 (k + 1) y0 y1 y2 y3)) ∧ (∀ y0 y1 y2 y3 y4,LeO (spec_CutsOf.l0 k y0 y1 y2 y3 y4) (spec_CutsOf.l0 (k + 1) y0 y1 y2 y3 y4))
 | 0 => ⟨fun _ _ _ _ r h => by simp [spec_CutsOf.j0] at h,fun _ _ _ _ _ r h => by simp [spec_CutsOf.l0] at h⟩
 | k + 1 => by
  obtain ⟨ih0,ih1⟩ := spec_CutsOf.mono_l k
  refine ⟨?_,?_⟩
  ·intro y0 y1 y2 y3
   unfold spec_CutsOf.j0
   repeat' first
   | (with_reducible exact ih0 _ _ _ _)
   | (with_reducible exact ih1 _ _ _ _ _)
   | (with_reducible exact spec_Distinct.mono _ _)
   | (with_reducible exact spec_SortInts.mono _ _)
   | (with_reducible exact LeO.refl _)
   | (with_reducible exact LeO.none _)
   | (with_reducible refine LeO.ite ?_ ?_)
   | (with_reducible refine LeO.bind ?_ (fun _ => ?_))
   | exact ih0 _ _ _ _
   | exact ih1 _ _ _ _ _
   | exact spec_Distinct.mono _ _
   | exact spec_SortInts.mono _ _
   | exact LeO.none _
   | refine LeO.ite ?_ ?_
   | refine LeO.bind ?_ (fun _ => ?_)
  ·intro y0 y1 y2 y3 y4
   unfold spec_CutsOf.l0
   repeat' first
   | (with_reducible exact ih0 _ _ _ _)
   | (with_reducible exact ih1 _ _ _ _ _)
   | (with_reducible exact spec_Distinct.mono _ _)
   | (with_reducible exact spec_SortInts.mono _ _)
   | (with_reducible exact LeO.refl _)
   | (with_reducible exact LeO.none _)
   | (with_reducible refine LeO.ite ?_ ?_)
   | (with_reducible refine LeO.bind ?_ (fun _ => ?_))
   | exact ih0 _ _ _ _
   | exact ih1 _ _ _ _ _
   | exact spec_Distinct.mono _ _
   | exact spec_SortInts.mono _ _
   | exact LeO.none _
   | refine LeO.ite ?_ ?_
   | refine LeO.bind ?_ (fun _ => ?_)
theorem spec_CutsOf.mono : ∀ a0 a1 k,LeO (spec_CutsOf.f k a0 a1) (spec_CutsOf.f (k + 1) a0 a1) := by
 intro a0 a1 k
 obtain ⟨ih0,ih1⟩ := spec_CutsOf.mono_l k
 unfold spec_CutsOf.f
 repeat' first
   | (with_reducible exact ih0 _ _ _ _)
   | (with_reducible exact ih1 _ _ _ _ _)
   | (with_reducible exact spec_Distinct.mono _ _)
   | (with_reducible exact spec_SortInts.mono _ _)
   | (with_reducible exact LeO.refl _)
   | (with_reducible exact LeO.none _)
   | (with_reducible refine LeO.ite ?_ ?_)
   | (with_reducible refine LeO.bind ?_ (fun _ => ?_))
   | exact ih0 _ _ _ _
   | exact ih1 _ _ _ _ _
   | exact spec_Distinct.mono _ _
   | exact spec_SortInts.mono _ _
   | exact LeO.none _
   | refine LeO.ite ?_ ?_
   | refine LeO.bind ?_ (fun _ => ?_)
set_option maxHeartbeats 8000000 in
set_option maxRecDepth 100000 in
theorem spec_CutsOf.calls (k : Nat) (A0 : Option Addr) (c0 : Nat) (l0 : List Int) (a1 : Int) (r : List Int) (w : World) (hr0 : Kd.C (Kd.int .i64) w A0 l0.length l0) (hc0 : l0.length ≤ c0) (h : spec_CutsOf.f k l0 a1 = some r) :
  Calls Try.prog 19 #[.slice A0 l0.length c0,.int .i64 a1] w fun e w' => ∃ v0_ : Value,e = .returned (v0_) ∧ Kd.R (Kd.int .i64) 3 w' w.heap.size (fun _ => True) v0_ r ∧ Below w.heap.size w w' := by
 have HR0 := Aside0.mk hr0
 have HC0 := Aside0.mk hc0
 clear hr0 hc0
 have HB := Aside0.mk (Below.refl w.heap.size w)
 have H := h
 clear h
 unfold spec_CutsOf.f at H
 have HC3 := Aside0.mk H
 clear H
 go_enter Try.func19,Try.ntmps19
 go_upto_region 2 with (fail)
 repeat (go_quiet (fail);go_upto_region 2 with (fail))
 go_cut [19] (fun v19 wc => ∃ (kq : Nat) (x19_2 : Bool),v19 = .bool x19_2 ∧ Aside0 (spec_CutsOf.j0 kq l0 a1 (l0.length : Int) x19_2 = some r) ∧ Aside0 (kq ≤ k) ∧ Aside0 (Below w.heap.size w wc))
 case first =>
  have H := HC3.out
  clear HC3
  obtain ⟨t214,A40,H⟩ := Option.bind_eq_some_iff.mp H
  have A4 := Aside0.mk A40
  clear A40
  by_cases c5 : t214 = true
  rotate_left
  ·replace c5 := Bool.eq_false_iff.mpr c5
   subst c5
   rw [if_neg Bool.false_ne_true] at H
   have H' := Aside0.mk H
   clear H
   go_wp2_with (first | (go_at_call 17;(with_reducible refine (spec_l1In.calls a1 2 8 false _ A4.out).mono ?_);rintro e w' ⟨rfl,⟨nd,rfl⟩⟩;(try first | exact ⟨rfl,_,dD⟩ | exact ⟨rfl,_,dT⟩)))
   repeat (go_quiet (first | (go_at_call 17;(with_reducible refine (spec_l1In.calls a1 2 8 false _ A4.out).mono ?_);rintro e w' ⟨rfl,⟨nd,rfl⟩⟩;(try first | exact ⟨rfl,_,dD⟩ | exact ⟨rfl,_,dT⟩)));try go_wp2_with (first | (go_at_call 17;(with_reducible refine (spec_l1In.calls a1 2 8 false _ A4.out).mono ?_);rintro e w' ⟨rfl,⟨nd,rfl⟩⟩;(try first | exact ⟨rfl,_,dD⟩ | exact ⟨rfl,_,dT⟩))))
   go_meet
   case rel => exact ⟨_,(true),Z218,H',⟨Z223⟩,⟨Z297⟩⟩
  subst c5
  rw [if_pos rfl] at H
  obtain ⟨t215,A60,H⟩ := Option.bind_eq_some_iff.mp H
  have A6 := Aside0.mk A60
  clear A60
  have H' := Aside0.mk H
  clear H
  go_wp2_with (first | (go_at_call 17;(with_reducible refine (spec_l1In.calls a1 2 8 true _ A4.out).mono ?_);rintro e w' ⟨rfl,⟨nd,rfl⟩⟩;(try first | exact ⟨rfl,_,dD⟩ | exact ⟨rfl,_,dT⟩)) | (go_at_call 17;(with_reducible refine (spec_l1In.calls (l0.length : Int) 1 40 t215 _ A6.out).mono ?_);rintro e w' ⟨rfl,⟨nd,rfl⟩⟩;(try first | exact ⟨rfl,_,dD⟩ | exact ⟨rfl,_,dT⟩)))
  repeat (go_quiet (first | (go_at_call 17;(with_reducible refine (spec_l1In.calls a1 2 8 true _ A4.out).mono ?_);rintro e w' ⟨rfl,⟨nd,rfl⟩⟩;(try first | exact ⟨rfl,_,dD⟩ | exact ⟨rfl,_,dT⟩)) | (go_at_call 17;(with_reducible refine (spec_l1In.calls (l0.length : Int) 1 40 t215 _ A6.out).mono ?_);rintro e w' ⟨rfl,⟨nd,rfl⟩⟩;(try first | exact ⟨rfl,_,dD⟩ | exact ⟨rfl,_,dT⟩)));try go_wp2_with (first | (go_at_call 17;(with_reducible refine (spec_l1In.calls a1 2 8 true _ A4.out).mono ?_);rintro e w' ⟨rfl,⟨nd,rfl⟩⟩;(try first | exact ⟨rfl,_,dD⟩ | exact ⟨rfl,_,dT⟩)) | (go_at_call 17;(with_reducible refine (spec_l1In.calls (l0.length : Int) 1 40 t215 _ A6.out).mono ?_);rintro e w' ⟨rfl,⟨nd,rfl⟩⟩;(try first | exact ⟨rfl,_,dD⟩ | exact ⟨rfl,_,dT⟩))))
  go_meet
  case rel => exact ⟨_,(!t215),Z218,H',⟨Z223⟩,⟨Z297⟩⟩
 case rest =>
  clear HC3
  try clear c1
  try clear p2
  try clear c5
  obtain ⟨kq,x19_2,rfl,HA,HJ2,HB⟩ := hcut
  cases kq with
  | zero => exact absurd HA.out (by simp [spec_CutsOf.j0])
  | succ kj2 =>
   have H := HA.out
   clear HA
   simp only [spec_CutsOf.j0] at H
   by_cases c7 : x19_2 = true
   ·subst c7
    rw [if_pos rfl] at H
    obtain ⟨y216,hyy⟩ : ∃ y_ : List Int,y_ = (([] : List Int)) := ⟨_,rfl⟩
    replace H : (some y216) = some r := zR
    have Ny216 := Aside0.mk hyy
    clear hyy
    obtain rfl := Option.some.inj H
    go_wp2_with (first | ((with_reducible refine gate_dst (N := 20) rfl ?_);refine Kd.R_lit (Kd.int .i64) _ 3 ?hg (N := 20) ?hd (xs := ([] : List Int)) (inner := []) (ok := fun _ => True) (okp := fun _ => True) ?hr ?hp (fun _ hk => hk) trivial (Below.refl _ _) (Nat.le_refl _) Z294 ?_;(case hd => rfl);(case hg => rfl);(case hr => exact Z219);(case hp => exact Z232);intro vq1 wq2 hoq3 hb hg_ hnew_;clear hg_ hnew_;(first | rw [← Ny216.out] at hoq3 | (simp only [Int.reduceToNat] at hoq3;rw [← Ny216.out] at hoq3));have n_ := Z34;clear HB;obtain ⟨HO218,HB⟩ := n_;clear hb hoq3))
    repeat (go_quiet (first | ((with_reducible refine gate_dst (N := 20) rfl ?_);refine Kd.R_lit (Kd.int .i64) _ 3 ?hg (N := 20) ?hd (xs := ([] : List Int)) (inner := []) (ok := fun _ => True) (okp := fun _ => True) ?hr ?hp (fun _ hk => hk) trivial (Below.refl _ _) (Nat.le_refl _) Z294 ?_;(case hd => rfl);(case hg => rfl);(case hr => exact Z219);(case hp => exact Z232);intro vq1 wq2 hoq3 hb hg_ hnew_;clear hg_ hnew_;(first | rw [← Ny216.out] at hoq3 | (simp only [Int.reduceToNat] at hoq3;rw [← Ny216.out] at hoq3));have n_ := Z34;clear HB;obtain ⟨HO218,HB⟩ := n_;clear hb hoq3));try go_wp2_with (first | ((with_reducible refine gate_dst (N := 20) rfl ?_);refine Kd.R_lit (Kd.int .i64) _ 3 ?hg (N := 20) ?hd (xs := ([] : List Int)) (inner := []) (ok := fun _ => True) (okp := fun _ => True) ?hr ?hp (fun _ hk => hk) trivial (Below.refl _ _) (Nat.le_refl _) Z294 ?_;(case hd => rfl);(case hg => rfl);(case hr => exact Z219);(case hp => exact Z232);intro vq1 wq2 hoq3 hb hg_ hnew_;clear hg_ hnew_;(first | rw [← Ny216.out] at hoq3 | (simp only [Int.reduceToNat] at hoq3;rw [← Ny216.out] at hoq3));have n_ := Z34;clear HB;obtain ⟨HO218,HB⟩ := n_;clear hb hoq3)))
    go_ret
    exact ⟨_,Z207,by (with_reducible repeat (first | apply Kd.R_alloc | apply Kd.R_drewN | apply Kd.R_drew));exact HO218.out,Z297⟩
   replace c7 := Bool.eq_false_iff.mpr c7
   subst c7
   rw [if_neg Bool.false_ne_true] at H
   obtain ⟨t219,A100,H⟩ := Option.bind_eq_some_iff.mp H
   have A10 := Aside0.mk A100
   clear A100
   obtain ⟨y222,hyy⟩ : ∃ y_ : List Int,y_ = (([] : List Int)) := ⟨_,rfl⟩
   replace H : (spec_CutsOf.l0 kj2 a1 (l0.length : Int) t219 y222 1) = some r := zR
   have Ny222 := Aside0.mk hyy
   clear hyy
   have H' := Aside0.mk H
   clear H
   go_wp2_with (first | (go_at_call 39;(with_reducible refine (spec_SortInts.calls kj2 _ _ l0 t219 _ ?side1 ?side2 A10.out).mono ?_);(case side1 => exact Z114);(case side2 => exact HC0.out);rintro e w11 ⟨v220,rfl,ho0,hb⟩;have n_ := Z39;clear HB;obtain ⟨HO221,HB⟩ := n_;(try clear hb);(try clear hb2);(try clear hk);(try clear hi);(try clear ho0)) | ((with_reducible refine gate_dst (N := 23) rfl ?_);refine Kd.R_lit (Kd.int .i64) _ 3 ?hg (N := 23) ?hd (xs := ([] : List Int)) (inner := []) (ok := fun _ => True) (okp := fun _ => True) ?hr ?hp (fun _ hk => hk) trivial (Below.refl _ _) (Nat.le_refl _) Z294 ?_;(case hd => rfl);(case hg => rfl);(case hr => exact Z219);(case hp => exact Z232);intro v223 w12 ho13 hb hg_ hnew_;clear hg_ hnew_;(first | rw [← Ny222.out] at ho13 | (simp only [Int.reduceToNat] at ho13;rw [← Ny222.out] at ho13));have n_ := Z8;clear HO221 HB;obtain ⟨HO221,HO224,HB⟩ := n_;clear hb ho13))
   repeat (go_quiet (first | (go_at_call 39;(with_reducible refine (spec_SortInts.calls kj2 _ _ l0 t219 _ ?side1 ?side2 A10.out).mono ?_);(case side1 => exact Z114);(case side2 => exact HC0.out);rintro e w11 ⟨v220,rfl,ho0,hb⟩;have n_ := Z39;clear HB;obtain ⟨HO221,HB⟩ := n_;(try clear hb);(try clear hb2);(try clear hk);(try clear hi);(try clear ho0)) | ((with_reducible refine gate_dst (N := 23) rfl ?_);refine Kd.R_lit (Kd.int .i64) _ 3 ?hg (N := 23) ?hd (xs := ([] : List Int)) (inner := []) (ok := fun _ => True) (okp := fun _ => True) ?hr ?hp (fun _ hk => hk) trivial (Below.refl _ _) (Nat.le_refl _) Z294 ?_;(case hd => rfl);(case hg => rfl);(case hr => exact Z219);(case hp => exact Z232);intro v223 w12 ho13 hb hg_ hnew_;clear hg_ hnew_;(first | rw [← Ny222.out] at ho13 | (simp only [Int.reduceToNat] at ho13;rw [← Ny222.out] at ho13));have n_ := Z8;clear HO221 HB;obtain ⟨HO221,HO224,HB⟩ := n_;clear hb ho13));try go_wp2_with (first | (go_at_call 39;(with_reducible refine (spec_SortInts.calls kj2 _ _ l0 t219 _ ?side1 ?side2 A10.out).mono ?_);(case side1 => exact Z114);(case side2 => exact HC0.out);rintro e w11 ⟨v220,rfl,ho0,hb⟩;have n_ := Z39;clear HB;obtain ⟨HO221,HB⟩ := n_;(try clear hb);(try clear hb2);(try clear hk);(try clear hi);(try clear ho0)) | ((with_reducible refine gate_dst (N := 23) rfl ?_);refine Kd.R_lit (Kd.int .i64) _ 3 ?hg (N := 23) ?hd (xs := ([] : List Int)) (inner := []) (ok := fun _ => True) (okp := fun _ => True) ?hr ?hp (fun _ hk => hk) trivial (Below.refl _ _) (Nat.le_refl _) Z294 ?_;(case hd => rfl);(case hg => rfl);(case hr => exact Z219);(case hp => exact Z232);intro v223 w12 ho13 hb hg_ hnew_;clear hg_ hnew_;(first | rw [← Ny222.out] at ho13 | (simp only [Int.reduceToNat] at ho13;rw [← Ny222.out] at ho13));have n_ := Z8;clear HO221 HB;obtain ⟨HO221,HO224,HB⟩ := n_;clear hb ho13)))
   go_loopg [7,8] kj2 (fun kq v7 v8 w' => ∃ (x7_2 : List Int) (x8_2 : Int),v8 = .int .i64 x8_2 ∧ Aside0 (spec_CutsOf.l0 kq a1 (l0.length : Int) t219 x7_2 x8_2 = some r) ∧ Aside0 (kq ≤ kj2) ∧ Aside0 (Kd.R (Kd.int .i64) 3 w' w.heap.size (fun k_ => some k_ ≠ (v7 : Value).ownBlock) v220 t219) ∧ Aside0 (Kd.R (Kd.int .i64) 3 w' w.heap.size (fun k_ => some k_ ≠ (v220 : Value).ownBlock) v7 x7_2) ∧ Aside0 (Below w.heap.size w w'))
   case atStart => exact ⟨(y222),(1),Z218,H',⟨Nat.le_refl _⟩,⟨by (with_reducible repeat (first | apply Kd.R_alloc | apply Kd.R_drewN | apply Kd.R_drew));exact Kd.R_mono HO221.out (fun _ hk => hk.2)⟩,⟨by (with_reducible repeat (first | apply Kd.R_alloc | apply Kd.R_drewN | apply Kd.R_drew));exact Kd.R_mono HO224.out (fun _ hk => hk.2)⟩,⟨Z297⟩⟩
   case round =>
    clear H'
    try clear c1
    try clear p2
    try clear c5
    try clear c7
    try clear p2
    obtain ⟨x7_2,x8_2,rfl,HA,HK2,HO_6,HO_7,HB⟩ := hrel
    cases gk with
    | zero => exact absurd HA.out (by simp [spec_CutsOf.l0])
    | succ k2 =>
     have H := HA.out
     clear HA
     simp only [spec_CutsOf.l0] at H
     by_cases c14 : x8_2 < a1
     rotate_left
     ·rw [if_neg c14] at H
      have c14b0 : decide (x8_2 < a1) = false := decide_eq_false c14
      clear c14
      obtain ⟨t231,A280,H⟩ := Option.bind_eq_some_iff.mp H
      have A28 := Aside0.mk A280
      clear A280
      obtain rfl := Option.some.inj H
      obtain ⟨Ao29,co29,eo29⟩ := Kd.R_slice HO_7.out
      subst eo29
      go_wp2_with (first | (go_at_call 40;(with_reducible refine (spec_Distinct.calls k2 _ _ x7_2 t231 _ ?side1 ?side2 A28.out).mono ?_);(case side1 => exact Z117);(case side2 => exact (Kd.R_reads' HO_7.out).2.1);rintro e wq1 ⟨vq2,rfl,hoq3,hb⟩;have n_ := Z6;clear HO_6 HO_7 HB;obtain ⟨HO_6,HO_7,HO233,HB⟩ := n_;(try clear hb);(try clear hb2);(try clear hk);(try clear hi);(try clear hoq3)))
      repeat (go_quiet (first | (go_at_call 40;(with_reducible refine (spec_Distinct.calls k2 _ _ x7_2 t231 _ ?side1 ?side2 A28.out).mono ?_);(case side1 => exact Z117);(case side2 => exact (Kd.R_reads' HO_7.out).2.1);rintro e wq1 ⟨vq2,rfl,hoq3,hb⟩;have n_ := Z6;clear HO_6 HO_7 HB;obtain ⟨HO_6,HO_7,HO233,HB⟩ := n_;(try clear hb);(try clear hb2);(try clear hk);(try clear hi);(try clear hoq3)));try go_wp2_with (first | (go_at_call 40;(with_reducible refine (spec_Distinct.calls k2 _ _ x7_2 t231 _ ?side1 ?side2 A28.out).mono ?_);(case side1 => exact Z117);(case side2 => exact (Kd.R_reads' HO_7.out).2.1);rintro e wq1 ⟨vq2,rfl,hoq3,hb⟩;have n_ := Z6;clear HO_6 HO_7 HB;obtain ⟨HO_6,HO_7,HO233,HB⟩ := n_;(try clear hb);(try clear hb2);(try clear hk);(try clear hi);(try clear hoq3))))
      go_ret
      exact ⟨_,Z207,by (with_reducible repeat (first | apply Kd.R_alloc | apply Kd.R_drewN | apply Kd.R_drew));exact Kd.R_mono HO233.out (fun _ hk => trivial),Z297⟩
     rw [if_pos c14] at H
     have c14b0 : decide (x8_2 < a1) = true := decide_eq_true c14
     clear c14
     by_cases c15 : a1 = 0
     ·rw [if_pos c15] at H
      exact absurd H Z294
     rw [if_neg c15] at H
     have c15b0 : (a1 == 0) = false := beq_eq_false_iff_ne.mpr c15
     have c15b1 : (a1 != 0) = true := bne_iff_ne.mpr c15
     by_cases c16 : (wrap64 (Int.tdiv (wrap64 ((l0.length : Int) * x8_2)) a1)) ≥ 1
     rotate_left
     ·rw [if_neg c16] at H
      have c16b0 : decide (1 ≤ (wrap64 (Int.tdiv (wrap64 ((l0.length : Int) * x8_2)) a1))) = false := decide_eq_false c16
      clear c16
      have H' := Aside0.mk H
      clear H
      go_wp2
      repeat (go_quiet (fail);try go_wp2)
      go_roundg k2
      case measure => have := HJ2.out;have := HK2.out;omega
      case rel => exact ⟨(x7_2),(wrap64 (x8_2 + 1)),Z218,H',⟨Z220⟩,⟨Z276⟩,⟨Z274⟩,⟨Z297⟩⟩
     rw [if_pos c16] at H
     have c16b0 : decide (1 ≤ (wrap64 (Int.tdiv (wrap64 ((l0.length : Int) * x8_2)) a1))) = true := decide_eq_true c16
     clear c16
     obtain ⟨ji17,hji17⟩ : ∃ j_ : Int,(wrap64 ((wrap64 (Int.tdiv (wrap64 ((l0.length : Int) * x8_2)) a1)) - 1)) = j_ := ⟨_,rfl⟩
     replace H : (if 0 ≤ (ji17) then (if (ji17) < (t219.length : Int) then (if 0 ≤ (wrap64 ((l0.length : Int) - 1)) then (if (wrap64 ((l0.length : Int) - 1)) < (t219.length : Int) then (if (rd t219 (ji17)) < (rd t219 (wrap64 ((l0.length : Int) - 1))) then (if x7_2.length < 17592186044416 then (spec_CutsOf.l0 k2 a1 (l0.length : Int) t219 (x7_2 ++ [rd t219 (ji17)]) (wrap64 (x8_2 + 1))) else (none)) else (spec_CutsOf.l0 k2 a1 (l0.length : Int) t219 x7_2 (wrap64 (x8_2 + 1)))) else (none)) else (none)) else (none)) else (none)) = some r := by first | (rw [hji17] at H;exact H) | (simp only [hji17] at H ⊢;exact H)
     have hji17w : (IntKind.i64.wrap ((wrap64 (Int.tdiv (wrap64 ((l0.length : Int) * x8_2)) a1)) - 1)) = ji17 := (i64_w _).trans hji17
     obtain ⟨c18,H⟩ := ifp H
     have c18b0 : decide (0 ≤ (ji17)) = true := decide_eq_true c18
     clear c18
     obtain ⟨c19,H⟩ := ifp H
     have c19b0 : decide ((ji17) < (t219.length : Int)) = true := decide_eq_true c19
     clear c19
     obtain ⟨ji20,hji20⟩ : ∃ j_ : Int,(wrap64 ((l0.length : Int) - 1)) = j_ := ⟨_,rfl⟩
     replace H : (if 0 ≤ (ji20) then (if (ji20) < (t219.length : Int) then (if (rd t219 (ji17)) < (rd t219 (ji20)) then (if x7_2.length < 17592186044416 then (spec_CutsOf.l0 k2 a1 (l0.length : Int) t219 (x7_2 ++ [rd t219 (ji17)]) (wrap64 (x8_2 + 1))) else (none)) else (spec_CutsOf.l0 k2 a1 (l0.length : Int) t219 x7_2 (wrap64 (x8_2 + 1)))) else (none)) else (none)) = some r := by first | (rw [hji20] at H;exact H) | (simp only [hji20] at H ⊢;exact H)
     have hji20w : (IntKind.i64.wrap ((l0.length : Int) - 1)) = ji20 := (i64_w _).trans hji20
     obtain ⟨c21,H⟩ := ifp H
     have c21b0 : decide (0 ≤ (ji20)) = true := decide_eq_true c21
     clear c21
     obtain ⟨c22,H⟩ := ifp H
     have c22b0 : decide ((ji20) < (t219.length : Int)) = true := decide_eq_true c22
     clear c22
     by_cases c23 : (rd t219 (ji17)) < (rd t219 (ji20))
     rotate_left
     ·rw [if_neg c23] at H
      have c23b0 : decide ((rd t219 (ji17)) < (rd t219 (ji20))) = false := decide_eq_false c23
      clear c23
      have H' := Aside0.mk H
      clear H
      obtain ⟨Ao27,co27,eo27⟩ := Kd.R_slice HO_6.out
      subst eo27
      have p225 : 0 ≤ ((ji17) : Int) := of_decide_eq_true Z217
      have q225 : (ji17) < (t219.length : Int) := of_decide_eq_true Z217
      obtain ⟨ad225,e225,hx225_0⟩ := Kd.at_int (Kd.R_reads' HO_6.out).2.2 (ji17) p225 q225
      cases e225
      replace p225 := eq_true p225
      replace q225 := eq_true q225
      have p226 : 0 ≤ ((ji20) : Int) := of_decide_eq_true Z217
      have q226 : (ji20) < (t219.length : Int) := of_decide_eq_true Z217
      obtain ⟨ad226,e226,hx226_0⟩ := Kd.at_int (Kd.R_reads' HO_6.out).2.2 (ji20) p226 q226
      obtain rfl : ad225 = ad226 := (by injection e226)
      replace p226 := eq_true p226
      replace q226 := eq_true q226
      go_wp2
      repeat (go_quiet (fail);try go_wp2)
      go_roundg k2
      case measure => have := HJ2.out;have := HK2.out;omega
      case rel => exact ⟨(x7_2),(wrap64 (x8_2 + 1)),Z218,H',⟨Z220⟩,⟨Z276⟩,⟨Z274⟩,⟨Z297⟩⟩
     rw [if_pos c23] at H
     have c23b0 : decide ((rd t219 (ji17)) < (rd t219 (ji20))) = true := decide_eq_true c23
     clear c23
     obtain ⟨c24,H⟩ := ifp H
     have LMc24 := Aside0.mk c24
     clear c24
     obtain ⟨y228,hyy⟩ : ∃ y_ : List Int,y_ = (x7_2 ++ [rd t219 (ji17)]) := ⟨_,rfl⟩
     replace H : (spec_CutsOf.l0 k2 a1 (l0.length : Int) t219 y228 (wrap64 (x8_2 + 1))) = some r := zR
     have Ny228 := Aside0.mk hyy
     clear hyy
     have H' := Aside0.mk H
     clear H
     obtain ⟨Ao25,co25,eo25⟩ := Kd.R_slice HO_6.out
     subst eo25
     have p225 : 0 ≤ ((ji17) : Int) := of_decide_eq_true Z217
     have q225 : (ji17) < (t219.length : Int) := of_decide_eq_true Z217
     obtain ⟨ad225,e225,hx225_0⟩ := Kd.at_int (Kd.R_reads' HO_6.out).2.2 (ji17) p225 q225
     cases e225
     replace p225 := eq_true p225
     replace q225 := eq_true q225
     have p226 : 0 ≤ ((ji20) : Int) := of_decide_eq_true Z217
     have q226 : (ji20) < (t219.length : Int) := of_decide_eq_true Z217
     obtain ⟨ad226,e226,hx226_0⟩ := Kd.at_int (Kd.R_reads' HO_6.out).2.2 (ji20) p226 q226
     obtain rfl : ad225 = ad226 := (by injection e226)
     replace p226 := eq_true p226
     replace q226 := eq_true q226
     have p227 : 0 ≤ ((ji17) : Int) := of_decide_eq_true Z217
     have q227 : (ji17) < (t219.length : Int) := of_decide_eq_true Z217
     obtain ⟨ad227,e227,hx227_0⟩ := Kd.at_int (Kd.R_reads' HO_6.out).2.2 (ji17) p227 q227
     obtain rfl : ad225 = ad227 := (by injection e227)
     replace p227 := eq_true p227
     replace q227 := eq_true q227
     go_wp2_with (first | ((with_reducible refine gate_builtin (b := .append) (xs := #[.tmp 49,.tmp 55]) rfl ?_);at_builtin;refine Kd.R_append (Kd.int .i64) (w0 := w) w.heap.size rfl (.tmp 49) (.tmp 55) 24 3 (.int .i64 0) 8 rfl Try.underlying24 info3 rfl Z293 Z237 u7 x7_2 (rd t219 (ji17)) [.int .i64 (rd t219 (ji17))] (fun k_ => some k_ ≠ (.slice (some ad225) t219.length co25 : Value).ownBlock) (fun _ => False) rfl rfl ?aP (fun _ hk => hk.elim) ?aF ?aO ?aB ?aS ?aL ?_;(case aP => exact rfl);(case aB => exact Z138);(case aF => exact Z129);(case aO => exact Z156);(case aS => exact Z124);(case aL => have := LMc24.out;omega);intro v229 w26 ho hb hg hat;rw [← Ny228.out] at ho;have n_ := Z84;clear HO_6 HB HO_7;obtain ⟨HO_6,HB,HO230⟩ := n_;clear ho hb hg hat))
     repeat (go_quiet (first | ((with_reducible refine gate_builtin (b := .append) (xs := #[.tmp 49,.tmp 55]) rfl ?_);at_builtin;refine Kd.R_append (Kd.int .i64) (w0 := w) w.heap.size rfl (.tmp 49) (.tmp 55) 24 3 (.int .i64 0) 8 rfl Try.underlying24 info3 rfl Z293 Z237 u7 x7_2 (rd t219 (ji17)) [.int .i64 (rd t219 (ji17))] (fun k_ => some k_ ≠ (.slice (some ad225) t219.length co25 : Value).ownBlock) (fun _ => False) rfl rfl ?aP (fun _ hk => hk.elim) ?aF ?aO ?aB ?aS ?aL ?_;(case aP => exact rfl);(case aB => exact Z138);(case aF => exact Z129);(case aO => exact Z156);(case aS => exact Z124);(case aL => have := LMc24.out;omega);intro v229 w26 ho hb hg hat;rw [← Ny228.out] at ho;have n_ := Z84;clear HO_6 HB HO_7;obtain ⟨HO_6,HB,HO230⟩ := n_;clear ho hb hg hat));try go_wp2_with (first | ((with_reducible refine gate_builtin (b := .append) (xs := #[.tmp 49,.tmp 55]) rfl ?_);at_builtin;refine Kd.R_append (Kd.int .i64) (w0 := w) w.heap.size rfl (.tmp 49) (.tmp 55) 24 3 (.int .i64 0) 8 rfl Try.underlying24 info3 rfl Z293 Z237 u7 x7_2 (rd t219 (ji17)) [.int .i64 (rd t219 (ji17))] (fun k_ => some k_ ≠ (.slice (some ad225) t219.length co25 : Value).ownBlock) (fun _ => False) rfl rfl ?aP (fun _ hk => hk.elim) ?aF ?aO ?aB ?aS ?aL ?_;(case aP => exact rfl);(case aB => exact Z138);(case aF => exact Z129);(case aO => exact Z156);(case aS => exact Z124);(case aL => have := LMc24.out;omega);intro v229 w26 ho hb hg hat;rw [← Ny228.out] at ho;have n_ := Z84;clear HO_6 HB HO_7;obtain ⟨HO_6,HB,HO230⟩ := n_;clear ho hb hg hat)))
     go_roundg k2
     case measure => have := HJ2.out;have := HK2.out;omega
     case rel => exact ⟨(y228),(wrap64 (x8_2 + 1)),Z218,H',⟨Z220⟩,⟨Z150⟩,⟨by (with_reducible repeat (first | apply Kd.R_alloc | apply Kd.R_drewN | apply Kd.R_drew));exact HO230.out⟩,⟨Z297⟩⟩

/-! ### spec_BinOf: function 20 -/
def spec_BinOf.l0 : Nat → List Int → Int → Int → Int → Option (Int)
 | 0,_,_,_,_ => none
 | k + 1,x0,x1,x5,x6 => if x6 < (x0.length : Int) then (if 0 ≤ x6 then (if (rd x0 x6) < x1 then (spec_BinOf.l0 k x0 x1 (wrap64 (x5 + 1)) (wrap64 (x6 + 1))) else (spec_BinOf.l0 k x0 x1 x5 (wrap64 (x6 + 1)))) else (none)) else (some x5)
def spec_BinOf.f (k : Nat) (l0 : List Int) (a1 : Int) : Option (Int) := spec_BinOf.l0 k l0 a1 0 0
theorem spec_BinOf.mono_l : ∀ k,(∀ y0 y1 y2 y3,LeO (spec_BinOf.l0 k y0 y1 y2 y3) (spec_BinOf.l0 (k + 1) y0 y1 y2 y3))
 | 0 => fun _ _ _ _ r h => by simp [spec_BinOf.l0] at h
 | k + 1 => by
  have ih0 := spec_BinOf.mono_l k
  ·intro y0 y1 y2 y3
   unfold spec_BinOf.l0
   repeat' first
   | (with_reducible exact ih0 _ _ _ _)
   | (with_reducible exact LeO.refl _)
   | (with_reducible exact LeO.none _)
   | (with_reducible refine LeO.ite ?_ ?_)
   | (with_reducible refine LeO.bind ?_ (fun _ => ?_))
   | exact ih0 _ _ _ _
   | exact LeO.none _
   | refine LeO.ite ?_ ?_
   | refine LeO.bind ?_ (fun _ => ?_)
theorem spec_BinOf.mono : ∀ a0 a1 k,LeO (spec_BinOf.f k a0 a1) (spec_BinOf.f (k + 1) a0 a1) := by
 intro a0 a1 k
 have ih0 := spec_BinOf.mono_l k
 unfold spec_BinOf.f
 repeat' first
   | (with_reducible exact ih0 _ _ _ _)
   | (with_reducible exact LeO.refl _)
   | (with_reducible exact LeO.none _)
   | (with_reducible refine LeO.ite ?_ ?_)
   | (with_reducible refine LeO.bind ?_ (fun _ => ?_))
   | exact ih0 _ _ _ _
   | exact LeO.none _
   | refine LeO.ite ?_ ?_
   | refine LeO.bind ?_ (fun _ => ?_)
set_option maxHeartbeats 8000000 in
set_option maxRecDepth 100000 in
theorem spec_BinOf.calls (k : Nat) (A0 : Option Addr) (c0 : Nat) (l0 : List Int) (a1 : Int) (r : Int) (w : World) (hr0 : Kd.C (Kd.int .i64) w A0 l0.length l0) (hc0 : l0.length ≤ c0) (h : spec_BinOf.f k l0 a1 = some r) :
  Calls Try.prog 20 #[.slice A0 l0.length c0,.int .i64 a1] w fun e w' => e = .returned (.int .i64 r) ∧ Drawn0 w w' := by
 have HR0 := Aside0.mk hr0
 have HC0 := Aside0.mk hc0
 clear hr0 hc0
 have H := h
 clear h
 unfold spec_BinOf.f at H
 have H' := Aside0.mk H
 clear H
 go_enter Try.func20,Try.ntmps20
 go_wp2
 go_loopg [5,6] k (fun kq v5 v6 w' => ∃ (x5_1 : Int) (x6_1 : Int),v5 = .int .i64 x5_1 ∧ v6 = .int .i64 x6_1 ∧ Aside0 (spec_BinOf.l0 kq l0 a1 x5_1 x6_1 = some r) ∧ Aside0 (kq ≤ k) ∧ Drawn0 w w')
 case atStart => exact ⟨(0),(0),Z218,Z218,H',⟨Nat.le_refl _⟩,Z214⟩
 case round =>
  clear H'
  try clear c2
  try clear p2
  obtain ⟨x5_1,x6_1,rfl,rfl,HA,HK1,⟨m1,rfl⟩⟩ := hrel
  cases gk with
  | zero => exact absurd HA.out (by simp [spec_BinOf.l0])
  | succ k1 =>
   have H := HA.out
   clear HA
   simp only [spec_BinOf.l0] at H
   by_cases c3 : x6_1 < (l0.length : Int)
   rotate_left
   ·rw [if_neg c3] at H
    have c3b0 : decide (x6_1 < (l0.length : Int)) = false := decide_eq_false c3
    clear c3
    obtain rfl := Option.some.inj H
    go_wp2
    go_ret
    exact ⟨Z218,Z214⟩
   rw [if_pos c3] at H
   have c3b0 : decide (x6_1 < (l0.length : Int)) = true := decide_eq_true c3
   clear c3
   obtain ⟨c4,H⟩ := ifp H
   have c4b0 : decide (0 ≤ x6_1) = true := decide_eq_true c4
   clear c4
   by_cases c5 : (rd l0 x6_1) < a1
   rotate_left
   ·rw [if_neg c5] at H
    have c5b0 : decide ((rd l0 x6_1) < a1) = false := decide_eq_false c5
    clear c5
    have H' := Aside0.mk H
    clear H
    have p234 : 0 ≤ (x6_1 : Int) := of_decide_eq_true Z217
    have q234 : x6_1 < (l0.length : Int) := of_decide_eq_true Z217
    obtain ⟨ad234,e234,hx234_0⟩ := Kd.at_int HR0.out x6_1 p234 q234
    cases e234
    replace p234 := eq_true p234
    replace q234 := eq_true q234
    go_wp2
    go_roundg k1
    case measure => have := HK1.out;omega
    case rel => exact ⟨(x5_1),(wrap64 (x6_1 + 1)),Z218,Z218,H',⟨Z231⟩,Z214⟩
   rw [if_pos c5] at H
   have c5b0 : decide ((rd l0 x6_1) < a1) = true := decide_eq_true c5
   clear c5
   have H' := Aside0.mk H
   clear H
   have p234 : 0 ≤ (x6_1 : Int) := of_decide_eq_true Z217
   have q234 : x6_1 < (l0.length : Int) := of_decide_eq_true Z217
   obtain ⟨ad234,e234,hx234_0⟩ := Kd.at_int HR0.out x6_1 p234 q234
   cases e234
   replace p234 := eq_true p234
   replace q234 := eq_true q234
   go_wp2
   go_roundg k1
   case measure => have := HK1.out;omega
   case rel => exact ⟨(wrap64 (x5_1 + 1)),(wrap64 (x6_1 + 1)),Z218,Z218,H',⟨Z231⟩,Z214⟩

end Go.Proofs.Ytnidkpkfkklkaaa.QFnExactGridOf
