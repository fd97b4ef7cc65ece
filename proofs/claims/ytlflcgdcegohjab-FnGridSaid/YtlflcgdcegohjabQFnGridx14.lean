/- The machine side of FnGrid: what each Go function that it reaches comes to. Conditions: none. -/
import Derived.Test.YtlflcgdcegohjabQFnGridx0
import Derived.Test.YtlflcgdcegohjabQFnGridx10
import Derived.Test.YtlflcgdcegohjabQFnGridx13
namespace Go.Proofs.Ytlflcgdcegohjab.QFnGrid
open Go.RowKit Go.Proofs.YtlflcgdcegohjabW.PrintWords Go.Proofs.YtlflcgdcegohjabW.PrintLast Go.Proofs.YtlflcgdcegohjabW.PrintMore
attribute [local go_sem] max2_int min2_int max_two min_two max_three min_three max_four min_four   -- for this text's walks alone
set_option linter.unusedVariables false
set_option linter.unusedSimpArgs false

/-! ### spec_Distinct: function 49 -/
def spec_Distinct.l0 : Nat → List Int → List Int → Int → Option (List Int)
 | 0,_,_,_ => none
 | k + 1,x3,x4,x5 => if x5 < (x4.length : Int) then (if x5 = 0 then (if 0 ≤ x5 then (if x3.length < 17592186044416 then (spec_Distinct.l0 k (x3 ++ [rd x4 x5]) x4 (wrap64 (x5 + 1))) else (none)) else (none)) else (if 0 ≤ x5 then (if 0 ≤ (wrap64 (x5 - 1)) then (if (wrap64 (x5 - 1)) < (x4.length : Int) then (if (rd x4 x5) = (rd x4 (wrap64 (x5 - 1))) then (spec_Distinct.l0 k x3 x4 (wrap64 (x5 + 1))) else (if x3.length < 17592186044416 then (spec_Distinct.l0 k (x3 ++ [rd x4 x5]) x4 (wrap64 (x5 + 1))) else (none))) else (none)) else (none)) else (none))) else (some x3)
def spec_Distinct.f (k : Nat) (l0 : List Int) : Option (List Int) := (spec_SortInts.f k l0).bind fun t532 => (spec_Distinct.l0 k (([] : List Int)) t532 0)
theorem spec_Distinct.mono_l : ∀ k,(∀ y0 y1 y2,LeO (spec_Distinct.l0 k y0 y1 y2) (spec_Distinct.l0 (k + 1) y0 y1 y2))
 | 0 => fun _ _ _ r h => by simp [spec_Distinct.l0] at h
 | k + 1 => by
  have ih0 := spec_Distinct.mono_l k
  ·intro y0 y1 y2
   unfold spec_Distinct.l0
   repeat' first
   | (with_reducible exact ih0 _ _ _)
   | (with_reducible exact spec_SortInts.mono _ _)
   | (with_reducible exact LeO.refl _)
   | (with_reducible exact LeO.none _)
   | (with_reducible refine LeO.ite ?_ ?_)
   | (with_reducible refine LeO.bind ?_ (fun _ => ?_))
   | exact ih0 _ _ _
   | exact spec_SortInts.mono _ _
   | exact LeO.none _
   | refine LeO.ite ?_ ?_
   | refine LeO.bind ?_ (fun _ => ?_)
theorem spec_Distinct.mono : ∀ a0 k,LeO (spec_Distinct.f k a0) (spec_Distinct.f (k + 1) a0) := by
 intro a0 k
 have ih0 := spec_Distinct.mono_l k
 unfold spec_Distinct.f
 repeat' first
   | (with_reducible exact ih0 _ _ _)
   | (with_reducible exact spec_SortInts.mono _ _)
   | (with_reducible exact LeO.refl _)
   | (with_reducible exact LeO.none _)
   | (with_reducible refine LeO.ite ?_ ?_)
   | (with_reducible refine LeO.bind ?_ (fun _ => ?_))
   | exact ih0 _ _ _
   | exact spec_SortInts.mono _ _
   | exact LeO.none _
   | refine LeO.ite ?_ ?_
   | refine LeO.bind ?_ (fun _ => ?_)
set_option maxHeartbeats 8000000 in
set_option maxRecDepth 100000 in
theorem spec_Distinct.calls (k : Nat) (A0 : Option Addr) (c0 : Nat) (l0 : List Int) (r : List Int) (w : World) (hr0 : Kd.C (Kd.int .i64) w A0 l0.length l0) (hc0 : l0.length ≤ c0) (h : spec_Distinct.f k l0 = some r) :
  Calls Try.prog 49 #[.slice A0 l0.length c0] w fun e w' => ∃ v0_ : Value,e = .returned (v0_) ∧ Kd.R (Kd.int .i64) 3 w' w.heap.size (fun _ => True) v0_ r ∧ Below w.heap.size w w' := by
 have HR0 := Aside0.mk hr0
 have HC0 := Aside0.mk hc0
 clear hr0 hc0
 have HB := Aside0.mk (Below.refl w.heap.size w)
 have H := h
 clear h
 unfold spec_Distinct.f at H
 obtain ⟨y529,hyy⟩ : ∃ y_ : List Int,y_ = (([] : List Int)) := ⟨_,rfl⟩
 replace H : ((spec_SortInts.f k l0).bind fun t532 => (spec_Distinct.l0 k y529 t532 0)) = some r := zR
 have Ny529 := Aside0.mk hyy
 clear hyy
 obtain ⟨t532,A20,H⟩ := Option.bind_eq_some_iff.mp H
 have A2 := Aside0.mk A20
 clear A20
 have H' := Aside0.mk H
 clear H
 go_enter Try.func49,Try.ntmps49
 go_wp2_with (first | ((with_reducible refine gate_dst (N := 6) rfl ?_);refine Kd.R_lit (Kd.int .i64) _ 3 ?hg (N := 6) ?hd (xs := ([] : List Int)) (inner := []) (ok := fun _ => True) (okp := fun _ => True) ?hr ?hp (fun _ hk => hk) trivial (Below.refl _ _) (Nat.le_refl _) Z332 ?_;(case hd => rfl);(case hg => rfl);(case hr => exact Z231);(case hp => exact Z252);intro v530 w3 ho4 hb hg_ hnew_;clear hg_ hnew_;(first | rw [← Ny529.out] at ho4 | (simp only [Int.reduceToNat] at ho4;rw [← Ny529.out] at ho4));have n_ := Z34;clear HB;obtain ⟨HO531,HB⟩ := n_;clear hb ho4) | (go_at_call 48;(with_reducible refine (spec_SortInts.calls k _ _ l0 t532 _ ?side1 ?side2 A2.out).mono ?_);(case side1 => exact Z113);(case side2 => exact Z254);rintro e w5 ⟨v533,rfl,ho0,hb⟩;have n_ := Z15;clear HO531 HB;obtain ⟨HO531,HO534,HB⟩ := n_;(try clear hb);(try clear hb2);(try clear hk);(try clear hi);(try clear ho0)))
 repeat (go_quiet (first | ((with_reducible refine gate_dst (N := 6) rfl ?_);refine Kd.R_lit (Kd.int .i64) _ 3 ?hg (N := 6) ?hd (xs := ([] : List Int)) (inner := []) (ok := fun _ => True) (okp := fun _ => True) ?hr ?hp (fun _ hk => hk) trivial (Below.refl _ _) (Nat.le_refl _) Z332 ?_;(case hd => rfl);(case hg => rfl);(case hr => exact Z231);(case hp => exact Z252);intro v530 w3 ho4 hb hg_ hnew_;clear hg_ hnew_;(first | rw [← Ny529.out] at ho4 | (simp only [Int.reduceToNat] at ho4;rw [← Ny529.out] at ho4));have n_ := Z34;clear HB;obtain ⟨HO531,HB⟩ := n_;clear hb ho4) | (go_at_call 48;(with_reducible refine (spec_SortInts.calls k _ _ l0 t532 _ ?side1 ?side2 A2.out).mono ?_);(case side1 => exact Z113);(case side2 => exact Z254);rintro e w5 ⟨v533,rfl,ho0,hb⟩;have n_ := Z15;clear HO531 HB;obtain ⟨HO531,HO534,HB⟩ := n_;(try clear hb);(try clear hb2);(try clear hk);(try clear hi);(try clear ho0)));try go_wp2_with (first | ((with_reducible refine gate_dst (N := 6) rfl ?_);refine Kd.R_lit (Kd.int .i64) _ 3 ?hg (N := 6) ?hd (xs := ([] : List Int)) (inner := []) (ok := fun _ => True) (okp := fun _ => True) ?hr ?hp (fun _ hk => hk) trivial (Below.refl _ _) (Nat.le_refl _) Z332 ?_;(case hd => rfl);(case hg => rfl);(case hr => exact Z231);(case hp => exact Z252);intro v530 w3 ho4 hb hg_ hnew_;clear hg_ hnew_;(first | rw [← Ny529.out] at ho4 | (simp only [Int.reduceToNat] at ho4;rw [← Ny529.out] at ho4));have n_ := Z34;clear HB;obtain ⟨HO531,HB⟩ := n_;clear hb ho4) | (go_at_call 48;(with_reducible refine (spec_SortInts.calls k _ _ l0 t532 _ ?side1 ?side2 A2.out).mono ?_);(case side1 => exact Z113);(case side2 => exact Z254);rintro e w5 ⟨v533,rfl,ho0,hb⟩;have n_ := Z15;clear HO531 HB;obtain ⟨HO531,HO534,HB⟩ := n_;(try clear hb);(try clear hb2);(try clear hk);(try clear hi);(try clear ho0))))
 go_loopg [3,5] k (fun kq v3 v5 w' => ∃ (x3_1 : List Int) (x5_1 : Int),v5 = .int .i64 x5_1 ∧ Aside0 (spec_Distinct.l0 kq x3_1 t532 x5_1 = some r) ∧ Aside0 (kq ≤ k) ∧ Aside0 (Kd.R (Kd.int .i64) 3 w' w.heap.size (fun k_ => some k_ ≠ (v533 : Value).ownBlock) v3 x3_1) ∧ Aside0 (Kd.R (Kd.int .i64) 3 w' w.heap.size (fun k_ => some k_ ≠ (v3 : Value).ownBlock) v533 t532) ∧ Aside0 (Below w.heap.size w w'))
 case atStart => exact ⟨(y529),(0),Z230,H',⟨Nat.le_refl _⟩,⟨by (with_reducible repeat (first | apply Kd.R_alloc | apply Kd.R_drewN | apply Kd.R_drew));exact Kd.R_mono HO531.out (fun _ hk => hk.2)⟩,⟨by (with_reducible repeat (first | apply Kd.R_alloc | apply Kd.R_drewN | apply Kd.R_drew));exact Kd.R_mono HO534.out (fun _ hk => hk.2)⟩,⟨Z336⟩⟩
 case round =>
  clear H'
  try clear p2
  try clear c4
  obtain ⟨x3_1,x5_1,rfl,HA,HK1,HO_3,HO_4,HB⟩ := hrel
  cases gk with
  | zero => exact absurd HA.out (by simp [spec_Distinct.l0])
  | succ k1 =>
   have H := HA.out
   clear HA
   simp only [spec_Distinct.l0] at H
   by_cases c6 : x5_1 < (t532.length : Int)
   rotate_left
   ·rw [if_neg c6] at H
    have c6b0 : decide (x5_1 < (t532.length : Int)) = false := decide_eq_false c6
    clear c6
    obtain rfl := Option.some.inj H
    obtain ⟨Ao21,co21,eo21⟩ := Kd.R_slice HO_4.out
    subst eo21
    go_wp2
    repeat (go_quiet (fail);try go_wp2)
    go_ret
    exact ⟨_,Z212,by (with_reducible repeat (first | apply Kd.R_alloc | apply Kd.R_drewN | apply Kd.R_drew));exact Kd.R_mono HO_3.out (fun _ hk => trivial),Z336⟩
   rw [if_pos c6] at H
   have c6b0 : decide (x5_1 < (t532.length : Int)) = true := decide_eq_true c6
   clear c6
   by_cases c7 : x5_1 = 0
   ·rw [if_pos c7] at H
    have c7b0 : (x5_1 == 0) = true := beq_iff_eq.mpr c7
    have c7b1 : (x5_1 != 0) = false := bne_eq_false_iff_eq.mpr c7
    clear c7
    obtain ⟨c8,H⟩ := ifp H
    have c8b0 : decide (0 ≤ x5_1) = true := decide_eq_true c8
    clear c8
    obtain ⟨c9,H⟩ := ifp H
    have LMc9 := Aside0.mk c9
    clear c9
    obtain ⟨y536,hyy⟩ : ∃ y_ : List Int,y_ = (x3_1 ++ [rd t532 x5_1]) := ⟨_,rfl⟩
    replace H : (spec_Distinct.l0 k1 y536 t532 (wrap64 (x5_1 + 1))) = some r := zR
    have Ny536 := Aside0.mk hyy
    clear hyy
    have H' := Aside0.mk H
    clear H
    obtain ⟨Ao10,co10,eo10⟩ := Kd.R_slice HO_4.out
    subst eo10
    have p535 : 0 ≤ (x5_1 : Int) := of_decide_eq_true Z229
    have q535 : x5_1 < (t532.length : Int) := of_decide_eq_true Z229
    obtain ⟨ad535,e535,hx535_0⟩ := Kd.at_int (Kd.R_reads' HO_4.out).2.2 x5_1 p535 q535
    cases e535
    replace p535 := eq_true p535
    replace q535 := eq_true q535
    go_wp2_with (first | ((with_reducible refine gate_builtin (b := .append) (xs := #[.tmp 29,.tmp 34]) rfl ?_);at_builtin;refine Kd.R_append (Kd.int .i64) (w0 := w) w.heap.size rfl (.tmp 29) (.tmp 34) 26 3 (.int .i64 0) 8 rfl Try.underlying26 info3 rfl Z330 Z331 u3 x3_1 (rd t532 x5_1) [.int .i64 (rd t532 x5_1)] (fun k_ => some k_ ≠ (.slice (some ad535) t532.length co10 : Value).ownBlock) (fun _ => False) rfl rfl ?aP (fun _ hk => hk.elim) ?aF ?aO ?aB ?aS ?aL ?_;(case aP => exact rfl);(case aB => exact Z150);(case aF => exact Z139);(case aO => exact Z167);(case aS => exact Z133);(case aL => have := LMc9.out;omega);intro v537 w11 ho hb hg hat;rw [← Ny536.out] at ho;have n_ := Z73;clear HO_4 HB HO_3;obtain ⟨HO_4,HB,HO538⟩ := n_;clear ho hb hg hat))
    repeat (go_quiet (first | ((with_reducible refine gate_builtin (b := .append) (xs := #[.tmp 29,.tmp 34]) rfl ?_);at_builtin;refine Kd.R_append (Kd.int .i64) (w0 := w) w.heap.size rfl (.tmp 29) (.tmp 34) 26 3 (.int .i64 0) 8 rfl Try.underlying26 info3 rfl Z330 Z331 u3 x3_1 (rd t532 x5_1) [.int .i64 (rd t532 x5_1)] (fun k_ => some k_ ≠ (.slice (some ad535) t532.length co10 : Value).ownBlock) (fun _ => False) rfl rfl ?aP (fun _ hk => hk.elim) ?aF ?aO ?aB ?aS ?aL ?_;(case aP => exact rfl);(case aB => exact Z150);(case aF => exact Z139);(case aO => exact Z167);(case aS => exact Z133);(case aL => have := LMc9.out;omega);intro v537 w11 ho hb hg hat;rw [← Ny536.out] at ho;have n_ := Z73;clear HO_4 HB HO_3;obtain ⟨HO_4,HB,HO538⟩ := n_;clear ho hb hg hat));try go_wp2_with (first | ((with_reducible refine gate_builtin (b := .append) (xs := #[.tmp 29,.tmp 34]) rfl ?_);at_builtin;refine Kd.R_append (Kd.int .i64) (w0 := w) w.heap.size rfl (.tmp 29) (.tmp 34) 26 3 (.int .i64 0) 8 rfl Try.underlying26 info3 rfl Z330 Z331 u3 x3_1 (rd t532 x5_1) [.int .i64 (rd t532 x5_1)] (fun k_ => some k_ ≠ (.slice (some ad535) t532.length co10 : Value).ownBlock) (fun _ => False) rfl rfl ?aP (fun _ hk => hk.elim) ?aF ?aO ?aB ?aS ?aL ?_;(case aP => exact rfl);(case aB => exact Z150);(case aF => exact Z139);(case aO => exact Z167);(case aS => exact Z133);(case aL => have := LMc9.out;omega);intro v537 w11 ho hb hg hat;rw [← Ny536.out] at ho;have n_ := Z73;clear HO_4 HB HO_3;obtain ⟨HO_4,HB,HO538⟩ := n_;clear ho hb hg hat)))
    go_roundg k1
    case measure => have := HK1.out;omega
    case rel => exact ⟨(y536),(wrap64 (x5_1 + 1)),Z230,H',⟨Z251⟩,⟨by (with_reducible repeat (first | apply Kd.R_alloc | apply Kd.R_drewN | apply Kd.R_drew));exact HO538.out⟩,⟨Z164⟩,⟨Z336⟩⟩
   rw [if_neg c7] at H
   have c7b0 : (x5_1 == 0) = false := beq_eq_false_iff_ne.mpr c7
   have c7b1 : (x5_1 != 0) = true := bne_iff_ne.mpr c7
   obtain ⟨c12,H⟩ := ifp H
   have c12b0 : decide (0 ≤ x5_1) = true := decide_eq_true c12
   clear c12
   obtain ⟨ji13,hji13⟩ : ∃ j_ : Int,(wrap64 (x5_1 - 1)) = j_ := ⟨_,rfl⟩
   replace H : (if 0 ≤ (ji13) then (if (ji13) < (t532.length : Int) then (if (rd t532 x5_1) = (rd t532 (ji13)) then (spec_Distinct.l0 k1 x3_1 t532 (wrap64 (x5_1 + 1))) else (if x3_1.length < 17592186044416 then (spec_Distinct.l0 k1 (x3_1 ++ [rd t532 x5_1]) t532 (wrap64 (x5_1 + 1))) else (none))) else (none)) else (none)) = some r := by first | (rw [hji13] at H;exact H) | (simp only [hji13] at H ⊢;exact H)
   have hji13w : (IntKind.i64.wrap (x5_1 - 1)) = ji13 := (i64_w _).trans hji13
   obtain ⟨c14,H⟩ := ifp H
   have c14b0 : decide (0 ≤ (ji13)) = true := decide_eq_true c14
   clear c14
   obtain ⟨c15,H⟩ := ifp H
   have c15b0 : decide ((ji13) < (t532.length : Int)) = true := decide_eq_true c15
   clear c15
   by_cases c16 : (rd t532 x5_1) = (rd t532 (ji13))
   ·rw [if_pos c16] at H
    have c16b0 : ((rd t532 x5_1) == (rd t532 (ji13))) = true := beq_iff_eq.mpr c16
    have c16b1 : ((rd t532 x5_1) != (rd t532 (ji13))) = false := bne_eq_false_iff_eq.mpr c16
    clear c16
    have H' := Aside0.mk H
    clear H
    obtain ⟨Ao17,co17,eo17⟩ := Kd.R_slice HO_4.out
    subst eo17
    have p539 : 0 ≤ (x5_1 : Int) := of_decide_eq_true Z229
    have q539 : x5_1 < (t532.length : Int) := of_decide_eq_true Z229
    obtain ⟨ad539,e539,hx539_0⟩ := Kd.at_int (Kd.R_reads' HO_4.out).2.2 x5_1 p539 q539
    cases e539
    replace p539 := eq_true p539
    replace q539 := eq_true q539
    have p540 : 0 ≤ ((ji13) : Int) := of_decide_eq_true Z229
    have q540 : (ji13) < (t532.length : Int) := of_decide_eq_true Z229
    obtain ⟨ad540,e540,hx540_0⟩ := Kd.at_int (Kd.R_reads' HO_4.out).2.2 (ji13) p540 q540
    obtain rfl : ad539 = ad540 := (by injection e540)
    replace p540 := eq_true p540
    replace q540 := eq_true q540
    go_wp2
    repeat (go_quiet (fail);try go_wp2)
    go_roundg k1
    case measure => have := HK1.out;omega
    case rel => exact ⟨(x3_1),(wrap64 (x5_1 + 1)),Z230,H',⟨Z251⟩,⟨Z309⟩,⟨Z314⟩,⟨Z336⟩⟩
   rw [if_neg c16] at H
   have c16b0 : ((rd t532 x5_1) == (rd t532 (ji13))) = false := beq_eq_false_iff_ne.mpr c16
   have c16b1 : ((rd t532 x5_1) != (rd t532 (ji13))) = true := bne_iff_ne.mpr c16
   obtain ⟨c18,H⟩ := ifp H
   have LMc18 := Aside0.mk c18
   clear c18
   obtain ⟨y542,hyy⟩ : ∃ y_ : List Int,y_ = (x3_1 ++ [rd t532 x5_1]) := ⟨_,rfl⟩
   replace H : (spec_Distinct.l0 k1 y542 t532 (wrap64 (x5_1 + 1))) = some r := zR
   have Ny542 := Aside0.mk hyy
   clear hyy
   have H' := Aside0.mk H
   clear H
   obtain ⟨Ao19,co19,eo19⟩ := Kd.R_slice HO_4.out
   subst eo19
   have p539 : 0 ≤ (x5_1 : Int) := of_decide_eq_true Z229
   have q539 : x5_1 < (t532.length : Int) := of_decide_eq_true Z229
   obtain ⟨ad539,e539,hx539_0⟩ := Kd.at_int (Kd.R_reads' HO_4.out).2.2 x5_1 p539 q539
   cases e539
   replace p539 := eq_true p539
   replace q539 := eq_true q539
   have p540 : 0 ≤ ((ji13) : Int) := of_decide_eq_true Z229
   have q540 : (ji13) < (t532.length : Int) := of_decide_eq_true Z229
   obtain ⟨ad540,e540,hx540_0⟩ := Kd.at_int (Kd.R_reads' HO_4.out).2.2 (ji13) p540 q540
   obtain rfl : ad539 = ad540 := (by injection e540)
   replace p540 := eq_true p540
   replace q540 := eq_true q540
   have p541 : 0 ≤ (x5_1 : Int) := of_decide_eq_true Z229
   have q541 : x5_1 < (t532.length : Int) := of_decide_eq_true Z229
   obtain ⟨ad541,e541,hx541_0⟩ := Kd.at_int (Kd.R_reads' HO_4.out).2.2 x5_1 p541 q541
   obtain rfl : ad539 = ad541 := (by injection e541)
   replace p541 := eq_true p541
   replace q541 := eq_true q541
   go_wp2_with (first | ((with_reducible refine gate_builtin (b := .append) (xs := #[.tmp 29,.tmp 34]) rfl ?_);at_builtin;refine Kd.R_append (Kd.int .i64) (w0 := w) w.heap.size rfl (.tmp 29) (.tmp 34) 26 3 (.int .i64 0) 8 rfl Try.underlying26 info3 rfl Z330 Z331 u3 x3_1 (rd t532 x5_1) [.int .i64 (rd t532 x5_1)] (fun k_ => some k_ ≠ (.slice (some ad539) t532.length co19 : Value).ownBlock) (fun _ => False) rfl rfl ?aP (fun _ hk => hk.elim) ?aF ?aO ?aB ?aS ?aL ?_;(case aP => exact rfl);(case aB => exact Z150);(case aF => exact Z139);(case aO => exact Z167);(case aS => exact Z133);(case aL => have := LMc18.out;omega);intro v543 w20 ho hb hg hat;rw [← Ny542.out] at ho;have n_ := Z73;clear HO_4 HB HO_3;obtain ⟨HO_4,HB,HO544⟩ := n_;clear ho hb hg hat))
   repeat (go_quiet (first | ((with_reducible refine gate_builtin (b := .append) (xs := #[.tmp 29,.tmp 34]) rfl ?_);at_builtin;refine Kd.R_append (Kd.int .i64) (w0 := w) w.heap.size rfl (.tmp 29) (.tmp 34) 26 3 (.int .i64 0) 8 rfl Try.underlying26 info3 rfl Z330 Z331 u3 x3_1 (rd t532 x5_1) [.int .i64 (rd t532 x5_1)] (fun k_ => some k_ ≠ (.slice (some ad539) t532.length co19 : Value).ownBlock) (fun _ => False) rfl rfl ?aP (fun _ hk => hk.elim) ?aF ?aO ?aB ?aS ?aL ?_;(case aP => exact rfl);(case aB => exact Z150);(case aF => exact Z139);(case aO => exact Z167);(case aS => exact Z133);(case aL => have := LMc18.out;omega);intro v543 w20 ho hb hg hat;rw [← Ny542.out] at ho;have n_ := Z73;clear HO_4 HB HO_3;obtain ⟨HO_4,HB,HO544⟩ := n_;clear ho hb hg hat));try go_wp2_with (first | ((with_reducible refine gate_builtin (b := .append) (xs := #[.tmp 29,.tmp 34]) rfl ?_);at_builtin;refine Kd.R_append (Kd.int .i64) (w0 := w) w.heap.size rfl (.tmp 29) (.tmp 34) 26 3 (.int .i64 0) 8 rfl Try.underlying26 info3 rfl Z330 Z331 u3 x3_1 (rd t532 x5_1) [.int .i64 (rd t532 x5_1)] (fun k_ => some k_ ≠ (.slice (some ad539) t532.length co19 : Value).ownBlock) (fun _ => False) rfl rfl ?aP (fun _ hk => hk.elim) ?aF ?aO ?aB ?aS ?aL ?_;(case aP => exact rfl);(case aB => exact Z150);(case aF => exact Z139);(case aO => exact Z167);(case aS => exact Z133);(case aL => have := LMc18.out;omega);intro v543 w20 ho hb hg hat;rw [← Ny542.out] at ho;have n_ := Z73;clear HO_4 HB HO_3;obtain ⟨HO_4,HB,HO544⟩ := n_;clear ho hb hg hat)))
   go_roundg k1
   case measure => have := HK1.out;omega
   case rel => exact ⟨(y542),(wrap64 (x5_1 + 1)),Z230,H',⟨Z251⟩,⟨by (with_reducible repeat (first | apply Kd.R_alloc | apply Kd.R_drewN | apply Kd.R_drew));exact HO544.out⟩,⟨Z164⟩,⟨Z336⟩⟩

/-! ### spec_CutsOf: function 25 -/
mutual
def spec_CutsOf.j0 : Nat → List Int → Int → Int → Bool → Option (List Int)
 | 0,_,_,_,_ => none
 | k + 1,x0,x1,x5,x19 => if x19 = true then (some (([] : List Int))) else ((spec_SortInts.f k x0).bind fun t550 => (spec_CutsOf.l0 k x1 x5 t550 (([] : List Int)) 1))
def spec_CutsOf.l0 : Nat → Int → Int → List Int → List Int → Int → Option (List Int)
 | 0,_,_,_,_,_ => none
 | k + 1,x1,x5,x6,x7,x8 => if x8 < x1 then (if x1 = 0 then (none) else (if (wrap64 (Int.tdiv (wrap64 (x5 * x8)) x1)) ≥ 1 then (if 0 ≤ (wrap64 ((wrap64 (Int.tdiv (wrap64 (x5 * x8)) x1)) - 1)) then (if (wrap64 ((wrap64 (Int.tdiv (wrap64 (x5 * x8)) x1)) - 1)) < (x6.length : Int) then (if 0 ≤ (wrap64 (x5 - 1)) then (if (wrap64 (x5 - 1)) < (x6.length : Int) then (if (rd x6 (wrap64 ((wrap64 (Int.tdiv (wrap64 (x5 * x8)) x1)) - 1))) < (rd x6 (wrap64 (x5 - 1))) then (if x7.length < 17592186044416 then (spec_CutsOf.l0 k x1 x5 x6 (x7 ++ [rd x6 (wrap64 ((wrap64 (Int.tdiv (wrap64 (x5 * x8)) x1)) - 1))]) (wrap64 (x8 + 1))) else (none)) else (spec_CutsOf.l0 k x1 x5 x6 x7 (wrap64 (x8 + 1)))) else (none)) else (none)) else (none)) else (none)) else (spec_CutsOf.l0 k x1 x5 x6 x7 (wrap64 (x8 + 1))))) else ((spec_Distinct.f k x7).bind fun t562 => (some t562))
end
def spec_CutsOf.f (k : Nat) (l0 : List Int) (a1 : Int) : Option (List Int) := (spec_l1In.f a1 2 8).bind fun t545 => (if t545 = true then ((spec_l1In.f (l0.length : Int) 1 40).bind fun t546 => (spec_CutsOf.j0 k l0 a1 (l0.length : Int) (!t546))) else (spec_CutsOf.j0 k l0 a1 (l0.length : Int) true))
theorem spec_CutsOf.mono_l : ∀ k,(∀ y0 y1 y2 y3,LeO (spec_CutsOf.j0 k y0 y1 y2 y3) (spec_CutsOf.j0 (k + 1) y0 y1 y2 y3)) ∧ (∀ y0 y1 y2 y3 y4,LeO (spec_CutsOf.l0 k y0 y1 y2 y3 y4) (spec_CutsOf.l0 (k + 1) y0 y1 y2 y3 y4))
 | 0 => ⟨fun _ _ _ _ r h => by simp [spec_CutsOf.j0] at h,fun _ _ _ _ _ r h => by simp [spec_CutsOf.l0] at h⟩
 | k + 1 => by
  obtain ⟨ih0,ih1⟩ := spec_CutsOf.mono_l k
  refine ⟨?_,?_⟩
  ·intro y0 y1 y2 y3
   unfold spec_CutsOf.j0
   repeat' first
   | (with_reducible exact ih0 _ _ _ _)
   | (with_reducible exact ih1 _ _ _ _ _)
   | (with_reducible exact spec_Distinct.mono _ _)
   | (with_reducible exact spec_SortInts.mono _ _)
   | (with_reducible exact LeO.refl _)
   | (with_reducible exact LeO.none _)
   | (with_reducible refine LeO.ite ?_ ?_)
   | (with_reducible refine LeO.bind ?_ (fun _ => ?_))
   | exact ih0 _ _ _ _
   | exact ih1 _ _ _ _ _
   | exact spec_Distinct.mono _ _
   | exact spec_SortInts.mono _ _
   | exact LeO.none _
   | refine LeO.ite ?_ ?_
   | refine LeO.bind ?_ (fun _ => ?_)
  ·intro y0 y1 y2 y3 y4
   unfold spec_CutsOf.l0
   repeat' first
   | (with_reducible exact ih0 _ _ _ _)
   | (with_reducible exact ih1 _ _ _ _ _)
   | (with_reducible exact spec_Distinct.mono _ _)
   | (with_reducible exact spec_SortInts.mono _ _)
   | (with_reducible exact LeO.refl _)
   | (with_reducible exact LeO.none _)
   | (with_reducible refine LeO.ite ?_ ?_)
   | (with_reducible refine LeO.bind ?_ (fun _ => ?_))
   | exact ih0 _ _ _ _
   | exact ih1 _ _ _ _ _
   | exact spec_Distinct.mono _ _
   | exact spec_SortInts.mono _ _
   | exact LeO.none _
   | refine LeO.ite ?_ ?_
   | refine LeO.bind ?_ (fun _ => ?_)
theorem spec_CutsOf.mono : ∀ a0 a1 k,LeO (spec_CutsOf.f k a0 a1) (spec_CutsOf.f (k + 1) a0 a1) := by
 intro a0 a1 k
 obtain ⟨ih0,ih1⟩ := spec_CutsOf.mono_l k
 unfold spec_CutsOf.f
 repeat' first
   | (with_reducible exact ih0 _ _ _ _)
   | (with_reducible exact ih1 _ _ _ _ _)
   | (with_reducible exact spec_Distinct.mono _ _)
   | (with_reducible exact spec_SortInts.mono _ _)
   | (with_reducible exact LeO.refl _)
   | (with_reducible exact LeO.none _)
   | (with_reducible refine LeO.ite ?_ ?_)
   | (with_reducible refine LeO.bind ?_ (fun _ => ?_))
   | exact ih0 _ _ _ _
   | exact ih1 _ _ _ _ _
   | exact spec_Distinct.mono _ _
   | exact spec_SortInts.mono _ _
   | exact LeO.none _
   | refine LeO.ite ?_ ?_
   | refine LeO.bind ?_ (fun _ => ?_)
set_option maxHeartbeats 8000000 in
set_option maxRecDepth 100000 in
theorem spec_CutsOf.calls (k : Nat) (A0 : Option Addr) (c0 : Nat) (l0 : List Int) (a1 : Int) (r : List Int) (w : World) (hr0 : Kd.C (Kd.int .i64) w A0 l0.length l0) (hc0 : l0.length ≤ c0) (h : spec_CutsOf.f k l0 a1 = some r) :
  Calls Try.prog 25 #[.slice A0 l0.length c0,.int .i64 a1] w fun e w' => ∃ v0_ : Value,e = .returned (v0_) ∧ Kd.R (Kd.int .i64) 3 w' w.heap.size (fun _ => True) v0_ r ∧ Below w.heap.size w w' := by
 have HR0 := Aside0.mk hr0
 have HC0 := Aside0.mk hc0
 clear hr0 hc0
 have HB := Aside0.mk (Below.refl w.heap.size w)
 have H := h
 clear h
 unfold spec_CutsOf.f at H
 have HC3 := Aside0.mk H
 clear H
 go_enter Try.func25,Try.ntmps25
 go_upto_region 2 with (fail)
 repeat (go_quiet (fail);go_upto_region 2 with (fail))
 go_cut [19] (fun v19 wc => ∃ (kq : Nat) (x19_2 : Bool),v19 = .bool x19_2 ∧ Aside0 (spec_CutsOf.j0 kq l0 a1 (l0.length : Int) x19_2 = some r) ∧ Aside0 (kq ≤ k) ∧ Aside0 (Below w.heap.size w wc))
 case first =>
  have H := HC3.out
  clear HC3
  obtain ⟨t545,A40,H⟩ := Option.bind_eq_some_iff.mp H
  have A4 := Aside0.mk A40
  clear A40
  by_cases c5 : t545 = true
  rotate_left
  ·replace c5 := Bool.eq_false_iff.mpr c5
   subst c5
   rw [if_neg Bool.false_ne_true] at H
   have H' := Aside0.mk H
   clear H
   go_wp2_with (first | (go_at_call 23;(with_reducible refine (spec_l1In.calls a1 2 8 false _ A4.out).mono ?_);rintro e w' ⟨rfl,⟨nd,rfl⟩⟩;(try first | exact ⟨rfl,_,dD⟩ | exact ⟨rfl,_,dT⟩)))
   repeat (go_quiet (first | (go_at_call 23;(with_reducible refine (spec_l1In.calls a1 2 8 false _ A4.out).mono ?_);rintro e w' ⟨rfl,⟨nd,rfl⟩⟩;(try first | exact ⟨rfl,_,dD⟩ | exact ⟨rfl,_,dT⟩)));try go_wp2_with (first | (go_at_call 23;(with_reducible refine (spec_l1In.calls a1 2 8 false _ A4.out).mono ?_);rintro e w' ⟨rfl,⟨nd,rfl⟩⟩;(try first | exact ⟨rfl,_,dD⟩ | exact ⟨rfl,_,dT⟩))))
   go_meet
   case rel => exact ⟨_,(true),Z230,H',⟨Z240⟩,⟨Z336⟩⟩
  subst c5
  rw [if_pos rfl] at H
  obtain ⟨t546,A60,H⟩ := Option.bind_eq_some_iff.mp H
  have A6 := Aside0.mk A60
  clear A60
  have H' := Aside0.mk H
  clear H
  go_wp2_with (first | (go_at_call 23;(with_reducible refine (spec_l1In.calls a1 2 8 true _ A4.out).mono ?_);rintro e w' ⟨rfl,⟨nd,rfl⟩⟩;(try first | exact ⟨rfl,_,dD⟩ | exact ⟨rfl,_,dT⟩)) | (go_at_call 23;(with_reducible refine (spec_l1In.calls (l0.length : Int) 1 40 t546 _ A6.out).mono ?_);rintro e w' ⟨rfl,⟨nd,rfl⟩⟩;(try first | exact ⟨rfl,_,dD⟩ | exact ⟨rfl,_,dT⟩)))
  repeat (go_quiet (first | (go_at_call 23;(with_reducible refine (spec_l1In.calls a1 2 8 true _ A4.out).mono ?_);rintro e w' ⟨rfl,⟨nd,rfl⟩⟩;(try first | exact ⟨rfl,_,dD⟩ | exact ⟨rfl,_,dT⟩)) | (go_at_call 23;(with_reducible refine (spec_l1In.calls (l0.length : Int) 1 40 t546 _ A6.out).mono ?_);rintro e w' ⟨rfl,⟨nd,rfl⟩⟩;(try first | exact ⟨rfl,_,dD⟩ | exact ⟨rfl,_,dT⟩)));try go_wp2_with (first | (go_at_call 23;(with_reducible refine (spec_l1In.calls a1 2 8 true _ A4.out).mono ?_);rintro e w' ⟨rfl,⟨nd,rfl⟩⟩;(try first | exact ⟨rfl,_,dD⟩ | exact ⟨rfl,_,dT⟩)) | (go_at_call 23;(with_reducible refine (spec_l1In.calls (l0.length : Int) 1 40 t546 _ A6.out).mono ?_);rintro e w' ⟨rfl,⟨nd,rfl⟩⟩;(try first | exact ⟨rfl,_,dD⟩ | exact ⟨rfl,_,dT⟩))))
  go_meet
  case rel => exact ⟨_,(!t546),Z230,H',⟨Z240⟩,⟨Z336⟩⟩
 case rest =>
  clear HC3
  try clear c2
  try clear p2
  try clear c5
  obtain ⟨kq,x19_2,rfl,HA,HJ2,HB⟩ := hcut
  cases kq with
  | zero => exact absurd HA.out (by simp [spec_CutsOf.j0])
  | succ kj2 =>
   have H := HA.out
   clear HA
   simp only [spec_CutsOf.j0] at H
   by_cases c7 : x19_2 = true
   ·subst c7
    rw [if_pos rfl] at H
    obtain ⟨y547,hyy⟩ : ∃ y_ : List Int,y_ = (([] : List Int)) := ⟨_,rfl⟩
    replace H : (some y547) = some r := zR
    have Ny547 := Aside0.mk hyy
    clear hyy
    obtain rfl := Option.some.inj H
    go_wp2_with (first | ((with_reducible refine gate_dst (N := 20) rfl ?_);refine Kd.R_lit (Kd.int .i64) _ 3 ?hg (N := 20) ?hd (xs := ([] : List Int)) (inner := []) (ok := fun _ => True) (okp := fun _ => True) ?hr ?hp (fun _ hk => hk) trivial (Below.refl _ _) (Nat.le_refl _) Z332 ?_;(case hd => rfl);(case hg => rfl);(case hr => exact Z231);(case hp => exact Z252);intro vq1 wq2 hoq3 hb hg_ hnew_;clear hg_ hnew_;(first | rw [← Ny547.out] at hoq3 | (simp only [Int.reduceToNat] at hoq3;rw [← Ny547.out] at hoq3));have n_ := Z32;clear HB;obtain ⟨HO549,HB⟩ := n_;clear hb hoq3))
    repeat (go_quiet (first | ((with_reducible refine gate_dst (N := 20) rfl ?_);refine Kd.R_lit (Kd.int .i64) _ 3 ?hg (N := 20) ?hd (xs := ([] : List Int)) (inner := []) (ok := fun _ => True) (okp := fun _ => True) ?hr ?hp (fun _ hk => hk) trivial (Below.refl _ _) (Nat.le_refl _) Z332 ?_;(case hd => rfl);(case hg => rfl);(case hr => exact Z231);(case hp => exact Z252);intro vq1 wq2 hoq3 hb hg_ hnew_;clear hg_ hnew_;(first | rw [← Ny547.out] at hoq3 | (simp only [Int.reduceToNat] at hoq3;rw [← Ny547.out] at hoq3));have n_ := Z32;clear HB;obtain ⟨HO549,HB⟩ := n_;clear hb hoq3));try go_wp2_with (first | ((with_reducible refine gate_dst (N := 20) rfl ?_);refine Kd.R_lit (Kd.int .i64) _ 3 ?hg (N := 20) ?hd (xs := ([] : List Int)) (inner := []) (ok := fun _ => True) (okp := fun _ => True) ?hr ?hp (fun _ hk => hk) trivial (Below.refl _ _) (Nat.le_refl _) Z332 ?_;(case hd => rfl);(case hg => rfl);(case hr => exact Z231);(case hp => exact Z252);intro vq1 wq2 hoq3 hb hg_ hnew_;clear hg_ hnew_;(first | rw [← Ny547.out] at hoq3 | (simp only [Int.reduceToNat] at hoq3;rw [← Ny547.out] at hoq3));have n_ := Z32;clear HB;obtain ⟨HO549,HB⟩ := n_;clear hb hoq3)))
    go_ret
    exact ⟨_,Z212,by (with_reducible repeat (first | apply Kd.R_alloc | apply Kd.R_drewN | apply Kd.R_drew));exact HO549.out,Z336⟩
   replace c7 := Bool.eq_false_iff.mpr c7
   subst c7
   rw [if_neg Bool.false_ne_true] at H
   obtain ⟨t550,A100,H⟩ := Option.bind_eq_some_iff.mp H
   have A10 := Aside0.mk A100
   clear A100
   obtain ⟨y553,hyy⟩ : ∃ y_ : List Int,y_ = (([] : List Int)) := ⟨_,rfl⟩
   replace H : (spec_CutsOf.l0 kj2 a1 (l0.length : Int) t550 y553 1) = some r := zR
   have Ny553 := Aside0.mk hyy
   clear hyy
   have H' := Aside0.mk H
   clear H
   go_wp2_with (first | (go_at_call 48;(with_reducible refine (spec_SortInts.calls kj2 _ _ l0 t550 _ ?side1 ?side2 A10.out).mono ?_);(case side1 => exact Z113);(case side2 => exact Z254);rintro e w11 ⟨v551,rfl,ho0,hb⟩;have n_ := Z35;clear HB;obtain ⟨HO552,HB⟩ := n_;(try clear hb);(try clear hb2);(try clear hk);(try clear hi);(try clear ho0)) | ((with_reducible refine gate_dst (N := 23) rfl ?_);refine Kd.R_lit (Kd.int .i64) _ 3 ?hg (N := 23) ?hd (xs := ([] : List Int)) (inner := []) (ok := fun _ => True) (okp := fun _ => True) ?hr ?hp (fun _ hk => hk) trivial (Below.refl _ _) (Nat.le_refl _) Z332 ?_;(case hd => rfl);(case hg => rfl);(case hr => exact Z231);(case hp => exact Z252);intro v554 w12 ho13 hb hg_ hnew_;clear hg_ hnew_;(first | rw [← Ny553.out] at ho13 | (simp only [Int.reduceToNat] at ho13;rw [← Ny553.out] at ho13));have n_ := Z14;clear HO552 HB;obtain ⟨HO552,HO555,HB⟩ := n_;clear hb ho13))
   repeat (go_quiet (first | (go_at_call 48;(with_reducible refine (spec_SortInts.calls kj2 _ _ l0 t550 _ ?side1 ?side2 A10.out).mono ?_);(case side1 => exact Z113);(case side2 => exact Z254);rintro e w11 ⟨v551,rfl,ho0,hb⟩;have n_ := Z35;clear HB;obtain ⟨HO552,HB⟩ := n_;(try clear hb);(try clear hb2);(try clear hk);(try clear hi);(try clear ho0)) | ((with_reducible refine gate_dst (N := 23) rfl ?_);refine Kd.R_lit (Kd.int .i64) _ 3 ?hg (N := 23) ?hd (xs := ([] : List Int)) (inner := []) (ok := fun _ => True) (okp := fun _ => True) ?hr ?hp (fun _ hk => hk) trivial (Below.refl _ _) (Nat.le_refl _) Z332 ?_;(case hd => rfl);(case hg => rfl);(case hr => exact Z231);(case hp => exact Z252);intro v554 w12 ho13 hb hg_ hnew_;clear hg_ hnew_;(first | rw [← Ny553.out] at ho13 | (simp only [Int.reduceToNat] at ho13;rw [← Ny553.out] at ho13));have n_ := Z14;clear HO552 HB;obtain ⟨HO552,HO555,HB⟩ := n_;clear hb ho13));try go_wp2_with (first | (go_at_call 48;(with_reducible refine (spec_SortInts.calls kj2 _ _ l0 t550 _ ?side1 ?side2 A10.out).mono ?_);(case side1 => exact Z113);(case side2 => exact Z254);rintro e w11 ⟨v551,rfl,ho0,hb⟩;have n_ := Z35;clear HB;obtain ⟨HO552,HB⟩ := n_;(try clear hb);(try clear hb2);(try clear hk);(try clear hi);(try clear ho0)) | ((with_reducible refine gate_dst (N := 23) rfl ?_);refine Kd.R_lit (Kd.int .i64) _ 3 ?hg (N := 23) ?hd (xs := ([] : List Int)) (inner := []) (ok := fun _ => True) (okp := fun _ => True) ?hr ?hp (fun _ hk => hk) trivial (Below.refl _ _) (Nat.le_refl _) Z332 ?_;(case hd => rfl);(case hg => rfl);(case hr => exact Z231);(case hp => exact Z252);intro v554 w12 ho13 hb hg_ hnew_;clear hg_ hnew_;(first | rw [← Ny553.out] at ho13 | (simp only [Int.reduceToNat] at ho13;rw [← Ny553.out] at ho13));have n_ := Z14;clear HO552 HB;obtain ⟨HO552,HO555,HB⟩ := n_;clear hb ho13)))
   go_loopg [7,8] kj2 (fun kq v7 v8 w' => ∃ (x7_2 : List Int) (x8_2 : Int),v8 = .int .i64 x8_2 ∧ Aside0 (spec_CutsOf.l0 kq a1 (l0.length : Int) t550 x7_2 x8_2 = some r) ∧ Aside0 (kq ≤ kj2) ∧ Aside0 (Kd.R (Kd.int .i64) 3 w' w.heap.size (fun k_ => some k_ ≠ (v7 : Value).ownBlock) v551 t550) ∧ Aside0 (Kd.R (Kd.int .i64) 3 w' w.heap.size (fun k_ => some k_ ≠ (v551 : Value).ownBlock) v7 x7_2) ∧ Aside0 (Below w.heap.size w w'))
   case atStart => exact ⟨(y553),(1),Z230,H',⟨Nat.le_refl _⟩,⟨by (with_reducible repeat (first | apply Kd.R_alloc | apply Kd.R_drewN | apply Kd.R_drew));exact Kd.R_mono HO552.out (fun _ hk => hk.2)⟩,⟨by (with_reducible repeat (first | apply Kd.R_alloc | apply Kd.R_drewN | apply Kd.R_drew));exact Kd.R_mono HO555.out (fun _ hk => hk.2)⟩,⟨Z336⟩⟩
   case round =>
    clear H'
    try clear c2
    try clear p2
    try clear c5
    try clear c7
    try clear p2
    obtain ⟨x7_2,x8_2,rfl,HA,HK2,HO_6,HO_7,HB⟩ := hrel
    cases gk with
    | zero => exact absurd HA.out (by simp [spec_CutsOf.l0])
    | succ k2 =>
     have H := HA.out
     clear HA
     simp only [spec_CutsOf.l0] at H
     by_cases c14 : x8_2 < a1
     rotate_left
     ·rw [if_neg c14] at H
      have c14b0 : decide (x8_2 < a1) = false := decide_eq_false c14
      clear c14
      obtain ⟨t562,A280,H⟩ := Option.bind_eq_some_iff.mp H
      have A28 := Aside0.mk A280
      clear A280
      obtain rfl := Option.some.inj H
      obtain ⟨Ao29,co29,eo29⟩ := Kd.R_slice HO_7.out
      subst eo29
      go_wp2_with (first | (go_at_call 49;(with_reducible refine (spec_Distinct.calls k2 _ _ x7_2 t562 _ ?side1 ?side2 A28.out).mono ?_);(case side1 => exact Z121);(case side2 => exact (Kd.R_reads' HO_7.out).2.1);rintro e wq1 ⟨vq2,rfl,hoq3,hb⟩;have n_ := Z11;clear HO_6 HO_7 HB;obtain ⟨HO_6,HO_7,HO564,HB⟩ := n_;(try clear hb);(try clear hb2);(try clear hk);(try clear hi);(try clear hoq3)))
      repeat (go_quiet (first | (go_at_call 49;(with_reducible refine (spec_Distinct.calls k2 _ _ x7_2 t562 _ ?side1 ?side2 A28.out).mono ?_);(case side1 => exact Z121);(case side2 => exact (Kd.R_reads' HO_7.out).2.1);rintro e wq1 ⟨vq2,rfl,hoq3,hb⟩;have n_ := Z11;clear HO_6 HO_7 HB;obtain ⟨HO_6,HO_7,HO564,HB⟩ := n_;(try clear hb);(try clear hb2);(try clear hk);(try clear hi);(try clear hoq3)));try go_wp2_with (first | (go_at_call 49;(with_reducible refine (spec_Distinct.calls k2 _ _ x7_2 t562 _ ?side1 ?side2 A28.out).mono ?_);(case side1 => exact Z121);(case side2 => exact (Kd.R_reads' HO_7.out).2.1);rintro e wq1 ⟨vq2,rfl,hoq3,hb⟩;have n_ := Z11;clear HO_6 HO_7 HB;obtain ⟨HO_6,HO_7,HO564,HB⟩ := n_;(try clear hb);(try clear hb2);(try clear hk);(try clear hi);(try clear hoq3))))
      go_ret
      exact ⟨_,Z212,by (with_reducible repeat (first | apply Kd.R_alloc | apply Kd.R_drewN | apply Kd.R_drew));exact Kd.R_mono HO564.out (fun _ hk => trivial),Z336⟩
     rw [if_pos c14] at H
     have c14b0 : decide (x8_2 < a1) = true := decide_eq_true c14
     clear c14
     by_cases c15 : a1 = 0
     ·rw [if_pos c15] at H
      exact absurd H Z332
     rw [if_neg c15] at H
     have c15b0 : (a1 == 0) = false := beq_eq_false_iff_ne.mpr c15
     have c15b1 : (a1 != 0) = true := bne_iff_ne.mpr c15
     by_cases c16 : (wrap64 (Int.tdiv (wrap64 ((l0.length : Int) * x8_2)) a1)) ≥ 1
     rotate_left
     ·rw [if_neg c16] at H
      have c16b0 : decide (1 ≤ (wrap64 (Int.tdiv (wrap64 ((l0.length : Int) * x8_2)) a1))) = false := decide_eq_false c16
      clear c16
      have H' := Aside0.mk H
      clear H
      go_wp2
      repeat (go_quiet (fail);try go_wp2)
      go_roundg k2
      case measure => have := HJ2.out;have := HK2.out;omega
      case rel => exact ⟨(x7_2),(wrap64 (x8_2 + 1)),Z230,H',⟨Z232⟩,⟨Z313⟩,⟨Z311⟩,⟨Z336⟩⟩
     rw [if_pos c16] at H
     have c16b0 : decide (1 ≤ (wrap64 (Int.tdiv (wrap64 ((l0.length : Int) * x8_2)) a1))) = true := decide_eq_true c16
     clear c16
     obtain ⟨ji17,hji17⟩ : ∃ j_ : Int,(wrap64 ((wrap64 (Int.tdiv (wrap64 ((l0.length : Int) * x8_2)) a1)) - 1)) = j_ := ⟨_,rfl⟩
     replace H : (if 0 ≤ (ji17) then (if (ji17) < (t550.length : Int) then (if 0 ≤ (wrap64 ((l0.length : Int) - 1)) then (if (wrap64 ((l0.length : Int) - 1)) < (t550.length : Int) then (if (rd t550 (ji17)) < (rd t550 (wrap64 ((l0.length : Int) - 1))) then (if x7_2.length < 17592186044416 then (spec_CutsOf.l0 k2 a1 (l0.length : Int) t550 (x7_2 ++ [rd t550 (ji17)]) (wrap64 (x8_2 + 1))) else (none)) else (spec_CutsOf.l0 k2 a1 (l0.length : Int) t550 x7_2 (wrap64 (x8_2 + 1)))) else (none)) else (none)) else (none)) else (none)) = some r := by first | (rw [hji17] at H;exact H) | (simp only [hji17] at H ⊢;exact H)
     have hji17w : (IntKind.i64.wrap ((wrap64 (Int.tdiv (wrap64 ((l0.length : Int) * x8_2)) a1)) - 1)) = ji17 := (i64_w _).trans hji17
     obtain ⟨c18,H⟩ := ifp H
     have c18b0 : decide (0 ≤ (ji17)) = true := decide_eq_true c18
     clear c18
     obtain ⟨c19,H⟩ := ifp H
     have c19b0 : decide ((ji17) < (t550.length : Int)) = true := decide_eq_true c19
     clear c19
     obtain ⟨ji20,hji20⟩ : ∃ j_ : Int,(wrap64 ((l0.length : Int) - 1)) = j_ := ⟨_,rfl⟩
     replace H : (if 0 ≤ (ji20) then (if (ji20) < (t550.length : Int) then (if (rd t550 (ji17)) < (rd t550 (ji20)) then (if x7_2.length < 17592186044416 then (spec_CutsOf.l0 k2 a1 (l0.length : Int) t550 (x7_2 ++ [rd t550 (ji17)]) (wrap64 (x8_2 + 1))) else (none)) else (spec_CutsOf.l0 k2 a1 (l0.length : Int) t550 x7_2 (wrap64 (x8_2 + 1)))) else (none)) else (none)) = some r := by first | (rw [hji20] at H;exact H) | (simp only [hji20] at H ⊢;exact H)
     have hji20w : (IntKind.i64.wrap ((l0.length : Int) - 1)) = ji20 := (i64_w _).trans hji20
     obtain ⟨c21,H⟩ := ifp H
     have c21b0 : decide (0 ≤ (ji20)) = true := decide_eq_true c21
     clear c21
     obtain ⟨c22,H⟩ := ifp H
     have c22b0 : decide ((ji20) < (t550.length : Int)) = true := decide_eq_true c22
     clear c22
     by_cases c23 : (rd t550 (ji17)) < (rd t550 (ji20))
     rotate_left
     ·rw [if_neg c23] at H
      have c23b0 : decide ((rd t550 (ji17)) < (rd t550 (ji20))) = false := decide_eq_false c23
      clear c23
      have H' := Aside0.mk H
      clear H
      obtain ⟨Ao27,co27,eo27⟩ := Kd.R_slice HO_6.out
      subst eo27
      have p556 : 0 ≤ ((ji17) : Int) := of_decide_eq_true Z229
      have q556 : (ji17) < (t550.length : Int) := of_decide_eq_true Z229
      obtain ⟨ad556,e556,hx556_0⟩ := Kd.at_int (Kd.R_reads' HO_6.out).2.2 (ji17) p556 q556
      cases e556
      replace p556 := eq_true p556
      replace q556 := eq_true q556
      have p557 : 0 ≤ ((ji20) : Int) := of_decide_eq_true Z229
      have q557 : (ji20) < (t550.length : Int) := of_decide_eq_true Z229
      obtain ⟨ad557,e557,hx557_0⟩ := Kd.at_int (Kd.R_reads' HO_6.out).2.2 (ji20) p557 q557
      obtain rfl : ad556 = ad557 := (by injection e557)
      replace p557 := eq_true p557
      replace q557 := eq_true q557
      go_wp2
      repeat (go_quiet (fail);try go_wp2)
      go_roundg k2
      case measure => have := HJ2.out;have := HK2.out;omega
      case rel => exact ⟨(x7_2),(wrap64 (x8_2 + 1)),Z230,H',⟨Z232⟩,⟨Z313⟩,⟨Z311⟩,⟨Z336⟩⟩
     rw [if_pos c23] at H
     have c23b0 : decide ((rd t550 (ji17)) < (rd t550 (ji20))) = true := decide_eq_true c23
     clear c23
     obtain ⟨c24,H⟩ := ifp H
     have LMc24 := Aside0.mk c24
     clear c24
     obtain ⟨y559,hyy⟩ : ∃ y_ : List Int,y_ = (x7_2 ++ [rd t550 (ji17)]) := ⟨_,rfl⟩
     replace H : (spec_CutsOf.l0 k2 a1 (l0.length : Int) t550 y559 (wrap64 (x8_2 + 1))) = some r := zR
     have Ny559 := Aside0.mk hyy
     clear hyy
     have H' := Aside0.mk H
     clear H
     obtain ⟨Ao25,co25,eo25⟩ := Kd.R_slice HO_6.out
     subst eo25
     have p556 : 0 ≤ ((ji17) : Int) := of_decide_eq_true Z229
     have q556 : (ji17) < (t550.length : Int) := of_decide_eq_true Z229
     obtain ⟨ad556,e556,hx556_0⟩ := Kd.at_int (Kd.R_reads' HO_6.out).2.2 (ji17) p556 q556
     cases e556
     replace p556 := eq_true p556
     replace q556 := eq_true q556
     have p557 : 0 ≤ ((ji20) : Int) := of_decide_eq_true Z229
     have q557 : (ji20) < (t550.length : Int) := of_decide_eq_true Z229
     obtain ⟨ad557,e557,hx557_0⟩ := Kd.at_int (Kd.R_reads' HO_6.out).2.2 (ji20) p557 q557
     obtain rfl : ad556 = ad557 := (by injection e557)
     replace p557 := eq_true p557
     replace q557 := eq_true q557
     have p558 : 0 ≤ ((ji17) : Int) := of_decide_eq_true Z229
     have q558 : (ji17) < (t550.length : Int) := of_decide_eq_true Z229
     obtain ⟨ad558,e558,hx558_0⟩ := Kd.at_int (Kd.R_reads' HO_6.out).2.2 (ji17) p558 q558
     obtain rfl : ad556 = ad558 := (by injection e558)
     replace p558 := eq_true p558
     replace q558 := eq_true q558
     go_wp2_with (first | ((with_reducible refine gate_builtin (b := .append) (xs := #[.tmp 49,.tmp 55]) rfl ?_);at_builtin;refine Kd.R_append (Kd.int .i64) (w0 := w) w.heap.size rfl (.tmp 49) (.tmp 55) 26 3 (.int .i64 0) 8 rfl Try.underlying26 info3 rfl Z330 Z331 u7 x7_2 (rd t550 (ji17)) [.int .i64 (rd t550 (ji17))] (fun k_ => some k_ ≠ (.slice (some ad556) t550.length co25 : Value).ownBlock) (fun _ => False) rfl rfl ?aP (fun _ hk => hk.elim) ?aF ?aO ?aB ?aS ?aL ?_;(case aP => exact rfl);(case aB => exact Z150);(case aF => exact Z138);(case aO => exact Z168);(case aS => exact Z133);(case aL => have := LMc24.out;omega);intro v560 w26 ho hb hg hat;rw [← Ny559.out] at ho;have n_ := Z72;clear HO_6 HB HO_7;obtain ⟨HO_6,HB,HO561⟩ := n_;clear ho hb hg hat))
     repeat (go_quiet (first | ((with_reducible refine gate_builtin (b := .append) (xs := #[.tmp 49,.tmp 55]) rfl ?_);at_builtin;refine Kd.R_append (Kd.int .i64) (w0 := w) w.heap.size rfl (.tmp 49) (.tmp 55) 26 3 (.int .i64 0) 8 rfl Try.underlying26 info3 rfl Z330 Z331 u7 x7_2 (rd t550 (ji17)) [.int .i64 (rd t550 (ji17))] (fun k_ => some k_ ≠ (.slice (some ad556) t550.length co25 : Value).ownBlock) (fun _ => False) rfl rfl ?aP (fun _ hk => hk.elim) ?aF ?aO ?aB ?aS ?aL ?_;(case aP => exact rfl);(case aB => exact Z150);(case aF => exact Z138);(case aO => exact Z168);(case aS => exact Z133);(case aL => have := LMc24.out;omega);intro v560 w26 ho hb hg hat;rw [← Ny559.out] at ho;have n_ := Z72;clear HO_6 HB HO_7;obtain ⟨HO_6,HB,HO561⟩ := n_;clear ho hb hg hat));try go_wp2_with (first | ((with_reducible refine gate_builtin (b := .append) (xs := #[.tmp 49,.tmp 55]) rfl ?_);at_builtin;refine Kd.R_append (Kd.int .i64) (w0 := w) w.heap.size rfl (.tmp 49) (.tmp 55) 26 3 (.int .i64 0) 8 rfl Try.underlying26 info3 rfl Z330 Z331 u7 x7_2 (rd t550 (ji17)) [.int .i64 (rd t550 (ji17))] (fun k_ => some k_ ≠ (.slice (some ad556) t550.length co25 : Value).ownBlock) (fun _ => False) rfl rfl ?aP (fun _ hk => hk.elim) ?aF ?aO ?aB ?aS ?aL ?_;(case aP => exact rfl);(case aB => exact Z150);(case aF => exact Z138);(case aO => exact Z168);(case aS => exact Z133);(case aL => have := LMc24.out;omega);intro v560 w26 ho hb hg hat;rw [← Ny559.out] at ho;have n_ := Z72;clear HO_6 HB HO_7;obtain ⟨HO_6,HB,HO561⟩ := n_;clear ho hb hg hat)))
     go_roundg k2
     case measure => have := HJ2.out;have := HK2.out;omega
     case rel => exact ⟨(y559),(wrap64 (x8_2 + 1)),Z230,H',⟨Z232⟩,⟨Z163⟩,⟨by (with_reducible repeat (first | apply Kd.R_alloc | apply Kd.R_drewN | apply Kd.R_drew));exact HO561.out⟩,⟨Z336⟩⟩

/-! ### spec_BinOf: function 26 -/
def spec_BinOf.l0 : Nat → List Int → Int → Int → Int → Option (Int)
 | 0,_,_,_,_ => none
 | k + 1,x0,x1,x5,x6 => if x6 < (x0.length : Int) then (if 0 ≤ x6 then (if (rd x0 x6) < x1 then (spec_BinOf.l0 k x0 x1 (wrap64 (x5 + 1)) (wrap64 (x6 + 1))) else (spec_BinOf.l0 k x0 x1 x5 (wrap64 (x6 + 1)))) else (none)) else (some x5)
def spec_BinOf.f (k : Nat) (l0 : List Int) (a1 : Int) : Option (Int) := spec_BinOf.l0 k l0 a1 0 0
theorem spec_BinOf.mono_l : ∀ k,(∀ y0 y1 y2 y3,LeO (spec_BinOf.l0 k y0 y1 y2 y3) (spec_BinOf.l0 (k + 1) y0 y1 y2 y3))
 | 0 => fun _ _ _ _ r h => by simp [spec_BinOf.l0] at h
 | k + 1 => by
  have ih0 := spec_BinOf.mono_l k
  ·intro y0 y1 y2 y3
   unfold spec_BinOf.l0
   repeat' first
   | (with_reducible exact ih0 _ _ _ _)
   | (with_reducible exact LeO.refl _)
   | (with_reducible exact LeO.none _)
   | (with_reducible refine LeO.ite ?_ ?_)
   | (with_reducible refine LeO.bind ?_ (fun _ => ?_))
   | exact ih0 _ _ _ _
   | exact LeO.none _
   | refine LeO.ite ?_ ?_
   | refine LeO.bind ?_ (fun _ => ?_)
theorem spec_BinOf.mono : ∀ a0 a1 k,LeO (spec_BinOf.f k a0 a1) (spec_BinOf.f (k + 1) a0 a1) := by
 intro a0 a1 k
 have ih0 := spec_BinOf.mono_l k
 unfold spec_BinOf.f
 repeat' first
   | (with_reducible exact ih0 _ _ _ _)
   | (with_reducible exact LeO.refl _)
   | (with_reducible exact LeO.none _)
   | (with_reducible refine LeO.ite ?_ ?_)
   | (with_reducible refine LeO.bind ?_ (fun _ => ?_))
   | exact ih0 _ _ _ _
   | exact LeO.none _
   | refine LeO.ite ?_ ?_
   | refine LeO.bind ?_ (fun _ => ?_)
set_option maxHeartbeats 8000000 in
set_option maxRecDepth 100000 in
theorem spec_BinOf.calls (k : Nat) (A0 : Option Addr) (c0 : Nat) (l0 : List Int) (a1 : Int) (r : Int) (w : World) (hr0 : Kd.C (Kd.int .i64) w A0 l0.length l0) (hc0 : l0.length ≤ c0) (h : spec_BinOf.f k l0 a1 = some r) :
  Calls Try.prog 26 #[.slice A0 l0.length c0,.int .i64 a1] w fun e w' => e = .returned (.int .i64 r) ∧ Drawn0 w w' := by
 have HR0 := Aside0.mk hr0
 have HC0 := Aside0.mk hc0
 clear hr0 hc0
 have H := h
 clear h
 unfold spec_BinOf.f at H
 have H' := Aside0.mk H
 clear H
 go_enter Try.func26,Try.ntmps26
 go_wp2
 go_loopg [5,6] k (fun kq v5 v6 w' => ∃ (x5_1 : Int) (x6_1 : Int),v5 = .int .i64 x5_1 ∧ v6 = .int .i64 x6_1 ∧ Aside0 (spec_BinOf.l0 kq l0 a1 x5_1 x6_1 = some r) ∧ Aside0 (kq ≤ k) ∧ Drawn0 w w')
 case atStart => exact ⟨(0),(0),Z230,Z230,H',⟨Nat.le_refl _⟩,Z224⟩
 case round =>
  clear H'
  try clear c2
  try clear p2
  obtain ⟨x5_1,x6_1,rfl,rfl,HA,HK1,⟨m1,rfl⟩⟩ := hrel
  cases gk with
  | zero => exact absurd HA.out (by simp [spec_BinOf.l0])
  | succ k1 =>
   have H := HA.out
   clear HA
   simp only [spec_BinOf.l0] at H
   by_cases c3 : x6_1 < (l0.length : Int)
   rotate_left
   ·rw [if_neg c3] at H
    have c3b0 : decide (x6_1 < (l0.length : Int)) = false := decide_eq_false c3
    clear c3
    obtain rfl := Option.some.inj H
    go_wp2
    go_ret
    exact ⟨Z230,Z224⟩
   rw [if_pos c3] at H
   have c3b0 : decide (x6_1 < (l0.length : Int)) = true := decide_eq_true c3
   clear c3
   obtain ⟨c4,H⟩ := ifp H
   have c4b0 : decide (0 ≤ x6_1) = true := decide_eq_true c4
   clear c4
   by_cases c5 : (rd l0 x6_1) < a1
   rotate_left
   ·rw [if_neg c5] at H
    have c5b0 : decide ((rd l0 x6_1) < a1) = false := decide_eq_false c5
    clear c5
    have H' := Aside0.mk H
    clear H
    have p565 : 0 ≤ (x6_1 : Int) := of_decide_eq_true Z229
    have q565 : x6_1 < (l0.length : Int) := of_decide_eq_true Z229
    obtain ⟨ad565,e565,hx565_0⟩ := Kd.at_int HR0.out x6_1 p565 q565
    cases e565
    replace p565 := eq_true p565
    replace q565 := eq_true q565
    go_wp2
    go_roundg k1
    case measure => have := HK1.out;omega
    case rel => exact ⟨(x5_1),(wrap64 (x6_1 + 1)),Z230,Z230,H',⟨Z251⟩,Z224⟩
   rw [if_pos c5] at H
   have c5b0 : decide ((rd l0 x6_1) < a1) = true := decide_eq_true c5
   clear c5
   have H' := Aside0.mk H
   clear H
   have p565 : 0 ≤ (x6_1 : Int) := of_decide_eq_true Z229
   have q565 : x6_1 < (l0.length : Int) := of_decide_eq_true Z229
   obtain ⟨ad565,e565,hx565_0⟩ := Kd.at_int HR0.out x6_1 p565 q565
   cases e565
   replace p565 := eq_true p565
   replace q565 := eq_true q565
   go_wp2
   go_roundg k1
   case measure => have := HK1.out;omega
   case rel => exact ⟨(wrap64 (x5_1 + 1)),(wrap64 (x6_1 + 1)),Z230,Z230,H',⟨Z251⟩,Z224⟩

end Go.Proofs.Ytlflcgdcegohjab.QFnGrid
