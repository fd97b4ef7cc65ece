/- The machine side of FnExactReadTable: what each Go function that it reaches comes to. Conditions: none. -/
import Derived.Test.YtepnbcdbagjmbaaDoorQFnExactReadTablex0
import Derived.Test.YtepnbcdbagjmbaaDoorQFnExactReadTablex10
namespace Go.Proofs.YtepnbcdbagjmbaaDoor.QFnExactReadTable
open Go.RowKit Go.Proofs.YtepnbcdbagjmbaaDoorW.PrintWords Go.Proofs.YtepnbcdbagjmbaaDoorW.PrintLast Go.Proofs.YtepnbcdbagjmbaaDoorW.PrintMore
attribute [local go_sem] max2_int min2_int max_two min_two max_three min_three max_four min_four   -- for this text's walks alone
set_option linter.unusedVariables false
set_option linter.unusedSimpArgs false

/-! ### impl_within: function 15 -/
def impl_within.f (a0 : Int) (a1 : Int) (a2 : Int) : Option (Bool) := if a0 ≥ a1 then (some (decide (a0 ≤ a2))) else (some false)
set_option maxHeartbeats 8000000 in
set_option maxRecDepth 100000 in
theorem impl_within.calls (a0 : Int) (a1 : Int) (a2 : Int) (r : Bool) (w : World) (h : impl_within.f a0 a1 a2 = some r) :
  Calls Tryd.prog 15 #[.int .i64 a0,.int .i64 a1,.int .i64 a2] w fun e w' => e = .returned (.bool r) ∧ Drawn0 w w' := by
 have H := h
 clear h
 unfold impl_within.f at H
 by_cases c4 : a0 ≥ a1
 ·rw [if_pos c4] at H
  have c4b0 : decide (a1 ≤ a0) = true := decide_eq_true c4
  clear c4
  obtain rfl := Option.some.inj H
  go_enter Tryd.func15,Tryd.ntmps15
  go_wp2
  go_ret
  exact ⟨Z238,Z231⟩
 rw [if_neg c4] at H
 have c4b0 : decide (a1 ≤ a0) = false := decide_eq_false c4
 clear c4
 obtain rfl := Option.some.inj H
 go_enter Tryd.func15,Tryd.ntmps15
 go_wp2
 go_ret
 exact ⟨Z238,Z231⟩

/-! ### impl_NameOk: function 16 -/
def impl_NameOk.l0 : Nat → ByteArray → Int → Int → Option (Bool)
 | 0,_,_,_ => none
 | k + 1,x0,x6,x7 => if x7 < x6 then (if 0 ≤ x7 then (if x7 < (x0.size : Int) then (if (bt x0 x7) ≥ 97 then (if ((bt x0 x7) ≤ 122) then (impl_NameOk.l0 k x0 x6 (wrap64 (x7 + 1))) else (if x7 = 0 then (some false) else (if (bt x0 x7) < 48 then (some false) else (if (bt x0 x7) > 57 then (some false) else (impl_NameOk.l0 k x0 x6 (wrap64 (x7 + 1))))))) else (if x7 = 0 then (some false) else (if (bt x0 x7) < 48 then (some false) else (if (bt x0 x7) > 57 then (some false) else (impl_NameOk.l0 k x0 x6 (wrap64 (x7 + 1))))))) else (none)) else (none)) else ((impl_within.f (x0.size : Int) 1 12).bind fun t278 => (some t278))
def impl_NameOk.f (k : Nat) (a0 : ByteArray) : Option (Bool) := impl_NameOk.l0 k a0 (a0.size : Int) 0
theorem impl_NameOk.mono_l : ∀ k,(∀ y0 y1 y2,LeO (impl_NameOk.l0 k y0 y1 y2) (impl_NameOk.l0 (k + 1) y0 y1 y2))
 | 0 => fun _ _ _ r h => by simp [impl_NameOk.l0] at h
 | k + 1 => by
  have ih0 := impl_NameOk.mono_l k
  ·intro y0 y1 y2
   unfold impl_NameOk.l0
   repeat' first
   | (with_reducible exact ih0 _ _ _)
   | (with_reducible exact LeO.refl _)
   | (with_reducible exact LeO.none _)
   | (with_reducible refine LeO.ite ?_ ?_)
   | (with_reducible refine LeO.bind ?_ (fun _ => ?_))
   | exact ih0 _ _ _
   | exact LeO.none _
   | refine LeO.ite ?_ ?_
   | refine LeO.bind ?_ (fun _ => ?_)
theorem impl_NameOk.mono : ∀ a0 k,LeO (impl_NameOk.f k a0) (impl_NameOk.f (k + 1) a0) := by
 intro a0 k
 have ih0 := impl_NameOk.mono_l k
 unfold impl_NameOk.f
 repeat' first
   | (with_reducible exact ih0 _ _ _)
   | (with_reducible exact LeO.refl _)
   | (with_reducible exact LeO.none _)
   | (with_reducible refine LeO.ite ?_ ?_)
   | (with_reducible refine LeO.bind ?_ (fun _ => ?_))
   | exact ih0 _ _ _
   | exact LeO.none _
   | refine LeO.ite ?_ ?_
   | refine LeO.bind ?_ (fun _ => ?_)
set_option maxHeartbeats 8000000 in
set_option maxRecDepth 100000 in
theorem impl_NameOk.calls (k : Nat) (a0 : ByteArray) (r : Bool) (w : World) (h : impl_NameOk.f k a0 = some r) :
  Calls Tryd.prog 16 #[.string a0] w fun e w' => e = .returned (.bool r) ∧ Drawn0 w w' := by
 have H := h
 clear h
 unfold impl_NameOk.f at H
 have H' := Aside0.mk H
 clear H
 go_enter Tryd.func16,Tryd.ntmps16
 go_wp2
 go_loopg [7] k (fun kq v7 w' => ∃ (x7_1 : Int),v7 = .int .i64 x7_1 ∧ Aside0 (impl_NameOk.l0 kq a0 (a0.size : Int) x7_1 = some r) ∧ Aside0 (kq ≤ k) ∧ Drawn0 w w')
 case atStart => exact ⟨(0),Z238,H',⟨Nat.le_refl _⟩,Z231⟩
 case round =>
  clear H'
  try clear c1
  obtain ⟨x7_1,rfl,HA,HK1,⟨m1,rfl⟩⟩ := hrel
  cases gk with
  | zero => exact absurd HA.out (by simp [impl_NameOk.l0])
  | succ k1 =>
   have H := HA.out
   clear HA
   simp only [impl_NameOk.l0] at H
   by_cases c2 : x7_1 < (a0.size : Int)
   rotate_left
   ·rw [if_neg c2] at H
    have c2b0 : decide (x7_1 < (a0.size : Int)) = false := decide_eq_false c2
    clear c2
    obtain ⟨t278,A190,H⟩ := Option.bind_eq_some_iff.mp H
    have A19 := Aside0.mk A190
    clear A190
    obtain rfl := Option.some.inj H
    go_wp2_with (first | ((with_reducible refine gate_callee (f := 15) rfl ?_);refine goesL_ (some 41) rfl rfl Tryd.func15 Z253 rfl #[.int .i64 (a0.size : Int),.int .i64 1,.int .i64 12] rfl Z173 ?_;(with_reducible refine (impl_within.calls (a0.size : Int) 1 12 t278 _ A19.out).mono ?_);rintro e w' ⟨rfl,⟨nd,rfl⟩⟩;refine ⟨_,rfl,?_⟩))
    go_ret
    exact ⟨Z238,Z231⟩
   rw [if_pos c2] at H
   have c2b0 : decide (x7_1 < (a0.size : Int)) = true := decide_eq_true c2
   clear c2
   obtain ⟨c3,H⟩ := ifp H
   have c3b0 : decide (0 ≤ x7_1) = true := decide_eq_true c3
   clear c3
   obtain ⟨c4,H⟩ := ifp H
   have c4b0 : decide (x7_1 < (a0.size : Int)) = true := decide_eq_true c4
   clear c4
   by_cases c6 : (bt a0 x7_1) ≥ 97
   rotate_left
   ·rw [if_neg c6] at H
    have c6b0 : decide (97 ≤ (bt a0 x7_1)) = false := decide_eq_false c6
    clear c6
    by_cases c14 : x7_1 = 0
    ·rw [if_pos c14] at H
     have c14b0 : (x7_1 == 0) = true := beq_iff_eq.mpr c14
     have c14b1 : (x7_1 != 0) = false := bne_eq_false_iff_eq.mpr c14
     clear c14
     obtain rfl := Option.some.inj H
     have p5 : 0 ≤ (x7_1 : Int) := of_decide_eq_true Z330
     have q5 : x7_1 < (a0.size : Int) := of_decide_eq_true Z330
     have hx5 := bt_at a0 x7_1
     replace p5 := eq_true p5
     replace q5 := eq_true q5
     go_wp2
     go_ret
     exact ⟨Z238,Z231⟩
    rw [if_neg c14] at H
    have c14b0 : (x7_1 == 0) = false := beq_eq_false_iff_ne.mpr c14
    have c14b1 : (x7_1 != 0) = true := bne_iff_ne.mpr c14
    by_cases c16 : (bt a0 x7_1) < 48
    ·rw [if_pos c16] at H
     have c16b0 : decide ((bt a0 x7_1) < 48) = true := decide_eq_true c16
     clear c16
     obtain rfl := Option.some.inj H
     have p5 : 0 ≤ (x7_1 : Int) := of_decide_eq_true Z330
     have q5 : x7_1 < (a0.size : Int) := of_decide_eq_true Z330
     have hx5 := bt_at a0 x7_1
     replace p5 := eq_true p5
     replace q5 := eq_true q5
     have p15 : 0 ≤ (x7_1 : Int) := of_decide_eq_true Z330
     have q15 : x7_1 < (a0.size : Int) := of_decide_eq_true Z330
     have hx15 := bt_at a0 x7_1
     replace p15 := eq_true p15
     replace q15 := eq_true q15
     go_wp2
     go_ret
     exact ⟨Z238,Z231⟩
    rw [if_neg c16] at H
    have c16b0 : decide ((bt a0 x7_1) < 48) = false := decide_eq_false c16
    clear c16
    by_cases c18 : (bt a0 x7_1) > 57
    ·rw [if_pos c18] at H
     have c18b0 : decide (57 < (bt a0 x7_1)) = true := decide_eq_true c18
     clear c18
     obtain rfl := Option.some.inj H
     have p5 : 0 ≤ (x7_1 : Int) := of_decide_eq_true Z330
     have q5 : x7_1 < (a0.size : Int) := of_decide_eq_true Z330
     have hx5 := bt_at a0 x7_1
     replace p5 := eq_true p5
     replace q5 := eq_true q5
     have p15 : 0 ≤ (x7_1 : Int) := of_decide_eq_true Z330
     have q15 : x7_1 < (a0.size : Int) := of_decide_eq_true Z330
     have hx15 := bt_at a0 x7_1
     replace p15 := eq_true p15
     replace q15 := eq_true q15
     have p17 : 0 ≤ (x7_1 : Int) := of_decide_eq_true Z330
     have q17 : x7_1 < (a0.size : Int) := of_decide_eq_true Z330
     have hx17 := bt_at a0 x7_1
     replace p17 := eq_true p17
     replace q17 := eq_true q17
     go_wp2
     go_ret
     exact ⟨Z238,Z231⟩
    rw [if_neg c18] at H
    have c18b0 : decide (57 < (bt a0 x7_1)) = false := decide_eq_false c18
    clear c18
    have H' := Aside0.mk H
    clear H
    have p5 : 0 ≤ (x7_1 : Int) := of_decide_eq_true Z330
    have q5 : x7_1 < (a0.size : Int) := of_decide_eq_true Z330
    have hx5 := bt_at a0 x7_1
    replace p5 := eq_true p5
    replace q5 := eq_true q5
    have p15 : 0 ≤ (x7_1 : Int) := of_decide_eq_true Z330
    have q15 : x7_1 < (a0.size : Int) := of_decide_eq_true Z330
    have hx15 := bt_at a0 x7_1
    replace p15 := eq_true p15
    replace q15 := eq_true q15
    have p17 : 0 ≤ (x7_1 : Int) := of_decide_eq_true Z330
    have q17 : x7_1 < (a0.size : Int) := of_decide_eq_true Z330
    have hx17 := bt_at a0 x7_1
    replace p17 := eq_true p17
    replace q17 := eq_true q17
    go_wp2
    go_roundg k1
    case measure => have := HK1.out;omega
    case rel => exact ⟨(wrap64 (x7_1 + 1)),Z238,H',⟨Z248⟩,Z231⟩
   rw [if_pos c6] at H
   have c6b0 : decide (97 ≤ (bt a0 x7_1)) = true := decide_eq_true c6
   clear c6
   by_cases c8 : ((bt a0 x7_1) ≤ 122)
   ·rw [if_pos c8] at H
    have c8b0 : decide ((bt a0 x7_1) ≤ 122) = true := decide_eq_true c8
    clear c8
    have H' := Aside0.mk H
    clear H
    have p5 : 0 ≤ (x7_1 : Int) := of_decide_eq_true Z330
    have q5 : x7_1 < (a0.size : Int) := of_decide_eq_true Z330
    have hx5 := bt_at a0 x7_1
    replace p5 := eq_true p5
    replace q5 := eq_true q5
    have p7 : 0 ≤ (x7_1 : Int) := of_decide_eq_true Z330
    have q7 : x7_1 < (a0.size : Int) := of_decide_eq_true Z330
    have hx7 := bt_at a0 x7_1
    replace p7 := eq_true p7
    replace q7 := eq_true q7
    go_wp2
    go_roundg k1
    case measure => have := HK1.out;omega
    case rel => exact ⟨(wrap64 (x7_1 + 1)),Z238,H',⟨Z248⟩,Z231⟩
   rw [if_neg c8] at H
   have c8b0 : decide ((bt a0 x7_1) ≤ 122) = false := decide_eq_false c8
   clear c8
   by_cases c9 : x7_1 = 0
   ·rw [if_pos c9] at H
    have c9b0 : (x7_1 == 0) = true := beq_iff_eq.mpr c9
    have c9b1 : (x7_1 != 0) = false := bne_eq_false_iff_eq.mpr c9
    clear c9
    obtain rfl := Option.some.inj H
    have p5 : 0 ≤ (x7_1 : Int) := of_decide_eq_true Z330
    have q5 : x7_1 < (a0.size : Int) := of_decide_eq_true Z330
    have hx5 := bt_at a0 x7_1
    replace p5 := eq_true p5
    replace q5 := eq_true q5
    have p7 : 0 ≤ (x7_1 : Int) := of_decide_eq_true Z330
    have q7 : x7_1 < (a0.size : Int) := of_decide_eq_true Z330
    have hx7 := bt_at a0 x7_1
    replace p7 := eq_true p7
    replace q7 := eq_true q7
    go_wp2
    go_ret
    exact ⟨Z238,Z231⟩
   rw [if_neg c9] at H
   have c9b0 : (x7_1 == 0) = false := beq_eq_false_iff_ne.mpr c9
   have c9b1 : (x7_1 != 0) = true := bne_iff_ne.mpr c9
   by_cases c11 : (bt a0 x7_1) < 48
   ·rw [if_pos c11] at H
    have c11b0 : decide ((bt a0 x7_1) < 48) = true := decide_eq_true c11
    clear c11
    obtain rfl := Option.some.inj H
    have p5 : 0 ≤ (x7_1 : Int) := of_decide_eq_true Z330
    have q5 : x7_1 < (a0.size : Int) := of_decide_eq_true Z330
    have hx5 := bt_at a0 x7_1
    replace p5 := eq_true p5
    replace q5 := eq_true q5
    have p7 : 0 ≤ (x7_1 : Int) := of_decide_eq_true Z330
    have q7 : x7_1 < (a0.size : Int) := of_decide_eq_true Z330
    have hx7 := bt_at a0 x7_1
    replace p7 := eq_true p7
    replace q7 := eq_true q7
    have p10 : 0 ≤ (x7_1 : Int) := of_decide_eq_true Z330
    have q10 : x7_1 < (a0.size : Int) := of_decide_eq_true Z330
    have hx10 := bt_at a0 x7_1
    replace p10 := eq_true p10
    replace q10 := eq_true q10
    go_wp2
    go_ret
    exact ⟨Z238,Z231⟩
   rw [if_neg c11] at H
   have c11b0 : decide ((bt a0 x7_1) < 48) = false := decide_eq_false c11
   clear c11
   by_cases c13 : (bt a0 x7_1) > 57
   ·rw [if_pos c13] at H
    have c13b0 : decide (57 < (bt a0 x7_1)) = true := decide_eq_true c13
    clear c13
    obtain rfl := Option.some.inj H
    have p5 : 0 ≤ (x7_1 : Int) := of_decide_eq_true Z330
    have q5 : x7_1 < (a0.size : Int) := of_decide_eq_true Z330
    have hx5 := bt_at a0 x7_1
    replace p5 := eq_true p5
    replace q5 := eq_true q5
    have p7 : 0 ≤ (x7_1 : Int) := of_decide_eq_true Z330
    have q7 : x7_1 < (a0.size : Int) := of_decide_eq_true Z330
    have hx7 := bt_at a0 x7_1
    replace p7 := eq_true p7
    replace q7 := eq_true q7
    have p10 : 0 ≤ (x7_1 : Int) := of_decide_eq_true Z330
    have q10 : x7_1 < (a0.size : Int) := of_decide_eq_true Z330
    have hx10 := bt_at a0 x7_1
    replace p10 := eq_true p10
    replace q10 := eq_true q10
    have p12 : 0 ≤ (x7_1 : Int) := of_decide_eq_true Z330
    have q12 : x7_1 < (a0.size : Int) := of_decide_eq_true Z330
    have hx12 := bt_at a0 x7_1
    replace p12 := eq_true p12
    replace q12 := eq_true q12
    go_wp2
    go_ret
    exact ⟨Z238,Z231⟩
   rw [if_neg c13] at H
   have c13b0 : decide (57 < (bt a0 x7_1)) = false := decide_eq_false c13
   clear c13
   have H' := Aside0.mk H
   clear H
   have p5 : 0 ≤ (x7_1 : Int) := of_decide_eq_true Z330
   have q5 : x7_1 < (a0.size : Int) := of_decide_eq_true Z330
   have hx5 := bt_at a0 x7_1
   replace p5 := eq_true p5
   replace q5 := eq_true q5
   have p7 : 0 ≤ (x7_1 : Int) := of_decide_eq_true Z330
   have q7 : x7_1 < (a0.size : Int) := of_decide_eq_true Z330
   have hx7 := bt_at a0 x7_1
   replace p7 := eq_true p7
   replace q7 := eq_true q7
   have p10 : 0 ≤ (x7_1 : Int) := of_decide_eq_true Z330
   have q10 : x7_1 < (a0.size : Int) := of_decide_eq_true Z330
   have hx10 := bt_at a0 x7_1
   replace p10 := eq_true p10
   replace q10 := eq_true q10
   have p12 : 0 ≤ (x7_1 : Int) := of_decide_eq_true Z330
   have q12 : x7_1 < (a0.size : Int) := of_decide_eq_true Z330
   have hx12 := bt_at a0 x7_1
   replace p12 := eq_true p12
   replace q12 := eq_true q12
   go_wp2
   go_roundg k1
   case measure => have := HK1.out;omega
   case rel => exact ⟨(wrap64 (x7_1 + 1)),Z238,H',⟨Z248⟩,Z231⟩

/-! ### slices_Index_string_string: function 39 -/
def slices_Index_string_string.l0 : Nat → List ByteArray → ByteArray → Int → Int → Option (Int)
 | 0,_,_,_,_ => none
 | k + 1,x0,x1,x7,x8 => if x8 < x7 then (if 0 ≤ x8 then (if x8 < (x0.length : Int) then (if x1.toList = (rdOf ByteArray.empty x0 x8).toList then (some x8) else (slices_Index_string_string.l0 k x0 x1 x7 (wrap64 (x8 + 1)))) else (none)) else (none)) else (some (-1))
def slices_Index_string_string.f (k : Nat) (l0 : List ByteArray) (a1 : ByteArray) : Option (Int) := slices_Index_string_string.l0 k l0 a1 (l0.length : Int) 0
theorem slices_Index_string_string.mono_l : ∀ k,(∀ y0 y1 y2 y3,LeO (slices_Index_string_string.l0 k y0 y1 y2 y3) (slices_Index_string_string.l0 (k + 1) y0 y1 y2 y3))
 | 0 => fun _ _ _ _ r h => by simp [slices_Index_string_string.l0] at h
 | k + 1 => by
  have ih0 := slices_Index_string_string.mono_l k
  ·intro y0 y1 y2 y3
   unfold slices_Index_string_string.l0
   repeat' first
   | (with_reducible exact ih0 _ _ _ _)
   | (with_reducible exact LeO.refl _)
   | (with_reducible exact LeO.none _)
   | (with_reducible refine LeO.ite ?_ ?_)
   | (with_reducible refine LeO.bind ?_ (fun _ => ?_))
   | exact ih0 _ _ _ _
   | exact LeO.none _
   | refine LeO.ite ?_ ?_
   | refine LeO.bind ?_ (fun _ => ?_)
theorem slices_Index_string_string.mono : ∀ a0 a1 k,LeO (slices_Index_string_string.f k a0 a1) (slices_Index_string_string.f (k + 1) a0 a1) := by
 intro a0 a1 k
 have ih0 := slices_Index_string_string.mono_l k
 unfold slices_Index_string_string.f
 repeat' first
   | (with_reducible exact ih0 _ _ _ _)
   | (with_reducible exact LeO.refl _)
   | (with_reducible exact LeO.none _)
   | (with_reducible refine LeO.ite ?_ ?_)
   | (with_reducible refine LeO.bind ?_ (fun _ => ?_))
   | exact ih0 _ _ _ _
   | exact LeO.none _
   | refine LeO.ite ?_ ?_
   | refine LeO.bind ?_ (fun _ => ?_)
set_option maxHeartbeats 8000000 in
set_option maxRecDepth 100000 in
theorem slices_Index_string_string.calls (k : Nat) (A0 : Option Addr) (c0 : Nat) (l0 : List ByteArray) (a1 : ByteArray) (r : Int) (w : World) (hr0 : Kd.C Kd.string w A0 l0.length l0) (hc0 : l0.length ≤ c0) (h : slices_Index_string_string.f k l0 a1 = some r) :
  Calls Tryd.prog 39 #[.slice A0 l0.length c0,.string a1] w fun e w' => e = .returned (.int .i64 r) ∧ Drawn0 w w' := by
 have HR0 := Aside0.mk hr0
 have HC0 := Aside0.mk hc0
 clear hr0 hc0
 have H := h
 clear h
 unfold slices_Index_string_string.f at H
 have H' := Aside0.mk H
 clear H
 go_enter Tryd.func39,Tryd.ntmps39
 go_wp2
 go_loopg [8] k (fun kq v8 w' => ∃ (x8_1 : Int),v8 = .int .i64 x8_1 ∧ Aside0 (slices_Index_string_string.l0 kq l0 a1 (l0.length : Int) x8_1 = some r) ∧ Aside0 (kq ≤ k) ∧ Drawn0 w w')
 case atStart => exact ⟨(0),Z238,H',⟨Nat.le_refl _⟩,Z231⟩
 case round =>
  clear H'
  try clear p2
  obtain ⟨x8_1,rfl,HA,HK1,⟨m1,rfl⟩⟩ := hrel
  cases gk with
  | zero => exact absurd HA.out (by simp [slices_Index_string_string.l0])
  | succ k1 =>
   have H := HA.out
   clear HA
   simp only [slices_Index_string_string.l0] at H
   by_cases c3 : x8_1 < (l0.length : Int)
   rotate_left
   ·rw [if_neg c3] at H
    have c3b0 : decide (x8_1 < (l0.length : Int)) = false := decide_eq_false c3
    clear c3
    obtain rfl := Option.some.inj H
    go_wp2
    go_ret
    exact ⟨Z238,Z231⟩
   rw [if_pos c3] at H
   have c3b0 : decide (x8_1 < (l0.length : Int)) = true := decide_eq_true c3
   clear c3
   obtain ⟨c4,H⟩ := ifp H
   have c4b0 : decide (0 ≤ x8_1) = true := decide_eq_true c4
   clear c4
   obtain ⟨c5,H⟩ := ifp H
   have c5b0 : decide (x8_1 < (l0.length : Int)) = true := decide_eq_true c5
   clear c5
   by_cases c6 : a1.toList = (rdOf ByteArray.empty l0 x8_1).toList
   ·rw [if_pos c6] at H
    have c6b0 : (a1.toList == (rdOf ByteArray.empty l0 x8_1).toList) = true := beq_iff_eq.mpr c6
    have c6b1 : (a1.toList != (rdOf ByteArray.empty l0 x8_1).toList) = false := bne_eq_false_iff_eq.mpr c6
    clear c6
    obtain rfl := Option.some.inj H
    have p279 : 0 ≤ (x8_1 : Int) := of_decide_eq_true Z330
    have q279 : x8_1 < (l0.length : Int) := of_decide_eq_true Z330
    obtain ⟨ad279,e279,hx279_0⟩ := Kd.at_string HR0.out x8_1 p279 q279
    cases e279
    replace p279 := eq_true p279
    replace q279 := eq_true q279
    go_wp2
    go_ret
    exact ⟨Z238,Z231⟩
   rw [if_neg c6] at H
   have c6b0 : (a1.toList == (rdOf ByteArray.empty l0 x8_1).toList) = false := beq_eq_false_iff_ne.mpr c6
   have c6b1 : (a1.toList != (rdOf ByteArray.empty l0 x8_1).toList) = true := bne_iff_ne.mpr c6
   have H' := Aside0.mk H
   clear H
   have p279 : 0 ≤ (x8_1 : Int) := of_decide_eq_true Z330
   have q279 : x8_1 < (l0.length : Int) := of_decide_eq_true Z330
   obtain ⟨ad279,e279,hx279_0⟩ := Kd.at_string HR0.out x8_1 p279 q279
   cases e279
   replace p279 := eq_true p279
   replace q279 := eq_true q279
   go_wp2
   go_roundg k1
   case measure => have := HK1.out;omega
   case rel => exact ⟨(wrap64 (x8_1 + 1)),Z238,H',⟨Z248⟩,Z231⟩

/-! ### slices_Contains_string_string: function 17 -/
def slices_Contains_string_string.f (k : Nat) (l0 : List ByteArray) (a1 : ByteArray) : Option (Bool) := (slices_Index_string_string.f k l0 a1).bind fun t280 => (some (decide (t280 ≥ 0)))
theorem slices_Contains_string_string.mono : ∀ a0 a1 k,LeO (slices_Contains_string_string.f k a0 a1) (slices_Contains_string_string.f (k + 1) a0 a1) := by
 intro a0 a1 k
 unfold slices_Contains_string_string.f
 repeat' first
   | (with_reducible exact slices_Index_string_string.mono _ _ _)
   | (with_reducible exact LeO.refl _)
   | (with_reducible exact LeO.none _)
   | (with_reducible refine LeO.ite ?_ ?_)
   | (with_reducible refine LeO.bind ?_ (fun _ => ?_))
   | exact slices_Index_string_string.mono _ _ _
   | exact LeO.none _
   | refine LeO.ite ?_ ?_
   | refine LeO.bind ?_ (fun _ => ?_)
set_option maxHeartbeats 8000000 in
set_option maxRecDepth 100000 in
theorem slices_Contains_string_string.calls (k : Nat) (A0 : Option Addr) (c0 : Nat) (l0 : List ByteArray) (a1 : ByteArray) (r : Bool) (w : World) (hr0 : Kd.C Kd.string w A0 l0.length l0) (hc0 : l0.length ≤ c0) (h : slices_Contains_string_string.f k l0 a1 = some r) :
  Calls Tryd.prog 17 #[.slice A0 l0.length c0,.string a1] w fun e w' => e = .returned (.bool r) ∧ Drawn0 w w' := by
 have HR0 := Aside0.mk hr0
 have HC0 := Aside0.mk hc0
 clear hr0 hc0
 have H := h
 clear h
 unfold slices_Contains_string_string.f at H
 obtain ⟨t280,A30,H⟩ := Option.bind_eq_some_iff.mp H
 have A3 := Aside0.mk A30
 clear A30
 obtain rfl := Option.some.inj H
 go_enter Tryd.func17,Tryd.ntmps17
 go_wp2_with (first | ((with_reducible refine gate_callee (f := 39) rfl ?_);refine goesL_ (some 7) rfl rfl Tryd.func39 Z253 rfl #[.slice A0 l0.length c0,.string a1] rfl Z173 ?_;(with_reducible refine (slices_Index_string_string.calls k _ _ l0 a1 t280 _ ?side1 ?side2 A3.out).mono ?_);(case side1 => repeat (first | exact HR0.out | (with_reducible refine Kd.C_alloc ?_ _) | (with_reducible refine Kd.C_drewN ?_ _) | (with_reducible refine Kd.C_drew ?_)));(case side2 => exact HC0.out);rintro e w' ⟨rfl,⟨nd,rfl⟩⟩;refine ⟨_,rfl,?_⟩))
 go_ret
 exact ⟨Z238,Z231⟩

/-! ### stringslite_CutPrefix: function 55 -/
def stringslite_CutPrefix.f (a0 : ByteArray) (a1 : ByteArray) : Option (ByteArray × Bool) := (stringslite_HasPrefix.f a0 a1).bind fun t281 => (if t281 = true then (if 0 ≤ (a1.size : Int) then (if (a1.size : Int) ≤ (a0.size : Int) then (some (a0.extract ((a1.size : Int) : Int).toNat a0.size,true)) else (none)) else (none)) else (some (a0,false)))
set_option maxHeartbeats 8000000 in
set_option maxRecDepth 100000 in
theorem stringslite_CutPrefix.calls (a0 : ByteArray) (a1 : ByteArray) (r1 : ByteArray) (r2 : Bool) (w : World) (h : stringslite_CutPrefix.f a0 a1 = some (r1,r2)) :
  Calls Tryd.prog 55 #[.string a0,.string a1] w fun e w' => e = .returned (.tuple #[.string r1,.bool r2]) ∧ Drawn0 w w' := by
 have H := h
 clear h
 unfold stringslite_CutPrefix.f at H
 obtain ⟨t281,A30,H⟩ := Option.bind_eq_some_iff.mp H
 have A3 := Aside0.mk A30
 clear A30
 by_cases c4 : t281 = true
 rotate_left
 ·replace c4 := Bool.eq_false_iff.mpr c4
  subst c4
  rw [if_neg Bool.false_ne_true] at H
  simp only [Option.some.injEq,Prod.mk.injEq] at H
  obtain ⟨rfl,rfl⟩ := H
  go_enter Tryd.func55,Tryd.ntmps55
  go_wp2_with (first | ((with_reducible refine gate_callee (f := 54) rfl ?_);refine goesL_ (some 8) rfl rfl Tryd.func54 Z253 rfl #[.string a0,.string a1] rfl Z173 ?_;(with_reducible refine (stringslite_HasPrefix.calls a0 a1 false _ A3.out).mono ?_);rintro e w' ⟨rfl,⟨nd,rfl⟩⟩;refine ⟨_,rfl,?_⟩))
  go_ret2
  exact ⟨Z238,Z231⟩
 subst c4
 rw [if_pos rfl] at H
 obtain ⟨c5,H⟩ := ifp H
 have c5b0 := eq_true c5
 have c5b1 : decide (0 ≤ (a1.size : Int)) = true := decide_eq_true c5
 clear c5
 obtain ⟨c6,H⟩ := ifp H
 have c6b0 := eq_true c6
 have c6b1 : decide ((a1.size : Int) ≤ (a0.size : Int)) = true := decide_eq_true c6
 clear c6
 simp only [Option.some.injEq,Prod.mk.injEq] at H
 obtain ⟨rfl,rfl⟩ := H
 go_enter Tryd.func55,Tryd.ntmps55
 go_wp2_with (first | ((with_reducible refine gate_callee (f := 54) rfl ?_);refine goesL_ (some 8) rfl rfl Tryd.func54 Z253 rfl #[.string a0,.string a1] rfl Z173 ?_;(with_reducible refine (stringslite_HasPrefix.calls a0 a1 true _ A3.out).mono ?_);rintro e w' ⟨rfl,⟨nd,rfl⟩⟩;refine ⟨_,rfl,?_⟩))
 go_ret2
 exact ⟨Z238,Z231⟩

/-! ### strings_CutPrefix: function 45 -/
def strings_CutPrefix.f (a0 : ByteArray) (a1 : ByteArray) : Option (ByteArray × Bool) := (stringslite_CutPrefix.f a0 a1).bind fun bt282 => (some (bt282.1,bt282.2))
set_option maxHeartbeats 8000000 in
set_option maxRecDepth 100000 in
theorem strings_CutPrefix.calls (a0 : ByteArray) (a1 : ByteArray) (r1 : ByteArray) (r2 : Bool) (w : World) (h : strings_CutPrefix.f a0 a1 = some (r1,r2)) :
  Calls Tryd.prog 45 #[.string a0,.string a1] w fun e w' => e = .returned (.tuple #[.string r1,.bool r2]) ∧ Drawn0 w w' := by
 have H := h
 clear h
 unfold strings_CutPrefix.f at H
 obtain ⟨⟨t282,t283⟩,A30,H⟩ := Option.bind_eq_some_iff.mp H
 try dsimp only at H
 have A3 := Aside0.mk A30
 clear A30
 simp only [Option.some.injEq,Prod.mk.injEq] at H
 obtain ⟨rfl,rfl⟩ := H
 go_enter Tryd.func45,Tryd.ntmps45
 go_wp2_with (first | ((with_reducible refine gate_callee (f := 55) rfl ?_);refine goesL_ (some 8) rfl rfl Tryd.func55 Z253 rfl #[.string a0,.string a1] rfl Z173 ?_;(with_reducible refine (stringslite_CutPrefix.calls a0 a1 t282 t283 _ A3.out).mono ?_);rintro e w' ⟨rfl,⟨nd,rfl⟩⟩;refine ⟨_,rfl,?_⟩))
 go_ret2
 exact ⟨Z238,Z231⟩

/-! ### strings_Cut: function 46 -/
def strings_Cut.f (a0 a1 : ByteArray) : Option (ByteArray × ByteArray × Bool) := if a0.size < 4294967281 then some (⟨(Lib.cut a0.data.toList a1.data.toList).1.toArray⟩,⟨(Lib.cut a0.data.toList a1.data.toList).2.1.toArray⟩,(Lib.cut a0.data.toList a1.data.toList).2.2) else none
theorem strings_Cut.calls (a0 a1 : ByteArray) (r1 r2 : ByteArray) (r3 : Bool) (w : World) (hG : GT w) (h : strings_Cut.f a0 a1 = some (r1,r2,r3)) :
  Calls Tryd.prog 46 #[.string a0,.string a1] w fun e w' => e = .returned (.tuple #[.string r1,.string r2,.bool r3]) ∧ Below w.heap.size w w' := by
 unfold strings_Cut.f at h
 by_cases hb : a0.size < 4294967281
 rotate_left
 ·rw [if_neg hb] at h;cases h
 rw [if_pos hb] at h
 simp only [Option.some.injEq,Prod.mk.injEq] at h
 obtain ⟨rfl,rfl,rfl⟩ := h
 obtain ⟨m,hm⟩ := hG.maxlen
 exact (Tryd.strings_Cut a0 a1 m w hb hm).mono fun e w' ⟨he,n,hw⟩ => ⟨he,hw ▸ pw_below_drewN (Below.refl _ _) n⟩

/-! ### strings_Trim: function 57 -/
def strings_Trim.f (a0 a1 : ByteArray) : Option (ByteArray) := if a0.size ≤ 9223372036854775807 ∧ a1.size < 4294967281 ∧ a1.data.toList.all (fun b => decide (b.toNat < 128)) = true then some ⟨(Lib.trimS a0.data.toList a1.data.toList).toArray⟩ else none
theorem strings_Trim.calls (a0 a1 : ByteArray) (r : ByteArray) (w : World) (h : strings_Trim.f a0 a1 = some r) :
  Calls Tryd.prog 57 #[.string a0,.string a1] w fun e w' => e = .returned (.string r) ∧ Below w.heap.size w w' := by
 unfold strings_Trim.f at h
 by_cases hb : a0.size ≤ 9223372036854775807 ∧ a1.size < 4294967281 ∧ a1.data.toList.all (fun b => decide (b.toNat < 128)) = true
 rotate_left
 ·rw [if_neg hb] at h;cases h
 rw [if_pos hb] at h
 obtain rfl := Option.some.inj h
 exact Any.strings_Trim_laid Tryd.lays160 Z253 a0 a1 w hb.1 hb.2.1 (fun _ b hb' => of_decide_eq_true (List.all_eq_true.1 hb.2.2 b (List.mem_of_getElem? hb')))

/-! ### impl_areDigits: function 47 -/
def impl_areDigits.f (a0 : ByteArray) : Option (Bool) := if a0.toList = ([] : List UInt8) then (some false) else ((strings_Trim.f a0 (⟨#[48,49,50,51,52,53,54,55,56,57]⟩ : ByteArray)).bind fun t284 => (some (t284.toList == ([] : List UInt8))))
set_option maxHeartbeats 8000000 in
set_option maxRecDepth 100000 in
theorem impl_areDigits.calls (a0 : ByteArray) (r : Bool) (w : World) (h : impl_areDigits.f a0 = some r) :
  Calls Tryd.prog 47 #[.string a0] w fun e w' => e = .returned (.bool r) ∧ Below w.heap.size w w' := by
 have HB := Aside0.mk (Below.refl w.heap.size w)
 have H : (if a0.toList = ([] : List UInt8) then (some false) else ((strings_Trim.f a0 (⟨#[48,49,50,51,52,53,54,55,56,57]⟩ : ByteArray)).bind fun t284 => (some (t284.toList == ([] : List UInt8))))) = some r := h
 clear h
 by_cases c2 : a0.toList = ([] : List UInt8)
 ·rw [if_pos c2] at H
  have c2b0 : (a0.toList == ([] : List UInt8)) = true := beq_iff_eq.mpr c2
  have c2b1 : (a0.toList != ([] : List UInt8)) = false := bne_eq_false_iff_eq.mpr c2
  clear c2
  obtain rfl := Option.some.inj H
  go_enter Tryd.func47,Tryd.ntmps47
  go_wp2
  go_ret
  exact ⟨Z218,Z351⟩
 rw [if_neg c2] at H
 have c2b0 : (a0.toList == ([] : List UInt8)) = false := beq_eq_false_iff_ne.mpr c2
 have c2b1 : (a0.toList != ([] : List UInt8)) = true := bne_iff_ne.mpr c2
 obtain ⟨t284,A30,H⟩ := Option.bind_eq_some_iff.mp H
 have A3 := Aside0.mk A30
 clear A30
 obtain rfl := Option.some.inj H
 go_enter Tryd.func47,Tryd.ntmps47
 go_wp2_with (first | (go_at_call 57;(with_reducible refine (strings_Trim.calls a0 (⟨#[48,49,50,51,52,53,54,55,56,57]⟩ : ByteArray) t284 _ A3.out).mono ?_);rintro e wq1 ⟨rfl,hb⟩;have n0_ := Aside0.mk (below_step Z351 hb);clear HB;have HB := n0_;clear n0_;(try clear hb);(try clear hb2);(try clear hk);(try clear hi)))
 go_ret
 exact ⟨Z218,Z351⟩

/-! ### impl_isDecimal: function 48 -/
def impl_isDecimal.f (a0 : Int) : Option (Bool) := (impl_within.f a0 (-2147483647) 2147483647).bind fun t285 => (some t285)
set_option maxHeartbeats 8000000 in
set_option maxRecDepth 100000 in
theorem impl_isDecimal.calls (a0 : Int) (r : Bool) (w : World) (h : impl_isDecimal.f a0 = some r) :
  Calls Tryd.prog 48 #[.int .i64 a0] w fun e w' => e = .returned (.bool r) ∧ Drawn0 w w' := by
 have H := h
 clear h
 unfold impl_isDecimal.f at H
 obtain ⟨t285,A20,H⟩ := Option.bind_eq_some_iff.mp H
 have A2 := Aside0.mk A20
 clear A20
 obtain rfl := Option.some.inj H
 go_enter Tryd.func48,Tryd.ntmps48
 go_wp2_with (first | ((with_reducible refine gate_callee (f := 15) rfl ?_);refine goesL_ (some 4) rfl rfl Tryd.func15 Z253 rfl #[.int .i64 a0,.int .i64 (-2147483647),.int .i64 2147483647] rfl Z173 ?_;(with_reducible refine (impl_within.calls a0 (-2147483647) 2147483647 t285 _ A2.out).mono ?_);rintro e w' ⟨rfl,⟨nd,rfl⟩⟩;refine ⟨_,rfl,?_⟩))
 go_ret
 exact ⟨Z238,Z231⟩

end Go.Proofs.YtepnbcdbagjmbaaDoor.QFnExactReadTable
