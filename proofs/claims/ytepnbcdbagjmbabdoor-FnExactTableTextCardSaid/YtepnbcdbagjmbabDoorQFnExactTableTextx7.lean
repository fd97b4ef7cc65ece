/- The machine side of FnExactTableText: what each Go function that it reaches comes to. Conditions: none. -/
import Derived.Test.YtepnbcdbagjmbabDoorQFnExactTableTextx0
import Derived.Test.YtepnbcdbagjmbabDoorQFnExactTableTextx1
import Derived.Test.YtepnbcdbagjmbabDoorQFnExactTableTextx6
namespace Go.Proofs.YtepnbcdbagjmbabDoor.QFnExactTableText
open Go.RowKit Go.Proofs.YtepnbcdbagjmbabDoorW.PrintWords Go.Proofs.YtepnbcdbagjmbabDoorW.PrintLast Go.Proofs.YtepnbcdbagjmbabDoorW.PrintMore
attribute [local go_sem] max2_int min2_int max_two min_two max_three min_three max_four min_four   -- for this text's walks alone
set_option linter.unusedVariables false
set_option linter.unusedSimpArgs false

/-! ### slices_Index_string_string: function 53 -/
def slices_Index_string_string.l0 : Nat → List ByteArray → ByteArray → Int → Int → Option (Int)
 | 0,_,_,_,_ => none
 | k + 1,x0,x1,x7,x8 => if x8 < x7 then (if 0 ≤ x8 then (if x8 < (x0.length : Int) then (if x1.toList = (rdOf ByteArray.empty x0 x8).toList then (some x8) else (slices_Index_string_string.l0 k x0 x1 x7 (wrap64 (x8 + 1)))) else (none)) else (none)) else (some (-1))
def slices_Index_string_string.f (k : Nat) (l0 : List ByteArray) (a1 : ByteArray) : Option (Int) := slices_Index_string_string.l0 k l0 a1 (l0.length : Int) 0
theorem slices_Index_string_string.mono_l : ∀ k,(∀ y0 y1 y2 y3,LeO (slices_Index_string_string.l0 k y0 y1 y2 y3) (slices_Index_string_string.l0 (k + 1) y0 y1 y2 y3))
 | 0 => fun _ _ _ _ r h => by simp [slices_Index_string_string.l0] at h
 | k + 1 => by
  have ih0 := slices_Index_string_string.mono_l k
  ·intro y0 y1 y2 y3
   unfold slices_Index_string_string.l0
   repeat' first
   | (with_reducible exact ih0 _ _ _ _)
   | (with_reducible exact LeO.refl _)
   | (with_reducible exact LeO.none _)
   | (with_reducible refine LeO.ite ?_ ?_)
   | (with_reducible refine LeO.bind ?_ (fun _ => ?_))
   | exact ih0 _ _ _ _
   | exact LeO.none _
   | refine LeO.ite ?_ ?_
   | refine LeO.bind ?_ (fun _ => ?_)
theorem slices_Index_string_string.mono : ∀ a0 a1 k,LeO (slices_Index_string_string.f k a0 a1) (slices_Index_string_string.f (k + 1) a0 a1) := by
 intro a0 a1 k
 have ih0 := slices_Index_string_string.mono_l k
 unfold slices_Index_string_string.f
 repeat' first
   | (with_reducible exact ih0 _ _ _ _)
   | (with_reducible exact LeO.refl _)
   | (with_reducible exact LeO.none _)
   | (with_reducible refine LeO.ite ?_ ?_)
   | (with_reducible refine LeO.bind ?_ (fun _ => ?_))
   | exact ih0 _ _ _ _
   | exact LeO.none _
   | refine LeO.ite ?_ ?_
   | refine LeO.bind ?_ (fun _ => ?_)
set_option maxHeartbeats 8000000 in
set_option maxRecDepth 100000 in
theorem slices_Index_string_string.calls (k : Nat) (A0 : Option Addr) (c0 : Nat) (l0 : List ByteArray) (a1 : ByteArray) (r : Int) (w : World) (hr0 : Kd.C Kd.string w A0 l0.length l0) (hc0 : l0.length ≤ c0) (h : slices_Index_string_string.f k l0 a1 = some r) :
  Calls Tryd.prog 53 #[.slice A0 l0.length c0,.string a1] w fun e w' => e = .returned (.int .i64 r) ∧ Drawn0 w w' := by
 have HR0 := Aside0.mk hr0
 have HC0 := Aside0.mk hc0
 clear hr0 hc0
 have H := h
 clear h
 unfold slices_Index_string_string.f at H
 have H' := Aside0.mk H
 clear H
 go_enter Tryd.func53,Tryd.ntmps53
 go_wp2
 go_loopg [8] k (fun kq v8 w' => ∃ (x8_1 : Int),v8 = .int .i64 x8_1 ∧ Aside0 (slices_Index_string_string.l0 kq l0 a1 (l0.length : Int) x8_1 = some r) ∧ Aside0 (kq ≤ k) ∧ Drawn0 w w')
 case atStart => exact ⟨(0),Z106,H',⟨Nat.le_refl _⟩,Z104⟩
 case round =>
  clear H'
  try clear p2
  obtain ⟨x8_1,rfl,HA,HK1,⟨m1,rfl⟩⟩ := hrel
  cases gk with
  | zero => exact absurd HA.out (by simp [slices_Index_string_string.l0])
  | succ k1 =>
   have H := HA.out
   clear HA
   simp only [slices_Index_string_string.l0] at H
   by_cases c3 : x8_1 < (l0.length : Int)
   rotate_left
   ·rw [if_neg c3] at H
    have c3b0 : decide (x8_1 < (l0.length : Int)) = false := decide_eq_false c3
    clear c3
    obtain rfl := Option.some.inj H
    go_wp2
    go_ret
    exact ⟨Z106,Z104⟩
   rw [if_pos c3] at H
   have c3b0 : decide (x8_1 < (l0.length : Int)) = true := decide_eq_true c3
   clear c3
   obtain ⟨c4,H⟩ := ifp H
   have c4b0 : decide (0 ≤ x8_1) = true := decide_eq_true c4
   clear c4
   obtain ⟨c5,H⟩ := ifp H
   have c5b0 : decide (x8_1 < (l0.length : Int)) = true := decide_eq_true c5
   clear c5
   by_cases c6 : a1.toList = (rdOf ByteArray.empty l0 x8_1).toList
   ·rw [if_pos c6] at H
    have c6b0 : (a1.toList == (rdOf ByteArray.empty l0 x8_1).toList) = true := beq_iff_eq.mpr c6
    have c6b1 : (a1.toList != (rdOf ByteArray.empty l0 x8_1).toList) = false := bne_eq_false_iff_eq.mpr c6
    clear c6
    obtain rfl := Option.some.inj H
    have p274 : 0 ≤ (x8_1 : Int) := of_decide_eq_true Z105
    have q274 : x8_1 < (l0.length : Int) := of_decide_eq_true Z105
    obtain ⟨ad274,e274,hx274_0⟩ := Kd.at_string HR0.out x8_1 p274 q274
    cases e274
    replace p274 := eq_true p274
    replace q274 := eq_true q274
    go_wp2
    go_ret
    exact ⟨Z106,Z104⟩
   rw [if_neg c6] at H
   have c6b0 : (a1.toList == (rdOf ByteArray.empty l0 x8_1).toList) = false := beq_eq_false_iff_ne.mpr c6
   have c6b1 : (a1.toList != (rdOf ByteArray.empty l0 x8_1).toList) = true := bne_iff_ne.mpr c6
   have H' := Aside0.mk H
   clear H
   have p274 : 0 ≤ (x8_1 : Int) := of_decide_eq_true Z105
   have q274 : x8_1 < (l0.length : Int) := of_decide_eq_true Z105
   obtain ⟨ad274,e274,hx274_0⟩ := Kd.at_string HR0.out x8_1 p274 q274
   cases e274
   replace p274 := eq_true p274
   replace q274 := eq_true q274
   go_wp2
   go_roundg k1
   case measure => have := HK1.out;omega
   case rel => exact ⟨(wrap64 (x8_1 + 1)),Z106,H',⟨Z116⟩,Z104⟩

/-! ### slices_Contains_string_string: function 42 -/
def slices_Contains_string_string.f (k : Nat) (l0 : List ByteArray) (a1 : ByteArray) : Option (Bool) := (slices_Index_string_string.f k l0 a1).bind fun t275 => (some (decide (t275 ≥ 0)))
theorem slices_Contains_string_string.mono : ∀ a0 a1 k,LeO (slices_Contains_string_string.f k a0 a1) (slices_Contains_string_string.f (k + 1) a0 a1) := by
 intro a0 a1 k
 unfold slices_Contains_string_string.f
 repeat' first
   | (with_reducible exact slices_Index_string_string.mono _ _ _)
   | (with_reducible exact LeO.refl _)
   | (with_reducible exact LeO.none _)
   | (with_reducible refine LeO.ite ?_ ?_)
   | (with_reducible refine LeO.bind ?_ (fun _ => ?_))
   | exact slices_Index_string_string.mono _ _ _
   | exact LeO.none _
   | refine LeO.ite ?_ ?_
   | refine LeO.bind ?_ (fun _ => ?_)
set_option maxHeartbeats 8000000 in
set_option maxRecDepth 100000 in
theorem slices_Contains_string_string.calls (k : Nat) (A0 : Option Addr) (c0 : Nat) (l0 : List ByteArray) (a1 : ByteArray) (r : Bool) (w : World) (hr0 : Kd.C Kd.string w A0 l0.length l0) (hc0 : l0.length ≤ c0) (h : slices_Contains_string_string.f k l0 a1 = some r) :
  Calls Tryd.prog 42 #[.slice A0 l0.length c0,.string a1] w fun e w' => e = .returned (.bool r) ∧ Drawn0 w w' := by
 have HR0 := Aside0.mk hr0
 have HC0 := Aside0.mk hc0
 clear hr0 hc0
 have H := h
 clear h
 unfold slices_Contains_string_string.f at H
 obtain ⟨t275,A30,H⟩ := Option.bind_eq_some_iff.mp H
 have A3 := Aside0.mk A30
 clear A30
 obtain rfl := Option.some.inj H
 go_enter Tryd.func42,Tryd.ntmps42
 go_wp2_with (first | ((with_reducible refine gate_callee (f := 53) rfl ?_);refine goesL_ (some 7) rfl rfl Tryd.func53 Z121 rfl #[.slice A0 l0.length c0,.string a1] rfl Z66 ?_;(with_reducible refine (slices_Index_string_string.calls k _ _ l0 a1 t275 _ ?side1 ?side2 A3.out).mono ?_);(case side1 => exact Z61);(case side2 => exact HC0.out);rintro e w' ⟨rfl,⟨nd,rfl⟩⟩;refine ⟨_,rfl,?_⟩))
 go_ret
 exact ⟨Z106,Z104⟩

/-! ### impl_areNames: function 33 -/
def impl_areNames.l0 : Nat → List ByteArray → List ByteArray → Int → Int → Option (Bool)
 | 0,_,_,_,_ => none
 | k + 1,x0,x5,x6,x7 => if x7 < x6 then (if 0 ≤ x7 then (if x7 < (x5.length : Int) then ((impl_NameOk.f k (rdOf ByteArray.empty x5 x7)).bind fun t277 => (if t277 = true then (if x7 ≤ (x0.length : Int) then ((slices_Contains_string_string.f k (x0.take (x7 : Int).toNat) (rdOf ByteArray.empty x5 x7)).bind fun t279 => (if t279 = true then (some false) else (impl_areNames.l0 k x0 x5 x6 (wrap64 (x7 + 1))))) else (none)) else (some false))) else (none)) else (none)) else (some true)
def impl_areNames.f (k : Nat) (l0 : List ByteArray) : Option (Bool) := impl_areNames.l0 k l0 l0 (l0.length : Int) 0
theorem impl_areNames.mono_l : ∀ k,(∀ y0 y1 y2 y3,LeO (impl_areNames.l0 k y0 y1 y2 y3) (impl_areNames.l0 (k + 1) y0 y1 y2 y3))
 | 0 => fun _ _ _ _ r h => by simp [impl_areNames.l0] at h
 | k + 1 => by
  have ih0 := impl_areNames.mono_l k
  ·intro y0 y1 y2 y3
   unfold impl_areNames.l0
   repeat' first
   | (with_reducible exact ih0 _ _ _ _)
   | (with_reducible exact impl_NameOk.mono _ _)
   | (with_reducible exact slices_Contains_string_string.mono _ _ _)
   | (with_reducible exact LeO.refl _)
   | (with_reducible exact LeO.none _)
   | (with_reducible refine LeO.ite ?_ ?_)
   | (with_reducible refine LeO.bind ?_ (fun _ => ?_))
   | exact ih0 _ _ _ _
   | exact impl_NameOk.mono _ _
   | exact slices_Contains_string_string.mono _ _ _
   | exact LeO.none _
   | refine LeO.ite ?_ ?_
   | refine LeO.bind ?_ (fun _ => ?_)
theorem impl_areNames.mono : ∀ a0 k,LeO (impl_areNames.f k a0) (impl_areNames.f (k + 1) a0) := by
 intro a0 k
 have ih0 := impl_areNames.mono_l k
 unfold impl_areNames.f
 repeat' first
   | (with_reducible exact ih0 _ _ _ _)
   | (with_reducible exact impl_NameOk.mono _ _)
   | (with_reducible exact slices_Contains_string_string.mono _ _ _)
   | (with_reducible exact LeO.refl _)
   | (with_reducible exact LeO.none _)
   | (with_reducible refine LeO.ite ?_ ?_)
   | (with_reducible refine LeO.bind ?_ (fun _ => ?_))
   | exact ih0 _ _ _ _
   | exact impl_NameOk.mono _ _
   | exact slices_Contains_string_string.mono _ _ _
   | exact LeO.none _
   | refine LeO.ite ?_ ?_
   | refine LeO.bind ?_ (fun _ => ?_)
set_option maxHeartbeats 8000000 in
set_option maxRecDepth 100000 in
theorem impl_areNames.calls (k : Nat) (A0 : Option Addr) (c0 : Nat) (l0 : List ByteArray) (r : Bool) (w : World) (hr0 : Kd.C Kd.string w A0 l0.length l0) (hc0 : l0.length ≤ c0) (h : impl_areNames.f k l0 = some r) :
  Calls Tryd.prog 33 #[.slice A0 l0.length c0] w fun e w' => e = .returned (.bool r) ∧ Drawn0 w w' := by
 have HR0 := Aside0.mk hr0
 have HC0 := Aside0.mk hc0
 clear hr0 hc0
 have H := h
 clear h
 unfold impl_areNames.f at H
 have H' := Aside0.mk H
 clear H
 go_enter Tryd.func33,Tryd.ntmps33
 go_wp2
 go_loopg [7] k (fun kq v7 w' => ∃ (x7_1 : Int),v7 = .int .i64 x7_1 ∧ Aside0 (impl_areNames.l0 kq l0 l0 (l0.length : Int) x7_1 = some r) ∧ Aside0 (kq ≤ k) ∧ Drawn0 w w')
 case atStart => exact ⟨(0),Z106,H',⟨Nat.le_refl _⟩,Z104⟩
 case round =>
  clear H'
  obtain ⟨x7_1,rfl,HA,HK1,⟨m1,rfl⟩⟩ := hrel
  cases gk with
  | zero => exact absurd HA.out (by simp [impl_areNames.l0])
  | succ k1 =>
   have H := HA.out
   clear HA
   simp only [impl_areNames.l0] at H
   by_cases c2 : x7_1 < (l0.length : Int)
   rotate_left
   ·rw [if_neg c2] at H
    have c2b0 : decide (x7_1 < (l0.length : Int)) = false := decide_eq_false c2
    clear c2
    obtain rfl := Option.some.inj H
    go_wp2
    go_ret
    exact ⟨Z106,Z104⟩
   rw [if_pos c2] at H
   have c2b0 : decide (x7_1 < (l0.length : Int)) = true := decide_eq_true c2
   clear c2
   obtain ⟨c3,H⟩ := ifp H
   have c3b0 : decide (0 ≤ x7_1) = true := decide_eq_true c3
   clear c3
   obtain ⟨c4,H⟩ := ifp H
   have c4b0 : decide (x7_1 < (l0.length : Int)) = true := decide_eq_true c4
   clear c4
   obtain ⟨t277,A50,H⟩ := Option.bind_eq_some_iff.mp H
   have A5 := Aside0.mk A50
   clear A50
   by_cases c6 : t277 = true
   rotate_left
   ·replace c6 := Bool.eq_false_iff.mpr c6
    subst c6
    rw [if_neg Bool.false_ne_true] at H
    obtain rfl := Option.some.inj H
    have p276 : 0 ≤ (x7_1 : Int) := of_decide_eq_true Z105
    have q276 : x7_1 < (l0.length : Int) := of_decide_eq_true Z105
    obtain ⟨ad276,e276,hx276_0⟩ := Kd.at_string HR0.out x7_1 p276 q276
    cases e276
    replace p276 := eq_true p276
    replace q276 := eq_true q276
    go_wp2_with (first | ((with_reducible refine gate_callee (f := 41) rfl ?_);refine goesL_ (some 13) rfl rfl Tryd.func41 Z121 rfl #[.string (rdOf ByteArray.empty l0 x7_1)] rfl Z66 ?_;(with_reducible refine (impl_NameOk.calls k1 (rdOf ByteArray.empty l0 x7_1) false _ A5.out).mono ?_);rintro e w' ⟨rfl,⟨nd,rfl⟩⟩;refine ⟨_,rfl,?_⟩))
    go_ret
    exact ⟨Z106,Z104⟩
   subst c6
   rw [if_pos rfl] at H
   have c7b0 := eq_true (of_decide_eq_true Z105 : 0 ≤ x7_1)
   obtain ⟨c8,H⟩ := ifp H
   have c8b0 := eq_true c8
   have c8b1 : decide (x7_1 ≤ (l0.length : Int)) = true := decide_eq_true c8
   clear c8
   obtain ⟨t279,A90,H⟩ := Option.bind_eq_some_iff.mp H
   have A9 := Aside0.mk A90
   clear A90
   by_cases c10 : t279 = true
   ·subst c10
    rw [if_pos rfl] at H
    obtain rfl := Option.some.inj H
    have p276 : 0 ≤ (x7_1 : Int) := of_decide_eq_true Z105
    have q276 : x7_1 < (l0.length : Int) := of_decide_eq_true Z105
    obtain ⟨ad276,e276,hx276_0⟩ := Kd.at_string HR0.out x7_1 p276 q276
    cases e276
    replace p276 := eq_true p276
    replace q276 := eq_true q276
    go_wp2_with (first | ((with_reducible refine gate_callee (f := 41) rfl ?_);refine goesL_ (some 13) rfl rfl Tryd.func41 Z121 rfl #[.string (rdOf ByteArray.empty l0 x7_1)] rfl Z66 ?_;(with_reducible refine (impl_NameOk.calls k1 (rdOf ByteArray.empty l0 x7_1) true _ A5.out).mono ?_);rintro e w' ⟨rfl,⟨nd,rfl⟩⟩;refine ⟨_,rfl,?_⟩;obtain ⟨iq1,hiq1,_,hszq2,_⟩ := info_parts info9;obtain ⟨hcutq2,hAq2,hCq2⟩ := print_take_of (P := Tryd.prog) Value.string (⟨#[]⟩ : ByteArray) 22 9 .i64 Tryd.underlying22 hiq1 hszq2 (some ad276) c0 l0 x7_1 (of_decide_eq_true Z105) (of_decide_eq_true Z105) HC0.out;have HR278 := Aside0.mk (Kd.C_of_reads (h1 := fun _ => rfl) (hAq2 _ (Kd.reads_of_C HR0.out)));have HC278 := Aside0.mk hCq2;clear hAq2 hCq2 hiq1 hszq2) | (go_at_call 42;(with_reducible refine take_at_ (xs := l0) (j := x7_1) (of_decide_eq_true Z105) (of_decide_eq_true Z105) ((slices_Contains_string_string.calls k1 _ _ (l0.take (x7_1 : Int).toNat) (rdOf ByteArray.empty l0 x7_1) true _ ?side1 ?side2 A9.out).mono ?_));(case side1 => exact Z60);(case side2 => exact HC278.out);rintro e w' ⟨rfl,⟨nd,rfl⟩⟩))
    go_ret
    exact ⟨Z106,Z104⟩
   replace c10 := Bool.eq_false_iff.mpr c10
   subst c10
   rw [if_neg Bool.false_ne_true] at H
   have H' := Aside0.mk H
   clear H
   have p276 : 0 ≤ (x7_1 : Int) := of_decide_eq_true Z105
   have q276 : x7_1 < (l0.length : Int) := of_decide_eq_true Z105
   obtain ⟨ad276,e276,hx276_0⟩ := Kd.at_string HR0.out x7_1 p276 q276
   cases e276
   replace p276 := eq_true p276
   replace q276 := eq_true q276
   go_wp2_with (first | ((with_reducible refine gate_callee (f := 41) rfl ?_);refine goesL_ (some 13) rfl rfl Tryd.func41 Z121 rfl #[.string (rdOf ByteArray.empty l0 x7_1)] rfl Z66 ?_;(with_reducible refine (impl_NameOk.calls k1 (rdOf ByteArray.empty l0 x7_1) true _ A5.out).mono ?_);rintro e w' ⟨rfl,⟨nd,rfl⟩⟩;refine ⟨_,rfl,?_⟩;obtain ⟨i012,hi012,_,hsz12,_⟩ := info_parts info9;obtain ⟨hcut12,hA12,hC12⟩ := print_take_of (P := Tryd.prog) Value.string (⟨#[]⟩ : ByteArray) 22 9 .i64 Tryd.underlying22 hi012 hsz12 (some ad276) c0 l0 x7_1 (of_decide_eq_true Z105) (of_decide_eq_true Z105) HC0.out;have HR278 := Aside0.mk (Kd.C_of_reads (h1 := fun _ => rfl) (hA12 _ (Kd.reads_of_C HR0.out)));have HC278 := Aside0.mk hC12;clear hA12 hC12 hi012 hsz12) | (go_at_call 42;(with_reducible refine take_at_ (xs := l0) (j := x7_1) (of_decide_eq_true Z105) (of_decide_eq_true Z105) ((slices_Contains_string_string.calls k1 _ _ (l0.take (x7_1 : Int).toNat) (rdOf ByteArray.empty l0 x7_1) false _ ?side1 ?side2 A9.out).mono ?_));(case side1 => exact Z60);(case side2 => exact HC278.out);rintro e w' ⟨rfl,⟨nd,rfl⟩⟩))
   go_roundg k1
   case measure => have := HK1.out;omega
   case rel => exact ⟨(wrap64 (x7_1 + 1)),Z106,H',⟨Z116⟩,Z104⟩

/-! ### slices_IndexFunc_int_int_54: function 54 -/
def slices_IndexFunc_int_int_54.l0 : Nat → List Int → Int → Int → Option (Int)
 | 0,_,_,_ => none
 | k + 1,x0,x7,x8 => if x8 < x7 then (if 0 ≤ x8 then (if x8 < (x0.length : Int) then ((impl_areDecimals_1.f (rd x0 x8)).bind fun t281 => (if t281 = true then (some x8) else (slices_IndexFunc_int_int_54.l0 k x0 x7 (wrap64 (x8 + 1))))) else (none)) else (none)) else (some (-1))
def slices_IndexFunc_int_int_54.f (k : Nat) (l0 : List Int) (a1 : Unit) : Option (Int) := slices_IndexFunc_int_int_54.l0 k l0 (l0.length : Int) 0
theorem slices_IndexFunc_int_int_54.mono_l : ∀ k,(∀ y0 y1 y2,LeO (slices_IndexFunc_int_int_54.l0 k y0 y1 y2) (slices_IndexFunc_int_int_54.l0 (k + 1) y0 y1 y2))
 | 0 => fun _ _ _ r h => by simp [slices_IndexFunc_int_int_54.l0] at h
 | k + 1 => by
  have ih0 := slices_IndexFunc_int_int_54.mono_l k
  ·intro y0 y1 y2
   unfold slices_IndexFunc_int_int_54.l0
   repeat' first
   | (with_reducible exact ih0 _ _ _)
   | (with_reducible exact LeO.refl _)
   | (with_reducible exact LeO.none _)
   | (with_reducible refine LeO.ite ?_ ?_)
   | (with_reducible refine LeO.bind ?_ (fun _ => ?_))
   | exact ih0 _ _ _
   | exact LeO.none _
   | refine LeO.ite ?_ ?_
   | refine LeO.bind ?_ (fun _ => ?_)
theorem slices_IndexFunc_int_int_54.mono : ∀ a0 a1 k,LeO (slices_IndexFunc_int_int_54.f k a0 a1) (slices_IndexFunc_int_int_54.f (k + 1) a0 a1) := by
 intro a0 a1 k
 have ih0 := slices_IndexFunc_int_int_54.mono_l k
 unfold slices_IndexFunc_int_int_54.f
 repeat' first
   | (with_reducible exact ih0 _ _ _)
   | (with_reducible exact LeO.refl _)
   | (with_reducible exact LeO.none _)
   | (with_reducible refine LeO.ite ?_ ?_)
   | (with_reducible refine LeO.bind ?_ (fun _ => ?_))
   | exact ih0 _ _ _
   | exact LeO.none _
   | refine LeO.ite ?_ ?_
   | refine LeO.bind ?_ (fun _ => ?_)
set_option maxHeartbeats 8000000 in
set_option maxRecDepth 100000 in
theorem slices_IndexFunc_int_int_54.calls (k : Nat) (A0 : Option Addr) (c0 : Nat) (l0 : List Int) (a1 : Unit) (r : Int) (w : World) (hr0 : Kd.C (Kd.int .i64) w A0 l0.length l0) (hc0 : l0.length ≤ c0) (h : slices_IndexFunc_int_int_54.f k l0 a1 = some r) :
  Calls Tryd.prog 54 #[.slice A0 l0.length c0,.func (.func 44) #[] #[]] w fun e w' => e = .returned (.int .i64 r) ∧ Drawn0 w w' := by
 have HR0 := Aside0.mk hr0
 have HC0 := Aside0.mk hc0
 clear hr0 hc0
 have H := h
 clear h
 unfold slices_IndexFunc_int_int_54.f at H
 have H' := Aside0.mk H
 clear H
 go_enter Tryd.func54,Tryd.ntmps54
 go_wp2
 go_loopg [8] k (fun kq v8 w' => ∃ (x8_1 : Int),v8 = .int .i64 x8_1 ∧ Aside0 (slices_IndexFunc_int_int_54.l0 kq l0 (l0.length : Int) x8_1 = some r) ∧ Aside0 (kq ≤ k) ∧ Drawn0 w w')
 case atStart => exact ⟨(0),Z106,H',⟨Nat.le_refl _⟩,Z104⟩
 case round =>
  clear H'
  try clear p2
  obtain ⟨x8_1,rfl,HA,HK1,⟨m1,rfl⟩⟩ := hrel
  cases gk with
  | zero => exact absurd HA.out (by simp [slices_IndexFunc_int_int_54.l0])
  | succ k1 =>
   have H := HA.out
   clear HA
   simp only [slices_IndexFunc_int_int_54.l0] at H
   by_cases c3 : x8_1 < (l0.length : Int)
   rotate_left
   ·rw [if_neg c3] at H
    have c3b0 : decide (x8_1 < (l0.length : Int)) = false := decide_eq_false c3
    clear c3
    obtain rfl := Option.some.inj H
    go_wp2
    go_ret
    exact ⟨Z106,Z104⟩
   rw [if_pos c3] at H
   have c3b0 : decide (x8_1 < (l0.length : Int)) = true := decide_eq_true c3
   clear c3
   obtain ⟨c4,H⟩ := ifp H
   have c4b0 : decide (0 ≤ x8_1) = true := decide_eq_true c4
   clear c4
   obtain ⟨c5,H⟩ := ifp H
   have c5b0 : decide (x8_1 < (l0.length : Int)) = true := decide_eq_true c5
   clear c5
   obtain ⟨t281,A60,H⟩ := Option.bind_eq_some_iff.mp H
   have A6 := Aside0.mk A60
   clear A60
   by_cases c7 : t281 = true
   ·subst c7
    rw [if_pos rfl] at H
    obtain rfl := Option.some.inj H
    have p280 : 0 ≤ (x8_1 : Int) := of_decide_eq_true Z105
    have q280 : x8_1 < (l0.length : Int) := of_decide_eq_true Z105
    obtain ⟨ad280,e280,hx280_0⟩ := Kd.at_int HR0.out x8_1 p280 q280
    cases e280
    replace p280 := eq_true p280
    replace q280 := eq_true q280
    go_wp2_with (first | (go_at_call 44;(with_reducible refine (impl_areDecimals_1.calls (rd l0 x8_1) true _ A6.out).mono ?_);rintro e w' ⟨rfl,⟨nd,rfl⟩⟩))
    go_ret
    exact ⟨Z106,Z104⟩
   replace c7 := Bool.eq_false_iff.mpr c7
   subst c7
   rw [if_neg Bool.false_ne_true] at H
   have H' := Aside0.mk H
   clear H
   have p280 : 0 ≤ (x8_1 : Int) := of_decide_eq_true Z105
   have q280 : x8_1 < (l0.length : Int) := of_decide_eq_true Z105
   obtain ⟨ad280,e280,hx280_0⟩ := Kd.at_int HR0.out x8_1 p280 q280
   cases e280
   replace p280 := eq_true p280
   replace q280 := eq_true q280
   go_wp2_with (first | (go_at_call 44;(with_reducible refine (impl_areDecimals_1.calls (rd l0 x8_1) false _ A6.out).mono ?_);rintro e w' ⟨rfl,⟨nd,rfl⟩⟩))
   go_roundg k1
   case measure => have := HK1.out;omega
   case rel => exact ⟨(wrap64 (x8_1 + 1)),Z106,H',⟨Z116⟩,Z104⟩

/-! ### slices_ContainsFunc_int_int_43: function 43 -/
def slices_ContainsFunc_int_int_43.f (k : Nat) (l0 : List Int) (a1 : Unit) : Option (Bool) := (slices_IndexFunc_int_int_54.f k l0 a1).bind fun t282 => (some (decide (t282 ≥ 0)))
theorem slices_ContainsFunc_int_int_43.mono : ∀ a0 a1 k,LeO (slices_ContainsFunc_int_int_43.f k a0 a1) (slices_ContainsFunc_int_int_43.f (k + 1) a0 a1) := by
 intro a0 a1 k
 unfold slices_ContainsFunc_int_int_43.f
 repeat' first
   | (with_reducible exact slices_IndexFunc_int_int_54.mono _ _ _)
   | (with_reducible exact LeO.refl _)
   | (with_reducible exact LeO.none _)
   | (with_reducible refine LeO.ite ?_ ?_)
   | (with_reducible refine LeO.bind ?_ (fun _ => ?_))
   | exact slices_IndexFunc_int_int_54.mono _ _ _
   | exact LeO.none _
   | refine LeO.ite ?_ ?_
   | refine LeO.bind ?_ (fun _ => ?_)
set_option maxHeartbeats 8000000 in
set_option maxRecDepth 100000 in
theorem slices_ContainsFunc_int_int_43.calls (k : Nat) (A0 : Option Addr) (c0 : Nat) (l0 : List Int) (a1 : Unit) (r : Bool) (w : World) (hr0 : Kd.C (Kd.int .i64) w A0 l0.length l0) (hc0 : l0.length ≤ c0) (h : slices_ContainsFunc_int_int_43.f k l0 a1 = some r) :
  Calls Tryd.prog 43 #[.slice A0 l0.length c0,.func (.func 44) #[] #[]] w fun e w' => e = .returned (.bool r) ∧ Drawn0 w w' := by
 have HR0 := Aside0.mk hr0
 have HC0 := Aside0.mk hc0
 clear hr0 hc0
 have H := h
 clear h
 unfold slices_ContainsFunc_int_int_43.f at H
 obtain ⟨t282,A30,H⟩ := Option.bind_eq_some_iff.mp H
 have A3 := Aside0.mk A30
 clear A30
 obtain rfl := Option.some.inj H
 go_enter Tryd.func43,Tryd.ntmps43
 go_wp2_with (first | ((with_reducible refine gate_callee (f := 54) rfl ?_);refine goesL_ (some 7) rfl rfl Tryd.func54 Z121 rfl #[.slice A0 l0.length c0,.func (.func 44) #[] #[]] rfl Z66 ?_;(with_reducible refine (slices_IndexFunc_int_int_54.calls k _ _ l0 a1 t282 _ ?side1 ?side2 A3.out).mono ?_);(case side1 => exact Z61);(case side2 => exact HC0.out);rintro e w' ⟨rfl,⟨nd,rfl⟩⟩;refine ⟨_,rfl,?_⟩))
 go_ret
 exact ⟨Z106,Z104⟩

/-! ### impl_areDecimals: function 34 -/
def impl_areDecimals.f (k : Nat) (l0 : List Int) : Option (Bool) := (slices_ContainsFunc_int_int_43.f k l0 ()).bind fun t283 => (some (!t283))
theorem impl_areDecimals.mono : ∀ a0 k,LeO (impl_areDecimals.f k a0) (impl_areDecimals.f (k + 1) a0) := by
 intro a0 k
 unfold impl_areDecimals.f
 repeat' first
   | (with_reducible exact slices_ContainsFunc_int_int_43.mono _ _ _)
   | (with_reducible exact LeO.refl _)
   | (with_reducible exact LeO.none _)
   | (with_reducible refine LeO.ite ?_ ?_)
   | (with_reducible refine LeO.bind ?_ (fun _ => ?_))
   | exact slices_ContainsFunc_int_int_43.mono _ _ _
   | exact LeO.none _
   | refine LeO.ite ?_ ?_
   | refine LeO.bind ?_ (fun _ => ?_)
set_option maxHeartbeats 8000000 in
set_option maxRecDepth 100000 in
theorem impl_areDecimals.calls (k : Nat) (A0 : Option Addr) (c0 : Nat) (l0 : List Int) (r : Bool) (w : World) (hr0 : Kd.C (Kd.int .i64) w A0 l0.length l0) (hc0 : l0.length ≤ c0) (h : impl_areDecimals.f k l0 = some r) :
  Calls Tryd.prog 34 #[.slice A0 l0.length c0] w fun e w' => e = .returned (.bool r) ∧ Drawn0 w w' := by
 have HR0 := Aside0.mk hr0
 have HC0 := Aside0.mk hc0
 clear hr0 hc0
 have H := h
 clear h
 unfold impl_areDecimals.f at H
 obtain ⟨t283,A20,H⟩ := Option.bind_eq_some_iff.mp H
 have A2 := Aside0.mk A20
 clear A20
 obtain rfl := Option.some.inj H
 go_enter Tryd.func34,Tryd.ntmps34
 go_wp2_with (first | ((with_reducible refine gate_callee (f := 43) rfl ?_);refine goesL_ (some 4) rfl rfl Tryd.func43 Z121 rfl #[.slice A0 l0.length c0,.func (.func 44) #[] #[]] rfl Z66 ?_;(with_reducible refine (slices_ContainsFunc_int_int_43.calls k _ _ l0 () t283 _ ?side1 ?side2 A2.out).mono ?_);(case side1 => exact Z61);(case side2 => exact HC0.out);rintro e w' ⟨rfl,⟨nd,rfl⟩⟩;refine ⟨_,rfl,?_⟩))
 go_ret
 exact ⟨Z106,Z104⟩

-- NOT PRINTED: function 45 (slices_IndexFunc_int_int_45)

-- NOT PRINTED: function 35 (slices_ContainsFunc_int_int_35)

/-! ### impl_TableOk_1: function 36 -/
/-- Is this number a decimal? -/
def impl_TableOk_1.dc (x : Int) : Bool := decide (-2147483647 ≤ x ∧ x ≤ 2147483647)
theorem impl_TableOk_1.dec_ (x : Int) : impl_areDecimals_1.f x = some (!impl_TableOk_1.dc x) := by
 unfold impl_areDecimals_1.f impl_isDecimal.f impl_within.f impl_TableOk_1.dc
 by_cases h : x ≥ -2147483647
 rotate_left
 ·rw [if_neg h]
  simp only [Option.bind_some]
  congr 2
  simp
  omega
 rw [if_pos h]
 simp only [Option.bind_some]
 congr 2
 by_cases h2 : x ≤ 2147483647 <;> simp [h2] <;> omega
theorem impl_TableOk_1.w64 {x : Int} (h1 : -9223372036854775808 ≤ x) (h2 : x ≤ 9223372036854775807) : wrap64 x = x := by unfold wrap64;omega
theorem impl_TableOk_1.idx (l : List Int) (hl : l.length ≤ 9223372036854775807) : ∀ d n : Nat,n + d = l.length → ∃ r : Int,slices_IndexFunc_int_int_54.l0 (d + 1) l (l.length : Int) (n : Int) = some r ∧ decide (r ≥ 0) = !((l.drop n).all impl_TableOk_1.dc) := by
 intro d
 induction d with
 | zero =>
  intro n hn
  obtain rfl : n = l.length := by omega
  refine ⟨-1,?_,Z146⟩
  simp only [slices_IndexFunc_int_int_54.l0]
  rw [if_neg Z122]
 | succ d ih =>
  intro n hn
  have hlt : n < l.length := by omega
  have er : rd l (n : Int) = l[n] := by unfold rd;simp [List.getD,List.getElem?_eq_getElem hlt]
  have ed : l.drop n = l[n] :: l.drop (n + 1) := List.drop_eq_getElem_cons hlt
  obtain ⟨r,e,hr⟩ := ih (n + 1) Z122
  generalize d + 1 = m at e ⊢
  have hw : wrap64 ((n : Int) + 1) = ((n + 1 : Nat) : Int) := by rw [impl_TableOk_1.w64 Z122 Z122];rfl
  by_cases h : impl_TableOk_1.dc l[n] = true
  rotate_left
  ·have h := Bool.eq_false_iff.mpr h
   refine ⟨(n : Int),?_,by rw [ed,List.all_cons,h,Bool.false_and];simp⟩
   simp only [slices_IndexFunc_int_int_54.l0]
   rw [if_pos Z122,if_pos Z122,if_pos Z122,er,impl_TableOk_1.dec_,h]
   rfl
  refine ⟨r,?_,by rw [ed,List.all_cons,h,Bool.true_and];exact hr⟩
  simp only [slices_IndexFunc_int_int_54.l0]
  rw [if_pos Z122,if_pos Z122,if_pos Z122,er,impl_TableOk_1.dec_,h]
  rw [Option.bind_some,Bool.not_true,if_neg Bool.false_ne_true,hw]
  exact e
theorem impl_TableOk_1.all_ (l : List Int) (hl : l.length ≤ 9223372036854775807) : impl_areDecimals.f (l.length + 1) l = some (l.all impl_TableOk_1.dc) := by
 obtain ⟨r,e,hr⟩ := impl_TableOk_1.idx l hl l.length 0 Z122
 unfold impl_areDecimals.f slices_ContainsFunc_int_int_43.f slices_IndexFunc_int_int_54.f
 have e' : slices_IndexFunc_int_int_54.l0 (l.length + 1) l (l.length : Int) 0 = some r := e
 rw [e']
 simp only [Option.bind_some]
 rw [hr,List.drop_zero,Bool.not_not]
def impl_TableOk_1.bad (n : Nat) (row : List Int) : Bool := decide ((row.length : Int) ≠ (n : Int)) || !(row.all impl_TableOk_1.dc)
theorem impl_TableOk_1.bad_ne {n : Nat} {row : List Int} (e : (row.length : Int) ≠ (n : Int)) : impl_TableOk_1.bad n row = true := by unfold impl_TableOk_1.bad;rw [decide_eq_true e,Bool.true_or]
theorem impl_TableOk_1.bad_eq {n : Nat} {row : List Int} (e : (row.length : Int) = (n : Int)) : impl_TableOk_1.bad n row = !(row.all impl_TableOk_1.dc) := by unfold impl_TableOk_1.bad;rw [decide_eq_false (fun h => h e),Bool.false_or]
def impl_TableOk_1.f (l0 : List (List Int)) (l1 : List ByteArray) : Option (Bool) := some (l0.any (impl_TableOk_1.bad l1.length))
set_option maxHeartbeats 4000000 in
theorem impl_TableOk_1.at1 (g : Nat) (A1 : Option Addr) (c1 n : Nat) (A : Option Addr) (c : Nat) (row : List Int) (w : World) (hx : w.cell? ⟨g,0,none⟩ = some (.slice A1 n c1)) (hn : ((row.length : Int) != (n : Int)) = true) :
  Calls Tryd.prog 36 #[.slice A row.length c,.pointer (some ⟨g,0,none⟩)] w fun e w' => e = .returned (.bool true) ∧ Drawn0 w w' := by
 go_enter Tryd.func36,Tryd.ntmps36
 go_wp2_with (fail)
 go_ret
 exact ⟨Z106,Z104⟩
set_option maxHeartbeats 4000000 in
theorem impl_TableOk_1.at2 (k : Nat) (g : Nat) (A1 : Option Addr) (c1 n : Nat) (A : Option Addr) (c : Nat) (row : List Int) (w : World) (hx : w.cell? ⟨g,0,none⟩ = some (.slice A1 n c1)) (hr : Kd.C (Kd.int .i64) w A row.length row) (hc : row.length ≤ c) (q : Bool) (hq : impl_areDecimals.f k row = some q) (hn : ((row.length : Int) != (n : Int)) = false) :
  Calls Tryd.prog 36 #[.slice A row.length c,.pointer (some ⟨g,0,none⟩)] w fun e w' => e = .returned (.bool (!q)) ∧ Drawn0 w w' := by
 have A2 := Aside0.mk hq
 have HR := Aside0.mk hr
 have HC := Aside0.mk hc
 clear hq hr hc
 go_enter Tryd.func36,Tryd.ntmps36
 go_wp2_with (first | ((with_reducible refine gate_callee (f := 34) rfl ?_);(try (refine gate_guard Z123 ?_;dsimp only));refine goesL_ (some 12) rfl rfl Tryd.func34 Z121 rfl #[.slice A row.length c] rfl (by (try simp only [List.map_toArray,List.map_cons,List.map_nil]);first | done | rfl) ?_;(with_reducible refine (impl_areDecimals.calls k A c row q _ HR.out HC.out A2.out).mono ?_);rintro e w' ⟨rfl,⟨nd,rfl⟩⟩;refine ⟨_,rfl,?_⟩))
 go_ret
 exact ⟨Z106,Z104⟩
/-- A row's value,and what it leads to in the world w. -/
def impl_TableOk_1.El (w : World) : Type := { x : Option Addr × Nat × List Int // x.2.2.length ≤ x.2.1 ∧ Kd.C (Kd.int .i64) w x.1 x.2.2.length x.2.2 }
instance (w : World) : Inhabited (impl_TableOk_1.El w) := ⟨⟨(none,0,[]),Nat.le_refl _,rfl,Z146,fun h => absurd h Z146⟩⟩
def impl_TableOk_1.enc (w : World) (x : impl_TableOk_1.El w) : Value := .slice x.1.1 x.1.2.2.length x.1.2.1
theorem impl_TableOk_1.calls (A0 : Option Addr) (c0 : Nat) (l0 : List (List Int)) (g : Nat) (A1 : Option Addr) (c1 : Nat) (l1 : List ByteArray) (r : Bool) (w : World) (hr0 : Kd.C (Kd.slice 3 (Kd.int .i64)) w A0 l0.length l0) (hc0 : l0.length ≤ c0) (hx : w.cell? ⟨g,0,none⟩ = some (.slice A1 l1.length c1)) (h : impl_TableOk_1.f l0 l1 = some r) :
  Calls Tryd.prog 35 #[.slice A0 l0.length c0,.func (.func 36) #[] #[.pointer (some ⟨g,0,none⟩)]] w fun e w' => e = .returned (.bool r) ∧ Below w.heap.size w w' := by
 unfold impl_TableOk_1.f at h
 obtain rfl := Option.some.inj h
 obtain ⟨_,hn,hc'⟩ := hr0
 rcases Nat.eq_zero_or_pos l0.length with h0 | h0
 ·obtain rfl := List.length_eq_zero_iff.mp h0
  exact (Tryd.slices_ContainsFunc_empty_f35 (α := Int) A0 c0 _ w).mono fun e w' ⟨he,hw⟩ => ⟨he,hw ▸ Below.refl _ _⟩
 obtain ⟨⟨b,off,f⟩,rfl,hc⟩ := hc' h0
 clear hc'
 have hk : ∀ i : Fin l0.length,∃ x : impl_TableOk_1.El w,x.1.2.2 = l0[i] ∧ w.cell? (if i.1 = 0 then ⟨b,off,f⟩ else ⟨b,off + i.1,none⟩) = some (impl_TableOk_1.enc w x) := by
  intro i
  obtain ⟨c,_,hcr,hcell⟩ := hc i.1 _ (List.getElem?_eq_getElem i.2)
  obtain ⟨A,cc,rfl,hle,hC⟩ := hcr
  refine ⟨⟨(A,cc,l0[i]),hle,hC⟩,rfl,?_⟩
  have := hcell 0 _ rfl
  simpa [Kd.slice,Addr.add,impl_TableOk_1.enc] using this
 obtain rfl : f = none := by
  obtain ⟨x,_,this⟩ := hk ⟨0,h0⟩
  cases f with
  | none => rfl
  | some _ =>
   simp only [if_true,World.cell?,Option.isSome_some] at this
   split at this <;> simp at this
 have hk : ∀ i : Fin l0.length,∃ x : impl_TableOk_1.El w,x.1.2.2 = l0[i] ∧ w.cell? ⟨b,off + i.1,none⟩ = some (impl_TableOk_1.enc w x) := by
  intro i
  obtain ⟨x,e,this⟩ := hk i
  refine ⟨x,e,?_⟩
  by_cases e0 : i.1 = 0
  rotate_left
  ·rwa [if_neg e0] at this
  rw [if_pos e0] at this;rw [e0];exact this
 let zs : List (impl_TableOk_1.El w) := List.ofFn fun i => (hk i).choose
 have hzl : zs.length = l0.length := List.length_ofFn
 have hzg : ∀ j (hj : j < l0.length),zs[j]! = (hk ⟨j,hj⟩).choose := by
  intro j hj
  rw [getElem!_pos zs j Z122]
  exact List.getElem_ofFn _
 have hmap : zs.map (fun x => x.1.2.2) = l0 := by
  apply List.ext_getElem (by simpa using hzl)
  intro j h1 h2
  rw [List.getElem_map,List.getElem_ofFn]
  exact (hk ⟨j,h2⟩).choose_spec.1
 have hp : PredAt Tryd.prog 36 #[.pointer (some ⟨g,0,none⟩)] (impl_TableOk_1.enc w) (fun x => impl_TableOk_1.bad l1.length x.1.2.2) w := by
  intro W x hb
  have hx' := (hb.cell (World.block_lt_of_cell? _ _ hx)).trans hx
  obtain ⟨⟨A,c,row⟩,hle,hC⟩ := x
  have hC' := Kd.C_below hC hb
  have hlen : row.length ≤ 9223372036854775807 := hC.2.1
  by_cases e : (row.length : Int) = (l1.length : Int)
  rotate_left
  ·refine (impl_TableOk_1.at1 g A1 c1 l1.length A c row W hx' (bne_iff_ne.mpr e)).mono fun e_ w' ⟨he,hd⟩ => ⟨?_,hd.out⟩
   rw [he]
   congr 2
   exact (impl_TableOk_1.bad_ne e).symm
  refine (impl_TableOk_1.at2 (row.length + 1) g A1 c1 l1.length A c row W hx' hC' hle _ (impl_TableOk_1.all_ row hlen) (bne_eq_false_iff_eq.mpr e)).mono fun e_ w' ⟨he,hd⟩ => ⟨?_,hd.out⟩
  rw [he]
  congr 2
  exact (impl_TableOk_1.bad_eq e).symm
 refine (Tryd.slices_ContainsFunc_f35 (impl_TableOk_1.enc w) _ 36 _ (fun args w => enters_ Tryd.func36 Z121 rfl args w) b off l0.length c0 zs w hp Z122 hn (fun j hj => by rw [hzg j Z122];exact (hk ⟨j,Z122⟩).choose_spec.2)).mono fun e w' ⟨he,q,hw⟩ => ?_
 rw [show zs.take l0.length = zs from List.take_of_length_le Z122,show zs.any (fun x => impl_TableOk_1.bad l1.length x.1.2.2) = (zs.map (fun x => x.1.2.2)).any (impl_TableOk_1.bad l1.length) from by rw [List.any_map];rfl,hmap] at he
 refine ⟨he,?_⟩
 rw [hw]
 exact pw_below_drewN (Below.refl _ _) q

end Go.Proofs.YtepnbcdbagjmbabDoor.QFnExactTableText
