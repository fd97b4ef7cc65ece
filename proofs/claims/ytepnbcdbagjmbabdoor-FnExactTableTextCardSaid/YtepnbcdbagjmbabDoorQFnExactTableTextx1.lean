/- The machine side of FnExactTableText: what each Go function that it reaches comes to. Conditions: none. -/
import Derived.Test.YtepnbcdbagjmbabDoorQFnExactTableTextx0
namespace Go.Proofs.YtepnbcdbagjmbabDoor.QFnExactTableText
open Go.RowKit Go.Proofs.YtepnbcdbagjmbabDoorW.PrintWords Go.Proofs.YtepnbcdbagjmbabDoorW.PrintLast Go.Proofs.YtepnbcdbagjmbabDoorW.PrintMore
attribute [local go_sem] max2_int min2_int max_two min_two max_three min_three max_four min_four   -- for this text's walks alone
set_option linter.unusedVariables false
set_option linter.unusedSimpArgs false

/-! ### impl_within: function 32 -/
def impl_within.f (a0 : Int) (a1 : Int) (a2 : Int) : Option (Bool) := if a0 ≥ a1 then (some (decide (a0 ≤ a2))) else (some false)
set_option maxHeartbeats 8000000 in
set_option maxRecDepth 100000 in
theorem impl_within.calls (a0 : Int) (a1 : Int) (a2 : Int) (r : Bool) (w : World) (h : impl_within.f a0 a1 a2 = some r) :
  Calls Tryd.prog 32 #[.int .i64 a0,.int .i64 a1,.int .i64 a2] w fun e w' => e = .returned (.bool r) ∧ Drawn0 w w' := by
 have H := h
 clear h
 unfold impl_within.f at H
 by_cases c4 : a0 ≥ a1
 ·rw [if_pos c4] at H
  have c4b0 : decide (a1 ≤ a0) = true := decide_eq_true c4
  clear c4
  obtain rfl := Option.some.inj H
  go_enter Tryd.func32,Tryd.ntmps32
  go_wp2
  go_ret
  exact ⟨Z106,Z104⟩
 rw [if_neg c4] at H
 have c4b0 : decide (a1 ≤ a0) = false := decide_eq_false c4
 clear c4
 obtain rfl := Option.some.inj H
 go_enter Tryd.func32,Tryd.ntmps32
 go_wp2
 go_ret
 exact ⟨Z106,Z104⟩

/-! ### impl_isDecimal: function 37 -/
def impl_isDecimal.f (a0 : Int) : Option (Bool) := (impl_within.f a0 (-2147483647) 2147483647).bind fun t101 => (some t101)
set_option maxHeartbeats 8000000 in
set_option maxRecDepth 100000 in
theorem impl_isDecimal.calls (a0 : Int) (r : Bool) (w : World) (h : impl_isDecimal.f a0 = some r) :
  Calls Tryd.prog 37 #[.int .i64 a0] w fun e w' => e = .returned (.bool r) ∧ Drawn0 w w' := by
 have H := h
 clear h
 unfold impl_isDecimal.f at H
 obtain ⟨t101,A20,H⟩ := Option.bind_eq_some_iff.mp H
 have A2 := Aside0.mk A20
 clear A20
 obtain rfl := Option.some.inj H
 go_enter Tryd.func37,Tryd.ntmps37
 go_wp2_with (first | ((with_reducible refine gate_callee (f := 32) rfl ?_);refine goesL_ (some 4) rfl rfl Tryd.func32 Z121 rfl #[.int .i64 a0,.int .i64 (-2147483647),.int .i64 2147483647] rfl Z66 ?_;(with_reducible refine (impl_within.calls a0 (-2147483647) 2147483647 t101 _ A2.out).mono ?_);rintro e w' ⟨rfl,⟨nd,rfl⟩⟩;refine ⟨_,rfl,?_⟩))
 go_ret
 exact ⟨Z106,Z104⟩

/-! ### impl_areDecimals_1: function 44 -/
def impl_areDecimals_1.f (a0 : Int) : Option (Bool) := (impl_isDecimal.f a0).bind fun t102 => (some (!t102))
set_option maxHeartbeats 8000000 in
set_option maxRecDepth 100000 in
theorem impl_areDecimals_1.calls (a0 : Int) (r : Bool) (w : World) (h : impl_areDecimals_1.f a0 = some r) :
  Calls Tryd.prog 44 #[.int .i64 a0] w fun e w' => e = .returned (.bool r) ∧ Drawn0 w w' := by
 have H := h
 clear h
 unfold impl_areDecimals_1.f at H
 obtain ⟨t102,A20,H⟩ := Option.bind_eq_some_iff.mp H
 have A2 := Aside0.mk A20
 clear A20
 obtain rfl := Option.some.inj H
 go_enter Tryd.func44,Tryd.ntmps44
 go_wp2_with (first | ((with_reducible refine gate_callee (f := 37) rfl ?_);refine goesL_ (some 4) rfl rfl Tryd.func37 Z121 rfl #[.int .i64 a0] rfl Z66 ?_;(with_reducible refine (impl_isDecimal.calls a0 t102 _ A2.out).mono ?_);rintro e w' ⟨rfl,⟨nd,rfl⟩⟩;refine ⟨_,rfl,?_⟩))
 go_ret
 exact ⟨Z106,Z104⟩

/-! ### laws_szStringS: function 9 -/
def laws_szStringS.l0 : Nat → List ByteArray → Int → Int → Option (Int)
 | 0,_,_,_ => none
 | k + 1,x0,x1,x5 => if x5 < (x0.length : Int) then (if 0 ≤ x5 then (if (wrap64 (x1 - ((rdOf ByteArray.empty x0 x5).size : Int))) < 0 then (some (-1)) else (laws_szStringS.l0 k x0 (wrap64 (x1 - ((rdOf ByteArray.empty x0 x5).size : Int))) (wrap64 (x5 + 1)))) else (none)) else (some x1)
def laws_szStringS.f (k : Nat) (l0 : List ByteArray) (a1 : Int) : Option (Int) := if (wrap64 (a1 - (l0.length : Int))) < 0 then (some (-1)) else (laws_szStringS.l0 k l0 (wrap64 (a1 - (l0.length : Int))) 0)
theorem laws_szStringS.mono_l : ∀ k,(∀ y0 y1 y2,LeO (laws_szStringS.l0 k y0 y1 y2) (laws_szStringS.l0 (k + 1) y0 y1 y2))
 | 0 => fun _ _ _ r h => by simp [laws_szStringS.l0] at h
 | k + 1 => by
  have ih0 := laws_szStringS.mono_l k
  ·intro y0 y1 y2
   unfold laws_szStringS.l0
   repeat' first
   | (with_reducible exact ih0 _ _ _)
   | (with_reducible exact LeO.refl _)
   | (with_reducible exact LeO.none _)
   | (with_reducible refine LeO.ite ?_ ?_)
   | (with_reducible refine LeO.bind ?_ (fun _ => ?_))
   | exact ih0 _ _ _
   | exact LeO.none _
   | refine LeO.ite ?_ ?_
   | refine LeO.bind ?_ (fun _ => ?_)
theorem laws_szStringS.mono : ∀ a0 a1 k,LeO (laws_szStringS.f k a0 a1) (laws_szStringS.f (k + 1) a0 a1) := by
 intro a0 a1 k
 have ih0 := laws_szStringS.mono_l k
 unfold laws_szStringS.f
 repeat' first
   | (with_reducible exact ih0 _ _ _)
   | (with_reducible exact LeO.refl _)
   | (with_reducible exact LeO.none _)
   | (with_reducible refine LeO.ite ?_ ?_)
   | (with_reducible refine LeO.bind ?_ (fun _ => ?_))
   | exact ih0 _ _ _
   | exact LeO.none _
   | refine LeO.ite ?_ ?_
   | refine LeO.bind ?_ (fun _ => ?_)
set_option maxHeartbeats 8000000 in
set_option maxRecDepth 100000 in
theorem laws_szStringS.calls (k : Nat) (A0 : Option Addr) (c0 : Nat) (l0 : List ByteArray) (a1 : Int) (r : Int) (w : World) (hr0 : Kd.C Kd.string w A0 l0.length l0) (hc0 : l0.length ≤ c0) (h : laws_szStringS.f k l0 a1 = some r) :
  Calls Tryd.prog 9 #[.slice A0 l0.length c0,.int .i64 a1] w fun e w' => e = .returned (.int .i64 r) ∧ Drawn0 w w' := by
 have HR0 := Aside0.mk hr0
 have HC0 := Aside0.mk hc0
 clear hr0 hc0
 have H := h
 clear h
 unfold laws_szStringS.f at H
 by_cases c3 : (wrap64 (a1 - (l0.length : Int))) < 0
 ·rw [if_pos c3] at H
  have c3b0 : decide ((wrap64 (a1 - (l0.length : Int))) < 0) = true := decide_eq_true c3
  clear c3
  obtain rfl := Option.some.inj H
  go_enter Tryd.func9,Tryd.ntmps9
  go_wp2
  go_ret
  exact ⟨Z106,Z104⟩
 rw [if_neg c3] at H
 have c3b0 : decide ((wrap64 (a1 - (l0.length : Int))) < 0) = false := decide_eq_false c3
 clear c3
 have H' := Aside0.mk H
 clear H
 go_enter Tryd.func9,Tryd.ntmps9
 go_wp2
 go_loopg [1,5] k (fun kq v1 v5 w' => ∃ (x1_1 : Int) (x5_1 : Int),v1 = .int .i64 x1_1 ∧ v5 = .int .i64 x5_1 ∧ Aside0 (laws_szStringS.l0 kq l0 x1_1 x5_1 = some r) ∧ Aside0 (kq ≤ k) ∧ Drawn0 w w')
 case atStart => exact ⟨(wrap64 (a1 - (l0.length : Int))),(0),Z106,Z106,H',⟨Nat.le_refl _⟩,Z104⟩
 case round =>
  clear H'
  try clear p2
  try clear c3
  try clear c3b0
  obtain ⟨x1_1,x5_1,rfl,rfl,HA,HK1,⟨m1,rfl⟩⟩ := hrel
  cases gk with
  | zero => exact absurd HA.out (by simp [laws_szStringS.l0])
  | succ k1 =>
   have H := HA.out
   clear HA
   simp only [laws_szStringS.l0] at H
   by_cases c4 : x5_1 < (l0.length : Int)
   rotate_left
   ·rw [if_neg c4] at H
    have c4b0 : decide (x5_1 < (l0.length : Int)) = false := decide_eq_false c4
    clear c4
    obtain rfl := Option.some.inj H
    go_wp2
    go_ret
    exact ⟨Z106,Z104⟩
   rw [if_pos c4] at H
   have c4b0 : decide (x5_1 < (l0.length : Int)) = true := decide_eq_true c4
   clear c4
   obtain ⟨c5,H⟩ := ifp H
   have c5b0 : decide (0 ≤ x5_1) = true := decide_eq_true c5
   clear c5
   by_cases c6 : (wrap64 (x1_1 - ((rdOf ByteArray.empty l0 x5_1).size : Int))) < 0
   ·rw [if_pos c6] at H
    have c6b0 : decide ((wrap64 (x1_1 - ((rdOf ByteArray.empty l0 x5_1).size : Int))) < 0) = true := decide_eq_true c6
    clear c6
    obtain rfl := Option.some.inj H
    have p103 : 0 ≤ (x5_1 : Int) := of_decide_eq_true Z105
    have q103 : x5_1 < (l0.length : Int) := of_decide_eq_true Z105
    obtain ⟨ad103,e103,hx103_0⟩ := Kd.at_string HR0.out x5_1 p103 q103
    cases e103
    replace p103 := eq_true p103
    replace q103 := eq_true q103
    go_wp2
    go_ret
    exact ⟨Z106,Z104⟩
   rw [if_neg c6] at H
   have c6b0 : decide ((wrap64 (x1_1 - ((rdOf ByteArray.empty l0 x5_1).size : Int))) < 0) = false := decide_eq_false c6
   clear c6
   have H' := Aside0.mk H
   clear H
   have p103 : 0 ≤ (x5_1 : Int) := of_decide_eq_true Z105
   have q103 : x5_1 < (l0.length : Int) := of_decide_eq_true Z105
   obtain ⟨ad103,e103,hx103_0⟩ := Kd.at_string HR0.out x5_1 p103 q103
   cases e103
   replace p103 := eq_true p103
   replace q103 := eq_true q103
   go_wp2
   go_roundg k1
   case measure => have := HK1.out;omega
   case rel => exact ⟨(wrap64 (x1_1 - ((rdOf ByteArray.empty l0 x5_1).size : Int))),(wrap64 (x5_1 + 1)),Z106,Z106,H',⟨Z116⟩,Z104⟩

/-! ### laws_szIntS: function 11 -/
def laws_szIntS.f (l0 : List Int) (a1 : Int) : Option (Int) := if (wrap64 (a1 - (l0.length : Int))) < 0 then (some (-1)) else (some (wrap64 (a1 - (l0.length : Int))))
set_option maxHeartbeats 8000000 in
set_option maxRecDepth 100000 in
theorem laws_szIntS.calls (A0 : Option Addr) (c0 : Nat) (l0 : List Int) (a1 : Int) (r : Int) (w : World) (hr0 : Kd.C (Kd.int .i64) w A0 l0.length l0) (hc0 : l0.length ≤ c0) (h : laws_szIntS.f l0 a1 = some r) :
  Calls Tryd.prog 11 #[.slice A0 l0.length c0,.int .i64 a1] w fun e w' => e = .returned (.int .i64 r) ∧ Drawn0 w w' := by
 have HR0 := Aside0.mk hr0
 have HC0 := Aside0.mk hc0
 clear hr0 hc0
 have H := h
 clear h
 unfold laws_szIntS.f at H
 by_cases c3 : (wrap64 (a1 - (l0.length : Int))) < 0
 ·rw [if_pos c3] at H
  have c3b0 : decide ((wrap64 (a1 - (l0.length : Int))) < 0) = true := decide_eq_true c3
  clear c3
  obtain rfl := Option.some.inj H
  go_enter Tryd.func11,Tryd.ntmps11
  go_wp2
  go_ret
  exact ⟨Z106,Z104⟩
 rw [if_neg c3] at H
 have c3b0 : decide ((wrap64 (a1 - (l0.length : Int))) < 0) = false := decide_eq_false c3
 clear c3
 obtain rfl := Option.some.inj H
 go_enter Tryd.func11,Tryd.ntmps11
 go_wp2
 go_ret
 exact ⟨Z106,Z104⟩

/-! ### laws_szIntSS: function 10 -/
def laws_szIntSS.l0 : Nat → List (List Int) → Int → Int → Option (Int)
 | 0,_,_,_ => none
 | k + 1,x0,x1,x5 => if x5 < (x0.length : Int) then (if 0 ≤ x5 then ((laws_szIntS.f (rd_L2 x0 x5) x1).bind fun t105 => (if t105 < 0 then (some (-1)) else (laws_szIntSS.l0 k x0 t105 (wrap64 (x5 + 1))))) else (none)) else (some x1)
def laws_szIntSS.f (k : Nat) (l0 : List (List Int)) (a1 : Int) : Option (Int) := if (wrap64 (a1 - (l0.length : Int))) < 0 then (some (-1)) else (laws_szIntSS.l0 k l0 (wrap64 (a1 - (l0.length : Int))) 0)
theorem laws_szIntSS.mono_l : ∀ k,(∀ y0 y1 y2,LeO (laws_szIntSS.l0 k y0 y1 y2) (laws_szIntSS.l0 (k + 1) y0 y1 y2))
 | 0 => fun _ _ _ r h => by simp [laws_szIntSS.l0] at h
 | k + 1 => by
  have ih0 := laws_szIntSS.mono_l k
  ·intro y0 y1 y2
   unfold laws_szIntSS.l0
   repeat' first
   | (with_reducible exact ih0 _ _ _)
   | (with_reducible exact LeO.refl _)
   | (with_reducible exact LeO.none _)
   | (with_reducible refine LeO.ite ?_ ?_)
   | (with_reducible refine LeO.bind ?_ (fun _ => ?_))
   | exact ih0 _ _ _
   | exact LeO.none _
   | refine LeO.ite ?_ ?_
   | refine LeO.bind ?_ (fun _ => ?_)
theorem laws_szIntSS.mono : ∀ a0 a1 k,LeO (laws_szIntSS.f k a0 a1) (laws_szIntSS.f (k + 1) a0 a1) := by
 intro a0 a1 k
 have ih0 := laws_szIntSS.mono_l k
 unfold laws_szIntSS.f
 repeat' first
   | (with_reducible exact ih0 _ _ _)
   | (with_reducible exact LeO.refl _)
   | (with_reducible exact LeO.none _)
   | (with_reducible refine LeO.ite ?_ ?_)
   | (with_reducible refine LeO.bind ?_ (fun _ => ?_))
   | exact ih0 _ _ _
   | exact LeO.none _
   | refine LeO.ite ?_ ?_
   | refine LeO.bind ?_ (fun _ => ?_)
set_option maxHeartbeats 8000000 in
set_option maxRecDepth 100000 in
theorem laws_szIntSS.calls (k : Nat) (A0 : Option Addr) (c0 : Nat) (l0 : List (List Int)) (a1 : Int) (r : Int) (w : World) (hr0 : Kd.C (Kd.slice 3 (Kd.int .i64)) w A0 l0.length l0) (hc0 : l0.length ≤ c0) (h : laws_szIntSS.f k l0 a1 = some r) :
  Calls Tryd.prog 10 #[.slice A0 l0.length c0,.int .i64 a1] w fun e w' => e = .returned (.int .i64 r) ∧ Drawn0 w w' := by
 have HR0 := Aside0.mk hr0
 have HC0 := Aside0.mk hc0
 clear hr0 hc0
 have H := h
 clear h
 unfold laws_szIntSS.f at H
 by_cases c3 : (wrap64 (a1 - (l0.length : Int))) < 0
 ·rw [if_pos c3] at H
  have c3b0 : decide ((wrap64 (a1 - (l0.length : Int))) < 0) = true := decide_eq_true c3
  clear c3
  obtain rfl := Option.some.inj H
  go_enter Tryd.func10,Tryd.ntmps10
  go_wp2
  go_ret
  exact ⟨Z106,Z104⟩
 rw [if_neg c3] at H
 have c3b0 : decide ((wrap64 (a1 - (l0.length : Int))) < 0) = false := decide_eq_false c3
 clear c3
 have H' := Aside0.mk H
 clear H
 go_enter Tryd.func10,Tryd.ntmps10
 go_wp2
 go_loopg [1,5] k (fun kq v1 v5 w' => ∃ (x1_1 : Int) (x5_1 : Int),v1 = .int .i64 x1_1 ∧ v5 = .int .i64 x5_1 ∧ Aside0 (laws_szIntSS.l0 kq l0 x1_1 x5_1 = some r) ∧ Aside0 (kq ≤ k) ∧ Drawn0 w w')
 case atStart => exact ⟨(wrap64 (a1 - (l0.length : Int))),(0),Z106,Z106,H',⟨Nat.le_refl _⟩,Z104⟩
 case round =>
  clear H'
  try clear c1
  try clear p2
  try clear c3
  try clear c3b0
  obtain ⟨x1_1,x5_1,rfl,rfl,HA,HK1,⟨m1,rfl⟩⟩ := hrel
  cases gk with
  | zero => exact absurd HA.out (by simp [laws_szIntSS.l0])
  | succ k1 =>
   have H := HA.out
   clear HA
   simp only [laws_szIntSS.l0] at H
   by_cases c4 : x5_1 < (l0.length : Int)
   rotate_left
   ·rw [if_neg c4] at H
    have c4b0 : decide (x5_1 < (l0.length : Int)) = false := decide_eq_false c4
    clear c4
    obtain rfl := Option.some.inj H
    go_wp2
    go_ret
    exact ⟨Z106,Z104⟩
   rw [if_pos c4] at H
   have c4b0 : decide (x5_1 < (l0.length : Int)) = true := decide_eq_true c4
   clear c4
   obtain ⟨c5,H⟩ := ifp H
   have c5b0 : decide (0 ≤ x5_1) = true := decide_eq_true c5
   clear c5
   obtain ⟨t105,A60,H⟩ := Option.bind_eq_some_iff.mp H
   have A6 := Aside0.mk A60
   clear A60
   by_cases c7 : t105 < 0
   ·rw [if_pos c7] at H
    have c7b0 : decide (t105 < 0) = true := decide_eq_true c7
    clear c7
    obtain rfl := Option.some.inj H
    have p104 : 0 ≤ (x5_1 : Int) := of_decide_eq_true Z105
    have q104 : x5_1 < (l0.length : Int) := of_decide_eq_true Z105
    obtain ⟨ad104,A104_0,c104_0,e104,hx104_0,hl104_0,hi104_0⟩ := at_L2 HR0.out x5_1 p104 q104
    cases e104
    have HR104_0 := Aside0.mk hi104_0
    have HC104_0 := Aside0.mk hl104_0
    clear hi104_0 hl104_0
    replace p104 := eq_true p104
    replace q104 := eq_true q104
    go_wp2_with (first | ((with_reducible refine gate_callee (f := 11) rfl ?_);refine goesL_ (some 23) rfl rfl Tryd.func11 Z121 rfl #[.slice A104_0 (rd_L2 l0 x5_1).length c104_0,.int .i64 x1_1] rfl Z66 ?_;(with_reducible refine (laws_szIntS.calls _ _ (rd_L2 l0 x5_1) x1_1 t105 _ ?side1 ?side2 A6.out).mono ?_);(case side1 => exact Z56);(case side2 => exact HC104_0.out);rintro e w' ⟨rfl,⟨nd,rfl⟩⟩;refine ⟨_,rfl,?_⟩))
    go_ret
    exact ⟨Z106,Z104⟩
   rw [if_neg c7] at H
   have c7b0 : decide (t105 < 0) = false := decide_eq_false c7
   clear c7
   have H' := Aside0.mk H
   clear H
   have p104 : 0 ≤ (x5_1 : Int) := of_decide_eq_true Z105
   have q104 : x5_1 < (l0.length : Int) := of_decide_eq_true Z105
   obtain ⟨ad104,A104_0,c104_0,e104,hx104_0,hl104_0,hi104_0⟩ := at_L2 HR0.out x5_1 p104 q104
   cases e104
   have HR104_0 := Aside0.mk hi104_0
   have HC104_0 := Aside0.mk hl104_0
   clear hi104_0 hl104_0
   replace p104 := eq_true p104
   replace q104 := eq_true q104
   go_wp2_with (first | ((with_reducible refine gate_callee (f := 11) rfl ?_);refine goesL_ (some 23) rfl rfl Tryd.func11 Z121 rfl #[.slice A104_0 (rd_L2 l0 x5_1).length c104_0,.int .i64 x1_1] rfl Z66 ?_;(with_reducible refine (laws_szIntS.calls _ _ (rd_L2 l0 x5_1) x1_1 t105 _ ?side1 ?side2 A6.out).mono ?_);(case side1 => exact Z56);(case side2 => exact HC104_0.out);rintro e w' ⟨rfl,⟨nd,rfl⟩⟩;refine ⟨_,rfl,?_⟩))
   go_roundg k1
   case measure => have := HK1.out;omega
   case rel => exact ⟨(t105),(wrap64 (x5_1 + 1)),Z106,Z106,H',⟨Z116⟩,Z104⟩

/-! ### laws_szTable: function 4 -/
def laws_szTable.f (k : Nat) (l0_0 : List ByteArray) (a0_1 : ByteArray) (l0_2 : List (List Int)) (l0_3 : List Int) (a1 : Int) : Option (Int) := (laws_szStringS.f k l0_0 a1).bind fun t107 => (if t107 < 0 then (some (-1)) else (if (wrap64 (t107 - (a0_1.size : Int))) < 0 then (some (-1)) else ((laws_szIntSS.f k l0_2 (wrap64 (t107 - (a0_1.size : Int)))).bind fun t108 => (if t108 < 0 then (some (-1)) else ((laws_szIntS.f l0_3 t108).bind fun t109 => (if t109 < 0 then (some (-1)) else (some t109)))))))
theorem laws_szTable.mono : ∀ a0 a1 a2 a3 a4 k,LeO (laws_szTable.f k a0 a1 a2 a3 a4) (laws_szTable.f (k + 1) a0 a1 a2 a3 a4) := by
 intro a0 a1 a2 a3 a4 k
 unfold laws_szTable.f
 repeat' first
   | (with_reducible exact laws_szIntSS.mono _ _ _)
   | (with_reducible exact laws_szStringS.mono _ _ _)
   | (with_reducible exact LeO.refl _)
   | (with_reducible exact LeO.none _)
   | (with_reducible refine LeO.ite ?_ ?_)
   | (with_reducible refine LeO.bind ?_ (fun _ => ?_))
   | exact laws_szIntSS.mono _ _ _
   | exact laws_szStringS.mono _ _ _
   | exact LeO.none _
   | refine LeO.ite ?_ ?_
   | refine LeO.bind ?_ (fun _ => ?_)
set_option maxHeartbeats 8000000 in
set_option maxRecDepth 100000 in
theorem laws_szTable.calls (k : Nat) (A0_0 : Option Addr) (c0_0 : Nat) (l0_0 : List ByteArray) (a0_1 : ByteArray) (A0_2 : Option Addr) (c0_2 : Nat) (l0_2 : List (List Int)) (A0_3 : Option Addr) (c0_3 : Nat) (l0_3 : List Int) (a1 : Int) (r : Int) (w : World) (hr0_0 : Kd.C Kd.string w A0_0 l0_0.length l0_0) (hc0_0 : l0_0.length ≤ c0_0) (hr0_2 : Kd.C (Kd.slice 3 (Kd.int .i64)) w A0_2 l0_2.length l0_2) (hc0_2 : l0_2.length ≤ c0_2) (hr0_3 : Kd.C (Kd.int .i64) w A0_3 l0_3.length l0_3) (hc0_3 : l0_3.length ≤ c0_3) (h : laws_szTable.f k l0_0 a0_1 l0_2 l0_3 a1 = some r) :
  Calls Tryd.prog 4 #[.agg #[.slice A0_0 l0_0.length c0_0,.string a0_1,.slice A0_2 l0_2.length c0_2,.slice A0_3 l0_3.length c0_3],.int .i64 a1] w fun e w' => e = .returned (.int .i64 r) ∧ Below w.heap.size w w' := by
 have hu26 := Tryd.underlying26
 have HR0_0 := Aside0.mk hr0_0
 have HC0_0 := Aside0.mk hc0_0
 clear hr0_0 hc0_0
 have HR0_2 := Aside0.mk hr0_2
 have HC0_2 := Aside0.mk hc0_2
 clear hr0_2 hc0_2
 have HR0_3 := Aside0.mk hr0_3
 have HC0_3 := Aside0.mk hc0_3
 clear hr0_3 hc0_3
 have HB := Aside0.mk (Below.refl w.heap.size w)
 have H := h
 clear h
 unfold laws_szTable.f at H
 obtain ⟨t107,A30,H⟩ := Option.bind_eq_some_iff.mp H
 have A3 := Aside0.mk A30
 clear A30
 by_cases c4 : t107 < 0
 ·rw [if_pos c4] at H
  have c4b0 : decide (t107 < 0) = true := decide_eq_true c4
  clear c4
  obtain rfl := Option.some.inj H
  go_enter Tryd.func4,Tryd.ntmps4
  go_wp2_with (first | ((with_reducible refine gate_dst (N := 2) rfl ?_);refine bE 2 #[.slice A0_0 l0_0.length c0_0,.string a0_1,.slice A0_2 l0_2.length c0_2,.slice A0_3 l0_3.length c0_3] 26 (h := ?_);intro gb106 hg wq1 hbox hb;have n_ := Z5;clear HB;obtain ⟨HB,BK106,GW106,GE106⟩ := n_;clear hb hbox hg;obtain ⟨hczq2_0,hczq2_1,hczq2_2,hczq2_3,hfzq2_0,hfzq2_1,hfzq2_2,hfzq2_3⟩ := cells4 BK106.out) | ((with_reducible refine gate_callee (f := 9) rfl ?_);refine goesL_ (some 8) rfl rfl Tryd.func9 Z121 rfl #[.slice A0_0 l0_0.length c0_0,.int .i64 a1] rfl Z66 ?_;(with_reducible refine (laws_szStringS.calls k _ _ l0_0 a1 t107 _ ?side1 ?side2 A3.out).mono ?_);(case side1 => exact Z41);(case side2 => exact Z118);rintro e w' ⟨rfl,⟨nd,rfl⟩⟩;refine ⟨_,rfl,?_⟩))
  go_ret
  exact ⟨Z98,Z133⟩
 rw [if_neg c4] at H
 have c4b0 : decide (t107 < 0) = false := decide_eq_false c4
 clear c4
 by_cases c7 : (wrap64 (t107 - (a0_1.size : Int))) < 0
 ·rw [if_pos c7] at H
  have c7b0 : decide ((wrap64 (t107 - (a0_1.size : Int))) < 0) = true := decide_eq_true c7
  clear c7
  obtain rfl := Option.some.inj H
  go_enter Tryd.func4,Tryd.ntmps4
  go_wp2_with (first | ((with_reducible refine gate_dst (N := 2) rfl ?_);refine bE 2 #[.slice A0_0 l0_0.length c0_0,.string a0_1,.slice A0_2 l0_2.length c0_2,.slice A0_3 l0_3.length c0_3] 26 (h := ?_);intro gb106 hg wq1 hbox hb;have n_ := Z5;clear HB;obtain ⟨HB,BK106,GW106,GE106⟩ := n_;clear hb hbox hg;obtain ⟨hczq2_0,hczq2_1,hczq2_2,hczq2_3,hfzq2_0,hfzq2_1,hfzq2_2,hfzq2_3⟩ := cells4 BK106.out) | ((with_reducible refine gate_callee (f := 9) rfl ?_);refine goesL_ (some 8) rfl rfl Tryd.func9 Z121 rfl #[.slice A0_0 l0_0.length c0_0,.int .i64 a1] rfl Z66 ?_;(with_reducible refine (laws_szStringS.calls k _ _ l0_0 a1 t107 _ ?side1 ?side2 A3.out).mono ?_);(case side1 => exact Z41);(case side2 => exact Z118);rintro e w' ⟨rfl,⟨nd,rfl⟩⟩;refine ⟨_,rfl,?_⟩))
  go_ret
  exact ⟨Z98,Z133⟩
 rw [if_neg c7] at H
 have c7b0 : decide ((wrap64 (t107 - (a0_1.size : Int))) < 0) = false := decide_eq_false c7
 clear c7
 obtain ⟨t108,A100,H⟩ := Option.bind_eq_some_iff.mp H
 have A10 := Aside0.mk A100
 clear A100
 by_cases c11 : t108 < 0
 ·rw [if_pos c11] at H
  have c11b0 : decide (t108 < 0) = true := decide_eq_true c11
  clear c11
  obtain rfl := Option.some.inj H
  go_enter Tryd.func4,Tryd.ntmps4
  go_wp2_with (first | ((with_reducible refine gate_dst (N := 2) rfl ?_);refine bE 2 #[.slice A0_0 l0_0.length c0_0,.string a0_1,.slice A0_2 l0_2.length c0_2,.slice A0_3 l0_3.length c0_3] 26 (h := ?_);intro gb106 hg wq1 hbox hb;have n_ := Z5;clear HB;obtain ⟨HB,BK106,GW106,GE106⟩ := n_;clear hb hbox hg;obtain ⟨hczq2_0,hczq2_1,hczq2_2,hczq2_3,hfzq2_0,hfzq2_1,hfzq2_2,hfzq2_3⟩ := cells4 BK106.out) | ((with_reducible refine gate_callee (f := 9) rfl ?_);refine goesL_ (some 8) rfl rfl Tryd.func9 Z121 rfl #[.slice A0_0 l0_0.length c0_0,.int .i64 a1] rfl Z66 ?_;(with_reducible refine (laws_szStringS.calls k _ _ l0_0 a1 t107 _ ?side1 ?side2 A3.out).mono ?_);(case side1 => exact Z41);(case side2 => exact Z118);rintro e w' ⟨rfl,⟨nd,rfl⟩⟩;refine ⟨_,rfl,?_⟩) | ((with_reducible refine gate_callee (f := 10) rfl ?_);refine goesL_ (some 21) rfl rfl Tryd.func10 Z121 rfl #[.slice A0_2 l0_2.length c0_2,.int .i64 (wrap64 (t107 - (a0_1.size : Int)))] rfl Z66 ?_;(with_reducible refine (laws_szIntSS.calls k _ _ l0_2 (wrap64 (t107 - (a0_1.size : Int))) t108 _ ?side1 ?side2 A10.out).mono ?_);(case side1 => exact Z25);(case side2 => exact Z119);rintro e w' ⟨rfl,⟨nd,rfl⟩⟩;refine ⟨_,rfl,?_⟩))
  go_ret
  exact ⟨Z98,Z133⟩
 rw [if_neg c11] at H
 have c11b0 : decide (t108 < 0) = false := decide_eq_false c11
 clear c11
 obtain ⟨t109,A140,H⟩ := Option.bind_eq_some_iff.mp H
 have A14 := Aside0.mk A140
 clear A140
 by_cases c15 : t109 < 0
 ·rw [if_pos c15] at H
  have c15b0 : decide (t109 < 0) = true := decide_eq_true c15
  clear c15
  obtain rfl := Option.some.inj H
  go_enter Tryd.func4,Tryd.ntmps4
  go_wp2_with (first | ((with_reducible refine gate_dst (N := 2) rfl ?_);refine bE 2 #[.slice A0_0 l0_0.length c0_0,.string a0_1,.slice A0_2 l0_2.length c0_2,.slice A0_3 l0_3.length c0_3] 26 (h := ?_);intro gb106 hg wq1 hbox hb;have n_ := Z5;clear HB;obtain ⟨HB,BK106,GW106,GE106⟩ := n_;clear hb hbox hg;obtain ⟨hczq2_0,hczq2_1,hczq2_2,hczq2_3,hfzq2_0,hfzq2_1,hfzq2_2,hfzq2_3⟩ := cells4 BK106.out) | ((with_reducible refine gate_callee (f := 9) rfl ?_);refine goesL_ (some 8) rfl rfl Tryd.func9 Z121 rfl #[.slice A0_0 l0_0.length c0_0,.int .i64 a1] rfl Z66 ?_;(with_reducible refine (laws_szStringS.calls k _ _ l0_0 a1 t107 _ ?side1 ?side2 A3.out).mono ?_);(case side1 => exact Z41);(case side2 => exact Z118);rintro e w' ⟨rfl,⟨nd,rfl⟩⟩;refine ⟨_,rfl,?_⟩) | ((with_reducible refine gate_callee (f := 10) rfl ?_);refine goesL_ (some 21) rfl rfl Tryd.func10 Z121 rfl #[.slice A0_2 l0_2.length c0_2,.int .i64 (wrap64 (t107 - (a0_1.size : Int)))] rfl Z66 ?_;(with_reducible refine (laws_szIntSS.calls k _ _ l0_2 (wrap64 (t107 - (a0_1.size : Int))) t108 _ ?side1 ?side2 A10.out).mono ?_);(case side1 => exact Z25);(case side2 => exact Z119);rintro e w' ⟨rfl,⟨nd,rfl⟩⟩;refine ⟨_,rfl,?_⟩) | ((with_reducible refine gate_callee (f := 11) rfl ?_);refine goesL_ (some 27) rfl rfl Tryd.func11 Z121 rfl #[.slice A0_3 l0_3.length c0_3,.int .i64 t108] rfl Z66 ?_;(with_reducible refine (laws_szIntS.calls _ _ l0_3 t108 t109 _ ?side1 ?side2 A14.out).mono ?_);(case side1 => exact Z27);(case side2 => exact Z120);rintro e w' ⟨rfl,⟨nd,rfl⟩⟩;refine ⟨_,rfl,?_⟩))
  go_ret
  exact ⟨Z98,Z133⟩
 rw [if_neg c15] at H
 have c15b0 : decide (t109 < 0) = false := decide_eq_false c15
 clear c15
 obtain rfl := Option.some.inj H
 go_enter Tryd.func4,Tryd.ntmps4
 go_wp2_with (first | ((with_reducible refine gate_dst (N := 2) rfl ?_);refine bE 2 #[.slice A0_0 l0_0.length c0_0,.string a0_1,.slice A0_2 l0_2.length c0_2,.slice A0_3 l0_3.length c0_3] 26 (h := ?_);intro gb106 hg wq1 hbox hb;have n_ := Z5;clear HB;obtain ⟨HB,BK106,GW106,GE106⟩ := n_;clear hb hbox hg;obtain ⟨hczq2_0,hczq2_1,hczq2_2,hczq2_3,hfzq2_0,hfzq2_1,hfzq2_2,hfzq2_3⟩ := cells4 BK106.out) | ((with_reducible refine gate_callee (f := 9) rfl ?_);refine goesL_ (some 8) rfl rfl Tryd.func9 Z121 rfl #[.slice A0_0 l0_0.length c0_0,.int .i64 a1] rfl Z66 ?_;(with_reducible refine (laws_szStringS.calls k _ _ l0_0 a1 t107 _ ?side1 ?side2 A3.out).mono ?_);(case side1 => exact Z41);(case side2 => exact Z118);rintro e w' ⟨rfl,⟨nd,rfl⟩⟩;refine ⟨_,rfl,?_⟩) | ((with_reducible refine gate_callee (f := 10) rfl ?_);refine goesL_ (some 21) rfl rfl Tryd.func10 Z121 rfl #[.slice A0_2 l0_2.length c0_2,.int .i64 (wrap64 (t107 - (a0_1.size : Int)))] rfl Z66 ?_;(with_reducible refine (laws_szIntSS.calls k _ _ l0_2 (wrap64 (t107 - (a0_1.size : Int))) t108 _ ?side1 ?side2 A10.out).mono ?_);(case side1 => exact Z25);(case side2 => exact Z119);rintro e w' ⟨rfl,⟨nd,rfl⟩⟩;refine ⟨_,rfl,?_⟩) | ((with_reducible refine gate_callee (f := 11) rfl ?_);refine goesL_ (some 27) rfl rfl Tryd.func11 Z121 rfl #[.slice A0_3 l0_3.length c0_3,.int .i64 t108] rfl Z66 ?_;(with_reducible refine (laws_szIntS.calls _ _ l0_3 t108 t109 _ ?side1 ?side2 A14.out).mono ?_);(case side1 => exact Z27);(case side2 => exact Z120);rintro e w' ⟨rfl,⟨nd,rfl⟩⟩;refine ⟨_,rfl,?_⟩))
 go_ret
 exact ⟨Z98,Z133⟩

/-! ### spec_l1In: function 26 -/
def spec_l1In.f (a0 : Int) (a1 : Int) (a2 : Int) : Option (Bool) := if a0 ≥ a1 then (some (decide (a0 ≤ a2))) else (some false)
set_option maxHeartbeats 8000000 in
set_option maxRecDepth 100000 in
theorem spec_l1In.calls (a0 : Int) (a1 : Int) (a2 : Int) (r : Bool) (w : World) (h : spec_l1In.f a0 a1 a2 = some r) :
  Calls Tryd.prog 26 #[.int .i64 a0,.int .i64 a1,.int .i64 a2] w fun e w' => e = .returned (.bool r) ∧ Drawn0 w w' := by
 have H := h
 clear h
 unfold spec_l1In.f at H
 by_cases c4 : a0 ≥ a1
 ·rw [if_pos c4] at H
  have c4b0 : decide (a1 ≤ a0) = true := decide_eq_true c4
  clear c4
  obtain rfl := Option.some.inj H
  go_enter Tryd.func26,Tryd.ntmps26
  go_wp2
  go_ret
  exact ⟨Z106,Z104⟩
 rw [if_neg c4] at H
 have c4b0 : decide (a1 ≤ a0) = false := decide_eq_false c4
 clear c4
 obtain rfl := Option.some.inj H
 go_enter Tryd.func26,Tryd.ntmps26
 go_wp2
 go_ret
 exact ⟨Z106,Z104⟩

/-! ### spec_NameOk: function 27 -/
mutual
def spec_NameOk.j0 : Nat → ByteArray → Bool → Option (Bool)
 | 0,_,_ => none
 | k + 1,x0,x12 => if x12 = true then (some false) else (spec_NameOk.l0 k x0 0)
def spec_NameOk.l0 : Nat → ByteArray → Int → Option (Bool)
 | 0,_,_ => none
 | k + 1,x0,x3 => if x3 < (x0.size : Int) then (if 0 ≤ x3 then ((spec_l1In.f (wrap64 (bt x0 x3)) 97 122).bind fun t111 => (if t111 = true then (spec_NameOk.l0 k x0 (wrap64 (x3 + 1))) else ((spec_l1In.f (wrap64 (bt x0 x3)) 48 57).bind fun t112 => (if t112 = true then (spec_NameOk.l0 k x0 (wrap64 (x3 + 1))) else (some false))))) else (none)) else (some true)
end
def spec_NameOk.f (k : Nat) (a0 : ByteArray) : Option (Bool) := (spec_l1In.f (a0.size : Int) 1 12).bind fun t110 => (if t110 = true then (if 0 < (a0.size : Int) then (spec_NameOk.j0 k a0 (decide ((bt a0 0) < 97))) else (none)) else (spec_NameOk.j0 k a0 true))
theorem spec_NameOk.mono_l : ∀ k,(∀ y0 y1,LeO (spec_NameOk.j0 k y0 y1) (spec_NameOk.j0 (k + 1) y0 y1)) ∧ (∀ y0 y1,LeO (spec_NameOk.l0 k y0 y1) (spec_NameOk.l0 (k + 1) y0 y1))
 | 0 => ⟨fun _ _ r h => by simp [spec_NameOk.j0] at h,fun _ _ r h => by simp [spec_NameOk.l0] at h⟩
 | k + 1 => by
  obtain ⟨ih0,ih1⟩ := spec_NameOk.mono_l k
  refine ⟨?_,?_⟩
  ·intro y0 y1
   unfold spec_NameOk.j0
   repeat' first
   | (with_reducible exact ih0 _ _)
   | (with_reducible exact ih1 _ _)
   | (with_reducible exact LeO.refl _)
   | (with_reducible exact LeO.none _)
   | (with_reducible refine LeO.ite ?_ ?_)
   | (with_reducible refine LeO.bind ?_ (fun _ => ?_))
   | exact ih0 _ _
   | exact ih1 _ _
   | exact LeO.none _
   | refine LeO.ite ?_ ?_
   | refine LeO.bind ?_ (fun _ => ?_)
  ·intro y0 y1
   unfold spec_NameOk.l0
   repeat' first
   | (with_reducible exact ih0 _ _)
   | (with_reducible exact ih1 _ _)
   | (with_reducible exact LeO.refl _)
   | (with_reducible exact LeO.none _)
   | (with_reducible refine LeO.ite ?_ ?_)
   | (with_reducible refine LeO.bind ?_ (fun _ => ?_))
   | exact ih0 _ _
   | exact ih1 _ _
   | exact LeO.none _
   | refine LeO.ite ?_ ?_
   | refine LeO.bind ?_ (fun _ => ?_)
theorem spec_NameOk.mono : ∀ a0 k,LeO (spec_NameOk.f k a0) (spec_NameOk.f (k + 1) a0) := by
 intro a0 k
 obtain ⟨ih0,ih1⟩ := spec_NameOk.mono_l k
 unfold spec_NameOk.f
 repeat' first
   | (with_reducible exact ih0 _ _)
   | (with_reducible exact ih1 _ _)
   | (with_reducible exact LeO.refl _)
   | (with_reducible exact LeO.none _)
   | (with_reducible refine LeO.ite ?_ ?_)
   | (with_reducible refine LeO.bind ?_ (fun _ => ?_))
   | exact ih0 _ _
   | exact ih1 _ _
   | exact LeO.none _
   | refine LeO.ite ?_ ?_
   | refine LeO.bind ?_ (fun _ => ?_)
set_option maxHeartbeats 8000000 in
set_option maxRecDepth 100000 in
theorem spec_NameOk.calls (k : Nat) (a0 : ByteArray) (r : Bool) (w : World) (h : spec_NameOk.f k a0 = some r) :
  Calls Tryd.prog 27 #[.string a0] w fun e w' => e = .returned (.bool r) ∧ Drawn0 w w' := by
 have H := h
 clear h
 unfold spec_NameOk.f at H
 have HC2 := Aside0.mk H
 clear H
 go_enter Tryd.func27,Tryd.ntmps27
 go_upto_region 1 with (fail)
 go_cut [12] (fun v12 wc => ∃ (kq : Nat) (x12_1 : Bool),v12 = .bool x12_1 ∧ Aside0 (spec_NameOk.j0 kq a0 x12_1 = some r) ∧ Aside0 (kq ≤ k) ∧ Drawn0 w wc)
 case first =>
  have H := HC2.out
  clear HC2
  obtain ⟨t110,A30,H⟩ := Option.bind_eq_some_iff.mp H
  have A3 := Aside0.mk A30
  clear A30
  by_cases c4 : t110 = true
  rotate_left
  ·replace c4 := Bool.eq_false_iff.mpr c4
   subst c4
   rw [if_neg Bool.false_ne_true] at H
   have H' := Aside0.mk H
   clear H
   go_wp2_with (first | ((with_reducible refine gate_callee (f := 26) rfl ?_);refine goesL_ (some 6) rfl rfl Tryd.func26 Z121 rfl #[.int .i64 (a0.size : Int),.int .i64 1,.int .i64 12] rfl Z66 ?_;(with_reducible refine (spec_l1In.calls (a0.size : Int) 1 12 false _ A3.out).mono ?_);rintro e w' ⟨rfl,⟨nd,rfl⟩⟩;refine ⟨_,rfl,?_⟩))
   go_meet
   case rel => exact ⟨_,(true),Z106,H',⟨Z110⟩,Z104⟩
  subst c4
  rw [if_pos rfl] at H
  obtain ⟨c5,H⟩ := ifp H
  have c5b0 : decide (0 < (a0.size : Int)) = true := decide_eq_true c5
  have c5b1 : decide (0 < a0.size) = true := decide_eq_true Z122
  clear c5
  (first | rw [c5b0] | (simp only [i64_w,i32_w];rw [c5b0]) | skip)
  have H' := Aside0.mk H
  clear H
  go_wp2_with (first | ((with_reducible refine gate_callee (f := 26) rfl ?_);refine goesL_ (some 6) rfl rfl Tryd.func26 Z121 rfl #[.int .i64 (a0.size : Int),.int .i64 1,.int .i64 12] rfl Z66 ?_;(with_reducible refine (spec_l1In.calls (a0.size : Int) 1 12 true _ A3.out).mono ?_);rintro e w' ⟨rfl,⟨nd,rfl⟩⟩;refine ⟨_,rfl,?_⟩;have p6 : 0 ≤ (0 : Int) := Z122;have q6 : 0 < a0.size := (by have : (0 : Int) < (a0.size : Int) := of_decide_eq_true Z105;omega);have hx6 : ∀ h : 0 < a0.size,((a0[0]'h).toNat : Int) = bt a0 0 := bt_at a0 0;clear p6;have qi6 : (0 < (a0.size : Int)) = True := eq_true (of_decide_eq_true Z105);replace q6 := eq_true q6))
  go_meet
  case rel => exact ⟨_,(decide ((bt a0 0) < 97)),Z106,H',⟨Z110⟩,Z104⟩
 case rest =>
  clear HC2
  try clear c2
  try clear p2
  try clear c4
  try clear c5
  try clear c5b0
  try clear c5b1
  try clear p6
  try clear q6
  try clear hx6
  try clear qi6
  try clear p6
  try clear q6
  obtain ⟨kq,x12_1,rfl,HA,HJ1,⟨mc1,rfl⟩⟩ := hcut
  cases kq with
  | zero => exact absurd HA.out (by simp [spec_NameOk.j0])
  | succ kj1 =>
   have H := HA.out
   clear HA
   simp only [spec_NameOk.j0] at H
   by_cases c7 : x12_1 = true
   ·subst c7
    rw [if_pos rfl] at H
    obtain rfl := Option.some.inj H
    go_wp2
    go_ret
    exact ⟨Z106,Z104⟩
   replace c7 := Bool.eq_false_iff.mpr c7
   subst c7
   rw [if_neg Bool.false_ne_true] at H
   have H' := Aside0.mk H
   clear H
   go_wp2
   go_loopg [3] kj1 (fun kq v3 w' => ∃ (x3_2 : Int),v3 = .int .i64 x3_2 ∧ Aside0 (spec_NameOk.l0 kq a0 x3_2 = some r) ∧ Aside0 (kq ≤ kj1) ∧ Drawn0 w w')
   case atStart => exact ⟨(0),Z106,H',⟨Nat.le_refl _⟩,Z104⟩
   case round =>
    clear H'
    try clear c1
    try clear c2
    try clear p2
    try clear c4
    try clear c5
    try clear c5b0
    try clear c5b1
    try clear p6
    try clear q6
    try clear hx6
    try clear qi6
    try clear c7
    try clear p2
    try clear p6
    try clear q6
    obtain ⟨x3_2,rfl,HA,HK2,⟨m2,rfl⟩⟩ := hrel
    cases gk with
    | zero => exact absurd HA.out (by simp [spec_NameOk.l0])
    | succ k2 =>
     have H := HA.out
     clear HA
     simp only [spec_NameOk.l0] at H
     by_cases c8 : x3_2 < (a0.size : Int)
     rotate_left
     ·rw [if_neg c8] at H
      have c8b0 : decide (x3_2 < (a0.size : Int)) = false := decide_eq_false c8
      clear c8
      obtain rfl := Option.some.inj H
      go_wp2
      go_ret
      exact ⟨Z106,Z104⟩
     rw [if_pos c8] at H
     have c8b0 : decide (x3_2 < (a0.size : Int)) = true := decide_eq_true c8
     clear c8
     obtain ⟨c9,H⟩ := ifp H
     have c9b0 : decide (0 ≤ x3_2) = true := decide_eq_true c9
     clear c9
     obtain ⟨t111,A110,H⟩ := Option.bind_eq_some_iff.mp H
     have A11 := Aside0.mk A110
     clear A110
     by_cases c12 : t111 = true
     ·subst c12
      rw [if_pos rfl] at H
      have H' := Aside0.mk H
      clear H
      have p10 : 0 ≤ (x3_2 : Int) := of_decide_eq_true Z105
      have q10 : x3_2 < (a0.size : Int) := of_decide_eq_true Z105
      have hx10 := bt_at a0 x3_2
      replace p10 := eq_true p10
      replace q10 := eq_true q10
      go_wp2_with (first | ((with_reducible refine gate_callee (f := 26) rfl ?_);refine goesL_ (some 23) rfl rfl Tryd.func26 Z121 rfl #[.int .i64 (wrap64 (bt a0 x3_2)),.int .i64 97,.int .i64 122] rfl Z66 ?_;(with_reducible refine (spec_l1In.calls (wrap64 (bt a0 x3_2)) 97 122 true _ A11.out).mono ?_);rintro e w' ⟨rfl,⟨nd,rfl⟩⟩;refine ⟨_,rfl,?_⟩))
      go_roundg k2
      case measure => have := HJ1.out;have := HK2.out;omega
      case rel => exact ⟨(wrap64 (x3_2 + 1)),Z106,H',⟨Z109⟩,Z104⟩
     replace c12 := Bool.eq_false_iff.mpr c12
     subst c12
     rw [if_neg Bool.false_ne_true] at H
     obtain ⟨t112,A140,H⟩ := Option.bind_eq_some_iff.mp H
     have A14 := Aside0.mk A140
     clear A140
     by_cases c15 : t112 = true
     rotate_left
     ·replace c15 := Bool.eq_false_iff.mpr c15
      subst c15
      rw [if_neg Bool.false_ne_true] at H
      obtain rfl := Option.some.inj H
      have p10 : 0 ≤ (x3_2 : Int) := of_decide_eq_true Z105
      have q10 : x3_2 < (a0.size : Int) := of_decide_eq_true Z105
      have hx10 := bt_at a0 x3_2
      replace p10 := eq_true p10
      replace q10 := eq_true q10
      go_wp2_with (first | ((with_reducible refine gate_callee (f := 26) rfl ?_);refine goesL_ (some 23) rfl rfl Tryd.func26 Z121 rfl #[.int .i64 (wrap64 (bt a0 x3_2)),.int .i64 97,.int .i64 122] rfl Z66 ?_;(with_reducible refine (spec_l1In.calls (wrap64 (bt a0 x3_2)) 97 122 false _ A11.out).mono ?_);rintro e w' ⟨rfl,⟨nd,rfl⟩⟩;refine ⟨_,rfl,?_⟩;have pq1 : 0 ≤ (x3_2 : Int) := of_decide_eq_true Z105;have qq1 : x3_2 < (a0.size : Int) := of_decide_eq_true Z105;have hxq1 := bt_at a0 x3_2;replace pq1 := eq_true pq1;replace qq1 := eq_true qq1) | (go_at_call 26;(with_reducible refine (spec_l1In.calls (wrap64 (bt a0 x3_2)) 48 57 false _ A14.out).mono ?_);rintro e w' ⟨rfl,⟨nd,rfl⟩⟩))
      go_ret
      exact ⟨Z106,Z104⟩
     subst c15
     rw [if_pos rfl] at H
     have H' := Aside0.mk H
     clear H
     have p10 : 0 ≤ (x3_2 : Int) := of_decide_eq_true Z105
     have q10 : x3_2 < (a0.size : Int) := of_decide_eq_true Z105
     have hx10 := bt_at a0 x3_2
     replace p10 := eq_true p10
     replace q10 := eq_true q10
     go_wp2_with (first | ((with_reducible refine gate_callee (f := 26) rfl ?_);refine goesL_ (some 23) rfl rfl Tryd.func26 Z121 rfl #[.int .i64 (wrap64 (bt a0 x3_2)),.int .i64 97,.int .i64 122] rfl Z66 ?_;(with_reducible refine (spec_l1In.calls (wrap64 (bt a0 x3_2)) 97 122 false _ A11.out).mono ?_);rintro e w' ⟨rfl,⟨nd,rfl⟩⟩;refine ⟨_,rfl,?_⟩;have p13 : 0 ≤ (x3_2 : Int) := of_decide_eq_true Z105;have q13 : x3_2 < (a0.size : Int) := of_decide_eq_true Z105;have hx13 := bt_at a0 x3_2;replace p13 := eq_true p13;replace q13 := eq_true q13) | (go_at_call 26;(with_reducible refine (spec_l1In.calls (wrap64 (bt a0 x3_2)) 48 57 true _ A14.out).mono ?_);rintro e w' ⟨rfl,⟨nd,rfl⟩⟩))
     go_roundg k2
     case measure => have := HJ1.out;have := HK2.out;omega
     case rel => exact ⟨(wrap64 (x3_2 + 1)),Z106,H',⟨Z109⟩,Z104⟩

/-! ### spec_l9Has: function 28 -/
def spec_l9Has.l0 : Nat → List ByteArray → ByteArray → Int → Option (Bool)
 | 0,_,_,_ => none
 | k + 1,x0,x1,x5 => if x5 < (x0.length : Int) then (if 0 ≤ x5 then (if (rdOf ByteArray.empty x0 x5).toList = x1.toList then (some true) else (spec_l9Has.l0 k x0 x1 (wrap64 (x5 + 1)))) else (none)) else (some false)
def spec_l9Has.f (k : Nat) (l0 : List ByteArray) (a1 : ByteArray) : Option (Bool) := spec_l9Has.l0 k l0 a1 0
theorem spec_l9Has.mono_l : ∀ k,(∀ y0 y1 y2,LeO (spec_l9Has.l0 k y0 y1 y2) (spec_l9Has.l0 (k + 1) y0 y1 y2))
 | 0 => fun _ _ _ r h => by simp [spec_l9Has.l0] at h
 | k + 1 => by
  have ih0 := spec_l9Has.mono_l k
  ·intro y0 y1 y2
   unfold spec_l9Has.l0
   repeat' first
   | (with_reducible exact ih0 _ _ _)
   | (with_reducible exact LeO.refl _)
   | (with_reducible exact LeO.none _)
   | (with_reducible refine LeO.ite ?_ ?_)
   | (with_reducible refine LeO.bind ?_ (fun _ => ?_))
   | exact ih0 _ _ _
   | exact LeO.none _
   | refine LeO.ite ?_ ?_
   | refine LeO.bind ?_ (fun _ => ?_)
theorem spec_l9Has.mono : ∀ a0 a1 k,LeO (spec_l9Has.f k a0 a1) (spec_l9Has.f (k + 1) a0 a1) := by
 intro a0 a1 k
 have ih0 := spec_l9Has.mono_l k
 unfold spec_l9Has.f
 repeat' first
   | (with_reducible exact ih0 _ _ _)
   | (with_reducible exact LeO.refl _)
   | (with_reducible exact LeO.none _)
   | (with_reducible refine LeO.ite ?_ ?_)
   | (with_reducible refine LeO.bind ?_ (fun _ => ?_))
   | exact ih0 _ _ _
   | exact LeO.none _
   | refine LeO.ite ?_ ?_
   | refine LeO.bind ?_ (fun _ => ?_)
set_option maxHeartbeats 8000000 in
set_option maxRecDepth 100000 in
theorem spec_l9Has.calls (k : Nat) (A0 : Option Addr) (c0 : Nat) (l0 : List ByteArray) (a1 : ByteArray) (r : Bool) (w : World) (hr0 : Kd.C Kd.string w A0 l0.length l0) (hc0 : l0.length ≤ c0) (h : spec_l9Has.f k l0 a1 = some r) :
  Calls Tryd.prog 28 #[.slice A0 l0.length c0,.string a1] w fun e w' => e = .returned (.bool r) ∧ Drawn0 w w' := by
 have HR0 := Aside0.mk hr0
 have HC0 := Aside0.mk hc0
 clear hr0 hc0
 have H := h
 clear h
 unfold spec_l9Has.f at H
 have H' := Aside0.mk H
 clear H
 go_enter Tryd.func28,Tryd.ntmps28
 go_wp2
 go_loopg [5] k (fun kq v5 w' => ∃ (x5_1 : Int),v5 = .int .i64 x5_1 ∧ Aside0 (spec_l9Has.l0 kq l0 a1 x5_1 = some r) ∧ Aside0 (kq ≤ k) ∧ Drawn0 w w')
 case atStart => exact ⟨(0),Z106,H',⟨Nat.le_refl _⟩,Z104⟩
 case round =>
  clear H'
  try clear c2
  try clear p2
  obtain ⟨x5_1,rfl,HA,HK1,⟨m1,rfl⟩⟩ := hrel
  cases gk with
  | zero => exact absurd HA.out (by simp [spec_l9Has.l0])
  | succ k1 =>
   have H := HA.out
   clear HA
   simp only [spec_l9Has.l0] at H
   by_cases c3 : x5_1 < (l0.length : Int)
   rotate_left
   ·rw [if_neg c3] at H
    have c3b0 : decide (x5_1 < (l0.length : Int)) = false := decide_eq_false c3
    clear c3
    obtain rfl := Option.some.inj H
    go_wp2
    go_ret
    exact ⟨Z106,Z104⟩
   rw [if_pos c3] at H
   have c3b0 : decide (x5_1 < (l0.length : Int)) = true := decide_eq_true c3
   clear c3
   obtain ⟨c4,H⟩ := ifp H
   have c4b0 : decide (0 ≤ x5_1) = true := decide_eq_true c4
   clear c4
   by_cases c5 : (rdOf ByteArray.empty l0 x5_1).toList = a1.toList
   ·rw [if_pos c5] at H
    have c5b0 : ((rdOf ByteArray.empty l0 x5_1).toList == a1.toList) = true := beq_iff_eq.mpr c5
    have c5b1 : ((rdOf ByteArray.empty l0 x5_1).toList != a1.toList) = false := bne_eq_false_iff_eq.mpr c5
    clear c5
    obtain rfl := Option.some.inj H
    have p113 : 0 ≤ (x5_1 : Int) := of_decide_eq_true Z105
    have q113 : x5_1 < (l0.length : Int) := of_decide_eq_true Z105
    obtain ⟨ad113,e113,hx113_0⟩ := Kd.at_string HR0.out x5_1 p113 q113
    cases e113
    replace p113 := eq_true p113
    replace q113 := eq_true q113
    go_wp2
    go_ret
    exact ⟨Z106,Z104⟩
   rw [if_neg c5] at H
   have c5b0 : ((rdOf ByteArray.empty l0 x5_1).toList == a1.toList) = false := beq_eq_false_iff_ne.mpr c5
   have c5b1 : ((rdOf ByteArray.empty l0 x5_1).toList != a1.toList) = true := bne_iff_ne.mpr c5
   have H' := Aside0.mk H
   clear H
   have p113 : 0 ≤ (x5_1 : Int) := of_decide_eq_true Z105
   have q113 : x5_1 < (l0.length : Int) := of_decide_eq_true Z105
   obtain ⟨ad113,e113,hx113_0⟩ := Kd.at_string HR0.out x5_1 p113 q113
   cases e113
   replace p113 := eq_true p113
   replace q113 := eq_true q113
   go_wp2
   go_roundg k1
   case measure => have := HK1.out;omega
   case rel => exact ⟨(wrap64 (x5_1 + 1)),Z106,H',⟨Z116⟩,Z104⟩

/-! ### spec_l6Value: function 29 -/
def spec_l6Value.f (a0 : Int) : Option (Bool) := (spec_l1In.f a0 (-2147483647) 2147483647).bind fun t114 => (some t114)
set_option maxHeartbeats 8000000 in
set_option maxRecDepth 100000 in
theorem spec_l6Value.calls (a0 : Int) (r : Bool) (w : World) (h : spec_l6Value.f a0 = some r) :
  Calls Tryd.prog 29 #[.int .i64 a0] w fun e w' => e = .returned (.bool r) ∧ Drawn0 w w' := by
 have H := h
 clear h
 unfold spec_l6Value.f at H
 obtain ⟨t114,A20,H⟩ := Option.bind_eq_some_iff.mp H
 have A2 := Aside0.mk A20
 clear A20
 obtain rfl := Option.some.inj H
 go_enter Tryd.func29,Tryd.ntmps29
 go_wp2_with (first | ((with_reducible refine gate_callee (f := 26) rfl ?_);refine goesL_ (some 4) rfl rfl Tryd.func26 Z121 rfl #[.int .i64 a0,.int .i64 (-2147483647),.int .i64 2147483647] rfl Z66 ?_;(with_reducible refine (spec_l1In.calls a0 (-2147483647) 2147483647 t114 _ A2.out).mono ?_);rintro e w' ⟨rfl,⟨nd,rfl⟩⟩;refine ⟨_,rfl,?_⟩))
 go_ret
 exact ⟨Z106,Z104⟩

end Go.Proofs.YtepnbcdbagjmbabDoor.QFnExactTableText
