/- The machine side of FnExactReadConfig: what each Go function that it reaches comes to. Conditions: none. -/
import Derived.Test.YtepnbcdbagjmbacDoorQFnExactReadConfigx0
import Derived.Test.YtepnbcdbagjmbacDoorQFnExactReadConfigx1
namespace Go.Proofs.YtepnbcdbagjmbacDoor.QFnExactReadConfig
open Go.RowKit Go.Proofs.YtepnbcdbagjmbacDoorW.PrintWords Go.Proofs.YtepnbcdbagjmbacDoorW.PrintLast Go.Proofs.YtepnbcdbagjmbacDoorW.PrintMore
attribute [local go_sem] max2_int min2_int max_two min_two max_three min_three max_four min_four   -- for this text's walks alone
set_option linter.unusedVariables false
set_option linter.unusedSimpArgs false

theorem tdiv_w (d : Int) (h0 : 0 ≤ d) (h1 : d < 256) : wrap64 (Int.tdiv ((-9223372036854775808) + d) 10) = Int.tdiv ((-9223372036854775808) + d) 10 := by
 have e : Int.tdiv ((-9223372036854775808) + d) 10 = -((9223372036854775808 - d) / 10) := by
  rw [show (-9223372036854775808) + d = -(9223372036854775808 - d) by omega, Int.neg_tdiv, Int.tdiv_eq_ediv_of_nonneg Z134]
 rw [e]
 unfold wrap64
 omega
/-! ### spec_IntText: function 36 -/
mutual
def spec_IntText.j0 : Nat → ByteArray → Bool → Option (Int × Bool)
 | 0,_,_ => none
 | k + 1,x0,x15 => if x15 = true then (some (0,false)) else (if 0 < (x0.size : Int) then (if (bt x0 0) = 45 then (spec_IntText.j1 k x0 1) else (spec_IntText.j1 k x0 0)) else (none))
def spec_IntText.j1 : Nat → ByteArray → Int → Option (Int × Bool)
 | 0,_,_ => none
 | k + 1,x0,x4 => spec_IntText.l0 k x0 x4 0 x4
def spec_IntText.l0 : Nat → ByteArray → Int → Int → Int → Option (Int × Bool)
 | 0,_,_,_,_ => none
 | k + 1,x0,x4,x5,x6 => if x6 < (x0.size : Int) then (if 0 ≤ x6 then (if (bt x0 x6) < 48 then (spec_IntText.j3 k x0 x4 x5 x6 true) else (spec_IntText.j3 k x0 x4 x5 x6 (decide ((bt x0 x6) > 57)))) else (none)) else (if x4 = 0 then (if x5 = (-9223372036854775808) then (some (0,false)) else ((spec_Digits.f k (wrap64 (-x5))).bind fun t143 => (if t143.toList = x0.toList then (some (wrap64 (-x5),true)) else (some (0,false))))) else ((spec_Digits.f k x5).bind fun t144 => (if t144.toList = x0.toList then (some (x5,true)) else (some (0,false)))))
def spec_IntText.j3 : Nat → ByteArray → Int → Int → Int → Bool → Option (Int × Bool)
 | 0,_,_,_,_,_ => none
 | k + 1,x0,x4,x5,x6,x35 => if x35 = true then (some (0,false)) else (if 0 ≤ x6 then (if x6 < (x0.size : Int) then (if x5 < (wrap64 (Int.tdiv ((-9223372036854775808) + (((bt x0 x6) - 48) % 256)) 10)) then (some (0,false)) else (spec_IntText.l0 k x0 x4 (wrap64 ((wrap64 (10 * x5)) - (((bt x0 x6) - 48) % 256))) (wrap64 (x6 + 1)))) else (none)) else (none))
end
def spec_IntText.f (k : Nat) (a0 : ByteArray) : Option (Int × Bool) := if (a0.size : Int) < 1 then (spec_IntText.j0 k a0 true) else (spec_IntText.j0 k a0 (decide ((a0.size : Int) > 20)))
theorem spec_IntText.mono_l : ∀ k,(∀ y0 y1,LeO (spec_IntText.j0 k y0 y1) (spec_IntText.j0 (k + 1) y0 y1)) ∧ (∀ y0 y1,LeO (spec_IntText.j1 k y0 y1) (spec_IntText.j1 (k + 1) y0 y1)) ∧ (∀ y0 y1 y2 y3,LeO (spec_IntText.l0 k y0 y1 y2 y3) (spec_IntText.l0 (k + 1) y0 y1 y2 y3)) ∧ (∀ y0 y1 y2 y3 y4,LeO (spec_IntText.j3 k y0 y1 y2 y3 y4) (spec_IntText.j3 (k + 1) y0 y1 y2 y3 y4))
 | 0 => ⟨fun _ _ r h => by simp [spec_IntText.j0] at h,fun _ _ r h => by simp [spec_IntText.j1] at h,fun _ _ _ _ r h => by simp [spec_IntText.l0] at h,fun _ _ _ _ _ r h => by simp [spec_IntText.j3] at h⟩
 | k + 1 => by
  obtain ⟨ih0,ih1,ih2,ih3⟩ := spec_IntText.mono_l k
  refine ⟨?_,?_,?_,?_⟩
  ·intro y0 y1
   unfold spec_IntText.j0
   repeat' first
   | (with_reducible exact ih0 _ _)
   | (with_reducible exact ih1 _ _)
   | (with_reducible exact ih2 _ _ _ _)
   | (with_reducible exact ih3 _ _ _ _ _)
   | (with_reducible exact spec_Digits.mono _ _)
   | (with_reducible exact LeO.refl _)
   | (with_reducible exact LeO.none _)
   | (with_reducible refine LeO.ite ?_ ?_)
   | (with_reducible refine LeO.bind ?_ (fun _ => ?_))
   | exact ih0 _ _
   | exact ih1 _ _
   | exact ih2 _ _ _ _
   | exact ih3 _ _ _ _ _
   | exact spec_Digits.mono _ _
   | exact LeO.none _
   | refine LeO.ite ?_ ?_
   | refine LeO.bind ?_ (fun _ => ?_)
  ·intro y0 y1
   unfold spec_IntText.j1
   repeat' first
   | (with_reducible exact ih0 _ _)
   | (with_reducible exact ih1 _ _)
   | (with_reducible exact ih2 _ _ _ _)
   | (with_reducible exact ih3 _ _ _ _ _)
   | (with_reducible exact spec_Digits.mono _ _)
   | (with_reducible exact LeO.refl _)
   | (with_reducible exact LeO.none _)
   | (with_reducible refine LeO.ite ?_ ?_)
   | (with_reducible refine LeO.bind ?_ (fun _ => ?_))
   | exact ih0 _ _
   | exact ih1 _ _
   | exact ih2 _ _ _ _
   | exact ih3 _ _ _ _ _
   | exact spec_Digits.mono _ _
   | exact LeO.none _
   | refine LeO.ite ?_ ?_
   | refine LeO.bind ?_ (fun _ => ?_)
  ·intro y0 y1 y2 y3
   unfold spec_IntText.l0
   repeat' first
   | (with_reducible exact ih0 _ _)
   | (with_reducible exact ih1 _ _)
   | (with_reducible exact ih2 _ _ _ _)
   | (with_reducible exact ih3 _ _ _ _ _)
   | (with_reducible exact spec_Digits.mono _ _)
   | (with_reducible exact LeO.refl _)
   | (with_reducible exact LeO.none _)
   | (with_reducible refine LeO.ite ?_ ?_)
   | (with_reducible refine LeO.bind ?_ (fun _ => ?_))
   | exact ih0 _ _
   | exact ih1 _ _
   | exact ih2 _ _ _ _
   | exact ih3 _ _ _ _ _
   | exact spec_Digits.mono _ _
   | exact LeO.none _
   | refine LeO.ite ?_ ?_
   | refine LeO.bind ?_ (fun _ => ?_)
  ·intro y0 y1 y2 y3 y4
   unfold spec_IntText.j3
   repeat' first
   | (with_reducible exact ih0 _ _)
   | (with_reducible exact ih1 _ _)
   | (with_reducible exact ih2 _ _ _ _)
   | (with_reducible exact ih3 _ _ _ _ _)
   | (with_reducible exact spec_Digits.mono _ _)
   | (with_reducible exact LeO.refl _)
   | (with_reducible exact LeO.none _)
   | (with_reducible refine LeO.ite ?_ ?_)
   | (with_reducible refine LeO.bind ?_ (fun _ => ?_))
   | exact ih0 _ _
   | exact ih1 _ _
   | exact ih2 _ _ _ _
   | exact ih3 _ _ _ _ _
   | exact spec_Digits.mono _ _
   | exact LeO.none _
   | refine LeO.ite ?_ ?_
   | refine LeO.bind ?_ (fun _ => ?_)
theorem spec_IntText.mono : ∀ a0 k,LeO (spec_IntText.f k a0) (spec_IntText.f (k + 1) a0) := by
 intro a0 k
 obtain ⟨ih0,ih1,ih2,ih3⟩ := spec_IntText.mono_l k
 unfold spec_IntText.f
 repeat' first
   | (with_reducible exact ih0 _ _)
   | (with_reducible exact ih1 _ _)
   | (with_reducible exact ih2 _ _ _ _)
   | (with_reducible exact ih3 _ _ _ _ _)
   | (with_reducible exact spec_Digits.mono _ _)
   | (with_reducible exact LeO.refl _)
   | (with_reducible exact LeO.none _)
   | (with_reducible refine LeO.ite ?_ ?_)
   | (with_reducible refine LeO.bind ?_ (fun _ => ?_))
   | exact ih0 _ _
   | exact ih1 _ _
   | exact ih2 _ _ _ _
   | exact ih3 _ _ _ _ _
   | exact spec_Digits.mono _ _
   | exact LeO.none _
   | refine LeO.ite ?_ ?_
   | refine LeO.bind ?_ (fun _ => ?_)
set_option maxHeartbeats 8000000 in
set_option maxRecDepth 100000 in
theorem spec_IntText.calls (k : Nat) (a0 : ByteArray) (r1 : Int) (r2 : Bool) (w : World) (h : spec_IntText.f k a0 = some (r1,r2)) :
  Calls Tryd.prog 36 #[.string a0] w fun e w' => e = .returned (.tuple #[.int .i64 r1,.bool r2]) ∧ Below w.heap.size w w' := by
 have HB := Aside0.mk (Below.refl w.heap.size w)
 have H := h
 clear h
 unfold spec_IntText.f at H
 have HC2 := Aside0.mk H
 clear H
 go_enter Tryd.func36,Tryd.ntmps36
 go_upto_region 1 with (fail)
 go_cut [15] (fun v15 wc => ∃ (kq : Nat) (x15_1 : Bool),v15 = .bool x15_1 ∧ Aside0 (spec_IntText.j0 kq a0 x15_1 = some (r1,r2)) ∧ Aside0 (kq ≤ k) ∧ Aside0 (Below w.heap.size w wc))
 case first =>
  have H := HC2.out
  clear HC2
  by_cases c3 : (a0.size : Int) < 1
  ·rw [if_pos c3] at H
   have c3b0 : decide ((a0.size : Int) < 1) = true := decide_eq_true c3
   have c3b1 : decide (a0.size < 1) = true := decide_eq_true Z134
   clear c3
   (first | rw [c3b0] | (simp only [i64_w,i32_w];rw [c3b0]) | skip)
   have H' := Aside0.mk H
   clear H
   go_wp2
   go_meet
   case rel => exact ⟨_,(true),Z118,H',⟨Z120⟩,⟨Z186⟩⟩
  rw [if_neg c3] at H
  have c3b0 : decide ((a0.size : Int) < 1) = false := decide_eq_false c3
  have c3b1 : decide (a0.size < 1) = false := decide_eq_false Z134
  clear c3
  (first | rw [c3b0] | (simp only [i64_w,i32_w];rw [c3b0]) | skip)
  have H' := Aside0.mk H
  clear H
  go_wp2
  go_meet
  case rel => exact ⟨_,(decide ((a0.size : Int) > 20)),Z118,H',⟨Z120⟩,⟨Z186⟩⟩
 case rest =>
  clear HC2
  try clear p2
  try clear c3
  try clear c3b0
  try clear c3b1
  obtain ⟨kq,x15_1,rfl,HA,HJ1,HB⟩ := hcut
  cases kq with
  | zero => exact absurd HA.out (by simp [spec_IntText.j0])
  | succ kj1 =>
   have H := HA.out
   clear HA
   simp only [spec_IntText.j0] at H
   by_cases c4 : x15_1 = true
   ·subst c4
    rw [if_pos rfl] at H
    simp only [Option.some.injEq,Prod.mk.injEq] at H
    obtain ⟨rfl,rfl⟩ := H
    go_wp2
    go_ret2
    exact ⟨Z107,Z186⟩
   replace c4 := Bool.eq_false_iff.mpr c4
   subst c4
   rw [if_neg Bool.false_ne_true] at H
   obtain ⟨c5,H⟩ := ifp H
   have c5b0 : decide (0 < (a0.size : Int)) = true := decide_eq_true c5
   have c5b1 : decide (0 < a0.size) = true := decide_eq_true Z134
   clear c5
   have HC7 := Aside0.mk H
   clear H
   have p6 : 0 ≤ (0 : Int) := Z134
   have q6 : 0 < a0.size := (by have : (0 : Int) < (a0.size : Int) := of_decide_eq_true Z117;omega)
   have hx6 : ∀ h : 0 < a0.size,((a0[0]'h).toNat : Int) = bt a0 0 := bt_at a0 0
   clear p6
   have qi6 : (0 < (a0.size : Int)) = True := eq_true (of_decide_eq_true Z117)
   replace q6 := eq_true q6
   go_upto_if 18 with (fail)
   go_cut [4] (fun v4 wc => ∃ (kq : Nat) (x4_6 : Int),v4 = .int .i64 x4_6 ∧ Aside0 (spec_IntText.j1 kq a0 x4_6 = some (r1,r2)) ∧ Aside0 (kq ≤ kj1) ∧ Aside0 (Below w.heap.size w wc))
   case first =>
    have H := HC7.out
    clear HC7
    by_cases c8 : (bt a0 0) = 45
    rotate_left
    ·rw [if_neg c8] at H
     have c8b0 : ((bt a0 0) == 45) = false := beq_eq_false_iff_ne.mpr c8
     have c8b1 : ((bt a0 0) != 45) = true := bne_iff_ne.mpr c8
     (first | rw [c8b0] | (simp only [i64_w,i32_w];rw [c8b0]) | skip)
     have H' := Aside0.mk H
     clear H
     go_wp2
     go_meet
     case rel => exact ⟨_,(0),Z118,H',⟨Z116⟩,⟨Z186⟩⟩
    rw [if_pos c8] at H
    have c8b0 : ((bt a0 0) == 45) = true := beq_iff_eq.mpr c8
    have c8b1 : ((bt a0 0) != 45) = false := bne_eq_false_iff_eq.mpr c8
    clear c8
    (first | rw [c8b0] | (simp only [i64_w,i32_w];rw [c8b0]) | skip)
    have H' := Aside0.mk H
    clear H
    go_wp2
    go_meet
    case rel => exact ⟨_,(1),Z118,H',⟨Z116⟩,⟨Z186⟩⟩
   case rest =>
    clear HC7
    try clear p2
    try clear c3
    try clear c3b0
    try clear c3b1
    try clear c4
    try clear c5
    try clear c5b0
    try clear c5b1
    try clear p6
    try clear q6
    try clear hx6
    try clear qi6
    try clear c8
    try clear c8b0
    try clear c8b1
    try clear p2
    try clear p6
    try clear q6
    obtain ⟨kq,x4_6,rfl,HA,HJ6,HB⟩ := hcut
    cases kq with
    | zero => exact absurd HA.out (by simp [spec_IntText.j1])
    | succ kj6 =>
     have H := HA.out
     clear HA
     simp only [spec_IntText.j1] at H
     have H' := Aside0.mk H
     clear H
     go_wp2
     go_loopg [5,6] kj6 (fun kq v5 v6 w' => ∃ (x5_3 : Int) (x6_3 : Int),v5 = .int .i64 x5_3 ∧ v6 = .int .i64 x6_3 ∧ Aside0 (spec_IntText.l0 kq a0 x4_6 x5_3 x6_3 = some (r1,r2)) ∧ Aside0 (kq ≤ kj6) ∧ Aside0 (Below w.heap.size w w'))
     case atStart => exact ⟨(0),(x4_6),Z118,Z118,H',⟨Nat.le_refl _⟩,⟨Z186⟩⟩
     case round =>
      clear H'
      try clear p2
      try clear c3
      try clear c3b0
      try clear c3b1
      try clear c4
      try clear c5
      try clear c5b0
      try clear c5b1
      try clear p6
      try clear q6
      try clear hx6
      try clear qi6
      try clear c8
      try clear c8b0
      try clear c8b1
      try clear p2
      try clear p6
      try clear q6
      obtain ⟨x5_3,x6_3,rfl,rfl,HA,HK3,HB⟩ := hrel
      cases gk with
      | zero => exact absurd HA.out (by simp [spec_IntText.l0])
      | succ k3 =>
       have H := HA.out
       clear HA
       simp only [spec_IntText.l0] at H
       by_cases c9 : x6_3 < (a0.size : Int)
       rotate_left
       ·rw [if_neg c9] at H
        have c9b0 : decide (x6_3 < (a0.size : Int)) = false := decide_eq_false c9
        clear c9
        by_cases c20 : x4_6 = 0
        rotate_left
        ·rw [if_neg c20] at H
         have c20b0 : (x4_6 == 0) = false := beq_eq_false_iff_ne.mpr c20
         have c20b1 : (x4_6 != 0) = true := bne_iff_ne.mpr c20
         obtain ⟨t144,A260,H⟩ := Option.bind_eq_some_iff.mp H
         have A26 := Aside0.mk A260
         clear A260
         by_cases c27 : t144.toList = a0.toList
         rotate_left
         ·rw [if_neg c27] at H
          have c27b0 : (t144.toList == a0.toList) = false := beq_eq_false_iff_ne.mpr c27
          have c27b1 : (t144.toList != a0.toList) = true := bne_iff_ne.mpr c27
          simp only [Option.some.injEq,Prod.mk.injEq] at H
          obtain ⟨rfl,rfl⟩ := H
          go_wp2_with (first | ((with_reducible refine gate_callee (f := 42) rfl ?_);refine goesL_ (some 57) rfl rfl Tryd.func42 Z133 rfl #[.int .i64 x5_3] rfl Z87 ?_;(with_reducible refine (spec_Digits.calls k3 x5_3 t144 _ A26.out).mono ?_);rintro e wq1 ⟨rfl,hb⟩;refine ⟨_,rfl,?_⟩;have n0_ := Aside0.mk (below_step Z186 hb);clear HB;have HB := n0_;clear n0_;(try clear hb);(try clear hb2);(try clear hk);(try clear hi)))
          go_ret2
          exact ⟨Z107,Z186⟩
         rw [if_pos c27] at H
         have c27b0 : (t144.toList == a0.toList) = true := beq_iff_eq.mpr c27
         have c27b1 : (t144.toList != a0.toList) = false := bne_eq_false_iff_eq.mpr c27
         clear c27
         simp only [Option.some.injEq,Prod.mk.injEq] at H
         obtain ⟨rfl,rfl⟩ := H
         go_wp2_with (first | ((with_reducible refine gate_callee (f := 42) rfl ?_);refine goesL_ (some 57) rfl rfl Tryd.func42 Z133 rfl #[.int .i64 x5_3] rfl Z87 ?_;(with_reducible refine (spec_Digits.calls k3 x5_3 t144 _ A26.out).mono ?_);rintro e wq1 ⟨rfl,hb⟩;refine ⟨_,rfl,?_⟩;have n0_ := Aside0.mk (below_step Z186 hb);clear HB;have HB := n0_;clear n0_;(try clear hb);(try clear hb2);(try clear hk);(try clear hi)))
         go_ret2
         exact ⟨Z107,Z186⟩
        rw [if_pos c20] at H
        have c20b0 : (x4_6 == 0) = true := beq_iff_eq.mpr c20
        have c20b1 : (x4_6 != 0) = false := bne_eq_false_iff_eq.mpr c20
        clear c20
        by_cases c21 : x5_3 = (-9223372036854775808)
        ·rw [if_pos c21] at H
         have c21b0 : (x5_3 == (-9223372036854775808)) = true := beq_iff_eq.mpr c21
         have c21b1 : (x5_3 != (-9223372036854775808)) = false := bne_eq_false_iff_eq.mpr c21
         clear c21
         simp only [Option.some.injEq,Prod.mk.injEq] at H
         obtain ⟨rfl,rfl⟩ := H
         go_wp2
         go_ret2
         exact ⟨Z107,Z186⟩
        rw [if_neg c21] at H
        have c21b0 : (x5_3 == (-9223372036854775808)) = false := beq_eq_false_iff_ne.mpr c21
        have c21b1 : (x5_3 != (-9223372036854775808)) = true := bne_iff_ne.mpr c21
        obtain ⟨t143,A220,H⟩ := Option.bind_eq_some_iff.mp H
        have A22 := Aside0.mk A220
        clear A220
        by_cases c23 : t143.toList = a0.toList
        rotate_left
        ·rw [if_neg c23] at H
         have c23b0 : (t143.toList == a0.toList) = false := beq_eq_false_iff_ne.mpr c23
         have c23b1 : (t143.toList != a0.toList) = true := bne_iff_ne.mpr c23
         simp only [Option.some.injEq,Prod.mk.injEq] at H
         obtain ⟨rfl,rfl⟩ := H
         go_wp2_with (first | ((with_reducible refine gate_callee (f := 42) rfl ?_);refine goesL_ (some 57) rfl rfl Tryd.func42 Z133 rfl #[.int .i64 (wrap64 (-x5_3))] rfl Z87 ?_;(with_reducible refine (spec_Digits.calls k3 (wrap64 (-x5_3)) t143 _ A22.out).mono ?_);rintro e wq1 ⟨rfl,hb⟩;refine ⟨_,rfl,?_⟩;have n0_ := Aside0.mk (below_step Z186 hb);clear HB;have HB := n0_;clear n0_;(try clear hb);(try clear hb2);(try clear hk);(try clear hi)))
         go_ret2
         exact ⟨Z107,Z186⟩
        rw [if_pos c23] at H
        have c23b0 : (t143.toList == a0.toList) = true := beq_iff_eq.mpr c23
        have c23b1 : (t143.toList != a0.toList) = false := bne_eq_false_iff_eq.mpr c23
        clear c23
        simp only [Option.some.injEq,Prod.mk.injEq] at H
        obtain ⟨rfl,rfl⟩ := H
        go_wp2_with (first | ((with_reducible refine gate_callee (f := 42) rfl ?_);refine goesL_ (some 57) rfl rfl Tryd.func42 Z133 rfl #[.int .i64 (wrap64 (-x5_3))] rfl Z87 ?_;(with_reducible refine (spec_Digits.calls k3 (wrap64 (-x5_3)) t143 _ A22.out).mono ?_);rintro e wq1 ⟨rfl,hb⟩;refine ⟨_,rfl,?_⟩;have n0_ := Aside0.mk (below_step Z186 hb);clear HB;have HB := n0_;clear n0_;(try clear hb);(try clear hb2);(try clear hk);(try clear hi)))
        go_ret2
        exact ⟨Z107,Z186⟩
       rw [if_pos c9] at H
       have c9b0 : decide (x6_3 < (a0.size : Int)) = true := decide_eq_true c9
       clear c9
       have HC10 := Aside0.mk H
       clear H
       go_upto_region 10 with (fail)
       go_cut [35] (fun v35 wc => ∃ (kq : Nat) (x35_9 : Bool),v35 = .bool x35_9 ∧ Aside0 (spec_IntText.j3 kq a0 x4_6 x5_3 x6_3 x35_9 = some (r1,r2)) ∧ Aside0 (kq ≤ k3) ∧ Aside0 (Below w.heap.size w wc))
       case first =>
        have H := HC10.out
        clear HC10
        obtain ⟨c11,H⟩ := ifp H
        have c11b0 : decide (0 ≤ x6_3) = true := decide_eq_true c11
        clear c11
        (first | rw [c11b0] | (simp only [i64_w,i32_w];rw [c11b0]) | skip)
        by_cases c13 : (bt a0 x6_3) < 48
        ·rw [if_pos c13] at H
         have c13b0 : decide ((bt a0 x6_3) < 48) = true := decide_eq_true c13
         clear c13
         have H' := Aside0.mk H
         clear H
         have p12 : 0 ≤ (x6_3 : Int) := of_decide_eq_true Z117
         have q12 : x6_3 < (a0.size : Int) := of_decide_eq_true Z117
         have hx12 := bt_at a0 x6_3
         replace p12 := eq_true p12
         replace q12 := eq_true q12
         go_wp2
         go_meet
         case rel => exact ⟨_,(true),Z118,H',⟨Z109⟩,⟨Z186⟩⟩
        rw [if_neg c13] at H
        have c13b0 : decide ((bt a0 x6_3) < 48) = false := decide_eq_false c13
        clear c13
        have H' := Aside0.mk H
        clear H
        have p12 : 0 ≤ (x6_3 : Int) := of_decide_eq_true Z117
        have q12 : x6_3 < (a0.size : Int) := of_decide_eq_true Z117
        have hx12 := bt_at a0 x6_3
        replace p12 := eq_true p12
        replace q12 := eq_true q12
        have p14 : 0 ≤ (x6_3 : Int) := of_decide_eq_true Z117
        have q14 : x6_3 < (a0.size : Int) := of_decide_eq_true Z117
        have hx14 := bt_at a0 x6_3
        replace p14 := eq_true p14
        replace q14 := eq_true q14
        go_wp2
        go_meet
        case rel => exact ⟨_,(decide ((bt a0 x6_3) > 57)),Z118,H',⟨Z109⟩,⟨Z186⟩⟩
       case rest =>
        clear HC10
        try clear c1
        try clear p1
        try clear q1
        try clear hx1
        try clear p2
        try clear c3
        try clear c3b0
        try clear c3b1
        try clear c4
        try clear c5
        try clear c5b0
        try clear c5b1
        try clear p6
        try clear q6
        try clear hx6
        try clear qi6
        try clear c8
        try clear c8b0
        try clear c8b1
        try clear c9
        try clear c9b0
        try clear c11
        try clear c11b0
        try clear p12
        try clear q12
        try clear hx12
        try clear c13
        try clear c13b0
        try clear p14
        try clear q14
        try clear hx14
        try clear p12
        try clear p14
        try clear p2
        try clear p6
        try clear q12
        try clear q14
        try clear q6
        obtain ⟨kq,x35_9,rfl,HA,HJ9,HB⟩ := hcut
        cases kq with
        | zero => exact absurd HA.out (by simp [spec_IntText.j3])
        | succ kj9 =>
         have H := HA.out
         clear HA
         simp only [spec_IntText.j3] at H
         by_cases c15 : x35_9 = true
         ·subst c15
          rw [if_pos rfl] at H
          simp only [Option.some.injEq,Prod.mk.injEq] at H
          obtain ⟨rfl,rfl⟩ := H
          go_wp2
          go_ret2
          exact ⟨Z107,Z186⟩
         replace c15 := Bool.eq_false_iff.mpr c15
         subst c15
         rw [if_neg Bool.false_ne_true] at H
         obtain ⟨c16,H⟩ := ifp H
         have c16b0 : decide (0 ≤ x6_3) = true := decide_eq_true c16
         clear c16
         obtain ⟨c17,H⟩ := ifp H
         have c17b0 : decide (x6_3 < (a0.size : Int)) = true := decide_eq_true c17
         clear c17
         by_cases c19 : x5_3 < (wrap64 (Int.tdiv ((-9223372036854775808) + (((bt a0 x6_3) - 48) % 256)) 10))
         ·rw [if_pos c19] at H
          have c19b0 : decide (x5_3 < (wrap64 (Int.tdiv ((-9223372036854775808) + (((bt a0 x6_3) - 48) % 256)) 10))) = true := decide_eq_true c19
          have c19b1 : decide (x5_3 < Int.tdiv ((-9223372036854775808) + (((bt a0 x6_3) - 48) % 256)) 10) = true := by rw [← tdiv_w ((((bt a0 x6_3) - 48) % 256)) (Int.emod_nonneg _ Z180) (Int.emod_lt_of_pos _ Z180)];exact c19b0
          clear c19
          simp only [Option.some.injEq,Prod.mk.injEq] at H
          obtain ⟨rfl,rfl⟩ := H
          have p18 : 0 ≤ (x6_3 : Int) := of_decide_eq_true Z117
          have q18 : x6_3 < (a0.size : Int) := of_decide_eq_true Z117
          have hx18 := bt_at a0 x6_3
          replace p18 := eq_true p18
          replace q18 := eq_true q18
          go_wp2
          go_ret2
          exact ⟨Z107,Z186⟩
         rw [if_neg c19] at H
         have c19b0 : decide (x5_3 < (wrap64 (Int.tdiv ((-9223372036854775808) + (((bt a0 x6_3) - 48) % 256)) 10))) = false := decide_eq_false c19
         have c19b1 : decide (x5_3 < Int.tdiv ((-9223372036854775808) + (((bt a0 x6_3) - 48) % 256)) 10) = false := by rw [← tdiv_w ((((bt a0 x6_3) - 48) % 256)) (Int.emod_nonneg _ Z180) (Int.emod_lt_of_pos _ Z180)];exact c19b0
         clear c19
         have H' := Aside0.mk H
         clear H
         have p18 : 0 ≤ (x6_3 : Int) := of_decide_eq_true Z117
         have q18 : x6_3 < (a0.size : Int) := of_decide_eq_true Z117
         have hx18 := bt_at a0 x6_3
         replace p18 := eq_true p18
         replace q18 := eq_true q18
         go_wp2
         go_roundg kj9
         case measure => have := HJ1.out;have := HJ6.out;have := HK3.out;have := HJ9.out;omega
         case rel => exact ⟨(wrap64 ((wrap64 (10 * x5_3)) - (((bt a0 x6_3) - 48) % 256))),(wrap64 (x6_3 + 1)),Z118,Z118,H',⟨by have := HJ1.out;have := HJ6.out;have := HK3.out;have := HJ9.out;omega⟩,⟨Z186⟩⟩

/-! ### spec_Number: function 25 -/
def spec_Number.f (k : Nat) (a0 : ByteArray) : Option (Int × Bool) := (spec_IntText.f k a0).bind fun bt145 => (if bt145.2 = true then ((spec_l1In.f bt145.1 0 999999999).bind fun t147 => (if t147 = true then (some (bt145.1,true)) else (some (0,false)))) else (some (0,false)))
theorem spec_Number.mono : ∀ a0 k,LeO (spec_Number.f k a0) (spec_Number.f (k + 1) a0) := by
 intro a0 k
 unfold spec_Number.f
 repeat' first
   | (with_reducible exact spec_IntText.mono _ _)
   | (with_reducible exact LeO.refl _)
   | (with_reducible exact LeO.none _)
   | (with_reducible refine LeO.ite ?_ ?_)
   | (with_reducible refine LeO.bind ?_ (fun _ => ?_))
   | exact spec_IntText.mono _ _
   | exact LeO.none _
   | refine LeO.ite ?_ ?_
   | refine LeO.bind ?_ (fun _ => ?_)
set_option maxHeartbeats 8000000 in
set_option maxRecDepth 100000 in
theorem spec_Number.calls (k : Nat) (a0 : ByteArray) (r1 : Int) (r2 : Bool) (w : World) (h : spec_Number.f k a0 = some (r1,r2)) :
  Calls Tryd.prog 25 #[.string a0] w fun e w' => e = .returned (.tuple #[.int .i64 r1,.bool r2]) ∧ Below w.heap.size w w' := by
 have HB := Aside0.mk (Below.refl w.heap.size w)
 have H := h
 clear h
 unfold spec_Number.f at H
 obtain ⟨⟨t145,t146⟩,A20,H⟩ := Option.bind_eq_some_iff.mp H
 try dsimp only at H
 have A2 := Aside0.mk A20
 clear A20
 by_cases c3 : t146 = true
 rotate_left
 ·replace c3 := Bool.eq_false_iff.mpr c3
  subst c3
  rw [if_neg Bool.false_ne_true] at H
  simp only [Option.some.injEq,Prod.mk.injEq] at H
  obtain ⟨rfl,rfl⟩ := H
  go_enter Tryd.func25,Tryd.ntmps25
  go_wp2_with (first | ((with_reducible refine gate_callee (f := 36) rfl ?_);refine goesL_ (some 8) rfl rfl Tryd.func36 Z133 rfl #[.string a0] rfl Z87 ?_;(with_reducible refine (spec_IntText.calls k a0 t145 false _ A2.out).mono ?_);rintro e wq1 ⟨rfl,hb⟩;refine ⟨_,rfl,?_⟩;have n0_ := Aside0.mk (below_step Z186 hb);clear HB;have HB := n0_;clear n0_;(try clear hb);(try clear hb2);(try clear hk);(try clear hi)))
  go_ret2
  exact ⟨Z107,Z186⟩
 subst c3
 rw [if_pos rfl] at H
 obtain ⟨t147,A40,H⟩ := Option.bind_eq_some_iff.mp H
 have A4 := Aside0.mk A40
 clear A40
 by_cases c5 : t147 = true
 ·subst c5
  rw [if_pos rfl] at H
  simp only [Option.some.injEq,Prod.mk.injEq] at H
  obtain ⟨rfl,rfl⟩ := H
  go_enter Tryd.func25,Tryd.ntmps25
  go_wp2_with (first | ((with_reducible refine gate_callee (f := 36) rfl ?_);refine goesL_ (some 8) rfl rfl Tryd.func36 Z133 rfl #[.string a0] rfl Z87 ?_;(with_reducible refine (spec_IntText.calls k a0 t145 true _ A2.out).mono ?_);rintro e wq1 ⟨rfl,hb⟩;refine ⟨_,rfl,?_⟩;have n0_ := Aside0.mk (below_step Z186 hb);clear HB;have HB := n0_;clear n0_;(try clear hb);(try clear hb2);(try clear hk);(try clear hi)) | (go_at_call 26;(with_reducible refine (spec_l1In.calls t145 0 999999999 true _ A4.out).mono ?_);rintro e w' ⟨rfl,⟨nd,rfl⟩⟩))
  go_ret2
  exact ⟨Z107,Z186⟩
 replace c5 := Bool.eq_false_iff.mpr c5
 subst c5
 rw [if_neg Bool.false_ne_true] at H
 simp only [Option.some.injEq,Prod.mk.injEq] at H
 obtain ⟨rfl,rfl⟩ := H
 go_enter Tryd.func25,Tryd.ntmps25
 go_wp2_with (first | ((with_reducible refine gate_callee (f := 36) rfl ?_);refine goesL_ (some 8) rfl rfl Tryd.func36 Z133 rfl #[.string a0] rfl Z87 ?_;(with_reducible refine (spec_IntText.calls k a0 t145 true _ A2.out).mono ?_);rintro e wq1 ⟨rfl,hb⟩;refine ⟨_,rfl,?_⟩;have n0_ := Aside0.mk (below_step Z186 hb);clear HB;have HB := n0_;clear n0_;(try clear hb);(try clear hb2);(try clear hk);(try clear hi)) | (go_at_call 26;(with_reducible refine (spec_l1In.calls t145 0 999999999 false _ A4.out).mono ?_);rintro e w' ⟨rfl,⟨nd,rfl⟩⟩))
 go_ret2
 exact ⟨Z107,Z186⟩

/-! ### spec_l8Rate: function 24 -/
def spec_l8Rate.j0 : Nat → Int → Int → Bool → Option (Int × Int × Int)
 | 0,_,_,_ => none
 | k + 1,x6,x8,x34 => if x34 = true then (some (0,0,12)) else ((spec_l1In.f x6 1 1000).bind fun t157 => (if t157 = true then ((spec_l1In.f x8 1 1000).bind fun t158 => (if t158 = true then (if x6 > x8 then (some (0,0,13)) else (some (x6,x8,0))) else (some (0,0,13)))) else (some (0,0,13))))
def spec_l8Rate.f (k : Nat) (a0 : ByteArray) : Option (Int × Int × Int) := (spec_Parts.f k a0 47).bind fun t148 => (if (t148.length : Int) = 2 then (if 0 < (t148.length : Int) then ((spec_Number.f k (rdOf ByteArray.empty t148 0)).bind fun bt152 => (if 1 < (t148.length : Int) then ((spec_Number.f k (rdOf ByteArray.empty t148 1)).bind fun bt155 => (if bt152.2 = true then (spec_l8Rate.j0 k bt152.1 bt155.1 (!bt155.2)) else (spec_l8Rate.j0 k bt152.1 bt155.1 true))) else (none))) else (none)) else (some (0,0,12)))
theorem spec_l8Rate.mono_l : ∀ k,(∀ y0 y1 y2,LeO (spec_l8Rate.j0 k y0 y1 y2) (spec_l8Rate.j0 (k + 1) y0 y1 y2))
 | 0 => fun _ _ _ r h => by simp [spec_l8Rate.j0] at h
 | k + 1 => by
  have ih0 := spec_l8Rate.mono_l k
  ·intro y0 y1 y2
   unfold spec_l8Rate.j0
   repeat' first
   | (with_reducible exact ih0 _ _ _)
   | (with_reducible exact spec_Number.mono _ _)
   | (with_reducible exact spec_Parts.mono _ _ _)
   | (with_reducible exact LeO.refl _)
   | (with_reducible exact LeO.none _)
   | (with_reducible refine LeO.ite ?_ ?_)
   | (with_reducible refine LeO.bind ?_ (fun _ => ?_))
   | exact ih0 _ _ _
   | exact spec_Number.mono _ _
   | exact spec_Parts.mono _ _ _
   | exact LeO.none _
   | refine LeO.ite ?_ ?_
   | refine LeO.bind ?_ (fun _ => ?_)
theorem spec_l8Rate.mono : ∀ a0 k,LeO (spec_l8Rate.f k a0) (spec_l8Rate.f (k + 1) a0) := by
 intro a0 k
 have ih0 := spec_l8Rate.mono_l k
 unfold spec_l8Rate.f
 repeat' first
   | (with_reducible exact ih0 _ _ _)
   | (with_reducible exact spec_Number.mono _ _)
   | (with_reducible exact spec_Parts.mono _ _ _)
   | (with_reducible exact LeO.refl _)
   | (with_reducible exact LeO.none _)
   | (with_reducible refine LeO.ite ?_ ?_)
   | (with_reducible refine LeO.bind ?_ (fun _ => ?_))
   | exact ih0 _ _ _
   | exact spec_Number.mono _ _
   | exact spec_Parts.mono _ _ _
   | exact LeO.none _
   | refine LeO.ite ?_ ?_
   | refine LeO.bind ?_ (fun _ => ?_)
set_option maxHeartbeats 8000000 in
set_option maxRecDepth 100000 in
theorem spec_l8Rate.calls (k : Nat) (a0 : ByteArray) (r1 : Int) (r2 : Int) (r3 : Int) (w : World) (h : spec_l8Rate.f k a0 = some (r1,r2,r3)) :
  Calls Tryd.prog 24 #[.string a0] w fun e w' => e = .returned (.tuple #[.int .i64 r1,.int .i64 r2,.int .i64 r3]) ∧ Below w.heap.size w w' := by
 have HB := Aside0.mk (Below.refl w.heap.size w)
 have H := h
 clear h
 unfold spec_l8Rate.f at H
 obtain ⟨t148,A20,H⟩ := Option.bind_eq_some_iff.mp H
 have A2 := Aside0.mk A20
 clear A20
 by_cases c3 : (t148.length : Int) = 2
 rotate_left
 ·rw [if_neg c3] at H
  have c3b0 : ((t148.length : Int) == 2) = false := beq_eq_false_iff_ne.mpr c3
  have c3b1 : ((t148.length : Int) != 2) = true := bne_iff_ne.mpr c3
  simp only [Option.some.injEq,Prod.mk.injEq] at H
  obtain ⟨rfl,rfl,rfl⟩ := H
  go_enter Tryd.func24,Tryd.ntmps24
  go_wp2_with (first | ((with_reducible refine gate_callee (f := 11) rfl ?_);refine goesL_ (some 11) rfl rfl Tryd.func11 Z133 rfl #[.string a0,.int .u8 47] rfl Z87 ?_;(with_reducible refine (spec_Parts.calls k a0 47 t148 _ A2.out).mono ?_);rintro e wq1 ⟨vq2,rfl,hoq3,hb⟩;refine ⟨_,rfl,?_⟩;have n_ := Z30;clear HB;obtain ⟨HO150,HB⟩ := n_;(try clear hb);(try clear hb2);(try clear hk);(try clear hi);(try clear hoq3);obtain ⟨Aoq4,coq4,eoq4⟩ := Kd.R_slice HO150.out;subst eoq4))
  go_ret3
  exact ⟨Z107,Z186⟩
 rw [if_pos c3] at H
 have c3b0 : ((t148.length : Int) == 2) = true := beq_iff_eq.mpr c3
 have c3b1 : ((t148.length : Int) != 2) = false := bne_eq_false_iff_eq.mpr c3
 clear c3
 obtain ⟨c4,H⟩ := ifp H
 have c4b0 : decide (0 < (t148.length : Int)) = true := decide_eq_true c4
 have c4b1 : decide (0 < t148.length) = true := decide_eq_true Z134
 clear c4
 obtain ⟨⟨t152,t153⟩,A50,H⟩ := Option.bind_eq_some_iff.mp H
 try dsimp only at H
 have A5 := Aside0.mk A50
 clear A50
 obtain ⟨c6,H⟩ := ifp H
 have c6b0 : decide (1 < (t148.length : Int)) = true := decide_eq_true c6
 have c6b1 : decide (1 < t148.length) = true := decide_eq_true Z134
 clear c6
 obtain ⟨⟨t155,t156⟩,A70,H⟩ := Option.bind_eq_some_iff.mp H
 try dsimp only at H
 have A7 := Aside0.mk A70
 clear A70
 have HC8 := Aside0.mk H
 clear H
 go_enter Tryd.func24,Tryd.ntmps24
 go_upto_region 6 with (first | ((with_reducible refine gate_callee (f := 11) rfl ?_);refine goesL_ (some 11) rfl rfl Tryd.func11 Z133 rfl #[.string a0,.int .u8 47] rfl Z87 ?_;(with_reducible refine (spec_Parts.calls k a0 47 t148 _ A2.out).mono ?_);rintro e w9 ⟨v149,rfl,ho0,hb⟩;refine ⟨_,rfl,?_⟩;have n_ := Z31;clear HB;obtain ⟨HO150,HB⟩ := n_;(try clear hb);(try clear hb2);(try clear hk);(try clear hi);(try clear ho0);obtain ⟨Ao10,co10,eo10⟩ := Kd.R_slice HO150.out;subst eo10;have p151 : 0 ≤ (0 : Int) := Z134;have q151 : 0 < (t148.length : Int) := of_decide_eq_true Z117;obtain ⟨ad151,e151,hx151_0⟩ := Kd.at_string (Kd.R_reads' HO150.out).2.2 0 p151 q151;cases e151;have qi151 : (0 < t148.length) = True := eq_true Z134;(try rw [show ((0 : Int)).toNat = 0 from rfl] at hx151_0);(try rw [Addr.add_zero'] at hx151_0);replace p151 := eq_true p151;replace q151 := eq_true q151) | ((with_reducible refine gate_callee (f := 25) rfl ?_);refine goesL_ (some 19) rfl rfl Tryd.func25 Z133 rfl #[.string (rdOf ByteArray.empty t148 0)] rfl Z87 ?_;(with_reducible refine (spec_Number.calls k (rdOf ByteArray.empty t148 0) t152 t153 _ A5.out).mono ?_);rintro e w11 ⟨rfl,hb⟩;refine ⟨_,rfl,?_⟩;have n_ := Z37;clear HO150 HB;obtain ⟨HO150,HB⟩ := n_;(try clear hb);(try clear hb2);(try clear hk);(try clear hi);have p154 : 0 ≤ (1 : Int) := Z134;have q154 : 1 < (t148.length : Int) := of_decide_eq_true Z117;obtain ⟨ad154,e154,hx154_0⟩ := Kd.at_string (Kd.R_reads' HO150.out).2.2 1 p154 q154;obtain rfl : ad151 = ad154 := (by injection e154);(try simp only [show (1 : Int).toNat = 1 from rfl,Nat.reduceMul,Nat.reduceEqDiff,Go.Addr.add,↓reduceIte] at hx154_0);have qi154 : (1 < t148.length) = True := eq_true Z134;(try rw [show ((1 : Int)).toNat = 1 from rfl] at hx154_0);replace p154 := eq_true p154;replace q154 := eq_true q154) | ((with_reducible refine gate_callee (f := 25) rfl ?_);refine goesL_ (some 26) rfl rfl Tryd.func25 Z133 rfl #[.string (rdOf ByteArray.empty t148 1)] rfl Z87 ?_;(with_reducible refine (spec_Number.calls k (rdOf ByteArray.empty t148 1) t155 t156 _ A7.out).mono ?_);rintro e w12 ⟨rfl,hb⟩;refine ⟨_,rfl,?_⟩;have n_ := Z37;clear HO150 HB;obtain ⟨HO150,HB⟩ := n_;(try clear hb);(try clear hb2);(try clear hk);(try clear hi)))
 (try simp only [Act.put,List.setIfInBounds_toArray,List.set_cons_zero,List.set_cons_succ])
 go_cut [34] (fun v34 wc => ∃ (kq : Nat) (x34_7 : Bool),v34 = .bool x34_7 ∧ Aside0 (spec_l8Rate.j0 kq t152 t155 x34_7 = some (r1,r2,r3)) ∧ Aside0 (kq ≤ k) ∧ Aside0 (Below w.heap.size w wc))
 case first =>
  have H := HC8.out
  clear HC8
  by_cases c13 : t153 = true
  ·subst c13
   rw [if_pos rfl] at H
   have H' := Aside0.mk H
   clear H
   go_wp2
   go_meet
   case rel => exact ⟨_,(!t156),Z118,H',⟨Z120⟩,⟨Z186⟩⟩
  replace c13 := Bool.eq_false_iff.mpr c13
  subst c13
  rw [if_neg Bool.false_ne_true] at H
  have H' := Aside0.mk H
  clear H
  go_wp2
  go_meet
  case rel => exact ⟨_,(true),Z118,H',⟨Z120⟩,⟨Z186⟩⟩
 case rest =>
  clear HC8
  try clear c1
  try clear p1
  try clear q1
  try clear hx1
  try clear qi1
  try clear c2
  try clear p2
  try clear c3
  try clear c3b0
  try clear c3b1
  try clear c4
  try clear c4b0
  try clear c4b1
  try clear c6
  try clear c6b0
  try clear c6b1
  try clear c11
  try clear c13
  try clear hx151_0
  try clear hx154_0
  try clear p151
  try clear p154
  try clear q151
  try clear q154
  obtain ⟨kq,x34_7,rfl,HA,HJ7,HB⟩ := hcut
  cases kq with
  | zero => exact absurd HA.out (by simp [spec_l8Rate.j0])
  | succ kj7 =>
   have H := HA.out
   clear HA
   simp only [spec_l8Rate.j0] at H
   by_cases c14 : x34_7 = true
   ·subst c14
    rw [if_pos rfl] at H
    simp only [Option.some.injEq,Prod.mk.injEq] at H
    obtain ⟨rfl,rfl,rfl⟩ := H
    go_wp2
    go_ret3
    exact ⟨Z107,Z186⟩
   replace c14 := Bool.eq_false_iff.mpr c14
   subst c14
   rw [if_neg Bool.false_ne_true] at H
   obtain ⟨t157,A150,H⟩ := Option.bind_eq_some_iff.mp H
   have A15 := Aside0.mk A150
   clear A150
   by_cases c16 : t157 = true
   rotate_left
   ·replace c16 := Bool.eq_false_iff.mpr c16
    subst c16
    rw [if_neg Bool.false_ne_true] at H
    simp only [Option.some.injEq,Prod.mk.injEq] at H
    obtain ⟨rfl,rfl,rfl⟩ := H
    go_wp2_with (first | ((with_reducible refine gate_callee (f := 26) rfl ?_);refine goesL_ (some 36) rfl rfl Tryd.func26 Z133 rfl #[.int .i64 t152,.int .i64 1,.int .i64 1000] rfl Z87 ?_;(with_reducible refine (spec_l1In.calls t152 1 1000 false _ A15.out).mono ?_);rintro e w' ⟨rfl,⟨nd,rfl⟩⟩;refine ⟨_,rfl,?_⟩))
    go_ret3
    exact ⟨Z107,Z186⟩
   subst c16
   rw [if_pos rfl] at H
   obtain ⟨t158,A170,H⟩ := Option.bind_eq_some_iff.mp H
   have A17 := Aside0.mk A170
   clear A170
   by_cases c18 : t158 = true
   rotate_left
   ·replace c18 := Bool.eq_false_iff.mpr c18
    subst c18
    rw [if_neg Bool.false_ne_true] at H
    simp only [Option.some.injEq,Prod.mk.injEq] at H
    obtain ⟨rfl,rfl,rfl⟩ := H
    go_wp2_with (first | ((with_reducible refine gate_callee (f := 26) rfl ?_);refine goesL_ (some 36) rfl rfl Tryd.func26 Z133 rfl #[.int .i64 t152,.int .i64 1,.int .i64 1000] rfl Z87 ?_;(with_reducible refine (spec_l1In.calls t152 1 1000 true _ A15.out).mono ?_);rintro e w' ⟨rfl,⟨nd,rfl⟩⟩;refine ⟨_,rfl,?_⟩) | (go_at_call 26;(with_reducible refine (spec_l1In.calls t155 1 1000 false _ A17.out).mono ?_);rintro e w' ⟨rfl,⟨nd,rfl⟩⟩))
    go_ret3
    exact ⟨Z107,Z186⟩
   subst c18
   rw [if_pos rfl] at H
   by_cases c19 : t152 > t155
   ·rw [if_pos c19] at H
    have c19b0 : decide (t155 < t152) = true := decide_eq_true c19
    clear c19
    simp only [Option.some.injEq,Prod.mk.injEq] at H
    obtain ⟨rfl,rfl,rfl⟩ := H
    go_wp2_with (first | ((with_reducible refine gate_callee (f := 26) rfl ?_);refine goesL_ (some 36) rfl rfl Tryd.func26 Z133 rfl #[.int .i64 t152,.int .i64 1,.int .i64 1000] rfl Z87 ?_;(with_reducible refine (spec_l1In.calls t152 1 1000 true _ A15.out).mono ?_);rintro e w' ⟨rfl,⟨nd,rfl⟩⟩;refine ⟨_,rfl,?_⟩) | (go_at_call 26;(with_reducible refine (spec_l1In.calls t155 1 1000 true _ A17.out).mono ?_);rintro e w' ⟨rfl,⟨nd,rfl⟩⟩))
    go_ret3
    exact ⟨Z107,Z186⟩
   rw [if_neg c19] at H
   have c19b0 : decide (t155 < t152) = false := decide_eq_false c19
   clear c19
   simp only [Option.some.injEq,Prod.mk.injEq] at H
   obtain ⟨rfl,rfl,rfl⟩ := H
   go_wp2_with (first | ((with_reducible refine gate_callee (f := 26) rfl ?_);refine goesL_ (some 36) rfl rfl Tryd.func26 Z133 rfl #[.int .i64 t152,.int .i64 1,.int .i64 1000] rfl Z87 ?_;(with_reducible refine (spec_l1In.calls t152 1 1000 true _ A15.out).mono ?_);rintro e w' ⟨rfl,⟨nd,rfl⟩⟩;refine ⟨_,rfl,?_⟩) | (go_at_call 26;(with_reducible refine (spec_l1In.calls t155 1 1000 true _ A17.out).mono ?_);rintro e w' ⟨rfl,⟨nd,rfl⟩⟩))
   go_ret3
   exact ⟨Z107,Z186⟩

/-! ### spec_l8Least: function 27 -/
def spec_l8Least.f  : Option (List Int) := some (([1,0,2,1,1] : List Int))
set_option maxHeartbeats 8000000 in
set_option maxRecDepth 100000 in
theorem spec_l8Least.calls  (r : List Int) (w : World) (h : spec_l8Least.f  = some r) :
  Calls Tryd.prog 27 #[] w fun e w' => ∃ v0_ : Value,e = .returned (v0_) ∧ Kd.R (Kd.int .i64) 3 w' w.heap.size (fun _ => True) v0_ r ∧ Below w.heap.size w w' := by
 have HB := Aside0.mk (Below.refl w.heap.size w)
 have H := h
 clear h
 unfold spec_l8Least.f at H
 obtain ⟨y159,hyy⟩ : ∃ y_ : List Int,y_ = (([1,0,2,1,1] : List Int)) := ⟨_,rfl⟩
 replace H : (some y159) = some r := zR
 have Ny159 := Aside0.mk hyy
 clear hyy
 obtain rfl := Option.some.inj H
 go_enter Tryd.func27,Tryd.ntmps27
 go_wp2_with (first | ((with_reducible refine gate_dst (N := 1) rfl ?_);refine Kd.R_lit (Kd.int .i64) _ 3 ?hg (N := 1) ?hd (xs := ([1,0,2,1,1] : List Int)) (inner := [.int .i64 1,.int .i64 0,.int .i64 2,.int .i64 1,.int .i64 1]) (ok := fun _ => True) (okp := fun _ => True) ?hr ?hp (fun _ hk => hk) trivial (Below.refl _ _) (Nat.le_refl _) Z181 ?_;(case hd => rfl);(case hg => rfl);(case hr => exact Z119);(case hp => exact (Reps.one (show Kd.M (Kd.int .i64) _ _ _ 1 [.int .i64 1] from rfl) (Reps.one (show Kd.M (Kd.int .i64) _ _ _ 0 [.int .i64 0] from rfl) (Reps.one (show Kd.M (Kd.int .i64) _ _ _ 2 [.int .i64 2] from rfl) (Reps.one (show Kd.M (Kd.int .i64) _ _ _ 1 [.int .i64 1] from rfl) (Reps.one (show Kd.M (Kd.int .i64) _ _ _ 1 [.int .i64 1] from rfl) (Reps.none _ _)))))));intro vq1 wq2 hoq3 hb hg_ hnew_;clear hg_ hnew_;(first | rw [← Ny159.out] at hoq3 | (simp only [Int.reduceToNat] at hoq3;rw [← Ny159.out] at hoq3));have n_ := Z30;clear HB;obtain ⟨HO161,HB⟩ := n_;clear hb hoq3))
 go_ret
 exact ⟨_,Z107,by (with_reducible repeat (first | apply Kd.R_alloc | apply Kd.R_drewN | apply Kd.R_drew));exact HO161.out,Z186⟩

/-! ### spec_l8Most: function 28 -/
def spec_l8Most.f  : Option (List Int) := some (([8,4,8,100,20] : List Int))
set_option maxHeartbeats 8000000 in
set_option maxRecDepth 100000 in
theorem spec_l8Most.calls  (r : List Int) (w : World) (h : spec_l8Most.f  = some r) :
  Calls Tryd.prog 28 #[] w fun e w' => ∃ v0_ : Value,e = .returned (v0_) ∧ Kd.R (Kd.int .i64) 3 w' w.heap.size (fun _ => True) v0_ r ∧ Below w.heap.size w w' := by
 have HB := Aside0.mk (Below.refl w.heap.size w)
 have H := h
 clear h
 unfold spec_l8Most.f at H
 obtain ⟨y162,hyy⟩ : ∃ y_ : List Int,y_ = (([8,4,8,100,20] : List Int)) := ⟨_,rfl⟩
 replace H : (some y162) = some r := zR
 have Ny162 := Aside0.mk hyy
 clear hyy
 obtain rfl := Option.some.inj H
 go_enter Tryd.func28,Tryd.ntmps28
 go_wp2_with (first | ((with_reducible refine gate_dst (N := 1) rfl ?_);refine Kd.R_lit (Kd.int .i64) _ 3 ?hg (N := 1) ?hd (xs := ([8,4,8,100,20] : List Int)) (inner := [.int .i64 8,.int .i64 4,.int .i64 8,.int .i64 100,.int .i64 20]) (ok := fun _ => True) (okp := fun _ => True) ?hr ?hp (fun _ hk => hk) trivial (Below.refl _ _) (Nat.le_refl _) Z181 ?_;(case hd => rfl);(case hg => rfl);(case hr => exact Z119);(case hp => exact (Reps.one (show Kd.M (Kd.int .i64) _ _ _ 8 [.int .i64 8] from rfl) (Reps.one (show Kd.M (Kd.int .i64) _ _ _ 4 [.int .i64 4] from rfl) (Reps.one (show Kd.M (Kd.int .i64) _ _ _ 8 [.int .i64 8] from rfl) (Reps.one (show Kd.M (Kd.int .i64) _ _ _ 100 [.int .i64 100] from rfl) (Reps.one (show Kd.M (Kd.int .i64) _ _ _ 20 [.int .i64 20] from rfl) (Reps.none _ _)))))));intro vq1 wq2 hoq3 hb hg_ hnew_;clear hg_ hnew_;(first | rw [← Ny162.out] at hoq3 | (simp only [Int.reduceToNat] at hoq3;rw [← Ny162.out] at hoq3));have n_ := Z30;clear HB;obtain ⟨HO164,HB⟩ := n_;clear hb hoq3))
 go_ret
 exact ⟨_,Z107,by (with_reducible repeat (first | apply Kd.R_alloc | apply Kd.R_drewN | apply Kd.R_drew));exact HO164.out,Z186⟩

end Go.Proofs.YtepnbcdbagjmbacDoor.QFnExactReadConfig
