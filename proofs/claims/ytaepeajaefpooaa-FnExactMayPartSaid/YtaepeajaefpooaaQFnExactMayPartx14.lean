/- The machine side of FnExactMayPart: what each Go function that it reaches comes to. Conditions: none. -/
import Derived.Test.YtaepeajaefpooaaQFnExactMayPartx0
namespace Go.Proofs.Ytaepeajaefpooaa.QFnExactMayPart
open Go.RowKit Go.Proofs.YtaepeajaefpooaaW.PrintWords Go.Proofs.YtaepeajaefpooaaW.PrintLast Go.Proofs.YtaepeajaefpooaaW.PrintMore
attribute [local go_sem] max2_int min2_int max_two min_two max_three min_three max_four min_four   -- for this text's walks alone
set_option linter.unusedVariables false
set_option linter.unusedSimpArgs false

/-! ### laws_eqIntS: function 43 -/
def laws_eqIntS.l0 : Nat → List Int → List Int → Int → Option (Bool)
 | 0,_,_,_ => none
 | k + 1,x0,x1,x5 => if x5 < (x0.length : Int) then (if 0 ≤ x5 then (if x5 < (x1.length : Int) then (if (rd x0 x5) = (rd x1 x5) then (laws_eqIntS.l0 k x0 x1 (wrap64 (x5 + 1))) else (some false)) else (none)) else (none)) else (some true)
def laws_eqIntS.f (k : Nat) (l0 : List Int) (l1 : List Int) : Option (Bool) := if (l0.length : Int) = (l1.length : Int) then (laws_eqIntS.l0 k l0 l1 0) else (some false)
theorem laws_eqIntS.mono_l : ∀ k,(∀ y0 y1 y2,LeO (laws_eqIntS.l0 k y0 y1 y2) (laws_eqIntS.l0 (k + 1) y0 y1 y2))
 | 0 => fun _ _ _ r h => by simp [laws_eqIntS.l0] at h
 | k + 1 => by
  have ih0 := laws_eqIntS.mono_l k
  ·intro y0 y1 y2
   unfold laws_eqIntS.l0
   repeat' first
   | (with_reducible exact ih0 _ _ _)
   | (with_reducible exact LeO.refl _)
   | (with_reducible exact LeO.none _)
   | (with_reducible refine LeO.ite ?_ ?_)
   | (with_reducible refine LeO.bind ?_ (fun _ => ?_))
   | exact ih0 _ _ _
   | exact LeO.none _
   | refine LeO.ite ?_ ?_
   | refine LeO.bind ?_ (fun _ => ?_)
theorem laws_eqIntS.mono : ∀ a0 a1 k,LeO (laws_eqIntS.f k a0 a1) (laws_eqIntS.f (k + 1) a0 a1) := by
 intro a0 a1 k
 have ih0 := laws_eqIntS.mono_l k
 unfold laws_eqIntS.f
 repeat' first
   | (with_reducible exact ih0 _ _ _)
   | (with_reducible exact LeO.refl _)
   | (with_reducible exact LeO.none _)
   | (with_reducible refine LeO.ite ?_ ?_)
   | (with_reducible refine LeO.bind ?_ (fun _ => ?_))
   | exact ih0 _ _ _
   | exact LeO.none _
   | refine LeO.ite ?_ ?_
   | refine LeO.bind ?_ (fun _ => ?_)
set_option maxHeartbeats 8000000 in
set_option maxRecDepth 100000 in
theorem laws_eqIntS.calls (k : Nat) (A0 : Option Addr) (c0 : Nat) (l0 : List Int) (A1 : Option Addr) (c1 : Nat) (l1 : List Int) (r : Bool) (w : World) (hr0 : Kd.C (Kd.int .i64) w A0 l0.length l0) (hc0 : l0.length ≤ c0) (hr1 : Kd.C (Kd.int .i64) w A1 l1.length l1) (hc1 : l1.length ≤ c1) (h : laws_eqIntS.f k l0 l1 = some r) :
  Calls Try.prog 43 #[.slice A0 l0.length c0,.slice A1 l1.length c1] w fun e w' => e = .returned (.bool r) ∧ Drawn0 w w' := by
 have HR0 := Aside0.mk hr0
 have HC0 := Aside0.mk hc0
 clear hr0 hc0
 have HR1 := Aside0.mk hr1
 have HC1 := Aside0.mk hc1
 clear hr1 hc1
 have H := h
 clear h
 unfold laws_eqIntS.f at H
 by_cases c3 : (l0.length : Int) = (l1.length : Int)
 ·rw [if_pos c3] at H
  have c3b0 : ((l0.length : Int) == (l1.length : Int)) = true := beq_iff_eq.mpr c3
  have c3b1 : ((l0.length : Int) != (l1.length : Int)) = false := bne_eq_false_iff_eq.mpr c3
  have c3b2 : (l0.length == l1.length) = true := by first | simpa using c3 | (simp at c3 ⊢;omega)
  clear c3
  have H' := Aside0.mk H
  clear H
  go_enter Try.func43,Try.ntmps43
  go_wp2
  repeat (go_quiet (fail);try go_wp2)
  go_loopg [5] k (fun kq v5 w' => ∃ (x5_1 : Int),v5 = .int .i64 x5_1 ∧ Aside0 (laws_eqIntS.l0 kq l0 l1 x5_1 = some r) ∧ Aside0 (kq ≤ k) ∧ Drawn0 w w')
  case atStart => exact ⟨(0),Z289,H',⟨Nat.le_refl _⟩,Z266⟩
  case round =>
   clear H'
   try clear c1
   try clear p2
   try clear c3
   try clear c3b0
   try clear c3b1
   try clear c3b2
   obtain ⟨x5_1,rfl,HA,HK1,⟨m1,rfl⟩⟩ := hrel
   cases gk with
   | zero => exact absurd HA.out (by simp [laws_eqIntS.l0])
   | succ k1 =>
    have H := HA.out
    clear HA
    simp only [laws_eqIntS.l0] at H
    by_cases c4 : x5_1 < (l0.length : Int)
    ·rw [if_pos c4] at H
     have c4b0 : decide (x5_1 < (l0.length : Int)) = true := decide_eq_true c4
     clear c4
     by_cases c5 : 0 ≤ x5_1
     ·rw [if_pos c5] at H
      have c5b0 : decide (0 ≤ x5_1) = true := decide_eq_true c5
      clear c5
      by_cases c6 : x5_1 < (l1.length : Int)
      ·rw [if_pos c6] at H
       have c6b0 : decide (x5_1 < (l1.length : Int)) = true := decide_eq_true c6
       clear c6
       by_cases c7 : (rd l0 x5_1) = (rd l1 x5_1)
       ·rw [if_pos c7] at H
        have c7b0 : ((rd l0 x5_1) == (rd l1 x5_1)) = true := beq_iff_eq.mpr c7
        have c7b1 : ((rd l0 x5_1) != (rd l1 x5_1)) = false := bne_eq_false_iff_eq.mpr c7
        clear c7
        have H' := Aside0.mk H
        clear H
        have p589 : 0 ≤ (x5_1 : Int) := of_decide_eq_true Z288
        have q589 : x5_1 < (l0.length : Int) := of_decide_eq_true Z288
        obtain ⟨ad589,e589,hx589_0⟩ := Kd.at_int HR0.out x5_1 p589 q589
        cases e589
        replace p589 := eq_true p589
        replace q589 := eq_true q589
        have p590 : 0 ≤ (x5_1 : Int) := of_decide_eq_true Z288
        have q590 : x5_1 < (l1.length : Int) := of_decide_eq_true Z288
        obtain ⟨ad590,e590,hx590_0⟩ := Kd.at_int HR1.out x5_1 p590 q590
        cases e590
        replace p590 := eq_true p590
        replace q590 := eq_true q590
        go_wp2
        repeat (go_quiet (fail);try go_wp2)
        go_roundg k1
        case measure => have := HK1.out;omega
        case rel => exact ⟨(wrap64 (x5_1 + 1)),Z289,H',⟨Z310⟩,Z266⟩
       ·rw [if_neg c7] at H
        have c7b0 : ((rd l0 x5_1) == (rd l1 x5_1)) = false := beq_eq_false_iff_ne.mpr c7
        have c7b1 : ((rd l0 x5_1) != (rd l1 x5_1)) = true := bne_iff_ne.mpr c7
        obtain rfl := Option.some.inj H
        have p589 : 0 ≤ (x5_1 : Int) := of_decide_eq_true Z288
        have q589 : x5_1 < (l0.length : Int) := of_decide_eq_true Z288
        obtain ⟨ad589,e589,hx589_0⟩ := Kd.at_int HR0.out x5_1 p589 q589
        cases e589
        replace p589 := eq_true p589
        replace q589 := eq_true q589
        have p590 : 0 ≤ (x5_1 : Int) := of_decide_eq_true Z288
        have q590 : x5_1 < (l1.length : Int) := of_decide_eq_true Z288
        obtain ⟨ad590,e590,hx590_0⟩ := Kd.at_int HR1.out x5_1 p590 q590
        cases e590
        replace p590 := eq_true p590
        replace q590 := eq_true q590
        go_wp2
        repeat (go_quiet (fail);try go_wp2)
        go_ret
        exact ⟨Z289,Z266⟩
      ·rw [if_neg c6] at H
       exact absurd H Z553
     ·rw [if_neg c5] at H
      exact absurd H Z553
    ·rw [if_neg c4] at H
     have c4b0 : decide (x5_1 < (l0.length : Int)) = false := decide_eq_false c4
     clear c4
     obtain rfl := Option.some.inj H
     go_wp2
     repeat (go_quiet (fail);try go_wp2)
     go_ret
     exact ⟨Z289,Z266⟩
 ·rw [if_neg c3] at H
  have c3b0 : ((l0.length : Int) == (l1.length : Int)) = false := beq_eq_false_iff_ne.mpr c3
  have c3b1 : ((l0.length : Int) != (l1.length : Int)) = true := bne_iff_ne.mpr c3
  have c3b2 : (l0.length == l1.length) = false := by first | simpa using c3 | (simp at c3 ⊢;omega)
  obtain rfl := Option.some.inj H
  go_enter Try.func43,Try.ntmps43
  go_wp2
  repeat (go_quiet (fail);try go_wp2)
  go_ret
  exact ⟨Z289,Z266⟩

/-! ### laws_eqConfig: function 12 -/
def laws_eqConfig.f (k : Nat) (a0_0 : Int) (a0_1 : Int) (a0_2 : Int) (a0_3 : Int) (a0_4 : Int) (a0_5 : Int) (a0_6 : Int) (l0_7 : List Int) (a1_0 : Int) (a1_1 : Int) (a1_2 : Int) (a1_3 : Int) (a1_4 : Int) (a1_5 : Int) (a1_6 : Int) (l1_7 : List Int) : Option (Bool) := if a0_0 = a1_0 then (if a0_1 = a1_1 then (if a0_2 = a1_2 then (if a0_3 = a1_3 then (if a0_4 = a1_4 then (if a0_5 = a1_5 then (if a0_6 = a1_6 then ((laws_eqIntS.f k l0_7 l1_7).bind fun t593 => (if t593 = true then (some true) else (some false))) else (some false)) else (some false)) else (some false)) else (some false)) else (some false)) else (some false)) else (some false)
theorem laws_eqConfig.mono : ∀ a0 a1 a2 a3 a4 a5 a6 a7 a8 a9 a10 a11 a12 a13 a14 a15 k,LeO (laws_eqConfig.f k a0 a1 a2 a3 a4 a5 a6 a7 a8 a9 a10 a11 a12 a13 a14 a15) (laws_eqConfig.f (k + 1) a0 a1 a2 a3 a4 a5 a6 a7 a8 a9 a10 a11 a12 a13 a14 a15) := by
 intro a0 a1 a2 a3 a4 a5 a6 a7 a8 a9 a10 a11 a12 a13 a14 a15 k
 unfold laws_eqConfig.f
 repeat' first
   | (with_reducible exact laws_eqIntS.mono _ _ _)
   | (with_reducible exact LeO.refl _)
   | (with_reducible exact LeO.none _)
   | (with_reducible refine LeO.ite ?_ ?_)
   | (with_reducible refine LeO.bind ?_ (fun _ => ?_))
   | exact laws_eqIntS.mono _ _ _
   | exact LeO.none _
   | refine LeO.ite ?_ ?_
   | refine LeO.bind ?_ (fun _ => ?_)
set_option maxHeartbeats 8000000 in
set_option maxRecDepth 100000 in
theorem laws_eqConfig.calls (k : Nat) (a0_0 : Int) (a0_1 : Int) (a0_2 : Int) (a0_3 : Int) (a0_4 : Int) (a0_5 : Int) (a0_6 : Int) (A0_7 : Option Addr) (c0_7 : Nat) (l0_7 : List Int) (a1_0 : Int) (a1_1 : Int) (a1_2 : Int) (a1_3 : Int) (a1_4 : Int) (a1_5 : Int) (a1_6 : Int) (A1_7 : Option Addr) (c1_7 : Nat) (l1_7 : List Int) (r : Bool) (w : World) (hr0_7 : Kd.C (Kd.int .i64) w A0_7 l0_7.length l0_7) (hc0_7 : l0_7.length ≤ c0_7) (hr1_7 : Kd.C (Kd.int .i64) w A1_7 l1_7.length l1_7) (hc1_7 : l1_7.length ≤ c1_7) (h : laws_eqConfig.f k a0_0 a0_1 a0_2 a0_3 a0_4 a0_5 a0_6 l0_7 a1_0 a1_1 a1_2 a1_3 a1_4 a1_5 a1_6 l1_7 = some r) :
  Calls Try.prog 12 #[.agg #[.int .i64 a0_0,.int .i64 a0_1,.int .i64 a0_2,.int .i64 a0_3,.int .i64 a0_4,.int .i64 a0_5,.int .i64 a0_6,.slice A0_7 l0_7.length c0_7],.agg #[.int .i64 a1_0,.int .i64 a1_1,.int .i64 a1_2,.int .i64 a1_3,.int .i64 a1_4,.int .i64 a1_5,.int .i64 a1_6,.slice A1_7 l1_7.length c1_7]] w fun e w' => e = .returned (.bool r) ∧ Below w.heap.size w w' := by
 have hu33 := Try.underlying33
 have HR0_7 := Aside0.mk hr0_7
 have HC0_7 := Aside0.mk hc0_7
 clear hr0_7 hc0_7
 have HR1_7 := Aside0.mk hr1_7
 have HC1_7 := Aside0.mk hc1_7
 clear hr1_7 hc1_7
 have HB := Aside0.mk (Below.refl w.heap.size w)
 have H := h
 clear h
 unfold laws_eqConfig.f at H
 by_cases c3 : a0_0 = a1_0
 ·rw [if_pos c3] at H
  have c3b0 : (a0_0 == a1_0) = true := beq_iff_eq.mpr c3
  have c3b1 : (a0_0 != a1_0) = false := bne_eq_false_iff_eq.mpr c3
  clear c3
  by_cases c4 : a0_1 = a1_1
  ·rw [if_pos c4] at H
   have c4b0 : (a0_1 == a1_1) = true := beq_iff_eq.mpr c4
   have c4b1 : (a0_1 != a1_1) = false := bne_eq_false_iff_eq.mpr c4
   clear c4
   by_cases c5 : a0_2 = a1_2
   ·rw [if_pos c5] at H
    have c5b0 : (a0_2 == a1_2) = true := beq_iff_eq.mpr c5
    have c5b1 : (a0_2 != a1_2) = false := bne_eq_false_iff_eq.mpr c5
    clear c5
    by_cases c6 : a0_3 = a1_3
    ·rw [if_pos c6] at H
     have c6b0 : (a0_3 == a1_3) = true := beq_iff_eq.mpr c6
     have c6b1 : (a0_3 != a1_3) = false := bne_eq_false_iff_eq.mpr c6
     clear c6
     by_cases c7 : a0_4 = a1_4
     ·rw [if_pos c7] at H
      have c7b0 : (a0_4 == a1_4) = true := beq_iff_eq.mpr c7
      have c7b1 : (a0_4 != a1_4) = false := bne_eq_false_iff_eq.mpr c7
      clear c7
      by_cases c8 : a0_5 = a1_5
      ·rw [if_pos c8] at H
       have c8b0 : (a0_5 == a1_5) = true := beq_iff_eq.mpr c8
       have c8b1 : (a0_5 != a1_5) = false := bne_eq_false_iff_eq.mpr c8
       clear c8
       by_cases c9 : a0_6 = a1_6
       ·rw [if_pos c9] at H
        have c9b0 : (a0_6 == a1_6) = true := beq_iff_eq.mpr c9
        have c9b1 : (a0_6 != a1_6) = false := bne_eq_false_iff_eq.mpr c9
        clear c9
        obtain ⟨t593,A100,H⟩ := Option.bind_eq_some_iff.mp H
        have A10 := Aside0.mk A100
        clear A100
        by_cases c11 : t593 = true
        ·subst c11
         rw [if_pos rfl] at H
         obtain rfl := Option.some.inj H
         go_enter Try.func12,Try.ntmps12
         go_wp2_with (first | ((with_reducible refine gate_dst (N := 2) rfl ?_);refine bE 2 #[.int .i64 a0_0,.int .i64 a0_1,.int .i64 a0_2,.int .i64 a0_3,.int .i64 a0_4,.int .i64 a0_5,.int .i64 a0_6,.slice A0_7 l0_7.length c0_7] 33 (h := ?_);intro gb591 hg wq1 hbox hb;have n_ := Z98;clear HB;obtain ⟨HB,BK591,GW591,GE591⟩ := n_;clear hb hbox hg) | ((with_reducible refine gate_dst (N := 3) rfl ?_);refine bE 3 #[.int .i64 a1_0,.int .i64 a1_1,.int .i64 a1_2,.int .i64 a1_3,.int .i64 a1_4,.int .i64 a1_5,.int .i64 a1_6,.slice A1_7 l1_7.length c1_7] 33 (h := ?_);intro gb592 hg wq2 hbox hb;have n_ := Z55;clear BK591 HB;obtain ⟨BK591,HB,BK592,GW592,GE592,NB591_592,NB592_591⟩ := n_;clear hb hbox hg;have hnbq3 := NB591_592.out;have hncq3 := NB592_591.out;obtain ⟨hczq4_0,hczq4_1,hczq4_2,hczq4_3,hczq4_4,hczq4_5,hczq4_6,hczq4_7,hfzq4_0,hfzq4_1,hfzq4_2,hfzq4_3,hfzq4_4,hfzq4_5,hfzq4_6,hfzq4_7⟩ := cells8 BK591.out;obtain ⟨hczq5_0,hczq5_1,hczq5_2,hczq5_3,hczq5_4,hczq5_5,hczq5_6,hczq5_7,hfzq5_0,hfzq5_1,hfzq5_2,hfzq5_3,hfzq5_4,hfzq5_5,hfzq5_6,hfzq5_7⟩ := cells8 BK592.out) | ((with_reducible refine gate_callee (f := 43) rfl ?_);refine goesL_ (some 44) rfl rfl Try.func43 Z312 rfl #[.slice A0_7 l0_7.length c0_7,.slice A1_7 l1_7.length c1_7] rfl Z256 ?_;(with_reducible refine (laws_eqIntS.calls k _ _ l0_7 _ _ l1_7 true _ ?side1 ?side2 ?side3 ?side4 A10.out).mono ?_);(case side1 => exact Z224);(case side2 => exact Z311);(case side3 => exact Z225);(case side4 => exact HC1_7.out);rintro e w' ⟨rfl,⟨nd,rfl⟩⟩;refine ⟨_,rfl,?_⟩))
         go_ret
         exact ⟨Z263,Z197⟩
        ·replace c11 := Bool.eq_false_iff.mpr c11
         subst c11
         rw [if_neg Bool.false_ne_true] at H
         obtain rfl := Option.some.inj H
         go_enter Try.func12,Try.ntmps12
         go_wp2_with (first | ((with_reducible refine gate_dst (N := 2) rfl ?_);refine bE 2 #[.int .i64 a0_0,.int .i64 a0_1,.int .i64 a0_2,.int .i64 a0_3,.int .i64 a0_4,.int .i64 a0_5,.int .i64 a0_6,.slice A0_7 l0_7.length c0_7] 33 (h := ?_);intro gb591 hg wq1 hbox hb;have n_ := Z98;clear HB;obtain ⟨HB,BK591,GW591,GE591⟩ := n_;clear hb hbox hg) | ((with_reducible refine gate_dst (N := 3) rfl ?_);refine bE 3 #[.int .i64 a1_0,.int .i64 a1_1,.int .i64 a1_2,.int .i64 a1_3,.int .i64 a1_4,.int .i64 a1_5,.int .i64 a1_6,.slice A1_7 l1_7.length c1_7] 33 (h := ?_);intro gb592 hg wq2 hbox hb;have n_ := Z55;clear BK591 HB;obtain ⟨BK591,HB,BK592,GW592,GE592,NB591_592,NB592_591⟩ := n_;clear hb hbox hg;have hnbq3 := NB591_592.out;have hncq3 := NB592_591.out;obtain ⟨hczq4_0,hczq4_1,hczq4_2,hczq4_3,hczq4_4,hczq4_5,hczq4_6,hczq4_7,hfzq4_0,hfzq4_1,hfzq4_2,hfzq4_3,hfzq4_4,hfzq4_5,hfzq4_6,hfzq4_7⟩ := cells8 BK591.out;obtain ⟨hczq5_0,hczq5_1,hczq5_2,hczq5_3,hczq5_4,hczq5_5,hczq5_6,hczq5_7,hfzq5_0,hfzq5_1,hfzq5_2,hfzq5_3,hfzq5_4,hfzq5_5,hfzq5_6,hfzq5_7⟩ := cells8 BK592.out) | ((with_reducible refine gate_callee (f := 43) rfl ?_);refine goesL_ (some 44) rfl rfl Try.func43 Z312 rfl #[.slice A0_7 l0_7.length c0_7,.slice A1_7 l1_7.length c1_7] rfl Z256 ?_;(with_reducible refine (laws_eqIntS.calls k _ _ l0_7 _ _ l1_7 false _ ?side1 ?side2 ?side3 ?side4 A10.out).mono ?_);(case side1 => exact Z224);(case side2 => exact Z311);(case side3 => exact Z225);(case side4 => exact HC1_7.out);rintro e w' ⟨rfl,⟨nd,rfl⟩⟩;refine ⟨_,rfl,?_⟩))
         go_ret
         exact ⟨Z263,Z197⟩
       ·rw [if_neg c9] at H
        have c9b0 : (a0_6 == a1_6) = false := beq_eq_false_iff_ne.mpr c9
        have c9b1 : (a0_6 != a1_6) = true := bne_iff_ne.mpr c9
        obtain rfl := Option.some.inj H
        go_enter Try.func12,Try.ntmps12
        go_wp2_with (first | ((with_reducible refine gate_dst (N := 2) rfl ?_);refine bE 2 #[.int .i64 a0_0,.int .i64 a0_1,.int .i64 a0_2,.int .i64 a0_3,.int .i64 a0_4,.int .i64 a0_5,.int .i64 a0_6,.slice A0_7 l0_7.length c0_7] 33 (h := ?_);intro gb591 hg wq1 hbox hb;have n_ := Z98;clear HB;obtain ⟨HB,BK591,GW591,GE591⟩ := n_;clear hb hbox hg) | ((with_reducible refine gate_dst (N := 3) rfl ?_);refine bE 3 #[.int .i64 a1_0,.int .i64 a1_1,.int .i64 a1_2,.int .i64 a1_3,.int .i64 a1_4,.int .i64 a1_5,.int .i64 a1_6,.slice A1_7 l1_7.length c1_7] 33 (h := ?_);intro gb592 hg wq2 hbox hb;have n_ := Z55;clear BK591 HB;obtain ⟨BK591,HB,BK592,GW592,GE592,NB591_592,NB592_591⟩ := n_;clear hb hbox hg;have hnbq3 := NB591_592.out;have hncq3 := NB592_591.out;obtain ⟨hczq4_0,hczq4_1,hczq4_2,hczq4_3,hczq4_4,hczq4_5,hczq4_6,hczq4_7,hfzq4_0,hfzq4_1,hfzq4_2,hfzq4_3,hfzq4_4,hfzq4_5,hfzq4_6,hfzq4_7⟩ := cells8 BK591.out;obtain ⟨hczq5_0,hczq5_1,hczq5_2,hczq5_3,hczq5_4,hczq5_5,hczq5_6,hczq5_7,hfzq5_0,hfzq5_1,hfzq5_2,hfzq5_3,hfzq5_4,hfzq5_5,hfzq5_6,hfzq5_7⟩ := cells8 BK592.out))
        go_ret
        exact ⟨Z263,Z197⟩
      ·rw [if_neg c8] at H
       have c8b0 : (a0_5 == a1_5) = false := beq_eq_false_iff_ne.mpr c8
       have c8b1 : (a0_5 != a1_5) = true := bne_iff_ne.mpr c8
       obtain rfl := Option.some.inj H
       go_enter Try.func12,Try.ntmps12
       go_wp2_with (first | ((with_reducible refine gate_dst (N := 2) rfl ?_);refine bE 2 #[.int .i64 a0_0,.int .i64 a0_1,.int .i64 a0_2,.int .i64 a0_3,.int .i64 a0_4,.int .i64 a0_5,.int .i64 a0_6,.slice A0_7 l0_7.length c0_7] 33 (h := ?_);intro gb591 hg wq1 hbox hb;have n_ := Z98;clear HB;obtain ⟨HB,BK591,GW591,GE591⟩ := n_;clear hb hbox hg) | ((with_reducible refine gate_dst (N := 3) rfl ?_);refine bE 3 #[.int .i64 a1_0,.int .i64 a1_1,.int .i64 a1_2,.int .i64 a1_3,.int .i64 a1_4,.int .i64 a1_5,.int .i64 a1_6,.slice A1_7 l1_7.length c1_7] 33 (h := ?_);intro gb592 hg wq2 hbox hb;have n_ := Z55;clear BK591 HB;obtain ⟨BK591,HB,BK592,GW592,GE592,NB591_592,NB592_591⟩ := n_;clear hb hbox hg;have hnbq3 := NB591_592.out;have hncq3 := NB592_591.out;obtain ⟨hczq4_0,hczq4_1,hczq4_2,hczq4_3,hczq4_4,hczq4_5,hczq4_6,hczq4_7,hfzq4_0,hfzq4_1,hfzq4_2,hfzq4_3,hfzq4_4,hfzq4_5,hfzq4_6,hfzq4_7⟩ := cells8 BK591.out;obtain ⟨hczq5_0,hczq5_1,hczq5_2,hczq5_3,hczq5_4,hczq5_5,hczq5_6,hczq5_7,hfzq5_0,hfzq5_1,hfzq5_2,hfzq5_3,hfzq5_4,hfzq5_5,hfzq5_6,hfzq5_7⟩ := cells8 BK592.out))
       go_ret
       exact ⟨Z263,Z197⟩
     ·rw [if_neg c7] at H
      have c7b0 : (a0_4 == a1_4) = false := beq_eq_false_iff_ne.mpr c7
      have c7b1 : (a0_4 != a1_4) = true := bne_iff_ne.mpr c7
      obtain rfl := Option.some.inj H
      go_enter Try.func12,Try.ntmps12
      go_wp2_with (first | ((with_reducible refine gate_dst (N := 2) rfl ?_);refine bE 2 #[.int .i64 a0_0,.int .i64 a0_1,.int .i64 a0_2,.int .i64 a0_3,.int .i64 a0_4,.int .i64 a0_5,.int .i64 a0_6,.slice A0_7 l0_7.length c0_7] 33 (h := ?_);intro gb591 hg wq1 hbox hb;have n_ := Z98;clear HB;obtain ⟨HB,BK591,GW591,GE591⟩ := n_;clear hb hbox hg) | ((with_reducible refine gate_dst (N := 3) rfl ?_);refine bE 3 #[.int .i64 a1_0,.int .i64 a1_1,.int .i64 a1_2,.int .i64 a1_3,.int .i64 a1_4,.int .i64 a1_5,.int .i64 a1_6,.slice A1_7 l1_7.length c1_7] 33 (h := ?_);intro gb592 hg wq2 hbox hb;have n_ := Z55;clear BK591 HB;obtain ⟨BK591,HB,BK592,GW592,GE592,NB591_592,NB592_591⟩ := n_;clear hb hbox hg;have hnbq3 := NB591_592.out;have hncq3 := NB592_591.out;obtain ⟨hczq4_0,hczq4_1,hczq4_2,hczq4_3,hczq4_4,hczq4_5,hczq4_6,hczq4_7,hfzq4_0,hfzq4_1,hfzq4_2,hfzq4_3,hfzq4_4,hfzq4_5,hfzq4_6,hfzq4_7⟩ := cells8 BK591.out;obtain ⟨hczq5_0,hczq5_1,hczq5_2,hczq5_3,hczq5_4,hczq5_5,hczq5_6,hczq5_7,hfzq5_0,hfzq5_1,hfzq5_2,hfzq5_3,hfzq5_4,hfzq5_5,hfzq5_6,hfzq5_7⟩ := cells8 BK592.out))
      go_ret
      exact ⟨Z263,Z197⟩
    ·rw [if_neg c6] at H
     have c6b0 : (a0_3 == a1_3) = false := beq_eq_false_iff_ne.mpr c6
     have c6b1 : (a0_3 != a1_3) = true := bne_iff_ne.mpr c6
     obtain rfl := Option.some.inj H
     go_enter Try.func12,Try.ntmps12
     go_wp2_with (first | ((with_reducible refine gate_dst (N := 2) rfl ?_);refine bE 2 #[.int .i64 a0_0,.int .i64 a0_1,.int .i64 a0_2,.int .i64 a0_3,.int .i64 a0_4,.int .i64 a0_5,.int .i64 a0_6,.slice A0_7 l0_7.length c0_7] 33 (h := ?_);intro gb591 hg wq1 hbox hb;have n_ := Z98;clear HB;obtain ⟨HB,BK591,GW591,GE591⟩ := n_;clear hb hbox hg) | ((with_reducible refine gate_dst (N := 3) rfl ?_);refine bE 3 #[.int .i64 a1_0,.int .i64 a1_1,.int .i64 a1_2,.int .i64 a1_3,.int .i64 a1_4,.int .i64 a1_5,.int .i64 a1_6,.slice A1_7 l1_7.length c1_7] 33 (h := ?_);intro gb592 hg wq2 hbox hb;have n_ := Z55;clear BK591 HB;obtain ⟨BK591,HB,BK592,GW592,GE592,NB591_592,NB592_591⟩ := n_;clear hb hbox hg;have hnbq3 := NB591_592.out;have hncq3 := NB592_591.out;obtain ⟨hczq4_0,hczq4_1,hczq4_2,hczq4_3,hczq4_4,hczq4_5,hczq4_6,hczq4_7,hfzq4_0,hfzq4_1,hfzq4_2,hfzq4_3,hfzq4_4,hfzq4_5,hfzq4_6,hfzq4_7⟩ := cells8 BK591.out;obtain ⟨hczq5_0,hczq5_1,hczq5_2,hczq5_3,hczq5_4,hczq5_5,hczq5_6,hczq5_7,hfzq5_0,hfzq5_1,hfzq5_2,hfzq5_3,hfzq5_4,hfzq5_5,hfzq5_6,hfzq5_7⟩ := cells8 BK592.out))
     go_ret
     exact ⟨Z263,Z197⟩
   ·rw [if_neg c5] at H
    have c5b0 : (a0_2 == a1_2) = false := beq_eq_false_iff_ne.mpr c5
    have c5b1 : (a0_2 != a1_2) = true := bne_iff_ne.mpr c5
    obtain rfl := Option.some.inj H
    go_enter Try.func12,Try.ntmps12
    go_wp2_with (first | ((with_reducible refine gate_dst (N := 2) rfl ?_);refine bE 2 #[.int .i64 a0_0,.int .i64 a0_1,.int .i64 a0_2,.int .i64 a0_3,.int .i64 a0_4,.int .i64 a0_5,.int .i64 a0_6,.slice A0_7 l0_7.length c0_7] 33 (h := ?_);intro gb591 hg wq1 hbox hb;have n_ := Z98;clear HB;obtain ⟨HB,BK591,GW591,GE591⟩ := n_;clear hb hbox hg) | ((with_reducible refine gate_dst (N := 3) rfl ?_);refine bE 3 #[.int .i64 a1_0,.int .i64 a1_1,.int .i64 a1_2,.int .i64 a1_3,.int .i64 a1_4,.int .i64 a1_5,.int .i64 a1_6,.slice A1_7 l1_7.length c1_7] 33 (h := ?_);intro gb592 hg wq2 hbox hb;have n_ := Z55;clear BK591 HB;obtain ⟨BK591,HB,BK592,GW592,GE592,NB591_592,NB592_591⟩ := n_;clear hb hbox hg;have hnbq3 := NB591_592.out;have hncq3 := NB592_591.out;obtain ⟨hczq4_0,hczq4_1,hczq4_2,hczq4_3,hczq4_4,hczq4_5,hczq4_6,hczq4_7,hfzq4_0,hfzq4_1,hfzq4_2,hfzq4_3,hfzq4_4,hfzq4_5,hfzq4_6,hfzq4_7⟩ := cells8 BK591.out;obtain ⟨hczq5_0,hczq5_1,hczq5_2,hczq5_3,hczq5_4,hczq5_5,hczq5_6,hczq5_7,hfzq5_0,hfzq5_1,hfzq5_2,hfzq5_3,hfzq5_4,hfzq5_5,hfzq5_6,hfzq5_7⟩ := cells8 BK592.out))
    go_ret
    exact ⟨Z263,Z197⟩
  ·rw [if_neg c4] at H
   have c4b0 : (a0_1 == a1_1) = false := beq_eq_false_iff_ne.mpr c4
   have c4b1 : (a0_1 != a1_1) = true := bne_iff_ne.mpr c4
   obtain rfl := Option.some.inj H
   go_enter Try.func12,Try.ntmps12
   go_wp2_with (first | ((with_reducible refine gate_dst (N := 2) rfl ?_);refine bE 2 #[.int .i64 a0_0,.int .i64 a0_1,.int .i64 a0_2,.int .i64 a0_3,.int .i64 a0_4,.int .i64 a0_5,.int .i64 a0_6,.slice A0_7 l0_7.length c0_7] 33 (h := ?_);intro gb591 hg wq1 hbox hb;have n_ := Z98;clear HB;obtain ⟨HB,BK591,GW591,GE591⟩ := n_;clear hb hbox hg) | ((with_reducible refine gate_dst (N := 3) rfl ?_);refine bE 3 #[.int .i64 a1_0,.int .i64 a1_1,.int .i64 a1_2,.int .i64 a1_3,.int .i64 a1_4,.int .i64 a1_5,.int .i64 a1_6,.slice A1_7 l1_7.length c1_7] 33 (h := ?_);intro gb592 hg wq2 hbox hb;have n_ := Z55;clear BK591 HB;obtain ⟨BK591,HB,BK592,GW592,GE592,NB591_592,NB592_591⟩ := n_;clear hb hbox hg;have hnbq3 := NB591_592.out;have hncq3 := NB592_591.out;obtain ⟨hczq4_0,hczq4_1,hczq4_2,hczq4_3,hczq4_4,hczq4_5,hczq4_6,hczq4_7,hfzq4_0,hfzq4_1,hfzq4_2,hfzq4_3,hfzq4_4,hfzq4_5,hfzq4_6,hfzq4_7⟩ := cells8 BK591.out;obtain ⟨hczq5_0,hczq5_1,hczq5_2,hczq5_3,hczq5_4,hczq5_5,hczq5_6,hczq5_7,hfzq5_0,hfzq5_1,hfzq5_2,hfzq5_3,hfzq5_4,hfzq5_5,hfzq5_6,hfzq5_7⟩ := cells8 BK592.out))
   go_ret
   exact ⟨Z263,Z197⟩
 ·rw [if_neg c3] at H
  have c3b0 : (a0_0 == a1_0) = false := beq_eq_false_iff_ne.mpr c3
  have c3b1 : (a0_0 != a1_0) = true := bne_iff_ne.mpr c3
  obtain rfl := Option.some.inj H
  go_enter Try.func12,Try.ntmps12
  go_wp2_with (first | ((with_reducible refine gate_dst (N := 2) rfl ?_);refine bE 2 #[.int .i64 a0_0,.int .i64 a0_1,.int .i64 a0_2,.int .i64 a0_3,.int .i64 a0_4,.int .i64 a0_5,.int .i64 a0_6,.slice A0_7 l0_7.length c0_7] 33 (h := ?_);intro gb591 hg wq1 hbox hb;have n_ := Z98;clear HB;obtain ⟨HB,BK591,GW591,GE591⟩ := n_;clear hb hbox hg) | ((with_reducible refine gate_dst (N := 3) rfl ?_);refine bE 3 #[.int .i64 a1_0,.int .i64 a1_1,.int .i64 a1_2,.int .i64 a1_3,.int .i64 a1_4,.int .i64 a1_5,.int .i64 a1_6,.slice A1_7 l1_7.length c1_7] 33 (h := ?_);intro gb592 hg wq2 hbox hb;have n_ := Z55;clear BK591 HB;obtain ⟨BK591,HB,BK592,GW592,GE592,NB591_592,NB592_591⟩ := n_;clear hb hbox hg;have hnbq3 := NB591_592.out;have hncq3 := NB592_591.out;obtain ⟨hczq4_0,hczq4_1,hczq4_2,hczq4_3,hczq4_4,hczq4_5,hczq4_6,hczq4_7,hfzq4_0,hfzq4_1,hfzq4_2,hfzq4_3,hfzq4_4,hfzq4_5,hfzq4_6,hfzq4_7⟩ := cells8 BK591.out;obtain ⟨hczq5_0,hczq5_1,hczq5_2,hczq5_3,hczq5_4,hczq5_5,hczq5_6,hczq5_7,hfzq5_0,hfzq5_1,hfzq5_2,hfzq5_3,hfzq5_4,hfzq5_5,hfzq5_6,hfzq5_7⟩ := cells8 BK592.out))
  go_ret
  exact ⟨Z263,Z197⟩

end Go.Proofs.Ytaepeajaefpooaa.QFnExactMayPart
