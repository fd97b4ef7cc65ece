/- The machine side of FnConfig: what each Go function that it reaches comes to. Conditions: none. -/
import Derived.Test.YtepnbcdbagjmbaeGreatDoorQFnConfigx0
import Derived.Test.YtepnbcdbagjmbaeGreatDoorQFnConfigx5
namespace Go.Proofs.YtepnbcdbagjmbaeGreatDoor.QFnConfig
open Go.RowKit Go.Proofs.YtepnbcdbagjmbaeGreatDoorW.PrintWords Go.Proofs.YtepnbcdbagjmbaeGreatDoorW.PrintLast Go.Proofs.YtepnbcdbagjmbaeGreatDoorW.PrintMore
attribute [local go_sem] max2_int min2_int max_two min_two max_three min_three max_four min_four   -- for this text's walks alone
set_option linter.unusedVariables false
set_option linter.unusedSimpArgs false

/-! ### impl_ConfigText: function 6 -/
def impl_ConfigText.f (k : Nat) (a0_0 : Int) (a0_1 : Int) (a0_2 : Int) (a0_3 : Int) (a0_4 : Int) (a0_5 : Int) (a0_6 : Int) (l0_7 : List Int) : Option (ByteArray) := (impl_ConfigOk.f k a0_0 a0_1 a0_2 a0_3 a0_4 a0_5 a0_6 l0_7).bind fun t275 => (if t275 = true then ((impl_Digits.f a0_0).bind fun t276 => (if 7 + t276.size ≤ 9223372036854775807 then (if ((⟨#[114,111,117,110,100,115,61]⟩ : ByteArray) ++ t276).size + 7 ≤ 9223372036854775807 then ((impl_Digits.f a0_1).bind fun t277 => (if (((⟨#[114,111,117,110,100,115,61]⟩ : ByteArray) ++ t276) ++ (⟨#[10,100,101,112,116,104,61]⟩ : ByteArray)).size + t277.size ≤ 9223372036854775807 then (if ((((⟨#[114,111,117,110,100,115,61]⟩ : ByteArray) ++ t276) ++ (⟨#[10,100,101,112,116,104,61]⟩ : ByteArray)) ++ t277).size + 6 ≤ 9223372036854775807 then ((impl_Digits.f a0_2).bind fun t278 => (if (((((⟨#[114,111,117,110,100,115,61]⟩ : ByteArray) ++ t276) ++ (⟨#[10,100,101,112,116,104,61]⟩ : ByteArray)) ++ t277) ++ (⟨#[10,98,105,110,115,61]⟩ : ByteArray)).size + t278.size ≤ 9223372036854775807 then (if ((((((⟨#[114,111,117,110,100,115,61]⟩ : ByteArray) ++ t276) ++ (⟨#[10,100,101,112,116,104,61]⟩ : ByteArray)) ++ t277) ++ (⟨#[10,98,105,110,115,61]⟩ : ByteArray)) ++ t278).size + 8 ≤ 9223372036854775807 then ((impl_Digits.f a0_3).bind fun t279 => (if (((((((⟨#[114,111,117,110,100,115,61]⟩ : ByteArray) ++ t276) ++ (⟨#[10,100,101,112,116,104,61]⟩ : ByteArray)) ++ t277) ++ (⟨#[10,98,105,110,115,61]⟩ : ByteArray)) ++ t278) ++ (⟨#[10,108,97,109,98,100,97,61]⟩ : ByteArray)).size + t279.size ≤ 9223372036854775807 then (if ((((((((⟨#[114,111,117,110,100,115,61]⟩ : ByteArray) ++ t276) ++ (⟨#[10,100,101,112,116,104,61]⟩ : ByteArray)) ++ t277) ++ (⟨#[10,98,105,110,115,61]⟩ : ByteArray)) ++ t278) ++ (⟨#[10,108,97,109,98,100,97,61]⟩ : ByteArray)) ++ t279).size + 6 ≤ 9223372036854775807 then ((impl_Digits.f a0_4).bind fun t280 => (if (((((((((⟨#[114,111,117,110,100,115,61]⟩ : ByteArray) ++ t276) ++ (⟨#[10,100,101,112,116,104,61]⟩ : ByteArray)) ++ t277) ++ (⟨#[10,98,105,110,115,61]⟩ : ByteArray)) ++ t278) ++ (⟨#[10,108,97,109,98,100,97,61]⟩ : ByteArray)) ++ t279) ++ (⟨#[10,114,111,119,115,61]⟩ : ByteArray)).size + t280.size ≤ 9223372036854775807 then (if ((((((((((⟨#[114,111,117,110,100,115,61]⟩ : ByteArray) ++ t276) ++ (⟨#[10,100,101,112,116,104,61]⟩ : ByteArray)) ++ t277) ++ (⟨#[10,98,105,110,115,61]⟩ : ByteArray)) ++ t278) ++ (⟨#[10,108,97,109,98,100,97,61]⟩ : ByteArray)) ++ t279) ++ (⟨#[10,114,111,119,115,61]⟩ : ByteArray)) ++ t280).size + 6 ≤ 9223372036854775807 then ((impl_Digits.f a0_5).bind fun t281 => (if (((((((((((⟨#[114,111,117,110,100,115,61]⟩ : ByteArray) ++ t276) ++ (⟨#[10,100,101,112,116,104,61]⟩ : ByteArray)) ++ t277) ++ (⟨#[10,98,105,110,115,61]⟩ : ByteArray)) ++ t278) ++ (⟨#[10,108,97,109,98,100,97,61]⟩ : ByteArray)) ++ t279) ++ (⟨#[10,114,111,119,115,61]⟩ : ByteArray)) ++ t280) ++ (⟨#[10,114,97,116,101,61]⟩ : ByteArray)).size + t281.size ≤ 9223372036854775807 then (if ((((((((((((⟨#[114,111,117,110,100,115,61]⟩ : ByteArray) ++ t276) ++ (⟨#[10,100,101,112,116,104,61]⟩ : ByteArray)) ++ t277) ++ (⟨#[10,98,105,110,115,61]⟩ : ByteArray)) ++ t278) ++ (⟨#[10,108,97,109,98,100,97,61]⟩ : ByteArray)) ++ t279) ++ (⟨#[10,114,111,119,115,61]⟩ : ByteArray)) ++ t280) ++ (⟨#[10,114,97,116,101,61]⟩ : ByteArray)) ++ t281).size + 1 ≤ 9223372036854775807 then ((impl_Digits.f a0_6).bind fun t282 => (if (((((((((((((⟨#[114,111,117,110,100,115,61]⟩ : ByteArray) ++ t276) ++ (⟨#[10,100,101,112,116,104,61]⟩ : ByteArray)) ++ t277) ++ (⟨#[10,98,105,110,115,61]⟩ : ByteArray)) ++ t278) ++ (⟨#[10,108,97,109,98,100,97,61]⟩ : ByteArray)) ++ t279) ++ (⟨#[10,114,111,119,115,61]⟩ : ByteArray)) ++ t280) ++ (⟨#[10,114,97,116,101,61]⟩ : ByteArray)) ++ t281) ++ (⟨#[47]⟩ : ByteArray)).size + t282.size ≤ 9223372036854775807 then (if ((((((((((((((⟨#[114,111,117,110,100,115,61]⟩ : ByteArray) ++ t276) ++ (⟨#[10,100,101,112,116,104,61]⟩ : ByteArray)) ++ t277) ++ (⟨#[10,98,105,110,115,61]⟩ : ByteArray)) ++ t278) ++ (⟨#[10,108,97,109,98,100,97,61]⟩ : ByteArray)) ++ t279) ++ (⟨#[10,114,111,119,115,61]⟩ : ByteArray)) ++ t280) ++ (⟨#[10,114,97,116,101,61]⟩ : ByteArray)) ++ t281) ++ (⟨#[47]⟩ : ByteArray)) ++ t282).size + 1 ≤ 9223372036854775807 then (if (l0_7.length : Int) > 0 then ((impl_signsText.f k l0_7).bind fun t283 => (if 6 + t283.size ≤ 9223372036854775807 then (if ((⟨#[115,105,103,110,115,61]⟩ : ByteArray) ++ t283).size + 1 ≤ 9223372036854775807 then (if (((((((((((((((⟨#[114,111,117,110,100,115,61]⟩ : ByteArray) ++ t276) ++ (⟨#[10,100,101,112,116,104,61]⟩ : ByteArray)) ++ t277) ++ (⟨#[10,98,105,110,115,61]⟩ : ByteArray)) ++ t278) ++ (⟨#[10,108,97,109,98,100,97,61]⟩ : ByteArray)) ++ t279) ++ (⟨#[10,114,111,119,115,61]⟩ : ByteArray)) ++ t280) ++ (⟨#[10,114,97,116,101,61]⟩ : ByteArray)) ++ t281) ++ (⟨#[47]⟩ : ByteArray)) ++ t282) ++ (⟨#[10]⟩ : ByteArray)).size + (((⟨#[115,105,103,110,115,61]⟩ : ByteArray) ++ t283) ++ (⟨#[10]⟩ : ByteArray)).size ≤ 9223372036854775807 then (some ((((((((((((((((⟨#[114,111,117,110,100,115,61]⟩ : ByteArray) ++ t276) ++ (⟨#[10,100,101,112,116,104,61]⟩ : ByteArray)) ++ t277) ++ (⟨#[10,98,105,110,115,61]⟩ : ByteArray)) ++ t278) ++ (⟨#[10,108,97,109,98,100,97,61]⟩ : ByteArray)) ++ t279) ++ (⟨#[10,114,111,119,115,61]⟩ : ByteArray)) ++ t280) ++ (⟨#[10,114,97,116,101,61]⟩ : ByteArray)) ++ t281) ++ (⟨#[47]⟩ : ByteArray)) ++ t282) ++ (⟨#[10]⟩ : ByteArray)) ++ (((⟨#[115,105,103,110,115,61]⟩ : ByteArray) ++ t283) ++ (⟨#[10]⟩ : ByteArray)))) else (none)) else (none)) else (none))) else (some (((((((((((((((⟨#[114,111,117,110,100,115,61]⟩ : ByteArray) ++ t276) ++ (⟨#[10,100,101,112,116,104,61]⟩ : ByteArray)) ++ t277) ++ (⟨#[10,98,105,110,115,61]⟩ : ByteArray)) ++ t278) ++ (⟨#[10,108,97,109,98,100,97,61]⟩ : ByteArray)) ++ t279) ++ (⟨#[10,114,111,119,115,61]⟩ : ByteArray)) ++ t280) ++ (⟨#[10,114,97,116,101,61]⟩ : ByteArray)) ++ t281) ++ (⟨#[47]⟩ : ByteArray)) ++ t282) ++ (⟨#[10]⟩ : ByteArray)))) else (none)) else (none))) else (none)) else (none))) else (none)) else (none))) else (none)) else (none))) else (none)) else (none))) else (none)) else (none))) else (none)) else (none))) else (some (⟨#[]⟩ : ByteArray)))
theorem impl_ConfigText.mono : ∀ a0 a1 a2 a3 a4 a5 a6 a7 k,LeO (impl_ConfigText.f k a0 a1 a2 a3 a4 a5 a6 a7) (impl_ConfigText.f (k + 1) a0 a1 a2 a3 a4 a5 a6 a7) := by
 intro a0 a1 a2 a3 a4 a5 a6 a7 k
 unfold impl_ConfigText.f
 repeat' first
   | (with_reducible exact impl_ConfigOk.mono _ _ _ _ _ _ _ _ _)
   | (with_reducible exact impl_signsText.mono _ _)
   | (with_reducible exact LeO.refl _)
   | (with_reducible exact LeO.none _)
   | (with_reducible refine LeO.ite ?_ ?_)
   | (with_reducible refine LeO.bind ?_ (fun _ => ?_))
   | exact impl_ConfigOk.mono _ _ _ _ _ _ _ _ _
   | exact impl_signsText.mono _ _
   | exact LeO.none _
   | refine LeO.ite ?_ ?_
   | refine LeO.bind ?_ (fun _ => ?_)
def impl_ConfigText.T3 : Bool × List (List Nat × List Nat) := (true,[([],[]),([0],[0]),([1],[1]),([2],[2]),([3],[3]),([],[]),([5],[5]),([6,2],[6]),([4,7],[4,7]),([8],[8]),([],[]),([10],[10]),([11,7],[11]),([9,12],[9,12]),([13],[13]),([],[]),([15],[15]),([16,12],[16]),([14,17],[14,17]),([18],[18]),([],[]),([20],[20]),([21,17],[21]),([19,22],[19,22]),([23],[23]),([],[]),([25],[25]),([26,22],[26]),([24,27],[24,27]),([28],[28]),([],[]),([30],[30]),([31,27],[31]),([29,32],[29,32]),([33],[33]),([34,32,0,1,2,3,4,5,6,7,8,9,10,11,12,13,14,15,16,17,18,19,20,21,22,23,24,25,26,27,28,29,30,31,32,33,34],[34])])
def impl_ConfigText.B3 : List Nat := [0,1,3,7,15,0,32,103,255,511,0,1024,3303,8191,16383,0,32768,105703,262143,524287,0,1048576,3382503,8388607,16777215,0,33554432,108240103,268435455,536870911,0,1073741824,3463683303,8589934591,17179869183,34359738367]
theorem impl_ConfigText.tab3 : rtab .any (opsOf Tryz.f6 3) = impl_ConfigText.T3 := by kernel_rfl
theorem impl_ConfigText.bits3 : waitsOk impl_ConfigText.T3.2 impl_ConfigText.B3 = true := by kernel_rfl
set_option maxHeartbeats 8000000 in
set_option maxRecDepth 100000 in
theorem impl_ConfigText.calls (k : Nat) (a0_0 : Int) (a0_1 : Int) (a0_2 : Int) (a0_3 : Int) (a0_4 : Int) (a0_5 : Int) (a0_6 : Int) (A0_7 : Option Addr) (c0_7 : Nat) (l0_7 : List Int) (r : ByteArray) (w : World) (hr0_7 : Kd.C (Kd.int .i64) w A0_7 l0_7.length l0_7) (hc0_7 : l0_7.length ≤ c0_7) (hG : GT w) (h : impl_ConfigText.f k a0_0 a0_1 a0_2 a0_3 a0_4 a0_5 a0_6 l0_7 = some r) :
  Calls Tryz.prog 6 #[.agg #[.int .i64 a0_0,.int .i64 a0_1,.int .i64 a0_2,.int .i64 a0_3,.int .i64 a0_4,.int .i64 a0_5,.int .i64 a0_6,.slice A0_7 l0_7.length c0_7]] w fun e w' => e = .returned (.string r) ∧ Below w.heap.size w w' := by
 have HG := Aside0.mk hG
 clear hG
 have hu26 := Tryz.underlying26
 have HR0_7 := Aside0.mk hr0_7
 have HC0_7 := Aside0.mk hc0_7
 clear hr0_7 hc0_7
 have HB := Aside0.mk (Below.refl w.heap.size w)
 have H := h
 clear h
 unfold impl_ConfigText.f at H
 obtain ⟨t275,A20,H⟩ := Option.bind_eq_some_iff.mp H
 have A2 := Aside0.mk A20
 clear A20
 by_cases c3 : t275 = true
 rotate_left
 ·replace c3 := Bool.eq_false_iff.mpr c3
  subst c3
  rw [if_neg Bool.false_ne_true] at H
  obtain rfl := Option.some.inj H
  go_enter Tryz.func6,Tryz.ntmps6
  go_wp2_with (first | ((with_reducible refine gate_dst (N := 1) rfl ?_);refine bE 1 #[.int .i64 a0_0,.int .i64 a0_1,.int .i64 a0_2,.int .i64 a0_3,.int .i64 a0_4,.int .i64 a0_5,.int .i64 a0_6,.slice A0_7 l0_7.length c0_7] 26 (h := ?_);intro gb274 hg wq1 hbox hb;have n_ := Z45;clear HB;obtain ⟨HB,BK274,GW274,GE274⟩ := n_;clear hb hbox hg;obtain ⟨hczq2_0,hczq2_1,hczq2_2,hczq2_3,hczq2_4,hczq2_5,hczq2_6,hczq2_7,hfzq2_0,hfzq2_1,hfzq2_2,hfzq2_3,hfzq2_4,hfzq2_5,hfzq2_6,hfzq2_7⟩ := cells8 BK274.out) | ((with_reducible refine gate_callee (f := 8) rfl ?_);refine goesL_ (some 5) rfl rfl Tryz.func8 Z190 rfl #[.agg #[.int .i64 a0_0,.int .i64 a0_1,.int .i64 a0_2,.int .i64 a0_3,.int .i64 a0_4,.int .i64 a0_5,.int .i64 a0_6,.slice A0_7 l0_7.length c0_7]] rfl Z130 ?_;(with_reducible refine (impl_ConfigOk.calls k a0_0 a0_1 a0_2 a0_3 a0_4 a0_5 a0_6 _ _ l0_7 false _ ?side1 ?side2 A2.out).mono ?_);(case side1 => exact Z103);(case side2 => exact Z186);rintro e wq3 ⟨rfl,hb⟩;refine ⟨_,rfl,?_⟩;have n_ := Z53;clear BK274 HB;obtain ⟨BK274,HB⟩ := n_;(try clear hb);(try clear hb2);(try clear hk);(try clear hi)))
  go_ret
  exact ⟨Z152,Z242⟩
 subst c3
 rw [if_pos rfl] at H
 obtain ⟨t276,A40,H⟩ := Option.bind_eq_some_iff.mp H
 have A4 := Aside0.mk A40
 clear A40
 obtain ⟨c5,H⟩ := ifp H
 have c5b0 := eq_true c5
 have c5b1 : decide (7 + t276.size ≤ 9223372036854775807) = true := decide_eq_true c5
 try have c5b2 : (9223372036854775807 < 7 + t276.size) = False := eq_false (Nat.not_lt.2 c5)
 obtain ⟨c6,H⟩ := ifp H
 have c6b0 := eq_true c6
 have c6b1 : decide (((⟨#[114,111,117,110,100,115,61]⟩ : ByteArray) ++ t276).size + 7 ≤ 9223372036854775807) = true := decide_eq_true c6
 try have c6b2 : (9223372036854775807 < ((⟨#[114,111,117,110,100,115,61]⟩ : ByteArray) ++ t276).size + 7) = False := eq_false (Nat.not_lt.2 c6)
 try (have c6b3 := c6b2; simp only [ByteArray.size_append] at c6b3)
 try (have c6b4 := c6b3; simp only [show ∀ b0_ : UInt8, (⟨#[b0_]⟩ : ByteArray).size = 1 from fun _ => rfl, show ∀ b0_ b1_ b2_ b3_ b4_ b5_ : UInt8, (⟨#[b0_,b1_,b2_,b3_,b4_,b5_]⟩ : ByteArray).size = 6 from fun _ _ _ _ _ _ => rfl, show ∀ b0_ b1_ b2_ b3_ b4_ b5_ b6_ : UInt8, (⟨#[b0_,b1_,b2_,b3_,b4_,b5_,b6_]⟩ : ByteArray).size = 7 from fun _ _ _ _ _ _ _ => rfl, show ∀ b0_ b1_ b2_ b3_ b4_ b5_ b6_ b7_ : UInt8, (⟨#[b0_,b1_,b2_,b3_,b4_,b5_,b6_,b7_]⟩ : ByteArray).size = 8 from fun _ _ _ _ _ _ _ _ => rfl] at c6b4)
 obtain ⟨t277,A70,H⟩ := Option.bind_eq_some_iff.mp H
 have A7 := Aside0.mk A70
 clear A70
 obtain ⟨c8,H⟩ := ifp H
 have c8b0 := eq_true c8
 have c8b1 : decide ((((⟨#[114,111,117,110,100,115,61]⟩ : ByteArray) ++ t276) ++ (⟨#[10,100,101,112,116,104,61]⟩ : ByteArray)).size + t277.size ≤ 9223372036854775807) = true := decide_eq_true c8
 try have c8b2 : (9223372036854775807 < (((⟨#[114,111,117,110,100,115,61]⟩ : ByteArray) ++ t276) ++ (⟨#[10,100,101,112,116,104,61]⟩ : ByteArray)).size + t277.size) = False := eq_false (Nat.not_lt.2 c8)
 try (have c8b3 := c8b2; simp only [ByteArray.size_append] at c8b3)
 try (have c8b4 := c8b3; simp only [show ∀ b0_ : UInt8, (⟨#[b0_]⟩ : ByteArray).size = 1 from fun _ => rfl, show ∀ b0_ b1_ b2_ b3_ b4_ b5_ : UInt8, (⟨#[b0_,b1_,b2_,b3_,b4_,b5_]⟩ : ByteArray).size = 6 from fun _ _ _ _ _ _ => rfl, show ∀ b0_ b1_ b2_ b3_ b4_ b5_ b6_ : UInt8, (⟨#[b0_,b1_,b2_,b3_,b4_,b5_,b6_]⟩ : ByteArray).size = 7 from fun _ _ _ _ _ _ _ => rfl, show ∀ b0_ b1_ b2_ b3_ b4_ b5_ b6_ b7_ : UInt8, (⟨#[b0_,b1_,b2_,b3_,b4_,b5_,b6_,b7_]⟩ : ByteArray).size = 8 from fun _ _ _ _ _ _ _ _ => rfl] at c8b4)
 obtain ⟨c9,H⟩ := ifp H
 have c9b0 := eq_true c9
 have c9b1 : decide (((((⟨#[114,111,117,110,100,115,61]⟩ : ByteArray) ++ t276) ++ (⟨#[10,100,101,112,116,104,61]⟩ : ByteArray)) ++ t277).size + 6 ≤ 9223372036854775807) = true := decide_eq_true c9
 try have c9b2 : (9223372036854775807 < ((((⟨#[114,111,117,110,100,115,61]⟩ : ByteArray) ++ t276) ++ (⟨#[10,100,101,112,116,104,61]⟩ : ByteArray)) ++ t277).size + 6) = False := eq_false (Nat.not_lt.2 c9)
 try (have c9b3 := c9b2; simp only [ByteArray.size_append] at c9b3)
 try (have c9b4 := c9b3; simp only [show ∀ b0_ : UInt8, (⟨#[b0_]⟩ : ByteArray).size = 1 from fun _ => rfl, show ∀ b0_ b1_ b2_ b3_ b4_ b5_ : UInt8, (⟨#[b0_,b1_,b2_,b3_,b4_,b5_]⟩ : ByteArray).size = 6 from fun _ _ _ _ _ _ => rfl, show ∀ b0_ b1_ b2_ b3_ b4_ b5_ b6_ : UInt8, (⟨#[b0_,b1_,b2_,b3_,b4_,b5_,b6_]⟩ : ByteArray).size = 7 from fun _ _ _ _ _ _ _ => rfl, show ∀ b0_ b1_ b2_ b3_ b4_ b5_ b6_ b7_ : UInt8, (⟨#[b0_,b1_,b2_,b3_,b4_,b5_,b6_,b7_]⟩ : ByteArray).size = 8 from fun _ _ _ _ _ _ _ _ => rfl] at c9b4)
 obtain ⟨t278,A100,H⟩ := Option.bind_eq_some_iff.mp H
 have A10 := Aside0.mk A100
 clear A100
 obtain ⟨c11,H⟩ := ifp H
 have c11b0 := eq_true c11
 have c11b1 : decide ((((((⟨#[114,111,117,110,100,115,61]⟩ : ByteArray) ++ t276) ++ (⟨#[10,100,101,112,116,104,61]⟩ : ByteArray)) ++ t277) ++ (⟨#[10,98,105,110,115,61]⟩ : ByteArray)).size + t278.size ≤ 9223372036854775807) = true := decide_eq_true c11
 try have c11b2 : (9223372036854775807 < (((((⟨#[114,111,117,110,100,115,61]⟩ : ByteArray) ++ t276) ++ (⟨#[10,100,101,112,116,104,61]⟩ : ByteArray)) ++ t277) ++ (⟨#[10,98,105,110,115,61]⟩ : ByteArray)).size + t278.size) = False := eq_false (Nat.not_lt.2 c11)
 try (have c11b3 := c11b2; simp only [ByteArray.size_append] at c11b3)
 try (have c11b4 := c11b3; simp only [show ∀ b0_ : UInt8, (⟨#[b0_]⟩ : ByteArray).size = 1 from fun _ => rfl, show ∀ b0_ b1_ b2_ b3_ b4_ b5_ : UInt8, (⟨#[b0_,b1_,b2_,b3_,b4_,b5_]⟩ : ByteArray).size = 6 from fun _ _ _ _ _ _ => rfl, show ∀ b0_ b1_ b2_ b3_ b4_ b5_ b6_ : UInt8, (⟨#[b0_,b1_,b2_,b3_,b4_,b5_,b6_]⟩ : ByteArray).size = 7 from fun _ _ _ _ _ _ _ => rfl, show ∀ b0_ b1_ b2_ b3_ b4_ b5_ b6_ b7_ : UInt8, (⟨#[b0_,b1_,b2_,b3_,b4_,b5_,b6_,b7_]⟩ : ByteArray).size = 8 from fun _ _ _ _ _ _ _ _ => rfl] at c11b4)
 obtain ⟨c12,H⟩ := ifp H
 have c12b0 := eq_true c12
 have c12b1 : decide (((((((⟨#[114,111,117,110,100,115,61]⟩ : ByteArray) ++ t276) ++ (⟨#[10,100,101,112,116,104,61]⟩ : ByteArray)) ++ t277) ++ (⟨#[10,98,105,110,115,61]⟩ : ByteArray)) ++ t278).size + 8 ≤ 9223372036854775807) = true := decide_eq_true c12
 try have c12b2 : (9223372036854775807 < ((((((⟨#[114,111,117,110,100,115,61]⟩ : ByteArray) ++ t276) ++ (⟨#[10,100,101,112,116,104,61]⟩ : ByteArray)) ++ t277) ++ (⟨#[10,98,105,110,115,61]⟩ : ByteArray)) ++ t278).size + 8) = False := eq_false (Nat.not_lt.2 c12)
 try (have c12b3 := c12b2; simp only [ByteArray.size_append] at c12b3)
 try (have c12b4 := c12b3; simp only [show ∀ b0_ : UInt8, (⟨#[b0_]⟩ : ByteArray).size = 1 from fun _ => rfl, show ∀ b0_ b1_ b2_ b3_ b4_ b5_ : UInt8, (⟨#[b0_,b1_,b2_,b3_,b4_,b5_]⟩ : ByteArray).size = 6 from fun _ _ _ _ _ _ => rfl, show ∀ b0_ b1_ b2_ b3_ b4_ b5_ b6_ : UInt8, (⟨#[b0_,b1_,b2_,b3_,b4_,b5_,b6_]⟩ : ByteArray).size = 7 from fun _ _ _ _ _ _ _ => rfl, show ∀ b0_ b1_ b2_ b3_ b4_ b5_ b6_ b7_ : UInt8, (⟨#[b0_,b1_,b2_,b3_,b4_,b5_,b6_,b7_]⟩ : ByteArray).size = 8 from fun _ _ _ _ _ _ _ _ => rfl] at c12b4)
 obtain ⟨t279,A130,H⟩ := Option.bind_eq_some_iff.mp H
 have A13 := Aside0.mk A130
 clear A130
 obtain ⟨c14,H⟩ := ifp H
 have c14b0 := eq_true c14
 have c14b1 : decide ((((((((⟨#[114,111,117,110,100,115,61]⟩ : ByteArray) ++ t276) ++ (⟨#[10,100,101,112,116,104,61]⟩ : ByteArray)) ++ t277) ++ (⟨#[10,98,105,110,115,61]⟩ : ByteArray)) ++ t278) ++ (⟨#[10,108,97,109,98,100,97,61]⟩ : ByteArray)).size + t279.size ≤ 9223372036854775807) = true := decide_eq_true c14
 try have c14b2 : (9223372036854775807 < (((((((⟨#[114,111,117,110,100,115,61]⟩ : ByteArray) ++ t276) ++ (⟨#[10,100,101,112,116,104,61]⟩ : ByteArray)) ++ t277) ++ (⟨#[10,98,105,110,115,61]⟩ : ByteArray)) ++ t278) ++ (⟨#[10,108,97,109,98,100,97,61]⟩ : ByteArray)).size + t279.size) = False := eq_false (Nat.not_lt.2 c14)
 try (have c14b3 := c14b2; simp only [ByteArray.size_append] at c14b3)
 try (have c14b4 := c14b3; simp only [show ∀ b0_ : UInt8, (⟨#[b0_]⟩ : ByteArray).size = 1 from fun _ => rfl, show ∀ b0_ b1_ b2_ b3_ b4_ b5_ : UInt8, (⟨#[b0_,b1_,b2_,b3_,b4_,b5_]⟩ : ByteArray).size = 6 from fun _ _ _ _ _ _ => rfl, show ∀ b0_ b1_ b2_ b3_ b4_ b5_ b6_ : UInt8, (⟨#[b0_,b1_,b2_,b3_,b4_,b5_,b6_]⟩ : ByteArray).size = 7 from fun _ _ _ _ _ _ _ => rfl, show ∀ b0_ b1_ b2_ b3_ b4_ b5_ b6_ b7_ : UInt8, (⟨#[b0_,b1_,b2_,b3_,b4_,b5_,b6_,b7_]⟩ : ByteArray).size = 8 from fun _ _ _ _ _ _ _ _ => rfl] at c14b4)
 obtain ⟨c15,H⟩ := ifp H
 have c15b0 := eq_true c15
 have c15b1 : decide (((((((((⟨#[114,111,117,110,100,115,61]⟩ : ByteArray) ++ t276) ++ (⟨#[10,100,101,112,116,104,61]⟩ : ByteArray)) ++ t277) ++ (⟨#[10,98,105,110,115,61]⟩ : ByteArray)) ++ t278) ++ (⟨#[10,108,97,109,98,100,97,61]⟩ : ByteArray)) ++ t279).size + 6 ≤ 9223372036854775807) = true := decide_eq_true c15
 try have c15b2 : (9223372036854775807 < ((((((((⟨#[114,111,117,110,100,115,61]⟩ : ByteArray) ++ t276) ++ (⟨#[10,100,101,112,116,104,61]⟩ : ByteArray)) ++ t277) ++ (⟨#[10,98,105,110,115,61]⟩ : ByteArray)) ++ t278) ++ (⟨#[10,108,97,109,98,100,97,61]⟩ : ByteArray)) ++ t279).size + 6) = False := eq_false (Nat.not_lt.2 c15)
 try (have c15b3 := c15b2; simp only [ByteArray.size_append] at c15b3)
 try (have c15b4 := c15b3; simp only [show ∀ b0_ : UInt8, (⟨#[b0_]⟩ : ByteArray).size = 1 from fun _ => rfl, show ∀ b0_ b1_ b2_ b3_ b4_ b5_ : UInt8, (⟨#[b0_,b1_,b2_,b3_,b4_,b5_]⟩ : ByteArray).size = 6 from fun _ _ _ _ _ _ => rfl, show ∀ b0_ b1_ b2_ b3_ b4_ b5_ b6_ : UInt8, (⟨#[b0_,b1_,b2_,b3_,b4_,b5_,b6_]⟩ : ByteArray).size = 7 from fun _ _ _ _ _ _ _ => rfl, show ∀ b0_ b1_ b2_ b3_ b4_ b5_ b6_ b7_ : UInt8, (⟨#[b0_,b1_,b2_,b3_,b4_,b5_,b6_,b7_]⟩ : ByteArray).size = 8 from fun _ _ _ _ _ _ _ _ => rfl] at c15b4)
 obtain ⟨t280,A160,H⟩ := Option.bind_eq_some_iff.mp H
 have A16 := Aside0.mk A160
 clear A160
 obtain ⟨c17,H⟩ := ifp H
 have c17b0 := eq_true c17
 have c17b1 : decide ((((((((((⟨#[114,111,117,110,100,115,61]⟩ : ByteArray) ++ t276) ++ (⟨#[10,100,101,112,116,104,61]⟩ : ByteArray)) ++ t277) ++ (⟨#[10,98,105,110,115,61]⟩ : ByteArray)) ++ t278) ++ (⟨#[10,108,97,109,98,100,97,61]⟩ : ByteArray)) ++ t279) ++ (⟨#[10,114,111,119,115,61]⟩ : ByteArray)).size + t280.size ≤ 9223372036854775807) = true := decide_eq_true c17
 try have c17b2 : (9223372036854775807 < (((((((((⟨#[114,111,117,110,100,115,61]⟩ : ByteArray) ++ t276) ++ (⟨#[10,100,101,112,116,104,61]⟩ : ByteArray)) ++ t277) ++ (⟨#[10,98,105,110,115,61]⟩ : ByteArray)) ++ t278) ++ (⟨#[10,108,97,109,98,100,97,61]⟩ : ByteArray)) ++ t279) ++ (⟨#[10,114,111,119,115,61]⟩ : ByteArray)).size + t280.size) = False := eq_false (Nat.not_lt.2 c17)
 try (have c17b3 := c17b2; simp only [ByteArray.size_append] at c17b3)
 try (have c17b4 := c17b3; simp only [show ∀ b0_ : UInt8, (⟨#[b0_]⟩ : ByteArray).size = 1 from fun _ => rfl, show ∀ b0_ b1_ b2_ b3_ b4_ b5_ : UInt8, (⟨#[b0_,b1_,b2_,b3_,b4_,b5_]⟩ : ByteArray).size = 6 from fun _ _ _ _ _ _ => rfl, show ∀ b0_ b1_ b2_ b3_ b4_ b5_ b6_ : UInt8, (⟨#[b0_,b1_,b2_,b3_,b4_,b5_,b6_]⟩ : ByteArray).size = 7 from fun _ _ _ _ _ _ _ => rfl, show ∀ b0_ b1_ b2_ b3_ b4_ b5_ b6_ b7_ : UInt8, (⟨#[b0_,b1_,b2_,b3_,b4_,b5_,b6_,b7_]⟩ : ByteArray).size = 8 from fun _ _ _ _ _ _ _ _ => rfl] at c17b4)
 obtain ⟨c18,H⟩ := ifp H
 have c18b0 := eq_true c18
 have c18b1 : decide (((((((((((⟨#[114,111,117,110,100,115,61]⟩ : ByteArray) ++ t276) ++ (⟨#[10,100,101,112,116,104,61]⟩ : ByteArray)) ++ t277) ++ (⟨#[10,98,105,110,115,61]⟩ : ByteArray)) ++ t278) ++ (⟨#[10,108,97,109,98,100,97,61]⟩ : ByteArray)) ++ t279) ++ (⟨#[10,114,111,119,115,61]⟩ : ByteArray)) ++ t280).size + 6 ≤ 9223372036854775807) = true := decide_eq_true c18
 try have c18b2 : (9223372036854775807 < ((((((((((⟨#[114,111,117,110,100,115,61]⟩ : ByteArray) ++ t276) ++ (⟨#[10,100,101,112,116,104,61]⟩ : ByteArray)) ++ t277) ++ (⟨#[10,98,105,110,115,61]⟩ : ByteArray)) ++ t278) ++ (⟨#[10,108,97,109,98,100,97,61]⟩ : ByteArray)) ++ t279) ++ (⟨#[10,114,111,119,115,61]⟩ : ByteArray)) ++ t280).size + 6) = False := eq_false (Nat.not_lt.2 c18)
 try (have c18b3 := c18b2; simp only [ByteArray.size_append] at c18b3)
 try (have c18b4 := c18b3; simp only [show ∀ b0_ : UInt8, (⟨#[b0_]⟩ : ByteArray).size = 1 from fun _ => rfl, show ∀ b0_ b1_ b2_ b3_ b4_ b5_ : UInt8, (⟨#[b0_,b1_,b2_,b3_,b4_,b5_]⟩ : ByteArray).size = 6 from fun _ _ _ _ _ _ => rfl, show ∀ b0_ b1_ b2_ b3_ b4_ b5_ b6_ : UInt8, (⟨#[b0_,b1_,b2_,b3_,b4_,b5_,b6_]⟩ : ByteArray).size = 7 from fun _ _ _ _ _ _ _ => rfl, show ∀ b0_ b1_ b2_ b3_ b4_ b5_ b6_ b7_ : UInt8, (⟨#[b0_,b1_,b2_,b3_,b4_,b5_,b6_,b7_]⟩ : ByteArray).size = 8 from fun _ _ _ _ _ _ _ _ => rfl] at c18b4)
 obtain ⟨t281,A190,H⟩ := Option.bind_eq_some_iff.mp H
 have A19 := Aside0.mk A190
 clear A190
 obtain ⟨c20,H⟩ := ifp H
 have c20b0 := eq_true c20
 have c20b1 : decide ((((((((((((⟨#[114,111,117,110,100,115,61]⟩ : ByteArray) ++ t276) ++ (⟨#[10,100,101,112,116,104,61]⟩ : ByteArray)) ++ t277) ++ (⟨#[10,98,105,110,115,61]⟩ : ByteArray)) ++ t278) ++ (⟨#[10,108,97,109,98,100,97,61]⟩ : ByteArray)) ++ t279) ++ (⟨#[10,114,111,119,115,61]⟩ : ByteArray)) ++ t280) ++ (⟨#[10,114,97,116,101,61]⟩ : ByteArray)).size + t281.size ≤ 9223372036854775807) = true := decide_eq_true c20
 try have c20b2 : (9223372036854775807 < (((((((((((⟨#[114,111,117,110,100,115,61]⟩ : ByteArray) ++ t276) ++ (⟨#[10,100,101,112,116,104,61]⟩ : ByteArray)) ++ t277) ++ (⟨#[10,98,105,110,115,61]⟩ : ByteArray)) ++ t278) ++ (⟨#[10,108,97,109,98,100,97,61]⟩ : ByteArray)) ++ t279) ++ (⟨#[10,114,111,119,115,61]⟩ : ByteArray)) ++ t280) ++ (⟨#[10,114,97,116,101,61]⟩ : ByteArray)).size + t281.size) = False := eq_false (Nat.not_lt.2 c20)
 try (have c20b3 := c20b2; simp only [ByteArray.size_append] at c20b3)
 try (have c20b4 := c20b3; simp only [show ∀ b0_ : UInt8, (⟨#[b0_]⟩ : ByteArray).size = 1 from fun _ => rfl, show ∀ b0_ b1_ b2_ b3_ b4_ b5_ : UInt8, (⟨#[b0_,b1_,b2_,b3_,b4_,b5_]⟩ : ByteArray).size = 6 from fun _ _ _ _ _ _ => rfl, show ∀ b0_ b1_ b2_ b3_ b4_ b5_ b6_ : UInt8, (⟨#[b0_,b1_,b2_,b3_,b4_,b5_,b6_]⟩ : ByteArray).size = 7 from fun _ _ _ _ _ _ _ => rfl, show ∀ b0_ b1_ b2_ b3_ b4_ b5_ b6_ b7_ : UInt8, (⟨#[b0_,b1_,b2_,b3_,b4_,b5_,b6_,b7_]⟩ : ByteArray).size = 8 from fun _ _ _ _ _ _ _ _ => rfl] at c20b4)
 obtain ⟨c21,H⟩ := ifp H
 have c21b0 := eq_true c21
 have c21b1 : decide (((((((((((((⟨#[114,111,117,110,100,115,61]⟩ : ByteArray) ++ t276) ++ (⟨#[10,100,101,112,116,104,61]⟩ : ByteArray)) ++ t277) ++ (⟨#[10,98,105,110,115,61]⟩ : ByteArray)) ++ t278) ++ (⟨#[10,108,97,109,98,100,97,61]⟩ : ByteArray)) ++ t279) ++ (⟨#[10,114,111,119,115,61]⟩ : ByteArray)) ++ t280) ++ (⟨#[10,114,97,116,101,61]⟩ : ByteArray)) ++ t281).size + 1 ≤ 9223372036854775807) = true := decide_eq_true c21
 try have c21b2 : (9223372036854775807 < ((((((((((((⟨#[114,111,117,110,100,115,61]⟩ : ByteArray) ++ t276) ++ (⟨#[10,100,101,112,116,104,61]⟩ : ByteArray)) ++ t277) ++ (⟨#[10,98,105,110,115,61]⟩ : ByteArray)) ++ t278) ++ (⟨#[10,108,97,109,98,100,97,61]⟩ : ByteArray)) ++ t279) ++ (⟨#[10,114,111,119,115,61]⟩ : ByteArray)) ++ t280) ++ (⟨#[10,114,97,116,101,61]⟩ : ByteArray)) ++ t281).size + 1) = False := eq_false (Nat.not_lt.2 c21)
 try (have c21b3 := c21b2; simp only [ByteArray.size_append] at c21b3)
 try (have c21b4 := c21b3; simp only [show ∀ b0_ : UInt8, (⟨#[b0_]⟩ : ByteArray).size = 1 from fun _ => rfl, show ∀ b0_ b1_ b2_ b3_ b4_ b5_ : UInt8, (⟨#[b0_,b1_,b2_,b3_,b4_,b5_]⟩ : ByteArray).size = 6 from fun _ _ _ _ _ _ => rfl, show ∀ b0_ b1_ b2_ b3_ b4_ b5_ b6_ : UInt8, (⟨#[b0_,b1_,b2_,b3_,b4_,b5_,b6_]⟩ : ByteArray).size = 7 from fun _ _ _ _ _ _ _ => rfl, show ∀ b0_ b1_ b2_ b3_ b4_ b5_ b6_ b7_ : UInt8, (⟨#[b0_,b1_,b2_,b3_,b4_,b5_,b6_,b7_]⟩ : ByteArray).size = 8 from fun _ _ _ _ _ _ _ _ => rfl] at c21b4)
 obtain ⟨t282,A220,H⟩ := Option.bind_eq_some_iff.mp H
 have A22 := Aside0.mk A220
 clear A220
 obtain ⟨c23,H⟩ := ifp H
 have c23b0 := eq_true c23
 have c23b1 : decide ((((((((((((((⟨#[114,111,117,110,100,115,61]⟩ : ByteArray) ++ t276) ++ (⟨#[10,100,101,112,116,104,61]⟩ : ByteArray)) ++ t277) ++ (⟨#[10,98,105,110,115,61]⟩ : ByteArray)) ++ t278) ++ (⟨#[10,108,97,109,98,100,97,61]⟩ : ByteArray)) ++ t279) ++ (⟨#[10,114,111,119,115,61]⟩ : ByteArray)) ++ t280) ++ (⟨#[10,114,97,116,101,61]⟩ : ByteArray)) ++ t281) ++ (⟨#[47]⟩ : ByteArray)).size + t282.size ≤ 9223372036854775807) = true := decide_eq_true c23
 try have c23b2 : (9223372036854775807 < (((((((((((((⟨#[114,111,117,110,100,115,61]⟩ : ByteArray) ++ t276) ++ (⟨#[10,100,101,112,116,104,61]⟩ : ByteArray)) ++ t277) ++ (⟨#[10,98,105,110,115,61]⟩ : ByteArray)) ++ t278) ++ (⟨#[10,108,97,109,98,100,97,61]⟩ : ByteArray)) ++ t279) ++ (⟨#[10,114,111,119,115,61]⟩ : ByteArray)) ++ t280) ++ (⟨#[10,114,97,116,101,61]⟩ : ByteArray)) ++ t281) ++ (⟨#[47]⟩ : ByteArray)).size + t282.size) = False := eq_false (Nat.not_lt.2 c23)
 try (have c23b3 := c23b2; simp only [ByteArray.size_append] at c23b3)
 try (have c23b4 := c23b3; simp only [show ∀ b0_ : UInt8, (⟨#[b0_]⟩ : ByteArray).size = 1 from fun _ => rfl, show ∀ b0_ b1_ b2_ b3_ b4_ b5_ : UInt8, (⟨#[b0_,b1_,b2_,b3_,b4_,b5_]⟩ : ByteArray).size = 6 from fun _ _ _ _ _ _ => rfl, show ∀ b0_ b1_ b2_ b3_ b4_ b5_ b6_ : UInt8, (⟨#[b0_,b1_,b2_,b3_,b4_,b5_,b6_]⟩ : ByteArray).size = 7 from fun _ _ _ _ _ _ _ => rfl, show ∀ b0_ b1_ b2_ b3_ b4_ b5_ b6_ b7_ : UInt8, (⟨#[b0_,b1_,b2_,b3_,b4_,b5_,b6_,b7_]⟩ : ByteArray).size = 8 from fun _ _ _ _ _ _ _ _ => rfl] at c23b4)
 obtain ⟨c24,H⟩ := ifp H
 have c24b0 := eq_true c24
 have c24b1 : decide (((((((((((((((⟨#[114,111,117,110,100,115,61]⟩ : ByteArray) ++ t276) ++ (⟨#[10,100,101,112,116,104,61]⟩ : ByteArray)) ++ t277) ++ (⟨#[10,98,105,110,115,61]⟩ : ByteArray)) ++ t278) ++ (⟨#[10,108,97,109,98,100,97,61]⟩ : ByteArray)) ++ t279) ++ (⟨#[10,114,111,119,115,61]⟩ : ByteArray)) ++ t280) ++ (⟨#[10,114,97,116,101,61]⟩ : ByteArray)) ++ t281) ++ (⟨#[47]⟩ : ByteArray)) ++ t282).size + 1 ≤ 9223372036854775807) = true := decide_eq_true c24
 try have c24b2 : (9223372036854775807 < ((((((((((((((⟨#[114,111,117,110,100,115,61]⟩ : ByteArray) ++ t276) ++ (⟨#[10,100,101,112,116,104,61]⟩ : ByteArray)) ++ t277) ++ (⟨#[10,98,105,110,115,61]⟩ : ByteArray)) ++ t278) ++ (⟨#[10,108,97,109,98,100,97,61]⟩ : ByteArray)) ++ t279) ++ (⟨#[10,114,111,119,115,61]⟩ : ByteArray)) ++ t280) ++ (⟨#[10,114,97,116,101,61]⟩ : ByteArray)) ++ t281) ++ (⟨#[47]⟩ : ByteArray)) ++ t282).size + 1) = False := eq_false (Nat.not_lt.2 c24)
 try (have c24b3 := c24b2; simp only [ByteArray.size_append] at c24b3)
 try (have c24b4 := c24b3; simp only [show ∀ b0_ : UInt8, (⟨#[b0_]⟩ : ByteArray).size = 1 from fun _ => rfl, show ∀ b0_ b1_ b2_ b3_ b4_ b5_ : UInt8, (⟨#[b0_,b1_,b2_,b3_,b4_,b5_]⟩ : ByteArray).size = 6 from fun _ _ _ _ _ _ => rfl, show ∀ b0_ b1_ b2_ b3_ b4_ b5_ b6_ : UInt8, (⟨#[b0_,b1_,b2_,b3_,b4_,b5_,b6_]⟩ : ByteArray).size = 7 from fun _ _ _ _ _ _ _ => rfl, show ∀ b0_ b1_ b2_ b3_ b4_ b5_ b6_ b7_ : UInt8, (⟨#[b0_,b1_,b2_,b3_,b4_,b5_,b6_,b7_]⟩ : ByteArray).size = 8 from fun _ _ _ _ _ _ _ _ => rfl] at c24b4)
 by_cases c25 : (l0_7.length : Int) > 0
 rotate_left
 ·rw [if_neg c25] at H
  have c25b0 : decide (0 < (l0_7.length : Int)) = false := decide_eq_false c25
  have c25b1 : decide (0 < l0_7.length) = false := decide_eq_false Z285
  clear c25
  obtain rfl := Option.some.inj H
  go_enter Tryz.func6,Tryz.ntmps6
  try go_wp2_with (first | ((with_reducible refine gate_dst (N := 1) rfl ?_);refine bE 1 #[.int .i64 a0_0,.int .i64 a0_1,.int .i64 a0_2,.int .i64 a0_3,.int .i64 a0_4,.int .i64 a0_5,.int .i64 a0_6,.slice A0_7 l0_7.length c0_7] 26 (h := ?_);intro gb274 hg w43 hbox hb;have n_ := Z45;clear HB;obtain ⟨HB,BK274,GW274,GE274⟩ := n_;clear hb hbox hg;obtain ⟨hcz44_0,hcz44_1,hcz44_2,hcz44_3,hcz44_4,hcz44_5,hcz44_6,hcz44_7,hfz44_0,hfz44_1,hfz44_2,hfz44_3,hfz44_4,hfz44_5,hfz44_6,hfz44_7⟩ := cells8 BK274.out) | ((with_reducible refine gate_callee (f := 8) rfl ?_);refine goesL_ (some 5) rfl rfl Tryz.func8 Z190 rfl #[.agg #[.int .i64 a0_0,.int .i64 a0_1,.int .i64 a0_2,.int .i64 a0_3,.int .i64 a0_4,.int .i64 a0_5,.int .i64 a0_6,.slice A0_7 l0_7.length c0_7]] rfl Z130 ?_;(with_reducible refine (impl_ConfigOk.calls k a0_0 a0_1 a0_2 a0_3 a0_4 a0_5 a0_6 _ _ l0_7 true _ ?side1 ?side2 A2.out).mono ?_);(case side1 => exact Z103);(case side2 => exact Z186);rintro e w45 ⟨rfl,hb⟩;refine ⟨_,rfl,?_⟩;have n_ := Z53;clear BK274 HB;obtain ⟨BK274,HB⟩ := n_;(try clear hb);(try clear hb2);(try clear hk);(try clear hi)))
  have n_ := jA (blk_drew BK274.out) (Aside0.mk (below_drew1 HB.out))
  clear BK274 HB
  obtain ⟨BK274,HB⟩ := n_
  refine start_ (n := 36) (S := fun w' => w'.cell? ⟨gb274,0,none⟩ = some (.int .i64 a0_0) ∧ w'.cell? ⟨gb274,1,none⟩ = some (.int .i64 a0_1) ∧ w'.cell? ⟨gb274,2,none⟩ = some (.int .i64 a0_2) ∧ w'.cell? ⟨gb274,3,none⟩ = some (.int .i64 a0_3) ∧ w'.cell? ⟨gb274,4,none⟩ = some (.int .i64 a0_4) ∧ w'.cell? ⟨gb274,5,none⟩ = some (.int .i64 a0_5) ∧ w'.cell? ⟨gb274,6,none⟩ = some (.int .i64 a0_6) ∧ w'.cell? ⟨gb274,7,none⟩ = some (.slice A0_7 l0_7.length c0_7)) (ds := []) (qM 36 0) Z190 rfl (by kernel_rfl) ⟨bc BK274 0,bc BK274 1,bc BK274 2,bc BK274 3,bc BK274 4,bc BK274 5,bc BK274 6,bc BK274 7⟩ (fun hHeld => ?_);refine with_tabW impl_ConfigText.tab3 impl_ConfigText.bits3 (fun HT_ HW_ => ?_)
  generalize w45.drew = w46 at BK274 HB hHeld ⊢
  refine rP 0 7 36 1 HT_ (h := ?_)
  refine rP 5 12 36 33 HT_ (h := ?_)
  refine rP 10 17 36 1057 HT_ (h := ?_)
  refine rP 15 22 36 33825 HT_ (h := ?_)
  refine rP 20 27 36 1082401 HT_ (h := ?_)
  refine rP 25 32 36 34636833 HT_ (h := ?_)
  refine rP 30 37 36 1108378657 HT_ (h := ?_)
  refine rT8 1 8 36 1108378659 HT_ HW_ hHeld (h := ?_)
  refine rT8 6 13 36 1108378723 HT_ HW_ hHeld (h := ?_)
  refine rT8 11 18 36 1108380771 HT_ HW_ hHeld (h := ?_)
  refine rT8 16 23 36 1108446307 HT_ HW_ hHeld (h := ?_)
  refine rT8 21 28 36 1110543459 HT_ HW_ hHeld (h := ?_)
  refine rT8 26 33 36 1177652323 HT_ HW_ hHeld (h := ?_)
  refine rT8 31 38 36 3325135971 HT_ HW_ hHeld (h := ?_)
  refine rO 2 9 36 3325135975 HT_ (h := fun K hK => ?_)
  refine goes_ Tryz.func17 Z190 rfl #[.int .i64 a0_0] Z191 rfl rfl Z130 ?_
  with_reducible refine (impl_Digits.calls a0_0 t276 _ ?side1 A4.out).mono ?_
  (case side1 => exact Z98)
  rintro e w47 ⟨rfl,hb⟩
  refine ⟨_,rfl,?_⟩
  have n_ := jA (blk_below (g := gb274) (o := .cells #[.int .i64 a0_0,.int .i64 a0_1,.int .i64 a0_2,.int .i64 a0_3,.int .i64 a0_4,.int .i64 a0_5,.int .i64 a0_6,.slice A0_7 l0_7.length c0_7] 26 (0,0)) Z274 hb) (Aside0.mk (below_step Z242 hb))
  clear BK274 HB
  obtain ⟨BK274,HB⟩ := n_
  (try clear hb)
  (try clear hb2)
  (try clear hk)
  (try clear hi)
  refine hK.out _ _ ⟨bc BK274 0,bc BK274 1,bc BK274 2,bc BK274 3,bc BK274 4,bc BK274 5,bc BK274 6,bc BK274 7⟩ (fun hHeld => ?_)
  clear hK K
  refine rN (h := ?_)
  refine rP 3 10 36 3325135983 HT_ (h := ?_)
  refine rP 4 11 36 3325135999 HT_ (h := ?_)
  refine rO 7 14 36 3325136127 HT_ (h := fun K hK => ?_)
  refine goes_ Tryz.func17 Z190 rfl #[.int .i64 a0_1] Z191 rfl rfl Z130 ?_
  with_reducible refine (impl_Digits.calls a0_1 t277 _ ?side1 A7.out).mono ?_
  (case side1 => exact Z98)
  rintro e w48 ⟨rfl,hb⟩
  refine ⟨_,rfl,?_⟩
  have n_ := jA (blk_below (g := gb274) (o := .cells #[.int .i64 a0_0,.int .i64 a0_1,.int .i64 a0_2,.int .i64 a0_3,.int .i64 a0_4,.int .i64 a0_5,.int .i64 a0_6,.slice A0_7 l0_7.length c0_7] 26 (0,0)) Z274 hb) (Aside0.mk (below_step Z242 hb))
  clear BK274 HB
  obtain ⟨BK274,HB⟩ := n_
  (try clear hb)
  (try clear hb2)
  (try clear hk)
  (try clear hi)
  refine hK.out _ _ ⟨bc BK274 0,bc BK274 1,bc BK274 2,bc BK274 3,bc BK274 4,bc BK274 5,bc BK274 6,bc BK274 7⟩ (fun hHeld => ?_)
  clear hK K
  refine rN (h := ?_)
  refine rP 8 15 36 3325136383 HT_ (h := ?_)
  refine rP 9 16 36 3325136895 HT_ (h := ?_)
  refine rO 12 19 36 3325140991 HT_ (h := fun K hK => ?_)
  refine goes_ Tryz.func17 Z190 rfl #[.int .i64 a0_2] Z191 rfl rfl Z130 ?_
  with_reducible refine (impl_Digits.calls a0_2 t278 _ ?side1 A10.out).mono ?_
  (case side1 => exact Z98)
  rintro e w49 ⟨rfl,hb⟩
  refine ⟨_,rfl,?_⟩
  have n_ := jA (blk_below (g := gb274) (o := .cells #[.int .i64 a0_0,.int .i64 a0_1,.int .i64 a0_2,.int .i64 a0_3,.int .i64 a0_4,.int .i64 a0_5,.int .i64 a0_6,.slice A0_7 l0_7.length c0_7] 26 (0,0)) Z274 hb) (Aside0.mk (below_step Z242 hb))
  clear BK274 HB
  obtain ⟨BK274,HB⟩ := n_
  (try clear hb)
  (try clear hb2)
  (try clear hk)
  (try clear hi)
  refine hK.out _ _ ⟨bc BK274 0,bc BK274 1,bc BK274 2,bc BK274 3,bc BK274 4,bc BK274 5,bc BK274 6,bc BK274 7⟩ (fun hHeld => ?_)
  clear hK K
  refine rN (h := ?_)
  refine rP 13 20 36 3325149183 HT_ (h := ?_)
  refine rP 14 21 36 3325165567 HT_ (h := ?_)
  refine rO 17 24 36 3325296639 HT_ (h := fun K hK => ?_)
  refine goes_ Tryz.func17 Z190 rfl #[.int .i64 a0_3] Z191 rfl rfl Z130 ?_
  with_reducible refine (impl_Digits.calls a0_3 t279 _ ?side1 A13.out).mono ?_
  (case side1 => exact Z98)
  rintro e w50 ⟨rfl,hb⟩
  refine ⟨_,rfl,?_⟩
  have n_ := jA (blk_below (g := gb274) (o := .cells #[.int .i64 a0_0,.int .i64 a0_1,.int .i64 a0_2,.int .i64 a0_3,.int .i64 a0_4,.int .i64 a0_5,.int .i64 a0_6,.slice A0_7 l0_7.length c0_7] 26 (0,0)) Z274 hb) (Aside0.mk (below_step Z242 hb))
  clear BK274 HB
  obtain ⟨BK274,HB⟩ := n_
  (try clear hb)
  (try clear hb2)
  (try clear hk)
  (try clear hi)
  refine hK.out _ _ ⟨bc BK274 0,bc BK274 1,bc BK274 2,bc BK274 3,bc BK274 4,bc BK274 5,bc BK274 6,bc BK274 7⟩ (fun hHeld => ?_)
  clear hK K
  refine rN (h := ?_)
  refine rP 18 25 36 3325558783 HT_ (h := ?_)
  refine rP 19 26 36 3326083071 HT_ (h := ?_)
  refine rO 22 29 36 3330277375 HT_ (h := fun K hK => ?_)
  refine goes_ Tryz.func17 Z190 rfl #[.int .i64 a0_4] Z191 rfl rfl Z130 ?_
  with_reducible refine (impl_Digits.calls a0_4 t280 _ ?side1 A16.out).mono ?_
  (case side1 => exact Z98)
  rintro e w51 ⟨rfl,hb⟩
  refine ⟨_,rfl,?_⟩
  have n_ := jA (blk_below (g := gb274) (o := .cells #[.int .i64 a0_0,.int .i64 a0_1,.int .i64 a0_2,.int .i64 a0_3,.int .i64 a0_4,.int .i64 a0_5,.int .i64 a0_6,.slice A0_7 l0_7.length c0_7] 26 (0,0)) Z274 hb) (Aside0.mk (below_step Z242 hb))
  clear BK274 HB
  obtain ⟨BK274,HB⟩ := n_
  (try clear hb)
  (try clear hb2)
  (try clear hk)
  (try clear hi)
  refine hK.out _ _ ⟨bc BK274 0,bc BK274 1,bc BK274 2,bc BK274 3,bc BK274 4,bc BK274 5,bc BK274 6,bc BK274 7⟩ (fun hHeld => ?_)
  clear hK K
  refine rN (h := ?_)
  refine rP 23 30 36 3338665983 HT_ (h := ?_)
  refine rP 24 31 36 3355443199 HT_ (h := ?_)
  refine rO 27 34 36 3489660927 HT_ (h := fun K hK => ?_)
  refine goes_ Tryz.func17 Z190 rfl #[.int .i64 a0_5] Z191 rfl rfl Z130 ?_
  with_reducible refine (impl_Digits.calls a0_5 t281 _ ?side1 A19.out).mono ?_
  (case side1 => exact Z98)
  rintro e w52 ⟨rfl,hb⟩
  refine ⟨_,rfl,?_⟩
  have n_ := jA (blk_below (g := gb274) (o := .cells #[.int .i64 a0_0,.int .i64 a0_1,.int .i64 a0_2,.int .i64 a0_3,.int .i64 a0_4,.int .i64 a0_5,.int .i64 a0_6,.slice A0_7 l0_7.length c0_7] 26 (0,0)) Z274 hb) (Aside0.mk (below_step Z242 hb))
  clear BK274 HB
  obtain ⟨BK274,HB⟩ := n_
  (try clear hb)
  (try clear hb2)
  (try clear hk)
  (try clear hi)
  refine hK.out _ _ ⟨bc BK274 0,bc BK274 1,bc BK274 2,bc BK274 3,bc BK274 4,bc BK274 5,bc BK274 6,bc BK274 7⟩ (fun hHeld => ?_)
  clear hK K
  refine rN (h := ?_)
  refine rP 28 35 36 3758096383 HT_ (h := ?_)
  refine rP 29 36 36 4294967295 HT_ (h := ?_)
  refine rO 32 39 36 8589934591 HT_ (h := fun K hK => ?_)
  refine goes_ Tryz.func17 Z190 rfl #[.int .i64 a0_6] Z191 rfl rfl Z130 ?_
  with_reducible refine (impl_Digits.calls a0_6 t282 _ ?side1 A22.out).mono ?_
  (case side1 => exact Z98)
  rintro e w53 ⟨rfl,hb⟩
  refine ⟨_,rfl,?_⟩
  have n_ := jA (blk_below (g := gb274) (o := .cells #[.int .i64 a0_0,.int .i64 a0_1,.int .i64 a0_2,.int .i64 a0_3,.int .i64 a0_4,.int .i64 a0_5,.int .i64 a0_6,.slice A0_7 l0_7.length c0_7] 26 (0,0)) Z274 hb) (Aside0.mk (below_step Z242 hb))
  clear BK274 HB
  obtain ⟨BK274,HB⟩ := n_
  (try clear hb)
  (try clear hb2)
  (try clear hk)
  (try clear hi)
  refine hK.out _ _ ⟨bc BK274 0,bc BK274 1,bc BK274 2,bc BK274 3,bc BK274 4,bc BK274 5,bc BK274 6,bc BK274 7⟩ (fun hHeld => ?_)
  clear hK K
  refine rN (h := ?_)
  refine rP 33 40 36 17179869183 HT_ (h := ?_)
  refine rP 34 41 36 34359738367 HT_ (h := ?_)
  refine rP 35 3 36 68719476735 HT_ (h := ?_)
  refine done_ (done_of HT_.out Z190) ?_
  obtain ⟨hcz54_0,hcz54_1,hcz54_2,hcz54_3,hcz54_4,hcz54_5,hcz54_6,hcz54_7,hfz54_0,hfz54_1,hfz54_2,hfz54_3,hfz54_4,hfz54_5,hfz54_6,hfz54_7⟩ := cells8 BK274.out
  try go_wp2
  go_ret
  exact ⟨Z152,Z242⟩
 rw [if_pos c25] at H
 have c25b0 : decide (0 < (l0_7.length : Int)) = true := decide_eq_true c25
 have c25b1 : decide (0 < l0_7.length) = true := decide_eq_true Z285
 clear c25
 obtain ⟨t283,A260,H⟩ := Option.bind_eq_some_iff.mp H
 have A26 := Aside0.mk A260
 clear A260
 obtain ⟨c27,H⟩ := ifp H
 have c27b0 := eq_true c27
 have c27b1 : decide (6 + t283.size ≤ 9223372036854775807) = true := decide_eq_true c27
 try have c27b2 : (9223372036854775807 < 6 + t283.size) = False := eq_false (Nat.not_lt.2 c27)
 obtain ⟨c28,H⟩ := ifp H
 have c28b0 := eq_true c28
 have c28b1 : decide (((⟨#[115,105,103,110,115,61]⟩ : ByteArray) ++ t283).size + 1 ≤ 9223372036854775807) = true := decide_eq_true c28
 try have c28b2 : (9223372036854775807 < ((⟨#[115,105,103,110,115,61]⟩ : ByteArray) ++ t283).size + 1) = False := eq_false (Nat.not_lt.2 c28)
 try (have c28b3 := c28b2; simp only [ByteArray.size_append] at c28b3)
 try (have c28b4 := c28b3; simp only [show ∀ b0_ : UInt8, (⟨#[b0_]⟩ : ByteArray).size = 1 from fun _ => rfl, show ∀ b0_ b1_ b2_ b3_ b4_ b5_ : UInt8, (⟨#[b0_,b1_,b2_,b3_,b4_,b5_]⟩ : ByteArray).size = 6 from fun _ _ _ _ _ _ => rfl, show ∀ b0_ b1_ b2_ b3_ b4_ b5_ b6_ : UInt8, (⟨#[b0_,b1_,b2_,b3_,b4_,b5_,b6_]⟩ : ByteArray).size = 7 from fun _ _ _ _ _ _ _ => rfl, show ∀ b0_ b1_ b2_ b3_ b4_ b5_ b6_ b7_ : UInt8, (⟨#[b0_,b1_,b2_,b3_,b4_,b5_,b6_,b7_]⟩ : ByteArray).size = 8 from fun _ _ _ _ _ _ _ _ => rfl] at c28b4)
 obtain ⟨c29,H⟩ := ifp H
 have c29b0 := eq_true c29
 have c29b1 : decide ((((((((((((((((⟨#[114,111,117,110,100,115,61]⟩ : ByteArray) ++ t276) ++ (⟨#[10,100,101,112,116,104,61]⟩ : ByteArray)) ++ t277) ++ (⟨#[10,98,105,110,115,61]⟩ : ByteArray)) ++ t278) ++ (⟨#[10,108,97,109,98,100,97,61]⟩ : ByteArray)) ++ t279) ++ (⟨#[10,114,111,119,115,61]⟩ : ByteArray)) ++ t280) ++ (⟨#[10,114,97,116,101,61]⟩ : ByteArray)) ++ t281) ++ (⟨#[47]⟩ : ByteArray)) ++ t282) ++ (⟨#[10]⟩ : ByteArray)).size + (((⟨#[115,105,103,110,115,61]⟩ : ByteArray) ++ t283) ++ (⟨#[10]⟩ : ByteArray)).size ≤ 9223372036854775807) = true := decide_eq_true c29
 try have c29b2 : (9223372036854775807 < (((((((((((((((⟨#[114,111,117,110,100,115,61]⟩ : ByteArray) ++ t276) ++ (⟨#[10,100,101,112,116,104,61]⟩ : ByteArray)) ++ t277) ++ (⟨#[10,98,105,110,115,61]⟩ : ByteArray)) ++ t278) ++ (⟨#[10,108,97,109,98,100,97,61]⟩ : ByteArray)) ++ t279) ++ (⟨#[10,114,111,119,115,61]⟩ : ByteArray)) ++ t280) ++ (⟨#[10,114,97,116,101,61]⟩ : ByteArray)) ++ t281) ++ (⟨#[47]⟩ : ByteArray)) ++ t282) ++ (⟨#[10]⟩ : ByteArray)).size + (((⟨#[115,105,103,110,115,61]⟩ : ByteArray) ++ t283) ++ (⟨#[10]⟩ : ByteArray)).size) = False := eq_false (Nat.not_lt.2 c29)
 try (have c29b3 := c29b2; simp only [ByteArray.size_append] at c29b3)
 try (have c29b4 := c29b3; simp only [show ∀ b0_ : UInt8, (⟨#[b0_]⟩ : ByteArray).size = 1 from fun _ => rfl, show ∀ b0_ b1_ b2_ b3_ b4_ b5_ : UInt8, (⟨#[b0_,b1_,b2_,b3_,b4_,b5_]⟩ : ByteArray).size = 6 from fun _ _ _ _ _ _ => rfl, show ∀ b0_ b1_ b2_ b3_ b4_ b5_ b6_ : UInt8, (⟨#[b0_,b1_,b2_,b3_,b4_,b5_,b6_]⟩ : ByteArray).size = 7 from fun _ _ _ _ _ _ _ => rfl, show ∀ b0_ b1_ b2_ b3_ b4_ b5_ b6_ b7_ : UInt8, (⟨#[b0_,b1_,b2_,b3_,b4_,b5_,b6_,b7_]⟩ : ByteArray).size = 8 from fun _ _ _ _ _ _ _ _ => rfl] at c29b4)
 obtain rfl := Option.some.inj H
 go_enter Tryz.func6,Tryz.ntmps6
 try go_wp2_with (first | ((with_reducible refine gate_dst (N := 1) rfl ?_);refine bE 1 #[.int .i64 a0_0,.int .i64 a0_1,.int .i64 a0_2,.int .i64 a0_3,.int .i64 a0_4,.int .i64 a0_5,.int .i64 a0_6,.slice A0_7 l0_7.length c0_7] 26 (h := ?_);intro gb274 hg w30 hbox hb;have n_ := Z45;clear HB;obtain ⟨HB,BK274,GW274,GE274⟩ := n_;clear hb hbox hg;obtain ⟨hcz31_0,hcz31_1,hcz31_2,hcz31_3,hcz31_4,hcz31_5,hcz31_6,hcz31_7,hfz31_0,hfz31_1,hfz31_2,hfz31_3,hfz31_4,hfz31_5,hfz31_6,hfz31_7⟩ := cells8 BK274.out) | ((with_reducible refine gate_callee (f := 8) rfl ?_);refine goesL_ (some 5) rfl rfl Tryz.func8 Z190 rfl #[.agg #[.int .i64 a0_0,.int .i64 a0_1,.int .i64 a0_2,.int .i64 a0_3,.int .i64 a0_4,.int .i64 a0_5,.int .i64 a0_6,.slice A0_7 l0_7.length c0_7]] rfl Z130 ?_;(with_reducible refine (impl_ConfigOk.calls k a0_0 a0_1 a0_2 a0_3 a0_4 a0_5 a0_6 _ _ l0_7 true _ ?side1 ?side2 A2.out).mono ?_);(case side1 => exact Z103);(case side2 => exact Z186);rintro e w32 ⟨rfl,hb⟩;refine ⟨_,rfl,?_⟩;have n_ := Z53;clear BK274 HB;obtain ⟨BK274,HB⟩ := n_;(try clear hb);(try clear hb2);(try clear hk);(try clear hi)))
 have n_ := jA (blk_drew BK274.out) (Aside0.mk (below_drew1 HB.out))
 clear BK274 HB
 obtain ⟨BK274,HB⟩ := n_
 refine start_ (n := 36) (S := fun w' => w'.cell? ⟨gb274,0,none⟩ = some (.int .i64 a0_0) ∧ w'.cell? ⟨gb274,1,none⟩ = some (.int .i64 a0_1) ∧ w'.cell? ⟨gb274,2,none⟩ = some (.int .i64 a0_2) ∧ w'.cell? ⟨gb274,3,none⟩ = some (.int .i64 a0_3) ∧ w'.cell? ⟨gb274,4,none⟩ = some (.int .i64 a0_4) ∧ w'.cell? ⟨gb274,5,none⟩ = some (.int .i64 a0_5) ∧ w'.cell? ⟨gb274,6,none⟩ = some (.int .i64 a0_6) ∧ w'.cell? ⟨gb274,7,none⟩ = some (.slice A0_7 l0_7.length c0_7)) (ds := []) (qM 36 0) Z190 rfl (by kernel_rfl) ⟨bc BK274 0,bc BK274 1,bc BK274 2,bc BK274 3,bc BK274 4,bc BK274 5,bc BK274 6,bc BK274 7⟩ (fun hHeld => ?_);refine with_tabW impl_ConfigText.tab3 impl_ConfigText.bits3 (fun HT_ HW_ => ?_)
 generalize w32.drew = w33 at BK274 HB hHeld ⊢
 refine rP 0 7 36 1 HT_ (h := ?_)
 refine rP 5 12 36 33 HT_ (h := ?_)
 refine rP 10 17 36 1057 HT_ (h := ?_)
 refine rP 15 22 36 33825 HT_ (h := ?_)
 refine rP 20 27 36 1082401 HT_ (h := ?_)
 refine rP 25 32 36 34636833 HT_ (h := ?_)
 refine rP 30 37 36 1108378657 HT_ (h := ?_)
 refine rT8 1 8 36 1108378659 HT_ HW_ hHeld (h := ?_)
 refine rT8 6 13 36 1108378723 HT_ HW_ hHeld (h := ?_)
 refine rT8 11 18 36 1108380771 HT_ HW_ hHeld (h := ?_)
 refine rT8 16 23 36 1108446307 HT_ HW_ hHeld (h := ?_)
 refine rT8 21 28 36 1110543459 HT_ HW_ hHeld (h := ?_)
 refine rT8 26 33 36 1177652323 HT_ HW_ hHeld (h := ?_)
 refine rT8 31 38 36 3325135971 HT_ HW_ hHeld (h := ?_)
 refine rO 2 9 36 3325135975 HT_ (h := fun K hK => ?_)
 refine goes_ Tryz.func17 Z190 rfl #[.int .i64 a0_0] Z191 rfl rfl Z130 ?_
 with_reducible refine (impl_Digits.calls a0_0 t276 _ ?side1 A4.out).mono ?_
 (case side1 => exact Z98)
 rintro e w34 ⟨rfl,hb⟩
 refine ⟨_,rfl,?_⟩
 have n_ := jA (blk_below (g := gb274) (o := .cells #[.int .i64 a0_0,.int .i64 a0_1,.int .i64 a0_2,.int .i64 a0_3,.int .i64 a0_4,.int .i64 a0_5,.int .i64 a0_6,.slice A0_7 l0_7.length c0_7] 26 (0,0)) Z274 hb) (Aside0.mk (below_step Z242 hb))
 clear BK274 HB
 obtain ⟨BK274,HB⟩ := n_
 (try clear hb)
 (try clear hb2)
 (try clear hk)
 (try clear hi)
 refine hK.out _ _ ⟨bc BK274 0,bc BK274 1,bc BK274 2,bc BK274 3,bc BK274 4,bc BK274 5,bc BK274 6,bc BK274 7⟩ (fun hHeld => ?_)
 clear hK K
 refine rN (h := ?_)
 refine rP 3 10 36 3325135983 HT_ (h := ?_)
 refine rP 4 11 36 3325135999 HT_ (h := ?_)
 refine rO 7 14 36 3325136127 HT_ (h := fun K hK => ?_)
 refine goes_ Tryz.func17 Z190 rfl #[.int .i64 a0_1] Z191 rfl rfl Z130 ?_
 with_reducible refine (impl_Digits.calls a0_1 t277 _ ?side1 A7.out).mono ?_
 (case side1 => exact Z98)
 rintro e w35 ⟨rfl,hb⟩
 refine ⟨_,rfl,?_⟩
 have n_ := jA (blk_below (g := gb274) (o := .cells #[.int .i64 a0_0,.int .i64 a0_1,.int .i64 a0_2,.int .i64 a0_3,.int .i64 a0_4,.int .i64 a0_5,.int .i64 a0_6,.slice A0_7 l0_7.length c0_7] 26 (0,0)) Z274 hb) (Aside0.mk (below_step Z242 hb))
 clear BK274 HB
 obtain ⟨BK274,HB⟩ := n_
 (try clear hb)
 (try clear hb2)
 (try clear hk)
 (try clear hi)
 refine hK.out _ _ ⟨bc BK274 0,bc BK274 1,bc BK274 2,bc BK274 3,bc BK274 4,bc BK274 5,bc BK274 6,bc BK274 7⟩ (fun hHeld => ?_)
 clear hK K
 refine rN (h := ?_)
 refine rP 8 15 36 3325136383 HT_ (h := ?_)
 refine rP 9 16 36 3325136895 HT_ (h := ?_)
 refine rO 12 19 36 3325140991 HT_ (h := fun K hK => ?_)
 refine goes_ Tryz.func17 Z190 rfl #[.int .i64 a0_2] Z191 rfl rfl Z130 ?_
 with_reducible refine (impl_Digits.calls a0_2 t278 _ ?side1 A10.out).mono ?_
 (case side1 => exact Z98)
 rintro e w36 ⟨rfl,hb⟩
 refine ⟨_,rfl,?_⟩
 have n_ := jA (blk_below (g := gb274) (o := .cells #[.int .i64 a0_0,.int .i64 a0_1,.int .i64 a0_2,.int .i64 a0_3,.int .i64 a0_4,.int .i64 a0_5,.int .i64 a0_6,.slice A0_7 l0_7.length c0_7] 26 (0,0)) Z274 hb) (Aside0.mk (below_step Z242 hb))
 clear BK274 HB
 obtain ⟨BK274,HB⟩ := n_
 (try clear hb)
 (try clear hb2)
 (try clear hk)
 (try clear hi)
 refine hK.out _ _ ⟨bc BK274 0,bc BK274 1,bc BK274 2,bc BK274 3,bc BK274 4,bc BK274 5,bc BK274 6,bc BK274 7⟩ (fun hHeld => ?_)
 clear hK K
 refine rN (h := ?_)
 refine rP 13 20 36 3325149183 HT_ (h := ?_)
 refine rP 14 21 36 3325165567 HT_ (h := ?_)
 refine rO 17 24 36 3325296639 HT_ (h := fun K hK => ?_)
 refine goes_ Tryz.func17 Z190 rfl #[.int .i64 a0_3] Z191 rfl rfl Z130 ?_
 with_reducible refine (impl_Digits.calls a0_3 t279 _ ?side1 A13.out).mono ?_
 (case side1 => exact Z98)
 rintro e w37 ⟨rfl,hb⟩
 refine ⟨_,rfl,?_⟩
 have n_ := jA (blk_below (g := gb274) (o := .cells #[.int .i64 a0_0,.int .i64 a0_1,.int .i64 a0_2,.int .i64 a0_3,.int .i64 a0_4,.int .i64 a0_5,.int .i64 a0_6,.slice A0_7 l0_7.length c0_7] 26 (0,0)) Z274 hb) (Aside0.mk (below_step Z242 hb))
 clear BK274 HB
 obtain ⟨BK274,HB⟩ := n_
 (try clear hb)
 (try clear hb2)
 (try clear hk)
 (try clear hi)
 refine hK.out _ _ ⟨bc BK274 0,bc BK274 1,bc BK274 2,bc BK274 3,bc BK274 4,bc BK274 5,bc BK274 6,bc BK274 7⟩ (fun hHeld => ?_)
 clear hK K
 refine rN (h := ?_)
 refine rP 18 25 36 3325558783 HT_ (h := ?_)
 refine rP 19 26 36 3326083071 HT_ (h := ?_)
 refine rO 22 29 36 3330277375 HT_ (h := fun K hK => ?_)
 refine goes_ Tryz.func17 Z190 rfl #[.int .i64 a0_4] Z191 rfl rfl Z130 ?_
 with_reducible refine (impl_Digits.calls a0_4 t280 _ ?side1 A16.out).mono ?_
 (case side1 => exact Z98)
 rintro e w38 ⟨rfl,hb⟩
 refine ⟨_,rfl,?_⟩
 have n_ := jA (blk_below (g := gb274) (o := .cells #[.int .i64 a0_0,.int .i64 a0_1,.int .i64 a0_2,.int .i64 a0_3,.int .i64 a0_4,.int .i64 a0_5,.int .i64 a0_6,.slice A0_7 l0_7.length c0_7] 26 (0,0)) Z274 hb) (Aside0.mk (below_step Z242 hb))
 clear BK274 HB
 obtain ⟨BK274,HB⟩ := n_
 (try clear hb)
 (try clear hb2)
 (try clear hk)
 (try clear hi)
 refine hK.out _ _ ⟨bc BK274 0,bc BK274 1,bc BK274 2,bc BK274 3,bc BK274 4,bc BK274 5,bc BK274 6,bc BK274 7⟩ (fun hHeld => ?_)
 clear hK K
 refine rN (h := ?_)
 refine rP 23 30 36 3338665983 HT_ (h := ?_)
 refine rP 24 31 36 3355443199 HT_ (h := ?_)
 refine rO 27 34 36 3489660927 HT_ (h := fun K hK => ?_)
 refine goes_ Tryz.func17 Z190 rfl #[.int .i64 a0_5] Z191 rfl rfl Z130 ?_
 with_reducible refine (impl_Digits.calls a0_5 t281 _ ?side1 A19.out).mono ?_
 (case side1 => exact Z98)
 rintro e w39 ⟨rfl,hb⟩
 refine ⟨_,rfl,?_⟩
 have n_ := jA (blk_below (g := gb274) (o := .cells #[.int .i64 a0_0,.int .i64 a0_1,.int .i64 a0_2,.int .i64 a0_3,.int .i64 a0_4,.int .i64 a0_5,.int .i64 a0_6,.slice A0_7 l0_7.length c0_7] 26 (0,0)) Z274 hb) (Aside0.mk (below_step Z242 hb))
 clear BK274 HB
 obtain ⟨BK274,HB⟩ := n_
 (try clear hb)
 (try clear hb2)
 (try clear hk)
 (try clear hi)
 refine hK.out _ _ ⟨bc BK274 0,bc BK274 1,bc BK274 2,bc BK274 3,bc BK274 4,bc BK274 5,bc BK274 6,bc BK274 7⟩ (fun hHeld => ?_)
 clear hK K
 refine rN (h := ?_)
 refine rP 28 35 36 3758096383 HT_ (h := ?_)
 refine rP 29 36 36 4294967295 HT_ (h := ?_)
 refine rO 32 39 36 8589934591 HT_ (h := fun K hK => ?_)
 refine goes_ Tryz.func17 Z190 rfl #[.int .i64 a0_6] Z191 rfl rfl Z130 ?_
 with_reducible refine (impl_Digits.calls a0_6 t282 _ ?side1 A22.out).mono ?_
 (case side1 => exact Z98)
 rintro e w40 ⟨rfl,hb⟩
 refine ⟨_,rfl,?_⟩
 have n_ := jA (blk_below (g := gb274) (o := .cells #[.int .i64 a0_0,.int .i64 a0_1,.int .i64 a0_2,.int .i64 a0_3,.int .i64 a0_4,.int .i64 a0_5,.int .i64 a0_6,.slice A0_7 l0_7.length c0_7] 26 (0,0)) Z274 hb) (Aside0.mk (below_step Z242 hb))
 clear BK274 HB
 obtain ⟨BK274,HB⟩ := n_
 (try clear hb)
 (try clear hb2)
 (try clear hk)
 (try clear hi)
 refine hK.out _ _ ⟨bc BK274 0,bc BK274 1,bc BK274 2,bc BK274 3,bc BK274 4,bc BK274 5,bc BK274 6,bc BK274 7⟩ (fun hHeld => ?_)
 clear hK K
 refine rN (h := ?_)
 refine rP 33 40 36 17179869183 HT_ (h := ?_)
 refine rP 34 41 36 34359738367 HT_ (h := ?_)
 refine rP 35 3 36 68719476735 HT_ (h := ?_)
 refine done_ (done_of HT_.out Z190) ?_
 obtain ⟨hcz41_0,hcz41_1,hcz41_2,hcz41_3,hcz41_4,hcz41_5,hcz41_6,hcz41_7,hfz41_0,hfz41_1,hfz41_2,hfz41_3,hfz41_4,hfz41_5,hfz41_6,hfz41_7⟩ := cells8 BK274.out
 try go_wp2_with (first | ((with_reducible refine gate_callee (f := 18) rfl ?_);refine goesL_ (some 49) rfl rfl Tryz.func18 Z190 rfl #[.slice A0_7 l0_7.length c0_7] rfl Z130 ?_;(with_reducible refine (impl_signsText.calls k _ _ l0_7 t283 _ ?side1 ?side2 A26.out).mono ?_);(case side1 => exact Z103);(case side2 => exact Z186);rintro e w42 ⟨rfl,hb⟩;refine ⟨_,rfl,?_⟩;have n_ := Z53;clear BK274 HB;obtain ⟨BK274,HB⟩ := n_;(try clear hb);(try clear hb2);(try clear hk);(try clear hi)))
 go_ret
 exact ⟨Z152,Z242⟩

end Go.Proofs.YtepnbcdbagjmbaeGreatDoor.QFnConfig
