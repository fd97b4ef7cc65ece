/- The machine side of FnConfig: what each Go function that it reaches comes to. Conditions: none. -/
import Derived.Test.YtepnbcdbagjmbaeGreatDoorQFnConfigx0
import Derived.Test.YtepnbcdbagjmbaeGreatDoorQFnConfigx2
import Derived.Test.YtepnbcdbagjmbaeGreatDoorQFnConfigx4
namespace Go.Proofs.YtepnbcdbagjmbaeGreatDoor.QFnConfig
open Go.RowKit Go.Proofs.YtepnbcdbagjmbaeGreatDoorW.PrintWords Go.Proofs.YtepnbcdbagjmbaeGreatDoorW.PrintLast Go.Proofs.YtepnbcdbagjmbaeGreatDoorW.PrintMore
attribute [local go_sem] max2_int min2_int max_two min_two max_three min_three max_four min_four   -- for this text's walks alone
set_option linter.unusedVariables false
set_option linter.unusedSimpArgs false

/-! ### impl_ConfigOk: function 8 -/
def impl_ConfigOk.f (k : Nat) (a0_0 : Int) (a0_1 : Int) (a0_2 : Int) (a0_3 : Int) (a0_4 : Int) (a0_5 : Int) (a0_6 : Int) (l0_7 : List Int) : Option (Bool) := (impl_within.f a0_0 1 8).bind fun t256 => (if t256 = true then ((impl_within.f a0_1 0 4).bind fun t257 => (if t257 = true then ((impl_within.f a0_2 2 8).bind fun t258 => (if t258 = true then ((impl_within.f a0_3 1 100).bind fun t259 => (if t259 = true then ((impl_within.f a0_4 1 20).bind fun t260 => (if t260 = true then ((impl_within.f a0_6 1 1000).bind fun t261 => (if t261 = true then ((impl_within.f a0_5 1 a0_6).bind fun t262 => (if t262 = true then (if (l0_7.length : Int) ≤ 4 then ((slices_ContainsFunc_int_int.f k l0_7 ()).bind fun t263 => (some (!t263))) else (some false)) else (some false))) else (some false))) else (some false))) else (some false))) else (some false))) else (some false))) else (some false))
theorem impl_ConfigOk.mono : ∀ a0 a1 a2 a3 a4 a5 a6 a7 k,LeO (impl_ConfigOk.f k a0 a1 a2 a3 a4 a5 a6 a7) (impl_ConfigOk.f (k + 1) a0 a1 a2 a3 a4 a5 a6 a7) := by
 intro a0 a1 a2 a3 a4 a5 a6 a7 k
 unfold impl_ConfigOk.f
 repeat' first
   | (with_reducible exact slices_ContainsFunc_int_int.mono _ _ _)
   | (with_reducible exact LeO.refl _)
   | (with_reducible exact LeO.none _)
   | (with_reducible refine LeO.ite ?_ ?_)
   | (with_reducible refine LeO.bind ?_ (fun _ => ?_))
   | exact slices_ContainsFunc_int_int.mono _ _ _
   | exact LeO.none _
   | refine LeO.ite ?_ ?_
   | refine LeO.bind ?_ (fun _ => ?_)
set_option maxHeartbeats 8000000 in
set_option maxRecDepth 100000 in
theorem impl_ConfigOk.calls (k : Nat) (a0_0 : Int) (a0_1 : Int) (a0_2 : Int) (a0_3 : Int) (a0_4 : Int) (a0_5 : Int) (a0_6 : Int) (A0_7 : Option Addr) (c0_7 : Nat) (l0_7 : List Int) (r : Bool) (w : World) (hr0_7 : Kd.C (Kd.int .i64) w A0_7 l0_7.length l0_7) (hc0_7 : l0_7.length ≤ c0_7) (h : impl_ConfigOk.f k a0_0 a0_1 a0_2 a0_3 a0_4 a0_5 a0_6 l0_7 = some r) :
  Calls Tryz.prog 8 #[.agg #[.int .i64 a0_0,.int .i64 a0_1,.int .i64 a0_2,.int .i64 a0_3,.int .i64 a0_4,.int .i64 a0_5,.int .i64 a0_6,.slice A0_7 l0_7.length c0_7]] w fun e w' => e = .returned (.bool r) ∧ Below w.heap.size w w' := by
 have hu26 := Tryz.underlying26
 have HR0_7 := Aside0.mk hr0_7
 have HC0_7 := Aside0.mk hc0_7
 clear hr0_7 hc0_7
 have HB := Aside0.mk (Below.refl w.heap.size w)
 have H := h
 clear h
 unfold impl_ConfigOk.f at H
 obtain ⟨t256,A20,H⟩ := Option.bind_eq_some_iff.mp H
 have A2 := Aside0.mk A20
 clear A20
 by_cases c3 : t256 = true
 rotate_left
 ·replace c3 := Bool.eq_false_iff.mpr c3
  subst c3
  rw [if_neg Bool.false_ne_true] at H
  obtain rfl := Option.some.inj H
  go_enter Tryz.func8,Tryz.ntmps8
  go_wp2_with (first | ((with_reducible refine gate_dst (N := 1) rfl ?_);(try (refine gate_guard Z191 ?_;dsimp only));refine bE 1 #[.int .i64 a0_0,.int .i64 a0_1,.int .i64 a0_2,.int .i64 a0_3,.int .i64 a0_4,.int .i64 a0_5,.int .i64 a0_6,.slice A0_7 l0_7.length c0_7] 26 (h := ?_);intro gb255 hg wq1 hbox hb;have n_ := Z43;clear HB;obtain ⟨HB,BK255,GW255,GE255⟩ := n_;clear hb hbox hg;obtain ⟨hczq2_0,hczq2_1,hczq2_2,hczq2_3,hczq2_4,hczq2_5,hczq2_6,hczq2_7,hfzq2_0,hfzq2_1,hfzq2_2,hfzq2_3,hfzq2_4,hfzq2_5,hfzq2_6,hfzq2_7⟩ := cells8 BK255.out) | ((with_reducible refine gate_callee (f := 23) rfl ?_);refine goesL_ (some 5) rfl rfl Tryz.func23 Z190 rfl #[.int .i64 a0_0,.int .i64 1,.int .i64 8] rfl Z130 ?_;(with_reducible refine (impl_within.calls a0_0 1 8 false _ A2.out).mono ?_);rintro e w' ⟨rfl,⟨nd,rfl⟩⟩;refine ⟨_,rfl,?_⟩))
  go_ret
  exact ⟨Z152,Z122⟩
 subst c3
 rw [if_pos rfl] at H
 obtain ⟨t257,A40,H⟩ := Option.bind_eq_some_iff.mp H
 have A4 := Aside0.mk A40
 clear A40
 by_cases c5 : t257 = true
 rotate_left
 ·replace c5 := Bool.eq_false_iff.mpr c5
  subst c5
  rw [if_neg Bool.false_ne_true] at H
  obtain rfl := Option.some.inj H
  go_enter Tryz.func8,Tryz.ntmps8
  go_wp2_with (first | ((with_reducible refine gate_dst (N := 1) rfl ?_);(try (refine gate_guard Z191 ?_;dsimp only));refine bE 1 #[.int .i64 a0_0,.int .i64 a0_1,.int .i64 a0_2,.int .i64 a0_3,.int .i64 a0_4,.int .i64 a0_5,.int .i64 a0_6,.slice A0_7 l0_7.length c0_7] 26 (h := ?_);intro gb255 hg wq1 hbox hb;have n_ := Z43;clear HB;obtain ⟨HB,BK255,GW255,GE255⟩ := n_;clear hb hbox hg;obtain ⟨hczq2_0,hczq2_1,hczq2_2,hczq2_3,hczq2_4,hczq2_5,hczq2_6,hczq2_7,hfzq2_0,hfzq2_1,hfzq2_2,hfzq2_3,hfzq2_4,hfzq2_5,hfzq2_6,hfzq2_7⟩ := cells8 BK255.out) | ((with_reducible refine gate_callee (f := 23) rfl ?_);refine goesL_ (some 5) rfl rfl Tryz.func23 Z190 rfl #[.int .i64 a0_0,.int .i64 1,.int .i64 8] rfl Z130 ?_;(with_reducible refine (impl_within.calls a0_0 1 8 true _ A2.out).mono ?_);rintro e w' ⟨rfl,⟨nd,rfl⟩⟩;refine ⟨_,rfl,?_⟩) | (go_at_call 23;(with_reducible refine (impl_within.calls a0_1 0 4 false _ A4.out).mono ?_);rintro e w' ⟨rfl,⟨nd,rfl⟩⟩))
  go_ret
  exact ⟨Z152,Z122⟩
 subst c5
 rw [if_pos rfl] at H
 obtain ⟨t258,A60,H⟩ := Option.bind_eq_some_iff.mp H
 have A6 := Aside0.mk A60
 clear A60
 by_cases c7 : t258 = true
 rotate_left
 ·replace c7 := Bool.eq_false_iff.mpr c7
  subst c7
  rw [if_neg Bool.false_ne_true] at H
  obtain rfl := Option.some.inj H
  go_enter Tryz.func8,Tryz.ntmps8
  go_wp2_with (first | ((with_reducible refine gate_dst (N := 1) rfl ?_);(try (refine gate_guard Z191 ?_;dsimp only));refine bE 1 #[.int .i64 a0_0,.int .i64 a0_1,.int .i64 a0_2,.int .i64 a0_3,.int .i64 a0_4,.int .i64 a0_5,.int .i64 a0_6,.slice A0_7 l0_7.length c0_7] 26 (h := ?_);intro gb255 hg wq1 hbox hb;have n_ := Z43;clear HB;obtain ⟨HB,BK255,GW255,GE255⟩ := n_;clear hb hbox hg;obtain ⟨hczq2_0,hczq2_1,hczq2_2,hczq2_3,hczq2_4,hczq2_5,hczq2_6,hczq2_7,hfzq2_0,hfzq2_1,hfzq2_2,hfzq2_3,hfzq2_4,hfzq2_5,hfzq2_6,hfzq2_7⟩ := cells8 BK255.out) | ((with_reducible refine gate_callee (f := 23) rfl ?_);refine goesL_ (some 5) rfl rfl Tryz.func23 Z190 rfl #[.int .i64 a0_0,.int .i64 1,.int .i64 8] rfl Z130 ?_;(with_reducible refine (impl_within.calls a0_0 1 8 true _ A2.out).mono ?_);rintro e w' ⟨rfl,⟨nd,rfl⟩⟩;refine ⟨_,rfl,?_⟩) | (go_at_call 23;(with_reducible refine (impl_within.calls a0_1 0 4 true _ A4.out).mono ?_);rintro e w' ⟨rfl,⟨nd,rfl⟩⟩) | (go_at_call 23;(with_reducible refine (impl_within.calls a0_2 2 8 false _ A6.out).mono ?_);rintro e w' ⟨rfl,⟨nd,rfl⟩⟩))
  go_ret
  exact ⟨Z152,Z122⟩
 subst c7
 rw [if_pos rfl] at H
 obtain ⟨t259,A80,H⟩ := Option.bind_eq_some_iff.mp H
 have A8 := Aside0.mk A80
 clear A80
 by_cases c9 : t259 = true
 rotate_left
 ·replace c9 := Bool.eq_false_iff.mpr c9
  subst c9
  rw [if_neg Bool.false_ne_true] at H
  obtain rfl := Option.some.inj H
  go_enter Tryz.func8,Tryz.ntmps8
  go_wp2_with (first | ((with_reducible refine gate_dst (N := 1) rfl ?_);(try (refine gate_guard Z191 ?_;dsimp only));refine bE 1 #[.int .i64 a0_0,.int .i64 a0_1,.int .i64 a0_2,.int .i64 a0_3,.int .i64 a0_4,.int .i64 a0_5,.int .i64 a0_6,.slice A0_7 l0_7.length c0_7] 26 (h := ?_);intro gb255 hg wq1 hbox hb;have n_ := Z43;clear HB;obtain ⟨HB,BK255,GW255,GE255⟩ := n_;clear hb hbox hg;obtain ⟨hczq2_0,hczq2_1,hczq2_2,hczq2_3,hczq2_4,hczq2_5,hczq2_6,hczq2_7,hfzq2_0,hfzq2_1,hfzq2_2,hfzq2_3,hfzq2_4,hfzq2_5,hfzq2_6,hfzq2_7⟩ := cells8 BK255.out) | ((with_reducible refine gate_callee (f := 23) rfl ?_);refine goesL_ (some 5) rfl rfl Tryz.func23 Z190 rfl #[.int .i64 a0_0,.int .i64 1,.int .i64 8] rfl Z130 ?_;(with_reducible refine (impl_within.calls a0_0 1 8 true _ A2.out).mono ?_);rintro e w' ⟨rfl,⟨nd,rfl⟩⟩;refine ⟨_,rfl,?_⟩) | (go_at_call 23;(with_reducible refine (impl_within.calls a0_1 0 4 true _ A4.out).mono ?_);rintro e w' ⟨rfl,⟨nd,rfl⟩⟩) | (go_at_call 23;(with_reducible refine (impl_within.calls a0_2 2 8 true _ A6.out).mono ?_);rintro e w' ⟨rfl,⟨nd,rfl⟩⟩) | (go_at_call 23;(with_reducible refine (impl_within.calls a0_3 1 100 false _ A8.out).mono ?_);rintro e w' ⟨rfl,⟨nd,rfl⟩⟩))
  go_ret
  exact ⟨Z152,Z122⟩
 subst c9
 rw [if_pos rfl] at H
 obtain ⟨t260,A100,H⟩ := Option.bind_eq_some_iff.mp H
 have A10 := Aside0.mk A100
 clear A100
 by_cases c11 : t260 = true
 rotate_left
 ·replace c11 := Bool.eq_false_iff.mpr c11
  subst c11
  rw [if_neg Bool.false_ne_true] at H
  obtain rfl := Option.some.inj H
  go_enter Tryz.func8,Tryz.ntmps8
  go_wp2_with (first | ((with_reducible refine gate_dst (N := 1) rfl ?_);(try (refine gate_guard Z191 ?_;dsimp only));refine bE 1 #[.int .i64 a0_0,.int .i64 a0_1,.int .i64 a0_2,.int .i64 a0_3,.int .i64 a0_4,.int .i64 a0_5,.int .i64 a0_6,.slice A0_7 l0_7.length c0_7] 26 (h := ?_);intro gb255 hg wq1 hbox hb;have n_ := Z43;clear HB;obtain ⟨HB,BK255,GW255,GE255⟩ := n_;clear hb hbox hg;obtain ⟨hczq2_0,hczq2_1,hczq2_2,hczq2_3,hczq2_4,hczq2_5,hczq2_6,hczq2_7,hfzq2_0,hfzq2_1,hfzq2_2,hfzq2_3,hfzq2_4,hfzq2_5,hfzq2_6,hfzq2_7⟩ := cells8 BK255.out) | ((with_reducible refine gate_callee (f := 23) rfl ?_);refine goesL_ (some 5) rfl rfl Tryz.func23 Z190 rfl #[.int .i64 a0_0,.int .i64 1,.int .i64 8] rfl Z130 ?_;(with_reducible refine (impl_within.calls a0_0 1 8 true _ A2.out).mono ?_);rintro e w' ⟨rfl,⟨nd,rfl⟩⟩;refine ⟨_,rfl,?_⟩) | (go_at_call 23;(with_reducible refine (impl_within.calls a0_1 0 4 true _ A4.out).mono ?_);rintro e w' ⟨rfl,⟨nd,rfl⟩⟩) | (go_at_call 23;(with_reducible refine (impl_within.calls a0_2 2 8 true _ A6.out).mono ?_);rintro e w' ⟨rfl,⟨nd,rfl⟩⟩) | (go_at_call 23;(with_reducible refine (impl_within.calls a0_3 1 100 true _ A8.out).mono ?_);rintro e w' ⟨rfl,⟨nd,rfl⟩⟩) | (go_at_call 23;(with_reducible refine (impl_within.calls a0_4 1 20 false _ A10.out).mono ?_);rintro e w' ⟨rfl,⟨nd,rfl⟩⟩))
  go_ret
  exact ⟨Z152,Z122⟩
 subst c11
 rw [if_pos rfl] at H
 obtain ⟨t261,A120,H⟩ := Option.bind_eq_some_iff.mp H
 have A12 := Aside0.mk A120
 clear A120
 by_cases c13 : t261 = true
 rotate_left
 ·replace c13 := Bool.eq_false_iff.mpr c13
  subst c13
  rw [if_neg Bool.false_ne_true] at H
  obtain rfl := Option.some.inj H
  go_enter Tryz.func8,Tryz.ntmps8
  go_wp2_with (first | ((with_reducible refine gate_dst (N := 1) rfl ?_);(try (refine gate_guard Z191 ?_;dsimp only));refine bE 1 #[.int .i64 a0_0,.int .i64 a0_1,.int .i64 a0_2,.int .i64 a0_3,.int .i64 a0_4,.int .i64 a0_5,.int .i64 a0_6,.slice A0_7 l0_7.length c0_7] 26 (h := ?_);intro gb255 hg wq1 hbox hb;have n_ := Z43;clear HB;obtain ⟨HB,BK255,GW255,GE255⟩ := n_;clear hb hbox hg;obtain ⟨hczq2_0,hczq2_1,hczq2_2,hczq2_3,hczq2_4,hczq2_5,hczq2_6,hczq2_7,hfzq2_0,hfzq2_1,hfzq2_2,hfzq2_3,hfzq2_4,hfzq2_5,hfzq2_6,hfzq2_7⟩ := cells8 BK255.out) | ((with_reducible refine gate_callee (f := 23) rfl ?_);refine goesL_ (some 5) rfl rfl Tryz.func23 Z190 rfl #[.int .i64 a0_0,.int .i64 1,.int .i64 8] rfl Z130 ?_;(with_reducible refine (impl_within.calls a0_0 1 8 true _ A2.out).mono ?_);rintro e w' ⟨rfl,⟨nd,rfl⟩⟩;refine ⟨_,rfl,?_⟩) | (go_at_call 23;(with_reducible refine (impl_within.calls a0_1 0 4 true _ A4.out).mono ?_);rintro e w' ⟨rfl,⟨nd,rfl⟩⟩) | (go_at_call 23;(with_reducible refine (impl_within.calls a0_2 2 8 true _ A6.out).mono ?_);rintro e w' ⟨rfl,⟨nd,rfl⟩⟩) | (go_at_call 23;(with_reducible refine (impl_within.calls a0_3 1 100 true _ A8.out).mono ?_);rintro e w' ⟨rfl,⟨nd,rfl⟩⟩) | (go_at_call 23;(with_reducible refine (impl_within.calls a0_4 1 20 true _ A10.out).mono ?_);rintro e w' ⟨rfl,⟨nd,rfl⟩⟩) | (go_at_call 23;(with_reducible refine (impl_within.calls a0_6 1 1000 false _ A12.out).mono ?_);rintro e w' ⟨rfl,⟨nd,rfl⟩⟩))
  go_ret
  exact ⟨Z152,Z122⟩
 subst c13
 rw [if_pos rfl] at H
 obtain ⟨t262,A140,H⟩ := Option.bind_eq_some_iff.mp H
 have A14 := Aside0.mk A140
 clear A140
 by_cases c15 : t262 = true
 rotate_left
 ·replace c15 := Bool.eq_false_iff.mpr c15
  subst c15
  rw [if_neg Bool.false_ne_true] at H
  obtain rfl := Option.some.inj H
  go_enter Tryz.func8,Tryz.ntmps8
  go_wp2_with (first | ((with_reducible refine gate_dst (N := 1) rfl ?_);(try (refine gate_guard Z191 ?_;dsimp only));refine bE 1 #[.int .i64 a0_0,.int .i64 a0_1,.int .i64 a0_2,.int .i64 a0_3,.int .i64 a0_4,.int .i64 a0_5,.int .i64 a0_6,.slice A0_7 l0_7.length c0_7] 26 (h := ?_);intro gb255 hg wq1 hbox hb;have n_ := Z43;clear HB;obtain ⟨HB,BK255,GW255,GE255⟩ := n_;clear hb hbox hg;obtain ⟨hczq2_0,hczq2_1,hczq2_2,hczq2_3,hczq2_4,hczq2_5,hczq2_6,hczq2_7,hfzq2_0,hfzq2_1,hfzq2_2,hfzq2_3,hfzq2_4,hfzq2_5,hfzq2_6,hfzq2_7⟩ := cells8 BK255.out) | ((with_reducible refine gate_callee (f := 23) rfl ?_);refine goesL_ (some 5) rfl rfl Tryz.func23 Z190 rfl #[.int .i64 a0_0,.int .i64 1,.int .i64 8] rfl Z130 ?_;(with_reducible refine (impl_within.calls a0_0 1 8 true _ A2.out).mono ?_);rintro e w' ⟨rfl,⟨nd,rfl⟩⟩;refine ⟨_,rfl,?_⟩) | (go_at_call 23;(with_reducible refine (impl_within.calls a0_1 0 4 true _ A4.out).mono ?_);rintro e w' ⟨rfl,⟨nd,rfl⟩⟩) | (go_at_call 23;(with_reducible refine (impl_within.calls a0_2 2 8 true _ A6.out).mono ?_);rintro e w' ⟨rfl,⟨nd,rfl⟩⟩) | (go_at_call 23;(with_reducible refine (impl_within.calls a0_3 1 100 true _ A8.out).mono ?_);rintro e w' ⟨rfl,⟨nd,rfl⟩⟩) | (go_at_call 23;(with_reducible refine (impl_within.calls a0_4 1 20 true _ A10.out).mono ?_);rintro e w' ⟨rfl,⟨nd,rfl⟩⟩) | (go_at_call 23;(with_reducible refine (impl_within.calls a0_6 1 1000 true _ A12.out).mono ?_);rintro e w' ⟨rfl,⟨nd,rfl⟩⟩) | (go_at_call 23;(with_reducible refine (impl_within.calls a0_5 1 a0_6 false _ A14.out).mono ?_);rintro e w' ⟨rfl,⟨nd,rfl⟩⟩))
  go_ret
  exact ⟨Z152,Z122⟩
 subst c15
 rw [if_pos rfl] at H
 by_cases c16 : (l0_7.length : Int) ≤ 4
 rotate_left
 ·rw [if_neg c16] at H
  have c16b0 : decide ((l0_7.length : Int) ≤ 4) = false := decide_eq_false c16
  have c16b1 : decide (l0_7.length ≤ 4) = false := decide_eq_false Z285
  clear c16
  obtain rfl := Option.some.inj H
  go_enter Tryz.func8,Tryz.ntmps8
  go_wp2_with (first | ((with_reducible refine gate_dst (N := 1) rfl ?_);(try (refine gate_guard Z191 ?_;dsimp only));refine bE 1 #[.int .i64 a0_0,.int .i64 a0_1,.int .i64 a0_2,.int .i64 a0_3,.int .i64 a0_4,.int .i64 a0_5,.int .i64 a0_6,.slice A0_7 l0_7.length c0_7] 26 (h := ?_);intro gb255 hg wq1 hbox hb;have n_ := Z43;clear HB;obtain ⟨HB,BK255,GW255,GE255⟩ := n_;clear hb hbox hg;obtain ⟨hczq2_0,hczq2_1,hczq2_2,hczq2_3,hczq2_4,hczq2_5,hczq2_6,hczq2_7,hfzq2_0,hfzq2_1,hfzq2_2,hfzq2_3,hfzq2_4,hfzq2_5,hfzq2_6,hfzq2_7⟩ := cells8 BK255.out) | ((with_reducible refine gate_callee (f := 23) rfl ?_);refine goesL_ (some 5) rfl rfl Tryz.func23 Z190 rfl #[.int .i64 a0_0,.int .i64 1,.int .i64 8] rfl Z130 ?_;(with_reducible refine (impl_within.calls a0_0 1 8 true _ A2.out).mono ?_);rintro e w' ⟨rfl,⟨nd,rfl⟩⟩;refine ⟨_,rfl,?_⟩) | (go_at_call 23;(with_reducible refine (impl_within.calls a0_1 0 4 true _ A4.out).mono ?_);rintro e w' ⟨rfl,⟨nd,rfl⟩⟩) | (go_at_call 23;(with_reducible refine (impl_within.calls a0_2 2 8 true _ A6.out).mono ?_);rintro e w' ⟨rfl,⟨nd,rfl⟩⟩) | (go_at_call 23;(with_reducible refine (impl_within.calls a0_3 1 100 true _ A8.out).mono ?_);rintro e w' ⟨rfl,⟨nd,rfl⟩⟩) | (go_at_call 23;(with_reducible refine (impl_within.calls a0_4 1 20 true _ A10.out).mono ?_);rintro e w' ⟨rfl,⟨nd,rfl⟩⟩) | (go_at_call 23;(with_reducible refine (impl_within.calls a0_6 1 1000 true _ A12.out).mono ?_);rintro e w' ⟨rfl,⟨nd,rfl⟩⟩) | (go_at_call 23;(with_reducible refine (impl_within.calls a0_5 1 a0_6 true _ A14.out).mono ?_);rintro e w' ⟨rfl,⟨nd,rfl⟩⟩))
  go_ret
  exact ⟨Z152,Z122⟩
 rw [if_pos c16] at H
 have c16b0 : decide ((l0_7.length : Int) ≤ 4) = true := decide_eq_true c16
 have c16b1 : decide (l0_7.length ≤ 4) = true := decide_eq_true Z285
 clear c16
 obtain ⟨t263,A170,H⟩ := Option.bind_eq_some_iff.mp H
 have A17 := Aside0.mk A170
 clear A170
 obtain rfl := Option.some.inj H
 go_enter Tryz.func8,Tryz.ntmps8
 go_wp2_with (first | ((with_reducible refine gate_dst (N := 1) rfl ?_);(try (refine gate_guard Z191 ?_;dsimp only));refine bE 1 #[.int .i64 a0_0,.int .i64 a0_1,.int .i64 a0_2,.int .i64 a0_3,.int .i64 a0_4,.int .i64 a0_5,.int .i64 a0_6,.slice A0_7 l0_7.length c0_7] 26 (h := ?_);intro gb255 hg wq1 hbox hb;have n_ := Z43;clear HB;obtain ⟨HB,BK255,GW255,GE255⟩ := n_;clear hb hbox hg;obtain ⟨hczq2_0,hczq2_1,hczq2_2,hczq2_3,hczq2_4,hczq2_5,hczq2_6,hczq2_7,hfzq2_0,hfzq2_1,hfzq2_2,hfzq2_3,hfzq2_4,hfzq2_5,hfzq2_6,hfzq2_7⟩ := cells8 BK255.out) | ((with_reducible refine gate_callee (f := 23) rfl ?_);refine goesL_ (some 5) rfl rfl Tryz.func23 Z190 rfl #[.int .i64 a0_0,.int .i64 1,.int .i64 8] rfl Z130 ?_;(with_reducible refine (impl_within.calls a0_0 1 8 true _ A2.out).mono ?_);rintro e w' ⟨rfl,⟨nd,rfl⟩⟩;refine ⟨_,rfl,?_⟩) | (go_at_call 23;(with_reducible refine (impl_within.calls a0_1 0 4 true _ A4.out).mono ?_);rintro e w' ⟨rfl,⟨nd,rfl⟩⟩) | (go_at_call 23;(with_reducible refine (impl_within.calls a0_2 2 8 true _ A6.out).mono ?_);rintro e w' ⟨rfl,⟨nd,rfl⟩⟩) | (go_at_call 23;(with_reducible refine (impl_within.calls a0_3 1 100 true _ A8.out).mono ?_);rintro e w' ⟨rfl,⟨nd,rfl⟩⟩) | (go_at_call 23;(with_reducible refine (impl_within.calls a0_4 1 20 true _ A10.out).mono ?_);rintro e w' ⟨rfl,⟨nd,rfl⟩⟩) | (go_at_call 23;(with_reducible refine (impl_within.calls a0_6 1 1000 true _ A12.out).mono ?_);rintro e w' ⟨rfl,⟨nd,rfl⟩⟩) | (go_at_call 23;(with_reducible refine (impl_within.calls a0_5 1 a0_6 true _ A14.out).mono ?_);rintro e w' ⟨rfl,⟨nd,rfl⟩⟩) | (go_at_call 24;(with_reducible refine (slices_ContainsFunc_int_int.calls k _ _ l0_7 () t263 _ ?side1 ?side2 A17.out).mono ?_);(case side1 => repeat (first | exact (Kd.C_below HR0_7.out Z122) | (with_reducible refine Kd.C_alloc ?_ _) | (with_reducible refine Kd.C_drewN ?_ _) | (with_reducible refine Kd.C_drew ?_)));(case side2 => exact Z186);rintro e w' ⟨rfl,⟨nd,rfl⟩⟩))
 go_ret
 exact ⟨Z152,Z122⟩

/-! ### strconv_Itoa: function 46 -/
def strconv_Itoa.f (a0 : Int) : Option (ByteArray) := if -9223372036854775808 ≤ a0 ∧ a0 ≤ 9223372036854775807 then some ⟨(Lib.itoa a0).toArray⟩ else none
theorem strconv_Itoa.calls (a0 : Int) (r : ByteArray) (w : World) (hG : GT w) (h : strconv_Itoa.f a0 = some r) :
  Calls Tryz.prog 46 #[.int .i64 a0] w fun e w' => e = .returned (.string r) ∧ Below w.heap.size w w' := by
 unfold strconv_Itoa.f at h
 by_cases hb : -9223372036854775808 ≤ a0 ∧ a0 ≤ 9223372036854775807
 rotate_left
 ·rw [if_neg hb] at h;cases h
 rw [if_pos hb] at h
 obtain rfl := Option.some.inj h
 exact (Tryz.strconv_Itoa a0 hb.1 hb.2 w hG.pow10).mono fun e w' ⟨he,k,os,hw⟩ => ⟨he,by rw [hw];exact Lib.below_grow _ _ (Nat.le_refl _) k os⟩

/-! ### impl_Digits: function 17 -/
def impl_Digits.f (a0 : Int) : Option (ByteArray) := (strconv_Itoa.f a0).bind fun t264 => (some t264)
set_option maxHeartbeats 8000000 in
set_option maxRecDepth 100000 in
theorem impl_Digits.calls (a0 : Int) (r : ByteArray) (w : World) (hG : GT w) (h : impl_Digits.f a0 = some r) :
  Calls Tryz.prog 17 #[.int .i64 a0] w fun e w' => e = .returned (.string r) ∧ Below w.heap.size w w' := by
 have HG := Aside0.mk hG
 clear hG
 have HB := Aside0.mk (Below.refl w.heap.size w)
 have H : ((strconv_Itoa.f a0).bind fun t264 => (some t264)) = some r := h
 clear h
 obtain ⟨t264,A20,H⟩ := Option.bind_eq_some_iff.mp H
 have A2 := Aside0.mk A20
 clear A20
 obtain rfl := Option.some.inj H
 go_enter Tryz.func17,Tryz.ntmps17
 go_wp2_with (first | ((with_reducible refine gate_callee (f := 46) rfl ?_);refine goesL_ (some 4) rfl rfl Tryz.func46 Z190 rfl #[.int .i64 a0] rfl Z130 ?_;(with_reducible refine (strconv_Itoa.calls a0 t264 _ ?side1 A2.out).mono ?_);(case side1 => exact Z125);rintro e wq1 ⟨rfl,hb⟩;refine ⟨_,rfl,?_⟩;have n0_ := Aside0.mk (below_step Z298 hb);clear HB;have HB := n0_;clear n0_;(try clear hb);(try clear hb2);(try clear hk);(try clear hi)))
 go_ret
 exact ⟨Z152,Z298⟩

/-! ### strings_Join: function 62 -/
def strings_Join.f (l0 : List ByteArray) (a1 : ByteArray) : Option (ByteArray) := if l0.length ≤ 140737488355328 ∧ (Lib.join (l0.map (·.data.toList)) a1.data.toList).length ≤ 140737488355328 then some ⟨(Lib.join (l0.map (·.data.toList)) a1.data.toList).toArray⟩ else none
theorem strings_Join.calls (A0 : Option Addr) (c0 : Nat) (l0 : List ByteArray) (a1 : ByteArray) (r : ByteArray) (w : World) (hr0 : Kd.C Kd.string w A0 l0.length l0) (hc0 : l0.length ≤ c0) (h : strings_Join.f l0 a1 = some r) :
  Calls Tryz.prog 62 #[.slice A0 l0.length c0,.string a1] w fun e w' => e = .returned (.string r) ∧ Below w.heap.size w w' := by
 unfold strings_Join.f at h
 by_cases hb : l0.length ≤ 140737488355328 ∧ (Lib.join (l0.map (·.data.toList)) a1.data.toList).length ≤ 140737488355328
 rotate_left
 ·rw [if_neg hb] at h;cases h
 rw [if_pos hb] at h
 obtain rfl := Option.some.inj h
 rcases Nat.eq_zero_or_pos l0.length with h0 | h0
 ·obtain rfl := List.length_eq_zero_iff.mp h0
  exact (Tryz.strings_Join_none A0 c0 a1 w).mono fun e w' ⟨he,hw⟩ => ⟨he,hw ▸ Below.refl _ _⟩
 obtain ⟨_,_,hc'⟩ := hr0
 obtain ⟨⟨b,off,f⟩,rfl,hc⟩ := hc' h0
 clear hc'
 have hk : ∀ j (hj : j < l0.length),w.cell? (if j = 0 then ⟨b,off,f⟩ else ⟨b,off + j,none⟩) = some (.string l0[j]) := by
  intro j hj
  obtain ⟨c,_,hcr,hcell⟩ := hc j _ (List.getElem?_eq_getElem hj)
  have hcr : c = [Value.string l0[j]] := hcr
  have := hcell 0 (.string l0[j]) (by rw [hcr];rfl)
  simpa [Kd.string,Kd.scalar,Addr.add] using this
 obtain rfl : f = none := by
  have := hk 0 h0
  cases f with
  | none => rfl
  | some _ =>
   simp only [if_true,World.cell?,Option.isSome_some] at this
   split at this <;> simp at this
 have hk : ∀ (j : Nat) x,l0[j]? = some x → w.cell? ⟨b,off + j,none⟩ = some (.string x) := by
  intro j x hx
  obtain ⟨hj,rfl⟩ := List.getElem?_eq_some_iff.1 hx
  have := hk j hj
  by_cases e : j = 0
  rotate_left
  ·rwa [if_neg e] at this
  subst e;simpa using this
 have hbk : b < w.heap.size := World.block_lt_of_cell? _ _ (hk 0 _ (List.getElem?_eq_getElem h0))
 exact Tryz.strings_Join b off c0 l0 a1 w hk hbk hb.1 hc0 hb.2

/-! ### impl_Joined: function 47 -/
def impl_Joined.f (l0 : List ByteArray) (a1 : ByteArray) : Option (ByteArray) := (strings_Join.f l0 a1).bind fun t265 => (some t265)
set_option maxHeartbeats 8000000 in
set_option maxRecDepth 100000 in
theorem impl_Joined.calls (A0 : Option Addr) (c0 : Nat) (l0 : List ByteArray) (a1 : ByteArray) (r : ByteArray) (w : World) (hr0 : Kd.C Kd.string w A0 l0.length l0) (hc0 : l0.length ≤ c0) (h : impl_Joined.f l0 a1 = some r) :
  Calls Tryz.prog 47 #[.slice A0 l0.length c0,.string a1] w fun e w' => e = .returned (.string r) ∧ Below w.heap.size w w' := by
 have HR0 := Aside0.mk hr0
 have HC0 := Aside0.mk hc0
 clear hr0 hc0
 have HB := Aside0.mk (Below.refl w.heap.size w)
 have H : ((strings_Join.f l0 a1).bind fun t265 => (some t265)) = some r := h
 clear h
 obtain ⟨t265,A30,H⟩ := Option.bind_eq_some_iff.mp H
 have A3 := Aside0.mk A30
 clear A30
 obtain rfl := Option.some.inj H
 go_enter Tryz.func47,Tryz.ntmps47
 go_wp2_with (first | ((with_reducible refine gate_callee (f := 62) rfl ?_);refine goesL_ (some 7) rfl rfl Tryz.func62 Z190 rfl #[.slice A0 l0.length c0,.string a1] rfl Z130 ?_;(with_reducible refine (strings_Join.calls _ _ l0 a1 t265 _ ?side1 ?side2 A3.out).mono ?_);(case side1 => exact Z127);(case side2 => exact HC0.out);rintro e wq1 ⟨rfl,hb⟩;refine ⟨_,rfl,?_⟩;have n0_ := Aside0.mk (below_step Z298 hb);clear HB;have HB := n0_;clear n0_;(try clear hb);(try clear hb2);(try clear hk);(try clear hi)))
 go_ret
 exact ⟨Z152,Z298⟩

/-! ### impl_signsText: function 18 -/
def impl_signsText.l0 : Nat → List ByteArray → List Int → Int → Int → Option (ByteArray)
 | 0,_,_,_,_ => none
 | k + 1,x3,x7,x8,x9 => if x9 < x8 then (if 0 ≤ x9 then (if x9 < (x7.length : Int) then (if 0 ≤ (wrap64 ((rd x7 x9) + 1)) then (if (wrap64 ((rd x7 x9) + 1)) ≤ (wrap64 ((rd x7 x9) + 2)) then (if (wrap64 ((rd x7 x9) + 2)) ≤ 3 then (if x3.length < 8796093022208 then (impl_signsText.l0 k (x3 ++ [(⟨#[45,48,43]⟩ : ByteArray).extract ((wrap64 ((rd x7 x9) + 1)) : Int).toNat ((wrap64 ((rd x7 x9) + 2)) : Int).toNat]) x7 x8 (wrap64 (x9 + 1))) else (none)) else (none)) else (none)) else (none)) else (none)) else (none)) else ((impl_Joined.f x3 (⟨#[44]⟩ : ByteArray)).bind fun t273 => (some t273))
def impl_signsText.f (k : Nat) (l0 : List Int) : Option (ByteArray) := impl_signsText.l0 k (([] : List ByteArray)) l0 (l0.length : Int) 0
theorem impl_signsText.mono_l : ∀ k,(∀ y0 y1 y2 y3,LeO (impl_signsText.l0 k y0 y1 y2 y3) (impl_signsText.l0 (k + 1) y0 y1 y2 y3))
 | 0 => fun _ _ _ _ r h => by simp [impl_signsText.l0] at h
 | k + 1 => by
  have ih0 := impl_signsText.mono_l k
  ·intro y0 y1 y2 y3
   unfold impl_signsText.l0
   repeat' first
   | (with_reducible exact ih0 _ _ _ _)
   | (with_reducible exact LeO.refl _)
   | (with_reducible exact LeO.none _)
   | (with_reducible refine LeO.ite ?_ ?_)
   | (with_reducible refine LeO.bind ?_ (fun _ => ?_))
   | exact ih0 _ _ _ _
   | exact LeO.none _
   | refine LeO.ite ?_ ?_
   | refine LeO.bind ?_ (fun _ => ?_)
theorem impl_signsText.mono : ∀ a0 k,LeO (impl_signsText.f k a0) (impl_signsText.f (k + 1) a0) := by
 intro a0 k
 have ih0 := impl_signsText.mono_l k
 unfold impl_signsText.f
 repeat' first
   | (with_reducible exact ih0 _ _ _ _)
   | (with_reducible exact LeO.refl _)
   | (with_reducible exact LeO.none _)
   | (with_reducible refine LeO.ite ?_ ?_)
   | (with_reducible refine LeO.bind ?_ (fun _ => ?_))
   | exact ih0 _ _ _ _
   | exact LeO.none _
   | refine LeO.ite ?_ ?_
   | refine LeO.bind ?_ (fun _ => ?_)
set_option maxHeartbeats 8000000 in
set_option maxRecDepth 100000 in
theorem impl_signsText.calls (k : Nat) (A0 : Option Addr) (c0 : Nat) (l0 : List Int) (r : ByteArray) (w : World) (hr0 : Kd.C (Kd.int .i64) w A0 l0.length l0) (hc0 : l0.length ≤ c0) (h : impl_signsText.f k l0 = some r) :
  Calls Tryz.prog 18 #[.slice A0 l0.length c0] w fun e w' => e = .returned (.string r) ∧ Below w.heap.size w w' := by
 have HR0 := Aside0.mk hr0
 have HC0 := Aside0.mk hc0
 clear hr0 hc0
 have HB := Aside0.mk (Below.refl w.heap.size w)
 have H := h
 clear h
 unfold impl_signsText.f at H
 obtain ⟨y266,hyy⟩ : ∃ y_ : List ByteArray,y_ = (([] : List ByteArray)) := ⟨_,rfl⟩
 replace H : (impl_signsText.l0 k y266 l0 (l0.length : Int) 0) = some r := zR
 have Ny266 := Aside0.mk hyy
 clear hyy
 have H' := Aside0.mk H
 clear H
 go_enter Tryz.func18,Tryz.ntmps18
 go_wp2_with (first | ((with_reducible refine gate_dst (N := 6) rfl ?_);refine Kd.R_lit Kd.string _ 9 ?hg (N := 6) ?hd (xs := ([] : List ByteArray)) (inner := []) (ok := fun _ => True) (okp := fun _ => True) ?hr ?hp (fun _ hk => hk) trivial (Below.refl _ _) (Nat.le_refl _) Z286 ?_;(case hd => rfl);(case hg => rfl);(case hr => exact Z166);(case hp => exact Z185);intro v267 w2 ho3 hb hg_ hnew_;clear hg_ hnew_;(first | rw [← Ny266.out] at ho3 | (simp only [Int.reduceToNat] at ho3;rw [← Ny266.out] at ho3));have n_ := jA (Kd.R_lower ho3 (below_size Z298)) (Aside0.mk (below_step Z298 hb));clear HB;obtain ⟨HO268,HB⟩ := n_;clear hb ho3))
 go_loopg [3,9] k (fun kq v3 v9 w' => ∃ (x3_1 : List ByteArray) (x9_1 : Int),v9 = .int .i64 x9_1 ∧ Aside0 (impl_signsText.l0 kq x3_1 l0 (l0.length : Int) x9_1 = some r) ∧ Aside0 (kq ≤ k) ∧ Aside0 (Kd.R Kd.string 9 w' w.heap.size (fun _ => True) v3 x3_1) ∧ Aside0 (Below w.heap.size w w'))
 case atStart => exact ⟨(y266),(0),Z165,H',⟨Nat.le_refl _⟩,⟨by (with_reducible repeat (first | apply Kd.R_alloc | apply Kd.R_drewN | apply Kd.R_drew));exact HO268.out⟩,⟨Z298⟩⟩
 case round =>
  clear H'
  try clear c1
  try clear p2
  obtain ⟨x3_1,x9_1,rfl,HA,HK1,HO_3,HB⟩ := hrel
  cases gk with
  | zero => exact absurd HA.out (by simp [impl_signsText.l0])
  | succ k1 =>
   have H := HA.out
   clear HA
   simp only [impl_signsText.l0] at H
   by_cases c4 : x9_1 < (l0.length : Int)
   rotate_left
   ·rw [if_neg c4] at H
    have c4b0 : decide (x9_1 < (l0.length : Int)) = false := decide_eq_false c4
    clear c4
    obtain ⟨t273,A130,H⟩ := Option.bind_eq_some_iff.mp H
    have A13 := Aside0.mk A130
    clear A130
    obtain rfl := Option.some.inj H
    obtain ⟨Ao14,co14,eo14⟩ := Kd.R_slice HO_3.out
    subst eo14
    go_wp2_with (first | ((with_reducible refine gate_callee (f := 47) rfl ?_);refine goesL_ (some 23) rfl rfl Tryz.func47 Z190 rfl #[.slice Ao14 x3_1.length co14,.string (⟨#[44]⟩ : ByteArray)] rfl Z130 ?_;(with_reducible refine (impl_Joined.calls _ _ x3_1 (⟨#[44]⟩ : ByteArray) t273 _ ?side1 ?side2 A13.out).mono ?_);(case side1 => repeat (first | exact (Kd.R_reads' HO_3.out).2.2 | (with_reducible refine Kd.C_alloc ?_ _) | (with_reducible refine Kd.C_drewN ?_ _) | (with_reducible refine Kd.C_drew ?_)));(case side2 => exact (Kd.R_reads' HO_3.out).2.1);rintro e wq1 ⟨rfl,hb⟩;refine ⟨_,rfl,?_⟩;have n_ := jA (Kd.R_below Z151 hb) (Aside0.mk (below_step Z298 hb));clear HO_3 HB;obtain ⟨HO_3,HB⟩ := n_;(try clear hb);(try clear hb2);(try clear hk);(try clear hi)))
    go_ret
    exact ⟨Z152,Z298⟩
   rw [if_pos c4] at H
   have c4b0 : decide (x9_1 < (l0.length : Int)) = true := decide_eq_true c4
   clear c4
   obtain ⟨c5,H⟩ := ifp H
   have c5b0 : decide (0 ≤ x9_1) = true := decide_eq_true c5
   clear c5
   obtain ⟨c6,H⟩ := ifp H
   have c6b0 : decide (x9_1 < (l0.length : Int)) = true := decide_eq_true c6
   clear c6
   obtain ⟨ji7,hji7⟩ : ∃ j_ : Int,(wrap64 ((rd l0 x9_1) + 1)) = j_ := ⟨_,rfl⟩
   replace H : (if 0 ≤ (ji7) then (if (ji7) ≤ (wrap64 ((rd l0 x9_1) + 2)) then (if (wrap64 ((rd l0 x9_1) + 2)) ≤ 3 then (if x3_1.length < 8796093022208 then (impl_signsText.l0 k1 (x3_1 ++ [(⟨#[45,48,43]⟩ : ByteArray).extract ((ji7) : Int).toNat ((wrap64 ((rd l0 x9_1) + 2)) : Int).toNat]) l0 (l0.length : Int) (wrap64 (x9_1 + 1))) else (none)) else (none)) else (none)) else (none)) = some r := by first | (rw [hji7] at H;exact H) | (simp only [hji7] at H ⊢;exact H)
   have hji7w : (IntKind.i64.wrap ((rd l0 x9_1) + 1)) = ji7 := (i64_w _).trans hji7
   obtain ⟨c8,H⟩ := ifp H
   have c8b0 := eq_true c8
   have c8b1 : decide (0 ≤ (ji7)) = true := decide_eq_true c8
   clear c8
   obtain ⟨c9,H⟩ := ifp H
   have c9b0 := eq_true c9
   have c9b1 : decide ((ji7) ≤ (wrap64 ((rd l0 x9_1) + 2))) = true := decide_eq_true c9
   obtain ⟨c10,H⟩ := ifp H
   have c10b0 := eq_true c10
   have c10b1 : decide ((wrap64 ((rd l0 x9_1) + 2)) ≤ 3) = true := decide_eq_true c10
   obtain ⟨c11,H⟩ := ifp H
   have LMc11 := Aside0.mk c11
   clear c11
   obtain ⟨y270,hyy⟩ : ∃ y_ : List ByteArray,y_ = (x3_1 ++ [(⟨#[45,48,43]⟩ : ByteArray).extract ((ji7) : Int).toNat ((wrap64 ((rd l0 x9_1) + 2)) : Int).toNat]) := ⟨_,rfl⟩
   replace H : (impl_signsText.l0 k1 y270 l0 (l0.length : Int) (wrap64 (x9_1 + 1))) = some r := zR
   have Ny270 := Aside0.mk hyy
   clear hyy
   have H' := Aside0.mk H
   clear H
   have p269 : 0 ≤ (x9_1 : Int) := of_decide_eq_true Z164
   have q269 : x9_1 < (l0.length : Int) := of_decide_eq_true Z164
   obtain ⟨ad269,e269,hx269_0⟩ := Kd.at_int HR0.out x9_1 p269 q269
   cases e269
   replace hx269_0 := (HB.out.cell (World.block_lt_of_cell? w _ hx269_0)).trans hx269_0
   replace p269 := eq_true p269
   replace q269 := eq_true q269
   go_wp2_with (first | ((with_reducible refine gate_builtin (b := .append) (xs := #[.tmp 13,.tmp 19]) rfl ?_);at_builtin;refine Kd.R_append Kd.string (w0 := w) w.heap.size rfl (.tmp 13) (.tmp 19) 42 9 (.string ⟨#[]⟩) 16 rfl Tryz.underlying42 info9 rfl Z306 Z285 u3 x3_1 ((⟨#[45,48,43]⟩ : ByteArray).extract ((ji7) : Int).toNat ((wrap64 ((rd l0 x9_1) + 2)) : Int).toNat) [.string ((⟨#[45,48,43]⟩ : ByteArray).extract ((ji7) : Int).toNat ((wrap64 ((rd l0 x9_1) + 2)) : Int).toNat)] (fun _ => True) (fun _ => False) rfl rfl ?aP (fun _ hk => hk.elim) ?aF ?aO ?aB ?aS ?aL ?_;(case aP => exact rfl);(case aB => exact Z128);(case aF => exact Z183);(case aO => exact Z151);(case aS => exact Z126);(case aL => have := LMc11.out;omega);intro v271 w12 ho hb hg hat;rw [← Ny270.out] at ho;have n_ := jA (hb) (Aside0.mk (ho));clear HB HO_3;obtain ⟨HB,HO272⟩ := n_;clear ho hb hg hat))
   go_roundg k1
   case measure => have := HK1.out;omega
   case rel => exact ⟨(y270),(wrap64 (x9_1 + 1)),Z165,H',⟨Z184⟩,⟨by (with_reducible repeat (first | apply Kd.R_alloc | apply Kd.R_drewN | apply Kd.R_drew));exact HO272.out⟩,⟨Z298⟩⟩

end Go.Proofs.YtepnbcdbagjmbaeGreatDoor.QFnConfig
