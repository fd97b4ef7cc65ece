/- The machine side of FnExactMayPart: what each Go function that it reaches comes to. Conditions: none. -/
import Derived.Test.YtaepeajaefpooaaQFnExactMayPartx0
import Derived.Test.YtaepeajaefpooaaQFnExactMayPartx1
namespace Go.Proofs.Ytaepeajaefpooaa.QFnExactMayPart
open Go.RowKit Go.Proofs.YtaepeajaefpooaaW.PrintWords Go.Proofs.YtaepeajaefpooaaW.PrintLast Go.Proofs.YtaepeajaefpooaaW.PrintMore
attribute [local go_sem] max2_int min2_int max_two min_two max_three min_three max_four min_four   -- for this text's walks alone
set_option linter.unusedVariables false
set_option linter.unusedSimpArgs false

/-! ### spec_SignFor: function 34 -/
def spec_SignFor.f (a0_0 : Int) (a0_1 : Int) (a0_2 : Int) (a0_3 : Int) (a0_4 : Int) (a0_5 : Int) (a0_6 : Int) (l0_7 : List Int) (a1 : Int) : Option (Int) := (spec_l1In.f a1 0 (wrap64 ((l0_7.length : Int) - 1))).bind fun t153 => (if t153 = true then (if 0 ≤ a1 then (if a1 < (l0_7.length : Int) then (some (rd l0_7 a1)) else (none)) else (none)) else (some 0))
set_option maxHeartbeats 8000000 in
set_option maxRecDepth 100000 in
theorem spec_SignFor.calls (a0_0 : Int) (a0_1 : Int) (a0_2 : Int) (a0_3 : Int) (a0_4 : Int) (a0_5 : Int) (a0_6 : Int) (A0_7 : Option Addr) (c0_7 : Nat) (l0_7 : List Int) (a1 : Int) (r : Int) (w : World) (hr0_7 : Kd.C (Kd.int .i64) w A0_7 l0_7.length l0_7) (hc0_7 : l0_7.length ≤ c0_7) (h : spec_SignFor.f a0_0 a0_1 a0_2 a0_3 a0_4 a0_5 a0_6 l0_7 a1 = some r) :
  Calls Try.prog 34 #[.agg #[.int .i64 a0_0,.int .i64 a0_1,.int .i64 a0_2,.int .i64 a0_3,.int .i64 a0_4,.int .i64 a0_5,.int .i64 a0_6,.slice A0_7 l0_7.length c0_7],.int .i64 a1] w fun e w' => e = .returned (.int .i64 r) ∧ Below w.heap.size w w' := by
 have hu33 := Try.underlying33
 have HR0_7 := Aside0.mk hr0_7
 have HC0_7 := Aside0.mk hc0_7
 clear hr0_7 hc0_7
 have HB := Aside0.mk (Below.refl w.heap.size w)
 have H := h
 clear h
 unfold spec_SignFor.f at H
 obtain ⟨t153,A30,H⟩ := Option.bind_eq_some_iff.mp H
 have A3 := Aside0.mk A30
 clear A30
 by_cases c4 : t153 = true
 ·subst c4
  rw [if_pos rfl] at H
  by_cases c5 : 0 ≤ a1
  ·rw [if_pos c5] at H
   have c5b0 : decide (0 ≤ a1) = true := decide_eq_true c5
   clear c5
   by_cases c6 : a1 < (l0_7.length : Int)
   ·rw [if_pos c6] at H
    have c6b0 : decide (a1 < (l0_7.length : Int)) = true := decide_eq_true c6
    clear c6
    obtain rfl := Option.some.inj H
    go_enter Try.func34,Try.ntmps34
    go_wp2_with (first | ((with_reducible refine gate_dst (N := 2) rfl ?_);refine bE 2 #[.int .i64 a0_0,.int .i64 a0_1,.int .i64 a0_2,.int .i64 a0_3,.int .i64 a0_4,.int .i64 a0_5,.int .i64 a0_6,.slice A0_7 l0_7.length c0_7] 33 (h := ?_);intro gb152 hg wq1 hbox hb;have n_ := Z131;clear HB;obtain ⟨HB,BK152,GW152,GE152⟩ := n_;clear hb hbox hg;obtain ⟨hczq2_0,hczq2_1,hczq2_2,hczq2_3,hczq2_4,hczq2_5,hczq2_6,hczq2_7,hfzq2_0,hfzq2_1,hfzq2_2,hfzq2_3,hfzq2_4,hfzq2_5,hfzq2_6,hfzq2_7⟩ := cells8 BK152.out) | ((with_reducible refine gate_callee (f := 46) rfl ?_);refine goesL_ (some 10) rfl rfl Try.func46 Z312 rfl #[.int .i64 a1,.int .i64 0,.int .i64 (wrap64 ((l0_7.length : Int) - 1))] rfl Z256 ?_;(with_reducible refine (spec_l1In.calls a1 0 (wrap64 ((l0_7.length : Int) - 1)) true _ A3.out).mono ?_);rintro e w' ⟨rfl,⟨nd,rfl⟩⟩;refine ⟨_,rfl,?_⟩;have pq3 : 0 ≤ (a1 : Int) := of_decide_eq_true Z288;have qq3 : a1 < (l0_7.length : Int) := of_decide_eq_true Z288;obtain ⟨adq3,eq3,hxq3_0⟩ := Kd.at_int HR0_7.out a1 pq3 qq3;cases eq3;replace hxq3_0 := (HB.out.cell (World.block_lt_of_cell? w _ hxq3_0)).trans hxq3_0;replace pq3 := eq_true pq3;replace qq3 := eq_true qq3))
    go_ret
    exact ⟨Z263,Z250⟩
   ·rw [if_neg c6] at H
    exact absurd H Z553
  ·rw [if_neg c5] at H
   exact absurd H Z553
 ·replace c4 := Bool.eq_false_iff.mpr c4
  subst c4
  rw [if_neg Bool.false_ne_true] at H
  obtain rfl := Option.some.inj H
  go_enter Try.func34,Try.ntmps34
  go_wp2_with (first | ((with_reducible refine gate_dst (N := 2) rfl ?_);refine bE 2 #[.int .i64 a0_0,.int .i64 a0_1,.int .i64 a0_2,.int .i64 a0_3,.int .i64 a0_4,.int .i64 a0_5,.int .i64 a0_6,.slice A0_7 l0_7.length c0_7] 33 (h := ?_);intro gb152 hg wq1 hbox hb;have n_ := Z131;clear HB;obtain ⟨HB,BK152,GW152,GE152⟩ := n_;clear hb hbox hg;obtain ⟨hczq2_0,hczq2_1,hczq2_2,hczq2_3,hczq2_4,hczq2_5,hczq2_6,hczq2_7,hfzq2_0,hfzq2_1,hfzq2_2,hfzq2_3,hfzq2_4,hfzq2_5,hfzq2_6,hfzq2_7⟩ := cells8 BK152.out) | ((with_reducible refine gate_callee (f := 46) rfl ?_);refine goesL_ (some 10) rfl rfl Try.func46 Z312 rfl #[.int .i64 a1,.int .i64 0,.int .i64 (wrap64 ((l0_7.length : Int) - 1))] rfl Z256 ?_;(with_reducible refine (spec_l1In.calls a1 0 (wrap64 ((l0_7.length : Int) - 1)) false _ A3.out).mono ?_);rintro e w' ⟨rfl,⟨nd,rfl⟩⟩;refine ⟨_,rfl,?_⟩))
  go_ret
  exact ⟨Z263,Z250⟩

/-! ### spec_AddInt: function 139 -/
def spec_AddInt.f (a0 : Int) (a1 : Int) : Option (Int × Bool) := if a1 > 0 then (if a0 > (wrap64 (9223372036854775807 - a1)) then (some (0,false)) else (if a1 < 0 then (if a0 < (wrap64 ((-9223372036854775808) - a1)) then (some (0,false)) else (some (wrap64 (a0 + a1),true))) else (some (wrap64 (a0 + a1),true)))) else (if a1 < 0 then (if a0 < (wrap64 ((-9223372036854775808) - a1)) then (some (0,false)) else (some (wrap64 (a0 + a1),true))) else (some (wrap64 (a0 + a1),true)))
set_option maxHeartbeats 8000000 in
set_option maxRecDepth 100000 in
theorem spec_AddInt.calls (a0 : Int) (a1 : Int) (r1 : Int) (r2 : Bool) (w : World) (h : spec_AddInt.f a0 a1 = some (r1,r2)) :
  Calls Try.prog 139 #[.int .i64 a0,.int .i64 a1] w fun e w' => e = .returned (.tuple #[.int .i64 r1,.bool r2]) ∧ Drawn0 w w' := by
 have H := h
 clear h
 unfold spec_AddInt.f at H
 by_cases c3 : a1 > 0
 ·rw [if_pos c3] at H
  have c3b0 : decide (0 < a1) = true := decide_eq_true c3
  clear c3
  by_cases c4 : a0 > (wrap64 (9223372036854775807 - a1))
  ·rw [if_pos c4] at H
   have c4b0 : decide ((wrap64 (9223372036854775807 - a1)) < a0) = true := decide_eq_true c4
   clear c4
   simp only [Option.some.injEq,Prod.mk.injEq] at H
   obtain ⟨rfl,rfl⟩ := H
   go_enter Try.func139,Try.ntmps139
   go_wp2
   go_ret2
   exact ⟨Z289,Z266⟩
  ·rw [if_neg c4] at H
   have c4b0 : decide ((wrap64 (9223372036854775807 - a1)) < a0) = false := decide_eq_false c4
   clear c4
   by_cases c5 : a1 < 0
   ·rw [if_pos c5] at H
    have c5b0 : decide (a1 < 0) = true := decide_eq_true c5
    clear c5
    by_cases c6 : a0 < (wrap64 ((-9223372036854775808) - a1))
    ·rw [if_pos c6] at H
     have c6b0 : decide (a0 < (wrap64 ((-9223372036854775808) - a1))) = true := decide_eq_true c6
     clear c6
     simp only [Option.some.injEq,Prod.mk.injEq] at H
     obtain ⟨rfl,rfl⟩ := H
     go_enter Try.func139,Try.ntmps139
     go_wp2
     go_ret2
     exact ⟨Z289,Z266⟩
    ·rw [if_neg c6] at H
     have c6b0 : decide (a0 < (wrap64 ((-9223372036854775808) - a1))) = false := decide_eq_false c6
     clear c6
     simp only [Option.some.injEq,Prod.mk.injEq] at H
     obtain ⟨rfl,rfl⟩ := H
     go_enter Try.func139,Try.ntmps139
     go_wp2
     go_ret2
     exact ⟨Z289,Z266⟩
   ·rw [if_neg c5] at H
    have c5b0 : decide (a1 < 0) = false := decide_eq_false c5
    clear c5
    simp only [Option.some.injEq,Prod.mk.injEq] at H
    obtain ⟨rfl,rfl⟩ := H
    go_enter Try.func139,Try.ntmps139
    go_wp2
    go_ret2
    exact ⟨Z289,Z266⟩
 ·rw [if_neg c3] at H
  have c3b0 : decide (0 < a1) = false := decide_eq_false c3
  clear c3
  by_cases c7 : a1 < 0
  ·rw [if_pos c7] at H
   have c7b0 : decide (a1 < 0) = true := decide_eq_true c7
   clear c7
   by_cases c8 : a0 < (wrap64 ((-9223372036854775808) - a1))
   ·rw [if_pos c8] at H
    have c8b0 : decide (a0 < (wrap64 ((-9223372036854775808) - a1))) = true := decide_eq_true c8
    clear c8
    simp only [Option.some.injEq,Prod.mk.injEq] at H
    obtain ⟨rfl,rfl⟩ := H
    go_enter Try.func139,Try.ntmps139
    go_wp2
    go_ret2
    exact ⟨Z289,Z266⟩
   ·rw [if_neg c8] at H
    have c8b0 : decide (a0 < (wrap64 ((-9223372036854775808) - a1))) = false := decide_eq_false c8
    clear c8
    simp only [Option.some.injEq,Prod.mk.injEq] at H
    obtain ⟨rfl,rfl⟩ := H
    go_enter Try.func139,Try.ntmps139
    go_wp2
    go_ret2
    exact ⟨Z289,Z266⟩
  ·rw [if_neg c7] at H
   have c7b0 : decide (a1 < 0) = false := decide_eq_false c7
   clear c7
   simp only [Option.some.injEq,Prod.mk.injEq] at H
   obtain ⟨rfl,rfl⟩ := H
   go_enter Try.func139,Try.ntmps139
   go_wp2
   go_ret2
   exact ⟨Z289,Z266⟩

/-! ### spec_l13Add: function 114 -/
def spec_l13Add.f (a0_0 : Int) (a0_1 : Int) (a1_0 : Int) (a1_1 : Int) : Option (Int × Int × Bool) := (spec_AddInt.f a0_0 a1_0).bind fun bt158 => ((spec_AddInt.f a0_1 a1_1).bind fun bt160 => (if bt158.2 = true then (if bt160.2 = true then (some (bt158.1,bt160.1,true)) else (some (0,0,false))) else (some (0,0,false))))
set_option maxHeartbeats 8000000 in
set_option maxRecDepth 100000 in
theorem spec_l13Add.calls (a0_0 : Int) (a0_1 : Int) (a1_0 : Int) (a1_1 : Int) (r1 : Int) (r2 : Int) (r3 : Bool) (w : World) (h : spec_l13Add.f a0_0 a0_1 a1_0 a1_1 = some (r1,r2,r3)) :
  Calls Try.prog 114 #[.agg #[.int .i64 a0_0,.int .i64 a0_1],.agg #[.int .i64 a1_0,.int .i64 a1_1]] w fun e w' => e = .returned (.tuple #[.agg #[.int .i64 r1,.int .i64 r2],.bool r3]) ∧ Below w.heap.size w w' := by
 have hu37 := Try.underlying37
 have HB := Aside0.mk (Below.refl w.heap.size w)
 have H := h
 clear h
 unfold spec_l13Add.f at H
 obtain ⟨⟨t158,t159⟩,A30,H⟩ := Option.bind_eq_some_iff.mp H
 try dsimp only at H
 have A3 := Aside0.mk A30
 clear A30
 obtain ⟨⟨t160,t161⟩,A40,H⟩ := Option.bind_eq_some_iff.mp H
 try dsimp only at H
 have A4 := Aside0.mk A40
 clear A40
 by_cases c5 : t159 = true
 ·subst c5
  rw [if_pos rfl] at H
  by_cases c6 : t161 = true
  ·subst c6
   rw [if_pos rfl] at H
   simp only [Option.some.injEq,Prod.mk.injEq] at H
   obtain ⟨rfl,rfl,rfl⟩ := H
   go_enter Try.func114,Try.ntmps114
   go_wp2_with (first | ((with_reducible refine gate_dst (N := 2) rfl ?_);refine bE 2 #[.int .i64 a0_0,.int .i64 a0_1] 37 (h := ?_);intro gb155 hg wq1 hbox hb;have n_ := Z118;clear HB;obtain ⟨HB,BK155,GW155,GE155⟩ := n_;clear hb hbox hg) | ((with_reducible refine gate_dst (N := 3) rfl ?_);refine bE 3 #[.int .i64 a1_0,.int .i64 a1_1] 37 (h := ?_);intro gb156 hg wq2 hbox hb;have n_ := Z78;clear BK155 HB;obtain ⟨BK155,HB,BK156,GW156,GE156,NB155_156,NB156_155⟩ := n_;clear hb hbox hg) | ((with_reducible refine gate_dst (N := 4) rfl ?_);refine bE 4 #[.int .i64 0,.int .i64 0] 37 (h := ?_);intro gb157 hg wq3 hbox hb;have n_ := Z48;clear BK155 BK156 HB;obtain ⟨BK155,BK156,HB,BK157,GW157,GE157,NB155_157,NB157_155,NB156_157,NB157_156⟩ := n_;clear hb hbox hg;have hnbq4 := NB155_156.out;have hncq4 := NB156_155.out;have hnbq5 := NB155_157.out;have hncq5 := NB157_155.out;obtain ⟨hczq6_0,hczq6_1,hfzq6_0,hfzq6_1⟩ := cells2 BK155.out;have hnbq7 := NB156_157.out;have hncq7 := NB157_156.out;obtain ⟨hczq8_0,hczq8_1,hfzq8_0,hfzq8_1⟩ := cells2 BK156.out) | ((with_reducible refine gate_callee (f := 139) rfl ?_);refine goesL_ (some 15) rfl rfl Try.func139 Z312 rfl #[.int .i64 a0_0,.int .i64 a1_0] rfl Z256 ?_;(with_reducible refine (spec_AddInt.calls a0_0 a1_0 t158 true _ A3.out).mono ?_);rintro e w' ⟨rfl,⟨nd,rfl⟩⟩;refine ⟨_,rfl,?_⟩;(iterate 4 (try (rw [drewN_self wq3];generalize hq_ : World.drewN wq3 _ = wq3;have n0_ : Aside0 (wq3.heap[gb155]? = some (.cells #[.int .i64 a0_0,.int .i64 a0_1] 37 (0,0))) := ⟨Z280⟩;have n1_ : Aside0 (wq3.heap[gb156]? = some (.cells #[.int .i64 a1_0,.int .i64 a1_1] 37 (0,0))) := ⟨Z279⟩;have n2_ : Aside0 (wq3.heap[gb157]? = some (.cells #[.int .i64 0,.int .i64 0] 37 (0,0))) := ⟨Z278⟩;have n3_ : Aside0 (Below w.heap.size w wq3) := ⟨Z177⟩;clear BK155 BK156 BK157 HB hq_;have BK155 := n0_;have BK156 := n1_;have BK157 := n2_;have HB := n3_;clear n0_ n1_ n2_ n3_)));(try (obtain ⟨hczq6_0,hczq6_1,hfzq6_0,hfzq6_1⟩ := cells2 BK155.out));(try (obtain ⟨hczq8_0,hczq8_1,hfzq8_0,hfzq8_1⟩ := cells2 BK156.out))) | ((with_reducible refine gate_callee (f := 139) rfl ?_);refine goesL_ (some 23) rfl rfl Try.func139 Z312 rfl #[.int .i64 a0_1,.int .i64 a1_1] rfl Z256 ?_;(with_reducible refine (spec_AddInt.calls a0_1 a1_1 t160 true _ A4.out).mono ?_);rintro e w' ⟨rfl,⟨nd,rfl⟩⟩;refine ⟨_,rfl,?_⟩;(iterate 4 (try (rw [drewN_self wq3];generalize hq_ : World.drewN wq3 _ = wq3;have n0_ : Aside0 (wq3.heap[gb155]? = some (.cells #[.int .i64 a0_0,.int .i64 a0_1] 37 (0,0))) := ⟨Z280⟩;have n1_ : Aside0 (wq3.heap[gb156]? = some (.cells #[.int .i64 a1_0,.int .i64 a1_1] 37 (0,0))) := ⟨Z279⟩;have n2_ : Aside0 (wq3.heap[gb157]? = some (.cells #[.int .i64 0,.int .i64 0] 37 (0,0))) := ⟨Z278⟩;have n3_ : Aside0 (Below w.heap.size w wq3) := ⟨Z177⟩;clear BK155 BK156 BK157 HB hq_;have BK155 := n0_;have BK156 := n1_;have BK157 := n2_;have HB := n3_;clear n0_ n1_ n2_ n3_)));(try (obtain ⟨hczq6_0,hczq6_1,hfzq6_0,hfzq6_1⟩ := cells2 BK155.out));(try (obtain ⟨hczq8_0,hczq8_1,hfzq8_0,hfzq8_1⟩ := cells2 BK156.out));obtain ⟨hczq9_0,hczq9_1,hfzq9_0,hfzq9_1⟩ := cells2 BK157.out))
   refine bodyPost_ret (results_ct rfl _ _ gb157 37 #[.int .i64 t158,.int .i64 t160] (0,0) _ rfl (by refine bP ?_;refine blk_put (cs := #[.int .i64 t158,.int .i64 0]) ?_ 1 _ rfl;refine bP ?_;refine blk_put (cs := #[.int .i64 0,.int .i64 0]) ?_ 0 _ rfl;refine bP ?_;exact BK157.out) Try.underlying37 rfl Z312) rfl ?_
   exact ⟨Z263,Z360⟩
  ·replace c6 := Bool.eq_false_iff.mpr c6
   subst c6
   rw [if_neg Bool.false_ne_true] at H
   simp only [Option.some.injEq,Prod.mk.injEq] at H
   obtain ⟨rfl,rfl,rfl⟩ := H
   go_enter Try.func114,Try.ntmps114
   go_wp2_with (first | ((with_reducible refine gate_dst (N := 2) rfl ?_);refine bE 2 #[.int .i64 a0_0,.int .i64 a0_1] 37 (h := ?_);intro gb155 hg wq1 hbox hb;have n_ := Z118;clear HB;obtain ⟨HB,BK155,GW155,GE155⟩ := n_;clear hb hbox hg) | ((with_reducible refine gate_dst (N := 3) rfl ?_);refine bE 3 #[.int .i64 a1_0,.int .i64 a1_1] 37 (h := ?_);intro gb156 hg wq2 hbox hb;have n_ := Z78;clear BK155 HB;obtain ⟨BK155,HB,BK156,GW156,GE156,NB155_156,NB156_155⟩ := n_;clear hb hbox hg) | ((with_reducible refine gate_dst (N := 4) rfl ?_);refine bE 4 #[.int .i64 0,.int .i64 0] 37 (h := ?_);intro gb157 hg wq3 hbox hb;have n_ := Z48;clear BK155 BK156 HB;obtain ⟨BK155,BK156,HB,BK157,GW157,GE157,NB155_157,NB157_155,NB156_157,NB157_156⟩ := n_;clear hb hbox hg;have hnbq4 := NB155_156.out;have hncq4 := NB156_155.out;have hnbq5 := NB155_157.out;have hncq5 := NB157_155.out;obtain ⟨hczq6_0,hczq6_1,hfzq6_0,hfzq6_1⟩ := cells2 BK155.out;have hnbq7 := NB156_157.out;have hncq7 := NB157_156.out;obtain ⟨hczq8_0,hczq8_1,hfzq8_0,hfzq8_1⟩ := cells2 BK156.out) | ((with_reducible refine gate_callee (f := 139) rfl ?_);refine goesL_ (some 15) rfl rfl Try.func139 Z312 rfl #[.int .i64 a0_0,.int .i64 a1_0] rfl Z256 ?_;(with_reducible refine (spec_AddInt.calls a0_0 a1_0 t158 true _ A3.out).mono ?_);rintro e w' ⟨rfl,⟨nd,rfl⟩⟩;refine ⟨_,rfl,?_⟩;(iterate 4 (try (rw [drewN_self wq3];generalize hq_ : World.drewN wq3 _ = wq3;have n0_ : Aside0 (wq3.heap[gb155]? = some (.cells #[.int .i64 a0_0,.int .i64 a0_1] 37 (0,0))) := ⟨Z280⟩;have n1_ : Aside0 (wq3.heap[gb156]? = some (.cells #[.int .i64 a1_0,.int .i64 a1_1] 37 (0,0))) := ⟨Z279⟩;have n2_ : Aside0 (wq3.heap[gb157]? = some (.cells #[.int .i64 0,.int .i64 0] 37 (0,0))) := ⟨Z278⟩;have n3_ : Aside0 (Below w.heap.size w wq3) := ⟨Z177⟩;clear BK155 BK156 BK157 HB hq_;have BK155 := n0_;have BK156 := n1_;have BK157 := n2_;have HB := n3_;clear n0_ n1_ n2_ n3_)));(try (obtain ⟨hczq6_0,hczq6_1,hfzq6_0,hfzq6_1⟩ := cells2 BK155.out));(try (obtain ⟨hczq8_0,hczq8_1,hfzq8_0,hfzq8_1⟩ := cells2 BK156.out))) | ((with_reducible refine gate_callee (f := 139) rfl ?_);refine goesL_ (some 23) rfl rfl Try.func139 Z312 rfl #[.int .i64 a0_1,.int .i64 a1_1] rfl Z256 ?_;(with_reducible refine (spec_AddInt.calls a0_1 a1_1 t160 false _ A4.out).mono ?_);rintro e w' ⟨rfl,⟨nd,rfl⟩⟩;refine ⟨_,rfl,?_⟩;(iterate 4 (try (rw [drewN_self wq3];generalize hq_ : World.drewN wq3 _ = wq3;have n0_ : Aside0 (wq3.heap[gb155]? = some (.cells #[.int .i64 a0_0,.int .i64 a0_1] 37 (0,0))) := ⟨Z280⟩;have n1_ : Aside0 (wq3.heap[gb156]? = some (.cells #[.int .i64 a1_0,.int .i64 a1_1] 37 (0,0))) := ⟨Z279⟩;have n2_ : Aside0 (wq3.heap[gb157]? = some (.cells #[.int .i64 0,.int .i64 0] 37 (0,0))) := ⟨Z278⟩;have n3_ : Aside0 (Below w.heap.size w wq3) := ⟨Z177⟩;clear BK155 BK156 BK157 HB hq_;have BK155 := n0_;have BK156 := n1_;have BK157 := n2_;have HB := n3_;clear n0_ n1_ n2_ n3_)));(try (obtain ⟨hczq6_0,hczq6_1,hfzq6_0,hfzq6_1⟩ := cells2 BK155.out));(try (obtain ⟨hczq8_0,hczq8_1,hfzq8_0,hfzq8_1⟩ := cells2 BK156.out));obtain ⟨hczq9_0,hczq9_1,hfzq9_0,hfzq9_1⟩ := cells2 BK157.out))
   refine bodyPost_ret (results_ct rfl _ _ gb157 37 #[.int .i64 0,.int .i64 0] (0,0) _ rfl Z223 Try.underlying37 rfl Z312) rfl ?_
   exact ⟨Z263,Z360⟩
 ·replace c5 := Bool.eq_false_iff.mpr c5
  subst c5
  rw [if_neg Bool.false_ne_true] at H
  simp only [Option.some.injEq,Prod.mk.injEq] at H
  obtain ⟨rfl,rfl,rfl⟩ := H
  go_enter Try.func114,Try.ntmps114
  go_wp2_with (first | ((with_reducible refine gate_dst (N := 2) rfl ?_);refine bE 2 #[.int .i64 a0_0,.int .i64 a0_1] 37 (h := ?_);intro gb155 hg wq1 hbox hb;have n_ := Z118;clear HB;obtain ⟨HB,BK155,GW155,GE155⟩ := n_;clear hb hbox hg) | ((with_reducible refine gate_dst (N := 3) rfl ?_);refine bE 3 #[.int .i64 a1_0,.int .i64 a1_1] 37 (h := ?_);intro gb156 hg wq2 hbox hb;have n_ := Z78;clear BK155 HB;obtain ⟨BK155,HB,BK156,GW156,GE156,NB155_156,NB156_155⟩ := n_;clear hb hbox hg) | ((with_reducible refine gate_dst (N := 4) rfl ?_);refine bE 4 #[.int .i64 0,.int .i64 0] 37 (h := ?_);intro gb157 hg wq3 hbox hb;have n_ := Z48;clear BK155 BK156 HB;obtain ⟨BK155,BK156,HB,BK157,GW157,GE157,NB155_157,NB157_155,NB156_157,NB157_156⟩ := n_;clear hb hbox hg;have hnbq4 := NB155_156.out;have hncq4 := NB156_155.out;have hnbq5 := NB155_157.out;have hncq5 := NB157_155.out;obtain ⟨hczq6_0,hczq6_1,hfzq6_0,hfzq6_1⟩ := cells2 BK155.out;have hnbq7 := NB156_157.out;have hncq7 := NB157_156.out;obtain ⟨hczq8_0,hczq8_1,hfzq8_0,hfzq8_1⟩ := cells2 BK156.out) | ((with_reducible refine gate_callee (f := 139) rfl ?_);refine goesL_ (some 15) rfl rfl Try.func139 Z312 rfl #[.int .i64 a0_0,.int .i64 a1_0] rfl Z256 ?_;(with_reducible refine (spec_AddInt.calls a0_0 a1_0 t158 false _ A3.out).mono ?_);rintro e w' ⟨rfl,⟨nd,rfl⟩⟩;refine ⟨_,rfl,?_⟩;(iterate 4 (try (rw [drewN_self wq3];generalize hq_ : World.drewN wq3 _ = wq3;have n0_ : Aside0 (wq3.heap[gb155]? = some (.cells #[.int .i64 a0_0,.int .i64 a0_1] 37 (0,0))) := ⟨Z280⟩;have n1_ : Aside0 (wq3.heap[gb156]? = some (.cells #[.int .i64 a1_0,.int .i64 a1_1] 37 (0,0))) := ⟨Z279⟩;have n2_ : Aside0 (wq3.heap[gb157]? = some (.cells #[.int .i64 0,.int .i64 0] 37 (0,0))) := ⟨Z278⟩;have n3_ : Aside0 (Below w.heap.size w wq3) := ⟨Z177⟩;clear BK155 BK156 BK157 HB hq_;have BK155 := n0_;have BK156 := n1_;have BK157 := n2_;have HB := n3_;clear n0_ n1_ n2_ n3_)));(try (obtain ⟨hczq6_0,hczq6_1,hfzq6_0,hfzq6_1⟩ := cells2 BK155.out));(try (obtain ⟨hczq8_0,hczq8_1,hfzq8_0,hfzq8_1⟩ := cells2 BK156.out))) | ((with_reducible refine gate_callee (f := 139) rfl ?_);refine goesL_ (some 23) rfl rfl Try.func139 Z312 rfl #[.int .i64 a0_1,.int .i64 a1_1] rfl Z256 ?_;(with_reducible refine (spec_AddInt.calls a0_1 a1_1 t160 t161 _ A4.out).mono ?_);rintro e w' ⟨rfl,⟨nd,rfl⟩⟩;refine ⟨_,rfl,?_⟩;(iterate 4 (try (rw [drewN_self wq3];generalize hq_ : World.drewN wq3 _ = wq3;have n0_ : Aside0 (wq3.heap[gb155]? = some (.cells #[.int .i64 a0_0,.int .i64 a0_1] 37 (0,0))) := ⟨Z280⟩;have n1_ : Aside0 (wq3.heap[gb156]? = some (.cells #[.int .i64 a1_0,.int .i64 a1_1] 37 (0,0))) := ⟨Z279⟩;have n2_ : Aside0 (wq3.heap[gb157]? = some (.cells #[.int .i64 0,.int .i64 0] 37 (0,0))) := ⟨Z278⟩;have n3_ : Aside0 (Below w.heap.size w wq3) := ⟨Z177⟩;clear BK155 BK156 BK157 HB hq_;have BK155 := n0_;have BK156 := n1_;have BK157 := n2_;have HB := n3_;clear n0_ n1_ n2_ n3_)));(try (obtain ⟨hczq6_0,hczq6_1,hfzq6_0,hfzq6_1⟩ := cells2 BK155.out));(try (obtain ⟨hczq8_0,hczq8_1,hfzq8_0,hfzq8_1⟩ := cells2 BK156.out));obtain ⟨hczq9_0,hczq9_1,hfzq9_0,hfzq9_1⟩ := cells2 BK157.out))
  refine bodyPost_ret (results_ct rfl _ _ gb157 37 #[.int .i64 0,.int .i64 0] (0,0) _ rfl Z223 Try.underlying37 rfl Z312) rfl ?_
  exact ⟨Z263,Z360⟩

/-! ### spec_BothOf: function 80 -/
def spec_BothOf.f (a0_0 : Int) (a0_1 : Int) (a0_2 : Int) (a0_3 : Int) (a0_4 : Int) (a0_5 : Int) : Option (Int × Int × Bool) := (spec_l13Add.f a0_2 a0_3 a0_4 a0_5).bind fun bt164 => (some (bt164.1,bt164.2.1,bt164.2.2))
set_option maxHeartbeats 8000000 in
set_option maxRecDepth 100000 in
theorem spec_BothOf.calls (a0_0 : Int) (a0_1 : Int) (a0_2 : Int) (a0_3 : Int) (a0_4 : Int) (a0_5 : Int) (r1 : Int) (r2 : Int) (r3 : Bool) (w : World) (h : spec_BothOf.f a0_0 a0_1 a0_2 a0_3 a0_4 a0_5 = some (r1,r2,r3)) :
  Calls Try.prog 80 #[.agg #[.int .i64 a0_0,.int .i64 a0_1,.int .i64 a0_2,.int .i64 a0_3,.int .i64 a0_4,.int .i64 a0_5]] w fun e w' => e = .returned (.tuple #[.agg #[.int .i64 r1,.int .i64 r2],.bool r3]) ∧ Below w.heap.size w w' := by
 have hu39 := Try.underlying39
 have hu37 := Try.underlying37
 have HB := Aside0.mk (Below.refl w.heap.size w)
 have H := h
 clear h
 unfold spec_BothOf.f at H
 obtain ⟨⟨t164,t165,t166⟩,A20,H⟩ := Option.bind_eq_some_iff.mp H
 try dsimp only at H
 have A2 := Aside0.mk A20
 clear A20
 simp only [Option.some.injEq,Prod.mk.injEq] at H
 obtain ⟨rfl,rfl,rfl⟩ := H
 go_enter Try.func80,Try.ntmps80
 go_wp2_with (first | ((with_reducible refine gate_dst (N := 1) rfl ?_);refine bE 1 #[.int .i64 a0_0,.int .i64 a0_1,.int .i64 a0_2,.int .i64 a0_3,.int .i64 a0_4,.int .i64 a0_5] 39 (h := ?_);intro gb162 hg wq1 hbox hb;have n_ := jA (below_step Z614 hb) (jA (hbox) (jA ((Z456 : w.heap.size ≤ gb162)) (Aside0.mk ((Z456 : w.heap.size ≤ gb162)))));clear HB;obtain ⟨HB,BK162,GW162,GE162⟩ := n_;clear hb hbox hg) | ((with_reducible refine gate_dst (N := 2) rfl ?_);refine bE 2 #[.int .i64 0,.int .i64 0] 37 (h := ?_);intro gb163 hg wq2 hbox hb;have n_ := jA (blk_below (g := gb162) (o := .cells #[.int .i64 a0_0,.int .i64 a0_1,.int .i64 a0_2,.int .i64 a0_3,.int .i64 a0_4,.int .i64 a0_5] 39 (0,0)) Z301 hb) (jA (below_step Z475 hb) (jA (hbox) (jA ((Z218 : w.heap.size ≤ gb163)) (jA ((Z218 : w.heap.size ≤ gb163)) (jA ((by rw [hg];exact Nat.ne_of_lt (blk_lt (g := gb162) (o := .cells #[.int .i64 a0_0,.int .i64 a0_1,.int .i64 a0_2,.int .i64 a0_3,.int .i64 a0_4,.int .i64 a0_5] 39 (0,0)) Z301) : gb162 ≠ gb163)) (Aside0.mk ((by rw [hg];exact Nat.ne_of_gt (blk_lt (g := gb162) (o := .cells #[.int .i64 a0_0,.int .i64 a0_1,.int .i64 a0_2,.int .i64 a0_3,.int .i64 a0_4,.int .i64 a0_5] 39 (0,0)) Z301) : gb163 ≠ gb162))))))));clear BK162 HB;obtain ⟨BK162,HB,BK163,GW163,GE163,NB162_163,NB163_162⟩ := n_;clear hb hbox hg;have hnbq3 := NB162_163.out;have hncq3 := NB163_162.out;obtain ⟨hczq4_0,hczq4_1,hczq4_2,hczq4_3,hczq4_4,hczq4_5,hfzq4_0,hfzq4_1,hfzq4_2,hfzq4_3,hfzq4_4,hfzq4_5⟩ := cells6 BK162.out) | ((with_reducible refine gate_callee (f := 114) rfl ?_);refine goesL_ (some 8) rfl rfl Try.func114 Z312 rfl #[.agg #[.int .i64 a0_2,.int .i64 a0_3],.agg #[.int .i64 a0_4,.int .i64 a0_5]] rfl Z256 ?_;(with_reducible refine (spec_l13Add.calls a0_2 a0_3 a0_4 a0_5 t164 t165 t166 _ A2.out).mono ?_);rintro e wq5 ⟨rfl,hb⟩;refine ⟨_,rfl,?_⟩;have n_ := jA (blk_below (g := gb162) (o := .cells #[.int .i64 a0_0,.int .i64 a0_1,.int .i64 a0_2,.int .i64 a0_3,.int .i64 a0_4,.int .i64 a0_5] 39 (0,0)) Z301 hb) (jA (blk_below (g := gb163) (o := .cells #[.int .i64 0,.int .i64 0] 37 (0,0)) (by refine bP ?_;exact BK163.out) hb) (Aside0.mk (below_step Z203 hb)));clear BK162 BK163 HB;obtain ⟨BK162,BK163,HB⟩ := n_;(try clear hb);(try clear hb2);(try clear hk);(try clear hi);obtain ⟨hczq6_0,hczq6_1,hfzq6_0,hfzq6_1⟩ := cells2 BK163.out))
 refine bodyPost_ret (results_ct rfl _ _ gb163 37 #[.int .i64 t164,.int .i64 t165] (0,0) _ rfl (by refine bP ?_;refine blk_put (cs := #[.int .i64 t164,.int .i64 0]) ?_ 1 _ rfl;refine bP ?_;refine blk_put (cs := #[.int .i64 0,.int .i64 0]) ?_ 0 _ rfl;refine bP ?_;exact BK163.out) Try.underlying37 rfl Z312) rfl ?_
 exact ⟨Z263,Z203⟩

/-! ### spec_WideOk: function 158 -/
def spec_WideOk.f (a0_0 : Bool) (a0_1 : Int) (a0_2 : Int) : Option (Bool) := if a0_1 < 9223372036854775808 then (if a0_0 = true then (if a0_1 > 0 then (some true) else (some (decide (a0_2 > 0)))) else (some true)) else (some false)
set_option maxHeartbeats 8000000 in
set_option maxRecDepth 100000 in
theorem spec_WideOk.calls (a0_0 : Bool) (a0_1 : Int) (a0_2 : Int) (r : Bool) (w : World) (h : spec_WideOk.f a0_0 a0_1 a0_2 = some r) :
  Calls Try.prog 158 #[.agg #[.bool a0_0,.int .u64 a0_1,.int .u64 a0_2]] w fun e w' => e = .returned (.bool r) ∧ Below w.heap.size w w' := by
 have hu100 := Try.underlying100
 have HB := Aside0.mk (Below.refl w.heap.size w)
 have H := h
 clear h
 unfold spec_WideOk.f at H
 by_cases c2 : a0_1 < 9223372036854775808
 ·rw [if_pos c2] at H
  have c2b0 : decide (a0_1 < 9223372036854775808) = true := decide_eq_true c2
  clear c2
  by_cases c3 : a0_0 = true
  ·subst c3
   rw [if_pos rfl] at H
   by_cases c4 : a0_1 > 0
   ·rw [if_pos c4] at H
    have c4b0 : decide (0 < a0_1) = true := decide_eq_true c4
    clear c4
    obtain rfl := Option.some.inj H
    go_enter Try.func158,Try.ntmps158
    go_wp2_with (first | ((with_reducible refine gate_dst (N := 1) rfl ?_);refine bE 1 #[.bool true,.int .u64 a0_1,.int .u64 a0_2] 100 (h := ?_);intro gb167 hg wq1 hbox hb;have n_ := Z108;clear HB;obtain ⟨HB,BK167,GW167,GE167⟩ := n_;clear hb hbox hg;obtain ⟨hczq2_0,hczq2_1,hczq2_2,hfzq2_0,hfzq2_1,hfzq2_2⟩ := cells3 BK167.out))
    go_ret
    exact ⟨Z263,Z243⟩
   ·rw [if_neg c4] at H
    have c4b0 : decide (0 < a0_1) = false := decide_eq_false c4
    clear c4
    obtain rfl := Option.some.inj H
    go_enter Try.func158,Try.ntmps158
    go_wp2_with (first | ((with_reducible refine gate_dst (N := 1) rfl ?_);refine bE 1 #[.bool true,.int .u64 a0_1,.int .u64 a0_2] 100 (h := ?_);intro gb167 hg wq1 hbox hb;have n_ := Z108;clear HB;obtain ⟨HB,BK167,GW167,GE167⟩ := n_;clear hb hbox hg;obtain ⟨hczq2_0,hczq2_1,hczq2_2,hfzq2_0,hfzq2_1,hfzq2_2⟩ := cells3 BK167.out))
    go_ret
    exact ⟨Z263,Z243⟩
  ·replace c3 := Bool.eq_false_iff.mpr c3
   subst c3
   rw [if_neg Bool.false_ne_true] at H
   obtain rfl := Option.some.inj H
   go_enter Try.func158,Try.ntmps158
   go_wp2_with (first | ((with_reducible refine gate_dst (N := 1) rfl ?_);refine bE 1 #[.bool false,.int .u64 a0_1,.int .u64 a0_2] 100 (h := ?_);intro gb167 hg wq1 hbox hb;have n_ := Z108;clear HB;obtain ⟨HB,BK167,GW167,GE167⟩ := n_;clear hb hbox hg;obtain ⟨hczq2_0,hczq2_1,hczq2_2,hfzq2_0,hfzq2_1,hfzq2_2⟩ := cells3 BK167.out))
   go_ret
   exact ⟨Z263,Z243⟩
 ·rw [if_neg c2] at H
  have c2b0 : decide (a0_1 < 9223372036854775808) = false := decide_eq_false c2
  clear c2
  obtain rfl := Option.some.inj H
  go_enter Try.func158,Try.ntmps158
  go_wp2_with (first | ((with_reducible refine gate_dst (N := 1) rfl ?_);refine bE 1 #[.bool a0_0,.int .u64 a0_1,.int .u64 a0_2] 100 (h := ?_);intro gb167 hg wq1 hbox hb;have n_ := Z108;clear HB;obtain ⟨HB,BK167,GW167,GE167⟩ := n_;clear hb hbox hg;obtain ⟨hczq2_0,hczq2_1,hczq2_2,hfzq2_0,hfzq2_1,hfzq2_2⟩ := cells3 BK167.out))
  go_ret
  exact ⟨Z263,Z243⟩

/-! ### spec_FracOk: function 141 -/
def spec_FracOk.f (a0_0 : Bool) (a0_1 : Int) (a0_2 : Int) (a0_3 : Int) : Option (Bool) := (spec_WideOk.f a0_0 a0_1 a0_2).bind fun t169 => (if t169 = true then ((spec_l1In.f a0_3 1 1000000).bind fun t170 => (some t170)) else (some false))
set_option maxHeartbeats 8000000 in
set_option maxRecDepth 100000 in
theorem spec_FracOk.calls (a0_0 : Bool) (a0_1 : Int) (a0_2 : Int) (a0_3 : Int) (r : Bool) (w : World) (h : spec_FracOk.f a0_0 a0_1 a0_2 a0_3 = some r) :
  Calls Try.prog 141 #[.agg #[.bool a0_0,.int .u64 a0_1,.int .u64 a0_2,.int .i64 a0_3]] w fun e w' => e = .returned (.bool r) ∧ Below w.heap.size w w' := by
 have hu102 := Try.underlying102
 have hu100 := Try.underlying100
 have HB := Aside0.mk (Below.refl w.heap.size w)
 have H := h
 clear h
 unfold spec_FracOk.f at H
 obtain ⟨t169,A20,H⟩ := Option.bind_eq_some_iff.mp H
 have A2 := Aside0.mk A20
 clear A20
 by_cases c3 : t169 = true
 ·subst c3
  rw [if_pos rfl] at H
  obtain ⟨t170,A40,H⟩ := Option.bind_eq_some_iff.mp H
  have A4 := Aside0.mk A40
  clear A40
  obtain rfl := Option.some.inj H
  go_enter Try.func141,Try.ntmps141
  go_wp2_with (first | ((with_reducible refine gate_dst (N := 1) rfl ?_);refine bE 1 #[.bool a0_0,.int .u64 a0_1,.int .u64 a0_2,.int .i64 a0_3] 102 (h := ?_);intro gb168 hg wq1 hbox hb;have n_ := Z130;clear HB;obtain ⟨HB,BK168,GW168,GE168⟩ := n_;clear hb hbox hg;obtain ⟨hczq2_0,hczq2_1,hczq2_2,hczq2_3,hfzq2_0,hfzq2_1,hfzq2_2,hfzq2_3⟩ := cells4 BK168.out) | ((with_reducible refine gate_callee (f := 158) rfl ?_);refine goesL_ (some 5) rfl rfl Try.func158 Z312 rfl #[.agg #[.bool a0_0,.int .u64 a0_1,.int .u64 a0_2]] rfl Z256 ?_;(with_reducible refine (spec_WideOk.calls a0_0 a0_1 a0_2 true _ A2.out).mono ?_);rintro e wq3 ⟨rfl,hb⟩;refine ⟨_,rfl,?_⟩;have n_ := Z150;clear BK168 HB;obtain ⟨BK168,HB⟩ := n_;(try clear hb);(try clear hb2);(try clear hk);(try clear hi);obtain ⟨hczq4_0,hczq4_1,hczq4_2,hczq4_3,hfzq4_0,hfzq4_1,hfzq4_2,hfzq4_3⟩ := cells4 BK168.out) | (go_at_call 46;(with_reducible refine (spec_l1In.calls a0_3 1 1000000 t170 _ A4.out).mono ?_);rintro e w' ⟨rfl,⟨nd,rfl⟩⟩))
  go_ret
  exact ⟨Z263,Z460⟩
 ·replace c3 := Bool.eq_false_iff.mpr c3
  subst c3
  rw [if_neg Bool.false_ne_true] at H
  obtain rfl := Option.some.inj H
  go_enter Try.func141,Try.ntmps141
  go_wp2_with (first | ((with_reducible refine gate_dst (N := 1) rfl ?_);refine bE 1 #[.bool a0_0,.int .u64 a0_1,.int .u64 a0_2,.int .i64 a0_3] 102 (h := ?_);intro gb168 hg wq1 hbox hb;have n_ := Z130;clear HB;obtain ⟨HB,BK168,GW168,GE168⟩ := n_;clear hb hbox hg;obtain ⟨hczq2_0,hczq2_1,hczq2_2,hczq2_3,hfzq2_0,hfzq2_1,hfzq2_2,hfzq2_3⟩ := cells4 BK168.out) | ((with_reducible refine gate_callee (f := 158) rfl ?_);refine goesL_ (some 5) rfl rfl Try.func158 Z312 rfl #[.agg #[.bool a0_0,.int .u64 a0_1,.int .u64 a0_2]] rfl Z256 ?_;(with_reducible refine (spec_WideOk.calls a0_0 a0_1 a0_2 false _ A2.out).mono ?_);rintro e wq3 ⟨rfl,hb⟩;refine ⟨_,rfl,?_⟩;have n_ := Z150;clear BK168 HB;obtain ⟨BK168,HB⟩ := n_;(try clear hb);(try clear hb2);(try clear hk);(try clear hi)))
  go_ret
  exact ⟨Z263,Z460⟩

/-! ### spec_l3Product: function 159 -/
def spec_l3Product.f (a0 : Int) (a1 : Int) : Option (Int × Int) := some (IntKind.u64.wrap ((IntKind.u64.wrap ((IntKind.u64.wrap ((a0 / 4294967296) * (a1 / 4294967296))) + ((IntKind.u64.wrap ((IntKind.u64.wrap ((a0 / 4294967296) * (Go.bits .and .u64 a1 4294967295))) + ((IntKind.u64.wrap ((Go.bits .and .u64 a0 4294967295) * (Go.bits .and .u64 a1 4294967295))) / 4294967296))) / 4294967296))) + ((IntKind.u64.wrap ((IntKind.u64.wrap ((Go.bits .and .u64 a0 4294967295) * (a1 / 4294967296))) + (Go.bits .and .u64 (IntKind.u64.wrap ((IntKind.u64.wrap ((a0 / 4294967296) * (Go.bits .and .u64 a1 4294967295))) + ((IntKind.u64.wrap ((Go.bits .and .u64 a0 4294967295) * (Go.bits .and .u64 a1 4294967295))) / 4294967296))) 4294967295))) / 4294967296)),IntKind.u64.wrap ((IntKind.u64.wrap ((IntKind.u64.wrap ((IntKind.u64.wrap ((Go.bits .and .u64 a0 4294967295) * (a1 / 4294967296))) + (Go.bits .and .u64 (IntKind.u64.wrap ((IntKind.u64.wrap ((a0 / 4294967296) * (Go.bits .and .u64 a1 4294967295))) + ((IntKind.u64.wrap ((Go.bits .and .u64 a0 4294967295) * (Go.bits .and .u64 a1 4294967295))) / 4294967296))) 4294967295))) * 4294967296)) + (Go.bits .and .u64 (IntKind.u64.wrap ((Go.bits .and .u64 a0 4294967295) * (Go.bits .and .u64 a1 4294967295))) 4294967295)))
set_option maxHeartbeats 8000000 in
set_option maxRecDepth 100000 in
theorem spec_l3Product.calls (a0 : Int) (a1 : Int) (r1 : Int) (r2 : Int) (w : World) (h : spec_l3Product.f a0 a1 = some (r1,r2)) :
  Calls Try.prog 159 #[.int .u64 a0,.int .u64 a1] w fun e w' => e = .returned (.tuple #[.int .u64 r1,.int .u64 r2]) ∧ Drawn0 w w' := by
 have H := h
 clear h
 unfold spec_l3Product.f at H
 simp only [Option.some.injEq,Prod.mk.injEq] at H
 obtain ⟨rfl,rfl⟩ := H
 go_enter Try.func159,Try.ntmps159
 go_wp2
 go_ret2
 exact ⟨Z289,Z266⟩

/-! ### spec_l3Abs: function 160 -/
def spec_l3Abs.f (a0 : Int) : Option (Int) := if a0 < 0 then (some (IntKind.u64.wrap ((IntKind.u64.wrap (wrap64 (-(wrap64 (a0 + 1))))) + 1))) else (some (IntKind.u64.wrap (a0)))
set_option maxHeartbeats 8000000 in
set_option maxRecDepth 100000 in
theorem spec_l3Abs.calls (a0 : Int) (r : Int) (w : World) (h : spec_l3Abs.f a0 = some r) :
  Calls Try.prog 160 #[.int .i64 a0] w fun e w' => e = .returned (.int .u64 r) ∧ Drawn0 w w' := by
 have H := h
 clear h
 unfold spec_l3Abs.f at H
 by_cases c2 : a0 < 0
 ·rw [if_pos c2] at H
  have c2b0 : decide (a0 < 0) = true := decide_eq_true c2
  clear c2
  obtain rfl := Option.some.inj H
  go_enter Try.func160,Try.ntmps160
  go_wp2
  go_ret
  exact ⟨Z289,Z266⟩
 ·rw [if_neg c2] at H
  have c2b0 : decide (a0 < 0) = false := decide_eq_false c2
  clear c2
  obtain rfl := Option.some.inj H
  go_enter Try.func160,Try.ntmps160
  go_wp2
  go_ret
  exact ⟨Z289,Z266⟩

/-! ### spec_MulWide: function 142 -/
def spec_MulWide.f (a0 : Int) (a1 : Int) : Option (Bool × Int × Int) := (spec_l3Abs.f a0).bind fun t172 => ((spec_l3Abs.f a1).bind fun t173 => ((spec_l3Product.f t172 t173).bind fun bt174 => (if ((decide (a0 < 0)) != (decide (a1 < 0))) = true then (if a0 = 0 then (some (false,bt174.1,bt174.2)) else (some ((a1 != 0),bt174.1,bt174.2))) else (some (false,bt174.1,bt174.2)))))
set_option maxHeartbeats 8000000 in
set_option maxRecDepth 100000 in
theorem spec_MulWide.calls (a0 : Int) (a1 : Int) (r1 : Bool) (r2 : Int) (r3 : Int) (w : World) (h : spec_MulWide.f a0 a1 = some (r1,r2,r3)) :
  Calls Try.prog 142 #[.int .i64 a0,.int .i64 a1] w fun e w' => e = .returned (.agg #[.bool r1,.int .u64 r2,.int .u64 r3]) ∧ Below w.heap.size w w' := by
 have hu100 := Try.underlying100
 have HB := Aside0.mk (Below.refl w.heap.size w)
 have H := h
 clear h
 unfold spec_MulWide.f at H
 obtain ⟨t172,A30,H⟩ := Option.bind_eq_some_iff.mp H
 have A3 := Aside0.mk A30
 clear A30
 obtain ⟨t173,A40,H⟩ := Option.bind_eq_some_iff.mp H
 have A4 := Aside0.mk A40
 clear A40
 obtain ⟨⟨t174,t175⟩,A50,H⟩ := Option.bind_eq_some_iff.mp H
 try dsimp only at H
 have A5 := Aside0.mk A50
 clear A50
 by_cases c6 : ((decide (a0 < 0)) != (decide (a1 < 0))) = true
 ·rw [if_pos c6] at H
  have c6b0 : ((decide (a0 < 0)) != (decide (a1 < 0))) = true := c6
  (try (have c6b1 : decide ((decide (a0 < 0)) = (decide (a1 < 0))) = false := by simpa using c6))
  (try (have c6b2 : ((decide (a0 < 0)) == (decide (a1 < 0))) = false := by simpa using c6))
  (try (have c6b3 : ¬ ((decide (a0 < 0)) = (decide (a1 < 0))) := by simpa using c6))
  clear c6
  by_cases c7 : a0 = 0
  ·rw [if_pos c7] at H
   have c7b0 : (a0 == 0) = true := beq_iff_eq.mpr c7
   have c7b1 : (a0 != 0) = false := bne_eq_false_iff_eq.mpr c7
   clear c7
   simp only [Option.some.injEq,Prod.mk.injEq] at H
   obtain ⟨rfl,rfl,rfl⟩ := H
   go_enter Try.func142,Try.ntmps142
   go_wp2_with (first | ((with_reducible refine gate_dst (N := 4) rfl ?_);refine bE 4 #[.bool false,.int .u64 0,.int .u64 0] 100 (h := ?_);intro gb171 hg wq1 hbox hb;have n_ := Z117;clear HB;obtain ⟨HB,BK171,GW171,GE171⟩ := n_;clear hb hbox hg) | ((with_reducible refine gate_callee (f := 160) rfl ?_);refine goesL_ (some 9) rfl rfl Try.func160 Z312 rfl #[.int .i64 a0] rfl Z256 ?_;(with_reducible refine (spec_l3Abs.calls a0 t172 _ A3.out).mono ?_);rintro e w' ⟨rfl,⟨nd,rfl⟩⟩;refine ⟨_,rfl,?_⟩;(iterate 4 (try (rw [drewN_self wq1];generalize hq_ : World.drewN wq1 _ = wq1;have n0_ : Aside0 (wq1.heap[gb171]? = some (.cells #[.bool false,.int .u64 0,.int .u64 0] 100 (0,0))) := ⟨Z271⟩;have n1_ : Aside0 (Below w.heap.size w wq1) := ⟨Z220⟩;clear BK171 HB hq_;have BK171 := n0_;have HB := n1_;clear n0_ n1_)))) | ((with_reducible refine gate_callee (f := 160) rfl ?_);refine goesL_ (some 11) rfl rfl Try.func160 Z312 rfl #[.int .i64 a1] rfl Z256 ?_;(with_reducible refine (spec_l3Abs.calls a1 t173 _ A4.out).mono ?_);rintro e w' ⟨rfl,⟨nd,rfl⟩⟩;refine ⟨_,rfl,?_⟩;(iterate 4 (try (rw [drewN_self wq1];generalize hq_ : World.drewN wq1 _ = wq1;have n0_ : Aside0 (wq1.heap[gb171]? = some (.cells #[.bool false,.int .u64 0,.int .u64 0] 100 (0,0))) := ⟨Z271⟩;have n1_ : Aside0 (Below w.heap.size w wq1) := ⟨Z220⟩;clear BK171 HB hq_;have BK171 := n0_;have HB := n1_;clear n0_ n1_)))) | ((with_reducible refine gate_callee (f := 159) rfl ?_);refine goesL_ (some 12) rfl rfl Try.func159 Z312 rfl #[.int .u64 t172,.int .u64 t173] rfl Z256 ?_;(with_reducible refine (spec_l3Product.calls t172 t173 t174 t175 _ A5.out).mono ?_);rintro e w' ⟨rfl,⟨nd,rfl⟩⟩;refine ⟨_,rfl,?_⟩;(iterate 4 (try (rw [drewN_self wq1];generalize hq_ : World.drewN wq1 _ = wq1;have n0_ : Aside0 (wq1.heap[gb171]? = some (.cells #[.bool false,.int .u64 0,.int .u64 0] 100 (0,0))) := ⟨Z271⟩;have n1_ : Aside0 (Below w.heap.size w wq1) := ⟨Z220⟩;clear BK171 HB hq_;have BK171 := n0_;have HB := n1_;clear n0_ n1_)));obtain ⟨hczq2_0,hczq2_1,hczq2_2,hfzq2_0,hfzq2_1,hfzq2_2⟩ := cells3 BK171.out))
   refine bodyPost_ret (results_cell_row rfl _ _ gb171 100 #[.bool false,.int .u64 t174,.int .u64 t175] (0,0) _ rfl Z159 Try.underlying100 rfl Z312) rfl ?_
   exact ⟨Z263,Z457⟩
  ·rw [if_neg c7] at H
   have c7b0 : (a0 == 0) = false := beq_eq_false_iff_ne.mpr c7
   have c7b1 : (a0 != 0) = true := bne_iff_ne.mpr c7
   simp only [Option.some.injEq,Prod.mk.injEq] at H
   obtain ⟨rfl,rfl,rfl⟩ := H
   go_enter Try.func142,Try.ntmps142
   go_wp2_with (first | ((with_reducible refine gate_dst (N := 4) rfl ?_);refine bE 4 #[.bool false,.int .u64 0,.int .u64 0] 100 (h := ?_);intro gb171 hg wq1 hbox hb;have n_ := Z117;clear HB;obtain ⟨HB,BK171,GW171,GE171⟩ := n_;clear hb hbox hg) | ((with_reducible refine gate_callee (f := 160) rfl ?_);refine goesL_ (some 9) rfl rfl Try.func160 Z312 rfl #[.int .i64 a0] rfl Z256 ?_;(with_reducible refine (spec_l3Abs.calls a0 t172 _ A3.out).mono ?_);rintro e w' ⟨rfl,⟨nd,rfl⟩⟩;refine ⟨_,rfl,?_⟩;(iterate 4 (try (rw [drewN_self wq1];generalize hq_ : World.drewN wq1 _ = wq1;have n0_ : Aside0 (wq1.heap[gb171]? = some (.cells #[.bool false,.int .u64 0,.int .u64 0] 100 (0,0))) := ⟨Z271⟩;have n1_ : Aside0 (Below w.heap.size w wq1) := ⟨Z220⟩;clear BK171 HB hq_;have BK171 := n0_;have HB := n1_;clear n0_ n1_)))) | ((with_reducible refine gate_callee (f := 160) rfl ?_);refine goesL_ (some 11) rfl rfl Try.func160 Z312 rfl #[.int .i64 a1] rfl Z256 ?_;(with_reducible refine (spec_l3Abs.calls a1 t173 _ A4.out).mono ?_);rintro e w' ⟨rfl,⟨nd,rfl⟩⟩;refine ⟨_,rfl,?_⟩;(iterate 4 (try (rw [drewN_self wq1];generalize hq_ : World.drewN wq1 _ = wq1;have n0_ : Aside0 (wq1.heap[gb171]? = some (.cells #[.bool false,.int .u64 0,.int .u64 0] 100 (0,0))) := ⟨Z271⟩;have n1_ : Aside0 (Below w.heap.size w wq1) := ⟨Z220⟩;clear BK171 HB hq_;have BK171 := n0_;have HB := n1_;clear n0_ n1_)))) | ((with_reducible refine gate_callee (f := 159) rfl ?_);refine goesL_ (some 12) rfl rfl Try.func159 Z312 rfl #[.int .u64 t172,.int .u64 t173] rfl Z256 ?_;(with_reducible refine (spec_l3Product.calls t172 t173 t174 t175 _ A5.out).mono ?_);rintro e w' ⟨rfl,⟨nd,rfl⟩⟩;refine ⟨_,rfl,?_⟩;(iterate 4 (try (rw [drewN_self wq1];generalize hq_ : World.drewN wq1 _ = wq1;have n0_ : Aside0 (wq1.heap[gb171]? = some (.cells #[.bool false,.int .u64 0,.int .u64 0] 100 (0,0))) := ⟨Z271⟩;have n1_ : Aside0 (Below w.heap.size w wq1) := ⟨Z220⟩;clear BK171 HB hq_;have BK171 := n0_;have HB := n1_;clear n0_ n1_)));obtain ⟨hczq2_0,hczq2_1,hczq2_2,hfzq2_0,hfzq2_1,hfzq2_2⟩ := cells3 BK171.out))
   refine bodyPost_ret (results_cell_row rfl _ _ gb171 100 #[.bool (a1 != 0),.int .u64 t174,.int .u64 t175] (0,0) _ rfl (by refine bP ?_;refine blk_put (cs := #[.bool (a1 != 0),.int .u64 t174,.int .u64 0]) ?_ 2 _ rfl;refine bP ?_;refine blk_put (cs := #[.bool (a1 != 0),.int .u64 0,.int .u64 0]) ?_ 1 _ rfl;refine bP ?_;refine blk_put (cs := #[.bool false,.int .u64 0,.int .u64 0]) ?_ 0 _ rfl;refine bP ?_;exact BK171.out) Try.underlying100 rfl Z312) rfl ?_
   exact ⟨Z263,Z457⟩
 ·rw [if_neg c6] at H
  have c6b0 : ((decide (a0 < 0)) != (decide (a1 < 0))) = false := by simpa using c6
  (try (have c6b1 : decide ((decide (a0 < 0)) = (decide (a1 < 0))) = true := by simpa using c6))
  (try (have c6b2 : ((decide (a0 < 0)) == (decide (a1 < 0))) = true := by simpa using c6))
  clear c6
  simp only [Option.some.injEq,Prod.mk.injEq] at H
  obtain ⟨rfl,rfl,rfl⟩ := H
  go_enter Try.func142,Try.ntmps142
  go_wp2_with (first | ((with_reducible refine gate_dst (N := 4) rfl ?_);refine bE 4 #[.bool false,.int .u64 0,.int .u64 0] 100 (h := ?_);intro gb171 hg wq1 hbox hb;have n_ := Z117;clear HB;obtain ⟨HB,BK171,GW171,GE171⟩ := n_;clear hb hbox hg) | ((with_reducible refine gate_callee (f := 160) rfl ?_);refine goesL_ (some 9) rfl rfl Try.func160 Z312 rfl #[.int .i64 a0] rfl Z256 ?_;(with_reducible refine (spec_l3Abs.calls a0 t172 _ A3.out).mono ?_);rintro e w' ⟨rfl,⟨nd,rfl⟩⟩;refine ⟨_,rfl,?_⟩;(iterate 4 (try (rw [drewN_self wq1];generalize hq_ : World.drewN wq1 _ = wq1;have n0_ : Aside0 (wq1.heap[gb171]? = some (.cells #[.bool false,.int .u64 0,.int .u64 0] 100 (0,0))) := ⟨Z271⟩;have n1_ : Aside0 (Below w.heap.size w wq1) := ⟨Z220⟩;clear BK171 HB hq_;have BK171 := n0_;have HB := n1_;clear n0_ n1_)))) | ((with_reducible refine gate_callee (f := 160) rfl ?_);refine goesL_ (some 11) rfl rfl Try.func160 Z312 rfl #[.int .i64 a1] rfl Z256 ?_;(with_reducible refine (spec_l3Abs.calls a1 t173 _ A4.out).mono ?_);rintro e w' ⟨rfl,⟨nd,rfl⟩⟩;refine ⟨_,rfl,?_⟩;(iterate 4 (try (rw [drewN_self wq1];generalize hq_ : World.drewN wq1 _ = wq1;have n0_ : Aside0 (wq1.heap[gb171]? = some (.cells #[.bool false,.int .u64 0,.int .u64 0] 100 (0,0))) := ⟨Z271⟩;have n1_ : Aside0 (Below w.heap.size w wq1) := ⟨Z220⟩;clear BK171 HB hq_;have BK171 := n0_;have HB := n1_;clear n0_ n1_)))) | ((with_reducible refine gate_callee (f := 159) rfl ?_);refine goesL_ (some 12) rfl rfl Try.func159 Z312 rfl #[.int .u64 t172,.int .u64 t173] rfl Z256 ?_;(with_reducible refine (spec_l3Product.calls t172 t173 t174 t175 _ A5.out).mono ?_);rintro e w' ⟨rfl,⟨nd,rfl⟩⟩;refine ⟨_,rfl,?_⟩;(iterate 4 (try (rw [drewN_self wq1];generalize hq_ : World.drewN wq1 _ = wq1;have n0_ : Aside0 (wq1.heap[gb171]? = some (.cells #[.bool false,.int .u64 0,.int .u64 0] 100 (0,0))) := ⟨Z271⟩;have n1_ : Aside0 (Below w.heap.size w wq1) := ⟨Z220⟩;clear BK171 HB hq_;have BK171 := n0_;have HB := n1_;clear n0_ n1_)));obtain ⟨hczq2_0,hczq2_1,hczq2_2,hfzq2_0,hfzq2_1,hfzq2_2⟩ := cells3 BK171.out))
  refine bodyPost_ret (results_cell_row rfl _ _ gb171 100 #[.bool false,.int .u64 t174,.int .u64 t175] (0,0) _ rfl Z159 Try.underlying100 rfl Z312) rfl ?_
  exact ⟨Z263,Z457⟩

/-! ### spec_SquareOver: function 116 -/
def spec_SquareOver.f (a0 : Int) (a1 : Int) : Option (Bool × Int × Int × Int × Bool) := (spec_MulWide.f a0 a0).bind fun bt177 => ((spec_FracOk.f bt177.1 bt177.2.1 bt177.2.2 a1).bind fun t181 => (if t181 = true then (some (bt177.1,bt177.2.1,bt177.2.2,a1,true)) else (some (false,0,0,0,false))))
set_option maxHeartbeats 8000000 in
set_option maxRecDepth 100000 in
theorem spec_SquareOver.calls (a0 : Int) (a1 : Int) (r1 : Bool) (r2 : Int) (r3 : Int) (r4 : Int) (r5 : Bool) (w : World) (h : spec_SquareOver.f a0 a1 = some (r1,r2,r3,r4,r5)) :
  Calls Try.prog 116 #[.int .i64 a0,.int .i64 a1] w fun e w' => e = .returned (.tuple #[.agg #[.bool r1,.int .u64 r2,.int .u64 r3,.int .i64 r4],.bool r5]) ∧ Below w.heap.size w w' := by
 have hu102 := Try.underlying102
 have HB := Aside0.mk (Below.refl w.heap.size w)
 have H := h
 clear h
 unfold spec_SquareOver.f at H
 obtain ⟨⟨t177,t178,t179⟩,A30,H⟩ := Option.bind_eq_some_iff.mp H
 try dsimp only at H
 have A3 := Aside0.mk A30
 clear A30
 obtain ⟨t181,A40,H⟩ := Option.bind_eq_some_iff.mp H
 have A4 := Aside0.mk A40
 clear A40
 by_cases c5 : t181 = true
 ·subst c5
  rw [if_pos rfl] at H
  simp only [Option.some.injEq,Prod.mk.injEq] at H
  obtain ⟨rfl,rfl,rfl,rfl,rfl⟩ := H
  go_enter Try.func116,Try.ntmps116
  go_wp2_with (first | ((with_reducible refine gate_dst (N := 4) rfl ?_);refine bE 4 #[.bool false,.int .u64 0,.int .u64 0,.int .i64 0] 102 (h := ?_);intro gb176 hg wq1 hbox hb;have n_ := Z129;clear HB;obtain ⟨HB,BK176,GW176,GE176⟩ := n_;clear hb hbox hg) | ((with_reducible refine gate_callee (f := 142) rfl ?_);refine goesL_ (some 9) rfl rfl Try.func142 Z312 rfl #[.int .i64 a0,.int .i64 a0] rfl Z256 ?_;(with_reducible refine (spec_MulWide.calls a0 a0 t177 t178 t179 _ A3.out).mono ?_);rintro e wq2 ⟨rfl,hb⟩;refine ⟨_,rfl,?_⟩;have n_ := Z152;clear BK176 HB;obtain ⟨BK176,HB⟩ := n_;(try clear hb);(try clear hb2);(try clear hk);(try clear hi)) | ((with_reducible refine gate_dst (N := 6) rfl ?_);refine bE 6 #[.bool false,.int .u64 0,.int .u64 0,.int .i64 0] 102 (h := ?_);intro gb180 hg wq3 hbox hb;have n_ := Z71;clear BK176 HB;obtain ⟨BK176,HB,BK180,GW180,GE180,NB176_180,NB180_176⟩ := n_;clear hb hbox hg;have hnbq4 := NB180_176.out;have hncq4 := NB176_180.out;obtain ⟨hczq5_0,hczq5_1,hczq5_2,hczq5_3,hfzq5_0,hfzq5_1,hfzq5_2,hfzq5_3⟩ := cells4 BK180.out) | ((with_reducible refine gate_callee (f := 141) rfl ?_);refine goesL_ (some 13) rfl rfl Try.func141 Z312 rfl #[.agg #[.bool t177,.int .u64 t178,.int .u64 t179,.int .i64 a1]] rfl Z256 ?_;(with_reducible refine (spec_FracOk.calls t177 t178 t179 a1 true _ A4.out).mono ?_);rintro e wq6 ⟨rfl,hb⟩;refine ⟨_,rfl,?_⟩;have n_ := Z80;clear BK176 BK180 HB;obtain ⟨BK176,BK180,HB⟩ := n_;(try clear hb);(try clear hb2);(try clear hk);(try clear hi);obtain ⟨hczq7_0,hczq7_1,hczq7_2,hczq7_3,hfzq7_0,hfzq7_1,hfzq7_2,hfzq7_3⟩ := cells4 BK180.out;obtain ⟨hczq8_0,hczq8_1,hczq8_2,hczq8_3,hfzq8_0,hfzq8_1,hfzq8_2,hfzq8_3⟩ := cells4 BK176.out))
  refine bodyPost_ret (results_ct rfl _ _ gb176 102 #[.bool t177,.int .u64 t178,.int .u64 t179,.int .i64 a1] (0,0) _ rfl (by refine bP ?_;refine blk_put (cs := #[.bool t177,.int .u64 t178,.int .u64 t179,.int .i64 0]) ?_ 3 _ rfl;refine bP ?_;refine blk_put (cs := #[.bool t177,.int .u64 t178,.int .u64 0,.int .i64 0]) ?_ 2 _ rfl;refine bP ?_;refine blk_put (cs := #[.bool t177,.int .u64 0,.int .u64 0,.int .i64 0]) ?_ 1 _ rfl;refine bP ?_;refine blk_put (cs := #[.bool false,.int .u64 0,.int .u64 0,.int .i64 0]) ?_ 0 _ rfl;refine bP ?_;exact BK176.out) Try.underlying102 rfl Z312) rfl ?_
  exact ⟨Z263,Z394⟩
 ·replace c5 := Bool.eq_false_iff.mpr c5
  subst c5
  rw [if_neg Bool.false_ne_true] at H
  simp only [Option.some.injEq,Prod.mk.injEq] at H
  obtain ⟨rfl,rfl,rfl,rfl,rfl⟩ := H
  go_enter Try.func116,Try.ntmps116
  go_wp2_with (first | ((with_reducible refine gate_dst (N := 4) rfl ?_);refine bE 4 #[.bool false,.int .u64 0,.int .u64 0,.int .i64 0] 102 (h := ?_);intro gb176 hg wq1 hbox hb;have n_ := Z129;clear HB;obtain ⟨HB,BK176,GW176,GE176⟩ := n_;clear hb hbox hg) | ((with_reducible refine gate_callee (f := 142) rfl ?_);refine goesL_ (some 9) rfl rfl Try.func142 Z312 rfl #[.int .i64 a0,.int .i64 a0] rfl Z256 ?_;(with_reducible refine (spec_MulWide.calls a0 a0 t177 t178 t179 _ A3.out).mono ?_);rintro e wq2 ⟨rfl,hb⟩;refine ⟨_,rfl,?_⟩;have n_ := Z152;clear BK176 HB;obtain ⟨BK176,HB⟩ := n_;(try clear hb);(try clear hb2);(try clear hk);(try clear hi)) | ((with_reducible refine gate_dst (N := 6) rfl ?_);refine bE 6 #[.bool false,.int .u64 0,.int .u64 0,.int .i64 0] 102 (h := ?_);intro gb180 hg wq3 hbox hb;have n_ := Z71;clear BK176 HB;obtain ⟨BK176,HB,BK180,GW180,GE180,NB176_180,NB180_176⟩ := n_;clear hb hbox hg;have hnbq4 := NB180_176.out;have hncq4 := NB176_180.out;obtain ⟨hczq5_0,hczq5_1,hczq5_2,hczq5_3,hfzq5_0,hfzq5_1,hfzq5_2,hfzq5_3⟩ := cells4 BK180.out) | ((with_reducible refine gate_callee (f := 141) rfl ?_);refine goesL_ (some 13) rfl rfl Try.func141 Z312 rfl #[.agg #[.bool t177,.int .u64 t178,.int .u64 t179,.int .i64 a1]] rfl Z256 ?_;(with_reducible refine (spec_FracOk.calls t177 t178 t179 a1 false _ A4.out).mono ?_);rintro e wq6 ⟨rfl,hb⟩;refine ⟨_,rfl,?_⟩;have n_ := Z80;clear BK176 BK180 HB;obtain ⟨BK176,BK180,HB⟩ := n_;(try clear hb);(try clear hb2);(try clear hk);(try clear hi);obtain ⟨hczq7_0,hczq7_1,hczq7_2,hczq7_3,hfzq7_0,hfzq7_1,hfzq7_2,hfzq7_3⟩ := cells4 BK176.out))
  refine bodyPost_ret (results_ct rfl _ _ gb176 102 #[.bool false,.int .u64 0,.int .u64 0,.int .i64 0] (0,0) _ rfl (by refine bP ?_;refine blk_put (cs := #[.bool false,.int .u64 0,.int .u64 0,.int .i64 0]) ?_ 3 _ rfl;refine bP ?_;refine blk_put (cs := #[.bool false,.int .u64 0,.int .u64 0,.int .i64 0]) ?_ 2 _ rfl;refine bP ?_;refine blk_put (cs := #[.bool false,.int .u64 0,.int .u64 0,.int .i64 0]) ?_ 1 _ rfl;refine bP ?_;refine blk_put (cs := #[.bool false,.int .u64 0,.int .u64 0,.int .i64 0]) ?_ 0 _ rfl;refine bP ?_;exact BK176.out) Try.underlying102 rfl Z312) rfl ?_
  exact ⟨Z263,Z394⟩

/-! ### spec_PlainGain: function 82 -/
def spec_PlainGain.f (a0_0 : Int) (a0_1 : Int) (a1 : Int) : Option (Bool × Int × Int × Int × Bool) := (spec_l1In.f a0_0 0 40).bind fun t184 => (if t184 = true then ((spec_l1In.f a1 1 100).bind fun t185 => (if t185 = true then ((spec_SquareOver.f a0_1 (wrap64 (a0_0 + a1))).bind fun bt186 => (some (bt186.1,bt186.2.1,bt186.2.2.1,bt186.2.2.2.1,bt186.2.2.2.2))) else (some (false,0,0,0,false)))) else (some (false,0,0,0,false)))
set_option maxHeartbeats 8000000 in
set_option maxRecDepth 100000 in
theorem spec_PlainGain.calls (a0_0 : Int) (a0_1 : Int) (a1 : Int) (r1 : Bool) (r2 : Int) (r3 : Int) (r4 : Int) (r5 : Bool) (w : World) (h : spec_PlainGain.f a0_0 a0_1 a1 = some (r1,r2,r3,r4,r5)) :
  Calls Try.prog 82 #[.agg #[.int .i64 a0_0,.int .i64 a0_1],.int .i64 a1] w fun e w' => e = .returned (.tuple #[.agg #[.bool r1,.int .u64 r2,.int .u64 r3,.int .i64 r4],.bool r5]) ∧ Below w.heap.size w w' := by
 have hu37 := Try.underlying37
 have hu102 := Try.underlying102
 have HB := Aside0.mk (Below.refl w.heap.size w)
 have H := h
 clear h
 unfold spec_PlainGain.f at H
 obtain ⟨t184,A30,H⟩ := Option.bind_eq_some_iff.mp H
 have A3 := Aside0.mk A30
 clear A30
 by_cases c4 : t184 = true
 ·subst c4
  rw [if_pos rfl] at H
  obtain ⟨t185,A50,H⟩ := Option.bind_eq_some_iff.mp H
  have A5 := Aside0.mk A50
  clear A50
  by_cases c6 : t185 = true
  ·subst c6
   rw [if_pos rfl] at H
   obtain ⟨⟨t186,t187,t188,t189,t190⟩,A70,H⟩ := Option.bind_eq_some_iff.mp H
   try dsimp only at H
   have A7 := Aside0.mk A70
   clear A70
   simp only [Option.some.injEq,Prod.mk.injEq] at H
   obtain ⟨rfl,rfl,rfl,rfl,rfl⟩ := H
   go_enter Try.func82,Try.ntmps82
   go_wp2_with (first | ((with_reducible refine gate_dst (N := 2) rfl ?_);refine bE 2 #[.int .i64 a0_0,.int .i64 a0_1] 37 (h := ?_);intro gb182 hg wq1 hbox hb;have n_ := Z116;clear HB;obtain ⟨HB,BK182,GW182,GE182⟩ := n_;clear hb hbox hg) | ((with_reducible refine gate_dst (N := 4) rfl ?_);refine bE 4 #[.bool false,.int .u64 0,.int .u64 0,.int .i64 0] 102 (h := ?_);intro gb183 hg wq2 hbox hb;have n_ := Z77;clear BK182 HB;obtain ⟨BK182,HB,BK183,GW183,GE183,NB182_183,NB183_182⟩ := n_;clear hb hbox hg;have hnbq3 := NB182_183.out;have hncq3 := NB183_182.out;obtain ⟨hczq4_0,hczq4_1,hfzq4_0,hfzq4_1⟩ := cells2 BK182.out) | ((with_reducible refine gate_callee (f := 46) rfl ?_);refine goesL_ (some 8) rfl rfl Try.func46 Z312 rfl #[.int .i64 a0_0,.int .i64 0,.int .i64 40] rfl Z256 ?_;(with_reducible refine (spec_l1In.calls a0_0 0 40 true _ A3.out).mono ?_);rintro e w' ⟨rfl,⟨nd,rfl⟩⟩;refine ⟨_,rfl,?_⟩;(iterate 4 (try (rw [drewN_self wq2];generalize hq_ : World.drewN wq2 _ = wq2;have n0_ : Aside0 (wq2.heap[gb182]? = some (.cells #[.int .i64 a0_0,.int .i64 a0_1] 37 (0,0))) := ⟨Z282⟩;have n1_ : Aside0 (wq2.heap[gb183]? = some (.cells #[.bool false,.int .u64 0,.int .u64 0,.int .i64 0] 102 (0,0))) := ⟨Z281⟩;have n2_ : Aside0 (Below w.heap.size w wq2) := ⟨Z192⟩;clear BK182 BK183 HB hq_;have BK182 := n0_;have BK183 := n1_;have HB := n2_;clear n0_ n1_ n2_)));(try (obtain ⟨hczq4_0,hczq4_1,hfzq4_0,hfzq4_1⟩ := cells2 BK182.out))) | (go_at_call 46;(with_reducible refine (spec_l1In.calls a1 1 100 true _ A5.out).mono ?_);rintro e w' ⟨rfl,⟨nd,rfl⟩⟩;(iterate 4 (try (rw [drewN_self wq2];generalize hq_ : World.drewN wq2 _ = wq2;have n0_ : Aside0 (wq2.heap[gb182]? = some (.cells #[.int .i64 a0_0,.int .i64 a0_1] 37 (0,0))) := ⟨Z282⟩;have n1_ : Aside0 (wq2.heap[gb183]? = some (.cells #[.bool false,.int .u64 0,.int .u64 0,.int .i64 0] 102 (0,0))) := ⟨Z281⟩;have n2_ : Aside0 (Below w.heap.size w wq2) := ⟨Z192⟩;clear BK182 BK183 HB hq_;have BK182 := n0_;have BK183 := n1_;have HB := n2_;clear n0_ n1_ n2_)));(try (obtain ⟨hczq4_0,hczq4_1,hfzq4_0,hfzq4_1⟩ := cells2 BK182.out))) | ((with_reducible refine gate_callee (f := 116) rfl ?_);refine goesL_ (some 22) rfl rfl Try.func116 Z312 rfl #[.int .i64 a0_1,.int .i64 (wrap64 (a0_0 + a1))] rfl Z256 ?_;(with_reducible refine (spec_SquareOver.calls a0_1 (wrap64 (a0_0 + a1)) t186 t187 t188 t189 t190 _ A7.out).mono ?_);rintro e wq5 ⟨rfl,hb⟩;refine ⟨_,rfl,?_⟩;have n_ := jA (blk_below (g := gb182) (o := .cells #[.int .i64 a0_0,.int .i64 a0_1] 37 (0,0)) Z527 hb) (jA (blk_below (g := gb183) (o := .cells #[.bool false,.int .u64 0,.int .u64 0,.int .i64 0] 102 (0,0)) (by refine bP ?_;exact BK183.out) hb) (Aside0.mk (below_step Z392 hb)));clear BK182 BK183 HB;obtain ⟨BK182,BK183,HB⟩ := n_;(try clear hb);(try clear hb2);(try clear hk);(try clear hi);obtain ⟨hczq6_0,hczq6_1,hczq6_2,hczq6_3,hfzq6_0,hfzq6_1,hfzq6_2,hfzq6_3⟩ := cells4 BK183.out))
   refine bodyPost_ret (results_ct rfl _ _ gb183 102 #[.bool t186,.int .u64 t187,.int .u64 t188,.int .i64 t189] (0,0) _ rfl (by refine bP ?_;refine blk_put (cs := #[.bool t186,.int .u64 t187,.int .u64 t188,.int .i64 0]) ?_ 3 _ rfl;refine bP ?_;refine blk_put (cs := #[.bool t186,.int .u64 t187,.int .u64 0,.int .i64 0]) ?_ 2 _ rfl;refine bP ?_;refine blk_put (cs := #[.bool t186,.int .u64 0,.int .u64 0,.int .i64 0]) ?_ 1 _ rfl;refine bP ?_;refine blk_put (cs := #[.bool false,.int .u64 0,.int .u64 0,.int .i64 0]) ?_ 0 _ rfl;refine bP ?_;exact BK183.out) Try.underlying102 rfl Z312) rfl ?_
   exact ⟨Z263,Z392⟩
  ·replace c6 := Bool.eq_false_iff.mpr c6
   subst c6
   rw [if_neg Bool.false_ne_true] at H
   simp only [Option.some.injEq,Prod.mk.injEq] at H
   obtain ⟨rfl,rfl,rfl,rfl,rfl⟩ := H
   go_enter Try.func82,Try.ntmps82
   go_wp2_with (first | ((with_reducible refine gate_dst (N := 2) rfl ?_);refine bE 2 #[.int .i64 a0_0,.int .i64 a0_1] 37 (h := ?_);intro gb182 hg wq1 hbox hb;have n_ := Z116;clear HB;obtain ⟨HB,BK182,GW182,GE182⟩ := n_;clear hb hbox hg) | ((with_reducible refine gate_dst (N := 4) rfl ?_);refine bE 4 #[.bool false,.int .u64 0,.int .u64 0,.int .i64 0] 102 (h := ?_);intro gb183 hg wq2 hbox hb;have n_ := Z77;clear BK182 HB;obtain ⟨BK182,HB,BK183,GW183,GE183,NB182_183,NB183_182⟩ := n_;clear hb hbox hg;have hnbq3 := NB182_183.out;have hncq3 := NB183_182.out;obtain ⟨hczq4_0,hczq4_1,hfzq4_0,hfzq4_1⟩ := cells2 BK182.out) | ((with_reducible refine gate_callee (f := 46) rfl ?_);refine goesL_ (some 8) rfl rfl Try.func46 Z312 rfl #[.int .i64 a0_0,.int .i64 0,.int .i64 40] rfl Z256 ?_;(with_reducible refine (spec_l1In.calls a0_0 0 40 true _ A3.out).mono ?_);rintro e w' ⟨rfl,⟨nd,rfl⟩⟩;refine ⟨_,rfl,?_⟩;(iterate 4 (try (rw [drewN_self wq2];generalize hq_ : World.drewN wq2 _ = wq2;have n0_ : Aside0 (wq2.heap[gb182]? = some (.cells #[.int .i64 a0_0,.int .i64 a0_1] 37 (0,0))) := ⟨Z282⟩;have n1_ : Aside0 (wq2.heap[gb183]? = some (.cells #[.bool false,.int .u64 0,.int .u64 0,.int .i64 0] 102 (0,0))) := ⟨Z281⟩;have n2_ : Aside0 (Below w.heap.size w wq2) := ⟨Z192⟩;clear BK182 BK183 HB hq_;have BK182 := n0_;have BK183 := n1_;have HB := n2_;clear n0_ n1_ n2_)));(try (obtain ⟨hczq4_0,hczq4_1,hfzq4_0,hfzq4_1⟩ := cells2 BK182.out))) | (go_at_call 46;(with_reducible refine (spec_l1In.calls a1 1 100 false _ A5.out).mono ?_);rintro e w' ⟨rfl,⟨nd,rfl⟩⟩;(iterate 4 (try (rw [drewN_self wq2];generalize hq_ : World.drewN wq2 _ = wq2;have n0_ : Aside0 (wq2.heap[gb182]? = some (.cells #[.int .i64 a0_0,.int .i64 a0_1] 37 (0,0))) := ⟨Z282⟩;have n1_ : Aside0 (wq2.heap[gb183]? = some (.cells #[.bool false,.int .u64 0,.int .u64 0,.int .i64 0] 102 (0,0))) := ⟨Z281⟩;have n2_ : Aside0 (Below w.heap.size w wq2) := ⟨Z192⟩;clear BK182 BK183 HB hq_;have BK182 := n0_;have BK183 := n1_;have HB := n2_;clear n0_ n1_ n2_)));(try (obtain ⟨hczq4_0,hczq4_1,hfzq4_0,hfzq4_1⟩ := cells2 BK182.out));obtain ⟨hczq5_0,hczq5_1,hczq5_2,hczq5_3,hfzq5_0,hfzq5_1,hfzq5_2,hfzq5_3⟩ := cells4 BK183.out))
   refine bodyPost_ret (results_ct rfl _ _ gb183 102 #[.bool false,.int .u64 0,.int .u64 0,.int .i64 0] (0,0) _ rfl Z146 Try.underlying102 rfl Z312) rfl ?_
   exact ⟨Z263,Z392⟩
 ·replace c4 := Bool.eq_false_iff.mpr c4
  subst c4
  rw [if_neg Bool.false_ne_true] at H
  simp only [Option.some.injEq,Prod.mk.injEq] at H
  obtain ⟨rfl,rfl,rfl,rfl,rfl⟩ := H
  go_enter Try.func82,Try.ntmps82
  go_wp2_with (first | ((with_reducible refine gate_dst (N := 2) rfl ?_);refine bE 2 #[.int .i64 a0_0,.int .i64 a0_1] 37 (h := ?_);intro gb182 hg wq1 hbox hb;have n_ := Z116;clear HB;obtain ⟨HB,BK182,GW182,GE182⟩ := n_;clear hb hbox hg) | ((with_reducible refine gate_dst (N := 4) rfl ?_);refine bE 4 #[.bool false,.int .u64 0,.int .u64 0,.int .i64 0] 102 (h := ?_);intro gb183 hg wq2 hbox hb;have n_ := Z77;clear BK182 HB;obtain ⟨BK182,HB,BK183,GW183,GE183,NB182_183,NB183_182⟩ := n_;clear hb hbox hg;have hnbq3 := NB182_183.out;have hncq3 := NB183_182.out;obtain ⟨hczq4_0,hczq4_1,hfzq4_0,hfzq4_1⟩ := cells2 BK182.out) | ((with_reducible refine gate_callee (f := 46) rfl ?_);refine goesL_ (some 8) rfl rfl Try.func46 Z312 rfl #[.int .i64 a0_0,.int .i64 0,.int .i64 40] rfl Z256 ?_;(with_reducible refine (spec_l1In.calls a0_0 0 40 false _ A3.out).mono ?_);rintro e w' ⟨rfl,⟨nd,rfl⟩⟩;refine ⟨_,rfl,?_⟩;(iterate 4 (try (rw [drewN_self wq2];generalize hq_ : World.drewN wq2 _ = wq2;have n0_ : Aside0 (wq2.heap[gb182]? = some (.cells #[.int .i64 a0_0,.int .i64 a0_1] 37 (0,0))) := ⟨Z282⟩;have n1_ : Aside0 (wq2.heap[gb183]? = some (.cells #[.bool false,.int .u64 0,.int .u64 0,.int .i64 0] 102 (0,0))) := ⟨Z281⟩;have n2_ : Aside0 (Below w.heap.size w wq2) := ⟨Z192⟩;clear BK182 BK183 HB hq_;have BK182 := n0_;have BK183 := n1_;have HB := n2_;clear n0_ n1_ n2_)));(try (obtain ⟨hczq4_0,hczq4_1,hfzq4_0,hfzq4_1⟩ := cells2 BK182.out));obtain ⟨hczq5_0,hczq5_1,hczq5_2,hczq5_3,hfzq5_0,hfzq5_1,hfzq5_2,hfzq5_3⟩ := cells4 BK183.out))
  refine bodyPost_ret (results_ct rfl _ _ gb183 102 #[.bool false,.int .u64 0,.int .u64 0,.int .i64 0] (0,0) _ rfl Z146 Try.underlying102 rfl Z312) rfl ?_
  exact ⟨Z263,Z392⟩

/-! ### spec_l3Zero: function 144 -/
def spec_l3Zero.f (a0_0 : Bool) (a0_1 : Int) (a0_2 : Int) : Option (Bool) := if a0_1 = 0 then (some (a0_2 == 0)) else (some false)
set_option maxHeartbeats 8000000 in
set_option maxRecDepth 100000 in
theorem spec_l3Zero.calls (a0_0 : Bool) (a0_1 : Int) (a0_2 : Int) (r : Bool) (w : World) (h : spec_l3Zero.f a0_0 a0_1 a0_2 = some r) :
  Calls Try.prog 144 #[.agg #[.bool a0_0,.int .u64 a0_1,.int .u64 a0_2]] w fun e w' => e = .returned (.bool r) ∧ Below w.heap.size w w' := by
 have hu100 := Try.underlying100
 have HB := Aside0.mk (Below.refl w.heap.size w)
 have H := h
 clear h
 unfold spec_l3Zero.f at H
 by_cases c2 : a0_1 = 0
 ·rw [if_pos c2] at H
  have c2b0 : (a0_1 == 0) = true := beq_iff_eq.mpr c2
  have c2b1 : (a0_1 != 0) = false := bne_eq_false_iff_eq.mpr c2
  clear c2
  obtain rfl := Option.some.inj H
  go_enter Try.func144,Try.ntmps144
  go_wp2_with (first | ((with_reducible refine gate_dst (N := 1) rfl ?_);refine bE 1 #[.bool a0_0,.int .u64 a0_1,.int .u64 a0_2] 100 (h := ?_);intro gb191 hg wq1 hbox hb;have n_ := Z128;clear HB;obtain ⟨HB,BK191,GW191,GE191⟩ := n_;clear hb hbox hg;obtain ⟨hczq2_0,hczq2_1,hczq2_2,hfzq2_0,hfzq2_1,hfzq2_2⟩ := cells3 BK191.out))
  go_ret
  exact ⟨Z263,Z249⟩
 ·rw [if_neg c2] at H
  have c2b0 : (a0_1 == 0) = false := beq_eq_false_iff_ne.mpr c2
  have c2b1 : (a0_1 != 0) = true := bne_iff_ne.mpr c2
  obtain rfl := Option.some.inj H
  go_enter Try.func144,Try.ntmps144
  go_wp2_with (first | ((with_reducible refine gate_dst (N := 1) rfl ?_);refine bE 1 #[.bool a0_0,.int .u64 a0_1,.int .u64 a0_2] 100 (h := ?_);intro gb191 hg wq1 hbox hb;have n_ := Z128;clear HB;obtain ⟨HB,BK191,GW191,GE191⟩ := n_;clear hb hbox hg;obtain ⟨hczq2_0,hczq2_1,hczq2_2,hfzq2_0,hfzq2_1,hfzq2_2⟩ := cells3 BK191.out))
  go_ret
  exact ⟨Z263,Z249⟩

/-! ### spec_ScaleWide: function 143 -/
def spec_ScaleWide.f (a0_0 : Bool) (a0_1 : Int) (a0_2 : Int) (a1 : Int) : Option (Bool × Int × Int × Bool) := (spec_WideOk.f a0_0 a0_1 a0_2).bind fun t194 => (if t194 = true then ((spec_l3Abs.f a1).bind fun t195 => ((spec_l3Product.f a0_1 t195).bind fun bt196 => ((spec_l3Product.f a0_2 t195).bind fun bt198 => ((spec_l3Zero.f (a0_0 != (decide (a1 < 0))) (IntKind.u64.wrap (bt196.2 + bt198.1)) bt198.2).bind fun t201 => (if t201 = true then (if bt196.1 > 0 then (some (false,0,0,false)) else (if (IntKind.u64.wrap (bt196.2 + bt198.1)) < bt196.2 then (some (false,0,0,false)) else ((spec_WideOk.f false (IntKind.u64.wrap (bt196.2 + bt198.1)) bt198.2).bind fun t202 => (if t202 = true then (some (false,IntKind.u64.wrap (bt196.2 + bt198.1),bt198.2,true)) else (some (false,0,0,false)))))) else (if bt196.1 > 0 then (some (false,0,0,false)) else (if (IntKind.u64.wrap (bt196.2 + bt198.1)) < bt196.2 then (some (false,0,0,false)) else ((spec_WideOk.f (a0_0 != (decide (a1 < 0))) (IntKind.u64.wrap (bt196.2 + bt198.1)) bt198.2).bind fun t203 => (if t203 = true then (some ((a0_0 != (decide (a1 < 0))),IntKind.u64.wrap (bt196.2 + bt198.1),bt198.2,true)) else (some (false,0,0,false))))))))))) else (some (false,0,0,false)))
set_option maxHeartbeats 8000000 in
set_option maxRecDepth 100000 in
theorem spec_ScaleWide.calls (a0_0 : Bool) (a0_1 : Int) (a0_2 : Int) (a1 : Int) (r1 : Bool) (r2 : Int) (r3 : Int) (r4 : Bool) (w : World) (h : spec_ScaleWide.f a0_0 a0_1 a0_2 a1 = some (r1,r2,r3,r4)) :
  Calls Try.prog 143 #[.agg #[.bool a0_0,.int .u64 a0_1,.int .u64 a0_2],.int .i64 a1] w fun e w' => e = .returned (.tuple #[.agg #[.bool r1,.int .u64 r2,.int .u64 r3],.bool r4]) ∧ Below w.heap.size w w' := by
 have hu100 := Try.underlying100
 have HB := Aside0.mk (Below.refl w.heap.size w)
 have H := h
 clear h
 unfold spec_ScaleWide.f at H
 obtain ⟨t194,A30,H⟩ := Option.bind_eq_some_iff.mp H
 have A3 := Aside0.mk A30
 clear A30
 by_cases c4 : t194 = true
 ·subst c4
  rw [if_pos rfl] at H
  obtain ⟨t195,A50,H⟩ := Option.bind_eq_some_iff.mp H
  have A5 := Aside0.mk A50
  clear A50
  obtain ⟨⟨t196,t197⟩,A60,H⟩ := Option.bind_eq_some_iff.mp H
  try dsimp only at H
  have A6 := Aside0.mk A60
  clear A60
  obtain ⟨⟨t198,t199⟩,A70,H⟩ := Option.bind_eq_some_iff.mp H
  try dsimp only at H
  have A7 := Aside0.mk A70
  clear A70
  obtain ⟨t201,A80,H⟩ := Option.bind_eq_some_iff.mp H
  have A8 := Aside0.mk A80
  clear A80
  by_cases c9 : t201 = true
  ·subst c9
   rw [if_pos rfl] at H
   by_cases c10 : t196 > 0
   ·rw [if_pos c10] at H
    have c10b0 : decide (0 < t196) = true := decide_eq_true c10
    clear c10
    simp only [Option.some.injEq,Prod.mk.injEq] at H
    obtain ⟨rfl,rfl,rfl,rfl⟩ := H
    go_enter Try.func143,Try.ntmps143
    go_wp2_with (first | ((with_reducible refine gate_dst (N := 2) rfl ?_);refine bE 2 #[.bool a0_0,.int .u64 a0_1,.int .u64 a0_2] 100 (h := ?_);intro gb192 hg wq1 hbox hb;have n_ := Z100;clear HB;obtain ⟨HB,BK192,GW192,GE192⟩ := n_;clear hb hbox hg) | ((with_reducible refine gate_dst (N := 4) rfl ?_);refine bE 4 #[.bool false,.int .u64 0,.int .u64 0] 100 (h := ?_);intro gb193 hg wq2 hbox hb;have n_ := Z72;clear BK192 HB;obtain ⟨BK192,HB,BK193,GW193,GE193,NB192_193,NB193_192⟩ := n_;clear hb hbox hg;have hnbq3 := NB192_193.out;have hncq3 := NB193_192.out;obtain ⟨hczq4_0,hczq4_1,hczq4_2,hfzq4_0,hfzq4_1,hfzq4_2⟩ := cells3 BK192.out) | ((with_reducible refine gate_callee (f := 158) rfl ?_);refine goesL_ (some 14) rfl rfl Try.func158 Z312 rfl #[.agg #[.bool a0_0,.int .u64 a0_1,.int .u64 a0_2]] rfl Z256 ?_;(with_reducible refine (spec_WideOk.calls a0_0 a0_1 a0_2 true _ A3.out).mono ?_);rintro e wq5 ⟨rfl,hb⟩;refine ⟨_,rfl,?_⟩;have n_ := Z139;clear BK192 BK193 HB;obtain ⟨BK192,BK193,HB⟩ := n_;(try clear hb);(try clear hb2);(try clear hk);(try clear hi)) | ((with_reducible refine gate_callee (f := 160) rfl ?_);refine goesL_ (some 18) rfl rfl Try.func160 Z312 rfl #[.int .i64 a1] rfl Z256 ?_;(with_reducible refine (spec_l3Abs.calls a1 t195 _ A5.out).mono ?_);rintro e w' ⟨rfl,⟨nd,rfl⟩⟩;refine ⟨_,rfl,?_⟩;(iterate 4 (try (rw [drewN_self wq5];generalize hq_ : World.drewN wq5 _ = wq5;have n0_ : Aside0 (wq5.heap[gb192]? = some (.cells #[.bool a0_0,.int .u64 a0_1,.int .u64 a0_2] 100 (0,0))) := ⟨Z268⟩;have n1_ : Aside0 (wq5.heap[gb193]? = some (.cells #[.bool false,.int .u64 0,.int .u64 0] 100 (0,0))) := ⟨Z267⟩;have n2_ : Aside0 (Below w.heap.size w wq5) := ⟨Z190⟩;clear BK192 BK193 HB hq_;have BK192 := n0_;have BK193 := n1_;have HB := n2_;clear n0_ n1_ n2_)));obtain ⟨hczq6_0,hczq6_1,hczq6_2,hfzq6_0,hfzq6_1,hfzq6_2⟩ := cells3 BK192.out) | ((with_reducible refine gate_callee (f := 159) rfl ?_);refine goesL_ (some 23) rfl rfl Try.func159 Z312 rfl #[.int .u64 a0_1,.int .u64 t195] rfl Z256 ?_;(with_reducible refine (spec_l3Product.calls a0_1 t195 t196 t197 _ A6.out).mono ?_);rintro e w' ⟨rfl,⟨nd,rfl⟩⟩;refine ⟨_,rfl,?_⟩;(iterate 4 (try (rw [drewN_self wq5];generalize hq_ : World.drewN wq5 _ = wq5;have n0_ : Aside0 (wq5.heap[gb192]? = some (.cells #[.bool a0_0,.int .u64 a0_1,.int .u64 a0_2] 100 (0,0))) := ⟨Z268⟩;have n1_ : Aside0 (wq5.heap[gb193]? = some (.cells #[.bool false,.int .u64 0,.int .u64 0] 100 (0,0))) := ⟨Z267⟩;have n2_ : Aside0 (Below w.heap.size w wq5) := ⟨Z190⟩;clear BK192 BK193 HB hq_;have BK192 := n0_;have BK193 := n1_;have HB := n2_;clear n0_ n1_ n2_)));(try (obtain ⟨hczq6_0,hczq6_1,hczq6_2,hfzq6_0,hfzq6_1,hfzq6_2⟩ := cells3 BK192.out))) | ((with_reducible refine gate_callee (f := 159) rfl ?_);refine goesL_ (some 30) rfl rfl Try.func159 Z312 rfl #[.int .u64 a0_2,.int .u64 t195] rfl Z256 ?_;(with_reducible refine (spec_l3Product.calls a0_2 t195 t198 t199 _ A7.out).mono ?_);rintro e w' ⟨rfl,⟨nd,rfl⟩⟩;refine ⟨_,rfl,?_⟩;(iterate 4 (try (rw [drewN_self wq5];generalize hq_ : World.drewN wq5 _ = wq5;have n0_ : Aside0 (wq5.heap[gb192]? = some (.cells #[.bool a0_0,.int .u64 a0_1,.int .u64 a0_2] 100 (0,0))) := ⟨Z268⟩;have n1_ : Aside0 (wq5.heap[gb193]? = some (.cells #[.bool false,.int .u64 0,.int .u64 0] 100 (0,0))) := ⟨Z267⟩;have n2_ : Aside0 (Below w.heap.size w wq5) := ⟨Z190⟩;clear BK192 BK193 HB hq_;have BK192 := n0_;have BK193 := n1_;have HB := n2_;clear n0_ n1_ n2_)));(try (obtain ⟨hczq6_0,hczq6_1,hczq6_2,hfzq6_0,hfzq6_1,hfzq6_2⟩ := cells3 BK192.out))) | ((with_reducible refine gate_dst (N := 12) rfl ?_);refine bE 12 #[.bool false,.int .u64 0,.int .u64 0] 100 (h := ?_);intro gb200 hg wq7 hbox hb;have n_ := Z45;clear BK192 BK193 HB;obtain ⟨BK192,BK193,HB,BK200,GW200,GE200,NB192_200,NB200_192,NB193_200,NB200_193⟩ := n_;clear hb hbox hg;have hnbq8 := NB200_192.out;have hncq8 := NB192_200.out;have hnbq9 := NB200_193.out;have hncq9 := NB193_200.out;obtain ⟨hczq10_0,hczq10_1,hczq10_2,hfzq10_0,hfzq10_1,hfzq10_2⟩ := cells3 BK200.out) | ((with_reducible refine gate_callee (f := 144) rfl ?_);refine goesL_ (some 45) rfl rfl Try.func144 Z312 rfl #[.agg #[.bool (a0_0 != (decide (a1 < 0))),.int .u64 (IntKind.u64.wrap (t197 + t198)),.int .u64 t199]] rfl Z256 ?_;(with_reducible refine (spec_l3Zero.calls (a0_0 != (decide (a1 < 0))) (IntKind.u64.wrap (t197 + t198)) t199 true _ A8.out).mono ?_);rintro e wq11 ⟨rfl,hb⟩;refine ⟨_,rfl,?_⟩;have n_ := Z61;clear BK192 BK193 BK200 HB;obtain ⟨BK192,BK193,BK200,HB⟩ := n_;(try clear hb);(try clear hb2);(try clear hk);(try clear hi);obtain ⟨hczq12_0,hczq12_1,hczq12_2,hfzq12_0,hfzq12_1,hfzq12_2⟩ := cells3 BK200.out;obtain ⟨hczq13_0,hczq13_1,hczq13_2,hfzq13_0,hfzq13_1,hfzq13_2⟩ := cells3 BK193.out))
    refine bodyPost_ret (results_ct rfl _ _ gb193 100 #[.bool false,.int .u64 0,.int .u64 0] (0,0) _ rfl Z154 Try.underlying100 rfl Z312) rfl ?_
    exact ⟨Z263,Z354⟩
   ·rw [if_neg c10] at H
    have c10b0 : decide (0 < t196) = false := decide_eq_false c10
    clear c10
    by_cases c24 : (IntKind.u64.wrap (t197 + t198)) < t197
    ·rw [if_pos c24] at H
     have c24b0 : decide ((IntKind.u64.wrap (t197 + t198)) < t197) = true := decide_eq_true c24
     clear c24
     simp only [Option.some.injEq,Prod.mk.injEq] at H
     obtain ⟨rfl,rfl,rfl,rfl⟩ := H
     go_enter Try.func143,Try.ntmps143
     go_wp2_with (first | ((with_reducible refine gate_dst (N := 2) rfl ?_);refine bE 2 #[.bool a0_0,.int .u64 a0_1,.int .u64 a0_2] 100 (h := ?_);intro gb192 hg wq1 hbox hb;have n_ := Z100;clear HB;obtain ⟨HB,BK192,GW192,GE192⟩ := n_;clear hb hbox hg) | ((with_reducible refine gate_dst (N := 4) rfl ?_);refine bE 4 #[.bool false,.int .u64 0,.int .u64 0] 100 (h := ?_);intro gb193 hg wq2 hbox hb;have n_ := Z72;clear BK192 HB;obtain ⟨BK192,HB,BK193,GW193,GE193,NB192_193,NB193_192⟩ := n_;clear hb hbox hg;have hnbq3 := NB192_193.out;have hncq3 := NB193_192.out;obtain ⟨hczq4_0,hczq4_1,hczq4_2,hfzq4_0,hfzq4_1,hfzq4_2⟩ := cells3 BK192.out) | ((with_reducible refine gate_callee (f := 158) rfl ?_);refine goesL_ (some 14) rfl rfl Try.func158 Z312 rfl #[.agg #[.bool a0_0,.int .u64 a0_1,.int .u64 a0_2]] rfl Z256 ?_;(with_reducible refine (spec_WideOk.calls a0_0 a0_1 a0_2 true _ A3.out).mono ?_);rintro e wq5 ⟨rfl,hb⟩;refine ⟨_,rfl,?_⟩;have n_ := Z139;clear BK192 BK193 HB;obtain ⟨BK192,BK193,HB⟩ := n_;(try clear hb);(try clear hb2);(try clear hk);(try clear hi)) | ((with_reducible refine gate_callee (f := 160) rfl ?_);refine goesL_ (some 18) rfl rfl Try.func160 Z312 rfl #[.int .i64 a1] rfl Z256 ?_;(with_reducible refine (spec_l3Abs.calls a1 t195 _ A5.out).mono ?_);rintro e w' ⟨rfl,⟨nd,rfl⟩⟩;refine ⟨_,rfl,?_⟩;(iterate 4 (try (rw [drewN_self wq5];generalize hq_ : World.drewN wq5 _ = wq5;have n0_ : Aside0 (wq5.heap[gb192]? = some (.cells #[.bool a0_0,.int .u64 a0_1,.int .u64 a0_2] 100 (0,0))) := ⟨Z268⟩;have n1_ : Aside0 (wq5.heap[gb193]? = some (.cells #[.bool false,.int .u64 0,.int .u64 0] 100 (0,0))) := ⟨Z267⟩;have n2_ : Aside0 (Below w.heap.size w wq5) := ⟨Z190⟩;clear BK192 BK193 HB hq_;have BK192 := n0_;have BK193 := n1_;have HB := n2_;clear n0_ n1_ n2_)));obtain ⟨hczq6_0,hczq6_1,hczq6_2,hfzq6_0,hfzq6_1,hfzq6_2⟩ := cells3 BK192.out) | ((with_reducible refine gate_callee (f := 159) rfl ?_);refine goesL_ (some 23) rfl rfl Try.func159 Z312 rfl #[.int .u64 a0_1,.int .u64 t195] rfl Z256 ?_;(with_reducible refine (spec_l3Product.calls a0_1 t195 t196 t197 _ A6.out).mono ?_);rintro e w' ⟨rfl,⟨nd,rfl⟩⟩;refine ⟨_,rfl,?_⟩;(iterate 4 (try (rw [drewN_self wq5];generalize hq_ : World.drewN wq5 _ = wq5;have n0_ : Aside0 (wq5.heap[gb192]? = some (.cells #[.bool a0_0,.int .u64 a0_1,.int .u64 a0_2] 100 (0,0))) := ⟨Z268⟩;have n1_ : Aside0 (wq5.heap[gb193]? = some (.cells #[.bool false,.int .u64 0,.int .u64 0] 100 (0,0))) := ⟨Z267⟩;have n2_ : Aside0 (Below w.heap.size w wq5) := ⟨Z190⟩;clear BK192 BK193 HB hq_;have BK192 := n0_;have BK193 := n1_;have HB := n2_;clear n0_ n1_ n2_)));(try (obtain ⟨hczq6_0,hczq6_1,hczq6_2,hfzq6_0,hfzq6_1,hfzq6_2⟩ := cells3 BK192.out))) | ((with_reducible refine gate_callee (f := 159) rfl ?_);refine goesL_ (some 30) rfl rfl Try.func159 Z312 rfl #[.int .u64 a0_2,.int .u64 t195] rfl Z256 ?_;(with_reducible refine (spec_l3Product.calls a0_2 t195 t198 t199 _ A7.out).mono ?_);rintro e w' ⟨rfl,⟨nd,rfl⟩⟩;refine ⟨_,rfl,?_⟩;(iterate 4 (try (rw [drewN_self wq5];generalize hq_ : World.drewN wq5 _ = wq5;have n0_ : Aside0 (wq5.heap[gb192]? = some (.cells #[.bool a0_0,.int .u64 a0_1,.int .u64 a0_2] 100 (0,0))) := ⟨Z268⟩;have n1_ : Aside0 (wq5.heap[gb193]? = some (.cells #[.bool false,.int .u64 0,.int .u64 0] 100 (0,0))) := ⟨Z267⟩;have n2_ : Aside0 (Below w.heap.size w wq5) := ⟨Z190⟩;clear BK192 BK193 HB hq_;have BK192 := n0_;have BK193 := n1_;have HB := n2_;clear n0_ n1_ n2_)));(try (obtain ⟨hczq6_0,hczq6_1,hczq6_2,hfzq6_0,hfzq6_1,hfzq6_2⟩ := cells3 BK192.out))) | ((with_reducible refine gate_dst (N := 12) rfl ?_);refine bE 12 #[.bool false,.int .u64 0,.int .u64 0] 100 (h := ?_);intro gb200 hg wq7 hbox hb;have n_ := Z45;clear BK192 BK193 HB;obtain ⟨BK192,BK193,HB,BK200,GW200,GE200,NB192_200,NB200_192,NB193_200,NB200_193⟩ := n_;clear hb hbox hg;have hnbq8 := NB200_192.out;have hncq8 := NB192_200.out;have hnbq9 := NB200_193.out;have hncq9 := NB193_200.out;obtain ⟨hczq10_0,hczq10_1,hczq10_2,hfzq10_0,hfzq10_1,hfzq10_2⟩ := cells3 BK200.out) | ((with_reducible refine gate_callee (f := 144) rfl ?_);refine goesL_ (some 45) rfl rfl Try.func144 Z312 rfl #[.agg #[.bool (a0_0 != (decide (a1 < 0))),.int .u64 (IntKind.u64.wrap (t197 + t198)),.int .u64 t199]] rfl Z256 ?_;(with_reducible refine (spec_l3Zero.calls (a0_0 != (decide (a1 < 0))) (IntKind.u64.wrap (t197 + t198)) t199 true _ A8.out).mono ?_);rintro e wq11 ⟨rfl,hb⟩;refine ⟨_,rfl,?_⟩;have n_ := Z61;clear BK192 BK193 BK200 HB;obtain ⟨BK192,BK193,BK200,HB⟩ := n_;(try clear hb);(try clear hb2);(try clear hk);(try clear hi);obtain ⟨hczq12_0,hczq12_1,hczq12_2,hfzq12_0,hfzq12_1,hfzq12_2⟩ := cells3 BK200.out;obtain ⟨hczq13_0,hczq13_1,hczq13_2,hfzq13_0,hfzq13_1,hfzq13_2⟩ := cells3 BK193.out))
     refine bodyPost_ret (results_ct rfl _ _ gb193 100 #[.bool false,.int .u64 0,.int .u64 0] (0,0) _ rfl Z154 Try.underlying100 rfl Z312) rfl ?_
     exact ⟨Z263,Z354⟩
    ·rw [if_neg c24] at H
     have c24b0 : decide ((IntKind.u64.wrap (t197 + t198)) < t197) = false := decide_eq_false c24
     clear c24
     obtain ⟨t202,A380,H⟩ := Option.bind_eq_some_iff.mp H
     have A38 := Aside0.mk A380
     clear A380
     by_cases c39 : t202 = true
     ·subst c39
      rw [if_pos rfl] at H
      simp only [Option.some.injEq,Prod.mk.injEq] at H
      obtain ⟨rfl,rfl,rfl,rfl⟩ := H
      go_enter Try.func143,Try.ntmps143
      go_wp2_with (first | ((with_reducible refine gate_dst (N := 2) rfl ?_);refine bE 2 #[.bool a0_0,.int .u64 a0_1,.int .u64 a0_2] 100 (h := ?_);intro gb192 hg wq1 hbox hb;have n_ := Z100;clear HB;obtain ⟨HB,BK192,GW192,GE192⟩ := n_;clear hb hbox hg) | ((with_reducible refine gate_dst (N := 4) rfl ?_);refine bE 4 #[.bool false,.int .u64 0,.int .u64 0] 100 (h := ?_);intro gb193 hg wq2 hbox hb;have n_ := Z72;clear BK192 HB;obtain ⟨BK192,HB,BK193,GW193,GE193,NB192_193,NB193_192⟩ := n_;clear hb hbox hg;have hnbq3 := NB192_193.out;have hncq3 := NB193_192.out;obtain ⟨hczq4_0,hczq4_1,hczq4_2,hfzq4_0,hfzq4_1,hfzq4_2⟩ := cells3 BK192.out) | ((with_reducible refine gate_callee (f := 158) rfl ?_);refine goesL_ (some 14) rfl rfl Try.func158 Z312 rfl #[.agg #[.bool a0_0,.int .u64 a0_1,.int .u64 a0_2]] rfl Z256 ?_;(with_reducible refine (spec_WideOk.calls a0_0 a0_1 a0_2 true _ A3.out).mono ?_);rintro e wq5 ⟨rfl,hb⟩;refine ⟨_,rfl,?_⟩;have n_ := Z139;clear BK192 BK193 HB;obtain ⟨BK192,BK193,HB⟩ := n_;(try clear hb);(try clear hb2);(try clear hk);(try clear hi)) | ((with_reducible refine gate_callee (f := 160) rfl ?_);refine goesL_ (some 18) rfl rfl Try.func160 Z312 rfl #[.int .i64 a1] rfl Z256 ?_;(with_reducible refine (spec_l3Abs.calls a1 t195 _ A5.out).mono ?_);rintro e w' ⟨rfl,⟨nd,rfl⟩⟩;refine ⟨_,rfl,?_⟩;(iterate 4 (try (rw [drewN_self wq5];generalize hq_ : World.drewN wq5 _ = wq5;have n0_ : Aside0 (wq5.heap[gb192]? = some (.cells #[.bool a0_0,.int .u64 a0_1,.int .u64 a0_2] 100 (0,0))) := ⟨Z268⟩;have n1_ : Aside0 (wq5.heap[gb193]? = some (.cells #[.bool false,.int .u64 0,.int .u64 0] 100 (0,0))) := ⟨Z267⟩;have n2_ : Aside0 (Below w.heap.size w wq5) := ⟨Z190⟩;clear BK192 BK193 HB hq_;have BK192 := n0_;have BK193 := n1_;have HB := n2_;clear n0_ n1_ n2_)));obtain ⟨hczq6_0,hczq6_1,hczq6_2,hfzq6_0,hfzq6_1,hfzq6_2⟩ := cells3 BK192.out) | ((with_reducible refine gate_callee (f := 159) rfl ?_);refine goesL_ (some 23) rfl rfl Try.func159 Z312 rfl #[.int .u64 a0_1,.int .u64 t195] rfl Z256 ?_;(with_reducible refine (spec_l3Product.calls a0_1 t195 t196 t197 _ A6.out).mono ?_);rintro e w' ⟨rfl,⟨nd,rfl⟩⟩;refine ⟨_,rfl,?_⟩;(iterate 4 (try (rw [drewN_self wq5];generalize hq_ : World.drewN wq5 _ = wq5;have n0_ : Aside0 (wq5.heap[gb192]? = some (.cells #[.bool a0_0,.int .u64 a0_1,.int .u64 a0_2] 100 (0,0))) := ⟨Z268⟩;have n1_ : Aside0 (wq5.heap[gb193]? = some (.cells #[.bool false,.int .u64 0,.int .u64 0] 100 (0,0))) := ⟨Z267⟩;have n2_ : Aside0 (Below w.heap.size w wq5) := ⟨Z190⟩;clear BK192 BK193 HB hq_;have BK192 := n0_;have BK193 := n1_;have HB := n2_;clear n0_ n1_ n2_)));(try (obtain ⟨hczq6_0,hczq6_1,hczq6_2,hfzq6_0,hfzq6_1,hfzq6_2⟩ := cells3 BK192.out))) | ((with_reducible refine gate_callee (f := 159) rfl ?_);refine goesL_ (some 30) rfl rfl Try.func159 Z312 rfl #[.int .u64 a0_2,.int .u64 t195] rfl Z256 ?_;(with_reducible refine (spec_l3Product.calls a0_2 t195 t198 t199 _ A7.out).mono ?_);rintro e w' ⟨rfl,⟨nd,rfl⟩⟩;refine ⟨_,rfl,?_⟩;(iterate 4 (try (rw [drewN_self wq5];generalize hq_ : World.drewN wq5 _ = wq5;have n0_ : Aside0 (wq5.heap[gb192]? = some (.cells #[.bool a0_0,.int .u64 a0_1,.int .u64 a0_2] 100 (0,0))) := ⟨Z268⟩;have n1_ : Aside0 (wq5.heap[gb193]? = some (.cells #[.bool false,.int .u64 0,.int .u64 0] 100 (0,0))) := ⟨Z267⟩;have n2_ : Aside0 (Below w.heap.size w wq5) := ⟨Z190⟩;clear BK192 BK193 HB hq_;have BK192 := n0_;have BK193 := n1_;have HB := n2_;clear n0_ n1_ n2_)));(try (obtain ⟨hczq6_0,hczq6_1,hczq6_2,hfzq6_0,hfzq6_1,hfzq6_2⟩ := cells3 BK192.out))) | ((with_reducible refine gate_dst (N := 12) rfl ?_);refine bE 12 #[.bool false,.int .u64 0,.int .u64 0] 100 (h := ?_);intro gb200 hg wq7 hbox hb;have n_ := Z45;clear BK192 BK193 HB;obtain ⟨BK192,BK193,HB,BK200,GW200,GE200,NB192_200,NB200_192,NB193_200,NB200_193⟩ := n_;clear hb hbox hg;have hnbq8 := NB200_192.out;have hncq8 := NB192_200.out;have hnbq9 := NB200_193.out;have hncq9 := NB193_200.out;obtain ⟨hczq10_0,hczq10_1,hczq10_2,hfzq10_0,hfzq10_1,hfzq10_2⟩ := cells3 BK200.out) | ((with_reducible refine gate_callee (f := 144) rfl ?_);refine goesL_ (some 45) rfl rfl Try.func144 Z312 rfl #[.agg #[.bool (a0_0 != (decide (a1 < 0))),.int .u64 (IntKind.u64.wrap (t197 + t198)),.int .u64 t199]] rfl Z256 ?_;(with_reducible refine (spec_l3Zero.calls (a0_0 != (decide (a1 < 0))) (IntKind.u64.wrap (t197 + t198)) t199 true _ A8.out).mono ?_);rintro e wq11 ⟨rfl,hb⟩;refine ⟨_,rfl,?_⟩;have n_ := Z61;clear BK192 BK193 BK200 HB;obtain ⟨BK192,BK193,BK200,HB⟩ := n_;(try clear hb);(try clear hb2);(try clear hk);(try clear hi);obtain ⟨hczq12_0,hczq12_1,hczq12_2,hfzq12_0,hfzq12_1,hfzq12_2⟩ := cells3 BK200.out) | (go_at_call 158;(with_reducible refine (spec_WideOk.calls false (IntKind.u64.wrap (t197 + t198)) t199 true _ A38.out).mono ?_);rintro e wq13 ⟨rfl,hb⟩;have n_ := Z82;clear BK192 BK193 BK200 HB;obtain ⟨BK192,BK193,BK200,HB⟩ := n_;(try clear hb);(try clear hb2);(try clear hk);(try clear hi);obtain ⟨hczq14_0,hczq14_1,hczq14_2,hfzq14_0,hfzq14_1,hfzq14_2⟩ := cells3 BK200.out;obtain ⟨hczq15_0,hczq15_1,hczq15_2,hfzq15_0,hfzq15_1,hfzq15_2⟩ := cells3 BK193.out))
      refine bodyPost_ret (results_ct rfl _ _ gb193 100 #[.bool false,.int .u64 (IntKind.u64.wrap (t197 + t198)),.int .u64 t199] (0,0) _ rfl (by refine bP ?_;refine blk_put (cs := #[.bool false,.int .u64 (IntKind.u64.wrap (t197 + t198)),.int .u64 0]) ?_ 2 _ rfl;refine bP ?_;refine blk_put (cs := #[.bool false,.int .u64 0,.int .u64 0]) ?_ 1 _ rfl;refine bP ?_;refine blk_put (cs := #[.bool false,.int .u64 0,.int .u64 0]) ?_ 0 _ rfl;refine bP ?_;exact BK193.out) Try.underlying100 rfl Z312) rfl ?_
      exact ⟨Z263,Z354⟩
     ·replace c39 := Bool.eq_false_iff.mpr c39
      subst c39
      rw [if_neg Bool.false_ne_true] at H
      simp only [Option.some.injEq,Prod.mk.injEq] at H
      obtain ⟨rfl,rfl,rfl,rfl⟩ := H
      go_enter Try.func143,Try.ntmps143
      go_wp2_with (first | ((with_reducible refine gate_dst (N := 2) rfl ?_);refine bE 2 #[.bool a0_0,.int .u64 a0_1,.int .u64 a0_2] 100 (h := ?_);intro gb192 hg wq1 hbox hb;have n_ := Z100;clear HB;obtain ⟨HB,BK192,GW192,GE192⟩ := n_;clear hb hbox hg) | ((with_reducible refine gate_dst (N := 4) rfl ?_);refine bE 4 #[.bool false,.int .u64 0,.int .u64 0] 100 (h := ?_);intro gb193 hg wq2 hbox hb;have n_ := Z72;clear BK192 HB;obtain ⟨BK192,HB,BK193,GW193,GE193,NB192_193,NB193_192⟩ := n_;clear hb hbox hg;have hnbq3 := NB192_193.out;have hncq3 := NB193_192.out;obtain ⟨hczq4_0,hczq4_1,hczq4_2,hfzq4_0,hfzq4_1,hfzq4_2⟩ := cells3 BK192.out) | ((with_reducible refine gate_callee (f := 158) rfl ?_);refine goesL_ (some 14) rfl rfl Try.func158 Z312 rfl #[.agg #[.bool a0_0,.int .u64 a0_1,.int .u64 a0_2]] rfl Z256 ?_;(with_reducible refine (spec_WideOk.calls a0_0 a0_1 a0_2 true _ A3.out).mono ?_);rintro e wq5 ⟨rfl,hb⟩;refine ⟨_,rfl,?_⟩;have n_ := Z139;clear BK192 BK193 HB;obtain ⟨BK192,BK193,HB⟩ := n_;(try clear hb);(try clear hb2);(try clear hk);(try clear hi)) | ((with_reducible refine gate_callee (f := 160) rfl ?_);refine goesL_ (some 18) rfl rfl Try.func160 Z312 rfl #[.int .i64 a1] rfl Z256 ?_;(with_reducible refine (spec_l3Abs.calls a1 t195 _ A5.out).mono ?_);rintro e w' ⟨rfl,⟨nd,rfl⟩⟩;refine ⟨_,rfl,?_⟩;(iterate 4 (try (rw [drewN_self wq5];generalize hq_ : World.drewN wq5 _ = wq5;have n0_ : Aside0 (wq5.heap[gb192]? = some (.cells #[.bool a0_0,.int .u64 a0_1,.int .u64 a0_2] 100 (0,0))) := ⟨Z268⟩;have n1_ : Aside0 (wq5.heap[gb193]? = some (.cells #[.bool false,.int .u64 0,.int .u64 0] 100 (0,0))) := ⟨Z267⟩;have n2_ : Aside0 (Below w.heap.size w wq5) := ⟨Z190⟩;clear BK192 BK193 HB hq_;have BK192 := n0_;have BK193 := n1_;have HB := n2_;clear n0_ n1_ n2_)));obtain ⟨hczq6_0,hczq6_1,hczq6_2,hfzq6_0,hfzq6_1,hfzq6_2⟩ := cells3 BK192.out) | ((with_reducible refine gate_callee (f := 159) rfl ?_);refine goesL_ (some 23) rfl rfl Try.func159 Z312 rfl #[.int .u64 a0_1,.int .u64 t195] rfl Z256 ?_;(with_reducible refine (spec_l3Product.calls a0_1 t195 t196 t197 _ A6.out).mono ?_);rintro e w' ⟨rfl,⟨nd,rfl⟩⟩;refine ⟨_,rfl,?_⟩;(iterate 4 (try (rw [drewN_self wq5];generalize hq_ : World.drewN wq5 _ = wq5;have n0_ : Aside0 (wq5.heap[gb192]? = some (.cells #[.bool a0_0,.int .u64 a0_1,.int .u64 a0_2] 100 (0,0))) := ⟨Z268⟩;have n1_ : Aside0 (wq5.heap[gb193]? = some (.cells #[.bool false,.int .u64 0,.int .u64 0] 100 (0,0))) := ⟨Z267⟩;have n2_ : Aside0 (Below w.heap.size w wq5) := ⟨Z190⟩;clear BK192 BK193 HB hq_;have BK192 := n0_;have BK193 := n1_;have HB := n2_;clear n0_ n1_ n2_)));(try (obtain ⟨hczq6_0,hczq6_1,hczq6_2,hfzq6_0,hfzq6_1,hfzq6_2⟩ := cells3 BK192.out))) | ((with_reducible refine gate_callee (f := 159) rfl ?_);refine goesL_ (some 30) rfl rfl Try.func159 Z312 rfl #[.int .u64 a0_2,.int .u64 t195] rfl Z256 ?_;(with_reducible refine (spec_l3Product.calls a0_2 t195 t198 t199 _ A7.out).mono ?_);rintro e w' ⟨rfl,⟨nd,rfl⟩⟩;refine ⟨_,rfl,?_⟩;(iterate 4 (try (rw [drewN_self wq5];generalize hq_ : World.drewN wq5 _ = wq5;have n0_ : Aside0 (wq5.heap[gb192]? = some (.cells #[.bool a0_0,.int .u64 a0_1,.int .u64 a0_2] 100 (0,0))) := ⟨Z268⟩;have n1_ : Aside0 (wq5.heap[gb193]? = some (.cells #[.bool false,.int .u64 0,.int .u64 0] 100 (0,0))) := ⟨Z267⟩;have n2_ : Aside0 (Below w.heap.size w wq5) := ⟨Z190⟩;clear BK192 BK193 HB hq_;have BK192 := n0_;have BK193 := n1_;have HB := n2_;clear n0_ n1_ n2_)));(try (obtain ⟨hczq6_0,hczq6_1,hczq6_2,hfzq6_0,hfzq6_1,hfzq6_2⟩ := cells3 BK192.out))) | ((with_reducible refine gate_dst (N := 12) rfl ?_);refine bE 12 #[.bool false,.int .u64 0,.int .u64 0] 100 (h := ?_);intro gb200 hg wq7 hbox hb;have n_ := Z45;clear BK192 BK193 HB;obtain ⟨BK192,BK193,HB,BK200,GW200,GE200,NB192_200,NB200_192,NB193_200,NB200_193⟩ := n_;clear hb hbox hg;have hnbq8 := NB200_192.out;have hncq8 := NB192_200.out;have hnbq9 := NB200_193.out;have hncq9 := NB193_200.out;obtain ⟨hczq10_0,hczq10_1,hczq10_2,hfzq10_0,hfzq10_1,hfzq10_2⟩ := cells3 BK200.out) | ((with_reducible refine gate_callee (f := 144) rfl ?_);refine goesL_ (some 45) rfl rfl Try.func144 Z312 rfl #[.agg #[.bool (a0_0 != (decide (a1 < 0))),.int .u64 (IntKind.u64.wrap (t197 + t198)),.int .u64 t199]] rfl Z256 ?_;(with_reducible refine (spec_l3Zero.calls (a0_0 != (decide (a1 < 0))) (IntKind.u64.wrap (t197 + t198)) t199 true _ A8.out).mono ?_);rintro e wq11 ⟨rfl,hb⟩;refine ⟨_,rfl,?_⟩;have n_ := Z61;clear BK192 BK193 BK200 HB;obtain ⟨BK192,BK193,BK200,HB⟩ := n_;(try clear hb);(try clear hb2);(try clear hk);(try clear hi);obtain ⟨hczq12_0,hczq12_1,hczq12_2,hfzq12_0,hfzq12_1,hfzq12_2⟩ := cells3 BK200.out) | (go_at_call 158;(with_reducible refine (spec_WideOk.calls false (IntKind.u64.wrap (t197 + t198)) t199 false _ A38.out).mono ?_);rintro e wq13 ⟨rfl,hb⟩;have n_ := Z82;clear BK192 BK193 BK200 HB;obtain ⟨BK192,BK193,BK200,HB⟩ := n_;(try clear hb);(try clear hb2);(try clear hk);(try clear hi);obtain ⟨hczq14_0,hczq14_1,hczq14_2,hfzq14_0,hfzq14_1,hfzq14_2⟩ := cells3 BK193.out))
      refine bodyPost_ret (results_ct rfl _ _ gb193 100 #[.bool false,.int .u64 0,.int .u64 0] (0,0) _ rfl Z163 Try.underlying100 rfl Z312) rfl ?_
      exact ⟨Z263,Z354⟩
  ·replace c9 := Bool.eq_false_iff.mpr c9
   subst c9
   rw [if_neg Bool.false_ne_true] at H
   by_cases c69 : t196 > 0
   ·rw [if_pos c69] at H
    have c69b0 : decide (0 < t196) = true := decide_eq_true c69
    clear c69
    simp only [Option.some.injEq,Prod.mk.injEq] at H
    obtain ⟨rfl,rfl,rfl,rfl⟩ := H
    go_enter Try.func143,Try.ntmps143
    go_wp2_with (first | ((with_reducible refine gate_dst (N := 2) rfl ?_);refine bE 2 #[.bool a0_0,.int .u64 a0_1,.int .u64 a0_2] 100 (h := ?_);intro gb192 hg wq1 hbox hb;have n_ := Z100;clear HB;obtain ⟨HB,BK192,GW192,GE192⟩ := n_;clear hb hbox hg) | ((with_reducible refine gate_dst (N := 4) rfl ?_);refine bE 4 #[.bool false,.int .u64 0,.int .u64 0] 100 (h := ?_);intro gb193 hg wq2 hbox hb;have n_ := Z72;clear BK192 HB;obtain ⟨BK192,HB,BK193,GW193,GE193,NB192_193,NB193_192⟩ := n_;clear hb hbox hg;have hnbq3 := NB192_193.out;have hncq3 := NB193_192.out;obtain ⟨hczq4_0,hczq4_1,hczq4_2,hfzq4_0,hfzq4_1,hfzq4_2⟩ := cells3 BK192.out) | ((with_reducible refine gate_callee (f := 158) rfl ?_);refine goesL_ (some 14) rfl rfl Try.func158 Z312 rfl #[.agg #[.bool a0_0,.int .u64 a0_1,.int .u64 a0_2]] rfl Z256 ?_;(with_reducible refine (spec_WideOk.calls a0_0 a0_1 a0_2 true _ A3.out).mono ?_);rintro e wq5 ⟨rfl,hb⟩;refine ⟨_,rfl,?_⟩;have n_ := Z139;clear BK192 BK193 HB;obtain ⟨BK192,BK193,HB⟩ := n_;(try clear hb);(try clear hb2);(try clear hk);(try clear hi)) | ((with_reducible refine gate_callee (f := 160) rfl ?_);refine goesL_ (some 18) rfl rfl Try.func160 Z312 rfl #[.int .i64 a1] rfl Z256 ?_;(with_reducible refine (spec_l3Abs.calls a1 t195 _ A5.out).mono ?_);rintro e w' ⟨rfl,⟨nd,rfl⟩⟩;refine ⟨_,rfl,?_⟩;(iterate 4 (try (rw [drewN_self wq5];generalize hq_ : World.drewN wq5 _ = wq5;have n0_ : Aside0 (wq5.heap[gb192]? = some (.cells #[.bool a0_0,.int .u64 a0_1,.int .u64 a0_2] 100 (0,0))) := ⟨Z268⟩;have n1_ : Aside0 (wq5.heap[gb193]? = some (.cells #[.bool false,.int .u64 0,.int .u64 0] 100 (0,0))) := ⟨Z267⟩;have n2_ : Aside0 (Below w.heap.size w wq5) := ⟨Z190⟩;clear BK192 BK193 HB hq_;have BK192 := n0_;have BK193 := n1_;have HB := n2_;clear n0_ n1_ n2_)));obtain ⟨hczq6_0,hczq6_1,hczq6_2,hfzq6_0,hfzq6_1,hfzq6_2⟩ := cells3 BK192.out) | ((with_reducible refine gate_callee (f := 159) rfl ?_);refine goesL_ (some 23) rfl rfl Try.func159 Z312 rfl #[.int .u64 a0_1,.int .u64 t195] rfl Z256 ?_;(with_reducible refine (spec_l3Product.calls a0_1 t195 t196 t197 _ A6.out).mono ?_);rintro e w' ⟨rfl,⟨nd,rfl⟩⟩;refine ⟨_,rfl,?_⟩;(iterate 4 (try (rw [drewN_self wq5];generalize hq_ : World.drewN wq5 _ = wq5;have n0_ : Aside0 (wq5.heap[gb192]? = some (.cells #[.bool a0_0,.int .u64 a0_1,.int .u64 a0_2] 100 (0,0))) := ⟨Z268⟩;have n1_ : Aside0 (wq5.heap[gb193]? = some (.cells #[.bool false,.int .u64 0,.int .u64 0] 100 (0,0))) := ⟨Z267⟩;have n2_ : Aside0 (Below w.heap.size w wq5) := ⟨Z190⟩;clear BK192 BK193 HB hq_;have BK192 := n0_;have BK193 := n1_;have HB := n2_;clear n0_ n1_ n2_)));(try (obtain ⟨hczq6_0,hczq6_1,hczq6_2,hfzq6_0,hfzq6_1,hfzq6_2⟩ := cells3 BK192.out))) | ((with_reducible refine gate_callee (f := 159) rfl ?_);refine goesL_ (some 30) rfl rfl Try.func159 Z312 rfl #[.int .u64 a0_2,.int .u64 t195] rfl Z256 ?_;(with_reducible refine (spec_l3Product.calls a0_2 t195 t198 t199 _ A7.out).mono ?_);rintro e w' ⟨rfl,⟨nd,rfl⟩⟩;refine ⟨_,rfl,?_⟩;(iterate 4 (try (rw [drewN_self wq5];generalize hq_ : World.drewN wq5 _ = wq5;have n0_ : Aside0 (wq5.heap[gb192]? = some (.cells #[.bool a0_0,.int .u64 a0_1,.int .u64 a0_2] 100 (0,0))) := ⟨Z268⟩;have n1_ : Aside0 (wq5.heap[gb193]? = some (.cells #[.bool false,.int .u64 0,.int .u64 0] 100 (0,0))) := ⟨Z267⟩;have n2_ : Aside0 (Below w.heap.size w wq5) := ⟨Z190⟩;clear BK192 BK193 HB hq_;have BK192 := n0_;have BK193 := n1_;have HB := n2_;clear n0_ n1_ n2_)));(try (obtain ⟨hczq6_0,hczq6_1,hczq6_2,hfzq6_0,hfzq6_1,hfzq6_2⟩ := cells3 BK192.out))) | ((with_reducible refine gate_dst (N := 12) rfl ?_);refine bE 12 #[.bool false,.int .u64 0,.int .u64 0] 100 (h := ?_);intro gb200 hg wq7 hbox hb;have n_ := Z45;clear BK192 BK193 HB;obtain ⟨BK192,BK193,HB,BK200,GW200,GE200,NB192_200,NB200_192,NB193_200,NB200_193⟩ := n_;clear hb hbox hg;have hnbq8 := NB200_192.out;have hncq8 := NB192_200.out;have hnbq9 := NB200_193.out;have hncq9 := NB193_200.out;obtain ⟨hczq10_0,hczq10_1,hczq10_2,hfzq10_0,hfzq10_1,hfzq10_2⟩ := cells3 BK200.out) | ((with_reducible refine gate_callee (f := 144) rfl ?_);refine goesL_ (some 45) rfl rfl Try.func144 Z312 rfl #[.agg #[.bool (a0_0 != (decide (a1 < 0))),.int .u64 (IntKind.u64.wrap (t197 + t198)),.int .u64 t199]] rfl Z256 ?_;(with_reducible refine (spec_l3Zero.calls (a0_0 != (decide (a1 < 0))) (IntKind.u64.wrap (t197 + t198)) t199 false _ A8.out).mono ?_);rintro e wq11 ⟨rfl,hb⟩;refine ⟨_,rfl,?_⟩;have n_ := Z61;clear BK192 BK193 BK200 HB;obtain ⟨BK192,BK193,BK200,HB⟩ := n_;(try clear hb);(try clear hb2);(try clear hk);(try clear hi);obtain ⟨hczq12_0,hczq12_1,hczq12_2,hfzq12_0,hfzq12_1,hfzq12_2⟩ := cells3 BK193.out))
    refine bodyPost_ret (results_ct rfl _ _ gb193 100 #[.bool false,.int .u64 0,.int .u64 0] (0,0) _ rfl Z163 Try.underlying100 rfl Z312) rfl ?_
    exact ⟨Z263,Z354⟩
   ·rw [if_neg c69] at H
    have c69b0 : decide (0 < t196) = false := decide_eq_false c69
    clear c69
    by_cases c82 : (IntKind.u64.wrap (t197 + t198)) < t197
    ·rw [if_pos c82] at H
     have c82b0 : decide ((IntKind.u64.wrap (t197 + t198)) < t197) = true := decide_eq_true c82
     clear c82
     simp only [Option.some.injEq,Prod.mk.injEq] at H
     obtain ⟨rfl,rfl,rfl,rfl⟩ := H
     go_enter Try.func143,Try.ntmps143
     go_wp2_with (first | ((with_reducible refine gate_dst (N := 2) rfl ?_);refine bE 2 #[.bool a0_0,.int .u64 a0_1,.int .u64 a0_2] 100 (h := ?_);intro gb192 hg wq1 hbox hb;have n_ := Z100;clear HB;obtain ⟨HB,BK192,GW192,GE192⟩ := n_;clear hb hbox hg) | ((with_reducible refine gate_dst (N := 4) rfl ?_);refine bE 4 #[.bool false,.int .u64 0,.int .u64 0] 100 (h := ?_);intro gb193 hg wq2 hbox hb;have n_ := Z72;clear BK192 HB;obtain ⟨BK192,HB,BK193,GW193,GE193,NB192_193,NB193_192⟩ := n_;clear hb hbox hg;have hnbq3 := NB192_193.out;have hncq3 := NB193_192.out;obtain ⟨hczq4_0,hczq4_1,hczq4_2,hfzq4_0,hfzq4_1,hfzq4_2⟩ := cells3 BK192.out) | ((with_reducible refine gate_callee (f := 158) rfl ?_);refine goesL_ (some 14) rfl rfl Try.func158 Z312 rfl #[.agg #[.bool a0_0,.int .u64 a0_1,.int .u64 a0_2]] rfl Z256 ?_;(with_reducible refine (spec_WideOk.calls a0_0 a0_1 a0_2 true _ A3.out).mono ?_);rintro e wq5 ⟨rfl,hb⟩;refine ⟨_,rfl,?_⟩;have n_ := Z139;clear BK192 BK193 HB;obtain ⟨BK192,BK193,HB⟩ := n_;(try clear hb);(try clear hb2);(try clear hk);(try clear hi)) | ((with_reducible refine gate_callee (f := 160) rfl ?_);refine goesL_ (some 18) rfl rfl Try.func160 Z312 rfl #[.int .i64 a1] rfl Z256 ?_;(with_reducible refine (spec_l3Abs.calls a1 t195 _ A5.out).mono ?_);rintro e w' ⟨rfl,⟨nd,rfl⟩⟩;refine ⟨_,rfl,?_⟩;(iterate 4 (try (rw [drewN_self wq5];generalize hq_ : World.drewN wq5 _ = wq5;have n0_ : Aside0 (wq5.heap[gb192]? = some (.cells #[.bool a0_0,.int .u64 a0_1,.int .u64 a0_2] 100 (0,0))) := ⟨Z268⟩;have n1_ : Aside0 (wq5.heap[gb193]? = some (.cells #[.bool false,.int .u64 0,.int .u64 0] 100 (0,0))) := ⟨Z267⟩;have n2_ : Aside0 (Below w.heap.size w wq5) := ⟨Z190⟩;clear BK192 BK193 HB hq_;have BK192 := n0_;have BK193 := n1_;have HB := n2_;clear n0_ n1_ n2_)));obtain ⟨hczq6_0,hczq6_1,hczq6_2,hfzq6_0,hfzq6_1,hfzq6_2⟩ := cells3 BK192.out) | ((with_reducible refine gate_callee (f := 159) rfl ?_);refine goesL_ (some 23) rfl rfl Try.func159 Z312 rfl #[.int .u64 a0_1,.int .u64 t195] rfl Z256 ?_;(with_reducible refine (spec_l3Product.calls a0_1 t195 t196 t197 _ A6.out).mono ?_);rintro e w' ⟨rfl,⟨nd,rfl⟩⟩;refine ⟨_,rfl,?_⟩;(iterate 4 (try (rw [drewN_self wq5];generalize hq_ : World.drewN wq5 _ = wq5;have n0_ : Aside0 (wq5.heap[gb192]? = some (.cells #[.bool a0_0,.int .u64 a0_1,.int .u64 a0_2] 100 (0,0))) := ⟨Z268⟩;have n1_ : Aside0 (wq5.heap[gb193]? = some (.cells #[.bool false,.int .u64 0,.int .u64 0] 100 (0,0))) := ⟨Z267⟩;have n2_ : Aside0 (Below w.heap.size w wq5) := ⟨Z190⟩;clear BK192 BK193 HB hq_;have BK192 := n0_;have BK193 := n1_;have HB := n2_;clear n0_ n1_ n2_)));(try (obtain ⟨hczq6_0,hczq6_1,hczq6_2,hfzq6_0,hfzq6_1,hfzq6_2⟩ := cells3 BK192.out))) | ((with_reducible refine gate_callee (f := 159) rfl ?_);refine goesL_ (some 30) rfl rfl Try.func159 Z312 rfl #[.int .u64 a0_2,.int .u64 t195] rfl Z256 ?_;(with_reducible refine (spec_l3Product.calls a0_2 t195 t198 t199 _ A7.out).mono ?_);rintro e w' ⟨rfl,⟨nd,rfl⟩⟩;refine ⟨_,rfl,?_⟩;(iterate 4 (try (rw [drewN_self wq5];generalize hq_ : World.drewN wq5 _ = wq5;have n0_ : Aside0 (wq5.heap[gb192]? = some (.cells #[.bool a0_0,.int .u64 a0_1,.int .u64 a0_2] 100 (0,0))) := ⟨Z268⟩;have n1_ : Aside0 (wq5.heap[gb193]? = some (.cells #[.bool false,.int .u64 0,.int .u64 0] 100 (0,0))) := ⟨Z267⟩;have n2_ : Aside0 (Below w.heap.size w wq5) := ⟨Z190⟩;clear BK192 BK193 HB hq_;have BK192 := n0_;have BK193 := n1_;have HB := n2_;clear n0_ n1_ n2_)));(try (obtain ⟨hczq6_0,hczq6_1,hczq6_2,hfzq6_0,hfzq6_1,hfzq6_2⟩ := cells3 BK192.out))) | ((with_reducible refine gate_dst (N := 12) rfl ?_);refine bE 12 #[.bool false,.int .u64 0,.int .u64 0] 100 (h := ?_);intro gb200 hg wq7 hbox hb;have n_ := Z45;clear BK192 BK193 HB;obtain ⟨BK192,BK193,HB,BK200,GW200,GE200,NB192_200,NB200_192,NB193_200,NB200_193⟩ := n_;clear hb hbox hg;have hnbq8 := NB200_192.out;have hncq8 := NB192_200.out;have hnbq9 := NB200_193.out;have hncq9 := NB193_200.out;obtain ⟨hczq10_0,hczq10_1,hczq10_2,hfzq10_0,hfzq10_1,hfzq10_2⟩ := cells3 BK200.out) | ((with_reducible refine gate_callee (f := 144) rfl ?_);refine goesL_ (some 45) rfl rfl Try.func144 Z312 rfl #[.agg #[.bool (a0_0 != (decide (a1 < 0))),.int .u64 (IntKind.u64.wrap (t197 + t198)),.int .u64 t199]] rfl Z256 ?_;(with_reducible refine (spec_l3Zero.calls (a0_0 != (decide (a1 < 0))) (IntKind.u64.wrap (t197 + t198)) t199 false _ A8.out).mono ?_);rintro e wq11 ⟨rfl,hb⟩;refine ⟨_,rfl,?_⟩;have n_ := Z61;clear BK192 BK193 BK200 HB;obtain ⟨BK192,BK193,BK200,HB⟩ := n_;(try clear hb);(try clear hb2);(try clear hk);(try clear hi);obtain ⟨hczq12_0,hczq12_1,hczq12_2,hfzq12_0,hfzq12_1,hfzq12_2⟩ := cells3 BK193.out))
     refine bodyPost_ret (results_ct rfl _ _ gb193 100 #[.bool false,.int .u64 0,.int .u64 0] (0,0) _ rfl Z163 Try.underlying100 rfl Z312) rfl ?_
     exact ⟨Z263,Z354⟩
    ·rw [if_neg c82] at H
     have c82b0 : decide ((IntKind.u64.wrap (t197 + t198)) < t197) = false := decide_eq_false c82
     clear c82
     obtain ⟨t203,A950,H⟩ := Option.bind_eq_some_iff.mp H
     have A95 := Aside0.mk A950
     clear A950
     by_cases c96 : t203 = true
     ·subst c96
      rw [if_pos rfl] at H
      simp only [Option.some.injEq,Prod.mk.injEq] at H
      obtain ⟨rfl,rfl,rfl,rfl⟩ := H
      go_enter Try.func143,Try.ntmps143
      go_wp2_with (first | ((with_reducible refine gate_dst (N := 2) rfl ?_);refine bE 2 #[.bool a0_0,.int .u64 a0_1,.int .u64 a0_2] 100 (h := ?_);intro gb192 hg wq1 hbox hb;have n_ := Z100;clear HB;obtain ⟨HB,BK192,GW192,GE192⟩ := n_;clear hb hbox hg) | ((with_reducible refine gate_dst (N := 4) rfl ?_);refine bE 4 #[.bool false,.int .u64 0,.int .u64 0] 100 (h := ?_);intro gb193 hg wq2 hbox hb;have n_ := Z72;clear BK192 HB;obtain ⟨BK192,HB,BK193,GW193,GE193,NB192_193,NB193_192⟩ := n_;clear hb hbox hg;have hnbq3 := NB192_193.out;have hncq3 := NB193_192.out;obtain ⟨hczq4_0,hczq4_1,hczq4_2,hfzq4_0,hfzq4_1,hfzq4_2⟩ := cells3 BK192.out) | ((with_reducible refine gate_callee (f := 158) rfl ?_);refine goesL_ (some 14) rfl rfl Try.func158 Z312 rfl #[.agg #[.bool a0_0,.int .u64 a0_1,.int .u64 a0_2]] rfl Z256 ?_;(with_reducible refine (spec_WideOk.calls a0_0 a0_1 a0_2 true _ A3.out).mono ?_);rintro e wq5 ⟨rfl,hb⟩;refine ⟨_,rfl,?_⟩;have n_ := Z139;clear BK192 BK193 HB;obtain ⟨BK192,BK193,HB⟩ := n_;(try clear hb);(try clear hb2);(try clear hk);(try clear hi)) | ((with_reducible refine gate_callee (f := 160) rfl ?_);refine goesL_ (some 18) rfl rfl Try.func160 Z312 rfl #[.int .i64 a1] rfl Z256 ?_;(with_reducible refine (spec_l3Abs.calls a1 t195 _ A5.out).mono ?_);rintro e w' ⟨rfl,⟨nd,rfl⟩⟩;refine ⟨_,rfl,?_⟩;(iterate 4 (try (rw [drewN_self wq5];generalize hq_ : World.drewN wq5 _ = wq5;have n0_ : Aside0 (wq5.heap[gb192]? = some (.cells #[.bool a0_0,.int .u64 a0_1,.int .u64 a0_2] 100 (0,0))) := ⟨Z268⟩;have n1_ : Aside0 (wq5.heap[gb193]? = some (.cells #[.bool false,.int .u64 0,.int .u64 0] 100 (0,0))) := ⟨Z267⟩;have n2_ : Aside0 (Below w.heap.size w wq5) := ⟨Z190⟩;clear BK192 BK193 HB hq_;have BK192 := n0_;have BK193 := n1_;have HB := n2_;clear n0_ n1_ n2_)));obtain ⟨hczq6_0,hczq6_1,hczq6_2,hfzq6_0,hfzq6_1,hfzq6_2⟩ := cells3 BK192.out) | ((with_reducible refine gate_callee (f := 159) rfl ?_);refine goesL_ (some 23) rfl rfl Try.func159 Z312 rfl #[.int .u64 a0_1,.int .u64 t195] rfl Z256 ?_;(with_reducible refine (spec_l3Product.calls a0_1 t195 t196 t197 _ A6.out).mono ?_);rintro e w' ⟨rfl,⟨nd,rfl⟩⟩;refine ⟨_,rfl,?_⟩;(iterate 4 (try (rw [drewN_self wq5];generalize hq_ : World.drewN wq5 _ = wq5;have n0_ : Aside0 (wq5.heap[gb192]? = some (.cells #[.bool a0_0,.int .u64 a0_1,.int .u64 a0_2] 100 (0,0))) := ⟨Z268⟩;have n1_ : Aside0 (wq5.heap[gb193]? = some (.cells #[.bool false,.int .u64 0,.int .u64 0] 100 (0,0))) := ⟨Z267⟩;have n2_ : Aside0 (Below w.heap.size w wq5) := ⟨Z190⟩;clear BK192 BK193 HB hq_;have BK192 := n0_;have BK193 := n1_;have HB := n2_;clear n0_ n1_ n2_)));(try (obtain ⟨hczq6_0,hczq6_1,hczq6_2,hfzq6_0,hfzq6_1,hfzq6_2⟩ := cells3 BK192.out))) | ((with_reducible refine gate_callee (f := 159) rfl ?_);refine goesL_ (some 30) rfl rfl Try.func159 Z312 rfl #[.int .u64 a0_2,.int .u64 t195] rfl Z256 ?_;(with_reducible refine (spec_l3Product.calls a0_2 t195 t198 t199 _ A7.out).mono ?_);rintro e w' ⟨rfl,⟨nd,rfl⟩⟩;refine ⟨_,rfl,?_⟩;(iterate 4 (try (rw [drewN_self wq5];generalize hq_ : World.drewN wq5 _ = wq5;have n0_ : Aside0 (wq5.heap[gb192]? = some (.cells #[.bool a0_0,.int .u64 a0_1,.int .u64 a0_2] 100 (0,0))) := ⟨Z268⟩;have n1_ : Aside0 (wq5.heap[gb193]? = some (.cells #[.bool false,.int .u64 0,.int .u64 0] 100 (0,0))) := ⟨Z267⟩;have n2_ : Aside0 (Below w.heap.size w wq5) := ⟨Z190⟩;clear BK192 BK193 HB hq_;have BK192 := n0_;have BK193 := n1_;have HB := n2_;clear n0_ n1_ n2_)));(try (obtain ⟨hczq6_0,hczq6_1,hczq6_2,hfzq6_0,hfzq6_1,hfzq6_2⟩ := cells3 BK192.out))) | ((with_reducible refine gate_dst (N := 12) rfl ?_);refine bE 12 #[.bool false,.int .u64 0,.int .u64 0] 100 (h := ?_);intro gb200 hg wq7 hbox hb;have n_ := Z45;clear BK192 BK193 HB;obtain ⟨BK192,BK193,HB,BK200,GW200,GE200,NB192_200,NB200_192,NB193_200,NB200_193⟩ := n_;clear hb hbox hg;have hnbq8 := NB200_192.out;have hncq8 := NB192_200.out;have hnbq9 := NB200_193.out;have hncq9 := NB193_200.out;obtain ⟨hczq10_0,hczq10_1,hczq10_2,hfzq10_0,hfzq10_1,hfzq10_2⟩ := cells3 BK200.out) | ((with_reducible refine gate_callee (f := 144) rfl ?_);refine goesL_ (some 45) rfl rfl Try.func144 Z312 rfl #[.agg #[.bool (a0_0 != (decide (a1 < 0))),.int .u64 (IntKind.u64.wrap (t197 + t198)),.int .u64 t199]] rfl Z256 ?_;(with_reducible refine (spec_l3Zero.calls (a0_0 != (decide (a1 < 0))) (IntKind.u64.wrap (t197 + t198)) t199 false _ A8.out).mono ?_);rintro e wq11 ⟨rfl,hb⟩;refine ⟨_,rfl,?_⟩;have n_ := Z61;clear BK192 BK193 BK200 HB;obtain ⟨BK192,BK193,BK200,HB⟩ := n_;(try clear hb);(try clear hb2);(try clear hk);(try clear hi);obtain ⟨hczq12_0,hczq12_1,hczq12_2,hfzq12_0,hfzq12_1,hfzq12_2⟩ := cells3 BK200.out) | (go_at_call 158;(with_reducible refine (spec_WideOk.calls (a0_0 != (decide (a1 < 0))) (IntKind.u64.wrap (t197 + t198)) t199 true _ A95.out).mono ?_);rintro e wq13 ⟨rfl,hb⟩;have n_ := Z91;clear BK192 BK193 BK200 HB;obtain ⟨BK192,BK193,BK200,HB⟩ := n_;(try clear hb);(try clear hb2);(try clear hk);(try clear hi);obtain ⟨hczq14_0,hczq14_1,hczq14_2,hfzq14_0,hfzq14_1,hfzq14_2⟩ := cells3 BK200.out;obtain ⟨hczq15_0,hczq15_1,hczq15_2,hfzq15_0,hfzq15_1,hfzq15_2⟩ := cells3 BK193.out))
      refine bodyPost_ret (results_ct rfl _ _ gb193 100 #[.bool (a0_0 != (decide (a1 < 0))),.int .u64 (IntKind.u64.wrap (t197 + t198)),.int .u64 t199] (0,0) _ rfl (by refine bP ?_;refine blk_put (cs := #[.bool (a0_0 != (decide (a1 < 0))),.int .u64 (IntKind.u64.wrap (t197 + t198)),.int .u64 0]) ?_ 2 _ rfl;refine bP ?_;refine blk_put (cs := #[.bool (a0_0 != (decide (a1 < 0))),.int .u64 0,.int .u64 0]) ?_ 1 _ rfl;refine bP ?_;refine blk_put (cs := #[.bool false,.int .u64 0,.int .u64 0]) ?_ 0 _ rfl;refine bP ?_;exact BK193.out) Try.underlying100 rfl Z312) rfl ?_
      exact ⟨Z263,Z354⟩
     ·replace c96 := Bool.eq_false_iff.mpr c96
      subst c96
      rw [if_neg Bool.false_ne_true] at H
      simp only [Option.some.injEq,Prod.mk.injEq] at H
      obtain ⟨rfl,rfl,rfl,rfl⟩ := H
      go_enter Try.func143,Try.ntmps143
      go_wp2_with (first | ((with_reducible refine gate_dst (N := 2) rfl ?_);refine bE 2 #[.bool a0_0,.int .u64 a0_1,.int .u64 a0_2] 100 (h := ?_);intro gb192 hg wq1 hbox hb;have n_ := Z100;clear HB;obtain ⟨HB,BK192,GW192,GE192⟩ := n_;clear hb hbox hg) | ((with_reducible refine gate_dst (N := 4) rfl ?_);refine bE 4 #[.bool false,.int .u64 0,.int .u64 0] 100 (h := ?_);intro gb193 hg wq2 hbox hb;have n_ := Z72;clear BK192 HB;obtain ⟨BK192,HB,BK193,GW193,GE193,NB192_193,NB193_192⟩ := n_;clear hb hbox hg;have hnbq3 := NB192_193.out;have hncq3 := NB193_192.out;obtain ⟨hczq4_0,hczq4_1,hczq4_2,hfzq4_0,hfzq4_1,hfzq4_2⟩ := cells3 BK192.out) | ((with_reducible refine gate_callee (f := 158) rfl ?_);refine goesL_ (some 14) rfl rfl Try.func158 Z312 rfl #[.agg #[.bool a0_0,.int .u64 a0_1,.int .u64 a0_2]] rfl Z256 ?_;(with_reducible refine (spec_WideOk.calls a0_0 a0_1 a0_2 true _ A3.out).mono ?_);rintro e wq5 ⟨rfl,hb⟩;refine ⟨_,rfl,?_⟩;have n_ := Z139;clear BK192 BK193 HB;obtain ⟨BK192,BK193,HB⟩ := n_;(try clear hb);(try clear hb2);(try clear hk);(try clear hi)) | ((with_reducible refine gate_callee (f := 160) rfl ?_);refine goesL_ (some 18) rfl rfl Try.func160 Z312 rfl #[.int .i64 a1] rfl Z256 ?_;(with_reducible refine (spec_l3Abs.calls a1 t195 _ A5.out).mono ?_);rintro e w' ⟨rfl,⟨nd,rfl⟩⟩;refine ⟨_,rfl,?_⟩;(iterate 4 (try (rw [drewN_self wq5];generalize hq_ : World.drewN wq5 _ = wq5;have n0_ : Aside0 (wq5.heap[gb192]? = some (.cells #[.bool a0_0,.int .u64 a0_1,.int .u64 a0_2] 100 (0,0))) := ⟨Z268⟩;have n1_ : Aside0 (wq5.heap[gb193]? = some (.cells #[.bool false,.int .u64 0,.int .u64 0] 100 (0,0))) := ⟨Z267⟩;have n2_ : Aside0 (Below w.heap.size w wq5) := ⟨Z190⟩;clear BK192 BK193 HB hq_;have BK192 := n0_;have BK193 := n1_;have HB := n2_;clear n0_ n1_ n2_)));obtain ⟨hczq6_0,hczq6_1,hczq6_2,hfzq6_0,hfzq6_1,hfzq6_2⟩ := cells3 BK192.out) | ((with_reducible refine gate_callee (f := 159) rfl ?_);refine goesL_ (some 23) rfl rfl Try.func159 Z312 rfl #[.int .u64 a0_1,.int .u64 t195] rfl Z256 ?_;(with_reducible refine (spec_l3Product.calls a0_1 t195 t196 t197 _ A6.out).mono ?_);rintro e w' ⟨rfl,⟨nd,rfl⟩⟩;refine ⟨_,rfl,?_⟩;(iterate 4 (try (rw [drewN_self wq5];generalize hq_ : World.drewN wq5 _ = wq5;have n0_ : Aside0 (wq5.heap[gb192]? = some (.cells #[.bool a0_0,.int .u64 a0_1,.int .u64 a0_2] 100 (0,0))) := ⟨Z268⟩;have n1_ : Aside0 (wq5.heap[gb193]? = some (.cells #[.bool false,.int .u64 0,.int .u64 0] 100 (0,0))) := ⟨Z267⟩;have n2_ : Aside0 (Below w.heap.size w wq5) := ⟨Z190⟩;clear BK192 BK193 HB hq_;have BK192 := n0_;have BK193 := n1_;have HB := n2_;clear n0_ n1_ n2_)));(try (obtain ⟨hczq6_0,hczq6_1,hczq6_2,hfzq6_0,hfzq6_1,hfzq6_2⟩ := cells3 BK192.out))) | ((with_reducible refine gate_callee (f := 159) rfl ?_);refine goesL_ (some 30) rfl rfl Try.func159 Z312 rfl #[.int .u64 a0_2,.int .u64 t195] rfl Z256 ?_;(with_reducible refine (spec_l3Product.calls a0_2 t195 t198 t199 _ A7.out).mono ?_);rintro e w' ⟨rfl,⟨nd,rfl⟩⟩;refine ⟨_,rfl,?_⟩;(iterate 4 (try (rw [drewN_self wq5];generalize hq_ : World.drewN wq5 _ = wq5;have n0_ : Aside0 (wq5.heap[gb192]? = some (.cells #[.bool a0_0,.int .u64 a0_1,.int .u64 a0_2] 100 (0,0))) := ⟨Z268⟩;have n1_ : Aside0 (wq5.heap[gb193]? = some (.cells #[.bool false,.int .u64 0,.int .u64 0] 100 (0,0))) := ⟨Z267⟩;have n2_ : Aside0 (Below w.heap.size w wq5) := ⟨Z190⟩;clear BK192 BK193 HB hq_;have BK192 := n0_;have BK193 := n1_;have HB := n2_;clear n0_ n1_ n2_)));(try (obtain ⟨hczq6_0,hczq6_1,hczq6_2,hfzq6_0,hfzq6_1,hfzq6_2⟩ := cells3 BK192.out))) | ((with_reducible refine gate_dst (N := 12) rfl ?_);refine bE 12 #[.bool false,.int .u64 0,.int .u64 0] 100 (h := ?_);intro gb200 hg wq7 hbox hb;have n_ := Z45;clear BK192 BK193 HB;obtain ⟨BK192,BK193,HB,BK200,GW200,GE200,NB192_200,NB200_192,NB193_200,NB200_193⟩ := n_;clear hb hbox hg;have hnbq8 := NB200_192.out;have hncq8 := NB192_200.out;have hnbq9 := NB200_193.out;have hncq9 := NB193_200.out;obtain ⟨hczq10_0,hczq10_1,hczq10_2,hfzq10_0,hfzq10_1,hfzq10_2⟩ := cells3 BK200.out) | ((with_reducible refine gate_callee (f := 144) rfl ?_);refine goesL_ (some 45) rfl rfl Try.func144 Z312 rfl #[.agg #[.bool (a0_0 != (decide (a1 < 0))),.int .u64 (IntKind.u64.wrap (t197 + t198)),.int .u64 t199]] rfl Z256 ?_;(with_reducible refine (spec_l3Zero.calls (a0_0 != (decide (a1 < 0))) (IntKind.u64.wrap (t197 + t198)) t199 false _ A8.out).mono ?_);rintro e wq11 ⟨rfl,hb⟩;refine ⟨_,rfl,?_⟩;have n_ := Z61;clear BK192 BK193 BK200 HB;obtain ⟨BK192,BK193,BK200,HB⟩ := n_;(try clear hb);(try clear hb2);(try clear hk);(try clear hi);obtain ⟨hczq12_0,hczq12_1,hczq12_2,hfzq12_0,hfzq12_1,hfzq12_2⟩ := cells3 BK200.out) | (go_at_call 158;(with_reducible refine (spec_WideOk.calls (a0_0 != (decide (a1 < 0))) (IntKind.u64.wrap (t197 + t198)) t199 false _ A95.out).mono ?_);rintro e wq13 ⟨rfl,hb⟩;have n_ := Z91;clear BK192 BK193 BK200 HB;obtain ⟨BK192,BK193,BK200,HB⟩ := n_;(try clear hb);(try clear hb2);(try clear hk);(try clear hi);obtain ⟨hczq14_0,hczq14_1,hczq14_2,hfzq14_0,hfzq14_1,hfzq14_2⟩ := cells3 BK193.out))
      refine bodyPost_ret (results_ct rfl _ _ gb193 100 #[.bool false,.int .u64 0,.int .u64 0] (0,0) _ rfl Z163 Try.underlying100 rfl Z312) rfl ?_
      exact ⟨Z263,Z354⟩
 ·replace c4 := Bool.eq_false_iff.mpr c4
  subst c4
  rw [if_neg Bool.false_ne_true] at H
  simp only [Option.some.injEq,Prod.mk.injEq] at H
  obtain ⟨rfl,rfl,rfl,rfl⟩ := H
  go_enter Try.func143,Try.ntmps143
  go_wp2_with (first | ((with_reducible refine gate_dst (N := 2) rfl ?_);refine bE 2 #[.bool a0_0,.int .u64 a0_1,.int .u64 a0_2] 100 (h := ?_);intro gb192 hg wq1 hbox hb;have n_ := Z100;clear HB;obtain ⟨HB,BK192,GW192,GE192⟩ := n_;clear hb hbox hg) | ((with_reducible refine gate_dst (N := 4) rfl ?_);refine bE 4 #[.bool false,.int .u64 0,.int .u64 0] 100 (h := ?_);intro gb193 hg wq2 hbox hb;have n_ := Z72;clear BK192 HB;obtain ⟨BK192,HB,BK193,GW193,GE193,NB192_193,NB193_192⟩ := n_;clear hb hbox hg;have hnbq3 := NB192_193.out;have hncq3 := NB193_192.out;obtain ⟨hczq4_0,hczq4_1,hczq4_2,hfzq4_0,hfzq4_1,hfzq4_2⟩ := cells3 BK192.out) | ((with_reducible refine gate_callee (f := 158) rfl ?_);refine goesL_ (some 14) rfl rfl Try.func158 Z312 rfl #[.agg #[.bool a0_0,.int .u64 a0_1,.int .u64 a0_2]] rfl Z256 ?_;(with_reducible refine (spec_WideOk.calls a0_0 a0_1 a0_2 false _ A3.out).mono ?_);rintro e wq5 ⟨rfl,hb⟩;refine ⟨_,rfl,?_⟩;have n_ := Z139;clear BK192 BK193 HB;obtain ⟨BK192,BK193,HB⟩ := n_;(try clear hb);(try clear hb2);(try clear hk);(try clear hi);obtain ⟨hczq6_0,hczq6_1,hczq6_2,hfzq6_0,hfzq6_1,hfzq6_2⟩ := cells3 BK193.out))
  refine bodyPost_ret (results_ct rfl _ _ gb193 100 #[.bool false,.int .u64 0,.int .u64 0] (0,0) _ rfl Z163 Try.underlying100 rfl Z312) rfl ?_
  exact ⟨Z263,Z575⟩

end Go.Proofs.Ytaepeajaefpooaa.QFnExactMayPart
