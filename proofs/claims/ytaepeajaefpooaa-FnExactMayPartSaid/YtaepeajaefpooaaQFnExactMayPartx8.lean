/- The machine side of FnExactMayPart: what each Go function that it reaches comes to. Conditions: none. -/
import Derived.Test.YtaepeajaefpooaaQFnExactMayPartx0
import Derived.Test.YtaepeajaefpooaaQFnExactMayPartx1
import Derived.Test.YtaepeajaefpooaaQFnExactMayPartx2
import Derived.Test.YtaepeajaefpooaaQFnExactMayPartx3
import Derived.Test.YtaepeajaefpooaaQFnExactMayPartx7
namespace Go.Proofs.Ytaepeajaefpooaa.QFnExactMayPart
open Go.RowKit Go.Proofs.YtaepeajaefpooaaW.PrintWords Go.Proofs.YtaepeajaefpooaaW.PrintLast Go.Proofs.YtaepeajaefpooaaW.PrintMore
attribute [local go_sem] max2_int min2_int max_two min_two max_three min_three max_four min_four   -- for this text's walks alone
set_option linter.unusedVariables false
set_option linter.unusedSimpArgs false

/-! ### spec_Improves: function 35 -/
def spec_Improves.f (k : Nat) (a0_0 : Int) (a0_1 : Int) (a0_2 : Int) (a0_3 : Int) (a0_4 : Int) (a0_5 : Int) (a1 : Int) : Option (Bool) := (spec_BothOf.f a0_0 a0_1 a0_2 a0_3 a0_4 a0_5).bind fun bt293 => ((spec_GainOf.f k a0_0 a0_1 a0_2 a0_3 a0_4 a0_5 a1).bind fun bt297 => ((spec_PlainGain.f bt293.1 bt293.2.1 a1).bind fun bt303 => (if bt293.2.2 = true then (if bt297.2.2.2.2 = true then (if bt303.2.2.2.2 = true then ((spec_CompareFrac.f k bt297.1 bt297.2.1 bt297.2.2.1 bt297.2.2.2.1 bt303.1 bt303.2.1 bt303.2.2.1 bt303.2.2.2.1).bind fun bt309 => (if bt309.2 = true then (some (decide (bt309.1 > 0))) else (some false))) else (some false)) else (some false)) else (some false))))
theorem spec_Improves.mono : ∀ a0 a1 a2 a3 a4 a5 a6 k,LeO (spec_Improves.f k a0 a1 a2 a3 a4 a5 a6) (spec_Improves.f (k + 1) a0 a1 a2 a3 a4 a5 a6) := by
 intro a0 a1 a2 a3 a4 a5 a6 k
 unfold spec_Improves.f
 repeat' first
   | (with_reducible exact spec_CompareFrac.mono _ _ _ _ _ _ _ _ _)
   | (with_reducible exact spec_GainOf.mono _ _ _ _ _ _ _ _)
   | (with_reducible exact LeO.refl _)
   | (with_reducible exact LeO.none _)
   | (with_reducible refine LeO.ite ?_ ?_)
   | (with_reducible refine LeO.bind ?_ (fun _ => ?_))
   | exact spec_CompareFrac.mono _ _ _ _ _ _ _ _ _
   | exact spec_GainOf.mono _ _ _ _ _ _ _ _
   | exact LeO.none _
   | refine LeO.ite ?_ ?_
   | refine LeO.bind ?_ (fun _ => ?_)
set_option maxHeartbeats 8000000 in
set_option maxRecDepth 100000 in
theorem spec_Improves.calls (k : Nat) (a0_0 : Int) (a0_1 : Int) (a0_2 : Int) (a0_3 : Int) (a0_4 : Int) (a0_5 : Int) (a1 : Int) (r : Bool) (w : World) (h : spec_Improves.f k a0_0 a0_1 a0_2 a0_3 a0_4 a0_5 a1 = some r) :
  Calls Try.prog 35 #[.agg #[.int .i64 a0_0,.int .i64 a0_1,.int .i64 a0_2,.int .i64 a0_3,.int .i64 a0_4,.int .i64 a0_5],.int .i64 a1] w fun e w' => e = .returned (.bool r) ∧ Below w.heap.size w w' := by
 have hu39 := Try.underlying39
 have hu37 := Try.underlying37
 have hu102 := Try.underlying102
 have HB := Aside0.mk (Below.refl w.heap.size w)
 have H := h
 clear h
 unfold spec_Improves.f at H
 obtain ⟨⟨t293,t294,t295⟩,A30,H⟩ := Option.bind_eq_some_iff.mp H
 try dsimp only at H
 have A3 := Aside0.mk A30
 clear A30
 obtain ⟨⟨t297,t298,t299,t300,t301⟩,A40,H⟩ := Option.bind_eq_some_iff.mp H
 try dsimp only at H
 have A4 := Aside0.mk A40
 clear A40
 obtain ⟨⟨t303,t304,t305,t306,t307⟩,A50,H⟩ := Option.bind_eq_some_iff.mp H
 try dsimp only at H
 have A5 := Aside0.mk A50
 clear A50
 by_cases c6 : t295 = true
 ·subst c6
  rw [if_pos rfl] at H
  by_cases c7 : t301 = true
  ·subst c7
   rw [if_pos rfl] at H
   by_cases c8 : t307 = true
   ·subst c8
    rw [if_pos rfl] at H
    obtain ⟨⟨t309,t310⟩,A90,H⟩ := Option.bind_eq_some_iff.mp H
    try dsimp only at H
    have A9 := Aside0.mk A90
    clear A90
    by_cases c10 : t310 = true
    ·subst c10
     rw [if_pos rfl] at H
     obtain rfl := Option.some.inj H
     go_enter Try.func35,Try.ntmps35
     go_wp2_with (first | ((with_reducible refine gate_dst (N := 2) rfl ?_);refine bE 2 #[.int .i64 a0_0,.int .i64 a0_1,.int .i64 a0_2,.int .i64 a0_3,.int .i64 a0_4,.int .i64 a0_5] 39 (h := ?_);intro gb292 hg wq1 hbox hb;have n_ := Z105;clear HB;obtain ⟨HB,BK292,GW292,GE292⟩ := n_;clear hb hbox hg;obtain ⟨hczq2_0,hczq2_1,hczq2_2,hczq2_3,hczq2_4,hczq2_5,hfzq2_0,hfzq2_1,hfzq2_2,hfzq2_3,hfzq2_4,hfzq2_5⟩ := cells6 BK292.out) | ((with_reducible refine gate_callee (f := 80) rfl ?_);refine goesL_ (some 15) rfl rfl Try.func80 Z312 rfl #[.agg #[.int .i64 a0_0,.int .i64 a0_1,.int .i64 a0_2,.int .i64 a0_3,.int .i64 a0_4,.int .i64 a0_5]] rfl Z256 ?_;(with_reducible refine (spec_BothOf.calls a0_0 a0_1 a0_2 a0_3 a0_4 a0_5 t293 t294 true _ A3.out).mono ?_);rintro e wq3 ⟨rfl,hb⟩;refine ⟨_,rfl,?_⟩;have n_ := Z148;clear BK292 HB;obtain ⟨BK292,HB⟩ := n_;(try clear hb);(try clear hb2);(try clear hk);(try clear hi)) | ((with_reducible refine gate_dst (N := 5) rfl ?_);refine bE 5 #[.int .i64 0,.int .i64 0] 37 (h := ?_);intro gb296 hg wq4 hbox hb;have n_ := Z63;clear BK292 HB;obtain ⟨BK292,HB,BK296,GW296,GE296,NB292_296,NB296_292⟩ := n_;clear hb hbox hg;have hnbq5 := NB296_292.out;have hncq5 := NB292_296.out;obtain ⟨hczq6_0,hczq6_1,hfzq6_0,hfzq6_1⟩ := cells2 BK296.out;obtain ⟨hczq7_0,hczq7_1,hczq7_2,hczq7_3,hczq7_4,hczq7_5,hfzq7_0,hfzq7_1,hfzq7_2,hfzq7_3,hfzq7_4,hfzq7_5⟩ := cells6 BK292.out) | ((with_reducible refine gate_callee (f := 81) rfl ?_);refine goesL_ (some 21) rfl rfl Try.func81 Z312 rfl #[.agg #[.int .i64 a0_0,.int .i64 a0_1,.int .i64 a0_2,.int .i64 a0_3,.int .i64 a0_4,.int .i64 a0_5],.int .i64 a1] rfl Z256 ?_;(with_reducible refine (spec_GainOf.calls k a0_0 a0_1 a0_2 a0_3 a0_4 a0_5 a1 t297 t298 t299 t300 true _ A4.out).mono ?_);rintro e wq8 ⟨rfl,hb⟩;refine ⟨_,rfl,?_⟩;have n_ := Z90;clear BK292 BK296 HB;obtain ⟨BK292,BK296,HB⟩ := n_;(try clear hb);(try clear hb2);(try clear hk);(try clear hi)) | ((with_reducible refine gate_dst (N := 7) rfl ?_);refine bE 7 #[.bool false,.int .u64 0,.int .u64 0,.int .i64 0] 102 (h := ?_);intro gb302 hg wq9 hbox hb;have n_ := Z35;clear BK292 BK296 HB;obtain ⟨BK292,BK296,HB,BK302,GW302,GE302,NB292_302,NB302_292,NB296_302,NB302_296⟩ := n_;clear hb hbox hg;have hnbq10 := NB302_292.out;have hncq10 := NB292_302.out;have hnbq11 := NB302_296.out;have hncq11 := NB296_302.out;obtain ⟨hczq12_0,hczq12_1,hczq12_2,hczq12_3,hfzq12_0,hfzq12_1,hfzq12_2,hfzq12_3⟩ := cells4 BK302.out;obtain ⟨hczq13_0,hczq13_1,hfzq13_0,hfzq13_1⟩ := cells2 BK296.out) | ((with_reducible refine gate_callee (f := 82) rfl ?_);refine goesL_ (some 27) rfl rfl Try.func82 Z312 rfl #[.agg #[.int .i64 t293,.int .i64 t294],.int .i64 a1] rfl Z256 ?_;(with_reducible refine (spec_PlainGain.calls t293 t294 a1 t303 t304 t305 t306 true _ A5.out).mono ?_);rintro e wq14 ⟨rfl,hb⟩;refine ⟨_,rfl,?_⟩;have n_ := Z53;clear BK292 BK296 BK302 HB;obtain ⟨BK292,BK296,BK302,HB⟩ := n_;(try clear hb);(try clear hb2);(try clear hk);(try clear hi)) | ((with_reducible refine gate_dst (N := 9) rfl ?_);refine bE 9 #[.bool false,.int .u64 0,.int .u64 0,.int .i64 0] 102 (h := ?_);intro gb308 hg wq15 hbox hb;have n_ := Z18;clear BK292 BK296 BK302 HB;obtain ⟨BK292,BK296,BK302,HB,BK308,GW308,GE308,NB292_308,NB308_292,NB296_308,NB308_296,NB302_308,NB308_302⟩ := n_;clear hb hbox hg;have hnbq16 := NB308_292.out;have hncq16 := NB292_308.out;have hnbq17 := NB308_296.out;have hncq17 := NB296_308.out;have hnbq18 := NB308_302.out;have hncq18 := NB302_308.out;obtain ⟨hczq19_0,hczq19_1,hczq19_2,hczq19_3,hfzq19_0,hfzq19_1,hfzq19_2,hfzq19_3⟩ := cells4 BK308.out;obtain ⟨hczq20_0,hczq20_1,hczq20_2,hczq20_3,hfzq20_0,hfzq20_1,hfzq20_2,hfzq20_3⟩ := cells4 BK302.out) | ((with_reducible refine gate_callee (f := 83) rfl ?_);refine goesL_ (some 43) rfl rfl Try.func83 Z312 rfl #[.agg #[.bool t297,.int .u64 t298,.int .u64 t299,.int .i64 t300],.agg #[.bool t303,.int .u64 t304,.int .u64 t305,.int .i64 t306]] rfl Z256 ?_;(with_reducible refine (spec_CompareFrac.calls k t297 t298 t299 t300 t303 t304 t305 t306 t309 true _ A9.out).mono ?_);rintro e wq21 ⟨rfl,hb⟩;refine ⟨_,rfl,?_⟩;have n_ := Z37;clear BK292 BK296 BK302 BK308 HB;obtain ⟨BK292,BK296,BK302,BK308,HB⟩ := n_;(try clear hb);(try clear hb2);(try clear hk);(try clear hi)))
     go_ret
     exact ⟨Z263,Z330⟩
    ·replace c10 := Bool.eq_false_iff.mpr c10
     subst c10
     rw [if_neg Bool.false_ne_true] at H
     obtain rfl := Option.some.inj H
     go_enter Try.func35,Try.ntmps35
     go_wp2_with (first | ((with_reducible refine gate_dst (N := 2) rfl ?_);refine bE 2 #[.int .i64 a0_0,.int .i64 a0_1,.int .i64 a0_2,.int .i64 a0_3,.int .i64 a0_4,.int .i64 a0_5] 39 (h := ?_);intro gb292 hg wq1 hbox hb;have n_ := Z105;clear HB;obtain ⟨HB,BK292,GW292,GE292⟩ := n_;clear hb hbox hg;obtain ⟨hczq2_0,hczq2_1,hczq2_2,hczq2_3,hczq2_4,hczq2_5,hfzq2_0,hfzq2_1,hfzq2_2,hfzq2_3,hfzq2_4,hfzq2_5⟩ := cells6 BK292.out) | ((with_reducible refine gate_callee (f := 80) rfl ?_);refine goesL_ (some 15) rfl rfl Try.func80 Z312 rfl #[.agg #[.int .i64 a0_0,.int .i64 a0_1,.int .i64 a0_2,.int .i64 a0_3,.int .i64 a0_4,.int .i64 a0_5]] rfl Z256 ?_;(with_reducible refine (spec_BothOf.calls a0_0 a0_1 a0_2 a0_3 a0_4 a0_5 t293 t294 true _ A3.out).mono ?_);rintro e wq3 ⟨rfl,hb⟩;refine ⟨_,rfl,?_⟩;have n_ := Z148;clear BK292 HB;obtain ⟨BK292,HB⟩ := n_;(try clear hb);(try clear hb2);(try clear hk);(try clear hi)) | ((with_reducible refine gate_dst (N := 5) rfl ?_);refine bE 5 #[.int .i64 0,.int .i64 0] 37 (h := ?_);intro gb296 hg wq4 hbox hb;have n_ := Z63;clear BK292 HB;obtain ⟨BK292,HB,BK296,GW296,GE296,NB292_296,NB296_292⟩ := n_;clear hb hbox hg;have hnbq5 := NB296_292.out;have hncq5 := NB292_296.out;obtain ⟨hczq6_0,hczq6_1,hfzq6_0,hfzq6_1⟩ := cells2 BK296.out;obtain ⟨hczq7_0,hczq7_1,hczq7_2,hczq7_3,hczq7_4,hczq7_5,hfzq7_0,hfzq7_1,hfzq7_2,hfzq7_3,hfzq7_4,hfzq7_5⟩ := cells6 BK292.out) | ((with_reducible refine gate_callee (f := 81) rfl ?_);refine goesL_ (some 21) rfl rfl Try.func81 Z312 rfl #[.agg #[.int .i64 a0_0,.int .i64 a0_1,.int .i64 a0_2,.int .i64 a0_3,.int .i64 a0_4,.int .i64 a0_5],.int .i64 a1] rfl Z256 ?_;(with_reducible refine (spec_GainOf.calls k a0_0 a0_1 a0_2 a0_3 a0_4 a0_5 a1 t297 t298 t299 t300 true _ A4.out).mono ?_);rintro e wq8 ⟨rfl,hb⟩;refine ⟨_,rfl,?_⟩;have n_ := Z90;clear BK292 BK296 HB;obtain ⟨BK292,BK296,HB⟩ := n_;(try clear hb);(try clear hb2);(try clear hk);(try clear hi)) | ((with_reducible refine gate_dst (N := 7) rfl ?_);refine bE 7 #[.bool false,.int .u64 0,.int .u64 0,.int .i64 0] 102 (h := ?_);intro gb302 hg wq9 hbox hb;have n_ := Z35;clear BK292 BK296 HB;obtain ⟨BK292,BK296,HB,BK302,GW302,GE302,NB292_302,NB302_292,NB296_302,NB302_296⟩ := n_;clear hb hbox hg;have hnbq10 := NB302_292.out;have hncq10 := NB292_302.out;have hnbq11 := NB302_296.out;have hncq11 := NB296_302.out;obtain ⟨hczq12_0,hczq12_1,hczq12_2,hczq12_3,hfzq12_0,hfzq12_1,hfzq12_2,hfzq12_3⟩ := cells4 BK302.out;obtain ⟨hczq13_0,hczq13_1,hfzq13_0,hfzq13_1⟩ := cells2 BK296.out) | ((with_reducible refine gate_callee (f := 82) rfl ?_);refine goesL_ (some 27) rfl rfl Try.func82 Z312 rfl #[.agg #[.int .i64 t293,.int .i64 t294],.int .i64 a1] rfl Z256 ?_;(with_reducible refine (spec_PlainGain.calls t293 t294 a1 t303 t304 t305 t306 true _ A5.out).mono ?_);rintro e wq14 ⟨rfl,hb⟩;refine ⟨_,rfl,?_⟩;have n_ := Z53;clear BK292 BK296 BK302 HB;obtain ⟨BK292,BK296,BK302,HB⟩ := n_;(try clear hb);(try clear hb2);(try clear hk);(try clear hi)) | ((with_reducible refine gate_dst (N := 9) rfl ?_);refine bE 9 #[.bool false,.int .u64 0,.int .u64 0,.int .i64 0] 102 (h := ?_);intro gb308 hg wq15 hbox hb;have n_ := Z18;clear BK292 BK296 BK302 HB;obtain ⟨BK292,BK296,BK302,HB,BK308,GW308,GE308,NB292_308,NB308_292,NB296_308,NB308_296,NB302_308,NB308_302⟩ := n_;clear hb hbox hg;have hnbq16 := NB308_292.out;have hncq16 := NB292_308.out;have hnbq17 := NB308_296.out;have hncq17 := NB296_308.out;have hnbq18 := NB308_302.out;have hncq18 := NB302_308.out;obtain ⟨hczq19_0,hczq19_1,hczq19_2,hczq19_3,hfzq19_0,hfzq19_1,hfzq19_2,hfzq19_3⟩ := cells4 BK308.out;obtain ⟨hczq20_0,hczq20_1,hczq20_2,hczq20_3,hfzq20_0,hfzq20_1,hfzq20_2,hfzq20_3⟩ := cells4 BK302.out) | ((with_reducible refine gate_callee (f := 83) rfl ?_);refine goesL_ (some 43) rfl rfl Try.func83 Z312 rfl #[.agg #[.bool t297,.int .u64 t298,.int .u64 t299,.int .i64 t300],.agg #[.bool t303,.int .u64 t304,.int .u64 t305,.int .i64 t306]] rfl Z256 ?_;(with_reducible refine (spec_CompareFrac.calls k t297 t298 t299 t300 t303 t304 t305 t306 t309 false _ A9.out).mono ?_);rintro e wq21 ⟨rfl,hb⟩;refine ⟨_,rfl,?_⟩;have n_ := Z37;clear BK292 BK296 BK302 BK308 HB;obtain ⟨BK292,BK296,BK302,BK308,HB⟩ := n_;(try clear hb);(try clear hb2);(try clear hk);(try clear hi)))
     go_ret
     exact ⟨Z263,Z330⟩
   ·replace c8 := Bool.eq_false_iff.mpr c8
    subst c8
    rw [if_neg Bool.false_ne_true] at H
    obtain rfl := Option.some.inj H
    go_enter Try.func35,Try.ntmps35
    go_wp2_with (first | ((with_reducible refine gate_dst (N := 2) rfl ?_);refine bE 2 #[.int .i64 a0_0,.int .i64 a0_1,.int .i64 a0_2,.int .i64 a0_3,.int .i64 a0_4,.int .i64 a0_5] 39 (h := ?_);intro gb292 hg wq1 hbox hb;have n_ := Z105;clear HB;obtain ⟨HB,BK292,GW292,GE292⟩ := n_;clear hb hbox hg;obtain ⟨hczq2_0,hczq2_1,hczq2_2,hczq2_3,hczq2_4,hczq2_5,hfzq2_0,hfzq2_1,hfzq2_2,hfzq2_3,hfzq2_4,hfzq2_5⟩ := cells6 BK292.out) | ((with_reducible refine gate_callee (f := 80) rfl ?_);refine goesL_ (some 15) rfl rfl Try.func80 Z312 rfl #[.agg #[.int .i64 a0_0,.int .i64 a0_1,.int .i64 a0_2,.int .i64 a0_3,.int .i64 a0_4,.int .i64 a0_5]] rfl Z256 ?_;(with_reducible refine (spec_BothOf.calls a0_0 a0_1 a0_2 a0_3 a0_4 a0_5 t293 t294 true _ A3.out).mono ?_);rintro e wq3 ⟨rfl,hb⟩;refine ⟨_,rfl,?_⟩;have n_ := Z148;clear BK292 HB;obtain ⟨BK292,HB⟩ := n_;(try clear hb);(try clear hb2);(try clear hk);(try clear hi)) | ((with_reducible refine gate_dst (N := 5) rfl ?_);refine bE 5 #[.int .i64 0,.int .i64 0] 37 (h := ?_);intro gb296 hg wq4 hbox hb;have n_ := Z63;clear BK292 HB;obtain ⟨BK292,HB,BK296,GW296,GE296,NB292_296,NB296_292⟩ := n_;clear hb hbox hg;have hnbq5 := NB296_292.out;have hncq5 := NB292_296.out;obtain ⟨hczq6_0,hczq6_1,hfzq6_0,hfzq6_1⟩ := cells2 BK296.out;obtain ⟨hczq7_0,hczq7_1,hczq7_2,hczq7_3,hczq7_4,hczq7_5,hfzq7_0,hfzq7_1,hfzq7_2,hfzq7_3,hfzq7_4,hfzq7_5⟩ := cells6 BK292.out) | ((with_reducible refine gate_callee (f := 81) rfl ?_);refine goesL_ (some 21) rfl rfl Try.func81 Z312 rfl #[.agg #[.int .i64 a0_0,.int .i64 a0_1,.int .i64 a0_2,.int .i64 a0_3,.int .i64 a0_4,.int .i64 a0_5],.int .i64 a1] rfl Z256 ?_;(with_reducible refine (spec_GainOf.calls k a0_0 a0_1 a0_2 a0_3 a0_4 a0_5 a1 t297 t298 t299 t300 true _ A4.out).mono ?_);rintro e wq8 ⟨rfl,hb⟩;refine ⟨_,rfl,?_⟩;have n_ := Z90;clear BK292 BK296 HB;obtain ⟨BK292,BK296,HB⟩ := n_;(try clear hb);(try clear hb2);(try clear hk);(try clear hi)) | ((with_reducible refine gate_dst (N := 7) rfl ?_);refine bE 7 #[.bool false,.int .u64 0,.int .u64 0,.int .i64 0] 102 (h := ?_);intro gb302 hg wq9 hbox hb;have n_ := Z35;clear BK292 BK296 HB;obtain ⟨BK292,BK296,HB,BK302,GW302,GE302,NB292_302,NB302_292,NB296_302,NB302_296⟩ := n_;clear hb hbox hg;have hnbq10 := NB302_292.out;have hncq10 := NB292_302.out;have hnbq11 := NB302_296.out;have hncq11 := NB296_302.out;obtain ⟨hczq12_0,hczq12_1,hczq12_2,hczq12_3,hfzq12_0,hfzq12_1,hfzq12_2,hfzq12_3⟩ := cells4 BK302.out;obtain ⟨hczq13_0,hczq13_1,hfzq13_0,hfzq13_1⟩ := cells2 BK296.out) | ((with_reducible refine gate_callee (f := 82) rfl ?_);refine goesL_ (some 27) rfl rfl Try.func82 Z312 rfl #[.agg #[.int .i64 t293,.int .i64 t294],.int .i64 a1] rfl Z256 ?_;(with_reducible refine (spec_PlainGain.calls t293 t294 a1 t303 t304 t305 t306 false _ A5.out).mono ?_);rintro e wq14 ⟨rfl,hb⟩;refine ⟨_,rfl,?_⟩;have n_ := Z53;clear BK292 BK296 BK302 HB;obtain ⟨BK292,BK296,BK302,HB⟩ := n_;(try clear hb);(try clear hb2);(try clear hk);(try clear hi)) | ((with_reducible refine gate_dst (N := 9) rfl ?_);refine bE 9 #[.bool false,.int .u64 0,.int .u64 0,.int .i64 0] 102 (h := ?_);intro gb308 hg wq15 hbox hb;have n_ := Z18;clear BK292 BK296 BK302 HB;obtain ⟨BK292,BK296,BK302,HB,BK308,GW308,GE308,NB292_308,NB308_292,NB296_308,NB308_296,NB302_308,NB308_302⟩ := n_;clear hb hbox hg;have hnbq16 := NB308_292.out;have hncq16 := NB292_308.out;have hnbq17 := NB308_296.out;have hncq17 := NB296_308.out;have hnbq18 := NB308_302.out;have hncq18 := NB302_308.out;obtain ⟨hczq19_0,hczq19_1,hczq19_2,hczq19_3,hfzq19_0,hfzq19_1,hfzq19_2,hfzq19_3⟩ := cells4 BK308.out))
    go_ret
    exact ⟨Z263,Z330⟩
  ·replace c7 := Bool.eq_false_iff.mpr c7
   subst c7
   rw [if_neg Bool.false_ne_true] at H
   obtain rfl := Option.some.inj H
   go_enter Try.func35,Try.ntmps35
   go_wp2_with (first | ((with_reducible refine gate_dst (N := 2) rfl ?_);refine bE 2 #[.int .i64 a0_0,.int .i64 a0_1,.int .i64 a0_2,.int .i64 a0_3,.int .i64 a0_4,.int .i64 a0_5] 39 (h := ?_);intro gb292 hg wq1 hbox hb;have n_ := Z105;clear HB;obtain ⟨HB,BK292,GW292,GE292⟩ := n_;clear hb hbox hg;obtain ⟨hczq2_0,hczq2_1,hczq2_2,hczq2_3,hczq2_4,hczq2_5,hfzq2_0,hfzq2_1,hfzq2_2,hfzq2_3,hfzq2_4,hfzq2_5⟩ := cells6 BK292.out) | ((with_reducible refine gate_callee (f := 80) rfl ?_);refine goesL_ (some 15) rfl rfl Try.func80 Z312 rfl #[.agg #[.int .i64 a0_0,.int .i64 a0_1,.int .i64 a0_2,.int .i64 a0_3,.int .i64 a0_4,.int .i64 a0_5]] rfl Z256 ?_;(with_reducible refine (spec_BothOf.calls a0_0 a0_1 a0_2 a0_3 a0_4 a0_5 t293 t294 true _ A3.out).mono ?_);rintro e wq3 ⟨rfl,hb⟩;refine ⟨_,rfl,?_⟩;have n_ := Z148;clear BK292 HB;obtain ⟨BK292,HB⟩ := n_;(try clear hb);(try clear hb2);(try clear hk);(try clear hi)) | ((with_reducible refine gate_dst (N := 5) rfl ?_);refine bE 5 #[.int .i64 0,.int .i64 0] 37 (h := ?_);intro gb296 hg wq4 hbox hb;have n_ := Z63;clear BK292 HB;obtain ⟨BK292,HB,BK296,GW296,GE296,NB292_296,NB296_292⟩ := n_;clear hb hbox hg;have hnbq5 := NB296_292.out;have hncq5 := NB292_296.out;obtain ⟨hczq6_0,hczq6_1,hfzq6_0,hfzq6_1⟩ := cells2 BK296.out;obtain ⟨hczq7_0,hczq7_1,hczq7_2,hczq7_3,hczq7_4,hczq7_5,hfzq7_0,hfzq7_1,hfzq7_2,hfzq7_3,hfzq7_4,hfzq7_5⟩ := cells6 BK292.out) | ((with_reducible refine gate_callee (f := 81) rfl ?_);refine goesL_ (some 21) rfl rfl Try.func81 Z312 rfl #[.agg #[.int .i64 a0_0,.int .i64 a0_1,.int .i64 a0_2,.int .i64 a0_3,.int .i64 a0_4,.int .i64 a0_5],.int .i64 a1] rfl Z256 ?_;(with_reducible refine (spec_GainOf.calls k a0_0 a0_1 a0_2 a0_3 a0_4 a0_5 a1 t297 t298 t299 t300 false _ A4.out).mono ?_);rintro e wq8 ⟨rfl,hb⟩;refine ⟨_,rfl,?_⟩;have n_ := Z90;clear BK292 BK296 HB;obtain ⟨BK292,BK296,HB⟩ := n_;(try clear hb);(try clear hb2);(try clear hk);(try clear hi)) | ((with_reducible refine gate_dst (N := 7) rfl ?_);refine bE 7 #[.bool false,.int .u64 0,.int .u64 0,.int .i64 0] 102 (h := ?_);intro gb302 hg wq9 hbox hb;have n_ := Z35;clear BK292 BK296 HB;obtain ⟨BK292,BK296,HB,BK302,GW302,GE302,NB292_302,NB302_292,NB296_302,NB302_296⟩ := n_;clear hb hbox hg;have hnbq10 := NB302_292.out;have hncq10 := NB292_302.out;have hnbq11 := NB302_296.out;have hncq11 := NB296_302.out;obtain ⟨hczq12_0,hczq12_1,hczq12_2,hczq12_3,hfzq12_0,hfzq12_1,hfzq12_2,hfzq12_3⟩ := cells4 BK302.out;obtain ⟨hczq13_0,hczq13_1,hfzq13_0,hfzq13_1⟩ := cells2 BK296.out) | ((with_reducible refine gate_callee (f := 82) rfl ?_);refine goesL_ (some 27) rfl rfl Try.func82 Z312 rfl #[.agg #[.int .i64 t293,.int .i64 t294],.int .i64 a1] rfl Z256 ?_;(with_reducible refine (spec_PlainGain.calls t293 t294 a1 t303 t304 t305 t306 t307 _ A5.out).mono ?_);rintro e wq14 ⟨rfl,hb⟩;refine ⟨_,rfl,?_⟩;have n_ := Z53;clear BK292 BK296 BK302 HB;obtain ⟨BK292,BK296,BK302,HB⟩ := n_;(try clear hb);(try clear hb2);(try clear hk);(try clear hi)) | ((with_reducible refine gate_dst (N := 9) rfl ?_);refine bE 9 #[.bool false,.int .u64 0,.int .u64 0,.int .i64 0] 102 (h := ?_);intro gb308 hg wq15 hbox hb;have n_ := Z18;clear BK292 BK296 BK302 HB;obtain ⟨BK292,BK296,BK302,HB,BK308,GW308,GE308,NB292_308,NB308_292,NB296_308,NB308_296,NB302_308,NB308_302⟩ := n_;clear hb hbox hg;have hnbq16 := NB308_292.out;have hncq16 := NB292_308.out;have hnbq17 := NB308_296.out;have hncq17 := NB296_308.out;have hnbq18 := NB308_302.out;have hncq18 := NB302_308.out;obtain ⟨hczq19_0,hczq19_1,hczq19_2,hczq19_3,hfzq19_0,hfzq19_1,hfzq19_2,hfzq19_3⟩ := cells4 BK308.out))
   go_ret
   exact ⟨Z263,Z330⟩
 ·replace c6 := Bool.eq_false_iff.mpr c6
  subst c6
  rw [if_neg Bool.false_ne_true] at H
  obtain rfl := Option.some.inj H
  go_enter Try.func35,Try.ntmps35
  go_wp2_with (first | ((with_reducible refine gate_dst (N := 2) rfl ?_);refine bE 2 #[.int .i64 a0_0,.int .i64 a0_1,.int .i64 a0_2,.int .i64 a0_3,.int .i64 a0_4,.int .i64 a0_5] 39 (h := ?_);intro gb292 hg wq1 hbox hb;have n_ := Z105;clear HB;obtain ⟨HB,BK292,GW292,GE292⟩ := n_;clear hb hbox hg;obtain ⟨hczq2_0,hczq2_1,hczq2_2,hczq2_3,hczq2_4,hczq2_5,hfzq2_0,hfzq2_1,hfzq2_2,hfzq2_3,hfzq2_4,hfzq2_5⟩ := cells6 BK292.out) | ((with_reducible refine gate_callee (f := 80) rfl ?_);refine goesL_ (some 15) rfl rfl Try.func80 Z312 rfl #[.agg #[.int .i64 a0_0,.int .i64 a0_1,.int .i64 a0_2,.int .i64 a0_3,.int .i64 a0_4,.int .i64 a0_5]] rfl Z256 ?_;(with_reducible refine (spec_BothOf.calls a0_0 a0_1 a0_2 a0_3 a0_4 a0_5 t293 t294 false _ A3.out).mono ?_);rintro e wq3 ⟨rfl,hb⟩;refine ⟨_,rfl,?_⟩;have n_ := Z148;clear BK292 HB;obtain ⟨BK292,HB⟩ := n_;(try clear hb);(try clear hb2);(try clear hk);(try clear hi)) | ((with_reducible refine gate_dst (N := 5) rfl ?_);refine bE 5 #[.int .i64 0,.int .i64 0] 37 (h := ?_);intro gb296 hg wq4 hbox hb;have n_ := Z63;clear BK292 HB;obtain ⟨BK292,HB,BK296,GW296,GE296,NB292_296,NB296_292⟩ := n_;clear hb hbox hg;have hnbq5 := NB296_292.out;have hncq5 := NB292_296.out;obtain ⟨hczq6_0,hczq6_1,hfzq6_0,hfzq6_1⟩ := cells2 BK296.out;obtain ⟨hczq7_0,hczq7_1,hczq7_2,hczq7_3,hczq7_4,hczq7_5,hfzq7_0,hfzq7_1,hfzq7_2,hfzq7_3,hfzq7_4,hfzq7_5⟩ := cells6 BK292.out) | ((with_reducible refine gate_callee (f := 81) rfl ?_);refine goesL_ (some 21) rfl rfl Try.func81 Z312 rfl #[.agg #[.int .i64 a0_0,.int .i64 a0_1,.int .i64 a0_2,.int .i64 a0_3,.int .i64 a0_4,.int .i64 a0_5],.int .i64 a1] rfl Z256 ?_;(with_reducible refine (spec_GainOf.calls k a0_0 a0_1 a0_2 a0_3 a0_4 a0_5 a1 t297 t298 t299 t300 t301 _ A4.out).mono ?_);rintro e wq8 ⟨rfl,hb⟩;refine ⟨_,rfl,?_⟩;have n_ := Z90;clear BK292 BK296 HB;obtain ⟨BK292,BK296,HB⟩ := n_;(try clear hb);(try clear hb2);(try clear hk);(try clear hi)) | ((with_reducible refine gate_dst (N := 7) rfl ?_);refine bE 7 #[.bool false,.int .u64 0,.int .u64 0,.int .i64 0] 102 (h := ?_);intro gb302 hg wq9 hbox hb;have n_ := Z35;clear BK292 BK296 HB;obtain ⟨BK292,BK296,HB,BK302,GW302,GE302,NB292_302,NB302_292,NB296_302,NB302_296⟩ := n_;clear hb hbox hg;have hnbq10 := NB302_292.out;have hncq10 := NB292_302.out;have hnbq11 := NB302_296.out;have hncq11 := NB296_302.out;obtain ⟨hczq12_0,hczq12_1,hczq12_2,hczq12_3,hfzq12_0,hfzq12_1,hfzq12_2,hfzq12_3⟩ := cells4 BK302.out;obtain ⟨hczq13_0,hczq13_1,hfzq13_0,hfzq13_1⟩ := cells2 BK296.out) | ((with_reducible refine gate_callee (f := 82) rfl ?_);refine goesL_ (some 27) rfl rfl Try.func82 Z312 rfl #[.agg #[.int .i64 t293,.int .i64 t294],.int .i64 a1] rfl Z256 ?_;(with_reducible refine (spec_PlainGain.calls t293 t294 a1 t303 t304 t305 t306 t307 _ A5.out).mono ?_);rintro e wq14 ⟨rfl,hb⟩;refine ⟨_,rfl,?_⟩;have n_ := Z53;clear BK292 BK296 BK302 HB;obtain ⟨BK292,BK296,BK302,HB⟩ := n_;(try clear hb);(try clear hb2);(try clear hk);(try clear hi)) | ((with_reducible refine gate_dst (N := 9) rfl ?_);refine bE 9 #[.bool false,.int .u64 0,.int .u64 0,.int .i64 0] 102 (h := ?_);intro gb308 hg wq15 hbox hb;have n_ := Z18;clear BK292 BK296 BK302 HB;obtain ⟨BK292,BK296,BK302,HB,BK308,GW308,GE308,NB292_308,NB308_292,NB296_308,NB308_296,NB302_308,NB308_302⟩ := n_;clear hb hbox hg;have hnbq16 := NB308_292.out;have hncq16 := NB292_308.out;have hnbq17 := NB308_296.out;have hncq17 := NB296_308.out;have hnbq18 := NB308_302.out;have hncq18 := NB302_308.out;obtain ⟨hczq19_0,hczq19_1,hczq19_2,hczq19_3,hfzq19_0,hfzq19_1,hfzq19_2,hfzq19_3⟩ := cells4 BK308.out))
  go_ret
  exact ⟨Z263,Z330⟩

/-! ### spec_MayPart: function 7 -/
def spec_MayPart.f (k : Nat) (a0_0 : Int) (a0_1 : Int) (a0_2 : Int) (a0_3 : Int) (a0_4 : Int) (a0_5 : Int) (a0_6 : Int) (l0_7 : List Int) (a1_0 : Int) (a1_1 : Int) (a2_0 : Int) (a2_1 : Int) (a2_2 : Int) (a2_3 : Int) (a2_4 : Int) (a2_5 : Int) : Option (Bool) := (spec_SideValues.f k a0_0 a0_1 a0_2 a0_3 a0_4 a0_5 a0_6 l0_7 a1_0 a1_1 a2_0 a2_1 a2_2 a2_3 a2_4 a2_5).bind fun bt314 => ((spec_ConfigOk.f k a0_0 a0_1 a0_2 a0_3 a0_4 a0_5 a0_6 l0_7).bind fun t317 => (if t317 = true then (if bt314.2.2 = true then (if a2_2 ≥ a0_4 then (if a2_4 ≥ a0_4 then ((spec_SignFor.f a0_0 a0_1 a0_2 a0_3 a0_4 a0_5 a0_6 l0_7 a2_0).bind fun t318 => ((spec_Agrees.f t318 bt314.1 bt314.2.1).bind fun t319 => (if t319 = true then ((spec_Improves.f k a2_0 a2_1 a2_2 a2_3 a2_4 a2_5 a0_3).bind fun t320 => (some t320)) else (some false)))) else (some false)) else (some false)) else (some false)) else (some false)))
theorem spec_MayPart.mono : ∀ a0 a1 a2 a3 a4 a5 a6 a7 a8 a9 a10 a11 a12 a13 a14 a15 k,LeO (spec_MayPart.f k a0 a1 a2 a3 a4 a5 a6 a7 a8 a9 a10 a11 a12 a13 a14 a15) (spec_MayPart.f (k + 1) a0 a1 a2 a3 a4 a5 a6 a7 a8 a9 a10 a11 a12 a13 a14 a15) := by
 intro a0 a1 a2 a3 a4 a5 a6 a7 a8 a9 a10 a11 a12 a13 a14 a15 k
 unfold spec_MayPart.f
 repeat' first
   | (with_reducible exact spec_ConfigOk.mono _ _ _ _ _ _ _ _ _)
   | (with_reducible exact spec_Improves.mono _ _ _ _ _ _ _ _)
   | (with_reducible exact spec_SideValues.mono _ _ _ _ _ _ _ _ _ _ _ _ _ _ _ _ _)
   | (with_reducible exact LeO.refl _)
   | (with_reducible exact LeO.none _)
   | (with_reducible refine LeO.ite ?_ ?_)
   | (with_reducible refine LeO.bind ?_ (fun _ => ?_))
   | exact spec_ConfigOk.mono _ _ _ _ _ _ _ _ _
   | exact spec_Improves.mono _ _ _ _ _ _ _ _
   | exact spec_SideValues.mono _ _ _ _ _ _ _ _ _ _ _ _ _ _ _ _ _
   | exact LeO.none _
   | refine LeO.ite ?_ ?_
   | refine LeO.bind ?_ (fun _ => ?_)
set_option maxHeartbeats 8000000 in
set_option maxRecDepth 100000 in
theorem spec_MayPart.calls (k : Nat) (a0_0 : Int) (a0_1 : Int) (a0_2 : Int) (a0_3 : Int) (a0_4 : Int) (a0_5 : Int) (a0_6 : Int) (A0_7 : Option Addr) (c0_7 : Nat) (l0_7 : List Int) (a1_0 : Int) (a1_1 : Int) (a2_0 : Int) (a2_1 : Int) (a2_2 : Int) (a2_3 : Int) (a2_4 : Int) (a2_5 : Int) (r : Bool) (w : World) (hr0_7 : Kd.C (Kd.int .i64) w A0_7 l0_7.length l0_7) (hc0_7 : l0_7.length ≤ c0_7) (h : spec_MayPart.f k a0_0 a0_1 a0_2 a0_3 a0_4 a0_5 a0_6 l0_7 a1_0 a1_1 a2_0 a2_1 a2_2 a2_3 a2_4 a2_5 = some r) :
  Calls Try.prog 7 #[.agg #[.int .i64 a0_0,.int .i64 a0_1,.int .i64 a0_2,.int .i64 a0_3,.int .i64 a0_4,.int .i64 a0_5,.int .i64 a0_6,.slice A0_7 l0_7.length c0_7],.agg #[.int .i64 a1_0,.int .i64 a1_1],.agg #[.int .i64 a2_0,.int .i64 a2_1,.int .i64 a2_2,.int .i64 a2_3,.int .i64 a2_4,.int .i64 a2_5]] w fun e w' => e = .returned (.bool r) ∧ Below w.heap.size w w' := by
 have hu33 := Try.underlying33
 have hu35 := Try.underlying35
 have hu39 := Try.underlying39
 have HR0_7 := Aside0.mk hr0_7
 have HC0_7 := Aside0.mk hc0_7
 clear hr0_7 hc0_7
 have HB := Aside0.mk (Below.refl w.heap.size w)
 have H := h
 clear h
 unfold spec_MayPart.f at H
 obtain ⟨⟨t314,t315,t316⟩,A40,H⟩ := Option.bind_eq_some_iff.mp H
 try dsimp only at H
 have A4 := Aside0.mk A40
 clear A40
 obtain ⟨t317,A50,H⟩ := Option.bind_eq_some_iff.mp H
 have A5 := Aside0.mk A50
 clear A50
 by_cases c6 : t317 = true
 ·subst c6
  rw [if_pos rfl] at H
  by_cases c7 : t316 = true
  ·subst c7
   rw [if_pos rfl] at H
   by_cases c8 : a2_2 ≥ a0_4
   ·rw [if_pos c8] at H
    have c8b0 : decide (a0_4 ≤ a2_2) = true := decide_eq_true c8
    clear c8
    by_cases c9 : a2_4 ≥ a0_4
    ·rw [if_pos c9] at H
     have c9b0 : decide (a0_4 ≤ a2_4) = true := decide_eq_true c9
     clear c9
     obtain ⟨t318,A100,H⟩ := Option.bind_eq_some_iff.mp H
     have A10 := Aside0.mk A100
     clear A100
     obtain ⟨t319,A110,H⟩ := Option.bind_eq_some_iff.mp H
     have A11 := Aside0.mk A110
     clear A110
     by_cases c12 : t319 = true
     ·subst c12
      rw [if_pos rfl] at H
      obtain ⟨t320,A130,H⟩ := Option.bind_eq_some_iff.mp H
      have A13 := Aside0.mk A130
      clear A130
      obtain rfl := Option.some.inj H
      go_enter Try.func7,Try.ntmps7
      go_wp2_with (first | ((with_reducible refine gate_dst (N := 3) rfl ?_);refine bE 3 #[.int .i64 a0_0,.int .i64 a0_1,.int .i64 a0_2,.int .i64 a0_3,.int .i64 a0_4,.int .i64 a0_5,.int .i64 a0_6,.slice A0_7 l0_7.length c0_7] 33 (h := ?_);intro gb311 hg wq1 hbox hb;have n_ := Z102;clear HB;obtain ⟨HB,BK311,GW311,GE311⟩ := n_;clear hb hbox hg) | ((with_reducible refine gate_dst (N := 4) rfl ?_);refine bE 4 #[.int .i64 a1_0,.int .i64 a1_1] 35 (h := ?_);intro gb312 hg wq2 hbox hb;have n_ := Z57;clear BK311 HB;obtain ⟨BK311,HB,BK312,GW312,GE312,NB311_312,NB312_311⟩ := n_;clear hb hbox hg) | ((with_reducible refine gate_dst (N := 5) rfl ?_);refine bE 5 #[.int .i64 a2_0,.int .i64 a2_1,.int .i64 a2_2,.int .i64 a2_3,.int .i64 a2_4,.int .i64 a2_5] 39 (h := ?_);intro gb313 hg wq3 hbox hb;have n_ := Z27;clear BK311 BK312 HB;obtain ⟨BK311,BK312,HB,BK313,GW313,GE313,NB311_313,NB313_311,NB312_313,NB313_312⟩ := n_;clear hb hbox hg;have hnbq4 := NB311_312.out;have hncq4 := NB312_311.out;have hnbq5 := NB311_313.out;have hncq5 := NB313_311.out;obtain ⟨hczq6_0,hczq6_1,hczq6_2,hczq6_3,hczq6_4,hczq6_5,hczq6_6,hczq6_7,hfzq6_0,hfzq6_1,hfzq6_2,hfzq6_3,hfzq6_4,hfzq6_5,hfzq6_6,hfzq6_7⟩ := cells8 BK311.out;have hnbq7 := NB312_313.out;have hncq7 := NB313_312.out;obtain ⟨hczq8_0,hczq8_1,hfzq8_0,hfzq8_1⟩ := cells2 BK312.out;obtain ⟨hczq9_0,hczq9_1,hczq9_2,hczq9_3,hczq9_4,hczq9_5,hfzq9_0,hfzq9_1,hfzq9_2,hfzq9_3,hfzq9_4,hfzq9_5⟩ := cells6 BK313.out) | ((with_reducible refine gate_callee (f := 31) rfl ?_);refine goesL_ (some 14) rfl rfl Try.func31 Z312 rfl #[.agg #[.int .i64 a0_0,.int .i64 a0_1,.int .i64 a0_2,.int .i64 a0_3,.int .i64 a0_4,.int .i64 a0_5,.int .i64 a0_6,.slice A0_7 l0_7.length c0_7],.agg #[.int .i64 a1_0,.int .i64 a1_1],.agg #[.int .i64 a2_0,.int .i64 a2_1,.int .i64 a2_2,.int .i64 a2_3,.int .i64 a2_4,.int .i64 a2_5]] rfl Z256 ?_;(with_reducible refine (spec_SideValues.calls k a0_0 a0_1 a0_2 a0_3 a0_4 a0_5 a0_6 _ _ l0_7 a1_0 a1_1 a2_0 a2_1 a2_2 a2_3 a2_4 a2_5 t314 t315 true _ ?side1 ?side2 A4.out).mono ?_);(case side1 => exact Z224);(case side2 => exact Z311);rintro e wq10 ⟨rfl,hb⟩;refine ⟨_,rfl,?_⟩;have n_ := Z86;clear BK311 BK312 BK313 HB;obtain ⟨BK311,BK312,BK313,HB⟩ := n_;(try clear hb);(try clear hb2);(try clear hk);(try clear hi);obtain ⟨hczq11_0,hczq11_1,hczq11_2,hczq11_3,hczq11_4,hczq11_5,hczq11_6,hczq11_7,hfzq11_0,hfzq11_1,hfzq11_2,hfzq11_3,hfzq11_4,hfzq11_5,hfzq11_6,hfzq11_7⟩ := cells8 BK311.out) | ((with_reducible refine gate_callee (f := 32) rfl ?_);refine goesL_ (some 19) rfl rfl Try.func32 Z312 rfl #[.agg #[.int .i64 a0_0,.int .i64 a0_1,.int .i64 a0_2,.int .i64 a0_3,.int .i64 a0_4,.int .i64 a0_5,.int .i64 a0_6,.slice A0_7 l0_7.length c0_7]] rfl Z256 ?_;(with_reducible refine (spec_ConfigOk.calls k a0_0 a0_1 a0_2 a0_3 a0_4 a0_5 a0_6 _ _ l0_7 true _ ?side1 ?side2 A5.out).mono ?_);(case side1 => exact Z224);(case side2 => exact Z311);rintro e wq12 ⟨rfl,hb⟩;refine ⟨_,rfl,?_⟩;have n_ := Z86;clear BK311 BK312 BK313 HB;obtain ⟨BK311,BK312,BK313,HB⟩ := n_;(try clear hb);(try clear hb2);(try clear hk);(try clear hi);obtain ⟨hczq13_0,hczq13_1,hczq13_2,hczq13_3,hczq13_4,hczq13_5,hfzq13_0,hfzq13_1,hfzq13_2,hfzq13_3,hfzq13_4,hfzq13_5⟩ := cells6 BK313.out;obtain ⟨hczq14_0,hczq14_1,hczq14_2,hczq14_3,hczq14_4,hczq14_5,hczq14_6,hczq14_7,hfzq14_0,hfzq14_1,hfzq14_2,hfzq14_3,hfzq14_4,hfzq14_5,hfzq14_6,hfzq14_7⟩ := cells8 BK311.out) | (go_at_call 34;(with_reducible refine (spec_SignFor.calls a0_0 a0_1 a0_2 a0_3 a0_4 a0_5 a0_6 _ _ l0_7 a2_0 t318 _ ?side1 ?side2 A10.out).mono ?_);(case side1 => exact Z224);(case side2 => exact Z311);rintro e wq15 ⟨rfl,hb⟩;have n_ := Z86;clear BK311 BK312 BK313 HB;obtain ⟨BK311,BK312,BK313,HB⟩ := n_;(try clear hb);(try clear hb2);(try clear hk);(try clear hi)) | (go_at_call 33;(with_reducible refine (spec_Agrees.calls t318 t314 t315 true _ A11.out).mono ?_);rintro e w' ⟨rfl,⟨nd,rfl⟩⟩;obtain ⟨hczq16_0,hczq16_1,hczq16_2,hczq16_3,hczq16_4,hczq16_5,hfzq16_0,hfzq16_1,hfzq16_2,hfzq16_3,hfzq16_4,hfzq16_5⟩ := cells6 BK313.out;obtain ⟨hczq17_0,hczq17_1,hczq17_2,hczq17_3,hczq17_4,hczq17_5,hczq17_6,hczq17_7,hfzq17_0,hfzq17_1,hfzq17_2,hfzq17_3,hfzq17_4,hfzq17_5,hfzq17_6,hfzq17_7⟩ := cells8 BK311.out) | (go_at_call 35;(with_reducible refine (spec_Improves.calls k a2_0 a2_1 a2_2 a2_3 a2_4 a2_5 a0_3 t320 _ A13.out).mono ?_);rintro e wq18 ⟨rfl,hb⟩;have n_ := Z86;clear BK311 BK312 BK313 HB;obtain ⟨BK311,BK312,BK313,HB⟩ := n_;(try clear hb);(try clear hb2);(try clear hk);(try clear hi)))
      go_ret
      exact ⟨Z263,Z356⟩
     ·replace c12 := Bool.eq_false_iff.mpr c12
      subst c12
      rw [if_neg Bool.false_ne_true] at H
      obtain rfl := Option.some.inj H
      go_enter Try.func7,Try.ntmps7
      go_wp2_with (first | ((with_reducible refine gate_dst (N := 3) rfl ?_);refine bE 3 #[.int .i64 a0_0,.int .i64 a0_1,.int .i64 a0_2,.int .i64 a0_3,.int .i64 a0_4,.int .i64 a0_5,.int .i64 a0_6,.slice A0_7 l0_7.length c0_7] 33 (h := ?_);intro gb311 hg wq1 hbox hb;have n_ := Z102;clear HB;obtain ⟨HB,BK311,GW311,GE311⟩ := n_;clear hb hbox hg) | ((with_reducible refine gate_dst (N := 4) rfl ?_);refine bE 4 #[.int .i64 a1_0,.int .i64 a1_1] 35 (h := ?_);intro gb312 hg wq2 hbox hb;have n_ := Z57;clear BK311 HB;obtain ⟨BK311,HB,BK312,GW312,GE312,NB311_312,NB312_311⟩ := n_;clear hb hbox hg) | ((with_reducible refine gate_dst (N := 5) rfl ?_);refine bE 5 #[.int .i64 a2_0,.int .i64 a2_1,.int .i64 a2_2,.int .i64 a2_3,.int .i64 a2_4,.int .i64 a2_5] 39 (h := ?_);intro gb313 hg wq3 hbox hb;have n_ := Z27;clear BK311 BK312 HB;obtain ⟨BK311,BK312,HB,BK313,GW313,GE313,NB311_313,NB313_311,NB312_313,NB313_312⟩ := n_;clear hb hbox hg;have hnbq4 := NB311_312.out;have hncq4 := NB312_311.out;have hnbq5 := NB311_313.out;have hncq5 := NB313_311.out;obtain ⟨hczq6_0,hczq6_1,hczq6_2,hczq6_3,hczq6_4,hczq6_5,hczq6_6,hczq6_7,hfzq6_0,hfzq6_1,hfzq6_2,hfzq6_3,hfzq6_4,hfzq6_5,hfzq6_6,hfzq6_7⟩ := cells8 BK311.out;have hnbq7 := NB312_313.out;have hncq7 := NB313_312.out;obtain ⟨hczq8_0,hczq8_1,hfzq8_0,hfzq8_1⟩ := cells2 BK312.out;obtain ⟨hczq9_0,hczq9_1,hczq9_2,hczq9_3,hczq9_4,hczq9_5,hfzq9_0,hfzq9_1,hfzq9_2,hfzq9_3,hfzq9_4,hfzq9_5⟩ := cells6 BK313.out) | ((with_reducible refine gate_callee (f := 31) rfl ?_);refine goesL_ (some 14) rfl rfl Try.func31 Z312 rfl #[.agg #[.int .i64 a0_0,.int .i64 a0_1,.int .i64 a0_2,.int .i64 a0_3,.int .i64 a0_4,.int .i64 a0_5,.int .i64 a0_6,.slice A0_7 l0_7.length c0_7],.agg #[.int .i64 a1_0,.int .i64 a1_1],.agg #[.int .i64 a2_0,.int .i64 a2_1,.int .i64 a2_2,.int .i64 a2_3,.int .i64 a2_4,.int .i64 a2_5]] rfl Z256 ?_;(with_reducible refine (spec_SideValues.calls k a0_0 a0_1 a0_2 a0_3 a0_4 a0_5 a0_6 _ _ l0_7 a1_0 a1_1 a2_0 a2_1 a2_2 a2_3 a2_4 a2_5 t314 t315 true _ ?side1 ?side2 A4.out).mono ?_);(case side1 => exact Z224);(case side2 => exact Z311);rintro e wq10 ⟨rfl,hb⟩;refine ⟨_,rfl,?_⟩;have n_ := Z86;clear BK311 BK312 BK313 HB;obtain ⟨BK311,BK312,BK313,HB⟩ := n_;(try clear hb);(try clear hb2);(try clear hk);(try clear hi);obtain ⟨hczq11_0,hczq11_1,hczq11_2,hczq11_3,hczq11_4,hczq11_5,hczq11_6,hczq11_7,hfzq11_0,hfzq11_1,hfzq11_2,hfzq11_3,hfzq11_4,hfzq11_5,hfzq11_6,hfzq11_7⟩ := cells8 BK311.out) | ((with_reducible refine gate_callee (f := 32) rfl ?_);refine goesL_ (some 19) rfl rfl Try.func32 Z312 rfl #[.agg #[.int .i64 a0_0,.int .i64 a0_1,.int .i64 a0_2,.int .i64 a0_3,.int .i64 a0_4,.int .i64 a0_5,.int .i64 a0_6,.slice A0_7 l0_7.length c0_7]] rfl Z256 ?_;(with_reducible refine (spec_ConfigOk.calls k a0_0 a0_1 a0_2 a0_3 a0_4 a0_5 a0_6 _ _ l0_7 true _ ?side1 ?side2 A5.out).mono ?_);(case side1 => exact Z224);(case side2 => exact Z311);rintro e wq12 ⟨rfl,hb⟩;refine ⟨_,rfl,?_⟩;have n_ := Z86;clear BK311 BK312 BK313 HB;obtain ⟨BK311,BK312,BK313,HB⟩ := n_;(try clear hb);(try clear hb2);(try clear hk);(try clear hi);obtain ⟨hczq13_0,hczq13_1,hczq13_2,hczq13_3,hczq13_4,hczq13_5,hfzq13_0,hfzq13_1,hfzq13_2,hfzq13_3,hfzq13_4,hfzq13_5⟩ := cells6 BK313.out;obtain ⟨hczq14_0,hczq14_1,hczq14_2,hczq14_3,hczq14_4,hczq14_5,hczq14_6,hczq14_7,hfzq14_0,hfzq14_1,hfzq14_2,hfzq14_3,hfzq14_4,hfzq14_5,hfzq14_6,hfzq14_7⟩ := cells8 BK311.out) | (go_at_call 34;(with_reducible refine (spec_SignFor.calls a0_0 a0_1 a0_2 a0_3 a0_4 a0_5 a0_6 _ _ l0_7 a2_0 t318 _ ?side1 ?side2 A10.out).mono ?_);(case side1 => exact Z224);(case side2 => exact Z311);rintro e wq15 ⟨rfl,hb⟩;have n_ := Z86;clear BK311 BK312 BK313 HB;obtain ⟨BK311,BK312,BK313,HB⟩ := n_;(try clear hb);(try clear hb2);(try clear hk);(try clear hi)) | (go_at_call 33;(with_reducible refine (spec_Agrees.calls t318 t314 t315 false _ A11.out).mono ?_);rintro e w' ⟨rfl,⟨nd,rfl⟩⟩))
      go_ret
      exact ⟨Z263,Z356⟩
    ·rw [if_neg c9] at H
     have c9b0 : decide (a0_4 ≤ a2_4) = false := decide_eq_false c9
     clear c9
     obtain rfl := Option.some.inj H
     go_enter Try.func7,Try.ntmps7
     go_wp2_with (first | ((with_reducible refine gate_dst (N := 3) rfl ?_);refine bE 3 #[.int .i64 a0_0,.int .i64 a0_1,.int .i64 a0_2,.int .i64 a0_3,.int .i64 a0_4,.int .i64 a0_5,.int .i64 a0_6,.slice A0_7 l0_7.length c0_7] 33 (h := ?_);intro gb311 hg wq1 hbox hb;have n_ := Z102;clear HB;obtain ⟨HB,BK311,GW311,GE311⟩ := n_;clear hb hbox hg) | ((with_reducible refine gate_dst (N := 4) rfl ?_);refine bE 4 #[.int .i64 a1_0,.int .i64 a1_1] 35 (h := ?_);intro gb312 hg wq2 hbox hb;have n_ := Z57;clear BK311 HB;obtain ⟨BK311,HB,BK312,GW312,GE312,NB311_312,NB312_311⟩ := n_;clear hb hbox hg) | ((with_reducible refine gate_dst (N := 5) rfl ?_);refine bE 5 #[.int .i64 a2_0,.int .i64 a2_1,.int .i64 a2_2,.int .i64 a2_3,.int .i64 a2_4,.int .i64 a2_5] 39 (h := ?_);intro gb313 hg wq3 hbox hb;have n_ := Z27;clear BK311 BK312 HB;obtain ⟨BK311,BK312,HB,BK313,GW313,GE313,NB311_313,NB313_311,NB312_313,NB313_312⟩ := n_;clear hb hbox hg;have hnbq4 := NB311_312.out;have hncq4 := NB312_311.out;have hnbq5 := NB311_313.out;have hncq5 := NB313_311.out;obtain ⟨hczq6_0,hczq6_1,hczq6_2,hczq6_3,hczq6_4,hczq6_5,hczq6_6,hczq6_7,hfzq6_0,hfzq6_1,hfzq6_2,hfzq6_3,hfzq6_4,hfzq6_5,hfzq6_6,hfzq6_7⟩ := cells8 BK311.out;have hnbq7 := NB312_313.out;have hncq7 := NB313_312.out;obtain ⟨hczq8_0,hczq8_1,hfzq8_0,hfzq8_1⟩ := cells2 BK312.out;obtain ⟨hczq9_0,hczq9_1,hczq9_2,hczq9_3,hczq9_4,hczq9_5,hfzq9_0,hfzq9_1,hfzq9_2,hfzq9_3,hfzq9_4,hfzq9_5⟩ := cells6 BK313.out) | ((with_reducible refine gate_callee (f := 31) rfl ?_);refine goesL_ (some 14) rfl rfl Try.func31 Z312 rfl #[.agg #[.int .i64 a0_0,.int .i64 a0_1,.int .i64 a0_2,.int .i64 a0_3,.int .i64 a0_4,.int .i64 a0_5,.int .i64 a0_6,.slice A0_7 l0_7.length c0_7],.agg #[.int .i64 a1_0,.int .i64 a1_1],.agg #[.int .i64 a2_0,.int .i64 a2_1,.int .i64 a2_2,.int .i64 a2_3,.int .i64 a2_4,.int .i64 a2_5]] rfl Z256 ?_;(with_reducible refine (spec_SideValues.calls k a0_0 a0_1 a0_2 a0_3 a0_4 a0_5 a0_6 _ _ l0_7 a1_0 a1_1 a2_0 a2_1 a2_2 a2_3 a2_4 a2_5 t314 t315 true _ ?side1 ?side2 A4.out).mono ?_);(case side1 => exact Z224);(case side2 => exact Z311);rintro e wq10 ⟨rfl,hb⟩;refine ⟨_,rfl,?_⟩;have n_ := Z86;clear BK311 BK312 BK313 HB;obtain ⟨BK311,BK312,BK313,HB⟩ := n_;(try clear hb);(try clear hb2);(try clear hk);(try clear hi);obtain ⟨hczq11_0,hczq11_1,hczq11_2,hczq11_3,hczq11_4,hczq11_5,hczq11_6,hczq11_7,hfzq11_0,hfzq11_1,hfzq11_2,hfzq11_3,hfzq11_4,hfzq11_5,hfzq11_6,hfzq11_7⟩ := cells8 BK311.out) | ((with_reducible refine gate_callee (f := 32) rfl ?_);refine goesL_ (some 19) rfl rfl Try.func32 Z312 rfl #[.agg #[.int .i64 a0_0,.int .i64 a0_1,.int .i64 a0_2,.int .i64 a0_3,.int .i64 a0_4,.int .i64 a0_5,.int .i64 a0_6,.slice A0_7 l0_7.length c0_7]] rfl Z256 ?_;(with_reducible refine (spec_ConfigOk.calls k a0_0 a0_1 a0_2 a0_3 a0_4 a0_5 a0_6 _ _ l0_7 true _ ?side1 ?side2 A5.out).mono ?_);(case side1 => exact Z224);(case side2 => exact Z311);rintro e wq12 ⟨rfl,hb⟩;refine ⟨_,rfl,?_⟩;have n_ := Z86;clear BK311 BK312 BK313 HB;obtain ⟨BK311,BK312,BK313,HB⟩ := n_;(try clear hb);(try clear hb2);(try clear hk);(try clear hi);obtain ⟨hczq13_0,hczq13_1,hczq13_2,hczq13_3,hczq13_4,hczq13_5,hfzq13_0,hfzq13_1,hfzq13_2,hfzq13_3,hfzq13_4,hfzq13_5⟩ := cells6 BK313.out;obtain ⟨hczq14_0,hczq14_1,hczq14_2,hczq14_3,hczq14_4,hczq14_5,hczq14_6,hczq14_7,hfzq14_0,hfzq14_1,hfzq14_2,hfzq14_3,hfzq14_4,hfzq14_5,hfzq14_6,hfzq14_7⟩ := cells8 BK311.out))
     go_ret
     exact ⟨Z263,Z356⟩
   ·rw [if_neg c8] at H
    have c8b0 : decide (a0_4 ≤ a2_2) = false := decide_eq_false c8
    clear c8
    obtain rfl := Option.some.inj H
    go_enter Try.func7,Try.ntmps7
    go_wp2_with (first | ((with_reducible refine gate_dst (N := 3) rfl ?_);refine bE 3 #[.int .i64 a0_0,.int .i64 a0_1,.int .i64 a0_2,.int .i64 a0_3,.int .i64 a0_4,.int .i64 a0_5,.int .i64 a0_6,.slice A0_7 l0_7.length c0_7] 33 (h := ?_);intro gb311 hg wq1 hbox hb;have n_ := Z102;clear HB;obtain ⟨HB,BK311,GW311,GE311⟩ := n_;clear hb hbox hg) | ((with_reducible refine gate_dst (N := 4) rfl ?_);refine bE 4 #[.int .i64 a1_0,.int .i64 a1_1] 35 (h := ?_);intro gb312 hg wq2 hbox hb;have n_ := Z57;clear BK311 HB;obtain ⟨BK311,HB,BK312,GW312,GE312,NB311_312,NB312_311⟩ := n_;clear hb hbox hg) | ((with_reducible refine gate_dst (N := 5) rfl ?_);refine bE 5 #[.int .i64 a2_0,.int .i64 a2_1,.int .i64 a2_2,.int .i64 a2_3,.int .i64 a2_4,.int .i64 a2_5] 39 (h := ?_);intro gb313 hg wq3 hbox hb;have n_ := Z27;clear BK311 BK312 HB;obtain ⟨BK311,BK312,HB,BK313,GW313,GE313,NB311_313,NB313_311,NB312_313,NB313_312⟩ := n_;clear hb hbox hg;have hnbq4 := NB311_312.out;have hncq4 := NB312_311.out;have hnbq5 := NB311_313.out;have hncq5 := NB313_311.out;obtain ⟨hczq6_0,hczq6_1,hczq6_2,hczq6_3,hczq6_4,hczq6_5,hczq6_6,hczq6_7,hfzq6_0,hfzq6_1,hfzq6_2,hfzq6_3,hfzq6_4,hfzq6_5,hfzq6_6,hfzq6_7⟩ := cells8 BK311.out;have hnbq7 := NB312_313.out;have hncq7 := NB313_312.out;obtain ⟨hczq8_0,hczq8_1,hfzq8_0,hfzq8_1⟩ := cells2 BK312.out;obtain ⟨hczq9_0,hczq9_1,hczq9_2,hczq9_3,hczq9_4,hczq9_5,hfzq9_0,hfzq9_1,hfzq9_2,hfzq9_3,hfzq9_4,hfzq9_5⟩ := cells6 BK313.out) | ((with_reducible refine gate_callee (f := 31) rfl ?_);refine goesL_ (some 14) rfl rfl Try.func31 Z312 rfl #[.agg #[.int .i64 a0_0,.int .i64 a0_1,.int .i64 a0_2,.int .i64 a0_3,.int .i64 a0_4,.int .i64 a0_5,.int .i64 a0_6,.slice A0_7 l0_7.length c0_7],.agg #[.int .i64 a1_0,.int .i64 a1_1],.agg #[.int .i64 a2_0,.int .i64 a2_1,.int .i64 a2_2,.int .i64 a2_3,.int .i64 a2_4,.int .i64 a2_5]] rfl Z256 ?_;(with_reducible refine (spec_SideValues.calls k a0_0 a0_1 a0_2 a0_3 a0_4 a0_5 a0_6 _ _ l0_7 a1_0 a1_1 a2_0 a2_1 a2_2 a2_3 a2_4 a2_5 t314 t315 true _ ?side1 ?side2 A4.out).mono ?_);(case side1 => exact Z224);(case side2 => exact Z311);rintro e wq10 ⟨rfl,hb⟩;refine ⟨_,rfl,?_⟩;have n_ := Z86;clear BK311 BK312 BK313 HB;obtain ⟨BK311,BK312,BK313,HB⟩ := n_;(try clear hb);(try clear hb2);(try clear hk);(try clear hi);obtain ⟨hczq11_0,hczq11_1,hczq11_2,hczq11_3,hczq11_4,hczq11_5,hczq11_6,hczq11_7,hfzq11_0,hfzq11_1,hfzq11_2,hfzq11_3,hfzq11_4,hfzq11_5,hfzq11_6,hfzq11_7⟩ := cells8 BK311.out) | ((with_reducible refine gate_callee (f := 32) rfl ?_);refine goesL_ (some 19) rfl rfl Try.func32 Z312 rfl #[.agg #[.int .i64 a0_0,.int .i64 a0_1,.int .i64 a0_2,.int .i64 a0_3,.int .i64 a0_4,.int .i64 a0_5,.int .i64 a0_6,.slice A0_7 l0_7.length c0_7]] rfl Z256 ?_;(with_reducible refine (spec_ConfigOk.calls k a0_0 a0_1 a0_2 a0_3 a0_4 a0_5 a0_6 _ _ l0_7 true _ ?side1 ?side2 A5.out).mono ?_);(case side1 => exact Z224);(case side2 => exact Z311);rintro e wq12 ⟨rfl,hb⟩;refine ⟨_,rfl,?_⟩;have n_ := Z86;clear BK311 BK312 BK313 HB;obtain ⟨BK311,BK312,BK313,HB⟩ := n_;(try clear hb);(try clear hb2);(try clear hk);(try clear hi);obtain ⟨hczq13_0,hczq13_1,hczq13_2,hczq13_3,hczq13_4,hczq13_5,hfzq13_0,hfzq13_1,hfzq13_2,hfzq13_3,hfzq13_4,hfzq13_5⟩ := cells6 BK313.out;obtain ⟨hczq14_0,hczq14_1,hczq14_2,hczq14_3,hczq14_4,hczq14_5,hczq14_6,hczq14_7,hfzq14_0,hfzq14_1,hfzq14_2,hfzq14_3,hfzq14_4,hfzq14_5,hfzq14_6,hfzq14_7⟩ := cells8 BK311.out))
    go_ret
    exact ⟨Z263,Z356⟩
  ·replace c7 := Bool.eq_false_iff.mpr c7
   subst c7
   rw [if_neg Bool.false_ne_true] at H
   obtain rfl := Option.some.inj H
   go_enter Try.func7,Try.ntmps7
   go_wp2_with (first | ((with_reducible refine gate_dst (N := 3) rfl ?_);refine bE 3 #[.int .i64 a0_0,.int .i64 a0_1,.int .i64 a0_2,.int .i64 a0_3,.int .i64 a0_4,.int .i64 a0_5,.int .i64 a0_6,.slice A0_7 l0_7.length c0_7] 33 (h := ?_);intro gb311 hg wq1 hbox hb;have n_ := Z102;clear HB;obtain ⟨HB,BK311,GW311,GE311⟩ := n_;clear hb hbox hg) | ((with_reducible refine gate_dst (N := 4) rfl ?_);refine bE 4 #[.int .i64 a1_0,.int .i64 a1_1] 35 (h := ?_);intro gb312 hg wq2 hbox hb;have n_ := Z57;clear BK311 HB;obtain ⟨BK311,HB,BK312,GW312,GE312,NB311_312,NB312_311⟩ := n_;clear hb hbox hg) | ((with_reducible refine gate_dst (N := 5) rfl ?_);refine bE 5 #[.int .i64 a2_0,.int .i64 a2_1,.int .i64 a2_2,.int .i64 a2_3,.int .i64 a2_4,.int .i64 a2_5] 39 (h := ?_);intro gb313 hg wq3 hbox hb;have n_ := Z27;clear BK311 BK312 HB;obtain ⟨BK311,BK312,HB,BK313,GW313,GE313,NB311_313,NB313_311,NB312_313,NB313_312⟩ := n_;clear hb hbox hg;have hnbq4 := NB311_312.out;have hncq4 := NB312_311.out;have hnbq5 := NB311_313.out;have hncq5 := NB313_311.out;obtain ⟨hczq6_0,hczq6_1,hczq6_2,hczq6_3,hczq6_4,hczq6_5,hczq6_6,hczq6_7,hfzq6_0,hfzq6_1,hfzq6_2,hfzq6_3,hfzq6_4,hfzq6_5,hfzq6_6,hfzq6_7⟩ := cells8 BK311.out;have hnbq7 := NB312_313.out;have hncq7 := NB313_312.out;obtain ⟨hczq8_0,hczq8_1,hfzq8_0,hfzq8_1⟩ := cells2 BK312.out;obtain ⟨hczq9_0,hczq9_1,hczq9_2,hczq9_3,hczq9_4,hczq9_5,hfzq9_0,hfzq9_1,hfzq9_2,hfzq9_3,hfzq9_4,hfzq9_5⟩ := cells6 BK313.out) | ((with_reducible refine gate_callee (f := 31) rfl ?_);refine goesL_ (some 14) rfl rfl Try.func31 Z312 rfl #[.agg #[.int .i64 a0_0,.int .i64 a0_1,.int .i64 a0_2,.int .i64 a0_3,.int .i64 a0_4,.int .i64 a0_5,.int .i64 a0_6,.slice A0_7 l0_7.length c0_7],.agg #[.int .i64 a1_0,.int .i64 a1_1],.agg #[.int .i64 a2_0,.int .i64 a2_1,.int .i64 a2_2,.int .i64 a2_3,.int .i64 a2_4,.int .i64 a2_5]] rfl Z256 ?_;(with_reducible refine (spec_SideValues.calls k a0_0 a0_1 a0_2 a0_3 a0_4 a0_5 a0_6 _ _ l0_7 a1_0 a1_1 a2_0 a2_1 a2_2 a2_3 a2_4 a2_5 t314 t315 false _ ?side1 ?side2 A4.out).mono ?_);(case side1 => exact Z224);(case side2 => exact Z311);rintro e wq10 ⟨rfl,hb⟩;refine ⟨_,rfl,?_⟩;have n_ := Z86;clear BK311 BK312 BK313 HB;obtain ⟨BK311,BK312,BK313,HB⟩ := n_;(try clear hb);(try clear hb2);(try clear hk);(try clear hi);obtain ⟨hczq11_0,hczq11_1,hczq11_2,hczq11_3,hczq11_4,hczq11_5,hczq11_6,hczq11_7,hfzq11_0,hfzq11_1,hfzq11_2,hfzq11_3,hfzq11_4,hfzq11_5,hfzq11_6,hfzq11_7⟩ := cells8 BK311.out) | ((with_reducible refine gate_callee (f := 32) rfl ?_);refine goesL_ (some 19) rfl rfl Try.func32 Z312 rfl #[.agg #[.int .i64 a0_0,.int .i64 a0_1,.int .i64 a0_2,.int .i64 a0_3,.int .i64 a0_4,.int .i64 a0_5,.int .i64 a0_6,.slice A0_7 l0_7.length c0_7]] rfl Z256 ?_;(with_reducible refine (spec_ConfigOk.calls k a0_0 a0_1 a0_2 a0_3 a0_4 a0_5 a0_6 _ _ l0_7 true _ ?side1 ?side2 A5.out).mono ?_);(case side1 => exact Z224);(case side2 => exact Z311);rintro e wq12 ⟨rfl,hb⟩;refine ⟨_,rfl,?_⟩;have n_ := Z86;clear BK311 BK312 BK313 HB;obtain ⟨BK311,BK312,BK313,HB⟩ := n_;(try clear hb);(try clear hb2);(try clear hk);(try clear hi)))
   go_ret
   exact ⟨Z263,Z356⟩
 ·replace c6 := Bool.eq_false_iff.mpr c6
  subst c6
  rw [if_neg Bool.false_ne_true] at H
  obtain rfl := Option.some.inj H
  go_enter Try.func7,Try.ntmps7
  go_wp2_with (first | ((with_reducible refine gate_dst (N := 3) rfl ?_);refine bE 3 #[.int .i64 a0_0,.int .i64 a0_1,.int .i64 a0_2,.int .i64 a0_3,.int .i64 a0_4,.int .i64 a0_5,.int .i64 a0_6,.slice A0_7 l0_7.length c0_7] 33 (h := ?_);intro gb311 hg wq1 hbox hb;have n_ := Z102;clear HB;obtain ⟨HB,BK311,GW311,GE311⟩ := n_;clear hb hbox hg) | ((with_reducible refine gate_dst (N := 4) rfl ?_);refine bE 4 #[.int .i64 a1_0,.int .i64 a1_1] 35 (h := ?_);intro gb312 hg wq2 hbox hb;have n_ := Z57;clear BK311 HB;obtain ⟨BK311,HB,BK312,GW312,GE312,NB311_312,NB312_311⟩ := n_;clear hb hbox hg) | ((with_reducible refine gate_dst (N := 5) rfl ?_);refine bE 5 #[.int .i64 a2_0,.int .i64 a2_1,.int .i64 a2_2,.int .i64 a2_3,.int .i64 a2_4,.int .i64 a2_5] 39 (h := ?_);intro gb313 hg wq3 hbox hb;have n_ := Z27;clear BK311 BK312 HB;obtain ⟨BK311,BK312,HB,BK313,GW313,GE313,NB311_313,NB313_311,NB312_313,NB313_312⟩ := n_;clear hb hbox hg;have hnbq4 := NB311_312.out;have hncq4 := NB312_311.out;have hnbq5 := NB311_313.out;have hncq5 := NB313_311.out;obtain ⟨hczq6_0,hczq6_1,hczq6_2,hczq6_3,hczq6_4,hczq6_5,hczq6_6,hczq6_7,hfzq6_0,hfzq6_1,hfzq6_2,hfzq6_3,hfzq6_4,hfzq6_5,hfzq6_6,hfzq6_7⟩ := cells8 BK311.out;have hnbq7 := NB312_313.out;have hncq7 := NB313_312.out;obtain ⟨hczq8_0,hczq8_1,hfzq8_0,hfzq8_1⟩ := cells2 BK312.out;obtain ⟨hczq9_0,hczq9_1,hczq9_2,hczq9_3,hczq9_4,hczq9_5,hfzq9_0,hfzq9_1,hfzq9_2,hfzq9_3,hfzq9_4,hfzq9_5⟩ := cells6 BK313.out) | ((with_reducible refine gate_callee (f := 31) rfl ?_);refine goesL_ (some 14) rfl rfl Try.func31 Z312 rfl #[.agg #[.int .i64 a0_0,.int .i64 a0_1,.int .i64 a0_2,.int .i64 a0_3,.int .i64 a0_4,.int .i64 a0_5,.int .i64 a0_6,.slice A0_7 l0_7.length c0_7],.agg #[.int .i64 a1_0,.int .i64 a1_1],.agg #[.int .i64 a2_0,.int .i64 a2_1,.int .i64 a2_2,.int .i64 a2_3,.int .i64 a2_4,.int .i64 a2_5]] rfl Z256 ?_;(with_reducible refine (spec_SideValues.calls k a0_0 a0_1 a0_2 a0_3 a0_4 a0_5 a0_6 _ _ l0_7 a1_0 a1_1 a2_0 a2_1 a2_2 a2_3 a2_4 a2_5 t314 t315 t316 _ ?side1 ?side2 A4.out).mono ?_);(case side1 => exact Z224);(case side2 => exact Z311);rintro e wq10 ⟨rfl,hb⟩;refine ⟨_,rfl,?_⟩;have n_ := Z86;clear BK311 BK312 BK313 HB;obtain ⟨BK311,BK312,BK313,HB⟩ := n_;(try clear hb);(try clear hb2);(try clear hk);(try clear hi);obtain ⟨hczq11_0,hczq11_1,hczq11_2,hczq11_3,hczq11_4,hczq11_5,hczq11_6,hczq11_7,hfzq11_0,hfzq11_1,hfzq11_2,hfzq11_3,hfzq11_4,hfzq11_5,hfzq11_6,hfzq11_7⟩ := cells8 BK311.out) | ((with_reducible refine gate_callee (f := 32) rfl ?_);refine goesL_ (some 19) rfl rfl Try.func32 Z312 rfl #[.agg #[.int .i64 a0_0,.int .i64 a0_1,.int .i64 a0_2,.int .i64 a0_3,.int .i64 a0_4,.int .i64 a0_5,.int .i64 a0_6,.slice A0_7 l0_7.length c0_7]] rfl Z256 ?_;(with_reducible refine (spec_ConfigOk.calls k a0_0 a0_1 a0_2 a0_3 a0_4 a0_5 a0_6 _ _ l0_7 false _ ?side1 ?side2 A5.out).mono ?_);(case side1 => exact Z224);(case side2 => exact Z311);rintro e wq12 ⟨rfl,hb⟩;refine ⟨_,rfl,?_⟩;have n_ := Z86;clear BK311 BK312 BK313 HB;obtain ⟨BK311,BK312,BK313,HB⟩ := n_;(try clear hb);(try clear hb2);(try clear hk);(try clear hi)))
  go_ret
  exact ⟨Z263,Z356⟩

/-! ### laws_toIntS: function 36 -/
def laws_toIntS.l0 : Nat → List Int → List Int → Int → Option (List Int)
 | 0,_,_,_ => none
 | k + 1,x0,x3,x4 => if x4 < (x0.length : Int) then (if 0 ≤ x4 then (if x4 < (x3.length : Int) then (laws_toIntS.l0 k x0 (x3.set (x4 : Int).toNat (rd x0 x4)) (wrap64 (x4 + 1))) else (none)) else (none)) else (some x3)
def laws_toIntS.f (k : Nat) (l0 : List Int) : Option (List Int) := if 0 ≤ (l0.length : Int) then (if ((l0.length : Int) : Int).toNat ≤ 35184372088832 then (laws_toIntS.l0 k l0 (List.replicate ((l0.length : Int) : Int).toNat 0) 0) else (none)) else (none)
theorem laws_toIntS.mono_l : ∀ k,(∀ y0 y1 y2,LeO (laws_toIntS.l0 k y0 y1 y2) (laws_toIntS.l0 (k + 1) y0 y1 y2))
 | 0 => fun _ _ _ r h => by simp [laws_toIntS.l0] at h
 | k + 1 => by
  have ih0 := laws_toIntS.mono_l k
  ·intro y0 y1 y2
   unfold laws_toIntS.l0
   repeat' first
   | (with_reducible exact ih0 _ _ _)
   | (with_reducible exact LeO.refl _)
   | (with_reducible exact LeO.none _)
   | (with_reducible refine LeO.ite ?_ ?_)
   | (with_reducible refine LeO.bind ?_ (fun _ => ?_))
   | exact ih0 _ _ _
   | exact LeO.none _
   | refine LeO.ite ?_ ?_
   | refine LeO.bind ?_ (fun _ => ?_)
theorem laws_toIntS.mono : ∀ a0 k,LeO (laws_toIntS.f k a0) (laws_toIntS.f (k + 1) a0) := by
 intro a0 k
 have ih0 := laws_toIntS.mono_l k
 unfold laws_toIntS.f
 repeat' first
   | (with_reducible exact ih0 _ _ _)
   | (with_reducible exact LeO.refl _)
   | (with_reducible exact LeO.none _)
   | (with_reducible refine LeO.ite ?_ ?_)
   | (with_reducible refine LeO.bind ?_ (fun _ => ?_))
   | exact ih0 _ _ _
   | exact LeO.none _
   | refine LeO.ite ?_ ?_
   | refine LeO.bind ?_ (fun _ => ?_)
set_option maxHeartbeats 8000000 in
set_option maxRecDepth 100000 in
theorem laws_toIntS.calls (k : Nat) (A0 : Option Addr) (c0 : Nat) (l0 : List Int) (r : List Int) (w : World) (hr0 : Kd.C (Kd.int .i64) w A0 l0.length l0) (hc0 : l0.length ≤ c0) (h : laws_toIntS.f k l0 = some r) :
  Calls Try.prog 36 #[.slice A0 l0.length c0] w fun e w' => ∃ v0_ : Value,e = .returned (v0_) ∧ Kd.R (Kd.int .i64) 3 w' w.heap.size (fun _ => True) v0_ r ∧ Below w.heap.size w w' := by
 have HR0 := Aside0.mk hr0
 have HC0 := Aside0.mk hc0
 clear hr0 hc0
 have HB := Aside0.mk (Below.refl w.heap.size w)
 have H := h
 clear h
 unfold laws_toIntS.f at H
 by_cases c2 : 0 ≤ (l0.length : Int)
 ·rw [if_pos c2] at H
  have c2b0 := eq_true c2
  have c2b1 : decide (0 ≤ (l0.length : Int)) = true := decide_eq_true c2
  clear c2
  by_cases c3 : ((l0.length : Int) : Int).toNat ≤ 35184372088832
  ·rw [if_pos c3] at H
   have c3b0 := eq_true c3
   have c3b1 : decide (((l0.length : Int) : Int).toNat ≤ 35184372088832) = true := decide_eq_true c3
   clear c3
   obtain ⟨y321,hy321⟩ : ∃ y_ : List Int,y_ = (List.replicate ((l0.length : Int) : Int).toNat 0) := ⟨_,rfl⟩
   replace H : (laws_toIntS.l0 k l0 y321 0) = some r := by first | (rw [hy321];with_reducible exact H) | (have H2_ := (Option.bind_some _ _).symm.trans H;rw [hy321];with_reducible exact H2_) | (have H2_ := (Option.bind_some _ _).symm.trans H;with_reducible exact H2_) | with_reducible exact H | (rw [hy321];exact H) | exact H
   have Ny321 := Aside0.mk hy321
   clear hy321
   have H' := Aside0.mk H
   clear H
   go_enter Try.func36,Try.ntmps36
   go_wp2_with (first | ((with_reducible refine gate_dst (N := 7) rfl ?_);refine Kd.R_make (Kd.int .i64) _ 3 rfl (N := 7) rfl 22 _ _ rfl (l0.length : Int) rfl rfl Try.underlying22 (.int .i64 0) 8 info3 rfl Z313 (by omega) 0 (ok := fun _ => True) (okp := fun _ => True) rfl (fun _ hk => hk) trivial (of_decide_eq_true Z288) (Nat.le_trans (Nat.mul_le_mul_right _ (of_decide_eq_true Z288 : (l0.length : Int).toNat ≤ 35184372088832)) (by omega)) (Below.refl _ _) (Nat.le_refl _) ?_;intro v322 w4 ho5 hb hg_ hnew_;clear hg_ hnew_;(first | rw [← Ny321.out] at ho5 | (simp only [Int.reduceToNat] at ho5;rw [← Ny321.out] at ho5));have n_ := jA (Kd.R_lower ho5 (below_size Z614)) (Aside0.mk (below_step Z614 hb));clear HB;obtain ⟨HO323,HB⟩ := n_;clear hb ho5))
   go_loopg [4] k (fun kq v4 w' => ∃ (x3_1 : List Int) (x4_1 : Int),v4 = .int .i64 x4_1 ∧ Aside0 (laws_toIntS.l0 kq l0 x3_1 x4_1 = some r) ∧ Aside0 (kq ≤ k) ∧ Aside0 (Kd.R (Kd.int .i64) 3 w' w.heap.size (fun _ => True) v322 x3_1) ∧ Aside0 (Below w.heap.size w w'))
   case atStart => exact ⟨(y321),(0),Z289,H',⟨Nat.le_refl _⟩,⟨by (with_reducible repeat (first | apply Kd.R_alloc | apply Kd.R_drewN | apply Kd.R_drew));exact HO323.out⟩,⟨Z614⟩⟩
   case round =>
    clear H'
    try clear c2
    try clear c2b0
    try clear c2b1
    try clear p2
    try clear c3
    try clear c3b0
    try clear c3b1
    obtain ⟨x3_1,x4_1,rfl,HA,HK1,HO_3,HB⟩ := hrel
    cases gk with
    | zero => exact absurd HA.out (by simp [laws_toIntS.l0])
    | succ k1 =>
     have H := HA.out
     clear HA
     simp only [laws_toIntS.l0] at H
     by_cases c6 : x4_1 < (l0.length : Int)
     ·rw [if_pos c6] at H
      have c6b0 : decide (x4_1 < (l0.length : Int)) = true := decide_eq_true c6
      clear c6
      by_cases c7 : 0 ≤ x4_1
      ·rw [if_pos c7] at H
       have c7b0 : decide (0 ≤ x4_1) = true := decide_eq_true c7
       clear c7
       by_cases c8 : x4_1 < (x3_1.length : Int)
       ·rw [if_pos c8] at H
        have c8b0 : decide (x4_1 < (x3_1.length : Int)) = true := decide_eq_true c8
        clear c8
        obtain ⟨y325,hy325⟩ : ∃ y_ : List Int,y_ = (x3_1.set (x4_1 : Int).toNat (rd l0 x4_1)) := ⟨_,rfl⟩
        replace H : (laws_toIntS.l0 k1 l0 y325 (wrap64 (x4_1 + 1))) = some r := by first | (rw [hy325];with_reducible exact H) | (have H2_ := (Option.bind_some _ _).symm.trans H;rw [hy325];with_reducible exact H2_) | (have H2_ := (Option.bind_some _ _).symm.trans H;with_reducible exact H2_) | with_reducible exact H | (rw [hy325];exact H) | exact H
        have Ny325 := Aside0.mk hy325
        clear hy325
        have H' := Aside0.mk H
        clear H
        have p324 : 0 ≤ (x4_1 : Int) := of_decide_eq_true Z288
        have q324 : x4_1 < (l0.length : Int) := of_decide_eq_true Z288
        obtain ⟨ad324,e324,hx324_0⟩ := Kd.at_int HR0.out x4_1 p324 q324
        cases e324
        replace hx324_0 := (HB.out.cell (World.block_lt_of_cell? w _ hx324_0)).trans hx324_0
        replace p324 := eq_true p324
        replace q324 := eq_true q324
        have p9 : 0 ≤ (x4_1 : Int) := of_decide_eq_true Z288
        have q9 : (x4_1 : Int) < ((x3_1.length : Int) : Int) := of_decide_eq_true Z288
        obtain ⟨go9,co9,eo9,gb9,gl9,cl9,HG9⟩ := Kd.R_form HO_3.out (by omega)
        (first | cases eo9 | (injection eo9 with ea_ en_ ec_;(first | subst ea_ | (injection ea_ with ea_;subst ea_));subst ec_;clear en_))
        have GB9 := Aside0.mk gb9
        have GG9 := Aside0.mk HG9
        clear gb9 gl9 HG9
        obtain ⟨hx9_0,hf9_0⟩ := Kd.R_celln 0 HO_3.out (x4_1 : Int) p9 q9
        replace p9 := eq_true p9
        replace q9 := eq_true q9
        have HP10 := Kd.R_putg HO_3.out (x4_1 : Int) (rd l0 x4_1)
        go_wp2_with (first | ((with_reducible refine gate_store (t := 3) (p := 20) rfl ?_);refine store_event (t := 3) (p := 20) (v := ?vo_w11) (w1 := (wr.setCell ⟨go9,(x4_1 : Int).toNat,none⟩ (.int .i64 (rd l0 x4_1)))) ?hg ?ho ?hn ?hr ?_;(case ho => rfl);(case hg => rfl);(case hn => rfl);(case hr => exact Z290);intro w11 hw;have hg : wr.grownBy w11 (some go9) := (by rw [hw];exact HP10.2);have hp_ : Kd.R (Kd.int .i64) 3 w11 w.heap.size (fun _ => True) (.slice (some ⟨go9,0,none⟩) x3_1.length co9) y325 := (by rw [hw,Ny325.out];exact HP10.1);clear HP10;have n_ := jA (hp_) (Aside0.mk ((by rw [hw];exact below_set (HB.out) GB9.out : Below w.heap.size w w11)));clear HO_3 HB;obtain ⟨HO_3,HB⟩ := n_;clear hg hw hp_))
        go_roundg k1
        case measure => have := HK1.out;omega
        case rel => exact ⟨(y325),(wrap64 (x4_1 + 1)),Z289,H',⟨Z310⟩,⟨Z262⟩,⟨Z614⟩⟩
       ·rw [if_neg c8] at H
        exact absurd H Z553
      ·rw [if_neg c7] at H
       exact absurd H Z553
     ·rw [if_neg c6] at H
      have c6b0 : decide (x4_1 < (l0.length : Int)) = false := decide_eq_false c6
      clear c6
      obtain rfl := Option.some.inj H
      go_wp2
      go_ret
      exact ⟨_,Z263,Z262,Z614⟩
  ·rw [if_neg c3] at H
   exact absurd H Z553
 ·rw [if_neg c2] at H
  exact absurd H Z553

/-! ### laws_toConfig: function 8 -/
def laws_toConfig.f (k : Nat) (a0_0 : Int) (a0_1 : Int) (a0_2 : Int) (a0_3 : Int) (a0_4 : Int) (a0_5 : Int) (a0_6 : Int) (l0_7 : List Int) : Option (Int × Int × Int × Int × Int × Int × Int × List Int) := (laws_toIntS.f k l0_7).bind fun t329 => (some (a0_0,a0_1,a0_2,a0_3,a0_4,a0_5,a0_6,t329))
theorem laws_toConfig.mono : ∀ a0 a1 a2 a3 a4 a5 a6 a7 k,LeO (laws_toConfig.f k a0 a1 a2 a3 a4 a5 a6 a7) (laws_toConfig.f (k + 1) a0 a1 a2 a3 a4 a5 a6 a7) := by
 intro a0 a1 a2 a3 a4 a5 a6 a7 k
 unfold laws_toConfig.f
 repeat' first
   | (with_reducible exact laws_toIntS.mono _ _)
   | (with_reducible exact LeO.refl _)
   | (with_reducible exact LeO.none _)
   | (with_reducible refine LeO.ite ?_ ?_)
   | (with_reducible refine LeO.bind ?_ (fun _ => ?_))
   | exact laws_toIntS.mono _ _
   | exact LeO.none _
   | refine LeO.ite ?_ ?_
   | refine LeO.bind ?_ (fun _ => ?_)
set_option maxHeartbeats 8000000 in
set_option maxRecDepth 100000 in
theorem laws_toConfig.calls (k : Nat) (a0_0 : Int) (a0_1 : Int) (a0_2 : Int) (a0_3 : Int) (a0_4 : Int) (a0_5 : Int) (a0_6 : Int) (A0_7 : Option Addr) (c0_7 : Nat) (l0_7 : List Int) (r1 : Int) (r2 : Int) (r3 : Int) (r4 : Int) (r5 : Int) (r6 : Int) (r7 : Int) (r8 : List Int) (w : World) (hr0_7 : Kd.C (Kd.int .i64) w A0_7 l0_7.length l0_7) (hc0_7 : l0_7.length ≤ c0_7) (h : laws_toConfig.f k a0_0 a0_1 a0_2 a0_3 a0_4 a0_5 a0_6 l0_7 = some (r1,r2,r3,r4,r5,r6,r7,r8)) :
  Calls Try.prog 8 #[.agg #[.int .i64 a0_0,.int .i64 a0_1,.int .i64 a0_2,.int .i64 a0_3,.int .i64 a0_4,.int .i64 a0_5,.int .i64 a0_6,.slice A0_7 l0_7.length c0_7]] w fun e w' => ∃ v7_ : Value,e = .returned (.agg #[.int .i64 r1,.int .i64 r2,.int .i64 r3,.int .i64 r4,.int .i64 r5,.int .i64 r6,.int .i64 r7,v7_]) ∧ Kd.R (Kd.int .i64) 3 w' w.heap.size (fun _ => True) v7_ r8 ∧ Below w.heap.size w w' := by
 have hu24 := Try.underlying24
 have hu33 := Try.underlying33
 have HR0_7 := Aside0.mk hr0_7
 have HC0_7 := Aside0.mk hc0_7
 clear hr0_7 hc0_7
 have HB := Aside0.mk (Below.refl w.heap.size w)
 have H := h
 clear h
 unfold laws_toConfig.f at H
 obtain ⟨t329,A20,H⟩ := Option.bind_eq_some_iff.mp H
 have A2 := Aside0.mk A20
 clear A20
 simp only [Option.some.injEq,Prod.mk.injEq] at H
 obtain ⟨rfl,rfl,rfl,rfl,rfl,rfl,rfl,rfl⟩ := H
 go_enter Try.func8,Try.ntmps8
 go_wp2_with (first | ((with_reducible refine gate_dst (N := 1) rfl ?_);refine bE 1 #[.int .i64 a0_0,.int .i64 a0_1,.int .i64 a0_2,.int .i64 a0_3,.int .i64 a0_4,.int .i64 a0_5,.int .i64 a0_6,.slice A0_7 l0_7.length c0_7] 24 (h := ?_);intro gb326 hg wq1 hbox hb;have n_ := jA (below_step Z614 hb) (jA (hbox) (jA ((Z456 : w.heap.size ≤ gb326)) (Aside0.mk ((Z456 : w.heap.size ≤ gb326)))));clear HB;obtain ⟨HB,BK326,GW326,GE326⟩ := n_;clear hb hbox hg) | ((with_reducible refine gate_dst (N := 2) rfl ?_);refine bE 2 #[.int .i64 0,.int .i64 0,.int .i64 0,.int .i64 0,.int .i64 0,.int .i64 0,.int .i64 0,.slice none 0 0] 33 (h := ?_);intro gb327 hg wq2 hbox hb;have n_ := jA (blk_below (g := gb326) (o := .cells #[.int .i64 a0_0,.int .i64 a0_1,.int .i64 a0_2,.int .i64 a0_3,.int .i64 a0_4,.int .i64 a0_5,.int .i64 a0_6,.slice A0_7 l0_7.length c0_7] 24 (0,0)) Z534 hb) (jA (below_step Z470 hb) (jA (hbox) (jA ((Z213 : w.heap.size ≤ gb327)) (jA ((Z213 : w.heap.size ≤ gb327)) (jA ((Z178 : gb326 ≠ gb327)) (Aside0.mk ((Z179 : gb327 ≠ gb326))))))));clear BK326 HB;obtain ⟨BK326,HB,BK327,GW327,GE327,NB326_327,NB327_326⟩ := n_;clear hb hbox hg) | ((with_reducible refine gate_dst (N := 3) rfl ?_);refine bE 3 #[.int .i64 0,.int .i64 0,.int .i64 0,.int .i64 0,.int .i64 0,.int .i64 0,.int .i64 0,.slice none 0 0] 33 (h := ?_);intro gb328 hg wq3 hbox hb;have n_ := jA (blk_below (g := gb326) (o := .cells #[.int .i64 a0_0,.int .i64 a0_1,.int .i64 a0_2,.int .i64 a0_3,.int .i64 a0_4,.int .i64 a0_5,.int .i64 a0_6,.slice A0_7 l0_7.length c0_7] 24 (0,0)) Z534 hb) (jA (blk_below (g := gb327) (o := .cells #[.int .i64 0,.int .i64 0,.int .i64 0,.int .i64 0,.int .i64 0,.int .i64 0,.int .i64 0,.slice none 0 0] 33 (0,0)) Z306 hb) (jA (below_step Z400 hb) (jA (hbox) (jA ((Z187 : w.heap.size ≤ gb328)) (jA ((Z187 : w.heap.size ≤ gb328)) (jA ((Z178 : gb326 ≠ gb328)) (jA ((Z179 : gb328 ≠ gb326)) (jA ((by rw [hg];exact Nat.ne_of_lt (blk_lt (g := gb327) (o := .cells #[.int .i64 0,.int .i64 0,.int .i64 0,.int .i64 0,.int .i64 0,.int .i64 0,.int .i64 0,.slice none 0 0] 33 (0,0)) Z306) : gb327 ≠ gb328)) (Aside0.mk ((by rw [hg];exact Nat.ne_of_gt (blk_lt (g := gb327) (o := .cells #[.int .i64 0,.int .i64 0,.int .i64 0,.int .i64 0,.int .i64 0,.int .i64 0,.int .i64 0,.slice none 0 0] 33 (0,0)) Z306) : gb328 ≠ gb327)))))))))));clear BK326 BK327 HB;obtain ⟨BK326,BK327,HB,BK328,GW328,GE328,NB326_328,NB328_326,NB327_328,NB328_327⟩ := n_;clear hb hbox hg;have hnbq4 := NB326_327.out;have hncq4 := NB327_326.out;have hnbq5 := NB326_328.out;have hncq5 := NB328_326.out;obtain ⟨hczq6_0,hczq6_1,hczq6_2,hczq6_3,hczq6_4,hczq6_5,hczq6_6,hczq6_7,hfzq6_0,hfzq6_1,hfzq6_2,hfzq6_3,hfzq6_4,hfzq6_5,hfzq6_6,hfzq6_7⟩ := cells8 BK326.out;have hnbq7 := NB328_327.out;have hncq7 := NB327_328.out;obtain ⟨hczq8_0,hczq8_1,hczq8_2,hczq8_3,hczq8_4,hczq8_5,hczq8_6,hczq8_7,hfzq8_0,hfzq8_1,hfzq8_2,hfzq8_3,hfzq8_4,hfzq8_5,hfzq8_6,hfzq8_7⟩ := cells8 BK328.out) | ((with_reducible refine gate_callee (f := 36) rfl ?_);refine goesL_ (some 27) rfl rfl Try.func36 Z312 rfl #[.slice A0_7 l0_7.length c0_7] rfl Z256 ?_;(with_reducible refine (laws_toIntS.calls k _ _ l0_7 t329 _ ?side1 ?side2 A2.out).mono ?_);(case side1 => exact Kd.C_below HR0_7.out Z180);(case side2 => exact Z311);rintro e wq9 ⟨vq10,rfl,hoq11,hb⟩;refine ⟨_,rfl,?_⟩;have n_ := jA (Kd.R_lower hoq11 (below_size Z180)) (jA (blk_below (g := gb326) (o := .cells #[.int .i64 a0_0,.int .i64 a0_1,.int .i64 a0_2,.int .i64 a0_3,.int .i64 a0_4,.int .i64 a0_5,.int .i64 a0_6,.slice A0_7 l0_7.length c0_7] 24 (0,0)) (by refine bP ?_;refine blk_far ?_ NB326_328.out _;refine bP ?_;refine blk_far ?_ NB326_328.out _;refine bP ?_;refine blk_far ?_ NB326_328.out _;refine bP ?_;refine blk_far ?_ NB326_328.out _;refine bP ?_;refine blk_far ?_ NB326_328.out _;refine bP ?_;refine blk_far ?_ NB326_328.out _;refine bP ?_;refine blk_far ?_ NB326_328.out _;refine bP ?_;exact BK326.out) hb) (jA (blk_below (g := gb327) (o := .cells #[.int .i64 0,.int .i64 0,.int .i64 0,.int .i64 0,.int .i64 0,.int .i64 0,.int .i64 0,.slice none 0 0] 33 (0,0)) (by refine bP ?_;refine blk_far ?_ NB327_328.out _;refine bP ?_;refine blk_far ?_ NB327_328.out _;refine bP ?_;refine blk_far ?_ NB327_328.out _;refine bP ?_;refine blk_far ?_ NB327_328.out _;refine bP ?_;refine blk_far ?_ NB327_328.out _;refine bP ?_;refine blk_far ?_ NB327_328.out _;refine bP ?_;refine blk_far ?_ NB327_328.out _;refine bP ?_;exact BK327.out) hb) (jA (blk_below (g := gb328) (o := .cells #[.int .i64 a0_0,.int .i64 a0_1,.int .i64 a0_2,.int .i64 a0_3,.int .i64 a0_4,.int .i64 a0_5,.int .i64 a0_6,.slice none 0 0] 33 (0,0)) (by refine bP ?_;refine blk_put (cs := #[.int .i64 a0_0,.int .i64 a0_1,.int .i64 a0_2,.int .i64 a0_3,.int .i64 a0_4,.int .i64 a0_5,.int .i64 0,.slice none 0 0]) ?_ 6 _ rfl;refine bP ?_;refine blk_put (cs := #[.int .i64 a0_0,.int .i64 a0_1,.int .i64 a0_2,.int .i64 a0_3,.int .i64 a0_4,.int .i64 0,.int .i64 0,.slice none 0 0]) ?_ 5 _ rfl;refine bP ?_;refine blk_put (cs := #[.int .i64 a0_0,.int .i64 a0_1,.int .i64 a0_2,.int .i64 a0_3,.int .i64 0,.int .i64 0,.int .i64 0,.slice none 0 0]) ?_ 4 _ rfl;refine bP ?_;refine blk_put (cs := #[.int .i64 a0_0,.int .i64 a0_1,.int .i64 a0_2,.int .i64 0,.int .i64 0,.int .i64 0,.int .i64 0,.slice none 0 0]) ?_ 3 _ rfl;refine bP ?_;refine blk_put (cs := #[.int .i64 a0_0,.int .i64 a0_1,.int .i64 0,.int .i64 0,.int .i64 0,.int .i64 0,.int .i64 0,.slice none 0 0]) ?_ 2 _ rfl;refine bP ?_;refine blk_put (cs := #[.int .i64 a0_0,.int .i64 0,.int .i64 0,.int .i64 0,.int .i64 0,.int .i64 0,.int .i64 0,.slice none 0 0]) ?_ 1 _ rfl;refine bP ?_;refine blk_put (cs := #[.int .i64 0,.int .i64 0,.int .i64 0,.int .i64 0,.int .i64 0,.int .i64 0,.int .i64 0,.slice none 0 0]) ?_ 0 _ rfl;refine bP ?_;exact BK328.out) hb) (Aside0.mk (below_step Z180 hb)))));clear BK326 BK327 BK328 HB;obtain ⟨HO331,BK326,BK327,BK328,HB⟩ := n_;(try clear hb);(try clear hb2);(try clear hk);(try clear hi);(try clear hoq11);obtain ⟨Aoq12,coq12,eoq12⟩ := Kd.R_slice HO331.out;subst eoq12;obtain ⟨hczq13_0,hczq13_1,hczq13_2,hczq13_3,hczq13_4,hczq13_5,hczq13_6,hczq13_7,hfzq13_0,hfzq13_1,hfzq13_2,hfzq13_3,hfzq13_4,hfzq13_5,hfzq13_6,hfzq13_7⟩ := cells8 BK328.out;obtain ⟨hczq14_0,hczq14_1,hczq14_2,hczq14_3,hczq14_4,hczq14_5,hczq14_6,hczq14_7,hfzq14_0,hfzq14_1,hfzq14_2,hfzq14_3,hfzq14_4,hfzq14_5,hfzq14_6,hfzq14_7⟩ := cells8 BK327.out))
 refine bodyPost_ret (results_cell_row rfl _ _ gb327 33 #[.int .i64 a0_0,.int .i64 a0_1,.int .i64 a0_2,.int .i64 a0_3,.int .i64 a0_4,.int .i64 a0_5,.int .i64 a0_6,.slice Aoq12 t329.length coq12] (0,0) _ rfl (by refine bP ?_;refine blk_put (cs := #[.int .i64 a0_0,.int .i64 a0_1,.int .i64 a0_2,.int .i64 a0_3,.int .i64 a0_4,.int .i64 a0_5,.int .i64 a0_6,.slice none 0 0]) ?_ 7 _ rfl;refine bP ?_;refine blk_put (cs := #[.int .i64 a0_0,.int .i64 a0_1,.int .i64 a0_2,.int .i64 a0_3,.int .i64 a0_4,.int .i64 a0_5,.int .i64 0,.slice none 0 0]) ?_ 6 _ rfl;refine bP ?_;refine blk_put (cs := #[.int .i64 a0_0,.int .i64 a0_1,.int .i64 a0_2,.int .i64 a0_3,.int .i64 a0_4,.int .i64 0,.int .i64 0,.slice none 0 0]) ?_ 5 _ rfl;refine bP ?_;refine blk_put (cs := #[.int .i64 a0_0,.int .i64 a0_1,.int .i64 a0_2,.int .i64 a0_3,.int .i64 0,.int .i64 0,.int .i64 0,.slice none 0 0]) ?_ 4 _ rfl;refine bP ?_;refine blk_put (cs := #[.int .i64 a0_0,.int .i64 a0_1,.int .i64 a0_2,.int .i64 0,.int .i64 0,.int .i64 0,.int .i64 0,.slice none 0 0]) ?_ 3 _ rfl;refine bP ?_;refine blk_put (cs := #[.int .i64 a0_0,.int .i64 a0_1,.int .i64 0,.int .i64 0,.int .i64 0,.int .i64 0,.int .i64 0,.slice none 0 0]) ?_ 2 _ rfl;refine bP ?_;refine blk_put (cs := #[.int .i64 a0_0,.int .i64 0,.int .i64 0,.int .i64 0,.int .i64 0,.int .i64 0,.int .i64 0,.slice none 0 0]) ?_ 1 _ rfl;refine bP ?_;refine blk_put (cs := #[.int .i64 0,.int .i64 0,.int .i64 0,.int .i64 0,.int .i64 0,.int .i64 0,.int .i64 0,.slice none 0 0]) ?_ 0 _ rfl;refine bP ?_;refine blk_far ?_ NB327_328.out _;refine bP ?_;exact BK327.out) Try.underlying33 rfl Z312) rfl ?_
 exact ⟨_,Z263,by (with_reducible repeat (first | apply Kd.R_alloc | apply Kd.R_drewN | apply Kd.R_drew));exact Kd.R_mono (Kd.R_far (p := ⟨gb327,7,none⟩) (Kd.R_far (p := ⟨gb327,6,none⟩) (Kd.R_far (p := ⟨gb327,5,none⟩) (Kd.R_far (p := ⟨gb327,4,none⟩) (Kd.R_far (p := ⟨gb327,3,none⟩) (Kd.R_far (p := ⟨gb327,2,none⟩) (Kd.R_far (p := ⟨gb327,1,none⟩) (Kd.R_far (p := ⟨gb327,0,none⟩) (Kd.R_far (p := ⟨gb328,7,none⟩) (Kd.R_types (Kd.R_types HO331.out BK328.out Z313) BK327.out Z313) (fun _ hk => hk.1.2) (.slice Aoq12 t329.length coq12)) (fun _ hk => hk.2) (.int .i64 a0_0)) (fun _ hk => hk.2) (.int .i64 a0_1)) (fun _ hk => hk.2) (.int .i64 a0_2)) (fun _ hk => hk.2) (.int .i64 a0_3)) (fun _ hk => hk.2) (.int .i64 a0_4)) (fun _ hk => hk.2) (.int .i64 a0_5)) (fun _ hk => hk.2) (.int .i64 a0_6)) (fun _ hk => hk.2) (.slice Aoq12 t329.length coq12)) (fun _ hk => trivial),Z180⟩

/-! ### laws_toBound: function 9 -/
def laws_toBound.f (a0_0 : Int) (a0_1 : Int) : Option (Int × Int) := some (a0_0,a0_1)
set_option maxHeartbeats 8000000 in
set_option maxRecDepth 100000 in
theorem laws_toBound.calls (a0_0 : Int) (a0_1 : Int) (r1 : Int) (r2 : Int) (w : World) (h : laws_toBound.f a0_0 a0_1 = some (r1,r2)) :
  Calls Try.prog 9 #[.agg #[.int .i64 a0_0,.int .i64 a0_1]] w fun e w' => e = .returned (.agg #[.int .i64 r1,.int .i64 r2]) ∧ Below w.heap.size w w' := by
 have hu26 := Try.underlying26
 have hu35 := Try.underlying35
 have HB := Aside0.mk (Below.refl w.heap.size w)
 have H := h
 clear h
 unfold laws_toBound.f at H
 simp only [Option.some.injEq,Prod.mk.injEq] at H
 obtain ⟨rfl,rfl⟩ := H
 go_enter Try.func9,Try.ntmps9
 go_wp2_with (first | ((with_reducible refine gate_dst (N := 1) rfl ?_);refine bE 1 #[.int .i64 a0_0,.int .i64 a0_1] 26 (h := ?_);intro gb332 hg wq1 hbox hb;have n_ := jA (below_step Z614 hb) (jA (hbox) (jA ((Z456 : w.heap.size ≤ gb332)) (Aside0.mk ((Z456 : w.heap.size ≤ gb332)))));clear HB;obtain ⟨HB,BK332,GW332,GE332⟩ := n_;clear hb hbox hg) | ((with_reducible refine gate_dst (N := 2) rfl ?_);refine bE 2 #[.int .i64 0,.int .i64 0] 35 (h := ?_);intro gb333 hg wq2 hbox hb;have n_ := jA (blk_below (g := gb332) (o := .cells #[.int .i64 a0_0,.int .i64 a0_1] 26 (0,0)) Z533 hb) (jA (below_step Z469 hb) (jA (hbox) (jA ((Z212 : w.heap.size ≤ gb333)) (jA ((Z212 : w.heap.size ≤ gb333)) (jA ((Z253 : gb332 ≠ gb333)) (Aside0.mk ((Z255 : gb333 ≠ gb332))))))));clear BK332 HB;obtain ⟨BK332,HB,BK333,GW333,GE333,NB332_333,NB333_332⟩ := n_;clear hb hbox hg) | ((with_reducible refine gate_dst (N := 3) rfl ?_);refine bE 3 #[.int .i64 0,.int .i64 0] 35 (h := ?_);intro gb334 hg wq3 hbox hb;have n_ := jA (blk_below (g := gb332) (o := .cells #[.int .i64 a0_0,.int .i64 a0_1] 26 (0,0)) Z533 hb) (jA (blk_below (g := gb333) (o := .cells #[.int .i64 0,.int .i64 0] 35 (0,0)) Z305 hb) (jA (below_step Z399 hb) (jA (hbox) (jA ((Z186 : w.heap.size ≤ gb334)) (jA ((Z186 : w.heap.size ≤ gb334)) (jA ((Z253 : gb332 ≠ gb334)) (jA ((Z255 : gb334 ≠ gb332)) (jA ((by rw [hg];exact Nat.ne_of_lt (blk_lt (g := gb333) (o := .cells #[.int .i64 0,.int .i64 0] 35 (0,0)) Z305) : gb333 ≠ gb334)) (Aside0.mk ((by rw [hg];exact Nat.ne_of_gt (blk_lt (g := gb333) (o := .cells #[.int .i64 0,.int .i64 0] 35 (0,0)) Z305) : gb334 ≠ gb333)))))))))));clear BK332 BK333 HB;obtain ⟨BK332,BK333,HB,BK334,GW334,GE334,NB332_334,NB334_332,NB333_334,NB334_333⟩ := n_;clear hb hbox hg;have hnbq4 := NB332_333.out;have hncq4 := NB333_332.out;have hnbq5 := NB332_334.out;have hncq5 := NB334_332.out;obtain ⟨hczq6_0,hczq6_1,hfzq6_0,hfzq6_1⟩ := cells2 BK332.out;have hnbq7 := NB334_333.out;have hncq7 := NB333_334.out;obtain ⟨hczq8_0,hczq8_1,hfzq8_0,hfzq8_1⟩ := cells2 BK334.out;obtain ⟨hczq9_0,hczq9_1,hfzq9_0,hfzq9_1⟩ := cells2 BK333.out))
 refine bodyPost_ret (results_cell_row rfl _ _ gb333 35 #[.int .i64 a0_0,.int .i64 a0_1] (0,0) _ rfl (by refine bP ?_;refine blk_put (cs := #[.int .i64 a0_0,.int .i64 0]) ?_ 1 _ rfl;refine bP ?_;refine blk_put (cs := #[.int .i64 0,.int .i64 0]) ?_ 0 _ rfl;refine bP ?_;refine blk_far ?_ NB333_334.out _;refine bP ?_;refine blk_far ?_ NB333_334.out _;refine bP ?_;exact BK333.out) Try.underlying35 rfl Z312) rfl ?_
 exact ⟨Z263,by repeat (first | (with_reducible first | exact HB.out | apply below_alloc | apply pw_below_drewN | apply below_drew1 | refine below_set ?_ GE332.out | refine below_set ?_ GE333.out | refine below_set ?_ GE334.out) | exact HB.out)⟩

/-! ### laws_toSlot: function 37 -/
def laws_toSlot.f (a0_0 : Int) (a0_1 : Int) : Option (Int × Int) := some (a0_0,a0_1)
set_option maxHeartbeats 8000000 in
set_option maxRecDepth 100000 in
theorem laws_toSlot.calls (a0_0 : Int) (a0_1 : Int) (r1 : Int) (r2 : Int) (w : World) (h : laws_toSlot.f a0_0 a0_1 = some (r1,r2)) :
  Calls Try.prog 37 #[.agg #[.int .i64 a0_0,.int .i64 a0_1]] w fun e w' => e = .returned (.agg #[.int .i64 r1,.int .i64 r2]) ∧ Below w.heap.size w w' := by
 have hu28 := Try.underlying28
 have hu37 := Try.underlying37
 have HB := Aside0.mk (Below.refl w.heap.size w)
 have H := h
 clear h
 unfold laws_toSlot.f at H
 simp only [Option.some.injEq,Prod.mk.injEq] at H
 obtain ⟨rfl,rfl⟩ := H
 go_enter Try.func37,Try.ntmps37
 go_wp2_with (first | ((with_reducible refine gate_dst (N := 1) rfl ?_);refine bE 1 #[.int .i64 a0_0,.int .i64 a0_1] 28 (h := ?_);intro gb335 hg wq1 hbox hb;have n_ := jA (below_step Z614 hb) (jA (hbox) (jA ((Z456 : w.heap.size ≤ gb335)) (Aside0.mk ((Z456 : w.heap.size ≤ gb335)))));clear HB;obtain ⟨HB,BK335,GW335,GE335⟩ := n_;clear hb hbox hg) | ((with_reducible refine gate_dst (N := 2) rfl ?_);refine bE 2 #[.int .i64 0,.int .i64 0] 37 (h := ?_);intro gb336 hg wq2 hbox hb;have n_ := jA (blk_below (g := gb335) (o := .cells #[.int .i64 a0_0,.int .i64 a0_1] 28 (0,0)) Z532 hb) (jA (below_step Z468 hb) (jA (hbox) (jA ((Z211 : w.heap.size ≤ gb336)) (jA ((Z211 : w.heap.size ≤ gb336)) (jA ((Z252 : gb335 ≠ gb336)) (Aside0.mk ((Z254 : gb336 ≠ gb335))))))));clear BK335 HB;obtain ⟨BK335,HB,BK336,GW336,GE336,NB335_336,NB336_335⟩ := n_;clear hb hbox hg) | ((with_reducible refine gate_dst (N := 3) rfl ?_);refine bE 3 #[.int .i64 0,.int .i64 0] 37 (h := ?_);intro gb337 hg wq3 hbox hb;have n_ := jA (blk_below (g := gb335) (o := .cells #[.int .i64 a0_0,.int .i64 a0_1] 28 (0,0)) Z532 hb) (jA (blk_below (g := gb336) (o := .cells #[.int .i64 0,.int .i64 0] 37 (0,0)) Z304 hb) (jA (below_step Z398 hb) (jA (hbox) (jA ((Z185 : w.heap.size ≤ gb337)) (jA ((Z185 : w.heap.size ≤ gb337)) (jA ((Z252 : gb335 ≠ gb337)) (jA ((Z254 : gb337 ≠ gb335)) (jA ((by rw [hg];exact Nat.ne_of_lt (blk_lt (g := gb336) (o := .cells #[.int .i64 0,.int .i64 0] 37 (0,0)) Z304) : gb336 ≠ gb337)) (Aside0.mk ((by rw [hg];exact Nat.ne_of_gt (blk_lt (g := gb336) (o := .cells #[.int .i64 0,.int .i64 0] 37 (0,0)) Z304) : gb337 ≠ gb336)))))))))));clear BK335 BK336 HB;obtain ⟨BK335,BK336,HB,BK337,GW337,GE337,NB335_337,NB337_335,NB336_337,NB337_336⟩ := n_;clear hb hbox hg;have hnbq4 := NB335_336.out;have hncq4 := NB336_335.out;have hnbq5 := NB335_337.out;have hncq5 := NB337_335.out;obtain ⟨hczq6_0,hczq6_1,hfzq6_0,hfzq6_1⟩ := cells2 BK335.out;have hnbq7 := NB337_336.out;have hncq7 := NB336_337.out;obtain ⟨hczq8_0,hczq8_1,hfzq8_0,hfzq8_1⟩ := cells2 BK337.out;obtain ⟨hczq9_0,hczq9_1,hfzq9_0,hfzq9_1⟩ := cells2 BK336.out))
 refine bodyPost_ret (results_cell_row rfl _ _ gb336 37 #[.int .i64 a0_0,.int .i64 a0_1] (0,0) _ rfl (by refine bP ?_;refine blk_put (cs := #[.int .i64 a0_0,.int .i64 0]) ?_ 1 _ rfl;refine bP ?_;refine blk_put (cs := #[.int .i64 0,.int .i64 0]) ?_ 0 _ rfl;refine bP ?_;refine blk_far ?_ NB336_337.out _;refine bP ?_;refine blk_far ?_ NB336_337.out _;refine bP ?_;exact BK336.out) Try.underlying37 rfl Z312) rfl ?_
 exact ⟨Z263,by repeat (first | (with_reducible first | exact HB.out | apply below_alloc | apply pw_below_drewN | apply below_drew1 | refine below_set ?_ GE335.out | refine below_set ?_ GE336.out | refine below_set ?_ GE337.out) | exact HB.out)⟩

/-! ### laws_toCand: function 10 -/
def laws_toCand.f (a0_0 : Int) (a0_1 : Int) (a0_2 : Int) (a0_3 : Int) (a0_4 : Int) (a0_5 : Int) : Option (Int × Int × Int × Int × Int × Int) := (laws_toSlot.f a0_2 a0_3).bind fun bt341 => ((laws_toSlot.f a0_4 a0_5).bind fun bt343 => (some (a0_0,a0_1,bt341.1,bt341.2,bt343.1,bt343.2)))
set_option maxHeartbeats 8000000 in
set_option maxRecDepth 100000 in
theorem laws_toCand.calls (a0_0 : Int) (a0_1 : Int) (a0_2 : Int) (a0_3 : Int) (a0_4 : Int) (a0_5 : Int) (r1 : Int) (r2 : Int) (r3 : Int) (r4 : Int) (r5 : Int) (r6 : Int) (w : World) (h : laws_toCand.f a0_0 a0_1 a0_2 a0_3 a0_4 a0_5 = some (r1,r2,r3,r4,r5,r6)) :
  Calls Try.prog 10 #[.agg #[.int .i64 a0_0,.int .i64 a0_1,.int .i64 a0_2,.int .i64 a0_3,.int .i64 a0_4,.int .i64 a0_5]] w fun e w' => e = .returned (.agg #[.int .i64 r1,.int .i64 r2,.int .i64 r3,.int .i64 r4,.int .i64 r5,.int .i64 r6]) ∧ Below w.heap.size w w' := by
 have hu30 := Try.underlying30
 have hu39 := Try.underlying39
 have hu28 := Try.underlying28
 have hu37 := Try.underlying37
 have HB := Aside0.mk (Below.refl w.heap.size w)
 have H := h
 clear h
 unfold laws_toCand.f at H
 obtain ⟨⟨t341,t342⟩,A20,H⟩ := Option.bind_eq_some_iff.mp H
 try dsimp only at H
 have A2 := Aside0.mk A20
 clear A20
 obtain ⟨⟨t343,t344⟩,A30,H⟩ := Option.bind_eq_some_iff.mp H
 try dsimp only at H
 have A3 := Aside0.mk A30
 clear A30
 simp only [Option.some.injEq,Prod.mk.injEq] at H
 obtain ⟨rfl,rfl,rfl,rfl,rfl,rfl⟩ := H
 go_enter Try.func10,Try.ntmps10
 go_wp2_with (first | ((with_reducible refine gate_dst (N := 1) rfl ?_);refine bE 1 #[.int .i64 a0_0,.int .i64 a0_1,.int .i64 a0_2,.int .i64 a0_3,.int .i64 a0_4,.int .i64 a0_5] 30 (h := ?_);intro gb338 hg wq1 hbox hb;have n_ := jA (below_step Z614 hb) (jA (hbox) (jA ((Z456 : w.heap.size ≤ gb338)) (Aside0.mk ((Z456 : w.heap.size ≤ gb338)))));clear HB;obtain ⟨HB,BK338,GW338,GE338⟩ := n_;clear hb hbox hg) | ((with_reducible refine gate_dst (N := 2) rfl ?_);refine bE 2 #[.int .i64 0,.int .i64 0,.int .i64 0,.int .i64 0,.int .i64 0,.int .i64 0] 39 (h := ?_);intro gb339 hg wq2 hbox hb;have n_ := jA (blk_below (g := gb338) (o := .cells #[.int .i64 a0_0,.int .i64 a0_1,.int .i64 a0_2,.int .i64 a0_3,.int .i64 a0_4,.int .i64 a0_5] 30 (0,0)) Z531 hb) (jA (below_step Z467 hb) (jA (hbox) (jA ((Z210 : w.heap.size ≤ gb339)) (jA ((Z210 : w.heap.size ≤ gb339)) (jA ((Z194 : gb338 ≠ gb339)) (Aside0.mk ((Z195 : gb339 ≠ gb338))))))));clear BK338 HB;obtain ⟨BK338,HB,BK339,GW339,GE339,NB338_339,NB339_338⟩ := n_;clear hb hbox hg) | ((with_reducible refine gate_dst (N := 3) rfl ?_);refine bE 3 #[.int .i64 0,.int .i64 0,.int .i64 0,.int .i64 0,.int .i64 0,.int .i64 0] 39 (h := ?_);intro gb340 hg wq3 hbox hb;have n_ := jA (blk_below (g := gb338) (o := .cells #[.int .i64 a0_0,.int .i64 a0_1,.int .i64 a0_2,.int .i64 a0_3,.int .i64 a0_4,.int .i64 a0_5] 30 (0,0)) Z531 hb) (jA (blk_below (g := gb339) (o := .cells #[.int .i64 0,.int .i64 0,.int .i64 0,.int .i64 0,.int .i64 0,.int .i64 0] 39 (0,0)) Z303 hb) (jA (below_step Z397 hb) (jA (hbox) (jA ((Z184 : w.heap.size ≤ gb340)) (jA ((Z184 : w.heap.size ≤ gb340)) (jA ((Z194 : gb338 ≠ gb340)) (jA ((Z195 : gb340 ≠ gb338)) (jA ((by rw [hg];exact Nat.ne_of_lt (blk_lt (g := gb339) (o := .cells #[.int .i64 0,.int .i64 0,.int .i64 0,.int .i64 0,.int .i64 0,.int .i64 0] 39 (0,0)) Z303) : gb339 ≠ gb340)) (Aside0.mk ((by rw [hg];exact Nat.ne_of_gt (blk_lt (g := gb339) (o := .cells #[.int .i64 0,.int .i64 0,.int .i64 0,.int .i64 0,.int .i64 0,.int .i64 0] 39 (0,0)) Z303) : gb340 ≠ gb339)))))))))));clear BK338 BK339 HB;obtain ⟨BK338,BK339,HB,BK340,GW340,GE340,NB338_340,NB340_338,NB339_340,NB340_339⟩ := n_;clear hb hbox hg;have hnbq4 := NB338_339.out;have hncq4 := NB339_338.out;have hnbq5 := NB338_340.out;have hncq5 := NB340_338.out;obtain ⟨hczq6_0,hczq6_1,hczq6_2,hczq6_3,hczq6_4,hczq6_5,hfzq6_0,hfzq6_1,hfzq6_2,hfzq6_3,hfzq6_4,hfzq6_5⟩ := cells6 BK338.out;have hnbq7 := NB340_339.out;have hncq7 := NB339_340.out;obtain ⟨hczq8_0,hczq8_1,hczq8_2,hczq8_3,hczq8_4,hczq8_5,hfzq8_0,hfzq8_1,hfzq8_2,hfzq8_3,hfzq8_4,hfzq8_5⟩ := cells6 BK340.out) | ((with_reducible refine gate_callee (f := 37) rfl ?_);refine goesL_ (some 12) rfl rfl Try.func37 Z312 rfl #[.agg #[.int .i64 a0_2,.int .i64 a0_3]] rfl Z256 ?_;(with_reducible refine (laws_toSlot.calls a0_2 a0_3 t341 t342 _ A2.out).mono ?_);rintro e wq9 ⟨rfl,hb⟩;refine ⟨_,rfl,?_⟩;have n_ := jA (blk_below (g := gb338) (o := .cells #[.int .i64 a0_0,.int .i64 a0_1,.int .i64 a0_2,.int .i64 a0_3,.int .i64 a0_4,.int .i64 a0_5] 30 (0,0)) Z258 hb) (jA (blk_below (g := gb339) (o := .cells #[.int .i64 0,.int .i64 0,.int .i64 0,.int .i64 0,.int .i64 0,.int .i64 0] 39 (0,0)) Z257 hb) (jA (blk_below (g := gb340) (o := .cells #[.int .i64 a0_0,.int .i64 a0_1,.int .i64 0,.int .i64 0,.int .i64 0,.int .i64 0] 39 (0,0)) (by refine bP ?_;refine blk_put (cs := #[.int .i64 a0_0,.int .i64 0,.int .i64 0,.int .i64 0,.int .i64 0,.int .i64 0]) ?_ 1 _ rfl;refine bP ?_;refine blk_put (cs := #[.int .i64 0,.int .i64 0,.int .i64 0,.int .i64 0,.int .i64 0,.int .i64 0]) ?_ 0 _ rfl;refine bP ?_;exact BK340.out) hb) (Aside0.mk (below_step Z181 hb))));clear BK338 BK339 BK340 HB;obtain ⟨BK338,BK339,BK340,HB⟩ := n_;(try clear hb);(try clear hb2);(try clear hk);(try clear hi);obtain ⟨hczq10_0,hczq10_1,hczq10_2,hczq10_3,hczq10_4,hczq10_5,hfzq10_0,hfzq10_1,hfzq10_2,hfzq10_3,hfzq10_4,hfzq10_5⟩ := cells6 BK340.out;obtain ⟨hczq11_0,hczq11_1,hczq11_2,hczq11_3,hczq11_4,hczq11_5,hfzq11_0,hfzq11_1,hfzq11_2,hfzq11_3,hfzq11_4,hfzq11_5⟩ := cells6 BK338.out) | ((with_reducible refine gate_callee (f := 37) rfl ?_);refine goesL_ (some 16) rfl rfl Try.func37 Z312 rfl #[.agg #[.int .i64 a0_4,.int .i64 a0_5]] rfl Z256 ?_;(with_reducible refine (laws_toSlot.calls a0_4 a0_5 t343 t344 _ A3.out).mono ?_);rintro e wq12 ⟨rfl,hb⟩;refine ⟨_,rfl,?_⟩;have n_ := jA (blk_below (g := gb338) (o := .cells #[.int .i64 a0_0,.int .i64 a0_1,.int .i64 a0_2,.int .i64 a0_3,.int .i64 a0_4,.int .i64 a0_5] 30 (0,0)) Z258 hb) (jA (blk_below (g := gb339) (o := .cells #[.int .i64 0,.int .i64 0,.int .i64 0,.int .i64 0,.int .i64 0,.int .i64 0] 39 (0,0)) Z257 hb) (jA (blk_below (g := gb340) (o := .cells #[.int .i64 a0_0,.int .i64 a0_1,.int .i64 t341,.int .i64 t342,.int .i64 0,.int .i64 0] 39 (0,0)) (by refine bP ?_;refine blk_put (cs := #[.int .i64 a0_0,.int .i64 a0_1,.int .i64 t341,.int .i64 0,.int .i64 0,.int .i64 0]) ?_ 3 _ rfl;refine bP ?_;refine blk_put (cs := #[.int .i64 a0_0,.int .i64 a0_1,.int .i64 0,.int .i64 0,.int .i64 0,.int .i64 0]) ?_ 2 _ rfl;refine bP ?_;exact BK340.out) hb) (Aside0.mk (below_step Z181 hb))));clear BK338 BK339 BK340 HB;obtain ⟨BK338,BK339,BK340,HB⟩ := n_;(try clear hb);(try clear hb2);(try clear hk);(try clear hi);obtain ⟨hczq13_0,hczq13_1,hczq13_2,hczq13_3,hczq13_4,hczq13_5,hfzq13_0,hfzq13_1,hfzq13_2,hfzq13_3,hfzq13_4,hfzq13_5⟩ := cells6 BK340.out;obtain ⟨hczq14_0,hczq14_1,hczq14_2,hczq14_3,hczq14_4,hczq14_5,hfzq14_0,hfzq14_1,hfzq14_2,hfzq14_3,hfzq14_4,hfzq14_5⟩ := cells6 BK339.out))
 refine bodyPost_ret (results_cell_row rfl _ _ gb339 39 #[.int .i64 a0_0,.int .i64 a0_1,.int .i64 t341,.int .i64 t342,.int .i64 t343,.int .i64 t344] (0,0) _ rfl (by refine bP ?_;refine blk_put (cs := #[.int .i64 a0_0,.int .i64 a0_1,.int .i64 t341,.int .i64 t342,.int .i64 t343,.int .i64 0]) ?_ 5 _ rfl;refine bP ?_;refine blk_put (cs := #[.int .i64 a0_0,.int .i64 a0_1,.int .i64 t341,.int .i64 t342,.int .i64 0,.int .i64 0]) ?_ 4 _ rfl;refine bP ?_;refine blk_put (cs := #[.int .i64 a0_0,.int .i64 a0_1,.int .i64 t341,.int .i64 0,.int .i64 0,.int .i64 0]) ?_ 3 _ rfl;refine bP ?_;refine blk_put (cs := #[.int .i64 a0_0,.int .i64 a0_1,.int .i64 0,.int .i64 0,.int .i64 0,.int .i64 0]) ?_ 2 _ rfl;refine bP ?_;refine blk_put (cs := #[.int .i64 a0_0,.int .i64 0,.int .i64 0,.int .i64 0,.int .i64 0,.int .i64 0]) ?_ 1 _ rfl;refine bP ?_;refine blk_put (cs := #[.int .i64 0,.int .i64 0,.int .i64 0,.int .i64 0,.int .i64 0,.int .i64 0]) ?_ 0 _ rfl;refine bP ?_;refine blk_far ?_ NB339_340.out _;refine bP ?_;refine blk_far ?_ NB339_340.out _;refine bP ?_;exact BK339.out) Try.underlying39 rfl Z312) rfl ?_
 exact ⟨Z263,Z181⟩

/-! ### impl_isCount: function 119 -/
def impl_isCount.f (a0 : Int) (a1 : Int) : Option (Bool) := (impl_within.f a0 0 40).bind fun t345 => (if t345 = true then ((impl_within.f a1 1 100).bind fun t346 => (some t346)) else (some false))
set_option maxHeartbeats 8000000 in
set_option maxRecDepth 100000 in
theorem impl_isCount.calls (a0 : Int) (a1 : Int) (r : Bool) (w : World) (h : impl_isCount.f a0 a1 = some r) :
  Calls Try.prog 119 #[.int .i64 a0,.int .i64 a1] w fun e w' => e = .returned (.bool r) ∧ Drawn0 w w' := by
 have H := h
 clear h
 unfold impl_isCount.f at H
 obtain ⟨t345,A30,H⟩ := Option.bind_eq_some_iff.mp H
 have A3 := Aside0.mk A30
 clear A30
 by_cases c4 : t345 = true
 ·subst c4
  rw [if_pos rfl] at H
  obtain ⟨t346,A50,H⟩ := Option.bind_eq_some_iff.mp H
  have A5 := Aside0.mk A50
  clear A50
  obtain rfl := Option.some.inj H
  go_enter Try.func119,Try.ntmps119
  go_wp2_with (first | ((with_reducible refine gate_callee (f := 53) rfl ?_);refine goesL_ (some 6) rfl rfl Try.func53 Z312 rfl #[.int .i64 a0,.int .i64 0,.int .i64 40] rfl Z256 ?_;(with_reducible refine (impl_within.calls a0 0 40 true _ A3.out).mono ?_);rintro e w' ⟨rfl,⟨nd,rfl⟩⟩;refine ⟨_,rfl,?_⟩) | (go_at_call 53;(with_reducible refine (impl_within.calls a1 1 100 t346 _ A5.out).mono ?_);rintro e w' ⟨rfl,⟨nd,rfl⟩⟩))
  go_ret
  exact ⟨Z289,Z266⟩
 ·replace c4 := Bool.eq_false_iff.mpr c4
  subst c4
  rw [if_neg Bool.false_ne_true] at H
  obtain rfl := Option.some.inj H
  go_enter Try.func119,Try.ntmps119
  go_wp2_with (first | ((with_reducible refine gate_callee (f := 53) rfl ?_);refine goesL_ (some 6) rfl rfl Try.func53 Z312 rfl #[.int .i64 a0,.int .i64 0,.int .i64 40] rfl Z256 ?_;(with_reducible refine (impl_within.calls a0 0 40 false _ A3.out).mono ?_);rintro e w' ⟨rfl,⟨nd,rfl⟩⟩;refine ⟨_,rfl,?_⟩))
  go_ret
  exact ⟨Z289,Z266⟩

/-! ### impl_isLeafValue: function 146 -/
def impl_isLeafValue.f (a0 : Int) : Option (Bool) := (impl_within.f a0 (-1099511627776) 1099511627776).bind fun t347 => (some t347)
set_option maxHeartbeats 8000000 in
set_option maxRecDepth 100000 in
theorem impl_isLeafValue.calls (a0 : Int) (r : Bool) (w : World) (h : impl_isLeafValue.f a0 = some r) :
  Calls Try.prog 146 #[.int .i64 a0] w fun e w' => e = .returned (.bool r) ∧ Drawn0 w w' := by
 have H := h
 clear h
 unfold impl_isLeafValue.f at H
 obtain ⟨t347,A20,H⟩ := Option.bind_eq_some_iff.mp H
 have A2 := Aside0.mk A20
 clear A20
 obtain rfl := Option.some.inj H
 go_enter Try.func146,Try.ntmps146
 go_wp2_with (first | ((with_reducible refine gate_callee (f := 53) rfl ?_);refine goesL_ (some 4) rfl rfl Try.func53 Z312 rfl #[.int .i64 a0,.int .i64 (-1099511627776),.int .i64 1099511627776] rfl Z256 ?_;(with_reducible refine (impl_within.calls a0 (-1099511627776) 1099511627776 t347 _ A2.out).mono ?_);rintro e w' ⟨rfl,⟨nd,rfl⟩⟩;refine ⟨_,rfl,?_⟩))
 go_ret
 exact ⟨Z289,Z266⟩

/-! ### impl_BoundOk: function 120 -/
def impl_BoundOk.f (a0_0 : Int) (a0_1 : Int) : Option (Bool) := if a0_0 ≤ a0_1 then ((impl_isLeafValue.f a0_0).bind fun t349 => (if t349 = true then ((impl_isLeafValue.f a0_1).bind fun t350 => (some t350)) else (some false))) else (some false)
set_option maxHeartbeats 8000000 in
set_option maxRecDepth 100000 in
theorem impl_BoundOk.calls (a0_0 : Int) (a0_1 : Int) (r : Bool) (w : World) (h : impl_BoundOk.f a0_0 a0_1 = some r) :
  Calls Try.prog 120 #[.agg #[.int .i64 a0_0,.int .i64 a0_1]] w fun e w' => e = .returned (.bool r) ∧ Below w.heap.size w w' := by
 have hu35 := Try.underlying35
 have HB := Aside0.mk (Below.refl w.heap.size w)
 have H := h
 clear h
 unfold impl_BoundOk.f at H
 by_cases c2 : a0_0 ≤ a0_1
 ·rw [if_pos c2] at H
  have c2b0 : decide (a0_0 ≤ a0_1) = true := decide_eq_true c2
  clear c2
  obtain ⟨t349,A30,H⟩ := Option.bind_eq_some_iff.mp H
  have A3 := Aside0.mk A30
  clear A30
  by_cases c4 : t349 = true
  ·subst c4
   rw [if_pos rfl] at H
   obtain ⟨t350,A50,H⟩ := Option.bind_eq_some_iff.mp H
   have A5 := Aside0.mk A50
   clear A50
   obtain rfl := Option.some.inj H
   go_enter Try.func120,Try.ntmps120
   go_wp2_with (first | ((with_reducible refine gate_dst (N := 1) rfl ?_);refine bE 1 #[.int .i64 a0_0,.int .i64 a0_1] 35 (h := ?_);intro gb348 hg wq1 hbox hb;have n_ := Z114;clear HB;obtain ⟨HB,BK348,GW348,GE348⟩ := n_;clear hb hbox hg;obtain ⟨hczq2_0,hczq2_1,hfzq2_0,hfzq2_1⟩ := cells2 BK348.out) | (go_at_call 146;(with_reducible refine (impl_isLeafValue.calls a0_0 true _ A3.out).mono ?_);rintro e w' ⟨rfl,⟨nd,rfl⟩⟩) | (go_at_call 146;(with_reducible refine (impl_isLeafValue.calls a0_1 t350 _ A5.out).mono ?_);rintro e w' ⟨rfl,⟨nd,rfl⟩⟩))
   go_ret
   exact ⟨Z263,Z246⟩
  ·replace c4 := Bool.eq_false_iff.mpr c4
   subst c4
   rw [if_neg Bool.false_ne_true] at H
   obtain rfl := Option.some.inj H
   go_enter Try.func120,Try.ntmps120
   go_wp2_with (first | ((with_reducible refine gate_dst (N := 1) rfl ?_);refine bE 1 #[.int .i64 a0_0,.int .i64 a0_1] 35 (h := ?_);intro gb348 hg wq1 hbox hb;have n_ := Z114;clear HB;obtain ⟨HB,BK348,GW348,GE348⟩ := n_;clear hb hbox hg;obtain ⟨hczq2_0,hczq2_1,hfzq2_0,hfzq2_1⟩ := cells2 BK348.out) | (go_at_call 146;(with_reducible refine (impl_isLeafValue.calls a0_0 false _ A3.out).mono ?_);rintro e w' ⟨rfl,⟨nd,rfl⟩⟩))
   go_ret
   exact ⟨Z263,Z246⟩
 ·rw [if_neg c2] at H
  have c2b0 : decide (a0_0 ≤ a0_1) = false := decide_eq_false c2
  clear c2
  obtain rfl := Option.some.inj H
  go_enter Try.func120,Try.ntmps120
  go_wp2_with (first | ((with_reducible refine gate_dst (N := 1) rfl ?_);refine bE 1 #[.int .i64 a0_0,.int .i64 a0_1] 35 (h := ?_);intro gb348 hg wq1 hbox hb;have n_ := Z114;clear HB;obtain ⟨HB,BK348,GW348,GE348⟩ := n_;clear hb hbox hg;obtain ⟨hczq2_0,hczq2_1,hfzq2_0,hfzq2_1⟩ := cells2 BK348.out))
  go_ret
  exact ⟨Z263,Z246⟩

/-! ### impl_FloorDiv: function 121 -/
def impl_FloorDiv.j0 : Nat → Int → Int → Bool → Option (Int × Bool)
 | 0,_,_,_ => none
 | k + 1,x0,x1,x16 => if x16 = true then (some (0,false)) else (if x1 = 0 then (none) else (if (Int.tmod x0 x1) = 0 then (some (wrap64 (Int.tdiv x0 x1),true)) else (if ((decide (x0 < 0)) != (decide (x1 < 0))) = true then (some (wrap64 ((wrap64 (Int.tdiv x0 x1)) - 1),true)) else (some (wrap64 (Int.tdiv x0 x1),true)))))
def impl_FloorDiv.f (k : Nat) (a0 : Int) (a1 : Int) : Option (Int × Bool) := if a1 = 0 then (impl_FloorDiv.j0 k a0 a1 true) else (if a0 = (-9223372036854775808) then (impl_FloorDiv.j0 k a0 a1 (a1 == (-1))) else (impl_FloorDiv.j0 k a0 a1 false))
theorem impl_FloorDiv.mono_l : ∀ k,(∀ y0 y1 y2,LeO (impl_FloorDiv.j0 k y0 y1 y2) (impl_FloorDiv.j0 (k + 1) y0 y1 y2))
 | 0 => fun _ _ _ r h => by simp [impl_FloorDiv.j0] at h
 | k + 1 => by
  have ih0 := impl_FloorDiv.mono_l k
  ·intro y0 y1 y2
   unfold impl_FloorDiv.j0
   repeat' first
   | (with_reducible exact ih0 _ _ _)
   | (with_reducible exact LeO.refl _)
   | (with_reducible exact LeO.none _)
   | (with_reducible refine LeO.ite ?_ ?_)
   | (with_reducible refine LeO.bind ?_ (fun _ => ?_))
   | exact ih0 _ _ _
   | exact LeO.none _
   | refine LeO.ite ?_ ?_
   | refine LeO.bind ?_ (fun _ => ?_)
theorem impl_FloorDiv.mono : ∀ a0 a1 k,LeO (impl_FloorDiv.f k a0 a1) (impl_FloorDiv.f (k + 1) a0 a1) := by
 intro a0 a1 k
 have ih0 := impl_FloorDiv.mono_l k
 unfold impl_FloorDiv.f
 repeat' first
   | (with_reducible exact ih0 _ _ _)
   | (with_reducible exact LeO.refl _)
   | (with_reducible exact LeO.none _)
   | (with_reducible refine LeO.ite ?_ ?_)
   | (with_reducible refine LeO.bind ?_ (fun _ => ?_))
   | exact ih0 _ _ _
   | exact LeO.none _
   | refine LeO.ite ?_ ?_
   | refine LeO.bind ?_ (fun _ => ?_)
set_option maxHeartbeats 8000000 in
set_option maxRecDepth 100000 in
theorem impl_FloorDiv.calls (k : Nat) (a0 : Int) (a1 : Int) (r1 : Int) (r2 : Bool) (w : World) (h : impl_FloorDiv.f k a0 a1 = some (r1,r2)) :
  Calls Try.prog 121 #[.int .i64 a0,.int .i64 a1] w fun e w' => e = .returned (.tuple #[.int .i64 r1,.bool r2]) ∧ Drawn0 w w' := by
 have H := h
 clear h
 unfold impl_FloorDiv.f at H
 have HC3 := Aside0.mk H
 clear H
 go_enter Try.func121,Try.ntmps121
 go_upto_region 1 with (fail)
 go_cut [16] (fun v16 wc => ∃ (kq : Nat) (x16_2 : Bool),v16 = .bool x16_2 ∧ Aside0 (impl_FloorDiv.j0 kq a0 a1 x16_2 = some (r1,r2)) ∧ Aside0 (kq ≤ k) ∧ Drawn0 w wc)
 case first =>
  have H := HC3.out
  clear HC3
  by_cases c4 : a1 = 0
  ·rw [if_pos c4] at H
   have c4b0 : (a1 == 0) = true := beq_iff_eq.mpr c4
   have c4b1 : (a1 != 0) = false := bne_eq_false_iff_eq.mpr c4
   clear c4
   (first | rw [c4b0] | (simp only [i64_w,i32_w];rw [c4b0]) | skip)
   have H' := Aside0.mk H
   clear H
   go_wp2
   go_meet
   case rel => exact ⟨_,(true),Z289,H',⟨Z291⟩,Z266⟩
  ·rw [if_neg c4] at H
   have c4b0 : (a1 == 0) = false := beq_eq_false_iff_ne.mpr c4
   have c4b1 : (a1 != 0) = true := bne_iff_ne.mpr c4
   (first | rw [c4b0] | (simp only [i64_w,i32_w];rw [c4b0]) | skip)
   by_cases c5 : a0 = (-9223372036854775808)
   ·rw [if_pos c5] at H
    have c5b0 : (a0 == (-9223372036854775808)) = true := beq_iff_eq.mpr c5
    have c5b1 : (a0 != (-9223372036854775808)) = false := bne_eq_false_iff_eq.mpr c5
    clear c5
    have H' := Aside0.mk H
    clear H
    go_wp2
    go_meet
    case rel => exact ⟨_,((a1 == (-1))),Z289,H',⟨Z291⟩,Z266⟩
   ·rw [if_neg c5] at H
    have c5b0 : (a0 == (-9223372036854775808)) = false := beq_eq_false_iff_ne.mpr c5
    have c5b1 : (a0 != (-9223372036854775808)) = true := bne_iff_ne.mpr c5
    have H' := Aside0.mk H
    clear H
    go_wp2
    go_meet
    case rel => exact ⟨_,(false),Z289,H',⟨Z291⟩,Z266⟩
 case rest =>
  clear HC3
  try clear c1
  try clear p2
  try clear c4
  try clear c4b0
  try clear c4b1
  try clear c5
  try clear c5b0
  try clear c5b1
  obtain ⟨kq,x16_2,rfl,HA,HJ2,⟨mc2,rfl⟩⟩ := hcut
  cases kq with
  | zero => exact absurd HA.out (by simp [impl_FloorDiv.j0])
  | succ kj2 =>
   have H := HA.out
   clear HA
   simp only [impl_FloorDiv.j0] at H
   by_cases c6 : x16_2 = true
   ·subst c6
    rw [if_pos rfl] at H
    simp only [Option.some.injEq,Prod.mk.injEq] at H
    obtain ⟨rfl,rfl⟩ := H
    go_wp2
    go_ret2
    exact ⟨Z289,Z266⟩
   ·replace c6 := Bool.eq_false_iff.mpr c6
    subst c6
    rw [if_neg Bool.false_ne_true] at H
    by_cases c7 : a1 = 0
    ·rw [if_pos c7] at H
     exact absurd H Z553
    ·rw [if_neg c7] at H
     have c7b0 : (a1 == 0) = false := beq_eq_false_iff_ne.mpr c7
     have c7b1 : (a1 != 0) = true := bne_iff_ne.mpr c7
     by_cases c8 : (Int.tmod a0 a1) = 0
     ·rw [if_pos c8] at H
      have c8b0 : ((Int.tmod a0 a1) == 0) = true := beq_iff_eq.mpr c8
      have c8b1 : ((Int.tmod a0 a1) != 0) = false := bne_eq_false_iff_eq.mpr c8
      clear c8
      simp only [Option.some.injEq,Prod.mk.injEq] at H
      obtain ⟨rfl,rfl⟩ := H
      go_wp2
      go_ret2
      exact ⟨Z289,Z266⟩
     ·rw [if_neg c8] at H
      have c8b0 : ((Int.tmod a0 a1) == 0) = false := beq_eq_false_iff_ne.mpr c8
      have c8b1 : ((Int.tmod a0 a1) != 0) = true := bne_iff_ne.mpr c8
      by_cases c9 : ((decide (a0 < 0)) != (decide (a1 < 0))) = true
      ·rw [if_pos c9] at H
       have c9b0 : ((decide (a0 < 0)) != (decide (a1 < 0))) = true := c9
       (try (have c9b1 : decide ((decide (a0 < 0)) = (decide (a1 < 0))) = false := by simpa using c9))
       (try (have c9b2 : ((decide (a0 < 0)) == (decide (a1 < 0))) = false := by simpa using c9))
       (try (have c9b3 : ¬ ((decide (a0 < 0)) = (decide (a1 < 0))) := by simpa using c9))
       clear c9
       simp only [Option.some.injEq,Prod.mk.injEq] at H
       obtain ⟨rfl,rfl⟩ := H
       go_wp2
       go_ret2
       exact ⟨Z289,Z266⟩
      ·rw [if_neg c9] at H
       have c9b0 : ((decide (a0 < 0)) != (decide (a1 < 0))) = false := by simpa using c9
       (try (have c9b1 : decide ((decide (a0 < 0)) = (decide (a1 < 0))) = true := by simpa using c9))
       (try (have c9b2 : ((decide (a0 < 0)) == (decide (a1 < 0))) = true := by simpa using c9))
       clear c9
       simp only [Option.some.injEq,Prod.mk.injEq] at H
       obtain ⟨rfl,rfl⟩ := H
       go_wp2
       go_ret2
       exact ⟨Z289,Z266⟩

/-! ### impl_Brought: function 122 -/
def impl_Brought.f (a0 : Int) (a1 : Int) (a2 : Int) : Option (Int) := if a0 < a1 then (some a1) else (if a0 > a2 then (some a2) else (some a0))
set_option maxHeartbeats 8000000 in
set_option maxRecDepth 100000 in
theorem impl_Brought.calls (a0 : Int) (a1 : Int) (a2 : Int) (r : Int) (w : World) (h : impl_Brought.f a0 a1 a2 = some r) :
  Calls Try.prog 122 #[.int .i64 a0,.int .i64 a1,.int .i64 a2] w fun e w' => e = .returned (.int .i64 r) ∧ Drawn0 w w' := by
 have H := h
 clear h
 unfold impl_Brought.f at H
 by_cases c4 : a0 < a1
 ·rw [if_pos c4] at H
  have c4b0 : decide (a0 < a1) = true := decide_eq_true c4
  clear c4
  obtain rfl := Option.some.inj H
  go_enter Try.func122,Try.ntmps122
  go_wp2
  go_ret
  exact ⟨Z289,Z266⟩
 ·rw [if_neg c4] at H
  have c4b0 : decide (a0 < a1) = false := decide_eq_false c4
  clear c4
  by_cases c5 : a0 > a2
  ·rw [if_pos c5] at H
   have c5b0 : decide (a2 < a0) = true := decide_eq_true c5
   clear c5
   obtain rfl := Option.some.inj H
   go_enter Try.func122,Try.ntmps122
   go_wp2
   go_ret
   exact ⟨Z289,Z266⟩
  ·rw [if_neg c5] at H
   have c5b0 : decide (a2 < a0) = false := decide_eq_false c5
   clear c5
   obtain rfl := Option.some.inj H
   go_enter Try.func122,Try.ntmps122
   go_wp2
   go_ret
   exact ⟨Z289,Z266⟩

end Go.Proofs.Ytaepeajaefpooaa.QFnExactMayPart
