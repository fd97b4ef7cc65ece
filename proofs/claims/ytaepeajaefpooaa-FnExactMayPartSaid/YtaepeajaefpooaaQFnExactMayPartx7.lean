/- The machine side of FnExactMayPart: what each Go function that it reaches comes to. Conditions: none. -/
import Derived.Test.YtaepeajaefpooaaQFnExactMayPartx0
import Derived.Test.YtaepeajaefpooaaQFnExactMayPartx3
import Derived.Test.YtaepeajaefpooaaQFnExactMayPartx4
import Derived.Test.YtaepeajaefpooaaQFnExactMayPartx5
import Derived.Test.YtaepeajaefpooaaQFnExactMayPartx6
namespace Go.Proofs.Ytaepeajaefpooaa.QFnExactMayPart
open Go.RowKit Go.Proofs.YtaepeajaefpooaaW.PrintWords Go.Proofs.YtaepeajaefpooaaW.PrintLast Go.Proofs.YtaepeajaefpooaaW.PrintMore
attribute [local go_sem] max2_int min2_int max_two min_two max_three min_three max_four min_four   -- for this text's walks alone
set_option linter.unusedVariables false
set_option linter.unusedSimpArgs false

/-! ### spec_AddFrac: function 115 -/
def spec_AddFrac.f (k : Nat) (a0_0 : Bool) (a0_1 : Int) (a0_2 : Int) (a0_3 : Int) (a1_0 : Bool) (a1_1 : Int) (a1_2 : Int) (a1_3 : Int) : Option (Bool × Int × Int × Int × Bool) := (spec_l5Cross.f k a0_0 a0_1 a0_2 a0_3 a1_0 a1_1 a1_2 a1_3).bind fun bt239 => (if bt239.2.2.2.2.2.2 = true then ((spec_AddWide.f k bt239.1 bt239.2.1 bt239.2.2.1 bt239.2.2.2.1 bt239.2.2.2.2.1 bt239.2.2.2.2.2.1).bind fun bt248 => (if bt248.2.2.2 = true then ((spec_FracOk.f bt248.1 bt248.2.1 bt248.2.2.1 (wrap64 (a0_3 * a1_3))).bind fun t254 => (if t254 = true then (some (bt248.1,bt248.2.1,bt248.2.2.1,wrap64 (a0_3 * a1_3),true)) else (some (false,0,0,0,false)))) else (some (false,0,0,0,false)))) else (some (false,0,0,0,false)))
theorem spec_AddFrac.mono : ∀ a0 a1 a2 a3 a4 a5 a6 a7 k,LeO (spec_AddFrac.f k a0 a1 a2 a3 a4 a5 a6 a7) (spec_AddFrac.f (k + 1) a0 a1 a2 a3 a4 a5 a6 a7) := by
 intro a0 a1 a2 a3 a4 a5 a6 a7 k
 unfold spec_AddFrac.f
 repeat' first
   | (with_reducible exact spec_AddWide.mono _ _ _ _ _ _ _)
   | (with_reducible exact spec_l5Cross.mono _ _ _ _ _ _ _ _ _)
   | (with_reducible exact LeO.refl _)
   | (with_reducible exact LeO.none _)
   | (with_reducible refine LeO.ite ?_ ?_)
   | (with_reducible refine LeO.bind ?_ (fun _ => ?_))
   | exact spec_AddWide.mono _ _ _ _ _ _ _
   | exact spec_l5Cross.mono _ _ _ _ _ _ _ _ _
   | exact LeO.none _
   | refine LeO.ite ?_ ?_
   | refine LeO.bind ?_ (fun _ => ?_)
set_option maxHeartbeats 8000000 in
set_option maxRecDepth 100000 in
theorem spec_AddFrac.calls (k : Nat) (a0_0 : Bool) (a0_1 : Int) (a0_2 : Int) (a0_3 : Int) (a1_0 : Bool) (a1_1 : Int) (a1_2 : Int) (a1_3 : Int) (r1 : Bool) (r2 : Int) (r3 : Int) (r4 : Int) (r5 : Bool) (w : World) (h : spec_AddFrac.f k a0_0 a0_1 a0_2 a0_3 a1_0 a1_1 a1_2 a1_3 = some (r1,r2,r3,r4,r5)) :
  Calls Try.prog 115 #[.agg #[.bool a0_0,.int .u64 a0_1,.int .u64 a0_2,.int .i64 a0_3],.agg #[.bool a1_0,.int .u64 a1_1,.int .u64 a1_2,.int .i64 a1_3]] w fun e w' => e = .returned (.tuple #[.agg #[.bool r1,.int .u64 r2,.int .u64 r3,.int .i64 r4],.bool r5]) ∧ Below w.heap.size w w' := by
 have hu102 := Try.underlying102
 have hu100 := Try.underlying100
 have HB := Aside0.mk (Below.refl w.heap.size w)
 have H := h
 clear h
 unfold spec_AddFrac.f at H
 obtain ⟨⟨t239,t240,t241,t242,t243,t244,t245⟩,A30,H⟩ := Option.bind_eq_some_iff.mp H
 try dsimp only at H
 have A3 := Aside0.mk A30
 clear A30
 by_cases c4 : t245 = true
 ·subst c4
  rw [if_pos rfl] at H
  obtain ⟨⟨t248,t249,t250,t251⟩,A50,H⟩ := Option.bind_eq_some_iff.mp H
  try dsimp only at H
  have A5 := Aside0.mk A50
  clear A50
  by_cases c6 : t251 = true
  ·subst c6
   rw [if_pos rfl] at H
   obtain ⟨t254,A70,H⟩ := Option.bind_eq_some_iff.mp H
   have A7 := Aside0.mk A70
   clear A70
   by_cases c8 : t254 = true
   ·subst c8
    rw [if_pos rfl] at H
    simp only [Option.some.injEq,Prod.mk.injEq] at H
    obtain ⟨rfl,rfl,rfl,rfl,rfl⟩ := H
    go_enter Try.func115,Try.ntmps115
    go_wp2_with (first | ((with_reducible refine gate_dst (N := 2) rfl ?_);refine bE 2 #[.bool a0_0,.int .u64 a0_1,.int .u64 a0_2,.int .i64 a0_3] 102 (h := ?_);intro gb236 hg wq1 hbox hb;have n_ := Z107;clear HB;obtain ⟨HB,BK236,GW236,GE236⟩ := n_;clear hb hbox hg) | ((with_reducible refine gate_dst (N := 3) rfl ?_);refine bE 3 #[.bool a1_0,.int .u64 a1_1,.int .u64 a1_2,.int .i64 a1_3] 102 (h := ?_);intro gb237 hg wq2 hbox hb;have n_ := Z66;clear BK236 HB;obtain ⟨BK236,HB,BK237,GW237,GE237,NB236_237,NB237_236⟩ := n_;clear hb hbox hg) | ((with_reducible refine gate_dst (N := 4) rfl ?_);refine bE 4 #[.bool false,.int .u64 0,.int .u64 0,.int .i64 0] 102 (h := ?_);intro gb238 hg wq3 hbox hb;have n_ := Z38;clear BK236 BK237 HB;obtain ⟨BK236,BK237,HB,BK238,GW238,GE238,NB236_238,NB238_236,NB237_238,NB238_237⟩ := n_;clear hb hbox hg;have hnbq4 := NB236_237.out;have hncq4 := NB237_236.out;have hnbq5 := NB236_238.out;have hncq5 := NB238_236.out;obtain ⟨hczq6_0,hczq6_1,hczq6_2,hczq6_3,hfzq6_0,hfzq6_1,hfzq6_2,hfzq6_3⟩ := cells4 BK236.out;have hnbq7 := NB237_238.out;have hncq7 := NB238_237.out;obtain ⟨hczq8_0,hczq8_1,hczq8_2,hczq8_3,hfzq8_0,hfzq8_1,hfzq8_2,hfzq8_3⟩ := cells4 BK237.out) | ((with_reducible refine gate_callee (f := 117) rfl ?_);refine goesL_ (some 15) rfl rfl Try.func117 Z312 rfl #[.agg #[.bool a0_0,.int .u64 a0_1,.int .u64 a0_2,.int .i64 a0_3],.agg #[.bool a1_0,.int .u64 a1_1,.int .u64 a1_2,.int .i64 a1_3]] rfl Z256 ?_;(with_reducible refine (spec_l5Cross.calls k a0_0 a0_1 a0_2 a0_3 a1_0 a1_1 a1_2 a1_3 t239 t240 t241 t242 t243 t244 true _ A3.out).mono ?_);rintro e wq9 ⟨rfl,hb⟩;refine ⟨_,rfl,?_⟩;have n_ := Z92;clear BK236 BK237 BK238 HB;obtain ⟨BK236,BK237,BK238,HB⟩ := n_;(try clear hb);(try clear hb2);(try clear hk);(try clear hi)) | ((with_reducible refine gate_dst (N := 6) rfl ?_);refine bE 6 #[.bool false,.int .u64 0,.int .u64 0] 100 (h := ?_);intro gb246 hg wq10 hbox hb;have n_ := Z19;clear BK236 BK237 BK238 HB;obtain ⟨BK236,BK237,BK238,HB,BK246,GW246,GE246,NB236_246,NB246_236,NB237_246,NB246_237,NB238_246,NB246_238⟩ := n_;clear hb hbox hg) | ((with_reducible refine gate_dst (N := 7) rfl ?_);refine bE 7 #[.bool false,.int .u64 0,.int .u64 0] 100 (h := ?_);intro gb247 hg wq11 hbox hb;have n_ := Z7;clear BK236 BK237 BK238 BK246 HB;obtain ⟨BK236,BK237,BK238,BK246,HB,BK247,GW247,GE247,NB236_247,NB247_236,NB237_247,NB247_237,NB238_247,NB247_238,NB246_247,NB247_246⟩ := n_;clear hb hbox hg;have hnbq12 := NB246_236.out;have hncq12 := NB236_246.out;have hnbq13 := NB246_237.out;have hncq13 := NB237_246.out;have hnbq14 := NB246_238.out;have hncq14 := NB238_246.out;have hnbq15 := NB246_247.out;have hncq15 := NB247_246.out;obtain ⟨hczq16_0,hczq16_1,hczq16_2,hfzq16_0,hfzq16_1,hfzq16_2⟩ := cells3 BK246.out;have hnbq17 := NB247_236.out;have hncq17 := NB236_247.out;have hnbq18 := NB247_237.out;have hncq18 := NB237_247.out;have hnbq19 := NB247_238.out;have hncq19 := NB238_247.out;obtain ⟨hczq20_0,hczq20_1,hczq20_2,hfzq20_0,hfzq20_1,hfzq20_2⟩ := cells3 BK247.out) | ((with_reducible refine gate_callee (f := 140) rfl ?_);refine goesL_ (some 25) rfl rfl Try.func140 Z312 rfl #[.agg #[.bool t239,.int .u64 t240,.int .u64 t241],.agg #[.bool t242,.int .u64 t243,.int .u64 t244]] rfl Z256 ?_;(with_reducible refine (spec_AddWide.calls k t239 t240 t241 t242 t243 t244 t248 t249 t250 true _ A5.out).mono ?_);rintro e wq21 ⟨rfl,hb⟩;refine ⟨_,rfl,?_⟩;have n_ := Z13;clear BK236 BK237 BK238 BK246 BK247 HB;obtain ⟨BK236,BK237,BK238,BK246,BK247,HB⟩ := n_;(try clear hb);(try clear hb2);(try clear hk);(try clear hi)) | ((with_reducible refine gate_dst (N := 9) rfl ?_);refine bE 9 #[.bool false,.int .u64 0,.int .u64 0] 100 (h := ?_);intro gb252 hg wq22 hbox hb;have n_ := Z2;clear BK236 BK237 BK238 BK246 BK247 HB;obtain ⟨BK236,BK237,BK238,BK246,BK247,HB,BK252,GW252,GE252,NB236_252,NB252_236,NB237_252,NB252_237,NB238_252,NB252_238,NB246_252,NB252_246,NB247_252,NB252_247⟩ := n_;clear hb hbox hg;have hnbq23 := NB252_236.out;have hncq23 := NB236_252.out;have hnbq24 := NB252_237.out;have hncq24 := NB237_252.out;have hnbq25 := NB252_238.out;have hncq25 := NB238_252.out;have hnbq26 := NB252_246.out;have hncq26 := NB246_252.out;have hnbq27 := NB252_247.out;have hncq27 := NB247_252.out;obtain ⟨hczq28_0,hczq28_1,hczq28_2,hfzq28_0,hfzq28_1,hfzq28_2⟩ := cells3 BK252.out;obtain ⟨hczq29_0,hczq29_1,hczq29_2,hczq29_3,hfzq29_0,hfzq29_1,hfzq29_2,hfzq29_3⟩ := cells4 BK236.out;obtain ⟨hczq30_0,hczq30_1,hczq30_2,hczq30_3,hfzq30_0,hfzq30_1,hfzq30_2,hfzq30_3⟩ := cells4 BK237.out) | ((with_reducible refine gate_dst (N := 11) rfl ?_);refine bE 11 #[.bool false,.int .u64 0,.int .u64 0,.int .i64 0] 102 (h := ?_);intro gb253 hg wq31 hbox hb;have n_ := Z1;clear BK236 BK237 BK238 BK246 BK247 BK252 HB;obtain ⟨BK236,BK237,BK238,BK246,BK247,BK252,HB,BK253,GW253,GE253,NB236_253,NB253_236,NB237_253,NB253_237,NB238_253,NB253_238,NB246_253,NB253_246,NB247_253,NB253_247,NB252_253,NB253_252⟩ := n_;clear hb hbox hg;have hnbq32 := NB253_236.out;have hncq32 := NB236_253.out;have hnbq33 := NB253_237.out;have hncq33 := NB237_253.out;have hnbq34 := NB253_238.out;have hncq34 := NB238_253.out;have hnbq35 := NB253_246.out;have hncq35 := NB246_253.out;have hnbq36 := NB253_247.out;have hncq36 := NB247_253.out;have hnbq37 := NB253_252.out;have hncq37 := NB252_253.out;obtain ⟨hczq38_0,hczq38_1,hczq38_2,hczq38_3,hfzq38_0,hfzq38_1,hfzq38_2,hfzq38_3⟩ := cells4 BK253.out) | (go_at_call 141;(with_reducible refine (spec_FracOk.calls t248 t249 t250 (wrap64 (a0_3 * a1_3)) true _ A7.out).mono ?_);rintro e wq39 ⟨rfl,hb⟩;have n_ := Z11;clear BK236 BK237 BK238 BK246 BK247 BK252 BK253 HB;obtain ⟨BK236,BK237,BK238,BK246,BK247,BK252,BK253,HB⟩ := n_;(try clear hb);(try clear hb2);(try clear hk);(try clear hi);obtain ⟨hczq40_0,hczq40_1,hczq40_2,hczq40_3,hfzq40_0,hfzq40_1,hfzq40_2,hfzq40_3⟩ := cells4 BK253.out;obtain ⟨hczq41_0,hczq41_1,hczq41_2,hczq41_3,hfzq41_0,hfzq41_1,hfzq41_2,hfzq41_3⟩ := cells4 BK238.out))
    refine bodyPost_ret (results_ct rfl _ _ gb238 102 #[.bool t248,.int .u64 t249,.int .u64 t250,.int .i64 (wrap64 (a0_3 * a1_3))] (0,0) _ rfl (by refine bP ?_;refine blk_put (cs := #[.bool t248,.int .u64 t249,.int .u64 t250,.int .i64 0]) ?_ 3 _ rfl;refine bP ?_;refine blk_put (cs := #[.bool t248,.int .u64 t249,.int .u64 0,.int .i64 0]) ?_ 2 _ rfl;refine bP ?_;refine blk_put (cs := #[.bool t248,.int .u64 0,.int .u64 0,.int .i64 0]) ?_ 1 _ rfl;refine bP ?_;refine blk_put (cs := #[.bool false,.int .u64 0,.int .u64 0,.int .i64 0]) ?_ 0 _ rfl;refine bP ?_;exact BK238.out) Try.underlying102 rfl Z312) rfl ?_
    exact ⟨Z263,Z315⟩
   ·replace c8 := Bool.eq_false_iff.mpr c8
    subst c8
    rw [if_neg Bool.false_ne_true] at H
    simp only [Option.some.injEq,Prod.mk.injEq] at H
    obtain ⟨rfl,rfl,rfl,rfl,rfl⟩ := H
    go_enter Try.func115,Try.ntmps115
    go_wp2_with (first | ((with_reducible refine gate_dst (N := 2) rfl ?_);refine bE 2 #[.bool a0_0,.int .u64 a0_1,.int .u64 a0_2,.int .i64 a0_3] 102 (h := ?_);intro gb236 hg wq1 hbox hb;have n_ := Z107;clear HB;obtain ⟨HB,BK236,GW236,GE236⟩ := n_;clear hb hbox hg) | ((with_reducible refine gate_dst (N := 3) rfl ?_);refine bE 3 #[.bool a1_0,.int .u64 a1_1,.int .u64 a1_2,.int .i64 a1_3] 102 (h := ?_);intro gb237 hg wq2 hbox hb;have n_ := Z66;clear BK236 HB;obtain ⟨BK236,HB,BK237,GW237,GE237,NB236_237,NB237_236⟩ := n_;clear hb hbox hg) | ((with_reducible refine gate_dst (N := 4) rfl ?_);refine bE 4 #[.bool false,.int .u64 0,.int .u64 0,.int .i64 0] 102 (h := ?_);intro gb238 hg wq3 hbox hb;have n_ := Z38;clear BK236 BK237 HB;obtain ⟨BK236,BK237,HB,BK238,GW238,GE238,NB236_238,NB238_236,NB237_238,NB238_237⟩ := n_;clear hb hbox hg;have hnbq4 := NB236_237.out;have hncq4 := NB237_236.out;have hnbq5 := NB236_238.out;have hncq5 := NB238_236.out;obtain ⟨hczq6_0,hczq6_1,hczq6_2,hczq6_3,hfzq6_0,hfzq6_1,hfzq6_2,hfzq6_3⟩ := cells4 BK236.out;have hnbq7 := NB237_238.out;have hncq7 := NB238_237.out;obtain ⟨hczq8_0,hczq8_1,hczq8_2,hczq8_3,hfzq8_0,hfzq8_1,hfzq8_2,hfzq8_3⟩ := cells4 BK237.out) | ((with_reducible refine gate_callee (f := 117) rfl ?_);refine goesL_ (some 15) rfl rfl Try.func117 Z312 rfl #[.agg #[.bool a0_0,.int .u64 a0_1,.int .u64 a0_2,.int .i64 a0_3],.agg #[.bool a1_0,.int .u64 a1_1,.int .u64 a1_2,.int .i64 a1_3]] rfl Z256 ?_;(with_reducible refine (spec_l5Cross.calls k a0_0 a0_1 a0_2 a0_3 a1_0 a1_1 a1_2 a1_3 t239 t240 t241 t242 t243 t244 true _ A3.out).mono ?_);rintro e wq9 ⟨rfl,hb⟩;refine ⟨_,rfl,?_⟩;have n_ := Z92;clear BK236 BK237 BK238 HB;obtain ⟨BK236,BK237,BK238,HB⟩ := n_;(try clear hb);(try clear hb2);(try clear hk);(try clear hi)) | ((with_reducible refine gate_dst (N := 6) rfl ?_);refine bE 6 #[.bool false,.int .u64 0,.int .u64 0] 100 (h := ?_);intro gb246 hg wq10 hbox hb;have n_ := Z19;clear BK236 BK237 BK238 HB;obtain ⟨BK236,BK237,BK238,HB,BK246,GW246,GE246,NB236_246,NB246_236,NB237_246,NB246_237,NB238_246,NB246_238⟩ := n_;clear hb hbox hg) | ((with_reducible refine gate_dst (N := 7) rfl ?_);refine bE 7 #[.bool false,.int .u64 0,.int .u64 0] 100 (h := ?_);intro gb247 hg wq11 hbox hb;have n_ := Z7;clear BK236 BK237 BK238 BK246 HB;obtain ⟨BK236,BK237,BK238,BK246,HB,BK247,GW247,GE247,NB236_247,NB247_236,NB237_247,NB247_237,NB238_247,NB247_238,NB246_247,NB247_246⟩ := n_;clear hb hbox hg;have hnbq12 := NB246_236.out;have hncq12 := NB236_246.out;have hnbq13 := NB246_237.out;have hncq13 := NB237_246.out;have hnbq14 := NB246_238.out;have hncq14 := NB238_246.out;have hnbq15 := NB246_247.out;have hncq15 := NB247_246.out;obtain ⟨hczq16_0,hczq16_1,hczq16_2,hfzq16_0,hfzq16_1,hfzq16_2⟩ := cells3 BK246.out;have hnbq17 := NB247_236.out;have hncq17 := NB236_247.out;have hnbq18 := NB247_237.out;have hncq18 := NB237_247.out;have hnbq19 := NB247_238.out;have hncq19 := NB238_247.out;obtain ⟨hczq20_0,hczq20_1,hczq20_2,hfzq20_0,hfzq20_1,hfzq20_2⟩ := cells3 BK247.out) | ((with_reducible refine gate_callee (f := 140) rfl ?_);refine goesL_ (some 25) rfl rfl Try.func140 Z312 rfl #[.agg #[.bool t239,.int .u64 t240,.int .u64 t241],.agg #[.bool t242,.int .u64 t243,.int .u64 t244]] rfl Z256 ?_;(with_reducible refine (spec_AddWide.calls k t239 t240 t241 t242 t243 t244 t248 t249 t250 true _ A5.out).mono ?_);rintro e wq21 ⟨rfl,hb⟩;refine ⟨_,rfl,?_⟩;have n_ := Z13;clear BK236 BK237 BK238 BK246 BK247 HB;obtain ⟨BK236,BK237,BK238,BK246,BK247,HB⟩ := n_;(try clear hb);(try clear hb2);(try clear hk);(try clear hi)) | ((with_reducible refine gate_dst (N := 9) rfl ?_);refine bE 9 #[.bool false,.int .u64 0,.int .u64 0] 100 (h := ?_);intro gb252 hg wq22 hbox hb;have n_ := Z2;clear BK236 BK237 BK238 BK246 BK247 HB;obtain ⟨BK236,BK237,BK238,BK246,BK247,HB,BK252,GW252,GE252,NB236_252,NB252_236,NB237_252,NB252_237,NB238_252,NB252_238,NB246_252,NB252_246,NB247_252,NB252_247⟩ := n_;clear hb hbox hg;have hnbq23 := NB252_236.out;have hncq23 := NB236_252.out;have hnbq24 := NB252_237.out;have hncq24 := NB237_252.out;have hnbq25 := NB252_238.out;have hncq25 := NB238_252.out;have hnbq26 := NB252_246.out;have hncq26 := NB246_252.out;have hnbq27 := NB252_247.out;have hncq27 := NB247_252.out;obtain ⟨hczq28_0,hczq28_1,hczq28_2,hfzq28_0,hfzq28_1,hfzq28_2⟩ := cells3 BK252.out;obtain ⟨hczq29_0,hczq29_1,hczq29_2,hczq29_3,hfzq29_0,hfzq29_1,hfzq29_2,hfzq29_3⟩ := cells4 BK236.out;obtain ⟨hczq30_0,hczq30_1,hczq30_2,hczq30_3,hfzq30_0,hfzq30_1,hfzq30_2,hfzq30_3⟩ := cells4 BK237.out) | ((with_reducible refine gate_dst (N := 11) rfl ?_);refine bE 11 #[.bool false,.int .u64 0,.int .u64 0,.int .i64 0] 102 (h := ?_);intro gb253 hg wq31 hbox hb;have n_ := Z1;clear BK236 BK237 BK238 BK246 BK247 BK252 HB;obtain ⟨BK236,BK237,BK238,BK246,BK247,BK252,HB,BK253,GW253,GE253,NB236_253,NB253_236,NB237_253,NB253_237,NB238_253,NB253_238,NB246_253,NB253_246,NB247_253,NB253_247,NB252_253,NB253_252⟩ := n_;clear hb hbox hg;have hnbq32 := NB253_236.out;have hncq32 := NB236_253.out;have hnbq33 := NB253_237.out;have hncq33 := NB237_253.out;have hnbq34 := NB253_238.out;have hncq34 := NB238_253.out;have hnbq35 := NB253_246.out;have hncq35 := NB246_253.out;have hnbq36 := NB253_247.out;have hncq36 := NB247_253.out;have hnbq37 := NB253_252.out;have hncq37 := NB252_253.out;obtain ⟨hczq38_0,hczq38_1,hczq38_2,hczq38_3,hfzq38_0,hfzq38_1,hfzq38_2,hfzq38_3⟩ := cells4 BK253.out) | (go_at_call 141;(with_reducible refine (spec_FracOk.calls t248 t249 t250 (wrap64 (a0_3 * a1_3)) false _ A7.out).mono ?_);rintro e wq39 ⟨rfl,hb⟩;have n_ := Z11;clear BK236 BK237 BK238 BK246 BK247 BK252 BK253 HB;obtain ⟨BK236,BK237,BK238,BK246,BK247,BK252,BK253,HB⟩ := n_;(try clear hb);(try clear hb2);(try clear hk);(try clear hi);obtain ⟨hczq40_0,hczq40_1,hczq40_2,hczq40_3,hfzq40_0,hfzq40_1,hfzq40_2,hfzq40_3⟩ := cells4 BK238.out))
    refine bodyPost_ret (results_ct rfl _ _ gb238 102 #[.bool false,.int .u64 0,.int .u64 0,.int .i64 0] (0,0) _ rfl (by refine bP ?_;refine blk_put (cs := #[.bool false,.int .u64 0,.int .u64 0,.int .i64 0]) ?_ 3 _ rfl;refine bP ?_;refine blk_put (cs := #[.bool false,.int .u64 0,.int .u64 0,.int .i64 0]) ?_ 2 _ rfl;refine bP ?_;refine blk_put (cs := #[.bool false,.int .u64 0,.int .u64 0,.int .i64 0]) ?_ 1 _ rfl;refine bP ?_;refine blk_put (cs := #[.bool false,.int .u64 0,.int .u64 0,.int .i64 0]) ?_ 0 _ rfl;refine bP ?_;exact BK238.out) Try.underlying102 rfl Z312) rfl ?_
    exact ⟨Z263,Z315⟩
  ·replace c6 := Bool.eq_false_iff.mpr c6
   subst c6
   rw [if_neg Bool.false_ne_true] at H
   simp only [Option.some.injEq,Prod.mk.injEq] at H
   obtain ⟨rfl,rfl,rfl,rfl,rfl⟩ := H
   go_enter Try.func115,Try.ntmps115
   go_wp2_with (first | ((with_reducible refine gate_dst (N := 2) rfl ?_);refine bE 2 #[.bool a0_0,.int .u64 a0_1,.int .u64 a0_2,.int .i64 a0_3] 102 (h := ?_);intro gb236 hg wq1 hbox hb;have n_ := Z107;clear HB;obtain ⟨HB,BK236,GW236,GE236⟩ := n_;clear hb hbox hg) | ((with_reducible refine gate_dst (N := 3) rfl ?_);refine bE 3 #[.bool a1_0,.int .u64 a1_1,.int .u64 a1_2,.int .i64 a1_3] 102 (h := ?_);intro gb237 hg wq2 hbox hb;have n_ := Z66;clear BK236 HB;obtain ⟨BK236,HB,BK237,GW237,GE237,NB236_237,NB237_236⟩ := n_;clear hb hbox hg) | ((with_reducible refine gate_dst (N := 4) rfl ?_);refine bE 4 #[.bool false,.int .u64 0,.int .u64 0,.int .i64 0] 102 (h := ?_);intro gb238 hg wq3 hbox hb;have n_ := Z38;clear BK236 BK237 HB;obtain ⟨BK236,BK237,HB,BK238,GW238,GE238,NB236_238,NB238_236,NB237_238,NB238_237⟩ := n_;clear hb hbox hg;have hnbq4 := NB236_237.out;have hncq4 := NB237_236.out;have hnbq5 := NB236_238.out;have hncq5 := NB238_236.out;obtain ⟨hczq6_0,hczq6_1,hczq6_2,hczq6_3,hfzq6_0,hfzq6_1,hfzq6_2,hfzq6_3⟩ := cells4 BK236.out;have hnbq7 := NB237_238.out;have hncq7 := NB238_237.out;obtain ⟨hczq8_0,hczq8_1,hczq8_2,hczq8_3,hfzq8_0,hfzq8_1,hfzq8_2,hfzq8_3⟩ := cells4 BK237.out) | ((with_reducible refine gate_callee (f := 117) rfl ?_);refine goesL_ (some 15) rfl rfl Try.func117 Z312 rfl #[.agg #[.bool a0_0,.int .u64 a0_1,.int .u64 a0_2,.int .i64 a0_3],.agg #[.bool a1_0,.int .u64 a1_1,.int .u64 a1_2,.int .i64 a1_3]] rfl Z256 ?_;(with_reducible refine (spec_l5Cross.calls k a0_0 a0_1 a0_2 a0_3 a1_0 a1_1 a1_2 a1_3 t239 t240 t241 t242 t243 t244 true _ A3.out).mono ?_);rintro e wq9 ⟨rfl,hb⟩;refine ⟨_,rfl,?_⟩;have n_ := Z92;clear BK236 BK237 BK238 HB;obtain ⟨BK236,BK237,BK238,HB⟩ := n_;(try clear hb);(try clear hb2);(try clear hk);(try clear hi)) | ((with_reducible refine gate_dst (N := 6) rfl ?_);refine bE 6 #[.bool false,.int .u64 0,.int .u64 0] 100 (h := ?_);intro gb246 hg wq10 hbox hb;have n_ := Z19;clear BK236 BK237 BK238 HB;obtain ⟨BK236,BK237,BK238,HB,BK246,GW246,GE246,NB236_246,NB246_236,NB237_246,NB246_237,NB238_246,NB246_238⟩ := n_;clear hb hbox hg) | ((with_reducible refine gate_dst (N := 7) rfl ?_);refine bE 7 #[.bool false,.int .u64 0,.int .u64 0] 100 (h := ?_);intro gb247 hg wq11 hbox hb;have n_ := Z7;clear BK236 BK237 BK238 BK246 HB;obtain ⟨BK236,BK237,BK238,BK246,HB,BK247,GW247,GE247,NB236_247,NB247_236,NB237_247,NB247_237,NB238_247,NB247_238,NB246_247,NB247_246⟩ := n_;clear hb hbox hg;have hnbq12 := NB246_236.out;have hncq12 := NB236_246.out;have hnbq13 := NB246_237.out;have hncq13 := NB237_246.out;have hnbq14 := NB246_238.out;have hncq14 := NB238_246.out;have hnbq15 := NB246_247.out;have hncq15 := NB247_246.out;obtain ⟨hczq16_0,hczq16_1,hczq16_2,hfzq16_0,hfzq16_1,hfzq16_2⟩ := cells3 BK246.out;have hnbq17 := NB247_236.out;have hncq17 := NB236_247.out;have hnbq18 := NB247_237.out;have hncq18 := NB237_247.out;have hnbq19 := NB247_238.out;have hncq19 := NB238_247.out;obtain ⟨hczq20_0,hczq20_1,hczq20_2,hfzq20_0,hfzq20_1,hfzq20_2⟩ := cells3 BK247.out) | ((with_reducible refine gate_callee (f := 140) rfl ?_);refine goesL_ (some 25) rfl rfl Try.func140 Z312 rfl #[.agg #[.bool t239,.int .u64 t240,.int .u64 t241],.agg #[.bool t242,.int .u64 t243,.int .u64 t244]] rfl Z256 ?_;(with_reducible refine (spec_AddWide.calls k t239 t240 t241 t242 t243 t244 t248 t249 t250 false _ A5.out).mono ?_);rintro e wq21 ⟨rfl,hb⟩;refine ⟨_,rfl,?_⟩;have n_ := Z13;clear BK236 BK237 BK238 BK246 BK247 HB;obtain ⟨BK236,BK237,BK238,BK246,BK247,HB⟩ := n_;(try clear hb);(try clear hb2);(try clear hk);(try clear hi)) | ((with_reducible refine gate_dst (N := 9) rfl ?_);refine bE 9 #[.bool false,.int .u64 0,.int .u64 0] 100 (h := ?_);intro gb252 hg wq22 hbox hb;have n_ := Z2;clear BK236 BK237 BK238 BK246 BK247 HB;obtain ⟨BK236,BK237,BK238,BK246,BK247,HB,BK252,GW252,GE252,NB236_252,NB252_236,NB237_252,NB252_237,NB238_252,NB252_238,NB246_252,NB252_246,NB247_252,NB252_247⟩ := n_;clear hb hbox hg;have hnbq23 := NB252_236.out;have hncq23 := NB236_252.out;have hnbq24 := NB252_237.out;have hncq24 := NB237_252.out;have hnbq25 := NB252_238.out;have hncq25 := NB238_252.out;have hnbq26 := NB252_246.out;have hncq26 := NB246_252.out;have hnbq27 := NB252_247.out;have hncq27 := NB247_252.out;obtain ⟨hczq28_0,hczq28_1,hczq28_2,hfzq28_0,hfzq28_1,hfzq28_2⟩ := cells3 BK252.out;obtain ⟨hczq29_0,hczq29_1,hczq29_2,hczq29_3,hfzq29_0,hfzq29_1,hfzq29_2,hfzq29_3⟩ := cells4 BK236.out;obtain ⟨hczq30_0,hczq30_1,hczq30_2,hczq30_3,hfzq30_0,hfzq30_1,hfzq30_2,hfzq30_3⟩ := cells4 BK237.out) | ((with_reducible refine gate_dst (N := 11) rfl ?_);refine bE 11 #[.bool false,.int .u64 0,.int .u64 0,.int .i64 0] 102 (h := ?_);intro gb253 hg wq31 hbox hb;have n_ := Z1;clear BK236 BK237 BK238 BK246 BK247 BK252 HB;obtain ⟨BK236,BK237,BK238,BK246,BK247,BK252,HB,BK253,GW253,GE253,NB236_253,NB253_236,NB237_253,NB253_237,NB238_253,NB253_238,NB246_253,NB253_246,NB247_253,NB253_247,NB252_253,NB253_252⟩ := n_;clear hb hbox hg;have hnbq32 := NB253_236.out;have hncq32 := NB236_253.out;have hnbq33 := NB253_237.out;have hncq33 := NB237_253.out;have hnbq34 := NB253_238.out;have hncq34 := NB238_253.out;have hnbq35 := NB253_246.out;have hncq35 := NB246_253.out;have hnbq36 := NB253_247.out;have hncq36 := NB247_253.out;have hnbq37 := NB253_252.out;have hncq37 := NB252_253.out;obtain ⟨hczq38_0,hczq38_1,hczq38_2,hczq38_3,hfzq38_0,hfzq38_1,hfzq38_2,hfzq38_3⟩ := cells4 BK253.out;obtain ⟨hczq39_0,hczq39_1,hczq39_2,hczq39_3,hfzq39_0,hfzq39_1,hfzq39_2,hfzq39_3⟩ := cells4 BK238.out))
   refine bodyPost_ret (results_ct rfl _ _ gb238 102 #[.bool false,.int .u64 0,.int .u64 0,.int .i64 0] (0,0) _ rfl (by refine bP ?_;refine blk_put (cs := #[.bool false,.int .u64 0,.int .u64 0,.int .i64 0]) ?_ 3 _ rfl;refine bP ?_;refine blk_put (cs := #[.bool false,.int .u64 0,.int .u64 0,.int .i64 0]) ?_ 2 _ rfl;refine bP ?_;refine blk_put (cs := #[.bool false,.int .u64 0,.int .u64 0,.int .i64 0]) ?_ 1 _ rfl;refine bP ?_;refine blk_put (cs := #[.bool false,.int .u64 0,.int .u64 0,.int .i64 0]) ?_ 0 _ rfl;refine bP ?_;refine blk_far ?_ NB238_253.out _;refine bP ?_;refine blk_far ?_ NB238_253.out _;refine bP ?_;refine blk_far ?_ NB238_253.out _;refine bP ?_;refine blk_far ?_ NB238_253.out _;refine bP ?_;exact BK238.out) Try.underlying102 rfl Z312) rfl ?_
   exact ⟨Z263,Z315⟩
 ·replace c4 := Bool.eq_false_iff.mpr c4
  subst c4
  rw [if_neg Bool.false_ne_true] at H
  simp only [Option.some.injEq,Prod.mk.injEq] at H
  obtain ⟨rfl,rfl,rfl,rfl,rfl⟩ := H
  go_enter Try.func115,Try.ntmps115
  go_wp2_with (first | ((with_reducible refine gate_dst (N := 2) rfl ?_);refine bE 2 #[.bool a0_0,.int .u64 a0_1,.int .u64 a0_2,.int .i64 a0_3] 102 (h := ?_);intro gb236 hg wq1 hbox hb;have n_ := Z107;clear HB;obtain ⟨HB,BK236,GW236,GE236⟩ := n_;clear hb hbox hg) | ((with_reducible refine gate_dst (N := 3) rfl ?_);refine bE 3 #[.bool a1_0,.int .u64 a1_1,.int .u64 a1_2,.int .i64 a1_3] 102 (h := ?_);intro gb237 hg wq2 hbox hb;have n_ := Z66;clear BK236 HB;obtain ⟨BK236,HB,BK237,GW237,GE237,NB236_237,NB237_236⟩ := n_;clear hb hbox hg) | ((with_reducible refine gate_dst (N := 4) rfl ?_);refine bE 4 #[.bool false,.int .u64 0,.int .u64 0,.int .i64 0] 102 (h := ?_);intro gb238 hg wq3 hbox hb;have n_ := Z38;clear BK236 BK237 HB;obtain ⟨BK236,BK237,HB,BK238,GW238,GE238,NB236_238,NB238_236,NB237_238,NB238_237⟩ := n_;clear hb hbox hg;have hnbq4 := NB236_237.out;have hncq4 := NB237_236.out;have hnbq5 := NB236_238.out;have hncq5 := NB238_236.out;obtain ⟨hczq6_0,hczq6_1,hczq6_2,hczq6_3,hfzq6_0,hfzq6_1,hfzq6_2,hfzq6_3⟩ := cells4 BK236.out;have hnbq7 := NB237_238.out;have hncq7 := NB238_237.out;obtain ⟨hczq8_0,hczq8_1,hczq8_2,hczq8_3,hfzq8_0,hfzq8_1,hfzq8_2,hfzq8_3⟩ := cells4 BK237.out) | ((with_reducible refine gate_callee (f := 117) rfl ?_);refine goesL_ (some 15) rfl rfl Try.func117 Z312 rfl #[.agg #[.bool a0_0,.int .u64 a0_1,.int .u64 a0_2,.int .i64 a0_3],.agg #[.bool a1_0,.int .u64 a1_1,.int .u64 a1_2,.int .i64 a1_3]] rfl Z256 ?_;(with_reducible refine (spec_l5Cross.calls k a0_0 a0_1 a0_2 a0_3 a1_0 a1_1 a1_2 a1_3 t239 t240 t241 t242 t243 t244 false _ A3.out).mono ?_);rintro e wq9 ⟨rfl,hb⟩;refine ⟨_,rfl,?_⟩;have n_ := Z92;clear BK236 BK237 BK238 HB;obtain ⟨BK236,BK237,BK238,HB⟩ := n_;(try clear hb);(try clear hb2);(try clear hk);(try clear hi)) | ((with_reducible refine gate_dst (N := 6) rfl ?_);refine bE 6 #[.bool false,.int .u64 0,.int .u64 0] 100 (h := ?_);intro gb246 hg wq10 hbox hb;have n_ := Z19;clear BK236 BK237 BK238 HB;obtain ⟨BK236,BK237,BK238,HB,BK246,GW246,GE246,NB236_246,NB246_236,NB237_246,NB246_237,NB238_246,NB246_238⟩ := n_;clear hb hbox hg) | ((with_reducible refine gate_dst (N := 7) rfl ?_);refine bE 7 #[.bool false,.int .u64 0,.int .u64 0] 100 (h := ?_);intro gb247 hg wq11 hbox hb;have n_ := Z7;clear BK236 BK237 BK238 BK246 HB;obtain ⟨BK236,BK237,BK238,BK246,HB,BK247,GW247,GE247,NB236_247,NB247_236,NB237_247,NB247_237,NB238_247,NB247_238,NB246_247,NB247_246⟩ := n_;clear hb hbox hg;have hnbq12 := NB246_236.out;have hncq12 := NB236_246.out;have hnbq13 := NB246_237.out;have hncq13 := NB237_246.out;have hnbq14 := NB246_238.out;have hncq14 := NB238_246.out;have hnbq15 := NB246_247.out;have hncq15 := NB247_246.out;obtain ⟨hczq16_0,hczq16_1,hczq16_2,hfzq16_0,hfzq16_1,hfzq16_2⟩ := cells3 BK246.out;have hnbq17 := NB247_236.out;have hncq17 := NB236_247.out;have hnbq18 := NB247_237.out;have hncq18 := NB237_247.out;have hnbq19 := NB247_238.out;have hncq19 := NB238_247.out;obtain ⟨hczq20_0,hczq20_1,hczq20_2,hfzq20_0,hfzq20_1,hfzq20_2⟩ := cells3 BK247.out;obtain ⟨hczq21_0,hczq21_1,hczq21_2,hczq21_3,hfzq21_0,hfzq21_1,hfzq21_2,hfzq21_3⟩ := cells4 BK238.out))
  refine bodyPost_ret (results_ct rfl _ _ gb238 102 #[.bool false,.int .u64 0,.int .u64 0,.int .i64 0] (0,0) _ rfl (by refine bP ?_;refine blk_put (cs := #[.bool false,.int .u64 0,.int .u64 0,.int .i64 0]) ?_ 3 _ rfl;refine bP ?_;refine blk_put (cs := #[.bool false,.int .u64 0,.int .u64 0,.int .i64 0]) ?_ 2 _ rfl;refine bP ?_;refine blk_put (cs := #[.bool false,.int .u64 0,.int .u64 0,.int .i64 0]) ?_ 1 _ rfl;refine bP ?_;refine blk_put (cs := #[.bool false,.int .u64 0,.int .u64 0,.int .i64 0]) ?_ 0 _ rfl;refine bP ?_;refine blk_far ?_ NB238_247.out _;refine bP ?_;refine blk_far ?_ NB238_247.out _;refine bP ?_;refine blk_far ?_ NB238_247.out _;refine bP ?_;refine blk_far ?_ NB238_246.out _;refine bP ?_;refine blk_far ?_ NB238_246.out _;refine bP ?_;refine blk_far ?_ NB238_246.out _;refine bP ?_;exact BK238.out) Try.underlying102 rfl Z312) rfl ?_
  exact ⟨Z263,Z557⟩

/-! ### spec_GainOf: function 81 -/
def spec_GainOf.f (k : Nat) (a0_0 : Int) (a0_1 : Int) (a0_2 : Int) (a0_3 : Int) (a0_4 : Int) (a0_5 : Int) (a1 : Int) : Option (Bool × Int × Int × Int × Bool) := (spec_PlainGain.f a0_2 a0_3 a1).bind fun bt257 => ((spec_PlainGain.f a0_4 a0_5 a1).bind fun bt263 => (if bt257.2.2.2.2 = true then (if bt263.2.2.2.2 = true then ((spec_AddFrac.f k bt257.1 bt257.2.1 bt257.2.2.1 bt257.2.2.2.1 bt263.1 bt263.2.1 bt263.2.2.1 bt263.2.2.2.1).bind fun bt269 => (some (bt269.1,bt269.2.1,bt269.2.2.1,bt269.2.2.2.1,bt269.2.2.2.2))) else (some (false,0,0,0,false))) else (some (false,0,0,0,false))))
theorem spec_GainOf.mono : ∀ a0 a1 a2 a3 a4 a5 a6 k,LeO (spec_GainOf.f k a0 a1 a2 a3 a4 a5 a6) (spec_GainOf.f (k + 1) a0 a1 a2 a3 a4 a5 a6) := by
 intro a0 a1 a2 a3 a4 a5 a6 k
 unfold spec_GainOf.f
 repeat' first
   | (with_reducible exact spec_AddFrac.mono _ _ _ _ _ _ _ _ _)
   | (with_reducible exact LeO.refl _)
   | (with_reducible exact LeO.none _)
   | (with_reducible refine LeO.ite ?_ ?_)
   | (with_reducible refine LeO.bind ?_ (fun _ => ?_))
   | exact spec_AddFrac.mono _ _ _ _ _ _ _ _ _
   | exact LeO.none _
   | refine LeO.ite ?_ ?_
   | refine LeO.bind ?_ (fun _ => ?_)
set_option maxHeartbeats 8000000 in
set_option maxRecDepth 100000 in
theorem spec_GainOf.calls (k : Nat) (a0_0 : Int) (a0_1 : Int) (a0_2 : Int) (a0_3 : Int) (a0_4 : Int) (a0_5 : Int) (a1 : Int) (r1 : Bool) (r2 : Int) (r3 : Int) (r4 : Int) (r5 : Bool) (w : World) (h : spec_GainOf.f k a0_0 a0_1 a0_2 a0_3 a0_4 a0_5 a1 = some (r1,r2,r3,r4,r5)) :
  Calls Try.prog 81 #[.agg #[.int .i64 a0_0,.int .i64 a0_1,.int .i64 a0_2,.int .i64 a0_3,.int .i64 a0_4,.int .i64 a0_5],.int .i64 a1] w fun e w' => e = .returned (.tuple #[.agg #[.bool r1,.int .u64 r2,.int .u64 r3,.int .i64 r4],.bool r5]) ∧ Below w.heap.size w w' := by
 have hu39 := Try.underlying39
 have hu102 := Try.underlying102
 have hu37 := Try.underlying37
 have HB := Aside0.mk (Below.refl w.heap.size w)
 have H := h
 clear h
 unfold spec_GainOf.f at H
 obtain ⟨⟨t257,t258,t259,t260,t261⟩,A30,H⟩ := Option.bind_eq_some_iff.mp H
 try dsimp only at H
 have A3 := Aside0.mk A30
 clear A30
 obtain ⟨⟨t263,t264,t265,t266,t267⟩,A40,H⟩ := Option.bind_eq_some_iff.mp H
 try dsimp only at H
 have A4 := Aside0.mk A40
 clear A40
 by_cases c5 : t261 = true
 ·subst c5
  rw [if_pos rfl] at H
  by_cases c6 : t267 = true
  ·subst c6
   rw [if_pos rfl] at H
   obtain ⟨⟨t269,t270,t271,t272,t273⟩,A70,H⟩ := Option.bind_eq_some_iff.mp H
   try dsimp only at H
   have A7 := Aside0.mk A70
   clear A70
   simp only [Option.some.injEq,Prod.mk.injEq] at H
   obtain ⟨rfl,rfl,rfl,rfl,rfl⟩ := H
   go_enter Try.func81,Try.ntmps81
   go_wp2_with (first | ((with_reducible refine gate_dst (N := 2) rfl ?_);refine bE 2 #[.int .i64 a0_0,.int .i64 a0_1,.int .i64 a0_2,.int .i64 a0_3,.int .i64 a0_4,.int .i64 a0_5] 39 (h := ?_);intro gb255 hg wq1 hbox hb;have n_ := Z115;clear HB;obtain ⟨HB,BK255,GW255,GE255⟩ := n_;clear hb hbox hg) | ((with_reducible refine gate_dst (N := 4) rfl ?_);refine bE 4 #[.bool false,.int .u64 0,.int .u64 0,.int .i64 0] 102 (h := ?_);intro gb256 hg wq2 hbox hb;have n_ := Z65;clear BK255 HB;obtain ⟨BK255,HB,BK256,GW256,GE256,NB255_256,NB256_255⟩ := n_;clear hb hbox hg;have hnbq3 := NB255_256.out;have hncq3 := NB256_255.out;obtain ⟨hczq4_0,hczq4_1,hczq4_2,hczq4_3,hczq4_4,hczq4_5,hfzq4_0,hfzq4_1,hfzq4_2,hfzq4_3,hfzq4_4,hfzq4_5⟩ := cells6 BK255.out) | ((with_reducible refine gate_callee (f := 82) rfl ?_);refine goesL_ (some 14) rfl rfl Try.func82 Z312 rfl #[.agg #[.int .i64 a0_2,.int .i64 a0_3],.int .i64 a1] rfl Z256 ?_;(with_reducible refine (spec_PlainGain.calls a0_2 a0_3 a1 t257 t258 t259 t260 true _ A3.out).mono ?_);rintro e wq5 ⟨rfl,hb⟩;refine ⟨_,rfl,?_⟩;have n_ := Z134;clear BK255 BK256 HB;obtain ⟨BK255,BK256,HB⟩ := n_;(try clear hb);(try clear hb2);(try clear hk);(try clear hi)) | ((with_reducible refine gate_dst (N := 6) rfl ?_);refine bE 6 #[.bool false,.int .u64 0,.int .u64 0,.int .i64 0] 102 (h := ?_);intro gb262 hg wq6 hbox hb;have n_ := Z33;clear BK255 BK256 HB;obtain ⟨BK255,BK256,HB,BK262,GW262,GE262,NB255_262,NB262_255,NB256_262,NB262_256⟩ := n_;clear hb hbox hg;have hnbq7 := NB262_255.out;have hncq7 := NB255_262.out;have hnbq8 := NB262_256.out;have hncq8 := NB256_262.out;obtain ⟨hczq9_0,hczq9_1,hczq9_2,hczq9_3,hfzq9_0,hfzq9_1,hfzq9_2,hfzq9_3⟩ := cells4 BK262.out;obtain ⟨hczq10_0,hczq10_1,hczq10_2,hczq10_3,hczq10_4,hczq10_5,hfzq10_0,hfzq10_1,hfzq10_2,hfzq10_3,hfzq10_4,hfzq10_5⟩ := cells6 BK255.out) | ((with_reducible refine gate_callee (f := 82) rfl ?_);refine goesL_ (some 21) rfl rfl Try.func82 Z312 rfl #[.agg #[.int .i64 a0_4,.int .i64 a0_5],.int .i64 a1] rfl Z256 ?_;(with_reducible refine (spec_PlainGain.calls a0_4 a0_5 a1 t263 t264 t265 t266 true _ A4.out).mono ?_);rintro e wq11 ⟨rfl,hb⟩;refine ⟨_,rfl,?_⟩;have n_ := Z51;clear BK255 BK256 BK262 HB;obtain ⟨BK255,BK256,BK262,HB⟩ := n_;(try clear hb);(try clear hb2);(try clear hk);(try clear hi)) | ((with_reducible refine gate_dst (N := 8) rfl ?_);refine bE 8 #[.bool false,.int .u64 0,.int .u64 0,.int .i64 0] 102 (h := ?_);intro gb268 hg wq12 hbox hb;have n_ := Z16;clear BK255 BK256 BK262 HB;obtain ⟨BK255,BK256,BK262,HB,BK268,GW268,GE268,NB255_268,NB268_255,NB256_268,NB268_256,NB262_268,NB268_262⟩ := n_;clear hb hbox hg;have hnbq13 := NB268_255.out;have hncq13 := NB255_268.out;have hnbq14 := NB268_256.out;have hncq14 := NB256_268.out;have hnbq15 := NB268_262.out;have hncq15 := NB262_268.out;obtain ⟨hczq16_0,hczq16_1,hczq16_2,hczq16_3,hfzq16_0,hfzq16_1,hfzq16_2,hfzq16_3⟩ := cells4 BK268.out;obtain ⟨hczq17_0,hczq17_1,hczq17_2,hczq17_3,hfzq17_0,hfzq17_1,hfzq17_2,hfzq17_3⟩ := cells4 BK262.out) | ((with_reducible refine gate_callee (f := 115) rfl ?_);refine goesL_ (some 33) rfl rfl Try.func115 Z312 rfl #[.agg #[.bool t257,.int .u64 t258,.int .u64 t259,.int .i64 t260],.agg #[.bool t263,.int .u64 t264,.int .u64 t265,.int .i64 t266]] rfl Z256 ?_;(with_reducible refine (spec_AddFrac.calls k t257 t258 t259 t260 t263 t264 t265 t266 t269 t270 t271 t272 t273 _ A7.out).mono ?_);rintro e wq18 ⟨rfl,hb⟩;refine ⟨_,rfl,?_⟩;have n_ := jA (blk_below (g := gb255) (o := .cells #[.int .i64 a0_0,.int .i64 a0_1,.int .i64 a0_2,.int .i64 a0_3,.int .i64 a0_4,.int .i64 a0_5] 39 (0,0)) (by refine bP ?_;refine blk_far ?_ NB255_268.out _;refine bP ?_;refine blk_far ?_ NB255_268.out _;refine bP ?_;refine blk_far ?_ NB255_268.out _;refine bP ?_;refine blk_far ?_ NB255_268.out _;refine bP ?_;exact BK255.out) hb) (jA (blk_below (g := gb256) (o := .cells #[.bool false,.int .u64 0,.int .u64 0,.int .i64 0] 102 (0,0)) (by refine bP ?_;refine blk_far ?_ NB256_268.out _;refine bP ?_;refine blk_far ?_ NB256_268.out _;refine bP ?_;refine blk_far ?_ NB256_268.out _;refine bP ?_;refine blk_far ?_ NB256_268.out _;refine bP ?_;exact BK256.out) hb) (jA (blk_below (g := gb262) (o := .cells #[.bool t257,.int .u64 t258,.int .u64 t259,.int .i64 t260] 102 (0,0)) (by refine bP ?_;refine blk_far ?_ NB262_268.out _;refine bP ?_;refine blk_far ?_ NB262_268.out _;refine bP ?_;refine blk_far ?_ NB262_268.out _;refine bP ?_;refine blk_far ?_ NB262_268.out _;refine bP ?_;exact BK262.out) hb) (jA (blk_below (g := gb268) (o := .cells #[.bool t263,.int .u64 t264,.int .u64 t265,.int .i64 t266] 102 (0,0)) (by refine bP ?_;refine blk_put (cs := #[.bool t263,.int .u64 t264,.int .u64 t265,.int .i64 0]) ?_ 3 _ rfl;refine bP ?_;refine blk_put (cs := #[.bool t263,.int .u64 t264,.int .u64 0,.int .i64 0]) ?_ 2 _ rfl;refine bP ?_;refine blk_put (cs := #[.bool t263,.int .u64 0,.int .u64 0,.int .i64 0]) ?_ 1 _ rfl;refine bP ?_;refine blk_put (cs := #[.bool false,.int .u64 0,.int .u64 0,.int .i64 0]) ?_ 0 _ rfl;refine bP ?_;exact BK268.out) hb) (Aside0.mk (below_step Z169 hb)))));clear BK255 BK256 BK262 BK268 HB;obtain ⟨BK255,BK256,BK262,BK268,HB⟩ := n_;(try clear hb);(try clear hb2);(try clear hk);(try clear hi);obtain ⟨hczq19_0,hczq19_1,hczq19_2,hczq19_3,hfzq19_0,hfzq19_1,hfzq19_2,hfzq19_3⟩ := cells4 BK256.out))
   refine bodyPost_ret (results_ct rfl _ _ gb256 102 #[.bool t269,.int .u64 t270,.int .u64 t271,.int .i64 t272] (0,0) _ rfl (by refine bP ?_;refine blk_put (cs := #[.bool t269,.int .u64 t270,.int .u64 t271,.int .i64 0]) ?_ 3 _ rfl;refine bP ?_;refine blk_put (cs := #[.bool t269,.int .u64 t270,.int .u64 0,.int .i64 0]) ?_ 2 _ rfl;refine bP ?_;refine blk_put (cs := #[.bool t269,.int .u64 0,.int .u64 0,.int .i64 0]) ?_ 1 _ rfl;refine bP ?_;refine blk_put (cs := #[.bool false,.int .u64 0,.int .u64 0,.int .i64 0]) ?_ 0 _ rfl;refine bP ?_;exact BK256.out) Try.underlying102 rfl Z312) rfl ?_
   exact ⟨Z263,Z169⟩
  ·replace c6 := Bool.eq_false_iff.mpr c6
   subst c6
   rw [if_neg Bool.false_ne_true] at H
   simp only [Option.some.injEq,Prod.mk.injEq] at H
   obtain ⟨rfl,rfl,rfl,rfl,rfl⟩ := H
   go_enter Try.func81,Try.ntmps81
   go_wp2_with (first | ((with_reducible refine gate_dst (N := 2) rfl ?_);refine bE 2 #[.int .i64 a0_0,.int .i64 a0_1,.int .i64 a0_2,.int .i64 a0_3,.int .i64 a0_4,.int .i64 a0_5] 39 (h := ?_);intro gb255 hg wq1 hbox hb;have n_ := Z115;clear HB;obtain ⟨HB,BK255,GW255,GE255⟩ := n_;clear hb hbox hg) | ((with_reducible refine gate_dst (N := 4) rfl ?_);refine bE 4 #[.bool false,.int .u64 0,.int .u64 0,.int .i64 0] 102 (h := ?_);intro gb256 hg wq2 hbox hb;have n_ := Z65;clear BK255 HB;obtain ⟨BK255,HB,BK256,GW256,GE256,NB255_256,NB256_255⟩ := n_;clear hb hbox hg;have hnbq3 := NB255_256.out;have hncq3 := NB256_255.out;obtain ⟨hczq4_0,hczq4_1,hczq4_2,hczq4_3,hczq4_4,hczq4_5,hfzq4_0,hfzq4_1,hfzq4_2,hfzq4_3,hfzq4_4,hfzq4_5⟩ := cells6 BK255.out) | ((with_reducible refine gate_callee (f := 82) rfl ?_);refine goesL_ (some 14) rfl rfl Try.func82 Z312 rfl #[.agg #[.int .i64 a0_2,.int .i64 a0_3],.int .i64 a1] rfl Z256 ?_;(with_reducible refine (spec_PlainGain.calls a0_2 a0_3 a1 t257 t258 t259 t260 true _ A3.out).mono ?_);rintro e wq5 ⟨rfl,hb⟩;refine ⟨_,rfl,?_⟩;have n_ := Z134;clear BK255 BK256 HB;obtain ⟨BK255,BK256,HB⟩ := n_;(try clear hb);(try clear hb2);(try clear hk);(try clear hi)) | ((with_reducible refine gate_dst (N := 6) rfl ?_);refine bE 6 #[.bool false,.int .u64 0,.int .u64 0,.int .i64 0] 102 (h := ?_);intro gb262 hg wq6 hbox hb;have n_ := Z33;clear BK255 BK256 HB;obtain ⟨BK255,BK256,HB,BK262,GW262,GE262,NB255_262,NB262_255,NB256_262,NB262_256⟩ := n_;clear hb hbox hg;have hnbq7 := NB262_255.out;have hncq7 := NB255_262.out;have hnbq8 := NB262_256.out;have hncq8 := NB256_262.out;obtain ⟨hczq9_0,hczq9_1,hczq9_2,hczq9_3,hfzq9_0,hfzq9_1,hfzq9_2,hfzq9_3⟩ := cells4 BK262.out;obtain ⟨hczq10_0,hczq10_1,hczq10_2,hczq10_3,hczq10_4,hczq10_5,hfzq10_0,hfzq10_1,hfzq10_2,hfzq10_3,hfzq10_4,hfzq10_5⟩ := cells6 BK255.out) | ((with_reducible refine gate_callee (f := 82) rfl ?_);refine goesL_ (some 21) rfl rfl Try.func82 Z312 rfl #[.agg #[.int .i64 a0_4,.int .i64 a0_5],.int .i64 a1] rfl Z256 ?_;(with_reducible refine (spec_PlainGain.calls a0_4 a0_5 a1 t263 t264 t265 t266 false _ A4.out).mono ?_);rintro e wq11 ⟨rfl,hb⟩;refine ⟨_,rfl,?_⟩;have n_ := Z51;clear BK255 BK256 BK262 HB;obtain ⟨BK255,BK256,BK262,HB⟩ := n_;(try clear hb);(try clear hb2);(try clear hk);(try clear hi)) | ((with_reducible refine gate_dst (N := 8) rfl ?_);refine bE 8 #[.bool false,.int .u64 0,.int .u64 0,.int .i64 0] 102 (h := ?_);intro gb268 hg wq12 hbox hb;have n_ := Z16;clear BK255 BK256 BK262 HB;obtain ⟨BK255,BK256,BK262,HB,BK268,GW268,GE268,NB255_268,NB268_255,NB256_268,NB268_256,NB262_268,NB268_262⟩ := n_;clear hb hbox hg;have hnbq13 := NB268_255.out;have hncq13 := NB255_268.out;have hnbq14 := NB268_256.out;have hncq14 := NB256_268.out;have hnbq15 := NB268_262.out;have hncq15 := NB262_268.out;obtain ⟨hczq16_0,hczq16_1,hczq16_2,hczq16_3,hfzq16_0,hfzq16_1,hfzq16_2,hfzq16_3⟩ := cells4 BK268.out;obtain ⟨hczq17_0,hczq17_1,hczq17_2,hczq17_3,hfzq17_0,hfzq17_1,hfzq17_2,hfzq17_3⟩ := cells4 BK256.out))
   refine bodyPost_ret (results_ct rfl _ _ gb256 102 #[.bool false,.int .u64 0,.int .u64 0,.int .i64 0] (0,0) _ rfl Z97 Try.underlying102 rfl Z312) rfl ?_
   exact ⟨Z263,Z169⟩
 ·replace c5 := Bool.eq_false_iff.mpr c5
  subst c5
  rw [if_neg Bool.false_ne_true] at H
  simp only [Option.some.injEq,Prod.mk.injEq] at H
  obtain ⟨rfl,rfl,rfl,rfl,rfl⟩ := H
  go_enter Try.func81,Try.ntmps81
  go_wp2_with (first | ((with_reducible refine gate_dst (N := 2) rfl ?_);refine bE 2 #[.int .i64 a0_0,.int .i64 a0_1,.int .i64 a0_2,.int .i64 a0_3,.int .i64 a0_4,.int .i64 a0_5] 39 (h := ?_);intro gb255 hg wq1 hbox hb;have n_ := Z115;clear HB;obtain ⟨HB,BK255,GW255,GE255⟩ := n_;clear hb hbox hg) | ((with_reducible refine gate_dst (N := 4) rfl ?_);refine bE 4 #[.bool false,.int .u64 0,.int .u64 0,.int .i64 0] 102 (h := ?_);intro gb256 hg wq2 hbox hb;have n_ := Z65;clear BK255 HB;obtain ⟨BK255,HB,BK256,GW256,GE256,NB255_256,NB256_255⟩ := n_;clear hb hbox hg;have hnbq3 := NB255_256.out;have hncq3 := NB256_255.out;obtain ⟨hczq4_0,hczq4_1,hczq4_2,hczq4_3,hczq4_4,hczq4_5,hfzq4_0,hfzq4_1,hfzq4_2,hfzq4_3,hfzq4_4,hfzq4_5⟩ := cells6 BK255.out) | ((with_reducible refine gate_callee (f := 82) rfl ?_);refine goesL_ (some 14) rfl rfl Try.func82 Z312 rfl #[.agg #[.int .i64 a0_2,.int .i64 a0_3],.int .i64 a1] rfl Z256 ?_;(with_reducible refine (spec_PlainGain.calls a0_2 a0_3 a1 t257 t258 t259 t260 false _ A3.out).mono ?_);rintro e wq5 ⟨rfl,hb⟩;refine ⟨_,rfl,?_⟩;have n_ := Z134;clear BK255 BK256 HB;obtain ⟨BK255,BK256,HB⟩ := n_;(try clear hb);(try clear hb2);(try clear hk);(try clear hi)) | ((with_reducible refine gate_dst (N := 6) rfl ?_);refine bE 6 #[.bool false,.int .u64 0,.int .u64 0,.int .i64 0] 102 (h := ?_);intro gb262 hg wq6 hbox hb;have n_ := Z33;clear BK255 BK256 HB;obtain ⟨BK255,BK256,HB,BK262,GW262,GE262,NB255_262,NB262_255,NB256_262,NB262_256⟩ := n_;clear hb hbox hg;have hnbq7 := NB262_255.out;have hncq7 := NB255_262.out;have hnbq8 := NB262_256.out;have hncq8 := NB256_262.out;obtain ⟨hczq9_0,hczq9_1,hczq9_2,hczq9_3,hfzq9_0,hfzq9_1,hfzq9_2,hfzq9_3⟩ := cells4 BK262.out;obtain ⟨hczq10_0,hczq10_1,hczq10_2,hczq10_3,hczq10_4,hczq10_5,hfzq10_0,hfzq10_1,hfzq10_2,hfzq10_3,hfzq10_4,hfzq10_5⟩ := cells6 BK255.out) | ((with_reducible refine gate_callee (f := 82) rfl ?_);refine goesL_ (some 21) rfl rfl Try.func82 Z312 rfl #[.agg #[.int .i64 a0_4,.int .i64 a0_5],.int .i64 a1] rfl Z256 ?_;(with_reducible refine (spec_PlainGain.calls a0_4 a0_5 a1 t263 t264 t265 t266 t267 _ A4.out).mono ?_);rintro e wq11 ⟨rfl,hb⟩;refine ⟨_,rfl,?_⟩;have n_ := Z51;clear BK255 BK256 BK262 HB;obtain ⟨BK255,BK256,BK262,HB⟩ := n_;(try clear hb);(try clear hb2);(try clear hk);(try clear hi)) | ((with_reducible refine gate_dst (N := 8) rfl ?_);refine bE 8 #[.bool false,.int .u64 0,.int .u64 0,.int .i64 0] 102 (h := ?_);intro gb268 hg wq12 hbox hb;have n_ := Z16;clear BK255 BK256 BK262 HB;obtain ⟨BK255,BK256,BK262,HB,BK268,GW268,GE268,NB255_268,NB268_255,NB256_268,NB268_256,NB262_268,NB268_262⟩ := n_;clear hb hbox hg;have hnbq13 := NB268_255.out;have hncq13 := NB255_268.out;have hnbq14 := NB268_256.out;have hncq14 := NB256_268.out;have hnbq15 := NB268_262.out;have hncq15 := NB262_268.out;obtain ⟨hczq16_0,hczq16_1,hczq16_2,hczq16_3,hfzq16_0,hfzq16_1,hfzq16_2,hfzq16_3⟩ := cells4 BK268.out;obtain ⟨hczq17_0,hczq17_1,hczq17_2,hczq17_3,hfzq17_0,hfzq17_1,hfzq17_2,hfzq17_3⟩ := cells4 BK256.out))
  refine bodyPost_ret (results_ct rfl _ _ gb256 102 #[.bool false,.int .u64 0,.int .u64 0,.int .i64 0] (0,0) _ rfl Z97 Try.underlying102 rfl Z312) rfl ?_
  exact ⟨Z263,Z169⟩

/-! ### spec_CompareWide: function 118 -/
mutual
def spec_CompareWide.j0 : Nat → Bool → Bool → Int → Int → Bool → Int → Int → Option (Int)
 | 0,_,_,_,_,_,_,_ => none
 | k + 1,x5,x275000,x275001,x275002,x276000,x276001,x276002 => if x276000 = true then ((spec_l3Zero.f x276000 x276001 x276002).bind fun t277 => (spec_CompareWide.j1 k x5 (!t277) x275000 x275001 x275002 x276000 x276001 x276002)) else (spec_CompareWide.j1 k x5 false x275000 x275001 x275002 x276000 x276001 x276002)
def spec_CompareWide.j1 : Nat → Bool → Bool → Bool → Int → Int → Bool → Int → Int → Option (Int)
 | 0,_,_,_,_,_,_,_,_ => none
 | k + 1,x5,x6,x275000,x275001,x275002,x276000,x276001,x276002 => if x5 = true then (spec_CompareWide.j2 k x5 x6 (!x6) x275000 x275001 x275002 x276000 x276001 x276002) else (spec_CompareWide.j2 k x5 x6 false x275000 x275001 x275002 x276000 x276001 x276002)
def spec_CompareWide.j2 : Nat → Bool → Bool → Bool → Bool → Int → Int → Bool → Int → Int → Option (Int)
 | 0,_,_,_,_,_,_,_,_,_ => none
 | k + 1,x5,x6,x21,x275000,x275001,x275002,x276000,x276001,x276002 => if x21 = true then (some (-1)) else (if x6 = true then (spec_CompareWide.j3 k x5 (!x5) x275000 x275001 x275002 x276000 x276001 x276002) else (spec_CompareWide.j3 k x5 false x275000 x275001 x275002 x276000 x276001 x276002))
def spec_CompareWide.j3 : Nat → Bool → Bool → Bool → Int → Int → Bool → Int → Int → Option (Int)
 | 0,_,_,_,_,_,_,_,_ => none
 | k + 1,x5,x27,x275000,x275001,x275002,x276000,x276001,x276002 => if x27 = true then (some 1) else (if x5 = true then ((spec_l3Order.f k x276000 x276001 x276002 x275000 x275001 x275002).bind fun t278 => (some t278)) else ((spec_l3Order.f k x275000 x275001 x275002 x276000 x276001 x276002).bind fun t279 => (some t279)))
end
def spec_CompareWide.f (k : Nat) (a0_0 : Bool) (a0_1 : Int) (a0_2 : Int) (a1_0 : Bool) (a1_1 : Int) (a1_2 : Int) : Option (Int) := if a0_0 = true then ((spec_l3Zero.f a0_0 a0_1 a0_2).bind fun t276 => (spec_CompareWide.j0 k (!t276) a0_0 a0_1 a0_2 a1_0 a1_1 a1_2)) else (spec_CompareWide.j0 k false a0_0 a0_1 a0_2 a1_0 a1_1 a1_2)
theorem spec_CompareWide.mono_l : ∀ k,(∀ y0 y1 y2 y3 y4 y5 y6,LeO (spec_CompareWide.j0 k y0 y1 y2 y3 y4 y5 y6) (spec_CompareWide.j0 (k + 1) y0 y1 y2 y3 y4 y5 y6)) ∧ (∀ y0 y1 y2 y3 y4 y5 y6 y7,LeO (spec_CompareWide.j1 k y0 y1 y2 y3 y4 y5 y6 y7) (spec_CompareWide.j1 (k + 1) y0 y1 y2 y3 y4 y5 y6 y7)) ∧ (∀ y0 y1 y2 y3 y4 y5 y6 y7 y8,LeO (spec_CompareWide.j2 k y0 y1 y2 y3 y4 y5 y6 y7 y8) (spec_CompareWide.j2 (k + 1) y0 y1 y2 y3 y4 y5 y6 y7 y8)) ∧ (∀ y0 y1 y2 y3 y4 y5 y6 y7,LeO (spec_CompareWide.j3 k y0 y1 y2 y3 y4 y5 y6 y7) (spec_CompareWide.j3 (k + 1) y0 y1 y2 y3 y4 y5 y6 y7))
 | 0 => ⟨fun _ _ _ _ _ _ _ r h => by simp [spec_CompareWide.j0] at h,fun _ _ _ _ _ _ _ _ r h => by simp [spec_CompareWide.j1] at h,fun _ _ _ _ _ _ _ _ _ r h => by simp [spec_CompareWide.j2] at h,fun _ _ _ _ _ _ _ _ r h => by simp [spec_CompareWide.j3] at h⟩
 | k + 1 => by
  obtain ⟨ih0,ih1,ih2,ih3⟩ := spec_CompareWide.mono_l k
  refine ⟨?_,?_,?_,?_⟩
  ·intro y0 y1 y2 y3 y4 y5 y6
   unfold spec_CompareWide.j0
   repeat' first
   | (with_reducible exact ih0 _ _ _ _ _ _ _)
   | (with_reducible exact ih1 _ _ _ _ _ _ _ _)
   | (with_reducible exact ih2 _ _ _ _ _ _ _ _ _)
   | (with_reducible exact ih3 _ _ _ _ _ _ _ _)
   | (with_reducible exact spec_l3Order.mono _ _ _ _ _ _ _)
   | (with_reducible exact LeO.refl _)
   | (with_reducible exact LeO.none _)
   | (with_reducible refine LeO.ite ?_ ?_)
   | (with_reducible refine LeO.bind ?_ (fun _ => ?_))
   | exact ih0 _ _ _ _ _ _ _
   | exact ih1 _ _ _ _ _ _ _ _
   | exact ih2 _ _ _ _ _ _ _ _ _
   | exact ih3 _ _ _ _ _ _ _ _
   | exact spec_l3Order.mono _ _ _ _ _ _ _
   | exact LeO.none _
   | refine LeO.ite ?_ ?_
   | refine LeO.bind ?_ (fun _ => ?_)
  ·intro y0 y1 y2 y3 y4 y5 y6 y7
   unfold spec_CompareWide.j1
   repeat' first
   | (with_reducible exact ih0 _ _ _ _ _ _ _)
   | (with_reducible exact ih1 _ _ _ _ _ _ _ _)
   | (with_reducible exact ih2 _ _ _ _ _ _ _ _ _)
   | (with_reducible exact ih3 _ _ _ _ _ _ _ _)
   | (with_reducible exact spec_l3Order.mono _ _ _ _ _ _ _)
   | (with_reducible exact LeO.refl _)
   | (with_reducible exact LeO.none _)
   | (with_reducible refine LeO.ite ?_ ?_)
   | (with_reducible refine LeO.bind ?_ (fun _ => ?_))
   | exact ih0 _ _ _ _ _ _ _
   | exact ih1 _ _ _ _ _ _ _ _
   | exact ih2 _ _ _ _ _ _ _ _ _
   | exact ih3 _ _ _ _ _ _ _ _
   | exact spec_l3Order.mono _ _ _ _ _ _ _
   | exact LeO.none _
   | refine LeO.ite ?_ ?_
   | refine LeO.bind ?_ (fun _ => ?_)
  ·intro y0 y1 y2 y3 y4 y5 y6 y7 y8
   unfold spec_CompareWide.j2
   repeat' first
   | (with_reducible exact ih0 _ _ _ _ _ _ _)
   | (with_reducible exact ih1 _ _ _ _ _ _ _ _)
   | (with_reducible exact ih2 _ _ _ _ _ _ _ _ _)
   | (with_reducible exact ih3 _ _ _ _ _ _ _ _)
   | (with_reducible exact spec_l3Order.mono _ _ _ _ _ _ _)
   | (with_reducible exact LeO.refl _)
   | (with_reducible exact LeO.none _)
   | (with_reducible refine LeO.ite ?_ ?_)
   | (with_reducible refine LeO.bind ?_ (fun _ => ?_))
   | exact ih0 _ _ _ _ _ _ _
   | exact ih1 _ _ _ _ _ _ _ _
   | exact ih2 _ _ _ _ _ _ _ _ _
   | exact ih3 _ _ _ _ _ _ _ _
   | exact spec_l3Order.mono _ _ _ _ _ _ _
   | exact LeO.none _
   | refine LeO.ite ?_ ?_
   | refine LeO.bind ?_ (fun _ => ?_)
  ·intro y0 y1 y2 y3 y4 y5 y6 y7
   unfold spec_CompareWide.j3
   repeat' first
   | (with_reducible exact ih0 _ _ _ _ _ _ _)
   | (with_reducible exact ih1 _ _ _ _ _ _ _ _)
   | (with_reducible exact ih2 _ _ _ _ _ _ _ _ _)
   | (with_reducible exact ih3 _ _ _ _ _ _ _ _)
   | (with_reducible exact spec_l3Order.mono _ _ _ _ _ _ _)
   | (with_reducible exact LeO.refl _)
   | (with_reducible exact LeO.none _)
   | (with_reducible refine LeO.ite ?_ ?_)
   | (with_reducible refine LeO.bind ?_ (fun _ => ?_))
   | exact ih0 _ _ _ _ _ _ _
   | exact ih1 _ _ _ _ _ _ _ _
   | exact ih2 _ _ _ _ _ _ _ _ _
   | exact ih3 _ _ _ _ _ _ _ _
   | exact spec_l3Order.mono _ _ _ _ _ _ _
   | exact LeO.none _
   | refine LeO.ite ?_ ?_
   | refine LeO.bind ?_ (fun _ => ?_)
theorem spec_CompareWide.mono : ∀ a0 a1 a2 a3 a4 a5 k,LeO (spec_CompareWide.f k a0 a1 a2 a3 a4 a5) (spec_CompareWide.f (k + 1) a0 a1 a2 a3 a4 a5) := by
 intro a0 a1 a2 a3 a4 a5 k
 obtain ⟨ih0,ih1,ih2,ih3⟩ := spec_CompareWide.mono_l k
 unfold spec_CompareWide.f
 repeat' first
   | (with_reducible exact ih0 _ _ _ _ _ _ _)
   | (with_reducible exact ih1 _ _ _ _ _ _ _ _)
   | (with_reducible exact ih2 _ _ _ _ _ _ _ _ _)
   | (with_reducible exact ih3 _ _ _ _ _ _ _ _)
   | (with_reducible exact spec_l3Order.mono _ _ _ _ _ _ _)
   | (with_reducible exact LeO.refl _)
   | (with_reducible exact LeO.none _)
   | (with_reducible refine LeO.ite ?_ ?_)
   | (with_reducible refine LeO.bind ?_ (fun _ => ?_))
   | exact ih0 _ _ _ _ _ _ _
   | exact ih1 _ _ _ _ _ _ _ _
   | exact ih2 _ _ _ _ _ _ _ _ _
   | exact ih3 _ _ _ _ _ _ _ _
   | exact spec_l3Order.mono _ _ _ _ _ _ _
   | exact LeO.none _
   | refine LeO.ite ?_ ?_
   | refine LeO.bind ?_ (fun _ => ?_)
set_option maxHeartbeats 8000000 in
set_option maxRecDepth 100000 in
theorem spec_CompareWide.calls (k : Nat) (a0_0 : Bool) (a0_1 : Int) (a0_2 : Int) (a1_0 : Bool) (a1_1 : Int) (a1_2 : Int) (r : Int) (w : World) (h : spec_CompareWide.f k a0_0 a0_1 a0_2 a1_0 a1_1 a1_2 = some r) :
  Calls Try.prog 118 #[.agg #[.bool a0_0,.int .u64 a0_1,.int .u64 a0_2],.agg #[.bool a1_0,.int .u64 a1_1,.int .u64 a1_2]] w fun e w' => e = .returned (.int .i64 r) ∧ Below w.heap.size w w' := by
 have hu100 := Try.underlying100
 have HB := Aside0.mk (Below.refl w.heap.size w)
 have H := h
 clear h
 unfold spec_CompareWide.f at H
 have HC3 := Aside0.mk H
 clear H
 go_enter Try.func118,Try.ntmps118
 go_upto_region 1 with (first | ((with_reducible refine gate_dst (N := 2) rfl ?_);refine bE 2 #[.bool a0_0,.int .u64 a0_1,.int .u64 a0_2] 100 (h := ?_);intro gb274 hg w4 hbox hb;have n_ := jA (below_step Z614 hb) (jA (hbox) (jA ((Z456 : w.heap.size ≤ gb274)) (Aside0.mk ((Z456 : w.heap.size ≤ gb274)))));clear HB;obtain ⟨HB,BK274,GW274,GE274⟩ := n_;clear hb hbox hg) | ((with_reducible refine gate_dst (N := 3) rfl ?_);refine bE 3 #[.bool a1_0,.int .u64 a1_1,.int .u64 a1_2] 100 (h := ?_);intro gb275 hg w5 hbox hb;have n_ := jA (blk_below (g := gb274) (o := .cells #[.bool a0_0,.int .u64 a0_1,.int .u64 a0_2] 100 (0,0)) Z519 hb) (jA (below_step Z471 hb) (jA (hbox) (jA ((Z214 : w.heap.size ≤ gb275)) (jA ((Z214 : w.heap.size ≤ gb275)) (jA ((by rw [hg];exact Nat.ne_of_lt (blk_lt (g := gb274) (o := .cells #[.bool a0_0,.int .u64 a0_1,.int .u64 a0_2] 100 (0,0)) Z519) : gb274 ≠ gb275)) (Aside0.mk ((by rw [hg];exact Nat.ne_of_gt (blk_lt (g := gb274) (o := .cells #[.bool a0_0,.int .u64 a0_1,.int .u64 a0_2] 100 (0,0)) Z519) : gb275 ≠ gb274))))))));clear BK274 HB;obtain ⟨BK274,HB,BK275,GW275,GE275,NB274_275,NB275_274⟩ := n_;clear hb hbox hg))
 (try simp only [Act.put,List.setIfInBounds_toArray,List.set_cons_zero,List.set_cons_succ])
 go_cut [5] (fun v5 wc => ∃ (kq : Nat) (x5_2 : Bool),v5 = .bool x5_2 ∧ Aside0 (spec_CompareWide.j0 kq x5_2 a0_0 a0_1 a0_2 a1_0 a1_1 a1_2 = some r) ∧ Aside0 (kq ≤ k) ∧ Aside0 (wc.heap[gb274]? = some (.cells #[.bool a0_0,.int .u64 a0_1,.int .u64 a0_2] 100 (0,0))) ∧ Aside0 (wc.heap[gb275]? = some (.cells #[.bool a1_0,.int .u64 a1_1,.int .u64 a1_2] 100 (0,0))) ∧ Aside0 (Below w.heap.size w wc))
 case first =>
  have H := HC3.out
  clear HC3
  by_cases c6 : a0_0 = true
  ·subst c6
   rw [if_pos rfl] at H
   obtain ⟨t276,A70,H⟩ := Option.bind_eq_some_iff.mp H
   have A7 := Aside0.mk A70
   clear A70
   have H' := Aside0.mk H
   clear H
   have hnb8 := NB274_275.out
   have hnc8 := NB275_274.out
   obtain ⟨hcz9_0,hcz9_1,hcz9_2,hfz9_0,hfz9_1,hfz9_2⟩ := cells3 BK274.out
   go_wp2_with (first | (go_at_call 144;(with_reducible refine (spec_l3Zero.calls true a0_1 a0_2 t276 _ A7.out).mono ?_);rintro e w10 ⟨rfl,hb⟩;have n_ := jA (blk_below (g := gb274) (o := .cells #[.bool true,.int .u64 a0_1,.int .u64 a0_2] 100 (0,0)) Z519 hb) (jA (blk_below (g := gb275) (o := .cells #[.bool a1_0,.int .u64 a1_1,.int .u64 a1_2] 100 (0,0)) Z520 hb) (Aside0.mk (below_step Z391 hb)));clear BK274 BK275 HB;obtain ⟨BK274,BK275,HB⟩ := n_;(try clear hb);(try clear hb2);(try clear hk);(try clear hi)))
   go_meet
   case rel => exact ⟨_,(!t276),Z289,H',⟨Z291⟩,⟨Z519⟩,⟨Z520⟩,⟨Z391⟩⟩
  ·replace c6 := Bool.eq_false_iff.mpr c6
   subst c6
   rw [if_neg Bool.false_ne_true] at H
   have H' := Aside0.mk H
   clear H
   have hnb11 := NB274_275.out
   have hnc11 := NB275_274.out
   obtain ⟨hcz12_0,hcz12_1,hcz12_2,hfz12_0,hfz12_1,hfz12_2⟩ := cells3 BK274.out
   go_wp2
   go_meet
   case rel => exact ⟨_,(false),Z289,H',⟨Z291⟩,⟨Z519⟩,⟨Z520⟩,⟨Z391⟩⟩
 case rest =>
  clear HC3
  try clear c1
  try clear p2
  try clear c6
  try clear c8
  try clear c11
  try clear hcz12_0
  try clear hcz12_1
  try clear hcz12_2
  try clear hcz9_0
  try clear hcz9_1
  try clear hcz9_2
  try clear hfz12_0
  try clear hfz12_1
  try clear hfz12_2
  try clear hfz9_0
  try clear hfz9_1
  try clear hfz9_2
  obtain ⟨kq,x5_2,rfl,HA,HJ2,BK274,BK275,HB⟩ := hcut
  cases kq with
  | zero => exact absurd HA.out (by simp [spec_CompareWide.j0])
  | succ kj2 =>
   have H := HA.out
   clear HA
   simp only [spec_CompareWide.j0] at H
   have HC13 := Aside0.mk H
   clear H
   go_upto_region 2 with (fail)
   go_cut [6] (fun v6 wc => ∃ (kq : Nat) (x6_12 : Bool),v6 = .bool x6_12 ∧ Aside0 (spec_CompareWide.j1 kq x5_2 x6_12 a0_0 a0_1 a0_2 a1_0 a1_1 a1_2 = some r) ∧ Aside0 (kq ≤ kj2) ∧ Aside0 (wc.heap[gb274]? = some (.cells #[.bool a0_0,.int .u64 a0_1,.int .u64 a0_2] 100 (0,0))) ∧ Aside0 (wc.heap[gb275]? = some (.cells #[.bool a1_0,.int .u64 a1_1,.int .u64 a1_2] 100 (0,0))) ∧ Aside0 (Below w.heap.size w wc))
   case first =>
    have H := HC13.out
    clear HC13
    by_cases c14 : a1_0 = true
    ·subst c14
     rw [if_pos rfl] at H
     obtain ⟨t277,A150,H⟩ := Option.bind_eq_some_iff.mp H
     have A15 := Aside0.mk A150
     clear A150
     have H' := Aside0.mk H
     clear H
     have hnb16 := NB275_274.out
     have hnc16 := NB274_275.out
     obtain ⟨hcz17_0,hcz17_1,hcz17_2,hfz17_0,hfz17_1,hfz17_2⟩ := cells3 BK275.out
     go_wp2_with (first | (go_at_call 144;(with_reducible refine (spec_l3Zero.calls true a1_1 a1_2 t277 _ A15.out).mono ?_);rintro e w18 ⟨rfl,hb⟩;have n_ := jA (blk_below (g := gb274) (o := .cells #[.bool a0_0,.int .u64 a0_1,.int .u64 a0_2] 100 (0,0)) Z519 hb) (jA (blk_below (g := gb275) (o := .cells #[.bool true,.int .u64 a1_1,.int .u64 a1_2] 100 (0,0)) Z520 hb) (Aside0.mk (below_step Z391 hb)));clear BK274 BK275 HB;obtain ⟨BK274,BK275,HB⟩ := n_;(try clear hb);(try clear hb2);(try clear hk);(try clear hi)))
     go_meet
     case rel => exact ⟨_,(!t277),Z289,H',⟨Z286⟩,⟨Z519⟩,⟨Z520⟩,⟨Z391⟩⟩
    ·replace c14 := Bool.eq_false_iff.mpr c14
     subst c14
     rw [if_neg Bool.false_ne_true] at H
     have H' := Aside0.mk H
     clear H
     have hnb19 := NB275_274.out
     have hnc19 := NB274_275.out
     obtain ⟨hcz20_0,hcz20_1,hcz20_2,hfz20_0,hfz20_1,hfz20_2⟩ := cells3 BK275.out
     go_wp2
     go_meet
     case rel => exact ⟨_,(false),Z289,H',⟨Z286⟩,⟨Z519⟩,⟨Z520⟩,⟨Z391⟩⟩
   case rest =>
    clear HC13
    try clear c1
    try clear p2
    try clear c6
    try clear c8
    try clear c11
    try clear c14
    try clear c16
    try clear c19
    try clear hcz12_0
    try clear hcz12_1
    try clear hcz12_2
    try clear hcz17_0
    try clear hcz17_1
    try clear hcz17_2
    try clear hcz20_0
    try clear hcz20_1
    try clear hcz20_2
    try clear hcz9_0
    try clear hcz9_1
    try clear hcz9_2
    try clear hfz12_0
    try clear hfz12_1
    try clear hfz12_2
    try clear hfz17_0
    try clear hfz17_1
    try clear hfz17_2
    try clear hfz20_0
    try clear hfz20_1
    try clear hfz20_2
    try clear hfz9_0
    try clear hfz9_1
    try clear hfz9_2
    try clear p2
    obtain ⟨kq,x6_12,rfl,HA,HJ12,BK274,BK275,HB⟩ := hcut
    cases kq with
    | zero => exact absurd HA.out (by simp [spec_CompareWide.j1])
    | succ kj12 =>
     have H := HA.out
     clear HA
     simp only [spec_CompareWide.j1] at H
     have HC21 := Aside0.mk H
     clear H
     go_upto_region 3 with (fail)
     go_cut [21] (fun v21 wc => ∃ (kq : Nat) (x21_20 : Bool),v21 = .bool x21_20 ∧ Aside0 (spec_CompareWide.j2 kq x5_2 x6_12 x21_20 a0_0 a0_1 a0_2 a1_0 a1_1 a1_2 = some r) ∧ Aside0 (kq ≤ kj12) ∧ Aside0 (wc.heap[gb274]? = some (.cells #[.bool a0_0,.int .u64 a0_1,.int .u64 a0_2] 100 (0,0))) ∧ Aside0 (wc.heap[gb275]? = some (.cells #[.bool a1_0,.int .u64 a1_1,.int .u64 a1_2] 100 (0,0))) ∧ Aside0 (Below w.heap.size w wc))
     case first =>
      have H := HC21.out
      clear HC21
      by_cases c22 : x5_2 = true
      ·subst c22
       rw [if_pos rfl] at H
       have H' := Aside0.mk H
       clear H
       go_wp2
       go_meet
       case rel => exact ⟨_,(!x6_12),Z289,H',⟨Z265⟩,⟨Z519⟩,⟨Z520⟩,⟨Z391⟩⟩
      ·replace c22 := Bool.eq_false_iff.mpr c22
       subst c22
       rw [if_neg Bool.false_ne_true] at H
       have H' := Aside0.mk H
       clear H
       go_wp2
       go_meet
       case rel => exact ⟨_,(false),Z289,H',⟨Z265⟩,⟨Z519⟩,⟨Z520⟩,⟨Z391⟩⟩
     case rest =>
      clear HC21
      try clear c1
      try clear c2
      try clear p2
      try clear c6
      try clear c8
      try clear c11
      try clear c14
      try clear c16
      try clear c19
      try clear c22
      try clear hcz12_0
      try clear hcz12_1
      try clear hcz12_2
      try clear hcz17_0
      try clear hcz17_1
      try clear hcz17_2
      try clear hcz20_0
      try clear hcz20_1
      try clear hcz20_2
      try clear hcz9_0
      try clear hcz9_1
      try clear hcz9_2
      try clear hfz12_0
      try clear hfz12_1
      try clear hfz12_2
      try clear hfz17_0
      try clear hfz17_1
      try clear hfz17_2
      try clear hfz20_0
      try clear hfz20_1
      try clear hfz20_2
      try clear hfz9_0
      try clear hfz9_1
      try clear hfz9_2
      try clear p2
      obtain ⟨kq,x21_20,rfl,HA,HJ20,BK274,BK275,HB⟩ := hcut
      cases kq with
      | zero => exact absurd HA.out (by simp [spec_CompareWide.j2])
      | succ kj20 =>
       have H := HA.out
       clear HA
       simp only [spec_CompareWide.j2] at H
       by_cases c23 : x21_20 = true
       ·subst c23
        rw [if_pos rfl] at H
        obtain rfl := Option.some.inj H
        go_wp2
        go_ret
        exact ⟨Z263,Z391⟩
       ·replace c23 := Bool.eq_false_iff.mpr c23
        subst c23
        rw [if_neg Bool.false_ne_true] at H
        have HC24 := Aside0.mk H
        clear H
        go_upto_region 5 with (fail)
        go_cut [27] (fun v27 wc => ∃ (kq : Nat) (x27_23 : Bool),v27 = .bool x27_23 ∧ Aside0 (spec_CompareWide.j3 kq x5_2 x27_23 a0_0 a0_1 a0_2 a1_0 a1_1 a1_2 = some r) ∧ Aside0 (kq ≤ kj20) ∧ Aside0 (wc.heap[gb274]? = some (.cells #[.bool a0_0,.int .u64 a0_1,.int .u64 a0_2] 100 (0,0))) ∧ Aside0 (wc.heap[gb275]? = some (.cells #[.bool a1_0,.int .u64 a1_1,.int .u64 a1_2] 100 (0,0))) ∧ Aside0 (Below w.heap.size w wc))
        case first =>
         have H := HC24.out
         clear HC24
         by_cases c25 : x6_12 = true
         ·subst c25
          rw [if_pos rfl] at H
          have H' := Aside0.mk H
          clear H
          go_wp2
          go_meet
          case rel => exact ⟨_,(!x5_2),Z289,H',⟨Z264⟩,⟨Z519⟩,⟨Z520⟩,⟨Z391⟩⟩
         ·replace c25 := Bool.eq_false_iff.mpr c25
          subst c25
          rw [if_neg Bool.false_ne_true] at H
          have H' := Aside0.mk H
          clear H
          go_wp2
          go_meet
          case rel => exact ⟨_,(false),Z289,H',⟨Z264⟩,⟨Z519⟩,⟨Z520⟩,⟨Z391⟩⟩
        case rest =>
         clear HC24
         try clear c1
         try clear c2
         try clear p2
         try clear c6
         try clear c8
         try clear c11
         try clear c14
         try clear c16
         try clear c19
         try clear c22
         try clear c23
         try clear c25
         try clear hcz12_0
         try clear hcz12_1
         try clear hcz12_2
         try clear hcz17_0
         try clear hcz17_1
         try clear hcz17_2
         try clear hcz20_0
         try clear hcz20_1
         try clear hcz20_2
         try clear hcz9_0
         try clear hcz9_1
         try clear hcz9_2
         try clear hfz12_0
         try clear hfz12_1
         try clear hfz12_2
         try clear hfz17_0
         try clear hfz17_1
         try clear hfz17_2
         try clear hfz20_0
         try clear hfz20_1
         try clear hfz20_2
         try clear hfz9_0
         try clear hfz9_1
         try clear hfz9_2
         try clear p2
         obtain ⟨kq,x27_23,rfl,HA,HJ23,BK274,BK275,HB⟩ := hcut
         cases kq with
         | zero => exact absurd HA.out (by simp [spec_CompareWide.j3])
         | succ kj23 =>
          have H := HA.out
          clear HA
          simp only [spec_CompareWide.j3] at H
          by_cases c26 : x27_23 = true
          ·subst c26
           rw [if_pos rfl] at H
           obtain rfl := Option.some.inj H
           go_wp2
           go_ret
           exact ⟨Z263,Z391⟩
          ·replace c26 := Bool.eq_false_iff.mpr c26
           subst c26
           rw [if_neg Bool.false_ne_true] at H
           by_cases c27 : x5_2 = true
           ·subst c27
            rw [if_pos rfl] at H
            obtain ⟨t278,A280,H⟩ := Option.bind_eq_some_iff.mp H
            have A28 := Aside0.mk A280
            clear A280
            obtain rfl := Option.some.inj H
            have hnb29 := NB275_274.out
            have hnc29 := NB274_275.out
            obtain ⟨hcz30_0,hcz30_1,hcz30_2,hfz30_0,hfz30_1,hfz30_2⟩ := cells3 BK275.out
            obtain ⟨hcz31_0,hcz31_1,hcz31_2,hfz31_0,hfz31_1,hfz31_2⟩ := cells3 BK274.out
            go_wp2_with (first | ((with_reducible refine gate_callee (f := 145) rfl ?_);refine goesL_ (some 37) rfl rfl Try.func145 Z312 rfl #[.agg #[.bool a1_0,.int .u64 a1_1,.int .u64 a1_2],.agg #[.bool a0_0,.int .u64 a0_1,.int .u64 a0_2]] rfl Z256 ?_;(with_reducible refine (spec_l3Order.calls kj23 a1_0 a1_1 a1_2 a0_0 a0_1 a0_2 t278 _ A28.out).mono ?_);rintro e wq1 ⟨rfl,hb⟩;refine ⟨_,rfl,?_⟩;have n_ := Z137;clear BK274 BK275 HB;obtain ⟨BK274,BK275,HB⟩ := n_;(try clear hb);(try clear hb2);(try clear hk);(try clear hi)))
            go_ret
            exact ⟨Z263,Z391⟩
           ·replace c27 := Bool.eq_false_iff.mpr c27
            subst c27
            rw [if_neg Bool.false_ne_true] at H
            obtain ⟨t279,A330,H⟩ := Option.bind_eq_some_iff.mp H
            have A33 := Aside0.mk A330
            clear A330
            obtain rfl := Option.some.inj H
            have hnb34 := NB274_275.out
            have hnc34 := NB275_274.out
            obtain ⟨hcz35_0,hcz35_1,hcz35_2,hfz35_0,hfz35_1,hfz35_2⟩ := cells3 BK274.out
            obtain ⟨hcz36_0,hcz36_1,hcz36_2,hfz36_0,hfz36_1,hfz36_2⟩ := cells3 BK275.out
            go_wp2_with (first | ((with_reducible refine gate_callee (f := 145) rfl ?_);refine goesL_ (some 40) rfl rfl Try.func145 Z312 rfl #[.agg #[.bool a0_0,.int .u64 a0_1,.int .u64 a0_2],.agg #[.bool a1_0,.int .u64 a1_1,.int .u64 a1_2]] rfl Z256 ?_;(with_reducible refine (spec_l3Order.calls kj23 a0_0 a0_1 a0_2 a1_0 a1_1 a1_2 t279 _ A33.out).mono ?_);rintro e wq1 ⟨rfl,hb⟩;refine ⟨_,rfl,?_⟩;have n_ := Z137;clear BK274 BK275 HB;obtain ⟨BK274,BK275,HB⟩ := n_;(try clear hb);(try clear hb2);(try clear hk);(try clear hi)))
            go_ret
            exact ⟨Z263,Z391⟩

/-! ### spec_CompareFrac: function 83 -/
def spec_CompareFrac.f (k : Nat) (a0_0 : Bool) (a0_1 : Int) (a0_2 : Int) (a0_3 : Int) (a1_0 : Bool) (a1_1 : Int) (a1_2 : Int) (a1_3 : Int) : Option (Int × Bool) := (spec_l5Cross.f k a0_0 a0_1 a0_2 a0_3 a1_0 a1_1 a1_2 a1_3).bind fun bt282 => (if bt282.2.2.2.2.2.2 = true then ((spec_CompareWide.f k bt282.1 bt282.2.1 bt282.2.2.1 bt282.2.2.2.1 bt282.2.2.2.2.1 bt282.2.2.2.2.2.1).bind fun t291 => (some (t291,true))) else (some (0,false)))
theorem spec_CompareFrac.mono : ∀ a0 a1 a2 a3 a4 a5 a6 a7 k,LeO (spec_CompareFrac.f k a0 a1 a2 a3 a4 a5 a6 a7) (spec_CompareFrac.f (k + 1) a0 a1 a2 a3 a4 a5 a6 a7) := by
 intro a0 a1 a2 a3 a4 a5 a6 a7 k
 unfold spec_CompareFrac.f
 repeat' first
   | (with_reducible exact spec_CompareWide.mono _ _ _ _ _ _ _)
   | (with_reducible exact spec_l5Cross.mono _ _ _ _ _ _ _ _ _)
   | (with_reducible exact LeO.refl _)
   | (with_reducible exact LeO.none _)
   | (with_reducible refine LeO.ite ?_ ?_)
   | (with_reducible refine LeO.bind ?_ (fun _ => ?_))
   | exact spec_CompareWide.mono _ _ _ _ _ _ _
   | exact spec_l5Cross.mono _ _ _ _ _ _ _ _ _
   | exact LeO.none _
   | refine LeO.ite ?_ ?_
   | refine LeO.bind ?_ (fun _ => ?_)
set_option maxHeartbeats 8000000 in
set_option maxRecDepth 100000 in
theorem spec_CompareFrac.calls (k : Nat) (a0_0 : Bool) (a0_1 : Int) (a0_2 : Int) (a0_3 : Int) (a1_0 : Bool) (a1_1 : Int) (a1_2 : Int) (a1_3 : Int) (r1 : Int) (r2 : Bool) (w : World) (h : spec_CompareFrac.f k a0_0 a0_1 a0_2 a0_3 a1_0 a1_1 a1_2 a1_3 = some (r1,r2)) :
  Calls Try.prog 83 #[.agg #[.bool a0_0,.int .u64 a0_1,.int .u64 a0_2,.int .i64 a0_3],.agg #[.bool a1_0,.int .u64 a1_1,.int .u64 a1_2,.int .i64 a1_3]] w fun e w' => e = .returned (.tuple #[.int .i64 r1,.bool r2]) ∧ Below w.heap.size w w' := by
 have hu102 := Try.underlying102
 have hu100 := Try.underlying100
 have HB := Aside0.mk (Below.refl w.heap.size w)
 have H := h
 clear h
 unfold spec_CompareFrac.f at H
 obtain ⟨⟨t282,t283,t284,t285,t286,t287,t288⟩,A30,H⟩ := Option.bind_eq_some_iff.mp H
 try dsimp only at H
 have A3 := Aside0.mk A30
 clear A30
 by_cases c4 : t288 = true
 ·subst c4
  rw [if_pos rfl] at H
  obtain ⟨t291,A50,H⟩ := Option.bind_eq_some_iff.mp H
  have A5 := Aside0.mk A50
  clear A50
  simp only [Option.some.injEq,Prod.mk.injEq] at H
  obtain ⟨rfl,rfl⟩ := H
  go_enter Try.func83,Try.ntmps83
  go_wp2_with (first | ((with_reducible refine gate_dst (N := 2) rfl ?_);refine bE 2 #[.bool a0_0,.int .u64 a0_1,.int .u64 a0_2,.int .i64 a0_3] 102 (h := ?_);intro gb280 hg wq1 hbox hb;have n_ := Z127;clear HB;obtain ⟨HB,BK280,GW280,GE280⟩ := n_;clear hb hbox hg) | ((with_reducible refine gate_dst (N := 3) rfl ?_);refine bE 3 #[.bool a1_0,.int .u64 a1_1,.int .u64 a1_2,.int .i64 a1_3] 102 (h := ?_);intro gb281 hg wq2 hbox hb;have n_ := Z69;clear BK280 HB;obtain ⟨BK280,HB,BK281,GW281,GE281,NB280_281,NB281_280⟩ := n_;clear hb hbox hg;have hnbq3 := NB280_281.out;have hncq3 := NB281_280.out;obtain ⟨hczq4_0,hczq4_1,hczq4_2,hczq4_3,hfzq4_0,hfzq4_1,hfzq4_2,hfzq4_3⟩ := cells4 BK280.out;obtain ⟨hczq5_0,hczq5_1,hczq5_2,hczq5_3,hfzq5_0,hfzq5_1,hfzq5_2,hfzq5_3⟩ := cells4 BK281.out) | ((with_reducible refine gate_callee (f := 117) rfl ?_);refine goesL_ (some 12) rfl rfl Try.func117 Z312 rfl #[.agg #[.bool a0_0,.int .u64 a0_1,.int .u64 a0_2,.int .i64 a0_3],.agg #[.bool a1_0,.int .u64 a1_1,.int .u64 a1_2,.int .i64 a1_3]] rfl Z256 ?_;(with_reducible refine (spec_l5Cross.calls k a0_0 a0_1 a0_2 a0_3 a1_0 a1_1 a1_2 a1_3 t282 t283 t284 t285 t286 t287 true _ A3.out).mono ?_);rintro e wq6 ⟨rfl,hb⟩;refine ⟨_,rfl,?_⟩;have n_ := Z136;clear BK280 BK281 HB;obtain ⟨BK280,BK281,HB⟩ := n_;(try clear hb);(try clear hb2);(try clear hk);(try clear hi)) | ((with_reducible refine gate_dst (N := 6) rfl ?_);refine bE 6 #[.bool false,.int .u64 0,.int .u64 0] 100 (h := ?_);intro gb289 hg wq7 hbox hb;have n_ := Z41;clear BK280 BK281 HB;obtain ⟨BK280,BK281,HB,BK289,GW289,GE289,NB280_289,NB289_280,NB281_289,NB289_281⟩ := n_;clear hb hbox hg) | ((with_reducible refine gate_dst (N := 7) rfl ?_);refine bE 7 #[.bool false,.int .u64 0,.int .u64 0] 100 (h := ?_);intro gb290 hg wq8 hbox hb;have n_ := Z22;clear BK280 BK281 BK289 HB;obtain ⟨BK280,BK281,BK289,HB,BK290,GW290,GE290,NB280_290,NB290_280,NB281_290,NB290_281,NB289_290,NB290_289⟩ := n_;clear hb hbox hg;have hnbq9 := NB289_280.out;have hncq9 := NB280_289.out;have hnbq10 := NB289_281.out;have hncq10 := NB281_289.out;have hnbq11 := NB289_290.out;have hncq11 := NB290_289.out;obtain ⟨hczq12_0,hczq12_1,hczq12_2,hfzq12_0,hfzq12_1,hfzq12_2⟩ := cells3 BK289.out;have hnbq13 := NB290_280.out;have hncq13 := NB280_290.out;have hnbq14 := NB290_281.out;have hncq14 := NB281_290.out;obtain ⟨hczq15_0,hczq15_1,hczq15_2,hfzq15_0,hfzq15_1,hfzq15_2⟩ := cells3 BK290.out) | ((with_reducible refine gate_callee (f := 118) rfl ?_);refine goesL_ (some 20) rfl rfl Try.func118 Z312 rfl #[.agg #[.bool t282,.int .u64 t283,.int .u64 t284],.agg #[.bool t285,.int .u64 t286,.int .u64 t287]] rfl Z256 ?_;(with_reducible refine (spec_CompareWide.calls k t282 t283 t284 t285 t286 t287 t291 _ A5.out).mono ?_);rintro e wq16 ⟨rfl,hb⟩;refine ⟨_,rfl,?_⟩;have n_ := jA (blk_below (g := gb280) (o := .cells #[.bool a0_0,.int .u64 a0_1,.int .u64 a0_2,.int .i64 a0_3] 102 (0,0)) (by refine bP ?_;refine blk_far ?_ NB280_290.out _;refine bP ?_;refine blk_far ?_ NB280_290.out _;refine bP ?_;refine blk_far ?_ NB280_290.out _;refine bP ?_;refine blk_far ?_ NB280_289.out _;refine bP ?_;refine blk_far ?_ NB280_289.out _;refine bP ?_;refine blk_far ?_ NB280_289.out _;refine bP ?_;exact BK280.out) hb) (jA (blk_below (g := gb281) (o := .cells #[.bool a1_0,.int .u64 a1_1,.int .u64 a1_2,.int .i64 a1_3] 102 (0,0)) (by refine bP ?_;refine blk_far ?_ NB281_290.out _;refine bP ?_;refine blk_far ?_ NB281_290.out _;refine bP ?_;refine blk_far ?_ NB281_290.out _;refine bP ?_;refine blk_far ?_ NB281_289.out _;refine bP ?_;refine blk_far ?_ NB281_289.out _;refine bP ?_;refine blk_far ?_ NB281_289.out _;refine bP ?_;exact BK281.out) hb) (jA (blk_below (g := gb289) (o := .cells #[.bool t282,.int .u64 t283,.int .u64 t284] 100 (0,0)) (by refine bP ?_;refine blk_far ?_ NB289_290.out _;refine bP ?_;refine blk_far ?_ NB289_290.out _;refine bP ?_;refine blk_far ?_ NB289_290.out _;refine bP ?_;refine blk_put (cs := #[.bool t282,.int .u64 t283,.int .u64 0]) ?_ 2 _ rfl;refine bP ?_;refine blk_put (cs := #[.bool t282,.int .u64 0,.int .u64 0]) ?_ 1 _ rfl;refine bP ?_;refine blk_put (cs := #[.bool false,.int .u64 0,.int .u64 0]) ?_ 0 _ rfl;refine bP ?_;exact BK289.out) hb) (jA (blk_below (g := gb290) (o := .cells #[.bool t285,.int .u64 t286,.int .u64 t287] 100 (0,0)) (by refine bP ?_;refine blk_put (cs := #[.bool t285,.int .u64 t286,.int .u64 0]) ?_ 2 _ rfl;refine bP ?_;refine blk_put (cs := #[.bool t285,.int .u64 0,.int .u64 0]) ?_ 1 _ rfl;refine bP ?_;refine blk_put (cs := #[.bool false,.int .u64 0,.int .u64 0]) ?_ 0 _ rfl;refine bP ?_;refine blk_far ?_ NB290_289.out _;refine bP ?_;refine blk_far ?_ NB290_289.out _;refine bP ?_;refine blk_far ?_ NB290_289.out _;refine bP ?_;exact BK290.out) hb) (Aside0.mk (below_step Z171 hb)))));clear BK280 BK281 BK289 BK290 HB;obtain ⟨BK280,BK281,BK289,BK290,HB⟩ := n_;(try clear hb);(try clear hb2);(try clear hk);(try clear hi)))
  go_ret2
  exact ⟨Z263,Z171⟩
 ·replace c4 := Bool.eq_false_iff.mpr c4
  subst c4
  rw [if_neg Bool.false_ne_true] at H
  simp only [Option.some.injEq,Prod.mk.injEq] at H
  obtain ⟨rfl,rfl⟩ := H
  go_enter Try.func83,Try.ntmps83
  go_wp2_with (first | ((with_reducible refine gate_dst (N := 2) rfl ?_);refine bE 2 #[.bool a0_0,.int .u64 a0_1,.int .u64 a0_2,.int .i64 a0_3] 102 (h := ?_);intro gb280 hg wq1 hbox hb;have n_ := Z127;clear HB;obtain ⟨HB,BK280,GW280,GE280⟩ := n_;clear hb hbox hg) | ((with_reducible refine gate_dst (N := 3) rfl ?_);refine bE 3 #[.bool a1_0,.int .u64 a1_1,.int .u64 a1_2,.int .i64 a1_3] 102 (h := ?_);intro gb281 hg wq2 hbox hb;have n_ := Z69;clear BK280 HB;obtain ⟨BK280,HB,BK281,GW281,GE281,NB280_281,NB281_280⟩ := n_;clear hb hbox hg;have hnbq3 := NB280_281.out;have hncq3 := NB281_280.out;obtain ⟨hczq4_0,hczq4_1,hczq4_2,hczq4_3,hfzq4_0,hfzq4_1,hfzq4_2,hfzq4_3⟩ := cells4 BK280.out;obtain ⟨hczq5_0,hczq5_1,hczq5_2,hczq5_3,hfzq5_0,hfzq5_1,hfzq5_2,hfzq5_3⟩ := cells4 BK281.out) | ((with_reducible refine gate_callee (f := 117) rfl ?_);refine goesL_ (some 12) rfl rfl Try.func117 Z312 rfl #[.agg #[.bool a0_0,.int .u64 a0_1,.int .u64 a0_2,.int .i64 a0_3],.agg #[.bool a1_0,.int .u64 a1_1,.int .u64 a1_2,.int .i64 a1_3]] rfl Z256 ?_;(with_reducible refine (spec_l5Cross.calls k a0_0 a0_1 a0_2 a0_3 a1_0 a1_1 a1_2 a1_3 t282 t283 t284 t285 t286 t287 false _ A3.out).mono ?_);rintro e wq6 ⟨rfl,hb⟩;refine ⟨_,rfl,?_⟩;have n_ := Z136;clear BK280 BK281 HB;obtain ⟨BK280,BK281,HB⟩ := n_;(try clear hb);(try clear hb2);(try clear hk);(try clear hi)) | ((with_reducible refine gate_dst (N := 6) rfl ?_);refine bE 6 #[.bool false,.int .u64 0,.int .u64 0] 100 (h := ?_);intro gb289 hg wq7 hbox hb;have n_ := Z41;clear BK280 BK281 HB;obtain ⟨BK280,BK281,HB,BK289,GW289,GE289,NB280_289,NB289_280,NB281_289,NB289_281⟩ := n_;clear hb hbox hg) | ((with_reducible refine gate_dst (N := 7) rfl ?_);refine bE 7 #[.bool false,.int .u64 0,.int .u64 0] 100 (h := ?_);intro gb290 hg wq8 hbox hb;have n_ := Z22;clear BK280 BK281 BK289 HB;obtain ⟨BK280,BK281,BK289,HB,BK290,GW290,GE290,NB280_290,NB290_280,NB281_290,NB290_281,NB289_290,NB290_289⟩ := n_;clear hb hbox hg;have hnbq9 := NB289_280.out;have hncq9 := NB280_289.out;have hnbq10 := NB289_281.out;have hncq10 := NB281_289.out;have hnbq11 := NB289_290.out;have hncq11 := NB290_289.out;obtain ⟨hczq12_0,hczq12_1,hczq12_2,hfzq12_0,hfzq12_1,hfzq12_2⟩ := cells3 BK289.out;have hnbq13 := NB290_280.out;have hncq13 := NB280_290.out;have hnbq14 := NB290_281.out;have hncq14 := NB281_290.out;obtain ⟨hczq15_0,hczq15_1,hczq15_2,hfzq15_0,hfzq15_1,hfzq15_2⟩ := cells3 BK290.out))
  go_ret2
  exact ⟨Z263,Z171⟩

end Go.Proofs.Ytaepeajaefpooaa.QFnExactMayPart
