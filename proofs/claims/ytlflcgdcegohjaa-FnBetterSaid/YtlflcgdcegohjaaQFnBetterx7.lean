/- The machine side of FnBetter: what each Go function that it reaches comes to. Conditions: none. -/
import Derived.Test.YtlflcgdcegohjaaQFnBetterx0
import Derived.Test.YtlflcgdcegohjaaQFnBetterx6
namespace Go.Proofs.Ytlflcgdcegohjaa.QFnBetter
open Go.RowKit Go.Proofs.YtlflcgdcegohjaaW.PrintWords Go.Proofs.YtlflcgdcegohjaaW.PrintLast Go.Proofs.YtlflcgdcegohjaaW.PrintMore
attribute [local go_sem] max2_int min2_int max_two min_two max_three min_three max_four min_four   -- for this text's walks alone
set_option linter.unusedVariables false
set_option linter.unusedSimpArgs false

/-! ### impl_ScaleWide: function 42 -/
def impl_ScaleWide.f (a0_0 : Bool) (a0_1 : Int) (a0_2 : Int) (a1 : Int) : Option (Bool × Int × Int × Bool) := (impl_WideOk.f a0_0 a0_1 a0_2).bind fun t403 => (if t403 = true then ((impl_size.f a1).bind fun t404 => ((bits_Mul64.f a0_1 t404).bind fun bt405 => ((bits_Mul64.f a0_2 t404).bind fun bt407 => ((bits_Add64.f bt405.2 bt407.1 0).bind fun bt409 => ((impl_wideOf.f (a0_0 != (decide (a1 < 0))) bt409.1 bt407.2).bind fun bt411 => (if bt405.1 > 0 then (some (false,0,0,false)) else (if bt409.2 > 0 then (some (false,0,0,false)) else ((impl_WideOk.f bt411.1 bt411.2.1 bt411.2.2).bind fun t415 => (if t415 = true then (some (bt411.1,bt411.2.1,bt411.2.2,true)) else (some (false,0,0,false))))))))))) else (some (false,0,0,false)))
set_option maxHeartbeats 8000000 in
set_option maxRecDepth 100000 in
theorem impl_ScaleWide.calls (a0_0 : Bool) (a0_1 : Int) (a0_2 : Int) (a1 : Int) (r1 : Bool) (r2 : Int) (r3 : Int) (r4 : Bool) (w : World) (h : impl_ScaleWide.f a0_0 a0_1 a0_2 a1 = some (r1,r2,r3,r4)) :
  Calls Try.prog 42 #[.agg #[.bool a0_0,.int .u64 a0_1,.int .u64 a0_2],.int .i64 a1] w fun e w' => e = .returned (.tuple #[.agg #[.bool r1,.int .u64 r2,.int .u64 r3],.bool r4]) ∧ Below w.heap.size w w' := by
 have hu39 := Try.underlying39
 have HB := Aside0.mk (Below.refl w.heap.size w)
 have H := h
 clear h
 unfold impl_ScaleWide.f at H
 obtain ⟨t403,A30,H⟩ := Option.bind_eq_some_iff.mp H
 have A3 := Aside0.mk A30
 clear A30
 by_cases c4 : t403 = true
 rotate_left
 ·replace c4 := Bool.eq_false_iff.mpr c4
  subst c4
  rw [if_neg Bool.false_ne_true] at H
  simp only [Option.some.injEq,Prod.mk.injEq] at H
  obtain ⟨rfl,rfl,rfl,rfl⟩ := H
  go_enter Try.func42,Try.ntmps42
  go_wp2_with (first | ((with_reducible refine gate_dst (N := 2) rfl ?_);refine bE 2 #[.bool a0_0,.int .u64 a0_1,.int .u64 a0_2] 39 (h := ?_);intro gb401 hg wq1 hbox hb;have n_ := Z99;clear HB;obtain ⟨HB,BK401,GW401,GE401⟩ := n_;clear hb hbox hg) | ((with_reducible refine gate_dst (N := 4) rfl ?_);refine bE 4 #[.bool false,.int .u64 0,.int .u64 0] 39 (h := ?_);intro gb402 hg wq2 hbox hb;have n_ := Z65;clear BK401 HB;obtain ⟨BK401,HB,BK402,GW402,GE402,NB401_402,NB402_401⟩ := n_;clear hb hbox hg;have hnbq3 := NB401_402.out;have hncq3 := NB402_401.out;obtain ⟨hczq4_0,hczq4_1,hczq4_2,hfzq4_0,hfzq4_1,hfzq4_2⟩ := cells3 BK401.out) | ((with_reducible refine gate_callee (f := 56) rfl ?_);refine goesL_ (some 14) rfl rfl Try.func56 Z310 rfl #[.agg #[.bool a0_0,.int .u64 a0_1,.int .u64 a0_2]] rfl Z249 ?_;(with_reducible refine (impl_WideOk.calls a0_0 a0_1 a0_2 false _ A3.out).mono ?_);rintro e wq5 ⟨rfl,hb⟩;refine ⟨_,rfl,?_⟩;have n_ := Z128;clear BK401 BK402 HB;obtain ⟨BK401,BK402,HB⟩ := n_;(try clear hb);(try clear hb2);(try clear hk);(try clear hi);obtain ⟨hczq6_0,hczq6_1,hczq6_2,hfzq6_0,hfzq6_1,hfzq6_2⟩ := cells3 BK402.out))
  refine bodyPost_ret (results_ct rfl _ _ gb402 39 #[.bool false,.int .u64 0,.int .u64 0] (0,0) _ rfl Z165 Try.underlying39 rfl Z310) rfl ?_
  exact ⟨Z265,Z545⟩
 subst c4
 rw [if_pos rfl] at H
 obtain ⟨t404,A50,H⟩ := Option.bind_eq_some_iff.mp H
 have A5 := Aside0.mk A50
 clear A50
 obtain ⟨⟨t405,t406⟩,A60,H⟩ := Option.bind_eq_some_iff.mp H
 try dsimp only at H
 have A6 := Aside0.mk A60
 clear A60
 obtain ⟨⟨t407,t408⟩,A70,H⟩ := Option.bind_eq_some_iff.mp H
 try dsimp only at H
 have A7 := Aside0.mk A70
 clear A70
 obtain ⟨⟨t409,t410⟩,A80,H⟩ := Option.bind_eq_some_iff.mp H
 try dsimp only at H
 have A8 := Aside0.mk A80
 clear A80
 obtain ⟨⟨t411,t412,t413⟩,A90,H⟩ := Option.bind_eq_some_iff.mp H
 try dsimp only at H
 have A9 := Aside0.mk A90
 clear A90
 by_cases c10 : t405 > 0
 ·rw [if_pos c10] at H
  have c10b0 : decide (0 < t405) = true := decide_eq_true c10
  clear c10
  simp only [Option.some.injEq,Prod.mk.injEq] at H
  obtain ⟨rfl,rfl,rfl,rfl⟩ := H
  go_enter Try.func42,Try.ntmps42
  go_wp2_with (first | ((with_reducible refine gate_dst (N := 2) rfl ?_);refine bE 2 #[.bool a0_0,.int .u64 a0_1,.int .u64 a0_2] 39 (h := ?_);intro gb401 hg wq1 hbox hb;have n_ := Z99;clear HB;obtain ⟨HB,BK401,GW401,GE401⟩ := n_;clear hb hbox hg) | ((with_reducible refine gate_dst (N := 4) rfl ?_);refine bE 4 #[.bool false,.int .u64 0,.int .u64 0] 39 (h := ?_);intro gb402 hg wq2 hbox hb;have n_ := Z65;clear BK401 HB;obtain ⟨BK401,HB,BK402,GW402,GE402,NB401_402,NB402_401⟩ := n_;clear hb hbox hg;have hnbq3 := NB401_402.out;have hncq3 := NB402_401.out;obtain ⟨hczq4_0,hczq4_1,hczq4_2,hfzq4_0,hfzq4_1,hfzq4_2⟩ := cells3 BK401.out) | ((with_reducible refine gate_callee (f := 56) rfl ?_);refine goesL_ (some 14) rfl rfl Try.func56 Z310 rfl #[.agg #[.bool a0_0,.int .u64 a0_1,.int .u64 a0_2]] rfl Z249 ?_;(with_reducible refine (impl_WideOk.calls a0_0 a0_1 a0_2 true _ A3.out).mono ?_);rintro e wq5 ⟨rfl,hb⟩;refine ⟨_,rfl,?_⟩;have n_ := Z128;clear BK401 BK402 HB;obtain ⟨BK401,BK402,HB⟩ := n_;(try clear hb);(try clear hb2);(try clear hk);(try clear hi)) | ((with_reducible refine gate_callee (f := 59) rfl ?_);refine goesL_ (some 18) rfl rfl Try.func59 Z310 rfl #[.int .i64 a1] rfl Z249 ?_;(with_reducible refine (impl_size.calls a1 t404 _ A5.out).mono ?_);rintro e w' ⟨rfl,⟨nd,rfl⟩⟩;refine ⟨_,rfl,?_⟩;(iterate 4 (try (rw [drewN_self wq5];generalize hq_ : World.drewN wq5 _ = wq5;have n0_ : Aside0 (wq5.heap[gb401]? = some (.cells #[.bool a0_0,.int .u64 a0_1,.int .u64 a0_2] 39 (0,0))) := ⟨Z277⟩;have n1_ : Aside0 (wq5.heap[gb402]? = some (.cells #[.bool false,.int .u64 0,.int .u64 0] 39 (0,0))) := ⟨Z276⟩;have n2_ : Aside0 (Below w.heap.size w wq5) := ⟨Z186⟩;clear BK401 BK402 HB hq_;have BK401 := n0_;have BK402 := n1_;have HB := n2_;clear n0_ n1_ n2_)));obtain ⟨hczq6_0,hczq6_1,hczq6_2,hfzq6_0,hfzq6_1,hfzq6_2⟩ := cells3 BK401.out) | ((with_reducible refine gate_callee (f := 60) rfl ?_);refine goesL_ (some 23) rfl rfl Try.func60 Z310 rfl #[.int .u64 a0_1,.int .u64 t404] rfl Z249 ?_;(with_reducible refine (bits_Mul64.calls a0_1 t404 t405 t406 _ A6.out).mono ?_);rintro e w' ⟨rfl,⟨nd,rfl⟩⟩;refine ⟨_,rfl,?_⟩;(iterate 4 (try (rw [drewN_self wq5];generalize hq_ : World.drewN wq5 _ = wq5;have n0_ : Aside0 (wq5.heap[gb401]? = some (.cells #[.bool a0_0,.int .u64 a0_1,.int .u64 a0_2] 39 (0,0))) := ⟨Z277⟩;have n1_ : Aside0 (wq5.heap[gb402]? = some (.cells #[.bool false,.int .u64 0,.int .u64 0] 39 (0,0))) := ⟨Z276⟩;have n2_ : Aside0 (Below w.heap.size w wq5) := ⟨Z186⟩;clear BK401 BK402 HB hq_;have BK401 := n0_;have BK402 := n1_;have HB := n2_;clear n0_ n1_ n2_)));(try (obtain ⟨hczq6_0,hczq6_1,hczq6_2,hfzq6_0,hfzq6_1,hfzq6_2⟩ := cells3 BK401.out))) | ((with_reducible refine gate_callee (f := 60) rfl ?_);refine goesL_ (some 30) rfl rfl Try.func60 Z310 rfl #[.int .u64 a0_2,.int .u64 t404] rfl Z249 ?_;(with_reducible refine (bits_Mul64.calls a0_2 t404 t407 t408 _ A7.out).mono ?_);rintro e w' ⟨rfl,⟨nd,rfl⟩⟩;refine ⟨_,rfl,?_⟩;(iterate 4 (try (rw [drewN_self wq5];generalize hq_ : World.drewN wq5 _ = wq5;have n0_ : Aside0 (wq5.heap[gb401]? = some (.cells #[.bool a0_0,.int .u64 a0_1,.int .u64 a0_2] 39 (0,0))) := ⟨Z277⟩;have n1_ : Aside0 (wq5.heap[gb402]? = some (.cells #[.bool false,.int .u64 0,.int .u64 0] 39 (0,0))) := ⟨Z276⟩;have n2_ : Aside0 (Below w.heap.size w wq5) := ⟨Z186⟩;clear BK401 BK402 HB hq_;have BK401 := n0_;have BK402 := n1_;have HB := n2_;clear n0_ n1_ n2_)));(try (obtain ⟨hczq6_0,hczq6_1,hczq6_2,hfzq6_0,hfzq6_1,hfzq6_2⟩ := cells3 BK401.out))) | (simp only [bits_Add64.run t406 t407 0 t409 t410 A8.out];(iterate 4 (try (rw [drewN_self wq5];generalize hq_ : World.drewN wq5 _ = wq5;have n0_ : Aside0 (wq5.heap[gb401]? = some (.cells #[.bool a0_0,.int .u64 a0_1,.int .u64 a0_2] 39 (0,0))) := ⟨Z277⟩;have n1_ : Aside0 (wq5.heap[gb402]? = some (.cells #[.bool false,.int .u64 0,.int .u64 0] 39 (0,0))) := ⟨Z276⟩;have n2_ : Aside0 (Below w.heap.size w wq5) := ⟨Z186⟩;clear BK401 BK402 HB hq_;have BK401 := n0_;have BK402 := n1_;have HB := n2_;clear n0_ n1_ n2_)));(try (obtain ⟨hczq6_0,hczq6_1,hczq6_2,hfzq6_0,hfzq6_1,hfzq6_2⟩ := cells3 BK401.out))) | ((with_reducible refine gate_callee (f := 43) rfl ?_);refine goesL_ (some 46) rfl rfl Try.func43 Z310 rfl #[.bool (a0_0 != (decide (a1 < 0))),.int .u64 t409,.int .u64 t408] rfl Z249 ?_;(with_reducible refine (impl_wideOf.calls (a0_0 != (decide (a1 < 0))) t409 t408 t411 t412 t413 _ A9.out).mono ?_);rintro e wq7 ⟨rfl,hb⟩;refine ⟨_,rfl,?_⟩;have n_ := Z128;clear BK401 BK402 HB;obtain ⟨BK401,BK402,HB⟩ := n_;(try clear hb);(try clear hb2);(try clear hk);(try clear hi)) | ((with_reducible refine gate_dst (N := 12) rfl ?_);refine bE 12 #[.bool false,.int .u64 0,.int .u64 0] 39 (h := ?_);intro gb414 hg wq8 hbox hb;have n_ := Z40;clear BK401 BK402 HB;obtain ⟨BK401,BK402,HB,BK414,GW414,GE414,NB401_414,NB414_401,NB402_414,NB414_402⟩ := n_;clear hb hbox hg;have hnbq9 := NB414_401.out;have hncq9 := NB401_414.out;have hnbq10 := NB414_402.out;have hncq10 := NB402_414.out;obtain ⟨hczq11_0,hczq11_1,hczq11_2,hfzq11_0,hfzq11_1,hfzq11_2⟩ := cells3 BK414.out;obtain ⟨hczq12_0,hczq12_1,hczq12_2,hfzq12_0,hfzq12_1,hfzq12_2⟩ := cells3 BK402.out))
  refine bodyPost_ret (results_ct rfl _ _ gb402 39 #[.bool false,.int .u64 0,.int .u64 0] (0,0) _ rfl Z137 Try.underlying39 rfl Z310) rfl ?_
  exact ⟨Z265,Z341⟩
 rw [if_neg c10] at H
 have c10b0 : decide (0 < t405) = false := decide_eq_false c10
 clear c10
 by_cases c23 : t410 > 0
 ·rw [if_pos c23] at H
  have c23b0 : decide (0 < t410) = true := decide_eq_true c23
  clear c23
  simp only [Option.some.injEq,Prod.mk.injEq] at H
  obtain ⟨rfl,rfl,rfl,rfl⟩ := H
  go_enter Try.func42,Try.ntmps42
  go_wp2_with (first | ((with_reducible refine gate_dst (N := 2) rfl ?_);refine bE 2 #[.bool a0_0,.int .u64 a0_1,.int .u64 a0_2] 39 (h := ?_);intro gb401 hg wq1 hbox hb;have n_ := Z99;clear HB;obtain ⟨HB,BK401,GW401,GE401⟩ := n_;clear hb hbox hg) | ((with_reducible refine gate_dst (N := 4) rfl ?_);refine bE 4 #[.bool false,.int .u64 0,.int .u64 0] 39 (h := ?_);intro gb402 hg wq2 hbox hb;have n_ := Z65;clear BK401 HB;obtain ⟨BK401,HB,BK402,GW402,GE402,NB401_402,NB402_401⟩ := n_;clear hb hbox hg;have hnbq3 := NB401_402.out;have hncq3 := NB402_401.out;obtain ⟨hczq4_0,hczq4_1,hczq4_2,hfzq4_0,hfzq4_1,hfzq4_2⟩ := cells3 BK401.out) | ((with_reducible refine gate_callee (f := 56) rfl ?_);refine goesL_ (some 14) rfl rfl Try.func56 Z310 rfl #[.agg #[.bool a0_0,.int .u64 a0_1,.int .u64 a0_2]] rfl Z249 ?_;(with_reducible refine (impl_WideOk.calls a0_0 a0_1 a0_2 true _ A3.out).mono ?_);rintro e wq5 ⟨rfl,hb⟩;refine ⟨_,rfl,?_⟩;have n_ := Z128;clear BK401 BK402 HB;obtain ⟨BK401,BK402,HB⟩ := n_;(try clear hb);(try clear hb2);(try clear hk);(try clear hi)) | ((with_reducible refine gate_callee (f := 59) rfl ?_);refine goesL_ (some 18) rfl rfl Try.func59 Z310 rfl #[.int .i64 a1] rfl Z249 ?_;(with_reducible refine (impl_size.calls a1 t404 _ A5.out).mono ?_);rintro e w' ⟨rfl,⟨nd,rfl⟩⟩;refine ⟨_,rfl,?_⟩;(iterate 4 (try (rw [drewN_self wq5];generalize hq_ : World.drewN wq5 _ = wq5;have n0_ : Aside0 (wq5.heap[gb401]? = some (.cells #[.bool a0_0,.int .u64 a0_1,.int .u64 a0_2] 39 (0,0))) := ⟨Z277⟩;have n1_ : Aside0 (wq5.heap[gb402]? = some (.cells #[.bool false,.int .u64 0,.int .u64 0] 39 (0,0))) := ⟨Z276⟩;have n2_ : Aside0 (Below w.heap.size w wq5) := ⟨Z186⟩;clear BK401 BK402 HB hq_;have BK401 := n0_;have BK402 := n1_;have HB := n2_;clear n0_ n1_ n2_)));obtain ⟨hczq6_0,hczq6_1,hczq6_2,hfzq6_0,hfzq6_1,hfzq6_2⟩ := cells3 BK401.out) | ((with_reducible refine gate_callee (f := 60) rfl ?_);refine goesL_ (some 23) rfl rfl Try.func60 Z310 rfl #[.int .u64 a0_1,.int .u64 t404] rfl Z249 ?_;(with_reducible refine (bits_Mul64.calls a0_1 t404 t405 t406 _ A6.out).mono ?_);rintro e w' ⟨rfl,⟨nd,rfl⟩⟩;refine ⟨_,rfl,?_⟩;(iterate 4 (try (rw [drewN_self wq5];generalize hq_ : World.drewN wq5 _ = wq5;have n0_ : Aside0 (wq5.heap[gb401]? = some (.cells #[.bool a0_0,.int .u64 a0_1,.int .u64 a0_2] 39 (0,0))) := ⟨Z277⟩;have n1_ : Aside0 (wq5.heap[gb402]? = some (.cells #[.bool false,.int .u64 0,.int .u64 0] 39 (0,0))) := ⟨Z276⟩;have n2_ : Aside0 (Below w.heap.size w wq5) := ⟨Z186⟩;clear BK401 BK402 HB hq_;have BK401 := n0_;have BK402 := n1_;have HB := n2_;clear n0_ n1_ n2_)));(try (obtain ⟨hczq6_0,hczq6_1,hczq6_2,hfzq6_0,hfzq6_1,hfzq6_2⟩ := cells3 BK401.out))) | ((with_reducible refine gate_callee (f := 60) rfl ?_);refine goesL_ (some 30) rfl rfl Try.func60 Z310 rfl #[.int .u64 a0_2,.int .u64 t404] rfl Z249 ?_;(with_reducible refine (bits_Mul64.calls a0_2 t404 t407 t408 _ A7.out).mono ?_);rintro e w' ⟨rfl,⟨nd,rfl⟩⟩;refine ⟨_,rfl,?_⟩;(iterate 4 (try (rw [drewN_self wq5];generalize hq_ : World.drewN wq5 _ = wq5;have n0_ : Aside0 (wq5.heap[gb401]? = some (.cells #[.bool a0_0,.int .u64 a0_1,.int .u64 a0_2] 39 (0,0))) := ⟨Z277⟩;have n1_ : Aside0 (wq5.heap[gb402]? = some (.cells #[.bool false,.int .u64 0,.int .u64 0] 39 (0,0))) := ⟨Z276⟩;have n2_ : Aside0 (Below w.heap.size w wq5) := ⟨Z186⟩;clear BK401 BK402 HB hq_;have BK401 := n0_;have BK402 := n1_;have HB := n2_;clear n0_ n1_ n2_)));(try (obtain ⟨hczq6_0,hczq6_1,hczq6_2,hfzq6_0,hfzq6_1,hfzq6_2⟩ := cells3 BK401.out))) | (simp only [bits_Add64.run t406 t407 0 t409 t410 A8.out];(iterate 4 (try (rw [drewN_self wq5];generalize hq_ : World.drewN wq5 _ = wq5;have n0_ : Aside0 (wq5.heap[gb401]? = some (.cells #[.bool a0_0,.int .u64 a0_1,.int .u64 a0_2] 39 (0,0))) := ⟨Z277⟩;have n1_ : Aside0 (wq5.heap[gb402]? = some (.cells #[.bool false,.int .u64 0,.int .u64 0] 39 (0,0))) := ⟨Z276⟩;have n2_ : Aside0 (Below w.heap.size w wq5) := ⟨Z186⟩;clear BK401 BK402 HB hq_;have BK401 := n0_;have BK402 := n1_;have HB := n2_;clear n0_ n1_ n2_)));(try (obtain ⟨hczq6_0,hczq6_1,hczq6_2,hfzq6_0,hfzq6_1,hfzq6_2⟩ := cells3 BK401.out))) | ((with_reducible refine gate_callee (f := 43) rfl ?_);refine goesL_ (some 46) rfl rfl Try.func43 Z310 rfl #[.bool (a0_0 != (decide (a1 < 0))),.int .u64 t409,.int .u64 t408] rfl Z249 ?_;(with_reducible refine (impl_wideOf.calls (a0_0 != (decide (a1 < 0))) t409 t408 t411 t412 t413 _ A9.out).mono ?_);rintro e wq7 ⟨rfl,hb⟩;refine ⟨_,rfl,?_⟩;have n_ := Z128;clear BK401 BK402 HB;obtain ⟨BK401,BK402,HB⟩ := n_;(try clear hb);(try clear hb2);(try clear hk);(try clear hi)) | ((with_reducible refine gate_dst (N := 12) rfl ?_);refine bE 12 #[.bool false,.int .u64 0,.int .u64 0] 39 (h := ?_);intro gb414 hg wq8 hbox hb;have n_ := Z40;clear BK401 BK402 HB;obtain ⟨BK401,BK402,HB,BK414,GW414,GE414,NB401_414,NB414_401,NB402_414,NB414_402⟩ := n_;clear hb hbox hg;have hnbq9 := NB414_401.out;have hncq9 := NB401_414.out;have hnbq10 := NB414_402.out;have hncq10 := NB402_414.out;obtain ⟨hczq11_0,hczq11_1,hczq11_2,hfzq11_0,hfzq11_1,hfzq11_2⟩ := cells3 BK414.out;obtain ⟨hczq12_0,hczq12_1,hczq12_2,hfzq12_0,hfzq12_1,hfzq12_2⟩ := cells3 BK402.out))
  refine bodyPost_ret (results_ct rfl _ _ gb402 39 #[.bool false,.int .u64 0,.int .u64 0] (0,0) _ rfl Z137 Try.underlying39 rfl Z310) rfl ?_
  exact ⟨Z265,Z341⟩
 rw [if_neg c23] at H
 have c23b0 : decide (0 < t410) = false := decide_eq_false c23
 clear c23
 obtain ⟨t415,A360,H⟩ := Option.bind_eq_some_iff.mp H
 have A36 := Aside0.mk A360
 clear A360
 by_cases c37 : t415 = true
 rotate_left
 ·replace c37 := Bool.eq_false_iff.mpr c37
  subst c37
  rw [if_neg Bool.false_ne_true] at H
  simp only [Option.some.injEq,Prod.mk.injEq] at H
  obtain ⟨rfl,rfl,rfl,rfl⟩ := H
  go_enter Try.func42,Try.ntmps42
  go_wp2_with (first | ((with_reducible refine gate_dst (N := 2) rfl ?_);refine bE 2 #[.bool a0_0,.int .u64 a0_1,.int .u64 a0_2] 39 (h := ?_);intro gb401 hg wq1 hbox hb;have n_ := Z99;clear HB;obtain ⟨HB,BK401,GW401,GE401⟩ := n_;clear hb hbox hg) | ((with_reducible refine gate_dst (N := 4) rfl ?_);refine bE 4 #[.bool false,.int .u64 0,.int .u64 0] 39 (h := ?_);intro gb402 hg wq2 hbox hb;have n_ := Z65;clear BK401 HB;obtain ⟨BK401,HB,BK402,GW402,GE402,NB401_402,NB402_401⟩ := n_;clear hb hbox hg;have hnbq3 := NB401_402.out;have hncq3 := NB402_401.out;obtain ⟨hczq4_0,hczq4_1,hczq4_2,hfzq4_0,hfzq4_1,hfzq4_2⟩ := cells3 BK401.out) | ((with_reducible refine gate_callee (f := 56) rfl ?_);refine goesL_ (some 14) rfl rfl Try.func56 Z310 rfl #[.agg #[.bool a0_0,.int .u64 a0_1,.int .u64 a0_2]] rfl Z249 ?_;(with_reducible refine (impl_WideOk.calls a0_0 a0_1 a0_2 true _ A3.out).mono ?_);rintro e wq5 ⟨rfl,hb⟩;refine ⟨_,rfl,?_⟩;have n_ := Z128;clear BK401 BK402 HB;obtain ⟨BK401,BK402,HB⟩ := n_;(try clear hb);(try clear hb2);(try clear hk);(try clear hi)) | ((with_reducible refine gate_callee (f := 59) rfl ?_);refine goesL_ (some 18) rfl rfl Try.func59 Z310 rfl #[.int .i64 a1] rfl Z249 ?_;(with_reducible refine (impl_size.calls a1 t404 _ A5.out).mono ?_);rintro e w' ⟨rfl,⟨nd,rfl⟩⟩;refine ⟨_,rfl,?_⟩;(iterate 4 (try (rw [drewN_self wq5];generalize hq_ : World.drewN wq5 _ = wq5;have n0_ : Aside0 (wq5.heap[gb401]? = some (.cells #[.bool a0_0,.int .u64 a0_1,.int .u64 a0_2] 39 (0,0))) := ⟨Z277⟩;have n1_ : Aside0 (wq5.heap[gb402]? = some (.cells #[.bool false,.int .u64 0,.int .u64 0] 39 (0,0))) := ⟨Z276⟩;have n2_ : Aside0 (Below w.heap.size w wq5) := ⟨Z186⟩;clear BK401 BK402 HB hq_;have BK401 := n0_;have BK402 := n1_;have HB := n2_;clear n0_ n1_ n2_)));obtain ⟨hczq6_0,hczq6_1,hczq6_2,hfzq6_0,hfzq6_1,hfzq6_2⟩ := cells3 BK401.out) | ((with_reducible refine gate_callee (f := 60) rfl ?_);refine goesL_ (some 23) rfl rfl Try.func60 Z310 rfl #[.int .u64 a0_1,.int .u64 t404] rfl Z249 ?_;(with_reducible refine (bits_Mul64.calls a0_1 t404 t405 t406 _ A6.out).mono ?_);rintro e w' ⟨rfl,⟨nd,rfl⟩⟩;refine ⟨_,rfl,?_⟩;(iterate 4 (try (rw [drewN_self wq5];generalize hq_ : World.drewN wq5 _ = wq5;have n0_ : Aside0 (wq5.heap[gb401]? = some (.cells #[.bool a0_0,.int .u64 a0_1,.int .u64 a0_2] 39 (0,0))) := ⟨Z277⟩;have n1_ : Aside0 (wq5.heap[gb402]? = some (.cells #[.bool false,.int .u64 0,.int .u64 0] 39 (0,0))) := ⟨Z276⟩;have n2_ : Aside0 (Below w.heap.size w wq5) := ⟨Z186⟩;clear BK401 BK402 HB hq_;have BK401 := n0_;have BK402 := n1_;have HB := n2_;clear n0_ n1_ n2_)));(try (obtain ⟨hczq6_0,hczq6_1,hczq6_2,hfzq6_0,hfzq6_1,hfzq6_2⟩ := cells3 BK401.out))) | ((with_reducible refine gate_callee (f := 60) rfl ?_);refine goesL_ (some 30) rfl rfl Try.func60 Z310 rfl #[.int .u64 a0_2,.int .u64 t404] rfl Z249 ?_;(with_reducible refine (bits_Mul64.calls a0_2 t404 t407 t408 _ A7.out).mono ?_);rintro e w' ⟨rfl,⟨nd,rfl⟩⟩;refine ⟨_,rfl,?_⟩;(iterate 4 (try (rw [drewN_self wq5];generalize hq_ : World.drewN wq5 _ = wq5;have n0_ : Aside0 (wq5.heap[gb401]? = some (.cells #[.bool a0_0,.int .u64 a0_1,.int .u64 a0_2] 39 (0,0))) := ⟨Z277⟩;have n1_ : Aside0 (wq5.heap[gb402]? = some (.cells #[.bool false,.int .u64 0,.int .u64 0] 39 (0,0))) := ⟨Z276⟩;have n2_ : Aside0 (Below w.heap.size w wq5) := ⟨Z186⟩;clear BK401 BK402 HB hq_;have BK401 := n0_;have BK402 := n1_;have HB := n2_;clear n0_ n1_ n2_)));(try (obtain ⟨hczq6_0,hczq6_1,hczq6_2,hfzq6_0,hfzq6_1,hfzq6_2⟩ := cells3 BK401.out))) | (simp only [bits_Add64.run t406 t407 0 t409 t410 A8.out];(iterate 4 (try (rw [drewN_self wq5];generalize hq_ : World.drewN wq5 _ = wq5;have n0_ : Aside0 (wq5.heap[gb401]? = some (.cells #[.bool a0_0,.int .u64 a0_1,.int .u64 a0_2] 39 (0,0))) := ⟨Z277⟩;have n1_ : Aside0 (wq5.heap[gb402]? = some (.cells #[.bool false,.int .u64 0,.int .u64 0] 39 (0,0))) := ⟨Z276⟩;have n2_ : Aside0 (Below w.heap.size w wq5) := ⟨Z186⟩;clear BK401 BK402 HB hq_;have BK401 := n0_;have BK402 := n1_;have HB := n2_;clear n0_ n1_ n2_)));(try (obtain ⟨hczq6_0,hczq6_1,hczq6_2,hfzq6_0,hfzq6_1,hfzq6_2⟩ := cells3 BK401.out))) | ((with_reducible refine gate_callee (f := 43) rfl ?_);refine goesL_ (some 46) rfl rfl Try.func43 Z310 rfl #[.bool (a0_0 != (decide (a1 < 0))),.int .u64 t409,.int .u64 t408] rfl Z249 ?_;(with_reducible refine (impl_wideOf.calls (a0_0 != (decide (a1 < 0))) t409 t408 t411 t412 t413 _ A9.out).mono ?_);rintro e wq7 ⟨rfl,hb⟩;refine ⟨_,rfl,?_⟩;have n_ := Z128;clear BK401 BK402 HB;obtain ⟨BK401,BK402,HB⟩ := n_;(try clear hb);(try clear hb2);(try clear hk);(try clear hi)) | ((with_reducible refine gate_dst (N := 12) rfl ?_);refine bE 12 #[.bool false,.int .u64 0,.int .u64 0] 39 (h := ?_);intro gb414 hg wq8 hbox hb;have n_ := Z40;clear BK401 BK402 HB;obtain ⟨BK401,BK402,HB,BK414,GW414,GE414,NB401_414,NB414_401,NB402_414,NB414_402⟩ := n_;clear hb hbox hg;have hnbq9 := NB414_401.out;have hncq9 := NB401_414.out;have hnbq10 := NB414_402.out;have hncq10 := NB402_414.out;obtain ⟨hczq11_0,hczq11_1,hczq11_2,hfzq11_0,hfzq11_1,hfzq11_2⟩ := cells3 BK414.out) | (go_at_call 56;(with_reducible refine (impl_WideOk.calls t411 t412 t413 false _ A36.out).mono ?_);rintro e wq12 ⟨rfl,hb⟩;have n_ := Z62;clear BK401 BK402 BK414 HB;obtain ⟨BK401,BK402,BK414,HB⟩ := n_;(try clear hb);(try clear hb2);(try clear hk);(try clear hi);obtain ⟨hczq13_0,hczq13_1,hczq13_2,hfzq13_0,hfzq13_1,hfzq13_2⟩ := cells3 BK402.out))
  refine bodyPost_ret (results_ct rfl _ _ gb402 39 #[.bool false,.int .u64 0,.int .u64 0] (0,0) _ rfl Z165 Try.underlying39 rfl Z310) rfl ?_
  exact ⟨Z265,Z341⟩
 subst c37
 rw [if_pos rfl] at H
 simp only [Option.some.injEq,Prod.mk.injEq] at H
 obtain ⟨rfl,rfl,rfl,rfl⟩ := H
 go_enter Try.func42,Try.ntmps42
 go_wp2_with (first | ((with_reducible refine gate_dst (N := 2) rfl ?_);refine bE 2 #[.bool a0_0,.int .u64 a0_1,.int .u64 a0_2] 39 (h := ?_);intro gb401 hg wq1 hbox hb;have n_ := Z99;clear HB;obtain ⟨HB,BK401,GW401,GE401⟩ := n_;clear hb hbox hg) | ((with_reducible refine gate_dst (N := 4) rfl ?_);refine bE 4 #[.bool false,.int .u64 0,.int .u64 0] 39 (h := ?_);intro gb402 hg wq2 hbox hb;have n_ := Z65;clear BK401 HB;obtain ⟨BK401,HB,BK402,GW402,GE402,NB401_402,NB402_401⟩ := n_;clear hb hbox hg;have hnbq3 := NB401_402.out;have hncq3 := NB402_401.out;obtain ⟨hczq4_0,hczq4_1,hczq4_2,hfzq4_0,hfzq4_1,hfzq4_2⟩ := cells3 BK401.out) | ((with_reducible refine gate_callee (f := 56) rfl ?_);refine goesL_ (some 14) rfl rfl Try.func56 Z310 rfl #[.agg #[.bool a0_0,.int .u64 a0_1,.int .u64 a0_2]] rfl Z249 ?_;(with_reducible refine (impl_WideOk.calls a0_0 a0_1 a0_2 true _ A3.out).mono ?_);rintro e wq5 ⟨rfl,hb⟩;refine ⟨_,rfl,?_⟩;have n_ := Z128;clear BK401 BK402 HB;obtain ⟨BK401,BK402,HB⟩ := n_;(try clear hb);(try clear hb2);(try clear hk);(try clear hi)) | ((with_reducible refine gate_callee (f := 59) rfl ?_);refine goesL_ (some 18) rfl rfl Try.func59 Z310 rfl #[.int .i64 a1] rfl Z249 ?_;(with_reducible refine (impl_size.calls a1 t404 _ A5.out).mono ?_);rintro e w' ⟨rfl,⟨nd,rfl⟩⟩;refine ⟨_,rfl,?_⟩;(iterate 4 (try (rw [drewN_self wq5];generalize hq_ : World.drewN wq5 _ = wq5;have n0_ : Aside0 (wq5.heap[gb401]? = some (.cells #[.bool a0_0,.int .u64 a0_1,.int .u64 a0_2] 39 (0,0))) := ⟨Z277⟩;have n1_ : Aside0 (wq5.heap[gb402]? = some (.cells #[.bool false,.int .u64 0,.int .u64 0] 39 (0,0))) := ⟨Z276⟩;have n2_ : Aside0 (Below w.heap.size w wq5) := ⟨Z186⟩;clear BK401 BK402 HB hq_;have BK401 := n0_;have BK402 := n1_;have HB := n2_;clear n0_ n1_ n2_)));obtain ⟨hczq6_0,hczq6_1,hczq6_2,hfzq6_0,hfzq6_1,hfzq6_2⟩ := cells3 BK401.out) | ((with_reducible refine gate_callee (f := 60) rfl ?_);refine goesL_ (some 23) rfl rfl Try.func60 Z310 rfl #[.int .u64 a0_1,.int .u64 t404] rfl Z249 ?_;(with_reducible refine (bits_Mul64.calls a0_1 t404 t405 t406 _ A6.out).mono ?_);rintro e w' ⟨rfl,⟨nd,rfl⟩⟩;refine ⟨_,rfl,?_⟩;(iterate 4 (try (rw [drewN_self wq5];generalize hq_ : World.drewN wq5 _ = wq5;have n0_ : Aside0 (wq5.heap[gb401]? = some (.cells #[.bool a0_0,.int .u64 a0_1,.int .u64 a0_2] 39 (0,0))) := ⟨Z277⟩;have n1_ : Aside0 (wq5.heap[gb402]? = some (.cells #[.bool false,.int .u64 0,.int .u64 0] 39 (0,0))) := ⟨Z276⟩;have n2_ : Aside0 (Below w.heap.size w wq5) := ⟨Z186⟩;clear BK401 BK402 HB hq_;have BK401 := n0_;have BK402 := n1_;have HB := n2_;clear n0_ n1_ n2_)));(try (obtain ⟨hczq6_0,hczq6_1,hczq6_2,hfzq6_0,hfzq6_1,hfzq6_2⟩ := cells3 BK401.out))) | ((with_reducible refine gate_callee (f := 60) rfl ?_);refine goesL_ (some 30) rfl rfl Try.func60 Z310 rfl #[.int .u64 a0_2,.int .u64 t404] rfl Z249 ?_;(with_reducible refine (bits_Mul64.calls a0_2 t404 t407 t408 _ A7.out).mono ?_);rintro e w' ⟨rfl,⟨nd,rfl⟩⟩;refine ⟨_,rfl,?_⟩;(iterate 4 (try (rw [drewN_self wq5];generalize hq_ : World.drewN wq5 _ = wq5;have n0_ : Aside0 (wq5.heap[gb401]? = some (.cells #[.bool a0_0,.int .u64 a0_1,.int .u64 a0_2] 39 (0,0))) := ⟨Z277⟩;have n1_ : Aside0 (wq5.heap[gb402]? = some (.cells #[.bool false,.int .u64 0,.int .u64 0] 39 (0,0))) := ⟨Z276⟩;have n2_ : Aside0 (Below w.heap.size w wq5) := ⟨Z186⟩;clear BK401 BK402 HB hq_;have BK401 := n0_;have BK402 := n1_;have HB := n2_;clear n0_ n1_ n2_)));(try (obtain ⟨hczq6_0,hczq6_1,hczq6_2,hfzq6_0,hfzq6_1,hfzq6_2⟩ := cells3 BK401.out))) | (simp only [bits_Add64.run t406 t407 0 t409 t410 A8.out];(iterate 4 (try (rw [drewN_self wq5];generalize hq_ : World.drewN wq5 _ = wq5;have n0_ : Aside0 (wq5.heap[gb401]? = some (.cells #[.bool a0_0,.int .u64 a0_1,.int .u64 a0_2] 39 (0,0))) := ⟨Z277⟩;have n1_ : Aside0 (wq5.heap[gb402]? = some (.cells #[.bool false,.int .u64 0,.int .u64 0] 39 (0,0))) := ⟨Z276⟩;have n2_ : Aside0 (Below w.heap.size w wq5) := ⟨Z186⟩;clear BK401 BK402 HB hq_;have BK401 := n0_;have BK402 := n1_;have HB := n2_;clear n0_ n1_ n2_)));(try (obtain ⟨hczq6_0,hczq6_1,hczq6_2,hfzq6_0,hfzq6_1,hfzq6_2⟩ := cells3 BK401.out))) | ((with_reducible refine gate_callee (f := 43) rfl ?_);refine goesL_ (some 46) rfl rfl Try.func43 Z310 rfl #[.bool (a0_0 != (decide (a1 < 0))),.int .u64 t409,.int .u64 t408] rfl Z249 ?_;(with_reducible refine (impl_wideOf.calls (a0_0 != (decide (a1 < 0))) t409 t408 t411 t412 t413 _ A9.out).mono ?_);rintro e wq7 ⟨rfl,hb⟩;refine ⟨_,rfl,?_⟩;have n_ := Z128;clear BK401 BK402 HB;obtain ⟨BK401,BK402,HB⟩ := n_;(try clear hb);(try clear hb2);(try clear hk);(try clear hi)) | ((with_reducible refine gate_dst (N := 12) rfl ?_);refine bE 12 #[.bool false,.int .u64 0,.int .u64 0] 39 (h := ?_);intro gb414 hg wq8 hbox hb;have n_ := Z40;clear BK401 BK402 HB;obtain ⟨BK401,BK402,HB,BK414,GW414,GE414,NB401_414,NB414_401,NB402_414,NB414_402⟩ := n_;clear hb hbox hg;have hnbq9 := NB414_401.out;have hncq9 := NB401_414.out;have hnbq10 := NB414_402.out;have hncq10 := NB402_414.out;obtain ⟨hczq11_0,hczq11_1,hczq11_2,hfzq11_0,hfzq11_1,hfzq11_2⟩ := cells3 BK414.out) | (go_at_call 56;(with_reducible refine (impl_WideOk.calls t411 t412 t413 true _ A36.out).mono ?_);rintro e wq12 ⟨rfl,hb⟩;have n_ := Z62;clear BK401 BK402 BK414 HB;obtain ⟨BK401,BK402,BK414,HB⟩ := n_;(try clear hb);(try clear hb2);(try clear hk);(try clear hi);obtain ⟨hczq13_0,hczq13_1,hczq13_2,hfzq13_0,hfzq13_1,hfzq13_2⟩ := cells3 BK414.out;obtain ⟨hczq14_0,hczq14_1,hczq14_2,hfzq14_0,hfzq14_1,hfzq14_2⟩ := cells3 BK402.out))
 refine bodyPost_ret (results_ct rfl _ _ gb402 39 #[.bool t411,.int .u64 t412,.int .u64 t413] (0,0) _ rfl (by refine bP ?_;refine blk_put (cs := #[.bool t411,.int .u64 t412,.int .u64 0]) ?_ 2 _ rfl;refine bP ?_;refine blk_put (cs := #[.bool t411,.int .u64 0,.int .u64 0]) ?_ 1 _ rfl;refine bP ?_;refine blk_put (cs := #[.bool false,.int .u64 0,.int .u64 0]) ?_ 0 _ rfl;refine bP ?_;exact BK402.out) Try.underlying39 rfl Z310) rfl ?_
 exact ⟨Z265,Z341⟩

/-! ### impl_crossed: function 25 -/
def impl_crossed.j0 : Nat → Bool → Bool → Int → Int → Int → Bool → Int → Int → Int → Option (Bool × Int × Int × Bool × Int × Int × Bool)
 | 0,_,_,_,_,_,_,_,_,_ => none
 | k + 1,x18,x417000,x417001,x417002,x417003,x418000,x418001,x418002,x418003 => if x18 = true then (some (false,0,0,false,0,0,false)) else ((impl_ScaleWide.f x417000 x417001 x417002 x418003).bind fun bt422 => ((impl_ScaleWide.f x418000 x418001 x418002 x417003).bind fun bt427 => (if bt422.2.2.2 = true then (some (bt422.1,bt422.2.1,bt422.2.2.1,bt427.1,bt427.2.1,bt427.2.2.1,bt427.2.2.2)) else (some (bt422.1,bt422.2.1,bt422.2.2.1,bt427.1,bt427.2.1,bt427.2.2.1,false)))))
def impl_crossed.f (k : Nat) (a0_0 : Bool) (a0_1 : Int) (a0_2 : Int) (a0_3 : Int) (a1_0 : Bool) (a1_1 : Int) (a1_2 : Int) (a1_3 : Int) : Option (Bool × Int × Int × Bool × Int × Int × Bool) := (impl_FracOk.f a0_0 a0_1 a0_2 a0_3).bind fun t420 => (if t420 = true then ((impl_FracOk.f a1_0 a1_1 a1_2 a1_3).bind fun t421 => (impl_crossed.j0 k (!t421) a0_0 a0_1 a0_2 a0_3 a1_0 a1_1 a1_2 a1_3)) else (impl_crossed.j0 k true a0_0 a0_1 a0_2 a0_3 a1_0 a1_1 a1_2 a1_3))
theorem impl_crossed.mono_l : ∀ k,(∀ y0 y1 y2 y3 y4 y5 y6 y7 y8,LeO (impl_crossed.j0 k y0 y1 y2 y3 y4 y5 y6 y7 y8) (impl_crossed.j0 (k + 1) y0 y1 y2 y3 y4 y5 y6 y7 y8))
 | 0 => fun _ _ _ _ _ _ _ _ _ r h => by simp [impl_crossed.j0] at h
 | k + 1 => by
  have ih0 := impl_crossed.mono_l k
  ·intro y0 y1 y2 y3 y4 y5 y6 y7 y8
   unfold impl_crossed.j0
   repeat' first
   | (with_reducible exact ih0 _ _ _ _ _ _ _ _ _)
   | (with_reducible exact LeO.refl _)
   | (with_reducible exact LeO.none _)
   | (with_reducible refine LeO.ite ?_ ?_)
   | (with_reducible refine LeO.bind ?_ (fun _ => ?_))
   | exact ih0 _ _ _ _ _ _ _ _ _
   | exact LeO.none _
   | refine LeO.ite ?_ ?_
   | refine LeO.bind ?_ (fun _ => ?_)
theorem impl_crossed.mono : ∀ a0 a1 a2 a3 a4 a5 a6 a7 k,LeO (impl_crossed.f k a0 a1 a2 a3 a4 a5 a6 a7) (impl_crossed.f (k + 1) a0 a1 a2 a3 a4 a5 a6 a7) := by
 intro a0 a1 a2 a3 a4 a5 a6 a7 k
 have ih0 := impl_crossed.mono_l k
 unfold impl_crossed.f
 repeat' first
   | (with_reducible exact ih0 _ _ _ _ _ _ _ _ _)
   | (with_reducible exact LeO.refl _)
   | (with_reducible exact LeO.none _)
   | (with_reducible refine LeO.ite ?_ ?_)
   | (with_reducible refine LeO.bind ?_ (fun _ => ?_))
   | exact ih0 _ _ _ _ _ _ _ _ _
   | exact LeO.none _
   | refine LeO.ite ?_ ?_
   | refine LeO.bind ?_ (fun _ => ?_)
def impl_crossed.T5 : Bool × List (List Nat × List Nat) := (true,[([],[]),([],[]),([],[]),([2],[2]),([3],[3]),([3,4],[3,4]),([0,3,0],[0]),([1,6,0,1,6],[1]),([5,7,0,1,2,3,4,5,6,7],[5])])
def impl_crossed.B5 : List Nat := [0,0,0,4,12,28,13,79,255]
theorem impl_crossed.tab5 : rtab .any (opsOf Try.f25 5) = impl_crossed.T5 := by kernel_rfl
theorem impl_crossed.bits5 : waitsOk impl_crossed.T5.2 impl_crossed.B5 = true := by kernel_rfl
set_option maxHeartbeats 8000000 in
set_option maxRecDepth 100000 in
theorem impl_crossed.calls (k : Nat) (a0_0 : Bool) (a0_1 : Int) (a0_2 : Int) (a0_3 : Int) (a1_0 : Bool) (a1_1 : Int) (a1_2 : Int) (a1_3 : Int) (r1 : Bool) (r2 : Int) (r3 : Int) (r4 : Bool) (r5 : Int) (r6 : Int) (r7 : Bool) (w : World) (h : impl_crossed.f k a0_0 a0_1 a0_2 a0_3 a1_0 a1_1 a1_2 a1_3 = some (r1,r2,r3,r4,r5,r6,r7)) :
  Calls Try.prog 25 #[.agg #[.bool a0_0,.int .u64 a0_1,.int .u64 a0_2,.int .i64 a0_3],.agg #[.bool a1_0,.int .u64 a1_1,.int .u64 a1_2,.int .i64 a1_3]] w fun e w' => e = .returned (.tuple #[.agg #[.bool r1,.int .u64 r2,.int .u64 r3],.agg #[.bool r4,.int .u64 r5,.int .u64 r6],.bool r7]) ∧ Below w.heap.size w w' := by
 have hu41 := Try.underlying41
 have hu39 := Try.underlying39
 have HB := Aside0.mk (Below.refl w.heap.size w)
 have H := h
 clear h
 unfold impl_crossed.f at H
 have HC3 := Aside0.mk H
 clear H
 go_enter Try.func25,Try.ntmps25
 go_upto_region 1 with (first | ((with_reducible refine gate_dst (N := 2) rfl ?_);refine bE 2 #[.bool a0_0,.int .u64 a0_1,.int .u64 a0_2,.int .i64 a0_3] 41 (h := ?_);intro gb416 hg w4 hbox hb;have n_ := jA (below_step Z574 hb) (jA (hbox) (jA ((Z405 : w.heap.size ≤ gb416)) (Aside0.mk ((Z405 : w.heap.size ≤ gb416)))));clear HB;obtain ⟨HB,BK416,GW416,GE416⟩ := n_;clear hb hbox hg) | ((with_reducible refine gate_dst (N := 3) rfl ?_);refine bE 3 #[.bool a1_0,.int .u64 a1_1,.int .u64 a1_2,.int .i64 a1_3] 41 (h := ?_);intro gb417 hg w5 hbox hb;have n_ := jA (blk_below (g := gb416) (o := .cells #[.bool a0_0,.int .u64 a0_1,.int .u64 a0_2,.int .i64 a0_3] 41 (0,0)) Z577 hb) (jA (below_step Z441 hb) (jA (hbox) (jA ((Z218 : w.heap.size ≤ gb417)) (jA ((Z218 : w.heap.size ≤ gb417)) (jA ((Z411 : gb416 ≠ gb417)) (Aside0.mk ((Z415 : gb417 ≠ gb416))))))));clear BK416 HB;obtain ⟨BK416,HB,BK417,GW417,GE417,NB416_417,NB417_416⟩ := n_;clear hb hbox hg) | ((with_reducible refine gate_dst (N := 4) rfl ?_);refine bE 4 #[.bool false,.int .u64 0,.int .u64 0] 39 (h := ?_);intro gb418 hg w6 hbox hb;have n_ := jA (blk_below (g := gb416) (o := .cells #[.bool a0_0,.int .u64 a0_1,.int .u64 a0_2,.int .i64 a0_3] 41 (0,0)) Z577 hb) (jA (blk_below (g := gb417) (o := .cells #[.bool a1_0,.int .u64 a1_1,.int .u64 a1_2,.int .i64 a1_3] 41 (0,0)) Z581 hb) (jA (below_step Z379 hb) (jA (hbox) (jA ((Z184 : w.heap.size ≤ gb418)) (jA ((Z184 : w.heap.size ≤ gb418)) (jA ((Z411 : gb416 ≠ gb418)) (jA ((Z415 : gb418 ≠ gb416)) (jA ((Z420 : gb417 ≠ gb418)) (Aside0.mk ((Z424 : gb418 ≠ gb417)))))))))));clear BK416 BK417 HB;obtain ⟨BK416,BK417,HB,BK418,GW418,GE418,NB416_418,NB418_416,NB417_418,NB418_417⟩ := n_;clear hb hbox hg) | ((with_reducible refine gate_dst (N := 5) rfl ?_);refine bE 5 #[.bool false,.int .u64 0,.int .u64 0] 39 (h := ?_);intro gb419 hg w7 hbox hb;have n_ := jA (blk_below (g := gb416) (o := .cells #[.bool a0_0,.int .u64 a0_1,.int .u64 a0_2,.int .i64 a0_3] 41 (0,0)) Z577 hb) (jA (blk_below (g := gb417) (o := .cells #[.bool a1_0,.int .u64 a1_1,.int .u64 a1_2,.int .i64 a1_3] 41 (0,0)) Z581 hb) (jA (blk_below (g := gb418) (o := .cells #[.bool false,.int .u64 0,.int .u64 0] 39 (0,0)) Z587 hb) (jA (below_step Z346 hb) (jA (hbox) (jA ((Z173 : w.heap.size ≤ gb419)) (jA ((Z173 : w.heap.size ≤ gb419)) (jA ((Z411 : gb416 ≠ gb419)) (jA ((Z415 : gb419 ≠ gb416)) (jA ((Z420 : gb417 ≠ gb419)) (jA ((Z424 : gb419 ≠ gb417)) (jA ((Z471 : gb418 ≠ gb419)) (Aside0.mk ((Z474 : gb419 ≠ gb418))))))))))))));clear BK416 BK417 BK418 HB;obtain ⟨BK416,BK417,BK418,HB,BK419,GW419,GE419,NB416_419,NB419_416,NB417_419,NB419_417,NB418_419,NB419_418⟩ := n_;clear hb hbox hg))
 (try simp only [Act.put,List.setIfInBounds_toArray,List.set_cons_zero,List.set_cons_succ])
 go_cut [18] (fun v18 wc => ∃ (kq : Nat) (x18_2 : Bool),v18 = .bool x18_2 ∧ Aside0 (impl_crossed.j0 kq x18_2 a0_0 a0_1 a0_2 a0_3 a1_0 a1_1 a1_2 a1_3 = some (r1,r2,r3,r4,r5,r6,r7)) ∧ Aside0 (kq ≤ k) ∧ Aside0 (wc.heap[gb416]? = some (.cells #[.bool a0_0,.int .u64 a0_1,.int .u64 a0_2,.int .i64 a0_3] 41 (0,0))) ∧ Aside0 (wc.heap[gb417]? = some (.cells #[.bool a1_0,.int .u64 a1_1,.int .u64 a1_2,.int .i64 a1_3] 41 (0,0))) ∧ Aside0 (wc.heap[gb418]? = some (.cells #[.bool false,.int .u64 0,.int .u64 0] 39 (0,0))) ∧ Aside0 (wc.heap[gb419]? = some (.cells #[.bool false,.int .u64 0,.int .u64 0] 39 (0,0))) ∧ Aside0 (Below w.heap.size w wc))
 case first =>
  have H := HC3.out
  clear HC3
  obtain ⟨t420,A80,H⟩ := Option.bind_eq_some_iff.mp H
  have A8 := Aside0.mk A80
  clear A80
  by_cases c9 : t420 = true
  rotate_left
  ·replace c9 := Bool.eq_false_iff.mpr c9
   subst c9
   rw [if_neg Bool.false_ne_true] at H
   have H' := Aside0.mk H
   clear H
   have hnb20 := NB416_417.out
   have hnc20 := NB417_416.out
   have hnb21 := NB416_418.out
   have hnc21 := NB418_416.out
   have hnb22 := NB416_419.out
   have hnc22 := NB419_416.out
   obtain ⟨hcz23_0,hcz23_1,hcz23_2,hcz23_3,hfz23_0,hfz23_1,hfz23_2,hfz23_3⟩ := cells4 BK416.out
   go_wp2_with (first | ((with_reducible refine gate_callee (f := 41) rfl ?_);refine goesL_ (some 12) rfl rfl Try.func41 Z310 rfl #[.agg #[.bool a0_0,.int .u64 a0_1,.int .u64 a0_2,.int .i64 a0_3]] rfl Z249 ?_;(with_reducible refine (impl_FracOk.calls a0_0 a0_1 a0_2 a0_3 false _ A8.out).mono ?_);rintro e w24 ⟨rfl,hb⟩;refine ⟨_,rfl,?_⟩;have n_ := Z82;clear BK416 BK417 BK418 BK419 HB;obtain ⟨BK416,BK417,BK418,BK419,HB⟩ := n_;(try clear hb);(try clear hb2);(try clear hk);(try clear hi)))
   go_meet
   case rel => exact ⟨_,(true),Z294,H',⟨Z296⟩,⟨Z577⟩,⟨Z581⟩,⟨Z587⟩,⟨Z593⟩,⟨Z532⟩⟩
  subst c9
  rw [if_pos rfl] at H
  obtain ⟨t421,A100,H⟩ := Option.bind_eq_some_iff.mp H
  have A10 := Aside0.mk A100
  clear A100
  have H' := Aside0.mk H
  clear H
  have hnb11 := NB416_417.out
  have hnc11 := NB417_416.out
  have hnb12 := NB416_418.out
  have hnc12 := NB418_416.out
  have hnb13 := NB416_419.out
  have hnc13 := NB419_416.out
  obtain ⟨hcz14_0,hcz14_1,hcz14_2,hcz14_3,hfz14_0,hfz14_1,hfz14_2,hfz14_3⟩ := cells4 BK416.out
  go_wp2_with (first | ((with_reducible refine gate_callee (f := 41) rfl ?_);refine goesL_ (some 12) rfl rfl Try.func41 Z310 rfl #[.agg #[.bool a0_0,.int .u64 a0_1,.int .u64 a0_2,.int .i64 a0_3]] rfl Z249 ?_;(with_reducible refine (impl_FracOk.calls a0_0 a0_1 a0_2 a0_3 true _ A8.out).mono ?_);rintro e w15 ⟨rfl,hb⟩;refine ⟨_,rfl,?_⟩;have n_ := Z82;clear BK416 BK417 BK418 BK419 HB;obtain ⟨BK416,BK417,BK418,BK419,HB⟩ := n_;(try clear hb);(try clear hb2);(try clear hk);(try clear hi);have hnb16 := NB417_418.out;have hnc16 := NB418_417.out;have hnb17 := NB417_419.out;have hnc17 := NB419_417.out;obtain ⟨hcz18_0,hcz18_1,hcz18_2,hcz18_3,hfz18_0,hfz18_1,hfz18_2,hfz18_3⟩ := cells4 BK417.out) | (go_at_call 41;(with_reducible refine (impl_FracOk.calls a1_0 a1_1 a1_2 a1_3 t421 _ A10.out).mono ?_);rintro e w19 ⟨rfl,hb⟩;have n_ := Z82;clear BK416 BK417 BK418 BK419 HB;obtain ⟨BK416,BK417,BK418,BK419,HB⟩ := n_;(try clear hb);(try clear hb2);(try clear hk);(try clear hi)))
  go_meet
  case rel => exact ⟨_,(!t421),Z294,H',⟨Z296⟩,⟨Z577⟩,⟨Z581⟩,⟨Z587⟩,⟨Z593⟩,⟨Z532⟩⟩
 case rest =>
  clear HC3
  try clear c1
  try clear c2
  try clear p2
  try clear c4
  try clear c9
  try clear c11
  try clear c12
  try clear c13
  try clear c16
  try clear c17
  try clear c20
  try clear c21
  try clear c22
  try clear hcz14_0
  try clear hcz14_1
  try clear hcz14_2
  try clear hcz14_3
  try clear hcz18_0
  try clear hcz18_1
  try clear hcz18_2
  try clear hcz18_3
  try clear hcz23_0
  try clear hcz23_1
  try clear hcz23_2
  try clear hcz23_3
  try clear hfz14_0
  try clear hfz14_1
  try clear hfz14_2
  try clear hfz14_3
  try clear hfz18_0
  try clear hfz18_1
  try clear hfz18_2
  try clear hfz18_3
  try clear hfz23_0
  try clear hfz23_1
  try clear hfz23_2
  try clear hfz23_3
  obtain ⟨kq,x18_2,rfl,HA,HJ2,BK416,BK417,BK418,BK419,HB⟩ := hcut
  cases kq with
  | zero => exact absurd HA.out (by simp [impl_crossed.j0])
  | succ kj2 =>
   have H := HA.out
   clear HA
   simp only [impl_crossed.j0] at H
   by_cases c25 : x18_2 = true
   ·subst c25
    rw [if_pos rfl] at H
    simp only [Option.some.injEq,Prod.mk.injEq] at H
    obtain ⟨rfl,rfl,rfl,rfl,rfl,rfl,rfl⟩ := H
    have hnb26 := NB418_416.out
    have hnc26 := NB416_418.out
    have hnb27 := NB418_417.out
    have hnc27 := NB417_418.out
    have hnb28 := NB418_419.out
    have hnc28 := NB419_418.out
    obtain ⟨hcz29_0,hcz29_1,hcz29_2,hfz29_0,hfz29_1,hfz29_2⟩ := cells3 BK418.out
    have hnb30 := NB419_416.out
    have hnc30 := NB416_419.out
    have hnb31 := NB419_417.out
    have hnc31 := NB417_419.out
    obtain ⟨hcz32_0,hcz32_1,hcz32_2,hfz32_0,hfz32_1,hfz32_2⟩ := cells3 BK419.out
    go_wp2
    refine bodyPost_ret (results_list (rs := [.cell 4 39,.cell 5 39,.tmp 6]) rfl Z524 (.cell gb418 39 #[.bool false,.int .u64 0,.int .u64 0] (0,0) _ rfl (by refine bP ?_;refine blk_far ?_ NB418_419.out _;refine bP ?_;refine blk_far ?_ NB418_419.out _;refine bP ?_;refine blk_far ?_ NB418_419.out _;refine bP ?_;refine blk_put (cs := #[.bool false,.int .u64 0,.int .u64 0]) ?_ 2 _ rfl;refine bP ?_;refine blk_put (cs := #[.bool false,.int .u64 0,.int .u64 0]) ?_ 1 _ rfl;refine bP ?_;refine blk_put (cs := #[.bool false,.int .u64 0,.int .u64 0]) ?_ 0 _ rfl;refine bP ?_;exact BK418.out) Try.underlying39 rfl Z310 (.cell gb419 39 #[.bool false,.int .u64 0,.int .u64 0] (0,0) _ rfl (by refine bP ?_;refine blk_put (cs := #[.bool false,.int .u64 0,.int .u64 0]) ?_ 2 _ rfl;refine bP ?_;refine blk_put (cs := #[.bool false,.int .u64 0,.int .u64 0]) ?_ 1 _ rfl;refine bP ?_;refine blk_put (cs := #[.bool false,.int .u64 0,.int .u64 0]) ?_ 0 _ rfl;refine bP ?_;refine blk_far ?_ NB419_418.out _;refine bP ?_;refine blk_far ?_ NB419_418.out _;refine bP ?_;refine blk_far ?_ NB419_418.out _;refine bP ?_;exact BK419.out) Try.underlying39 rfl Z310 (.tmp .nil)))) rfl ?_
    exact ⟨Z265,Z532⟩
   replace c25 := Bool.eq_false_iff.mpr c25
   subst c25
   rw [if_neg Bool.false_ne_true] at H
   obtain ⟨⟨t422,t423,t424,t425⟩,A330,H⟩ := Option.bind_eq_some_iff.mp H
   try dsimp only at H
   have A33 := Aside0.mk A330
   clear A330
   obtain ⟨⟨t427,t428,t429,t430⟩,A340,H⟩ := Option.bind_eq_some_iff.mp H
   try dsimp only at H
   have A34 := Aside0.mk A340
   clear A340
   by_cases c35 : t425 = true
   ·subst c35
    rw [if_pos rfl] at H
    simp only [Option.some.injEq,Prod.mk.injEq] at H
    obtain ⟨rfl,rfl,rfl,rfl,rfl,rfl,rfl⟩ := H
    have hnb36 := NB416_417.out
    have hnc36 := NB417_416.out
    have hnb37 := NB416_418.out
    have hnc37 := NB418_416.out
    have hnb38 := NB416_419.out
    have hnc38 := NB419_416.out
    obtain ⟨hcz39_0,hcz39_1,hcz39_2,hcz39_3,hfz39_0,hfz39_1,hfz39_2,hfz39_3⟩ := cells4 BK416.out
    have hnb40 := NB417_418.out
    have hnc40 := NB418_417.out
    have hnb41 := NB417_419.out
    have hnc41 := NB419_417.out
    obtain ⟨hcz42_0,hcz42_1,hcz42_2,hcz42_3,hfz42_0,hfz42_1,hfz42_2,hfz42_3⟩ := cells4 BK417.out
    try go_wp2_with (first | ((with_reducible refine gate_callee (f := 42) rfl ?_);refine goesL_ (some 26) rfl rfl Try.func42 Z310 rfl #[.agg #[.bool a0_0,.int .u64 a0_1,.int .u64 a0_2],.int .i64 a1_3] rfl Z249 ?_;(with_reducible refine (impl_ScaleWide.calls a0_0 a0_1 a0_2 a1_3 t422 t423 t424 true _ A33.out).mono ?_);rintro e w43 ⟨rfl,hb⟩;refine ⟨_,rfl,?_⟩;have n_ := Z82;clear BK416 BK417 BK418 BK419 HB;obtain ⟨BK416,BK417,BK418,BK419,HB⟩ := n_;(try clear hb);(try clear hb2);(try clear hk);(try clear hi)) | ((with_reducible refine gate_dst (N := 7) rfl ?_);refine bE 7 #[.bool false,.int .u64 0,.int .u64 0] 39 (h := ?_);intro gb426 hg w44 hbox hb;have n_ := Z10;clear BK416 BK417 BK418 BK419 HB;obtain ⟨BK416,BK417,BK418,BK419,HB,BK426,GW426,GE426,NB416_426,NB426_416,NB417_426,NB426_417,NB418_426,NB426_418,NB419_426,NB426_419⟩ := n_;clear hb hbox hg;have hnb45 := NB426_416.out;have hnc45 := NB416_426.out;have hnb46 := NB426_417.out;have hnc46 := NB417_426.out;have hnb47 := NB426_418.out;have hnc47 := NB418_426.out;have hnb48 := NB426_419.out;have hnc48 := NB419_426.out;obtain ⟨hcz49_0,hcz49_1,hcz49_2,hfz49_0,hfz49_1,hfz49_2⟩ := cells3 BK426.out;obtain ⟨hcz50_0,hcz50_1,hcz50_2,hcz50_3,hfz50_0,hfz50_1,hfz50_2,hfz50_3⟩ := cells4 BK417.out;obtain ⟨hcz51_0,hcz51_1,hcz51_2,hcz51_3,hfz51_0,hfz51_1,hfz51_2,hfz51_3⟩ := cells4 BK416.out) | ((with_reducible refine gate_callee (f := 42) rfl ?_);refine goesL_ (some 34) rfl rfl Try.func42 Z310 rfl #[.agg #[.bool a1_0,.int .u64 a1_1,.int .u64 a1_2],.int .i64 a0_3] rfl Z249 ?_;(with_reducible refine (impl_ScaleWide.calls a1_0 a1_1 a1_2 a0_3 t427 t428 t429 t430 _ A34.out).mono ?_);rintro e w52 ⟨rfl,hb⟩;refine ⟨_,rfl,?_⟩;have n_ := Z37;clear BK416 BK417 BK418 BK419 BK426 HB;obtain ⟨BK416,BK417,BK418,BK419,BK426,HB⟩ := n_;(try clear hb);(try clear hb2);(try clear hk);(try clear hi)) | ((with_reducible refine gate_dst (N := 9) rfl ?_);refine bE 9 #[.bool false,.int .u64 0,.int .u64 0] 39 (h := ?_);intro gb431 hg w53 hbox hb;have n_ := Z6;clear BK416 BK417 BK418 BK419 BK426 HB;obtain ⟨BK416,BK417,BK418,BK419,BK426,HB,BK431,GW431,GE431,NB416_431,NB431_416,NB417_431,NB431_417,NB418_431,NB431_418,NB419_431,NB431_419,NB426_431,NB431_426⟩ := n_;clear hb hbox hg;have hnb54 := NB431_416.out;have hnc54 := NB416_431.out;have hnb55 := NB431_417.out;have hnc55 := NB417_431.out;have hnb56 := NB431_418.out;have hnc56 := NB418_431.out;have hnb57 := NB431_419.out;have hnc57 := NB419_431.out;have hnb58 := NB431_426.out;have hnc58 := NB426_431.out;obtain ⟨hcz59_0,hcz59_1,hcz59_2,hfz59_0,hfz59_1,hfz59_2⟩ := cells3 BK431.out))
    have n0_ : Aside0 ((((w53.setCell ⟨gb431,0,none⟩ (.bool t427)).setCell ⟨gb431,1,none⟩ (.int .u64 t428)).setCell ⟨gb431,2,none⟩ (.int .u64 t429)).heap[gb416]? = some (.cells #[.bool a0_0,.int .u64 a0_1,.int .u64 a0_2,.int .i64 a0_3] 41 (0,0))) := ⟨Z240⟩
    have n1_ : Aside0 ((((w53.setCell ⟨gb431,0,none⟩ (.bool t427)).setCell ⟨gb431,1,none⟩ (.int .u64 t428)).setCell ⟨gb431,2,none⟩ (.int .u64 t429)).heap[gb417]? = some (.cells #[.bool a1_0,.int .u64 a1_1,.int .u64 a1_2,.int .i64 a1_3] 41 (0,0))) := ⟨Z239⟩
    have n2_ : Aside0 ((((w53.setCell ⟨gb431,0,none⟩ (.bool t427)).setCell ⟨gb431,1,none⟩ (.int .u64 t428)).setCell ⟨gb431,2,none⟩ (.int .u64 t429)).heap[gb418]? = some (.cells #[.bool false,.int .u64 0,.int .u64 0] 39 (0,0))) := ⟨Z238⟩
    have n3_ : Aside0 ((((w53.setCell ⟨gb431,0,none⟩ (.bool t427)).setCell ⟨gb431,1,none⟩ (.int .u64 t428)).setCell ⟨gb431,2,none⟩ (.int .u64 t429)).heap[gb419]? = some (.cells #[.bool false,.int .u64 0,.int .u64 0] 39 (0,0))) := ⟨Z237⟩
    have n4_ : Aside0 ((((w53.setCell ⟨gb431,0,none⟩ (.bool t427)).setCell ⟨gb431,1,none⟩ (.int .u64 t428)).setCell ⟨gb431,2,none⟩ (.int .u64 t429)).heap[gb426]? = some (.cells #[.bool t422,.int .u64 t423,.int .u64 t424] 39 (0,0))) := ⟨Z236⟩
    have n5_ : Aside0 ((((w53.setCell ⟨gb431,0,none⟩ (.bool t427)).setCell ⟨gb431,1,none⟩ (.int .u64 t428)).setCell ⟨gb431,2,none⟩ (.int .u64 t429)).heap[gb431]? = some (.cells #[.bool t427,.int .u64 t428,.int .u64 t429] 39 (0,0))) := ⟨Z161⟩
    have n6_ : Aside0 (Below w.heap.size w (((w53.setCell ⟨gb431,0,none⟩ (.bool t427)).setCell ⟨gb431,1,none⟩ (.int .u64 t428)).setCell ⟨gb431,2,none⟩ (.int .u64 t429))) := ⟨Z154⟩
    (try clear BK416)
    (try clear BK417)
    (try clear BK418)
    (try clear BK419)
    (try clear BK426)
    (try clear BK431)
    (try clear HB)
    generalize (((w53.setCell ⟨gb431,0,none⟩ (.bool t427)).setCell ⟨gb431,1,none⟩ (.int .u64 t428)).setCell ⟨gb431,2,none⟩ (.int .u64 t429)) = w60 at n0_ n1_ n2_ n3_ n4_ n5_ n6_ ⊢
    have BK416 := n0_
    have BK417 := n1_
    have BK418 := n2_
    have BK419 := n3_
    have BK426 := n4_
    have BK431 := n5_
    have HB := n6_
    clear n0_ n1_ n2_ n3_ n4_ n5_ n6_
    have n0_ := Aside0.mk (blk_drew BK416.out)
    have n1_ := Aside0.mk (blk_drew BK417.out)
    have n2_ := Aside0.mk (blk_drew BK418.out)
    have n3_ := Aside0.mk (blk_drew BK419.out)
    have n4_ := Aside0.mk (blk_drew BK426.out)
    have n5_ := Aside0.mk (blk_drew BK431.out)
    have n6_ := Aside0.mk (below_drew1 HB.out)
    clear BK416
    clear BK417
    clear BK418
    clear BK419
    clear BK426
    clear BK431
    clear HB
    have BK416 := n0_
    have BK417 := n1_
    have BK418 := n2_
    have BK419 := n3_
    have BK426 := n4_
    have BK431 := n5_
    have HB := n6_
    clear n0_ n1_ n2_ n3_ n4_ n5_ n6_
    refine start_ (n := 9) (S := fun w' => w'.cell? ⟨gb426,0,none⟩ = some (.bool t422) ∧ w'.cell? ⟨gb426,1,none⟩ = some (.int .u64 t423) ∧ w'.cell? ⟨gb426,2,none⟩ = some (.int .u64 t424) ∧ w'.cell? ⟨gb431,0,none⟩ = some (.bool t427) ∧ w'.cell? ⟨gb431,1,none⟩ = some (.int .u64 t428) ∧ w'.cell? ⟨gb431,2,none⟩ = some (.int .u64 t429)) (ds := []) (qM 9 0) Z310 rfl (by kernel_rfl) ⟨bc BK426 0,bc BK426 1,bc BK426 2,bc BK431 0,bc BK431 1,bc BK431 2⟩ (fun hHeld => ?_);refine with_tabW impl_crossed.tab5 impl_crossed.bits5 (fun HT_ HW_ => ?_)
    generalize w60.drew = w61 at BK416 BK417 BK418 BK419 BK426 BK431 HB hHeld ⊢
    refine rP 2 39 9 4 HT_ (h := ?_)
    refine rP 3 40 9 12 HT_ (h := ?_)
    refine rP 4 41 9 28 HT_ (h := ?_)
    refine rP 5 42 9 60 HT_ (h := ?_)
    refine rT6 0 37 9 61 HT_ HW_ hHeld (h := ?_)
    refine rT6 1 38 9 63 HT_ HW_ hHeld (h := ?_)
    refine one_ (i := 6) (N := none) (qM 9 127) rfl rfl (one_of HT_.out Z310) Z522 (fun K hK => ?_)
    have hs62 : w61.cell? ⟨gb418,0,none⟩ = some (.bool false) := bc BK418 0
    have hfs62 := blk_frozen BK418.out 0
    have hns62_0 := NB416_418.out
    have hns62_1 := NB417_418.out
    have hns62_3 := NB419_418.out
    have hns62_4 := NB426_418.out
    have hns62_5 := NB431_418.out
    have hms62_0 := NB418_416.out
    have hms62_1 := NB418_417.out
    have hms62_3 := NB418_419.out
    have hms62_4 := NB418_426.out
    have hms62_5 := NB418_431.out
    have hs63 : w61.cell? ⟨gb418,1,none⟩ = some (.int .u64 0) := bc BK418 1
    have hfs63 := blk_frozen BK418.out 1
    have hns63_0 := NB416_418.out
    have hns63_1 := NB417_418.out
    have hns63_3 := NB419_418.out
    have hns63_4 := NB426_418.out
    have hns63_5 := NB431_418.out
    have hms63_0 := NB418_416.out
    have hms63_1 := NB418_417.out
    have hms63_3 := NB418_419.out
    have hms63_4 := NB418_426.out
    have hms63_5 := NB418_431.out
    have hs64 : w61.cell? ⟨gb418,2,none⟩ = some (.int .u64 0) := bc BK418 2
    have hfs64 := blk_frozen BK418.out 2
    have hns64_0 := NB416_418.out
    have hns64_1 := NB417_418.out
    have hns64_3 := NB419_418.out
    have hns64_4 := NB426_418.out
    have hns64_5 := NB431_418.out
    have hms64_0 := NB418_416.out
    have hms64_1 := NB418_417.out
    have hms64_3 := NB418_419.out
    have hms64_4 := NB418_426.out
    have hms64_5 := NB418_431.out
    refine skip_ (w1 := ?_) Z311 rfl ?_ ?_
    rotate_left
    ·go_simp
     rfl
    refine hK.out _ _ ⟨((cell_far (p := ⟨gb418,_,none⟩) NB426_418.out _).trans (((cell_far (p := ⟨gb418,_,none⟩) NB426_418.out _).trans (((cell_far (p := ⟨gb418,_,none⟩) NB426_418.out _).trans (hHeld.1)))))),((cell_far (p := ⟨gb418,_,none⟩) NB426_418.out _).trans (((cell_far (p := ⟨gb418,_,none⟩) NB426_418.out _).trans (((cell_far (p := ⟨gb418,_,none⟩) NB426_418.out _).trans (hHeld.2.1)))))),((cell_far (p := ⟨gb418,_,none⟩) NB426_418.out _).trans (((cell_far (p := ⟨gb418,_,none⟩) NB426_418.out _).trans (((cell_far (p := ⟨gb418,_,none⟩) NB426_418.out _).trans (hHeld.2.2.1)))))),((cell_far (p := ⟨gb418,_,none⟩) NB431_418.out _).trans (((cell_far (p := ⟨gb418,_,none⟩) NB431_418.out _).trans (((cell_far (p := ⟨gb418,_,none⟩) NB431_418.out _).trans (hHeld.2.2.2.1)))))),((cell_far (p := ⟨gb418,_,none⟩) NB431_418.out _).trans (((cell_far (p := ⟨gb418,_,none⟩) NB431_418.out _).trans (((cell_far (p := ⟨gb418,_,none⟩) NB431_418.out _).trans (hHeld.2.2.2.2.1)))))),((cell_far (p := ⟨gb418,_,none⟩) NB431_418.out _).trans (((cell_far (p := ⟨gb418,_,none⟩) NB431_418.out _).trans (((cell_far (p := ⟨gb418,_,none⟩) NB431_418.out _).trans (hHeld.2.2.2.2.2))))))⟩ (fun hHeld => ?_)
    clear hK K
    refine one_ (i := 7) (N := none) (qM 9 255) rfl rfl (one_of HT_.out Z310) Z522 (fun K hK => ?_)
    have hs65 : w61.cell? ⟨gb419,0,none⟩ = some (.bool false) := bc BK419 0
    have hfs65 := blk_frozen BK419.out 0
    have hns65_0 := NB416_419.out
    have hns65_1 := NB417_419.out
    have hns65_2 := NB418_419.out
    have hns65_4 := NB426_419.out
    have hns65_5 := NB431_419.out
    have hms65_0 := NB419_416.out
    have hms65_1 := NB419_417.out
    have hms65_2 := NB419_418.out
    have hms65_4 := NB419_426.out
    have hms65_5 := NB419_431.out
    have hs66 : w61.cell? ⟨gb419,1,none⟩ = some (.int .u64 0) := bc BK419 1
    have hfs66 := blk_frozen BK419.out 1
    have hns66_0 := NB416_419.out
    have hns66_1 := NB417_419.out
    have hns66_2 := NB418_419.out
    have hns66_4 := NB426_419.out
    have hns66_5 := NB431_419.out
    have hms66_0 := NB419_416.out
    have hms66_1 := NB419_417.out
    have hms66_2 := NB419_418.out
    have hms66_4 := NB419_426.out
    have hms66_5 := NB419_431.out
    have hs67 : w61.cell? ⟨gb419,2,none⟩ = some (.int .u64 0) := bc BK419 2
    have hfs67 := blk_frozen BK419.out 2
    have hns67_0 := NB416_419.out
    have hns67_1 := NB417_419.out
    have hns67_2 := NB418_419.out
    have hns67_4 := NB426_419.out
    have hns67_5 := NB431_419.out
    have hms67_0 := NB419_416.out
    have hms67_1 := NB419_417.out
    have hms67_2 := NB419_418.out
    have hms67_4 := NB419_426.out
    have hms67_5 := NB419_431.out
    refine skip_ (w1 := ?_) Z311 rfl ?_ ?_
    rotate_left
    ·go_simp
     rfl
    refine hK.out _ _ ⟨((cell_far (p := ⟨gb419,_,none⟩) NB426_419.out _).trans (((cell_far (p := ⟨gb419,_,none⟩) NB426_419.out _).trans (((cell_far (p := ⟨gb419,_,none⟩) NB426_419.out _).trans (hHeld.1)))))),((cell_far (p := ⟨gb419,_,none⟩) NB426_419.out _).trans (((cell_far (p := ⟨gb419,_,none⟩) NB426_419.out _).trans (((cell_far (p := ⟨gb419,_,none⟩) NB426_419.out _).trans (hHeld.2.1)))))),((cell_far (p := ⟨gb419,_,none⟩) NB426_419.out _).trans (((cell_far (p := ⟨gb419,_,none⟩) NB426_419.out _).trans (((cell_far (p := ⟨gb419,_,none⟩) NB426_419.out _).trans (hHeld.2.2.1)))))),((cell_far (p := ⟨gb419,_,none⟩) NB431_419.out _).trans (((cell_far (p := ⟨gb419,_,none⟩) NB431_419.out _).trans (((cell_far (p := ⟨gb419,_,none⟩) NB431_419.out _).trans (hHeld.2.2.2.1)))))),((cell_far (p := ⟨gb419,_,none⟩) NB431_419.out _).trans (((cell_far (p := ⟨gb419,_,none⟩) NB431_419.out _).trans (((cell_far (p := ⟨gb419,_,none⟩) NB431_419.out _).trans (hHeld.2.2.2.2.1)))))),((cell_far (p := ⟨gb419,_,none⟩) NB431_419.out _).trans (((cell_far (p := ⟨gb419,_,none⟩) NB431_419.out _).trans (((cell_far (p := ⟨gb419,_,none⟩) NB431_419.out _).trans (hHeld.2.2.2.2.2))))))⟩ (fun hHeld => ?_)
    clear hK K
    refine rP 8 6 9 511 HT_ (h := ?_)
    refine done_ (done_of HT_.out Z310) ?_
    try go_wp2
    refine bodyPost_ret (results_list (rs := [.cell 4 39,.cell 5 39,.tmp 6]) rfl Z524 (.cell gb418 39 #[.bool t422,.int .u64 t423,.int .u64 t424] (0,0) _ rfl Z136 Try.underlying39 rfl Z310 (.cell gb419 39 #[.bool t427,.int .u64 t428,.int .u64 t429] (0,0) _ rfl Z134 Try.underlying39 rfl Z310 (.tmp .nil)))) rfl ?_
    exact ⟨Z265,Z154⟩
   replace c35 := Bool.eq_false_iff.mpr c35
   subst c35
   rw [if_neg Bool.false_ne_true] at H
   simp only [Option.some.injEq,Prod.mk.injEq] at H
   obtain ⟨rfl,rfl,rfl,rfl,rfl,rfl,rfl⟩ := H
   have hnb68 := NB416_417.out
   have hnc68 := NB417_416.out
   have hnb69 := NB416_418.out
   have hnc69 := NB418_416.out
   have hnb70 := NB416_419.out
   have hnc70 := NB419_416.out
   obtain ⟨hcz71_0,hcz71_1,hcz71_2,hcz71_3,hfz71_0,hfz71_1,hfz71_2,hfz71_3⟩ := cells4 BK416.out
   have hnb72 := NB417_418.out
   have hnc72 := NB418_417.out
   have hnb73 := NB417_419.out
   have hnc73 := NB419_417.out
   obtain ⟨hcz74_0,hcz74_1,hcz74_2,hcz74_3,hfz74_0,hfz74_1,hfz74_2,hfz74_3⟩ := cells4 BK417.out
   try go_wp2_with (first | ((with_reducible refine gate_callee (f := 42) rfl ?_);refine goesL_ (some 26) rfl rfl Try.func42 Z310 rfl #[.agg #[.bool a0_0,.int .u64 a0_1,.int .u64 a0_2],.int .i64 a1_3] rfl Z249 ?_;(with_reducible refine (impl_ScaleWide.calls a0_0 a0_1 a0_2 a1_3 t422 t423 t424 false _ A33.out).mono ?_);rintro e w75 ⟨rfl,hb⟩;refine ⟨_,rfl,?_⟩;have n_ := Z82;clear BK416 BK417 BK418 BK419 HB;obtain ⟨BK416,BK417,BK418,BK419,HB⟩ := n_;(try clear hb);(try clear hb2);(try clear hk);(try clear hi)) | ((with_reducible refine gate_dst (N := 7) rfl ?_);refine bE 7 #[.bool false,.int .u64 0,.int .u64 0] 39 (h := ?_);intro gb426 hg w76 hbox hb;have n_ := Z10;clear BK416 BK417 BK418 BK419 HB;obtain ⟨BK416,BK417,BK418,BK419,HB,BK426,GW426,GE426,NB416_426,NB426_416,NB417_426,NB426_417,NB418_426,NB426_418,NB419_426,NB426_419⟩ := n_;clear hb hbox hg;have hnb77 := NB426_416.out;have hnc77 := NB416_426.out;have hnb78 := NB426_417.out;have hnc78 := NB417_426.out;have hnb79 := NB426_418.out;have hnc79 := NB418_426.out;have hnb80 := NB426_419.out;have hnc80 := NB419_426.out;obtain ⟨hcz81_0,hcz81_1,hcz81_2,hfz81_0,hfz81_1,hfz81_2⟩ := cells3 BK426.out;obtain ⟨hcz82_0,hcz82_1,hcz82_2,hcz82_3,hfz82_0,hfz82_1,hfz82_2,hfz82_3⟩ := cells4 BK417.out;obtain ⟨hcz83_0,hcz83_1,hcz83_2,hcz83_3,hfz83_0,hfz83_1,hfz83_2,hfz83_3⟩ := cells4 BK416.out) | ((with_reducible refine gate_callee (f := 42) rfl ?_);refine goesL_ (some 34) rfl rfl Try.func42 Z310 rfl #[.agg #[.bool a1_0,.int .u64 a1_1,.int .u64 a1_2],.int .i64 a0_3] rfl Z249 ?_;(with_reducible refine (impl_ScaleWide.calls a1_0 a1_1 a1_2 a0_3 t427 t428 t429 t430 _ A34.out).mono ?_);rintro e w84 ⟨rfl,hb⟩;refine ⟨_,rfl,?_⟩;have n_ := Z37;clear BK416 BK417 BK418 BK419 BK426 HB;obtain ⟨BK416,BK417,BK418,BK419,BK426,HB⟩ := n_;(try clear hb);(try clear hb2);(try clear hk);(try clear hi)) | ((with_reducible refine gate_dst (N := 9) rfl ?_);refine bE 9 #[.bool false,.int .u64 0,.int .u64 0] 39 (h := ?_);intro gb431 hg w85 hbox hb;have n_ := Z6;clear BK416 BK417 BK418 BK419 BK426 HB;obtain ⟨BK416,BK417,BK418,BK419,BK426,HB,BK431,GW431,GE431,NB416_431,NB431_416,NB417_431,NB431_417,NB418_431,NB431_418,NB419_431,NB431_419,NB426_431,NB431_426⟩ := n_;clear hb hbox hg;have hnb86 := NB431_416.out;have hnc86 := NB416_431.out;have hnb87 := NB431_417.out;have hnc87 := NB417_431.out;have hnb88 := NB431_418.out;have hnc88 := NB418_431.out;have hnb89 := NB431_419.out;have hnc89 := NB419_431.out;have hnb90 := NB431_426.out;have hnc90 := NB426_431.out;obtain ⟨hcz91_0,hcz91_1,hcz91_2,hfz91_0,hfz91_1,hfz91_2⟩ := cells3 BK431.out))
   have n0_ : Aside0 ((((w85.setCell ⟨gb431,0,none⟩ (.bool t427)).setCell ⟨gb431,1,none⟩ (.int .u64 t428)).setCell ⟨gb431,2,none⟩ (.int .u64 t429)).heap[gb416]? = some (.cells #[.bool a0_0,.int .u64 a0_1,.int .u64 a0_2,.int .i64 a0_3] 41 (0,0))) := ⟨Z240⟩
   have n1_ : Aside0 ((((w85.setCell ⟨gb431,0,none⟩ (.bool t427)).setCell ⟨gb431,1,none⟩ (.int .u64 t428)).setCell ⟨gb431,2,none⟩ (.int .u64 t429)).heap[gb417]? = some (.cells #[.bool a1_0,.int .u64 a1_1,.int .u64 a1_2,.int .i64 a1_3] 41 (0,0))) := ⟨Z239⟩
   have n2_ : Aside0 ((((w85.setCell ⟨gb431,0,none⟩ (.bool t427)).setCell ⟨gb431,1,none⟩ (.int .u64 t428)).setCell ⟨gb431,2,none⟩ (.int .u64 t429)).heap[gb418]? = some (.cells #[.bool false,.int .u64 0,.int .u64 0] 39 (0,0))) := ⟨Z238⟩
   have n3_ : Aside0 ((((w85.setCell ⟨gb431,0,none⟩ (.bool t427)).setCell ⟨gb431,1,none⟩ (.int .u64 t428)).setCell ⟨gb431,2,none⟩ (.int .u64 t429)).heap[gb419]? = some (.cells #[.bool false,.int .u64 0,.int .u64 0] 39 (0,0))) := ⟨Z237⟩
   have n4_ : Aside0 ((((w85.setCell ⟨gb431,0,none⟩ (.bool t427)).setCell ⟨gb431,1,none⟩ (.int .u64 t428)).setCell ⟨gb431,2,none⟩ (.int .u64 t429)).heap[gb426]? = some (.cells #[.bool t422,.int .u64 t423,.int .u64 t424] 39 (0,0))) := ⟨Z236⟩
   have n5_ : Aside0 ((((w85.setCell ⟨gb431,0,none⟩ (.bool t427)).setCell ⟨gb431,1,none⟩ (.int .u64 t428)).setCell ⟨gb431,2,none⟩ (.int .u64 t429)).heap[gb431]? = some (.cells #[.bool t427,.int .u64 t428,.int .u64 t429] 39 (0,0))) := ⟨Z161⟩
   have n6_ : Aside0 (Below w.heap.size w (((w85.setCell ⟨gb431,0,none⟩ (.bool t427)).setCell ⟨gb431,1,none⟩ (.int .u64 t428)).setCell ⟨gb431,2,none⟩ (.int .u64 t429))) := ⟨Z154⟩
   (try clear BK416)
   (try clear BK417)
   (try clear BK418)
   (try clear BK419)
   (try clear BK426)
   (try clear BK431)
   (try clear HB)
   generalize (((w85.setCell ⟨gb431,0,none⟩ (.bool t427)).setCell ⟨gb431,1,none⟩ (.int .u64 t428)).setCell ⟨gb431,2,none⟩ (.int .u64 t429)) = w92 at n0_ n1_ n2_ n3_ n4_ n5_ n6_ ⊢
   have BK416 := n0_
   have BK417 := n1_
   have BK418 := n2_
   have BK419 := n3_
   have BK426 := n4_
   have BK431 := n5_
   have HB := n6_
   clear n0_ n1_ n2_ n3_ n4_ n5_ n6_
   have n0_ := Aside0.mk (blk_drew BK416.out)
   have n1_ := Aside0.mk (blk_drew BK417.out)
   have n2_ := Aside0.mk (blk_drew BK418.out)
   have n3_ := Aside0.mk (blk_drew BK419.out)
   have n4_ := Aside0.mk (blk_drew BK426.out)
   have n5_ := Aside0.mk (blk_drew BK431.out)
   have n6_ := Aside0.mk (below_drew1 HB.out)
   clear BK416
   clear BK417
   clear BK418
   clear BK419
   clear BK426
   clear BK431
   clear HB
   have BK416 := n0_
   have BK417 := n1_
   have BK418 := n2_
   have BK419 := n3_
   have BK426 := n4_
   have BK431 := n5_
   have HB := n6_
   clear n0_ n1_ n2_ n3_ n4_ n5_ n6_
   refine start_ (n := 9) (S := fun w' => w'.cell? ⟨gb426,0,none⟩ = some (.bool t422) ∧ w'.cell? ⟨gb426,1,none⟩ = some (.int .u64 t423) ∧ w'.cell? ⟨gb426,2,none⟩ = some (.int .u64 t424) ∧ w'.cell? ⟨gb431,0,none⟩ = some (.bool t427) ∧ w'.cell? ⟨gb431,1,none⟩ = some (.int .u64 t428) ∧ w'.cell? ⟨gb431,2,none⟩ = some (.int .u64 t429)) (ds := []) (qM 9 0) Z310 rfl (by kernel_rfl) ⟨bc BK426 0,bc BK426 1,bc BK426 2,bc BK431 0,bc BK431 1,bc BK431 2⟩ (fun hHeld => ?_);refine with_tabW impl_crossed.tab5 impl_crossed.bits5 (fun HT_ HW_ => ?_)
   generalize w92.drew = w93 at BK416 BK417 BK418 BK419 BK426 BK431 HB hHeld ⊢
   refine rP 2 39 9 4 HT_ (h := ?_)
   refine rP 3 40 9 12 HT_ (h := ?_)
   refine rU 4 41 9 28 HT_ (h := ?_)
   refine rP 5 42 9 60 HT_ (h := ?_)
   refine rT6 0 37 9 61 HT_ HW_ hHeld (h := ?_)
   refine rT6 1 38 9 63 HT_ HW_ hHeld (h := ?_)
   refine one_ (i := 6) (N := none) (qM 9 127) rfl rfl (one_of HT_.out Z310) Z522 (fun K hK => ?_)
   have hs94 : w93.cell? ⟨gb418,0,none⟩ = some (.bool false) := bc BK418 0
   have hfs94 := blk_frozen BK418.out 0
   have hns94_0 := NB416_418.out
   have hns94_1 := NB417_418.out
   have hns94_3 := NB419_418.out
   have hns94_4 := NB426_418.out
   have hns94_5 := NB431_418.out
   have hms94_0 := NB418_416.out
   have hms94_1 := NB418_417.out
   have hms94_3 := NB418_419.out
   have hms94_4 := NB418_426.out
   have hms94_5 := NB418_431.out
   have hs95 : w93.cell? ⟨gb418,1,none⟩ = some (.int .u64 0) := bc BK418 1
   have hfs95 := blk_frozen BK418.out 1
   have hns95_0 := NB416_418.out
   have hns95_1 := NB417_418.out
   have hns95_3 := NB419_418.out
   have hns95_4 := NB426_418.out
   have hns95_5 := NB431_418.out
   have hms95_0 := NB418_416.out
   have hms95_1 := NB418_417.out
   have hms95_3 := NB418_419.out
   have hms95_4 := NB418_426.out
   have hms95_5 := NB418_431.out
   have hs96 : w93.cell? ⟨gb418,2,none⟩ = some (.int .u64 0) := bc BK418 2
   have hfs96 := blk_frozen BK418.out 2
   have hns96_0 := NB416_418.out
   have hns96_1 := NB417_418.out
   have hns96_3 := NB419_418.out
   have hns96_4 := NB426_418.out
   have hns96_5 := NB431_418.out
   have hms96_0 := NB418_416.out
   have hms96_1 := NB418_417.out
   have hms96_3 := NB418_419.out
   have hms96_4 := NB418_426.out
   have hms96_5 := NB418_431.out
   refine skip_ (w1 := ?_) Z311 rfl ?_ ?_
   rotate_left
   ·go_simp
    rfl
   refine hK.out _ _ ⟨((cell_far (p := ⟨gb418,_,none⟩) NB426_418.out _).trans (((cell_far (p := ⟨gb418,_,none⟩) NB426_418.out _).trans (((cell_far (p := ⟨gb418,_,none⟩) NB426_418.out _).trans (hHeld.1)))))),((cell_far (p := ⟨gb418,_,none⟩) NB426_418.out _).trans (((cell_far (p := ⟨gb418,_,none⟩) NB426_418.out _).trans (((cell_far (p := ⟨gb418,_,none⟩) NB426_418.out _).trans (hHeld.2.1)))))),((cell_far (p := ⟨gb418,_,none⟩) NB426_418.out _).trans (((cell_far (p := ⟨gb418,_,none⟩) NB426_418.out _).trans (((cell_far (p := ⟨gb418,_,none⟩) NB426_418.out _).trans (hHeld.2.2.1)))))),((cell_far (p := ⟨gb418,_,none⟩) NB431_418.out _).trans (((cell_far (p := ⟨gb418,_,none⟩) NB431_418.out _).trans (((cell_far (p := ⟨gb418,_,none⟩) NB431_418.out _).trans (hHeld.2.2.2.1)))))),((cell_far (p := ⟨gb418,_,none⟩) NB431_418.out _).trans (((cell_far (p := ⟨gb418,_,none⟩) NB431_418.out _).trans (((cell_far (p := ⟨gb418,_,none⟩) NB431_418.out _).trans (hHeld.2.2.2.2.1)))))),((cell_far (p := ⟨gb418,_,none⟩) NB431_418.out _).trans (((cell_far (p := ⟨gb418,_,none⟩) NB431_418.out _).trans (((cell_far (p := ⟨gb418,_,none⟩) NB431_418.out _).trans (hHeld.2.2.2.2.2))))))⟩ (fun hHeld => ?_)
   clear hK K
   refine one_ (i := 7) (N := none) (qM 9 255) rfl rfl (one_of HT_.out Z310) Z522 (fun K hK => ?_)
   have hs97 : w93.cell? ⟨gb419,0,none⟩ = some (.bool false) := bc BK419 0
   have hfs97 := blk_frozen BK419.out 0
   have hns97_0 := NB416_419.out
   have hns97_1 := NB417_419.out
   have hns97_2 := NB418_419.out
   have hns97_4 := NB426_419.out
   have hns97_5 := NB431_419.out
   have hms97_0 := NB419_416.out
   have hms97_1 := NB419_417.out
   have hms97_2 := NB419_418.out
   have hms97_4 := NB419_426.out
   have hms97_5 := NB419_431.out
   have hs98 : w93.cell? ⟨gb419,1,none⟩ = some (.int .u64 0) := bc BK419 1
   have hfs98 := blk_frozen BK419.out 1
   have hns98_0 := NB416_419.out
   have hns98_1 := NB417_419.out
   have hns98_2 := NB418_419.out
   have hns98_4 := NB426_419.out
   have hns98_5 := NB431_419.out
   have hms98_0 := NB419_416.out
   have hms98_1 := NB419_417.out
   have hms98_2 := NB419_418.out
   have hms98_4 := NB419_426.out
   have hms98_5 := NB419_431.out
   have hs99 : w93.cell? ⟨gb419,2,none⟩ = some (.int .u64 0) := bc BK419 2
   have hfs99 := blk_frozen BK419.out 2
   have hns99_0 := NB416_419.out
   have hns99_1 := NB417_419.out
   have hns99_2 := NB418_419.out
   have hns99_4 := NB426_419.out
   have hns99_5 := NB431_419.out
   have hms99_0 := NB419_416.out
   have hms99_1 := NB419_417.out
   have hms99_2 := NB419_418.out
   have hms99_4 := NB419_426.out
   have hms99_5 := NB419_431.out
   refine skip_ (w1 := ?_) Z311 rfl ?_ ?_
   rotate_left
   ·go_simp
    rfl
   refine hK.out _ _ ⟨((cell_far (p := ⟨gb419,_,none⟩) NB426_419.out _).trans (((cell_far (p := ⟨gb419,_,none⟩) NB426_419.out _).trans (((cell_far (p := ⟨gb419,_,none⟩) NB426_419.out _).trans (hHeld.1)))))),((cell_far (p := ⟨gb419,_,none⟩) NB426_419.out _).trans (((cell_far (p := ⟨gb419,_,none⟩) NB426_419.out _).trans (((cell_far (p := ⟨gb419,_,none⟩) NB426_419.out _).trans (hHeld.2.1)))))),((cell_far (p := ⟨gb419,_,none⟩) NB426_419.out _).trans (((cell_far (p := ⟨gb419,_,none⟩) NB426_419.out _).trans (((cell_far (p := ⟨gb419,_,none⟩) NB426_419.out _).trans (hHeld.2.2.1)))))),((cell_far (p := ⟨gb419,_,none⟩) NB431_419.out _).trans (((cell_far (p := ⟨gb419,_,none⟩) NB431_419.out _).trans (((cell_far (p := ⟨gb419,_,none⟩) NB431_419.out _).trans (hHeld.2.2.2.1)))))),((cell_far (p := ⟨gb419,_,none⟩) NB431_419.out _).trans (((cell_far (p := ⟨gb419,_,none⟩) NB431_419.out _).trans (((cell_far (p := ⟨gb419,_,none⟩) NB431_419.out _).trans (hHeld.2.2.2.2.1)))))),((cell_far (p := ⟨gb419,_,none⟩) NB431_419.out _).trans (((cell_far (p := ⟨gb419,_,none⟩) NB431_419.out _).trans (((cell_far (p := ⟨gb419,_,none⟩) NB431_419.out _).trans (hHeld.2.2.2.2.2))))))⟩ (fun hHeld => ?_)
   clear hK K
   refine rP 8 6 9 511 HT_ (h := ?_)
   refine done_ (done_of HT_.out Z310) ?_
   try go_wp2
   refine bodyPost_ret (results_list (rs := [.cell 4 39,.cell 5 39,.tmp 6]) rfl Z524 (.cell gb418 39 #[.bool t422,.int .u64 t423,.int .u64 t424] (0,0) _ rfl Z136 Try.underlying39 rfl Z310 (.cell gb419 39 #[.bool t427,.int .u64 t428,.int .u64 t429] (0,0) _ rfl Z134 Try.underlying39 rfl Z310 (.tmp .nil)))) rfl ?_
   exact ⟨Z265,Z154⟩

/-! ### cmp_Or_int: function 27 -/
def cmp_Or_int.l0 : Nat → Int → List Int → Int → Int → Option (Int)
 | 0,_,_,_,_ => none
 | k + 1,x3,x6,x7,x8 => if x8 < x7 then (if 0 ≤ x8 then (if x8 < (x6.length : Int) then (if (rd x6 x8) = x3 then (cmp_Or_int.l0 k x3 x6 x7 (wrap64 (x8 + 1))) else (some (rd x6 x8))) else (none)) else (none)) else (some x3)
def cmp_Or_int.f (k : Nat) (l0 : List Int) : Option (Int) := cmp_Or_int.l0 k 0 l0 (l0.length : Int) 0
theorem cmp_Or_int.mono_l : ∀ k,(∀ y0 y1 y2 y3,LeO (cmp_Or_int.l0 k y0 y1 y2 y3) (cmp_Or_int.l0 (k + 1) y0 y1 y2 y3))
 | 0 => fun _ _ _ _ r h => by simp [cmp_Or_int.l0] at h
 | k + 1 => by
  have ih0 := cmp_Or_int.mono_l k
  ·intro y0 y1 y2 y3
   unfold cmp_Or_int.l0
   repeat' first
   | (with_reducible exact ih0 _ _ _ _)
   | (with_reducible exact LeO.refl _)
   | (with_reducible exact LeO.none _)
   | (with_reducible refine LeO.ite ?_ ?_)
   | (with_reducible refine LeO.bind ?_ (fun _ => ?_))
   | exact ih0 _ _ _ _
   | exact LeO.none _
   | refine LeO.ite ?_ ?_
   | refine LeO.bind ?_ (fun _ => ?_)
theorem cmp_Or_int.mono : ∀ a0 k,LeO (cmp_Or_int.f k a0) (cmp_Or_int.f (k + 1) a0) := by
 intro a0 k
 have ih0 := cmp_Or_int.mono_l k
 unfold cmp_Or_int.f
 repeat' first
   | (with_reducible exact ih0 _ _ _ _)
   | (with_reducible exact LeO.refl _)
   | (with_reducible exact LeO.none _)
   | (with_reducible refine LeO.ite ?_ ?_)
   | (with_reducible refine LeO.bind ?_ (fun _ => ?_))
   | exact ih0 _ _ _ _
   | exact LeO.none _
   | refine LeO.ite ?_ ?_
   | refine LeO.bind ?_ (fun _ => ?_)
set_option maxHeartbeats 8000000 in
set_option maxRecDepth 100000 in
theorem cmp_Or_int.calls (k : Nat) (A0 : Option Addr) (c0 : Nat) (l0 : List Int) (r : Int) (w : World) (hr0 : Kd.C (Kd.int .i64) w A0 l0.length l0) (hc0 : l0.length ≤ c0) (h : cmp_Or_int.f k l0 = some r) :
  Calls Try.prog 27 #[.slice A0 l0.length c0] w fun e w' => e = .returned (.int .i64 r) ∧ Drawn0 w w' := by
 have HR0 := Aside0.mk hr0
 have HC0 := Aside0.mk hc0
 clear hr0 hc0
 have H := h
 clear h
 unfold cmp_Or_int.f at H
 have H' := Aside0.mk H
 clear H
 go_enter Try.func27,Try.ntmps27
 go_wp2
 go_loopg [8] k (fun kq v8 w' => ∃ (x8_1 : Int),v8 = .int .i64 x8_1 ∧ Aside0 (cmp_Or_int.l0 kq 0 l0 (l0.length : Int) x8_1 = some r) ∧ Aside0 (kq ≤ k) ∧ Drawn0 w w')
 case atStart => exact ⟨(0),Z294,H',⟨Nat.le_refl _⟩,Z271⟩
 case round =>
  clear H'
  obtain ⟨x8_1,rfl,HA,HK1,⟨m1,rfl⟩⟩ := hrel
  cases gk with
  | zero => exact absurd HA.out (by simp [cmp_Or_int.l0])
  | succ k1 =>
   have H := HA.out
   clear HA
   simp only [cmp_Or_int.l0] at H
   by_cases c2 : x8_1 < (l0.length : Int)
   rotate_left
   ·rw [if_neg c2] at H
    have c2b0 : decide (x8_1 < (l0.length : Int)) = false := decide_eq_false c2
    clear c2
    obtain rfl := Option.some.inj H
    go_wp2
    go_ret
    exact ⟨Z294,Z271⟩
   rw [if_pos c2] at H
   have c2b0 : decide (x8_1 < (l0.length : Int)) = true := decide_eq_true c2
   clear c2
   obtain ⟨c3,H⟩ := ifp H
   have c3b0 : decide (0 ≤ x8_1) = true := decide_eq_true c3
   clear c3
   obtain ⟨c4,H⟩ := ifp H
   have c4b0 : decide (x8_1 < (l0.length : Int)) = true := decide_eq_true c4
   clear c4
   by_cases c5 : (rd l0 x8_1) = 0
   rotate_left
   ·rw [if_neg c5] at H
    have c5b0 : ((rd l0 x8_1) == 0) = false := beq_eq_false_iff_ne.mpr c5
    have c5b1 : ((rd l0 x8_1) != 0) = true := bne_iff_ne.mpr c5
    obtain rfl := Option.some.inj H
    have p432 : 0 ≤ (x8_1 : Int) := of_decide_eq_true Z293
    have q432 : x8_1 < (l0.length : Int) := of_decide_eq_true Z293
    obtain ⟨ad432,e432,hx432_0⟩ := Kd.at_int HR0.out x8_1 p432 q432
    cases e432
    replace p432 := eq_true p432
    replace q432 := eq_true q432
    go_wp2
    go_ret
    exact ⟨Z294,Z271⟩
   rw [if_pos c5] at H
   have c5b0 : ((rd l0 x8_1) == 0) = true := beq_iff_eq.mpr c5
   have c5b1 : ((rd l0 x8_1) != 0) = false := bne_eq_false_iff_eq.mpr c5
   clear c5
   have H' := Aside0.mk H
   clear H
   have p432 : 0 ≤ (x8_1 : Int) := of_decide_eq_true Z293
   have q432 : x8_1 < (l0.length : Int) := of_decide_eq_true Z293
   obtain ⟨ad432,e432,hx432_0⟩ := Kd.at_int HR0.out x8_1 p432 q432
   cases e432
   replace p432 := eq_true p432
   replace q432 := eq_true q432
   go_wp2
   go_roundg k1
   case measure => have := HK1.out;omega
   case rel => exact ⟨(wrap64 (x8_1 + 1)),Z294,H',⟨Z309⟩,Z271⟩

end Go.Proofs.Ytlflcgdcegohjaa.QFnBetter
