/- The machine side of FnBetter: what each Go function that it reaches comes to. Conditions: none. -/
import Derived.Test.YtlflcgdcegohjaaQFnBetterx0
import Derived.Test.YtlflcgdcegohjaaQFnBetterx10
namespace Go.Proofs.Ytlflcgdcegohjaa.QFnBetter
open Go.RowKit Go.Proofs.YtlflcgdcegohjaaW.PrintWords Go.Proofs.YtlflcgdcegohjaaW.PrintLast Go.Proofs.YtlflcgdcegohjaaW.PrintMore
attribute [local go_sem] max2_int min2_int max_two min_two max_three min_three max_four min_four   -- for this text's walks alone
set_option linter.unusedVariables false
set_option linter.unusedSimpArgs false

/-! ### spec_ScaleWide: function 50 -/
def spec_ScaleWide.f (a0_0 : Bool) (a0_1 : Int) (a0_2 : Int) (a1 : Int) : Option (Bool × Int × Int × Bool) := (spec_WideOk.f a0_0 a0_1 a0_2).bind fun t589 => (if t589 = true then ((spec_l3Abs.f a1).bind fun t590 => ((spec_l3Product.f a0_1 t590).bind fun bt591 => ((spec_l3Product.f a0_2 t590).bind fun bt593 => ((spec_l3Zero.f (a0_0 != (decide (a1 < 0))) (IntKind.u64.wrap (bt591.2 + bt593.1)) bt593.2).bind fun t596 => (if t596 = true then (if bt591.1 > 0 then (some (false,0,0,false)) else (if (IntKind.u64.wrap (bt591.2 + bt593.1)) < bt591.2 then (some (false,0,0,false)) else ((spec_WideOk.f false (IntKind.u64.wrap (bt591.2 + bt593.1)) bt593.2).bind fun t597 => (if t597 = true then (some (false,IntKind.u64.wrap (bt591.2 + bt593.1),bt593.2,true)) else (some (false,0,0,false)))))) else (if bt591.1 > 0 then (some (false,0,0,false)) else (if (IntKind.u64.wrap (bt591.2 + bt593.1)) < bt591.2 then (some (false,0,0,false)) else ((spec_WideOk.f (a0_0 != (decide (a1 < 0))) (IntKind.u64.wrap (bt591.2 + bt593.1)) bt593.2).bind fun t598 => (if t598 = true then (some ((a0_0 != (decide (a1 < 0))),IntKind.u64.wrap (bt591.2 + bt593.1),bt593.2,true)) else (some (false,0,0,false))))))))))) else (some (false,0,0,false)))
set_option maxHeartbeats 8000000 in
set_option maxRecDepth 100000 in
theorem spec_ScaleWide.calls (a0_0 : Bool) (a0_1 : Int) (a0_2 : Int) (a1 : Int) (r1 : Bool) (r2 : Int) (r3 : Int) (r4 : Bool) (w : World) (h : spec_ScaleWide.f a0_0 a0_1 a0_2 a1 = some (r1,r2,r3,r4)) :
  Calls Try.prog 50 #[.agg #[.bool a0_0,.int .u64 a0_1,.int .u64 a0_2],.int .i64 a1] w fun e w' => e = .returned (.tuple #[.agg #[.bool r1,.int .u64 r2,.int .u64 r3],.bool r4]) ∧ Below w.heap.size w w' := by
 have hu39 := Try.underlying39
 have HB := Aside0.mk (Below.refl w.heap.size w)
 have H := h
 clear h
 unfold spec_ScaleWide.f at H
 obtain ⟨t589,A30,H⟩ := Option.bind_eq_some_iff.mp H
 have A3 := Aside0.mk A30
 clear A30
 by_cases c4 : t589 = true
 rotate_left
 ·replace c4 := Bool.eq_false_iff.mpr c4
  subst c4
  rw [if_neg Bool.false_ne_true] at H
  simp only [Option.some.injEq,Prod.mk.injEq] at H
  obtain ⟨rfl,rfl,rfl,rfl⟩ := H
  go_enter Try.func50,Try.ntmps50
  go_wp2_with (first | ((with_reducible refine gate_dst (N := 2) rfl ?_);refine bE 2 #[.bool a0_0,.int .u64 a0_1,.int .u64 a0_2] 39 (h := ?_);intro gb587 hg wq1 hbox hb;have n_ := Z97;clear HB;obtain ⟨HB,BK587,GW587,GE587⟩ := n_;clear hb hbox hg) | ((with_reducible refine gate_dst (N := 4) rfl ?_);refine bE 4 #[.bool false,.int .u64 0,.int .u64 0] 39 (h := ?_);intro gb588 hg wq2 hbox hb;have n_ := Z64;clear BK587 HB;obtain ⟨BK587,HB,BK588,GW588,GE588,NB587_588,NB588_587⟩ := n_;clear hb hbox hg;have hnbq3 := NB587_588.out;have hncq3 := NB588_587.out;obtain ⟨hczq4_0,hczq4_1,hczq4_2,hfzq4_0,hfzq4_1,hfzq4_2⟩ := cells3 BK587.out) | ((with_reducible refine gate_callee (f := 63) rfl ?_);refine goesL_ (some 14) rfl rfl Try.func63 Z310 rfl #[.agg #[.bool a0_0,.int .u64 a0_1,.int .u64 a0_2]] rfl Z249 ?_;(with_reducible refine (spec_WideOk.calls a0_0 a0_1 a0_2 false _ A3.out).mono ?_);rintro e wq5 ⟨rfl,hb⟩;refine ⟨_,rfl,?_⟩;have n_ := Z127;clear BK587 BK588 HB;obtain ⟨BK587,BK588,HB⟩ := n_;(try clear hb);(try clear hb2);(try clear hk);(try clear hi);obtain ⟨hczq6_0,hczq6_1,hczq6_2,hfzq6_0,hfzq6_1,hfzq6_2⟩ := cells3 BK588.out))
  refine bodyPost_ret (results_ct rfl _ _ gb588 39 #[.bool false,.int .u64 0,.int .u64 0] (0,0) _ rfl Z162 Try.underlying39 rfl Z310) rfl ?_
  exact ⟨Z265,Z544⟩
 subst c4
 rw [if_pos rfl] at H
 obtain ⟨t590,A50,H⟩ := Option.bind_eq_some_iff.mp H
 have A5 := Aside0.mk A50
 clear A50
 obtain ⟨⟨t591,t592⟩,A60,H⟩ := Option.bind_eq_some_iff.mp H
 try dsimp only at H
 have A6 := Aside0.mk A60
 clear A60
 obtain ⟨⟨t593,t594⟩,A70,H⟩ := Option.bind_eq_some_iff.mp H
 try dsimp only at H
 have A7 := Aside0.mk A70
 clear A70
 obtain ⟨t596,A80,H⟩ := Option.bind_eq_some_iff.mp H
 have A8 := Aside0.mk A80
 clear A80
 by_cases c9 : t596 = true
 ·subst c9
  rw [if_pos rfl] at H
  by_cases c10 : t591 > 0
  ·rw [if_pos c10] at H
   have c10b0 : decide (0 < t591) = true := decide_eq_true c10
   clear c10
   simp only [Option.some.injEq,Prod.mk.injEq] at H
   obtain ⟨rfl,rfl,rfl,rfl⟩ := H
   go_enter Try.func50,Try.ntmps50
   go_wp2_with (first | ((with_reducible refine gate_dst (N := 2) rfl ?_);refine bE 2 #[.bool a0_0,.int .u64 a0_1,.int .u64 a0_2] 39 (h := ?_);intro gb587 hg wq1 hbox hb;have n_ := Z97;clear HB;obtain ⟨HB,BK587,GW587,GE587⟩ := n_;clear hb hbox hg) | ((with_reducible refine gate_dst (N := 4) rfl ?_);refine bE 4 #[.bool false,.int .u64 0,.int .u64 0] 39 (h := ?_);intro gb588 hg wq2 hbox hb;have n_ := Z64;clear BK587 HB;obtain ⟨BK587,HB,BK588,GW588,GE588,NB587_588,NB588_587⟩ := n_;clear hb hbox hg;have hnbq3 := NB587_588.out;have hncq3 := NB588_587.out;obtain ⟨hczq4_0,hczq4_1,hczq4_2,hfzq4_0,hfzq4_1,hfzq4_2⟩ := cells3 BK587.out) | ((with_reducible refine gate_callee (f := 63) rfl ?_);refine goesL_ (some 14) rfl rfl Try.func63 Z310 rfl #[.agg #[.bool a0_0,.int .u64 a0_1,.int .u64 a0_2]] rfl Z249 ?_;(with_reducible refine (spec_WideOk.calls a0_0 a0_1 a0_2 true _ A3.out).mono ?_);rintro e wq5 ⟨rfl,hb⟩;refine ⟨_,rfl,?_⟩;have n_ := Z127;clear BK587 BK588 HB;obtain ⟨BK587,BK588,HB⟩ := n_;(try clear hb);(try clear hb2);(try clear hk);(try clear hi)) | ((with_reducible refine gate_callee (f := 64) rfl ?_);refine goesL_ (some 18) rfl rfl Try.func64 Z310 rfl #[.int .i64 a1] rfl Z249 ?_;(with_reducible refine (spec_l3Abs.calls a1 t590 _ A5.out).mono ?_);rintro e w' ⟨rfl,⟨nd,rfl⟩⟩;refine ⟨_,rfl,?_⟩;(iterate 4 (try (rw [drewN_self wq5];generalize hq_ : World.drewN wq5 _ = wq5;have n0_ : Aside0 (wq5.heap[gb587]? = some (.cells #[.bool a0_0,.int .u64 a0_1,.int .u64 a0_2] 39 (0,0))) := ⟨Z275⟩;have n1_ : Aside0 (wq5.heap[gb588]? = some (.cells #[.bool false,.int .u64 0,.int .u64 0] 39 (0,0))) := ⟨Z274⟩;have n2_ : Aside0 (Below w.heap.size w wq5) := ⟨Z185⟩;clear BK587 BK588 HB hq_;have BK587 := n0_;have BK588 := n1_;have HB := n2_;clear n0_ n1_ n2_)));obtain ⟨hczq6_0,hczq6_1,hczq6_2,hfzq6_0,hfzq6_1,hfzq6_2⟩ := cells3 BK587.out) | ((with_reducible refine gate_callee (f := 65) rfl ?_);refine goesL_ (some 23) rfl rfl Try.func65 Z310 rfl #[.int .u64 a0_1,.int .u64 t590] rfl Z249 ?_;(with_reducible refine (spec_l3Product.calls a0_1 t590 t591 t592 _ A6.out).mono ?_);rintro e w' ⟨rfl,⟨nd,rfl⟩⟩;refine ⟨_,rfl,?_⟩;(iterate 4 (try (rw [drewN_self wq5];generalize hq_ : World.drewN wq5 _ = wq5;have n0_ : Aside0 (wq5.heap[gb587]? = some (.cells #[.bool a0_0,.int .u64 a0_1,.int .u64 a0_2] 39 (0,0))) := ⟨Z275⟩;have n1_ : Aside0 (wq5.heap[gb588]? = some (.cells #[.bool false,.int .u64 0,.int .u64 0] 39 (0,0))) := ⟨Z274⟩;have n2_ : Aside0 (Below w.heap.size w wq5) := ⟨Z185⟩;clear BK587 BK588 HB hq_;have BK587 := n0_;have BK588 := n1_;have HB := n2_;clear n0_ n1_ n2_)));(try (obtain ⟨hczq6_0,hczq6_1,hczq6_2,hfzq6_0,hfzq6_1,hfzq6_2⟩ := cells3 BK587.out))) | ((with_reducible refine gate_callee (f := 65) rfl ?_);refine goesL_ (some 30) rfl rfl Try.func65 Z310 rfl #[.int .u64 a0_2,.int .u64 t590] rfl Z249 ?_;(with_reducible refine (spec_l3Product.calls a0_2 t590 t593 t594 _ A7.out).mono ?_);rintro e w' ⟨rfl,⟨nd,rfl⟩⟩;refine ⟨_,rfl,?_⟩;(iterate 4 (try (rw [drewN_self wq5];generalize hq_ : World.drewN wq5 _ = wq5;have n0_ : Aside0 (wq5.heap[gb587]? = some (.cells #[.bool a0_0,.int .u64 a0_1,.int .u64 a0_2] 39 (0,0))) := ⟨Z275⟩;have n1_ : Aside0 (wq5.heap[gb588]? = some (.cells #[.bool false,.int .u64 0,.int .u64 0] 39 (0,0))) := ⟨Z274⟩;have n2_ : Aside0 (Below w.heap.size w wq5) := ⟨Z185⟩;clear BK587 BK588 HB hq_;have BK587 := n0_;have BK588 := n1_;have HB := n2_;clear n0_ n1_ n2_)));(try (obtain ⟨hczq6_0,hczq6_1,hczq6_2,hfzq6_0,hfzq6_1,hfzq6_2⟩ := cells3 BK587.out))) | ((with_reducible refine gate_dst (N := 12) rfl ?_);refine bE 12 #[.bool false,.int .u64 0,.int .u64 0] 39 (h := ?_);intro gb595 hg wq7 hbox hb;have n_ := Z39;clear BK587 BK588 HB;obtain ⟨BK587,BK588,HB,BK595,GW595,GE595,NB587_595,NB595_587,NB588_595,NB595_588⟩ := n_;clear hb hbox hg;have hnbq8 := NB595_587.out;have hncq8 := NB587_595.out;have hnbq9 := NB595_588.out;have hncq9 := NB588_595.out;obtain ⟨hczq10_0,hczq10_1,hczq10_2,hfzq10_0,hfzq10_1,hfzq10_2⟩ := cells3 BK595.out) | ((with_reducible refine gate_callee (f := 51) rfl ?_);refine goesL_ (some 45) rfl rfl Try.func51 Z310 rfl #[.agg #[.bool (a0_0 != (decide (a1 < 0))),.int .u64 (IntKind.u64.wrap (t592 + t593)),.int .u64 t594]] rfl Z249 ?_;(with_reducible refine (spec_l3Zero.calls (a0_0 != (decide (a1 < 0))) (IntKind.u64.wrap (t592 + t593)) t594 true _ A8.out).mono ?_);rintro e wq11 ⟨rfl,hb⟩;refine ⟨_,rfl,?_⟩;have n_ := Z51;clear BK587 BK588 BK595 HB;obtain ⟨BK587,BK588,BK595,HB⟩ := n_;(try clear hb);(try clear hb2);(try clear hk);(try clear hi);obtain ⟨hczq12_0,hczq12_1,hczq12_2,hfzq12_0,hfzq12_1,hfzq12_2⟩ := cells3 BK595.out;obtain ⟨hczq13_0,hczq13_1,hczq13_2,hfzq13_0,hfzq13_1,hfzq13_2⟩ := cells3 BK588.out))
   refine bodyPost_ret (results_ct rfl _ _ gb588 39 #[.bool false,.int .u64 0,.int .u64 0] (0,0) _ rfl Z150 Try.underlying39 rfl Z310) rfl ?_
   exact ⟨Z265,Z340⟩
  rw [if_neg c10] at H
  have c10b0 : decide (0 < t591) = false := decide_eq_false c10
  clear c10
  by_cases c24 : (IntKind.u64.wrap (t592 + t593)) < t592
  ·rw [if_pos c24] at H
   have c24b0 : decide ((IntKind.u64.wrap (t592 + t593)) < t592) = true := decide_eq_true c24
   clear c24
   simp only [Option.some.injEq,Prod.mk.injEq] at H
   obtain ⟨rfl,rfl,rfl,rfl⟩ := H
   go_enter Try.func50,Try.ntmps50
   go_wp2_with (first | ((with_reducible refine gate_dst (N := 2) rfl ?_);refine bE 2 #[.bool a0_0,.int .u64 a0_1,.int .u64 a0_2] 39 (h := ?_);intro gb587 hg wq1 hbox hb;have n_ := Z97;clear HB;obtain ⟨HB,BK587,GW587,GE587⟩ := n_;clear hb hbox hg) | ((with_reducible refine gate_dst (N := 4) rfl ?_);refine bE 4 #[.bool false,.int .u64 0,.int .u64 0] 39 (h := ?_);intro gb588 hg wq2 hbox hb;have n_ := Z64;clear BK587 HB;obtain ⟨BK587,HB,BK588,GW588,GE588,NB587_588,NB588_587⟩ := n_;clear hb hbox hg;have hnbq3 := NB587_588.out;have hncq3 := NB588_587.out;obtain ⟨hczq4_0,hczq4_1,hczq4_2,hfzq4_0,hfzq4_1,hfzq4_2⟩ := cells3 BK587.out) | ((with_reducible refine gate_callee (f := 63) rfl ?_);refine goesL_ (some 14) rfl rfl Try.func63 Z310 rfl #[.agg #[.bool a0_0,.int .u64 a0_1,.int .u64 a0_2]] rfl Z249 ?_;(with_reducible refine (spec_WideOk.calls a0_0 a0_1 a0_2 true _ A3.out).mono ?_);rintro e wq5 ⟨rfl,hb⟩;refine ⟨_,rfl,?_⟩;have n_ := Z127;clear BK587 BK588 HB;obtain ⟨BK587,BK588,HB⟩ := n_;(try clear hb);(try clear hb2);(try clear hk);(try clear hi)) | ((with_reducible refine gate_callee (f := 64) rfl ?_);refine goesL_ (some 18) rfl rfl Try.func64 Z310 rfl #[.int .i64 a1] rfl Z249 ?_;(with_reducible refine (spec_l3Abs.calls a1 t590 _ A5.out).mono ?_);rintro e w' ⟨rfl,⟨nd,rfl⟩⟩;refine ⟨_,rfl,?_⟩;(iterate 4 (try (rw [drewN_self wq5];generalize hq_ : World.drewN wq5 _ = wq5;have n0_ : Aside0 (wq5.heap[gb587]? = some (.cells #[.bool a0_0,.int .u64 a0_1,.int .u64 a0_2] 39 (0,0))) := ⟨Z275⟩;have n1_ : Aside0 (wq5.heap[gb588]? = some (.cells #[.bool false,.int .u64 0,.int .u64 0] 39 (0,0))) := ⟨Z274⟩;have n2_ : Aside0 (Below w.heap.size w wq5) := ⟨Z185⟩;clear BK587 BK588 HB hq_;have BK587 := n0_;have BK588 := n1_;have HB := n2_;clear n0_ n1_ n2_)));obtain ⟨hczq6_0,hczq6_1,hczq6_2,hfzq6_0,hfzq6_1,hfzq6_2⟩ := cells3 BK587.out) | ((with_reducible refine gate_callee (f := 65) rfl ?_);refine goesL_ (some 23) rfl rfl Try.func65 Z310 rfl #[.int .u64 a0_1,.int .u64 t590] rfl Z249 ?_;(with_reducible refine (spec_l3Product.calls a0_1 t590 t591 t592 _ A6.out).mono ?_);rintro e w' ⟨rfl,⟨nd,rfl⟩⟩;refine ⟨_,rfl,?_⟩;(iterate 4 (try (rw [drewN_self wq5];generalize hq_ : World.drewN wq5 _ = wq5;have n0_ : Aside0 (wq5.heap[gb587]? = some (.cells #[.bool a0_0,.int .u64 a0_1,.int .u64 a0_2] 39 (0,0))) := ⟨Z275⟩;have n1_ : Aside0 (wq5.heap[gb588]? = some (.cells #[.bool false,.int .u64 0,.int .u64 0] 39 (0,0))) := ⟨Z274⟩;have n2_ : Aside0 (Below w.heap.size w wq5) := ⟨Z185⟩;clear BK587 BK588 HB hq_;have BK587 := n0_;have BK588 := n1_;have HB := n2_;clear n0_ n1_ n2_)));(try (obtain ⟨hczq6_0,hczq6_1,hczq6_2,hfzq6_0,hfzq6_1,hfzq6_2⟩ := cells3 BK587.out))) | ((with_reducible refine gate_callee (f := 65) rfl ?_);refine goesL_ (some 30) rfl rfl Try.func65 Z310 rfl #[.int .u64 a0_2,.int .u64 t590] rfl Z249 ?_;(with_reducible refine (spec_l3Product.calls a0_2 t590 t593 t594 _ A7.out).mono ?_);rintro e w' ⟨rfl,⟨nd,rfl⟩⟩;refine ⟨_,rfl,?_⟩;(iterate 4 (try (rw [drewN_self wq5];generalize hq_ : World.drewN wq5 _ = wq5;have n0_ : Aside0 (wq5.heap[gb587]? = some (.cells #[.bool a0_0,.int .u64 a0_1,.int .u64 a0_2] 39 (0,0))) := ⟨Z275⟩;have n1_ : Aside0 (wq5.heap[gb588]? = some (.cells #[.bool false,.int .u64 0,.int .u64 0] 39 (0,0))) := ⟨Z274⟩;have n2_ : Aside0 (Below w.heap.size w wq5) := ⟨Z185⟩;clear BK587 BK588 HB hq_;have BK587 := n0_;have BK588 := n1_;have HB := n2_;clear n0_ n1_ n2_)));(try (obtain ⟨hczq6_0,hczq6_1,hczq6_2,hfzq6_0,hfzq6_1,hfzq6_2⟩ := cells3 BK587.out))) | ((with_reducible refine gate_dst (N := 12) rfl ?_);refine bE 12 #[.bool false,.int .u64 0,.int .u64 0] 39 (h := ?_);intro gb595 hg wq7 hbox hb;have n_ := Z39;clear BK587 BK588 HB;obtain ⟨BK587,BK588,HB,BK595,GW595,GE595,NB587_595,NB595_587,NB588_595,NB595_588⟩ := n_;clear hb hbox hg;have hnbq8 := NB595_587.out;have hncq8 := NB587_595.out;have hnbq9 := NB595_588.out;have hncq9 := NB588_595.out;obtain ⟨hczq10_0,hczq10_1,hczq10_2,hfzq10_0,hfzq10_1,hfzq10_2⟩ := cells3 BK595.out) | ((with_reducible refine gate_callee (f := 51) rfl ?_);refine goesL_ (some 45) rfl rfl Try.func51 Z310 rfl #[.agg #[.bool (a0_0 != (decide (a1 < 0))),.int .u64 (IntKind.u64.wrap (t592 + t593)),.int .u64 t594]] rfl Z249 ?_;(with_reducible refine (spec_l3Zero.calls (a0_0 != (decide (a1 < 0))) (IntKind.u64.wrap (t592 + t593)) t594 true _ A8.out).mono ?_);rintro e wq11 ⟨rfl,hb⟩;refine ⟨_,rfl,?_⟩;have n_ := Z51;clear BK587 BK588 BK595 HB;obtain ⟨BK587,BK588,BK595,HB⟩ := n_;(try clear hb);(try clear hb2);(try clear hk);(try clear hi);obtain ⟨hczq12_0,hczq12_1,hczq12_2,hfzq12_0,hfzq12_1,hfzq12_2⟩ := cells3 BK595.out;obtain ⟨hczq13_0,hczq13_1,hczq13_2,hfzq13_0,hfzq13_1,hfzq13_2⟩ := cells3 BK588.out))
   refine bodyPost_ret (results_ct rfl _ _ gb588 39 #[.bool false,.int .u64 0,.int .u64 0] (0,0) _ rfl Z150 Try.underlying39 rfl Z310) rfl ?_
   exact ⟨Z265,Z340⟩
  rw [if_neg c24] at H
  have c24b0 : decide ((IntKind.u64.wrap (t592 + t593)) < t592) = false := decide_eq_false c24
  clear c24
  obtain ⟨t597,A380,H⟩ := Option.bind_eq_some_iff.mp H
  have A38 := Aside0.mk A380
  clear A380
  by_cases c39 : t597 = true
  rotate_left
  ·replace c39 := Bool.eq_false_iff.mpr c39
   subst c39
   rw [if_neg Bool.false_ne_true] at H
   simp only [Option.some.injEq,Prod.mk.injEq] at H
   obtain ⟨rfl,rfl,rfl,rfl⟩ := H
   go_enter Try.func50,Try.ntmps50
   go_wp2_with (first | ((with_reducible refine gate_dst (N := 2) rfl ?_);refine bE 2 #[.bool a0_0,.int .u64 a0_1,.int .u64 a0_2] 39 (h := ?_);intro gb587 hg wq1 hbox hb;have n_ := Z97;clear HB;obtain ⟨HB,BK587,GW587,GE587⟩ := n_;clear hb hbox hg) | ((with_reducible refine gate_dst (N := 4) rfl ?_);refine bE 4 #[.bool false,.int .u64 0,.int .u64 0] 39 (h := ?_);intro gb588 hg wq2 hbox hb;have n_ := Z64;clear BK587 HB;obtain ⟨BK587,HB,BK588,GW588,GE588,NB587_588,NB588_587⟩ := n_;clear hb hbox hg;have hnbq3 := NB587_588.out;have hncq3 := NB588_587.out;obtain ⟨hczq4_0,hczq4_1,hczq4_2,hfzq4_0,hfzq4_1,hfzq4_2⟩ := cells3 BK587.out) | ((with_reducible refine gate_callee (f := 63) rfl ?_);refine goesL_ (some 14) rfl rfl Try.func63 Z310 rfl #[.agg #[.bool a0_0,.int .u64 a0_1,.int .u64 a0_2]] rfl Z249 ?_;(with_reducible refine (spec_WideOk.calls a0_0 a0_1 a0_2 true _ A3.out).mono ?_);rintro e wq5 ⟨rfl,hb⟩;refine ⟨_,rfl,?_⟩;have n_ := Z127;clear BK587 BK588 HB;obtain ⟨BK587,BK588,HB⟩ := n_;(try clear hb);(try clear hb2);(try clear hk);(try clear hi)) | ((with_reducible refine gate_callee (f := 64) rfl ?_);refine goesL_ (some 18) rfl rfl Try.func64 Z310 rfl #[.int .i64 a1] rfl Z249 ?_;(with_reducible refine (spec_l3Abs.calls a1 t590 _ A5.out).mono ?_);rintro e w' ⟨rfl,⟨nd,rfl⟩⟩;refine ⟨_,rfl,?_⟩;(iterate 4 (try (rw [drewN_self wq5];generalize hq_ : World.drewN wq5 _ = wq5;have n0_ : Aside0 (wq5.heap[gb587]? = some (.cells #[.bool a0_0,.int .u64 a0_1,.int .u64 a0_2] 39 (0,0))) := ⟨Z275⟩;have n1_ : Aside0 (wq5.heap[gb588]? = some (.cells #[.bool false,.int .u64 0,.int .u64 0] 39 (0,0))) := ⟨Z274⟩;have n2_ : Aside0 (Below w.heap.size w wq5) := ⟨Z185⟩;clear BK587 BK588 HB hq_;have BK587 := n0_;have BK588 := n1_;have HB := n2_;clear n0_ n1_ n2_)));obtain ⟨hczq6_0,hczq6_1,hczq6_2,hfzq6_0,hfzq6_1,hfzq6_2⟩ := cells3 BK587.out) | ((with_reducible refine gate_callee (f := 65) rfl ?_);refine goesL_ (some 23) rfl rfl Try.func65 Z310 rfl #[.int .u64 a0_1,.int .u64 t590] rfl Z249 ?_;(with_reducible refine (spec_l3Product.calls a0_1 t590 t591 t592 _ A6.out).mono ?_);rintro e w' ⟨rfl,⟨nd,rfl⟩⟩;refine ⟨_,rfl,?_⟩;(iterate 4 (try (rw [drewN_self wq5];generalize hq_ : World.drewN wq5 _ = wq5;have n0_ : Aside0 (wq5.heap[gb587]? = some (.cells #[.bool a0_0,.int .u64 a0_1,.int .u64 a0_2] 39 (0,0))) := ⟨Z275⟩;have n1_ : Aside0 (wq5.heap[gb588]? = some (.cells #[.bool false,.int .u64 0,.int .u64 0] 39 (0,0))) := ⟨Z274⟩;have n2_ : Aside0 (Below w.heap.size w wq5) := ⟨Z185⟩;clear BK587 BK588 HB hq_;have BK587 := n0_;have BK588 := n1_;have HB := n2_;clear n0_ n1_ n2_)));(try (obtain ⟨hczq6_0,hczq6_1,hczq6_2,hfzq6_0,hfzq6_1,hfzq6_2⟩ := cells3 BK587.out))) | ((with_reducible refine gate_callee (f := 65) rfl ?_);refine goesL_ (some 30) rfl rfl Try.func65 Z310 rfl #[.int .u64 a0_2,.int .u64 t590] rfl Z249 ?_;(with_reducible refine (spec_l3Product.calls a0_2 t590 t593 t594 _ A7.out).mono ?_);rintro e w' ⟨rfl,⟨nd,rfl⟩⟩;refine ⟨_,rfl,?_⟩;(iterate 4 (try (rw [drewN_self wq5];generalize hq_ : World.drewN wq5 _ = wq5;have n0_ : Aside0 (wq5.heap[gb587]? = some (.cells #[.bool a0_0,.int .u64 a0_1,.int .u64 a0_2] 39 (0,0))) := ⟨Z275⟩;have n1_ : Aside0 (wq5.heap[gb588]? = some (.cells #[.bool false,.int .u64 0,.int .u64 0] 39 (0,0))) := ⟨Z274⟩;have n2_ : Aside0 (Below w.heap.size w wq5) := ⟨Z185⟩;clear BK587 BK588 HB hq_;have BK587 := n0_;have BK588 := n1_;have HB := n2_;clear n0_ n1_ n2_)));(try (obtain ⟨hczq6_0,hczq6_1,hczq6_2,hfzq6_0,hfzq6_1,hfzq6_2⟩ := cells3 BK587.out))) | ((with_reducible refine gate_dst (N := 12) rfl ?_);refine bE 12 #[.bool false,.int .u64 0,.int .u64 0] 39 (h := ?_);intro gb595 hg wq7 hbox hb;have n_ := Z39;clear BK587 BK588 HB;obtain ⟨BK587,BK588,HB,BK595,GW595,GE595,NB587_595,NB595_587,NB588_595,NB595_588⟩ := n_;clear hb hbox hg;have hnbq8 := NB595_587.out;have hncq8 := NB587_595.out;have hnbq9 := NB595_588.out;have hncq9 := NB588_595.out;obtain ⟨hczq10_0,hczq10_1,hczq10_2,hfzq10_0,hfzq10_1,hfzq10_2⟩ := cells3 BK595.out) | ((with_reducible refine gate_callee (f := 51) rfl ?_);refine goesL_ (some 45) rfl rfl Try.func51 Z310 rfl #[.agg #[.bool (a0_0 != (decide (a1 < 0))),.int .u64 (IntKind.u64.wrap (t592 + t593)),.int .u64 t594]] rfl Z249 ?_;(with_reducible refine (spec_l3Zero.calls (a0_0 != (decide (a1 < 0))) (IntKind.u64.wrap (t592 + t593)) t594 true _ A8.out).mono ?_);rintro e wq11 ⟨rfl,hb⟩;refine ⟨_,rfl,?_⟩;have n_ := Z51;clear BK587 BK588 BK595 HB;obtain ⟨BK587,BK588,BK595,HB⟩ := n_;(try clear hb);(try clear hb2);(try clear hk);(try clear hi);obtain ⟨hczq12_0,hczq12_1,hczq12_2,hfzq12_0,hfzq12_1,hfzq12_2⟩ := cells3 BK595.out) | (go_at_call 63;(with_reducible refine (spec_WideOk.calls false (IntKind.u64.wrap (t592 + t593)) t594 false _ A38.out).mono ?_);rintro e wq13 ⟨rfl,hb⟩;have n_ := Z78;clear BK587 BK588 BK595 HB;obtain ⟨BK587,BK588,BK595,HB⟩ := n_;(try clear hb);(try clear hb2);(try clear hk);(try clear hi);obtain ⟨hczq14_0,hczq14_1,hczq14_2,hfzq14_0,hfzq14_1,hfzq14_2⟩ := cells3 BK588.out))
   refine bodyPost_ret (results_ct rfl _ _ gb588 39 #[.bool false,.int .u64 0,.int .u64 0] (0,0) _ rfl Z162 Try.underlying39 rfl Z310) rfl ?_
   exact ⟨Z265,Z340⟩
  subst c39
  rw [if_pos rfl] at H
  simp only [Option.some.injEq,Prod.mk.injEq] at H
  obtain ⟨rfl,rfl,rfl,rfl⟩ := H
  go_enter Try.func50,Try.ntmps50
  go_wp2_with (first | ((with_reducible refine gate_dst (N := 2) rfl ?_);refine bE 2 #[.bool a0_0,.int .u64 a0_1,.int .u64 a0_2] 39 (h := ?_);intro gb587 hg wq1 hbox hb;have n_ := Z97;clear HB;obtain ⟨HB,BK587,GW587,GE587⟩ := n_;clear hb hbox hg) | ((with_reducible refine gate_dst (N := 4) rfl ?_);refine bE 4 #[.bool false,.int .u64 0,.int .u64 0] 39 (h := ?_);intro gb588 hg wq2 hbox hb;have n_ := Z64;clear BK587 HB;obtain ⟨BK587,HB,BK588,GW588,GE588,NB587_588,NB588_587⟩ := n_;clear hb hbox hg;have hnbq3 := NB587_588.out;have hncq3 := NB588_587.out;obtain ⟨hczq4_0,hczq4_1,hczq4_2,hfzq4_0,hfzq4_1,hfzq4_2⟩ := cells3 BK587.out) | ((with_reducible refine gate_callee (f := 63) rfl ?_);refine goesL_ (some 14) rfl rfl Try.func63 Z310 rfl #[.agg #[.bool a0_0,.int .u64 a0_1,.int .u64 a0_2]] rfl Z249 ?_;(with_reducible refine (spec_WideOk.calls a0_0 a0_1 a0_2 true _ A3.out).mono ?_);rintro e wq5 ⟨rfl,hb⟩;refine ⟨_,rfl,?_⟩;have n_ := Z127;clear BK587 BK588 HB;obtain ⟨BK587,BK588,HB⟩ := n_;(try clear hb);(try clear hb2);(try clear hk);(try clear hi)) | ((with_reducible refine gate_callee (f := 64) rfl ?_);refine goesL_ (some 18) rfl rfl Try.func64 Z310 rfl #[.int .i64 a1] rfl Z249 ?_;(with_reducible refine (spec_l3Abs.calls a1 t590 _ A5.out).mono ?_);rintro e w' ⟨rfl,⟨nd,rfl⟩⟩;refine ⟨_,rfl,?_⟩;(iterate 4 (try (rw [drewN_self wq5];generalize hq_ : World.drewN wq5 _ = wq5;have n0_ : Aside0 (wq5.heap[gb587]? = some (.cells #[.bool a0_0,.int .u64 a0_1,.int .u64 a0_2] 39 (0,0))) := ⟨Z275⟩;have n1_ : Aside0 (wq5.heap[gb588]? = some (.cells #[.bool false,.int .u64 0,.int .u64 0] 39 (0,0))) := ⟨Z274⟩;have n2_ : Aside0 (Below w.heap.size w wq5) := ⟨Z185⟩;clear BK587 BK588 HB hq_;have BK587 := n0_;have BK588 := n1_;have HB := n2_;clear n0_ n1_ n2_)));obtain ⟨hczq6_0,hczq6_1,hczq6_2,hfzq6_0,hfzq6_1,hfzq6_2⟩ := cells3 BK587.out) | ((with_reducible refine gate_callee (f := 65) rfl ?_);refine goesL_ (some 23) rfl rfl Try.func65 Z310 rfl #[.int .u64 a0_1,.int .u64 t590] rfl Z249 ?_;(with_reducible refine (spec_l3Product.calls a0_1 t590 t591 t592 _ A6.out).mono ?_);rintro e w' ⟨rfl,⟨nd,rfl⟩⟩;refine ⟨_,rfl,?_⟩;(iterate 4 (try (rw [drewN_self wq5];generalize hq_ : World.drewN wq5 _ = wq5;have n0_ : Aside0 (wq5.heap[gb587]? = some (.cells #[.bool a0_0,.int .u64 a0_1,.int .u64 a0_2] 39 (0,0))) := ⟨Z275⟩;have n1_ : Aside0 (wq5.heap[gb588]? = some (.cells #[.bool false,.int .u64 0,.int .u64 0] 39 (0,0))) := ⟨Z274⟩;have n2_ : Aside0 (Below w.heap.size w wq5) := ⟨Z185⟩;clear BK587 BK588 HB hq_;have BK587 := n0_;have BK588 := n1_;have HB := n2_;clear n0_ n1_ n2_)));(try (obtain ⟨hczq6_0,hczq6_1,hczq6_2,hfzq6_0,hfzq6_1,hfzq6_2⟩ := cells3 BK587.out))) | ((with_reducible refine gate_callee (f := 65) rfl ?_);refine goesL_ (some 30) rfl rfl Try.func65 Z310 rfl #[.int .u64 a0_2,.int .u64 t590] rfl Z249 ?_;(with_reducible refine (spec_l3Product.calls a0_2 t590 t593 t594 _ A7.out).mono ?_);rintro e w' ⟨rfl,⟨nd,rfl⟩⟩;refine ⟨_,rfl,?_⟩;(iterate 4 (try (rw [drewN_self wq5];generalize hq_ : World.drewN wq5 _ = wq5;have n0_ : Aside0 (wq5.heap[gb587]? = some (.cells #[.bool a0_0,.int .u64 a0_1,.int .u64 a0_2] 39 (0,0))) := ⟨Z275⟩;have n1_ : Aside0 (wq5.heap[gb588]? = some (.cells #[.bool false,.int .u64 0,.int .u64 0] 39 (0,0))) := ⟨Z274⟩;have n2_ : Aside0 (Below w.heap.size w wq5) := ⟨Z185⟩;clear BK587 BK588 HB hq_;have BK587 := n0_;have BK588 := n1_;have HB := n2_;clear n0_ n1_ n2_)));(try (obtain ⟨hczq6_0,hczq6_1,hczq6_2,hfzq6_0,hfzq6_1,hfzq6_2⟩ := cells3 BK587.out))) | ((with_reducible refine gate_dst (N := 12) rfl ?_);refine bE 12 #[.bool false,.int .u64 0,.int .u64 0] 39 (h := ?_);intro gb595 hg wq7 hbox hb;have n_ := Z39;clear BK587 BK588 HB;obtain ⟨BK587,BK588,HB,BK595,GW595,GE595,NB587_595,NB595_587,NB588_595,NB595_588⟩ := n_;clear hb hbox hg;have hnbq8 := NB595_587.out;have hncq8 := NB587_595.out;have hnbq9 := NB595_588.out;have hncq9 := NB588_595.out;obtain ⟨hczq10_0,hczq10_1,hczq10_2,hfzq10_0,hfzq10_1,hfzq10_2⟩ := cells3 BK595.out) | ((with_reducible refine gate_callee (f := 51) rfl ?_);refine goesL_ (some 45) rfl rfl Try.func51 Z310 rfl #[.agg #[.bool (a0_0 != (decide (a1 < 0))),.int .u64 (IntKind.u64.wrap (t592 + t593)),.int .u64 t594]] rfl Z249 ?_;(with_reducible refine (spec_l3Zero.calls (a0_0 != (decide (a1 < 0))) (IntKind.u64.wrap (t592 + t593)) t594 true _ A8.out).mono ?_);rintro e wq11 ⟨rfl,hb⟩;refine ⟨_,rfl,?_⟩;have n_ := Z51;clear BK587 BK588 BK595 HB;obtain ⟨BK587,BK588,BK595,HB⟩ := n_;(try clear hb);(try clear hb2);(try clear hk);(try clear hi);obtain ⟨hczq12_0,hczq12_1,hczq12_2,hfzq12_0,hfzq12_1,hfzq12_2⟩ := cells3 BK595.out) | (go_at_call 63;(with_reducible refine (spec_WideOk.calls false (IntKind.u64.wrap (t592 + t593)) t594 true _ A38.out).mono ?_);rintro e wq13 ⟨rfl,hb⟩;have n_ := Z78;clear BK587 BK588 BK595 HB;obtain ⟨BK587,BK588,BK595,HB⟩ := n_;(try clear hb);(try clear hb2);(try clear hk);(try clear hi);obtain ⟨hczq14_0,hczq14_1,hczq14_2,hfzq14_0,hfzq14_1,hfzq14_2⟩ := cells3 BK595.out;obtain ⟨hczq15_0,hczq15_1,hczq15_2,hfzq15_0,hfzq15_1,hfzq15_2⟩ := cells3 BK588.out))
  refine bodyPost_ret (results_ct rfl _ _ gb588 39 #[.bool false,.int .u64 (IntKind.u64.wrap (t592 + t593)),.int .u64 t594] (0,0) _ rfl (by refine bP ?_;refine blk_put (cs := #[.bool false,.int .u64 (IntKind.u64.wrap (t592 + t593)),.int .u64 0]) ?_ 2 _ rfl;refine bP ?_;refine blk_put (cs := #[.bool false,.int .u64 0,.int .u64 0]) ?_ 1 _ rfl;refine bP ?_;refine blk_put (cs := #[.bool false,.int .u64 0,.int .u64 0]) ?_ 0 _ rfl;refine bP ?_;exact BK588.out) Try.underlying39 rfl Z310) rfl ?_
  exact ⟨Z265,Z340⟩
 replace c9 := Bool.eq_false_iff.mpr c9
 subst c9
 rw [if_neg Bool.false_ne_true] at H
 by_cases c69 : t591 > 0
 ·rw [if_pos c69] at H
  have c69b0 : decide (0 < t591) = true := decide_eq_true c69
  clear c69
  simp only [Option.some.injEq,Prod.mk.injEq] at H
  obtain ⟨rfl,rfl,rfl,rfl⟩ := H
  go_enter Try.func50,Try.ntmps50
  go_wp2_with (first | ((with_reducible refine gate_dst (N := 2) rfl ?_);refine bE 2 #[.bool a0_0,.int .u64 a0_1,.int .u64 a0_2] 39 (h := ?_);intro gb587 hg wq1 hbox hb;have n_ := Z97;clear HB;obtain ⟨HB,BK587,GW587,GE587⟩ := n_;clear hb hbox hg) | ((with_reducible refine gate_dst (N := 4) rfl ?_);refine bE 4 #[.bool false,.int .u64 0,.int .u64 0] 39 (h := ?_);intro gb588 hg wq2 hbox hb;have n_ := Z64;clear BK587 HB;obtain ⟨BK587,HB,BK588,GW588,GE588,NB587_588,NB588_587⟩ := n_;clear hb hbox hg;have hnbq3 := NB587_588.out;have hncq3 := NB588_587.out;obtain ⟨hczq4_0,hczq4_1,hczq4_2,hfzq4_0,hfzq4_1,hfzq4_2⟩ := cells3 BK587.out) | ((with_reducible refine gate_callee (f := 63) rfl ?_);refine goesL_ (some 14) rfl rfl Try.func63 Z310 rfl #[.agg #[.bool a0_0,.int .u64 a0_1,.int .u64 a0_2]] rfl Z249 ?_;(with_reducible refine (spec_WideOk.calls a0_0 a0_1 a0_2 true _ A3.out).mono ?_);rintro e wq5 ⟨rfl,hb⟩;refine ⟨_,rfl,?_⟩;have n_ := Z127;clear BK587 BK588 HB;obtain ⟨BK587,BK588,HB⟩ := n_;(try clear hb);(try clear hb2);(try clear hk);(try clear hi)) | ((with_reducible refine gate_callee (f := 64) rfl ?_);refine goesL_ (some 18) rfl rfl Try.func64 Z310 rfl #[.int .i64 a1] rfl Z249 ?_;(with_reducible refine (spec_l3Abs.calls a1 t590 _ A5.out).mono ?_);rintro e w' ⟨rfl,⟨nd,rfl⟩⟩;refine ⟨_,rfl,?_⟩;(iterate 4 (try (rw [drewN_self wq5];generalize hq_ : World.drewN wq5 _ = wq5;have n0_ : Aside0 (wq5.heap[gb587]? = some (.cells #[.bool a0_0,.int .u64 a0_1,.int .u64 a0_2] 39 (0,0))) := ⟨Z275⟩;have n1_ : Aside0 (wq5.heap[gb588]? = some (.cells #[.bool false,.int .u64 0,.int .u64 0] 39 (0,0))) := ⟨Z274⟩;have n2_ : Aside0 (Below w.heap.size w wq5) := ⟨Z185⟩;clear BK587 BK588 HB hq_;have BK587 := n0_;have BK588 := n1_;have HB := n2_;clear n0_ n1_ n2_)));obtain ⟨hczq6_0,hczq6_1,hczq6_2,hfzq6_0,hfzq6_1,hfzq6_2⟩ := cells3 BK587.out) | ((with_reducible refine gate_callee (f := 65) rfl ?_);refine goesL_ (some 23) rfl rfl Try.func65 Z310 rfl #[.int .u64 a0_1,.int .u64 t590] rfl Z249 ?_;(with_reducible refine (spec_l3Product.calls a0_1 t590 t591 t592 _ A6.out).mono ?_);rintro e w' ⟨rfl,⟨nd,rfl⟩⟩;refine ⟨_,rfl,?_⟩;(iterate 4 (try (rw [drewN_self wq5];generalize hq_ : World.drewN wq5 _ = wq5;have n0_ : Aside0 (wq5.heap[gb587]? = some (.cells #[.bool a0_0,.int .u64 a0_1,.int .u64 a0_2] 39 (0,0))) := ⟨Z275⟩;have n1_ : Aside0 (wq5.heap[gb588]? = some (.cells #[.bool false,.int .u64 0,.int .u64 0] 39 (0,0))) := ⟨Z274⟩;have n2_ : Aside0 (Below w.heap.size w wq5) := ⟨Z185⟩;clear BK587 BK588 HB hq_;have BK587 := n0_;have BK588 := n1_;have HB := n2_;clear n0_ n1_ n2_)));(try (obtain ⟨hczq6_0,hczq6_1,hczq6_2,hfzq6_0,hfzq6_1,hfzq6_2⟩ := cells3 BK587.out))) | ((with_reducible refine gate_callee (f := 65) rfl ?_);refine goesL_ (some 30) rfl rfl Try.func65 Z310 rfl #[.int .u64 a0_2,.int .u64 t590] rfl Z249 ?_;(with_reducible refine (spec_l3Product.calls a0_2 t590 t593 t594 _ A7.out).mono ?_);rintro e w' ⟨rfl,⟨nd,rfl⟩⟩;refine ⟨_,rfl,?_⟩;(iterate 4 (try (rw [drewN_self wq5];generalize hq_ : World.drewN wq5 _ = wq5;have n0_ : Aside0 (wq5.heap[gb587]? = some (.cells #[.bool a0_0,.int .u64 a0_1,.int .u64 a0_2] 39 (0,0))) := ⟨Z275⟩;have n1_ : Aside0 (wq5.heap[gb588]? = some (.cells #[.bool false,.int .u64 0,.int .u64 0] 39 (0,0))) := ⟨Z274⟩;have n2_ : Aside0 (Below w.heap.size w wq5) := ⟨Z185⟩;clear BK587 BK588 HB hq_;have BK587 := n0_;have BK588 := n1_;have HB := n2_;clear n0_ n1_ n2_)));(try (obtain ⟨hczq6_0,hczq6_1,hczq6_2,hfzq6_0,hfzq6_1,hfzq6_2⟩ := cells3 BK587.out))) | ((with_reducible refine gate_dst (N := 12) rfl ?_);refine bE 12 #[.bool false,.int .u64 0,.int .u64 0] 39 (h := ?_);intro gb595 hg wq7 hbox hb;have n_ := Z39;clear BK587 BK588 HB;obtain ⟨BK587,BK588,HB,BK595,GW595,GE595,NB587_595,NB595_587,NB588_595,NB595_588⟩ := n_;clear hb hbox hg;have hnbq8 := NB595_587.out;have hncq8 := NB587_595.out;have hnbq9 := NB595_588.out;have hncq9 := NB588_595.out;obtain ⟨hczq10_0,hczq10_1,hczq10_2,hfzq10_0,hfzq10_1,hfzq10_2⟩ := cells3 BK595.out) | ((with_reducible refine gate_callee (f := 51) rfl ?_);refine goesL_ (some 45) rfl rfl Try.func51 Z310 rfl #[.agg #[.bool (a0_0 != (decide (a1 < 0))),.int .u64 (IntKind.u64.wrap (t592 + t593)),.int .u64 t594]] rfl Z249 ?_;(with_reducible refine (spec_l3Zero.calls (a0_0 != (decide (a1 < 0))) (IntKind.u64.wrap (t592 + t593)) t594 false _ A8.out).mono ?_);rintro e wq11 ⟨rfl,hb⟩;refine ⟨_,rfl,?_⟩;have n_ := Z51;clear BK587 BK588 BK595 HB;obtain ⟨BK587,BK588,BK595,HB⟩ := n_;(try clear hb);(try clear hb2);(try clear hk);(try clear hi);obtain ⟨hczq12_0,hczq12_1,hczq12_2,hfzq12_0,hfzq12_1,hfzq12_2⟩ := cells3 BK588.out))
  refine bodyPost_ret (results_ct rfl _ _ gb588 39 #[.bool false,.int .u64 0,.int .u64 0] (0,0) _ rfl Z162 Try.underlying39 rfl Z310) rfl ?_
  exact ⟨Z265,Z340⟩
 rw [if_neg c69] at H
 have c69b0 : decide (0 < t591) = false := decide_eq_false c69
 clear c69
 by_cases c82 : (IntKind.u64.wrap (t592 + t593)) < t592
 ·rw [if_pos c82] at H
  have c82b0 : decide ((IntKind.u64.wrap (t592 + t593)) < t592) = true := decide_eq_true c82
  clear c82
  simp only [Option.some.injEq,Prod.mk.injEq] at H
  obtain ⟨rfl,rfl,rfl,rfl⟩ := H
  go_enter Try.func50,Try.ntmps50
  go_wp2_with (first | ((with_reducible refine gate_dst (N := 2) rfl ?_);refine bE 2 #[.bool a0_0,.int .u64 a0_1,.int .u64 a0_2] 39 (h := ?_);intro gb587 hg wq1 hbox hb;have n_ := Z97;clear HB;obtain ⟨HB,BK587,GW587,GE587⟩ := n_;clear hb hbox hg) | ((with_reducible refine gate_dst (N := 4) rfl ?_);refine bE 4 #[.bool false,.int .u64 0,.int .u64 0] 39 (h := ?_);intro gb588 hg wq2 hbox hb;have n_ := Z64;clear BK587 HB;obtain ⟨BK587,HB,BK588,GW588,GE588,NB587_588,NB588_587⟩ := n_;clear hb hbox hg;have hnbq3 := NB587_588.out;have hncq3 := NB588_587.out;obtain ⟨hczq4_0,hczq4_1,hczq4_2,hfzq4_0,hfzq4_1,hfzq4_2⟩ := cells3 BK587.out) | ((with_reducible refine gate_callee (f := 63) rfl ?_);refine goesL_ (some 14) rfl rfl Try.func63 Z310 rfl #[.agg #[.bool a0_0,.int .u64 a0_1,.int .u64 a0_2]] rfl Z249 ?_;(with_reducible refine (spec_WideOk.calls a0_0 a0_1 a0_2 true _ A3.out).mono ?_);rintro e wq5 ⟨rfl,hb⟩;refine ⟨_,rfl,?_⟩;have n_ := Z127;clear BK587 BK588 HB;obtain ⟨BK587,BK588,HB⟩ := n_;(try clear hb);(try clear hb2);(try clear hk);(try clear hi)) | ((with_reducible refine gate_callee (f := 64) rfl ?_);refine goesL_ (some 18) rfl rfl Try.func64 Z310 rfl #[.int .i64 a1] rfl Z249 ?_;(with_reducible refine (spec_l3Abs.calls a1 t590 _ A5.out).mono ?_);rintro e w' ⟨rfl,⟨nd,rfl⟩⟩;refine ⟨_,rfl,?_⟩;(iterate 4 (try (rw [drewN_self wq5];generalize hq_ : World.drewN wq5 _ = wq5;have n0_ : Aside0 (wq5.heap[gb587]? = some (.cells #[.bool a0_0,.int .u64 a0_1,.int .u64 a0_2] 39 (0,0))) := ⟨Z275⟩;have n1_ : Aside0 (wq5.heap[gb588]? = some (.cells #[.bool false,.int .u64 0,.int .u64 0] 39 (0,0))) := ⟨Z274⟩;have n2_ : Aside0 (Below w.heap.size w wq5) := ⟨Z185⟩;clear BK587 BK588 HB hq_;have BK587 := n0_;have BK588 := n1_;have HB := n2_;clear n0_ n1_ n2_)));obtain ⟨hczq6_0,hczq6_1,hczq6_2,hfzq6_0,hfzq6_1,hfzq6_2⟩ := cells3 BK587.out) | ((with_reducible refine gate_callee (f := 65) rfl ?_);refine goesL_ (some 23) rfl rfl Try.func65 Z310 rfl #[.int .u64 a0_1,.int .u64 t590] rfl Z249 ?_;(with_reducible refine (spec_l3Product.calls a0_1 t590 t591 t592 _ A6.out).mono ?_);rintro e w' ⟨rfl,⟨nd,rfl⟩⟩;refine ⟨_,rfl,?_⟩;(iterate 4 (try (rw [drewN_self wq5];generalize hq_ : World.drewN wq5 _ = wq5;have n0_ : Aside0 (wq5.heap[gb587]? = some (.cells #[.bool a0_0,.int .u64 a0_1,.int .u64 a0_2] 39 (0,0))) := ⟨Z275⟩;have n1_ : Aside0 (wq5.heap[gb588]? = some (.cells #[.bool false,.int .u64 0,.int .u64 0] 39 (0,0))) := ⟨Z274⟩;have n2_ : Aside0 (Below w.heap.size w wq5) := ⟨Z185⟩;clear BK587 BK588 HB hq_;have BK587 := n0_;have BK588 := n1_;have HB := n2_;clear n0_ n1_ n2_)));(try (obtain ⟨hczq6_0,hczq6_1,hczq6_2,hfzq6_0,hfzq6_1,hfzq6_2⟩ := cells3 BK587.out))) | ((with_reducible refine gate_callee (f := 65) rfl ?_);refine goesL_ (some 30) rfl rfl Try.func65 Z310 rfl #[.int .u64 a0_2,.int .u64 t590] rfl Z249 ?_;(with_reducible refine (spec_l3Product.calls a0_2 t590 t593 t594 _ A7.out).mono ?_);rintro e w' ⟨rfl,⟨nd,rfl⟩⟩;refine ⟨_,rfl,?_⟩;(iterate 4 (try (rw [drewN_self wq5];generalize hq_ : World.drewN wq5 _ = wq5;have n0_ : Aside0 (wq5.heap[gb587]? = some (.cells #[.bool a0_0,.int .u64 a0_1,.int .u64 a0_2] 39 (0,0))) := ⟨Z275⟩;have n1_ : Aside0 (wq5.heap[gb588]? = some (.cells #[.bool false,.int .u64 0,.int .u64 0] 39 (0,0))) := ⟨Z274⟩;have n2_ : Aside0 (Below w.heap.size w wq5) := ⟨Z185⟩;clear BK587 BK588 HB hq_;have BK587 := n0_;have BK588 := n1_;have HB := n2_;clear n0_ n1_ n2_)));(try (obtain ⟨hczq6_0,hczq6_1,hczq6_2,hfzq6_0,hfzq6_1,hfzq6_2⟩ := cells3 BK587.out))) | ((with_reducible refine gate_dst (N := 12) rfl ?_);refine bE 12 #[.bool false,.int .u64 0,.int .u64 0] 39 (h := ?_);intro gb595 hg wq7 hbox hb;have n_ := Z39;clear BK587 BK588 HB;obtain ⟨BK587,BK588,HB,BK595,GW595,GE595,NB587_595,NB595_587,NB588_595,NB595_588⟩ := n_;clear hb hbox hg;have hnbq8 := NB595_587.out;have hncq8 := NB587_595.out;have hnbq9 := NB595_588.out;have hncq9 := NB588_595.out;obtain ⟨hczq10_0,hczq10_1,hczq10_2,hfzq10_0,hfzq10_1,hfzq10_2⟩ := cells3 BK595.out) | ((with_reducible refine gate_callee (f := 51) rfl ?_);refine goesL_ (some 45) rfl rfl Try.func51 Z310 rfl #[.agg #[.bool (a0_0 != (decide (a1 < 0))),.int .u64 (IntKind.u64.wrap (t592 + t593)),.int .u64 t594]] rfl Z249 ?_;(with_reducible refine (spec_l3Zero.calls (a0_0 != (decide (a1 < 0))) (IntKind.u64.wrap (t592 + t593)) t594 false _ A8.out).mono ?_);rintro e wq11 ⟨rfl,hb⟩;refine ⟨_,rfl,?_⟩;have n_ := Z51;clear BK587 BK588 BK595 HB;obtain ⟨BK587,BK588,BK595,HB⟩ := n_;(try clear hb);(try clear hb2);(try clear hk);(try clear hi);obtain ⟨hczq12_0,hczq12_1,hczq12_2,hfzq12_0,hfzq12_1,hfzq12_2⟩ := cells3 BK588.out))
  refine bodyPost_ret (results_ct rfl _ _ gb588 39 #[.bool false,.int .u64 0,.int .u64 0] (0,0) _ rfl Z162 Try.underlying39 rfl Z310) rfl ?_
  exact ⟨Z265,Z340⟩
 rw [if_neg c82] at H
 have c82b0 : decide ((IntKind.u64.wrap (t592 + t593)) < t592) = false := decide_eq_false c82
 clear c82
 obtain ⟨t598,A950,H⟩ := Option.bind_eq_some_iff.mp H
 have A95 := Aside0.mk A950
 clear A950
 by_cases c96 : t598 = true
 rotate_left
 ·replace c96 := Bool.eq_false_iff.mpr c96
  subst c96
  rw [if_neg Bool.false_ne_true] at H
  simp only [Option.some.injEq,Prod.mk.injEq] at H
  obtain ⟨rfl,rfl,rfl,rfl⟩ := H
  go_enter Try.func50,Try.ntmps50
  go_wp2_with (first | ((with_reducible refine gate_dst (N := 2) rfl ?_);refine bE 2 #[.bool a0_0,.int .u64 a0_1,.int .u64 a0_2] 39 (h := ?_);intro gb587 hg wq1 hbox hb;have n_ := Z97;clear HB;obtain ⟨HB,BK587,GW587,GE587⟩ := n_;clear hb hbox hg) | ((with_reducible refine gate_dst (N := 4) rfl ?_);refine bE 4 #[.bool false,.int .u64 0,.int .u64 0] 39 (h := ?_);intro gb588 hg wq2 hbox hb;have n_ := Z64;clear BK587 HB;obtain ⟨BK587,HB,BK588,GW588,GE588,NB587_588,NB588_587⟩ := n_;clear hb hbox hg;have hnbq3 := NB587_588.out;have hncq3 := NB588_587.out;obtain ⟨hczq4_0,hczq4_1,hczq4_2,hfzq4_0,hfzq4_1,hfzq4_2⟩ := cells3 BK587.out) | ((with_reducible refine gate_callee (f := 63) rfl ?_);refine goesL_ (some 14) rfl rfl Try.func63 Z310 rfl #[.agg #[.bool a0_0,.int .u64 a0_1,.int .u64 a0_2]] rfl Z249 ?_;(with_reducible refine (spec_WideOk.calls a0_0 a0_1 a0_2 true _ A3.out).mono ?_);rintro e wq5 ⟨rfl,hb⟩;refine ⟨_,rfl,?_⟩;have n_ := Z127;clear BK587 BK588 HB;obtain ⟨BK587,BK588,HB⟩ := n_;(try clear hb);(try clear hb2);(try clear hk);(try clear hi)) | ((with_reducible refine gate_callee (f := 64) rfl ?_);refine goesL_ (some 18) rfl rfl Try.func64 Z310 rfl #[.int .i64 a1] rfl Z249 ?_;(with_reducible refine (spec_l3Abs.calls a1 t590 _ A5.out).mono ?_);rintro e w' ⟨rfl,⟨nd,rfl⟩⟩;refine ⟨_,rfl,?_⟩;(iterate 4 (try (rw [drewN_self wq5];generalize hq_ : World.drewN wq5 _ = wq5;have n0_ : Aside0 (wq5.heap[gb587]? = some (.cells #[.bool a0_0,.int .u64 a0_1,.int .u64 a0_2] 39 (0,0))) := ⟨Z275⟩;have n1_ : Aside0 (wq5.heap[gb588]? = some (.cells #[.bool false,.int .u64 0,.int .u64 0] 39 (0,0))) := ⟨Z274⟩;have n2_ : Aside0 (Below w.heap.size w wq5) := ⟨Z185⟩;clear BK587 BK588 HB hq_;have BK587 := n0_;have BK588 := n1_;have HB := n2_;clear n0_ n1_ n2_)));obtain ⟨hczq6_0,hczq6_1,hczq6_2,hfzq6_0,hfzq6_1,hfzq6_2⟩ := cells3 BK587.out) | ((with_reducible refine gate_callee (f := 65) rfl ?_);refine goesL_ (some 23) rfl rfl Try.func65 Z310 rfl #[.int .u64 a0_1,.int .u64 t590] rfl Z249 ?_;(with_reducible refine (spec_l3Product.calls a0_1 t590 t591 t592 _ A6.out).mono ?_);rintro e w' ⟨rfl,⟨nd,rfl⟩⟩;refine ⟨_,rfl,?_⟩;(iterate 4 (try (rw [drewN_self wq5];generalize hq_ : World.drewN wq5 _ = wq5;have n0_ : Aside0 (wq5.heap[gb587]? = some (.cells #[.bool a0_0,.int .u64 a0_1,.int .u64 a0_2] 39 (0,0))) := ⟨Z275⟩;have n1_ : Aside0 (wq5.heap[gb588]? = some (.cells #[.bool false,.int .u64 0,.int .u64 0] 39 (0,0))) := ⟨Z274⟩;have n2_ : Aside0 (Below w.heap.size w wq5) := ⟨Z185⟩;clear BK587 BK588 HB hq_;have BK587 := n0_;have BK588 := n1_;have HB := n2_;clear n0_ n1_ n2_)));(try (obtain ⟨hczq6_0,hczq6_1,hczq6_2,hfzq6_0,hfzq6_1,hfzq6_2⟩ := cells3 BK587.out))) | ((with_reducible refine gate_callee (f := 65) rfl ?_);refine goesL_ (some 30) rfl rfl Try.func65 Z310 rfl #[.int .u64 a0_2,.int .u64 t590] rfl Z249 ?_;(with_reducible refine (spec_l3Product.calls a0_2 t590 t593 t594 _ A7.out).mono ?_);rintro e w' ⟨rfl,⟨nd,rfl⟩⟩;refine ⟨_,rfl,?_⟩;(iterate 4 (try (rw [drewN_self wq5];generalize hq_ : World.drewN wq5 _ = wq5;have n0_ : Aside0 (wq5.heap[gb587]? = some (.cells #[.bool a0_0,.int .u64 a0_1,.int .u64 a0_2] 39 (0,0))) := ⟨Z275⟩;have n1_ : Aside0 (wq5.heap[gb588]? = some (.cells #[.bool false,.int .u64 0,.int .u64 0] 39 (0,0))) := ⟨Z274⟩;have n2_ : Aside0 (Below w.heap.size w wq5) := ⟨Z185⟩;clear BK587 BK588 HB hq_;have BK587 := n0_;have BK588 := n1_;have HB := n2_;clear n0_ n1_ n2_)));(try (obtain ⟨hczq6_0,hczq6_1,hczq6_2,hfzq6_0,hfzq6_1,hfzq6_2⟩ := cells3 BK587.out))) | ((with_reducible refine gate_dst (N := 12) rfl ?_);refine bE 12 #[.bool false,.int .u64 0,.int .u64 0] 39 (h := ?_);intro gb595 hg wq7 hbox hb;have n_ := Z39;clear BK587 BK588 HB;obtain ⟨BK587,BK588,HB,BK595,GW595,GE595,NB587_595,NB595_587,NB588_595,NB595_588⟩ := n_;clear hb hbox hg;have hnbq8 := NB595_587.out;have hncq8 := NB587_595.out;have hnbq9 := NB595_588.out;have hncq9 := NB588_595.out;obtain ⟨hczq10_0,hczq10_1,hczq10_2,hfzq10_0,hfzq10_1,hfzq10_2⟩ := cells3 BK595.out) | ((with_reducible refine gate_callee (f := 51) rfl ?_);refine goesL_ (some 45) rfl rfl Try.func51 Z310 rfl #[.agg #[.bool (a0_0 != (decide (a1 < 0))),.int .u64 (IntKind.u64.wrap (t592 + t593)),.int .u64 t594]] rfl Z249 ?_;(with_reducible refine (spec_l3Zero.calls (a0_0 != (decide (a1 < 0))) (IntKind.u64.wrap (t592 + t593)) t594 false _ A8.out).mono ?_);rintro e wq11 ⟨rfl,hb⟩;refine ⟨_,rfl,?_⟩;have n_ := Z51;clear BK587 BK588 BK595 HB;obtain ⟨BK587,BK588,BK595,HB⟩ := n_;(try clear hb);(try clear hb2);(try clear hk);(try clear hi);obtain ⟨hczq12_0,hczq12_1,hczq12_2,hfzq12_0,hfzq12_1,hfzq12_2⟩ := cells3 BK595.out) | (go_at_call 63;(with_reducible refine (spec_WideOk.calls (a0_0 != (decide (a1 < 0))) (IntKind.u64.wrap (t592 + t593)) t594 false _ A95.out).mono ?_);rintro e wq13 ⟨rfl,hb⟩;have n_ := Z85;clear BK587 BK588 BK595 HB;obtain ⟨BK587,BK588,BK595,HB⟩ := n_;(try clear hb);(try clear hb2);(try clear hk);(try clear hi);obtain ⟨hczq14_0,hczq14_1,hczq14_2,hfzq14_0,hfzq14_1,hfzq14_2⟩ := cells3 BK588.out))
  refine bodyPost_ret (results_ct rfl _ _ gb588 39 #[.bool false,.int .u64 0,.int .u64 0] (0,0) _ rfl Z162 Try.underlying39 rfl Z310) rfl ?_
  exact ⟨Z265,Z340⟩
 subst c96
 rw [if_pos rfl] at H
 simp only [Option.some.injEq,Prod.mk.injEq] at H
 obtain ⟨rfl,rfl,rfl,rfl⟩ := H
 go_enter Try.func50,Try.ntmps50
 go_wp2_with (first | ((with_reducible refine gate_dst (N := 2) rfl ?_);refine bE 2 #[.bool a0_0,.int .u64 a0_1,.int .u64 a0_2] 39 (h := ?_);intro gb587 hg wq1 hbox hb;have n_ := Z97;clear HB;obtain ⟨HB,BK587,GW587,GE587⟩ := n_;clear hb hbox hg) | ((with_reducible refine gate_dst (N := 4) rfl ?_);refine bE 4 #[.bool false,.int .u64 0,.int .u64 0] 39 (h := ?_);intro gb588 hg wq2 hbox hb;have n_ := Z64;clear BK587 HB;obtain ⟨BK587,HB,BK588,GW588,GE588,NB587_588,NB588_587⟩ := n_;clear hb hbox hg;have hnbq3 := NB587_588.out;have hncq3 := NB588_587.out;obtain ⟨hczq4_0,hczq4_1,hczq4_2,hfzq4_0,hfzq4_1,hfzq4_2⟩ := cells3 BK587.out) | ((with_reducible refine gate_callee (f := 63) rfl ?_);refine goesL_ (some 14) rfl rfl Try.func63 Z310 rfl #[.agg #[.bool a0_0,.int .u64 a0_1,.int .u64 a0_2]] rfl Z249 ?_;(with_reducible refine (spec_WideOk.calls a0_0 a0_1 a0_2 true _ A3.out).mono ?_);rintro e wq5 ⟨rfl,hb⟩;refine ⟨_,rfl,?_⟩;have n_ := Z127;clear BK587 BK588 HB;obtain ⟨BK587,BK588,HB⟩ := n_;(try clear hb);(try clear hb2);(try clear hk);(try clear hi)) | ((with_reducible refine gate_callee (f := 64) rfl ?_);refine goesL_ (some 18) rfl rfl Try.func64 Z310 rfl #[.int .i64 a1] rfl Z249 ?_;(with_reducible refine (spec_l3Abs.calls a1 t590 _ A5.out).mono ?_);rintro e w' ⟨rfl,⟨nd,rfl⟩⟩;refine ⟨_,rfl,?_⟩;(iterate 4 (try (rw [drewN_self wq5];generalize hq_ : World.drewN wq5 _ = wq5;have n0_ : Aside0 (wq5.heap[gb587]? = some (.cells #[.bool a0_0,.int .u64 a0_1,.int .u64 a0_2] 39 (0,0))) := ⟨Z275⟩;have n1_ : Aside0 (wq5.heap[gb588]? = some (.cells #[.bool false,.int .u64 0,.int .u64 0] 39 (0,0))) := ⟨Z274⟩;have n2_ : Aside0 (Below w.heap.size w wq5) := ⟨Z185⟩;clear BK587 BK588 HB hq_;have BK587 := n0_;have BK588 := n1_;have HB := n2_;clear n0_ n1_ n2_)));obtain ⟨hczq6_0,hczq6_1,hczq6_2,hfzq6_0,hfzq6_1,hfzq6_2⟩ := cells3 BK587.out) | ((with_reducible refine gate_callee (f := 65) rfl ?_);refine goesL_ (some 23) rfl rfl Try.func65 Z310 rfl #[.int .u64 a0_1,.int .u64 t590] rfl Z249 ?_;(with_reducible refine (spec_l3Product.calls a0_1 t590 t591 t592 _ A6.out).mono ?_);rintro e w' ⟨rfl,⟨nd,rfl⟩⟩;refine ⟨_,rfl,?_⟩;(iterate 4 (try (rw [drewN_self wq5];generalize hq_ : World.drewN wq5 _ = wq5;have n0_ : Aside0 (wq5.heap[gb587]? = some (.cells #[.bool a0_0,.int .u64 a0_1,.int .u64 a0_2] 39 (0,0))) := ⟨Z275⟩;have n1_ : Aside0 (wq5.heap[gb588]? = some (.cells #[.bool false,.int .u64 0,.int .u64 0] 39 (0,0))) := ⟨Z274⟩;have n2_ : Aside0 (Below w.heap.size w wq5) := ⟨Z185⟩;clear BK587 BK588 HB hq_;have BK587 := n0_;have BK588 := n1_;have HB := n2_;clear n0_ n1_ n2_)));(try (obtain ⟨hczq6_0,hczq6_1,hczq6_2,hfzq6_0,hfzq6_1,hfzq6_2⟩ := cells3 BK587.out))) | ((with_reducible refine gate_callee (f := 65) rfl ?_);refine goesL_ (some 30) rfl rfl Try.func65 Z310 rfl #[.int .u64 a0_2,.int .u64 t590] rfl Z249 ?_;(with_reducible refine (spec_l3Product.calls a0_2 t590 t593 t594 _ A7.out).mono ?_);rintro e w' ⟨rfl,⟨nd,rfl⟩⟩;refine ⟨_,rfl,?_⟩;(iterate 4 (try (rw [drewN_self wq5];generalize hq_ : World.drewN wq5 _ = wq5;have n0_ : Aside0 (wq5.heap[gb587]? = some (.cells #[.bool a0_0,.int .u64 a0_1,.int .u64 a0_2] 39 (0,0))) := ⟨Z275⟩;have n1_ : Aside0 (wq5.heap[gb588]? = some (.cells #[.bool false,.int .u64 0,.int .u64 0] 39 (0,0))) := ⟨Z274⟩;have n2_ : Aside0 (Below w.heap.size w wq5) := ⟨Z185⟩;clear BK587 BK588 HB hq_;have BK587 := n0_;have BK588 := n1_;have HB := n2_;clear n0_ n1_ n2_)));(try (obtain ⟨hczq6_0,hczq6_1,hczq6_2,hfzq6_0,hfzq6_1,hfzq6_2⟩ := cells3 BK587.out))) | ((with_reducible refine gate_dst (N := 12) rfl ?_);refine bE 12 #[.bool false,.int .u64 0,.int .u64 0] 39 (h := ?_);intro gb595 hg wq7 hbox hb;have n_ := Z39;clear BK587 BK588 HB;obtain ⟨BK587,BK588,HB,BK595,GW595,GE595,NB587_595,NB595_587,NB588_595,NB595_588⟩ := n_;clear hb hbox hg;have hnbq8 := NB595_587.out;have hncq8 := NB587_595.out;have hnbq9 := NB595_588.out;have hncq9 := NB588_595.out;obtain ⟨hczq10_0,hczq10_1,hczq10_2,hfzq10_0,hfzq10_1,hfzq10_2⟩ := cells3 BK595.out) | ((with_reducible refine gate_callee (f := 51) rfl ?_);refine goesL_ (some 45) rfl rfl Try.func51 Z310 rfl #[.agg #[.bool (a0_0 != (decide (a1 < 0))),.int .u64 (IntKind.u64.wrap (t592 + t593)),.int .u64 t594]] rfl Z249 ?_;(with_reducible refine (spec_l3Zero.calls (a0_0 != (decide (a1 < 0))) (IntKind.u64.wrap (t592 + t593)) t594 false _ A8.out).mono ?_);rintro e wq11 ⟨rfl,hb⟩;refine ⟨_,rfl,?_⟩;have n_ := Z51;clear BK587 BK588 BK595 HB;obtain ⟨BK587,BK588,BK595,HB⟩ := n_;(try clear hb);(try clear hb2);(try clear hk);(try clear hi);obtain ⟨hczq12_0,hczq12_1,hczq12_2,hfzq12_0,hfzq12_1,hfzq12_2⟩ := cells3 BK595.out) | (go_at_call 63;(with_reducible refine (spec_WideOk.calls (a0_0 != (decide (a1 < 0))) (IntKind.u64.wrap (t592 + t593)) t594 true _ A95.out).mono ?_);rintro e wq13 ⟨rfl,hb⟩;have n_ := Z85;clear BK587 BK588 BK595 HB;obtain ⟨BK587,BK588,BK595,HB⟩ := n_;(try clear hb);(try clear hb2);(try clear hk);(try clear hi);obtain ⟨hczq14_0,hczq14_1,hczq14_2,hfzq14_0,hfzq14_1,hfzq14_2⟩ := cells3 BK595.out;obtain ⟨hczq15_0,hczq15_1,hczq15_2,hfzq15_0,hfzq15_1,hfzq15_2⟩ := cells3 BK588.out))
 refine bodyPost_ret (results_ct rfl _ _ gb588 39 #[.bool (a0_0 != (decide (a1 < 0))),.int .u64 (IntKind.u64.wrap (t592 + t593)),.int .u64 t594] (0,0) _ rfl (by refine bP ?_;refine blk_put (cs := #[.bool (a0_0 != (decide (a1 < 0))),.int .u64 (IntKind.u64.wrap (t592 + t593)),.int .u64 0]) ?_ 2 _ rfl;refine bP ?_;refine blk_put (cs := #[.bool (a0_0 != (decide (a1 < 0))),.int .u64 0,.int .u64 0]) ?_ 1 _ rfl;refine bP ?_;refine blk_put (cs := #[.bool false,.int .u64 0,.int .u64 0]) ?_ 0 _ rfl;refine bP ?_;exact BK588.out) Try.underlying39 rfl Z310) rfl ?_
 exact ⟨Z265,Z340⟩

/-! ### spec_l5Cross: function 31 -/
def spec_l5Cross.j0 : Nat → Bool → Bool → Int → Int → Int → Bool → Int → Int → Int → Option (Bool × Int × Int × Bool × Int × Int × Bool)
 | 0,_,_,_,_,_,_,_,_,_ => none
 | k + 1,x18,x600000,x600001,x600002,x600003,x601000,x601001,x601002,x601003 => if x18 = true then (some (false,0,0,false,0,0,false)) else ((spec_ScaleWide.f x600000 x600001 x600002 x601003).bind fun bt605 => ((spec_ScaleWide.f x601000 x601001 x601002 x600003).bind fun bt610 => (if bt605.2.2.2 = true then (some (bt605.1,bt605.2.1,bt605.2.2.1,bt610.1,bt610.2.1,bt610.2.2.1,bt610.2.2.2)) else (some (bt605.1,bt605.2.1,bt605.2.2.1,bt610.1,bt610.2.1,bt610.2.2.1,false)))))
def spec_l5Cross.f (k : Nat) (a0_0 : Bool) (a0_1 : Int) (a0_2 : Int) (a0_3 : Int) (a1_0 : Bool) (a1_1 : Int) (a1_2 : Int) (a1_3 : Int) : Option (Bool × Int × Int × Bool × Int × Int × Bool) := (spec_FracOk.f a0_0 a0_1 a0_2 a0_3).bind fun t603 => (if t603 = true then ((spec_FracOk.f a1_0 a1_1 a1_2 a1_3).bind fun t604 => (spec_l5Cross.j0 k (!t604) a0_0 a0_1 a0_2 a0_3 a1_0 a1_1 a1_2 a1_3)) else (spec_l5Cross.j0 k true a0_0 a0_1 a0_2 a0_3 a1_0 a1_1 a1_2 a1_3))
theorem spec_l5Cross.mono_l : ∀ k,(∀ y0 y1 y2 y3 y4 y5 y6 y7 y8,LeO (spec_l5Cross.j0 k y0 y1 y2 y3 y4 y5 y6 y7 y8) (spec_l5Cross.j0 (k + 1) y0 y1 y2 y3 y4 y5 y6 y7 y8))
 | 0 => fun _ _ _ _ _ _ _ _ _ r h => by simp [spec_l5Cross.j0] at h
 | k + 1 => by
  have ih0 := spec_l5Cross.mono_l k
  ·intro y0 y1 y2 y3 y4 y5 y6 y7 y8
   unfold spec_l5Cross.j0
   repeat' first
   | (with_reducible exact ih0 _ _ _ _ _ _ _ _ _)
   | (with_reducible exact LeO.refl _)
   | (with_reducible exact LeO.none _)
   | (with_reducible refine LeO.ite ?_ ?_)
   | (with_reducible refine LeO.bind ?_ (fun _ => ?_))
   | exact ih0 _ _ _ _ _ _ _ _ _
   | exact LeO.none _
   | refine LeO.ite ?_ ?_
   | refine LeO.bind ?_ (fun _ => ?_)
theorem spec_l5Cross.mono : ∀ a0 a1 a2 a3 a4 a5 a6 a7 k,LeO (spec_l5Cross.f k a0 a1 a2 a3 a4 a5 a6 a7) (spec_l5Cross.f (k + 1) a0 a1 a2 a3 a4 a5 a6 a7) := by
 intro a0 a1 a2 a3 a4 a5 a6 a7 k
 have ih0 := spec_l5Cross.mono_l k
 unfold spec_l5Cross.f
 repeat' first
   | (with_reducible exact ih0 _ _ _ _ _ _ _ _ _)
   | (with_reducible exact LeO.refl _)
   | (with_reducible exact LeO.none _)
   | (with_reducible refine LeO.ite ?_ ?_)
   | (with_reducible refine LeO.bind ?_ (fun _ => ?_))
   | exact ih0 _ _ _ _ _ _ _ _ _
   | exact LeO.none _
   | refine LeO.ite ?_ ?_
   | refine LeO.bind ?_ (fun _ => ?_)
def spec_l5Cross.T5 : Bool × List (List Nat × List Nat) := (true,[([],[]),([],[]),([],[]),([2],[2]),([3],[3]),([3,4],[3,4]),([0,3,0],[0]),([1,6,0,1,6],[1]),([5,7,0,1,2,3,4,5,6,7],[5])])
def spec_l5Cross.B5 : List Nat := [0,0,0,4,12,28,13,79,255]
theorem spec_l5Cross.tab5 : rtab .any (opsOf Try.f31 5) = spec_l5Cross.T5 := by kernel_rfl
theorem spec_l5Cross.bits5 : waitsOk spec_l5Cross.T5.2 spec_l5Cross.B5 = true := by kernel_rfl
set_option maxHeartbeats 8000000 in
set_option maxRecDepth 100000 in
theorem spec_l5Cross.calls (k : Nat) (a0_0 : Bool) (a0_1 : Int) (a0_2 : Int) (a0_3 : Int) (a1_0 : Bool) (a1_1 : Int) (a1_2 : Int) (a1_3 : Int) (r1 : Bool) (r2 : Int) (r3 : Int) (r4 : Bool) (r5 : Int) (r6 : Int) (r7 : Bool) (w : World) (h : spec_l5Cross.f k a0_0 a0_1 a0_2 a0_3 a1_0 a1_1 a1_2 a1_3 = some (r1,r2,r3,r4,r5,r6,r7)) :
  Calls Try.prog 31 #[.agg #[.bool a0_0,.int .u64 a0_1,.int .u64 a0_2,.int .i64 a0_3],.agg #[.bool a1_0,.int .u64 a1_1,.int .u64 a1_2,.int .i64 a1_3]] w fun e w' => e = .returned (.tuple #[.agg #[.bool r1,.int .u64 r2,.int .u64 r3],.agg #[.bool r4,.int .u64 r5,.int .u64 r6],.bool r7]) ∧ Below w.heap.size w w' := by
 have hu41 := Try.underlying41
 have hu39 := Try.underlying39
 have HB := Aside0.mk (Below.refl w.heap.size w)
 have H := h
 clear h
 unfold spec_l5Cross.f at H
 have HC3 := Aside0.mk H
 clear H
 go_enter Try.func31,Try.ntmps31
 go_upto_region 1 with (first | ((with_reducible refine gate_dst (N := 2) rfl ?_);refine bE 2 #[.bool a0_0,.int .u64 a0_1,.int .u64 a0_2,.int .i64 a0_3] 41 (h := ?_);intro gb599 hg w4 hbox hb;have n_ := jA (below_step Z574 hb) (jA (hbox) (jA ((Z405 : w.heap.size ≤ gb599)) (Aside0.mk ((Z405 : w.heap.size ≤ gb599)))));clear HB;obtain ⟨HB,BK599,GW599,GE599⟩ := n_;clear hb hbox hg) | ((with_reducible refine gate_dst (N := 3) rfl ?_);refine bE 3 #[.bool a1_0,.int .u64 a1_1,.int .u64 a1_2,.int .i64 a1_3] 41 (h := ?_);intro gb600 hg w5 hbox hb;have n_ := jA (blk_below (g := gb599) (o := .cells #[.bool a0_0,.int .u64 a0_1,.int .u64 a0_2,.int .i64 a0_3] 41 (0,0)) Z576 hb) (jA (below_step Z436 hb) (jA (hbox) (jA ((Z213 : w.heap.size ≤ gb600)) (jA ((Z213 : w.heap.size ≤ gb600)) (jA ((Z409 : gb599 ≠ gb600)) (Aside0.mk ((Z413 : gb600 ≠ gb599))))))));clear BK599 HB;obtain ⟨BK599,HB,BK600,GW600,GE600,NB599_600,NB600_599⟩ := n_;clear hb hbox hg) | ((with_reducible refine gate_dst (N := 4) rfl ?_);refine bE 4 #[.bool false,.int .u64 0,.int .u64 0] 39 (h := ?_);intro gb601 hg w6 hbox hb;have n_ := jA (blk_below (g := gb599) (o := .cells #[.bool a0_0,.int .u64 a0_1,.int .u64 a0_2,.int .i64 a0_3] 41 (0,0)) Z576 hb) (jA (blk_below (g := gb600) (o := .cells #[.bool a1_0,.int .u64 a1_1,.int .u64 a1_2,.int .i64 a1_3] 41 (0,0)) Z579 hb) (jA (below_step Z377 hb) (jA (hbox) (jA ((Z182 : w.heap.size ≤ gb601)) (jA ((Z182 : w.heap.size ≤ gb601)) (jA ((Z409 : gb599 ≠ gb601)) (jA ((Z413 : gb601 ≠ gb599)) (jA ((Z418 : gb600 ≠ gb601)) (Aside0.mk ((Z422 : gb601 ≠ gb600)))))))))));clear BK599 BK600 HB;obtain ⟨BK599,BK600,HB,BK601,GW601,GE601,NB599_601,NB601_599,NB600_601,NB601_600⟩ := n_;clear hb hbox hg) | ((with_reducible refine gate_dst (N := 5) rfl ?_);refine bE 5 #[.bool false,.int .u64 0,.int .u64 0] 39 (h := ?_);intro gb602 hg w7 hbox hb;have n_ := jA (blk_below (g := gb599) (o := .cells #[.bool a0_0,.int .u64 a0_1,.int .u64 a0_2,.int .i64 a0_3] 41 (0,0)) Z576 hb) (jA (blk_below (g := gb600) (o := .cells #[.bool a1_0,.int .u64 a1_1,.int .u64 a1_2,.int .i64 a1_3] 41 (0,0)) Z579 hb) (jA (blk_below (g := gb601) (o := .cells #[.bool false,.int .u64 0,.int .u64 0] 39 (0,0)) Z585 hb) (jA (below_step Z345 hb) (jA (hbox) (jA ((Z172 : w.heap.size ≤ gb602)) (jA ((Z172 : w.heap.size ≤ gb602)) (jA ((Z409 : gb599 ≠ gb602)) (jA ((Z413 : gb602 ≠ gb599)) (jA ((Z418 : gb600 ≠ gb602)) (jA ((Z422 : gb602 ≠ gb600)) (jA ((Z470 : gb601 ≠ gb602)) (Aside0.mk ((Z473 : gb602 ≠ gb601))))))))))))));clear BK599 BK600 BK601 HB;obtain ⟨BK599,BK600,BK601,HB,BK602,GW602,GE602,NB599_602,NB602_599,NB600_602,NB602_600,NB601_602,NB602_601⟩ := n_;clear hb hbox hg))
 (try simp only [Act.put,List.setIfInBounds_toArray,List.set_cons_zero,List.set_cons_succ])
 go_cut [18] (fun v18 wc => ∃ (kq : Nat) (x18_2 : Bool),v18 = .bool x18_2 ∧ Aside0 (spec_l5Cross.j0 kq x18_2 a0_0 a0_1 a0_2 a0_3 a1_0 a1_1 a1_2 a1_3 = some (r1,r2,r3,r4,r5,r6,r7)) ∧ Aside0 (kq ≤ k) ∧ Aside0 (wc.heap[gb599]? = some (.cells #[.bool a0_0,.int .u64 a0_1,.int .u64 a0_2,.int .i64 a0_3] 41 (0,0))) ∧ Aside0 (wc.heap[gb600]? = some (.cells #[.bool a1_0,.int .u64 a1_1,.int .u64 a1_2,.int .i64 a1_3] 41 (0,0))) ∧ Aside0 (wc.heap[gb601]? = some (.cells #[.bool false,.int .u64 0,.int .u64 0] 39 (0,0))) ∧ Aside0 (wc.heap[gb602]? = some (.cells #[.bool false,.int .u64 0,.int .u64 0] 39 (0,0))) ∧ Aside0 (Below w.heap.size w wc))
 case first =>
  have H := HC3.out
  clear HC3
  obtain ⟨t603,A80,H⟩ := Option.bind_eq_some_iff.mp H
  have A8 := Aside0.mk A80
  clear A80
  by_cases c9 : t603 = true
  rotate_left
  ·replace c9 := Bool.eq_false_iff.mpr c9
   subst c9
   rw [if_neg Bool.false_ne_true] at H
   have H' := Aside0.mk H
   clear H
   have hnb20 := NB599_600.out
   have hnc20 := NB600_599.out
   have hnb21 := NB599_601.out
   have hnc21 := NB601_599.out
   have hnb22 := NB599_602.out
   have hnc22 := NB602_599.out
   obtain ⟨hcz23_0,hcz23_1,hcz23_2,hcz23_3,hfz23_0,hfz23_1,hfz23_2,hfz23_3⟩ := cells4 BK599.out
   go_wp2_with (first | ((with_reducible refine gate_callee (f := 49) rfl ?_);refine goesL_ (some 12) rfl rfl Try.func49 Z310 rfl #[.agg #[.bool a0_0,.int .u64 a0_1,.int .u64 a0_2,.int .i64 a0_3]] rfl Z249 ?_;(with_reducible refine (spec_FracOk.calls a0_0 a0_1 a0_2 a0_3 false _ A8.out).mono ?_);rintro e w24 ⟨rfl,hb⟩;refine ⟨_,rfl,?_⟩;have n_ := Z81;clear BK599 BK600 BK601 BK602 HB;obtain ⟨BK599,BK600,BK601,BK602,HB⟩ := n_;(try clear hb);(try clear hb2);(try clear hk);(try clear hi)))
   go_meet
   case rel => exact ⟨_,(true),Z294,H',⟨Z296⟩,⟨Z576⟩,⟨Z579⟩,⟨Z585⟩,⟨Z592⟩,⟨Z531⟩⟩
  subst c9
  rw [if_pos rfl] at H
  obtain ⟨t604,A100,H⟩ := Option.bind_eq_some_iff.mp H
  have A10 := Aside0.mk A100
  clear A100
  have H' := Aside0.mk H
  clear H
  have hnb11 := NB599_600.out
  have hnc11 := NB600_599.out
  have hnb12 := NB599_601.out
  have hnc12 := NB601_599.out
  have hnb13 := NB599_602.out
  have hnc13 := NB602_599.out
  obtain ⟨hcz14_0,hcz14_1,hcz14_2,hcz14_3,hfz14_0,hfz14_1,hfz14_2,hfz14_3⟩ := cells4 BK599.out
  go_wp2_with (first | ((with_reducible refine gate_callee (f := 49) rfl ?_);refine goesL_ (some 12) rfl rfl Try.func49 Z310 rfl #[.agg #[.bool a0_0,.int .u64 a0_1,.int .u64 a0_2,.int .i64 a0_3]] rfl Z249 ?_;(with_reducible refine (spec_FracOk.calls a0_0 a0_1 a0_2 a0_3 true _ A8.out).mono ?_);rintro e w15 ⟨rfl,hb⟩;refine ⟨_,rfl,?_⟩;have n_ := Z81;clear BK599 BK600 BK601 BK602 HB;obtain ⟨BK599,BK600,BK601,BK602,HB⟩ := n_;(try clear hb);(try clear hb2);(try clear hk);(try clear hi);have hnb16 := NB600_601.out;have hnc16 := NB601_600.out;have hnb17 := NB600_602.out;have hnc17 := NB602_600.out;obtain ⟨hcz18_0,hcz18_1,hcz18_2,hcz18_3,hfz18_0,hfz18_1,hfz18_2,hfz18_3⟩ := cells4 BK600.out) | (go_at_call 49;(with_reducible refine (spec_FracOk.calls a1_0 a1_1 a1_2 a1_3 t604 _ A10.out).mono ?_);rintro e w19 ⟨rfl,hb⟩;have n_ := Z81;clear BK599 BK600 BK601 BK602 HB;obtain ⟨BK599,BK600,BK601,BK602,HB⟩ := n_;(try clear hb);(try clear hb2);(try clear hk);(try clear hi)))
  go_meet
  case rel => exact ⟨_,(!t604),Z294,H',⟨Z296⟩,⟨Z576⟩,⟨Z579⟩,⟨Z585⟩,⟨Z592⟩,⟨Z531⟩⟩
 case rest =>
  clear HC3
  try clear c1
  try clear c2
  try clear p2
  try clear c3
  try clear c4
  try clear c9
  try clear c11
  try clear c12
  try clear c13
  try clear c16
  try clear c17
  try clear c20
  try clear c21
  try clear c22
  try clear hcz14_0
  try clear hcz14_1
  try clear hcz14_2
  try clear hcz14_3
  try clear hcz18_0
  try clear hcz18_1
  try clear hcz18_2
  try clear hcz18_3
  try clear hcz23_0
  try clear hcz23_1
  try clear hcz23_2
  try clear hcz23_3
  try clear hfz14_0
  try clear hfz14_1
  try clear hfz14_2
  try clear hfz14_3
  try clear hfz18_0
  try clear hfz18_1
  try clear hfz18_2
  try clear hfz18_3
  try clear hfz23_0
  try clear hfz23_1
  try clear hfz23_2
  try clear hfz23_3
  obtain ⟨kq,x18_2,rfl,HA,HJ2,BK599,BK600,BK601,BK602,HB⟩ := hcut
  cases kq with
  | zero => exact absurd HA.out (by simp [spec_l5Cross.j0])
  | succ kj2 =>
   have H := HA.out
   clear HA
   simp only [spec_l5Cross.j0] at H
   by_cases c25 : x18_2 = true
   ·subst c25
    rw [if_pos rfl] at H
    simp only [Option.some.injEq,Prod.mk.injEq] at H
    obtain ⟨rfl,rfl,rfl,rfl,rfl,rfl,rfl⟩ := H
    have hnb26 := NB601_599.out
    have hnc26 := NB599_601.out
    have hnb27 := NB601_600.out
    have hnc27 := NB600_601.out
    have hnb28 := NB601_602.out
    have hnc28 := NB602_601.out
    obtain ⟨hcz29_0,hcz29_1,hcz29_2,hfz29_0,hfz29_1,hfz29_2⟩ := cells3 BK601.out
    have hnb30 := NB602_599.out
    have hnc30 := NB599_602.out
    have hnb31 := NB602_600.out
    have hnc31 := NB600_602.out
    obtain ⟨hcz32_0,hcz32_1,hcz32_2,hfz32_0,hfz32_1,hfz32_2⟩ := cells3 BK602.out
    go_wp2
    refine bodyPost_ret (results_list (rs := [.cell 4 39,.cell 5 39,.tmp 6]) rfl Z524 (.cell gb601 39 #[.bool false,.int .u64 0,.int .u64 0] (0,0) _ rfl (by refine bP ?_;refine blk_far ?_ NB601_602.out _;refine bP ?_;refine blk_far ?_ NB601_602.out _;refine bP ?_;refine blk_far ?_ NB601_602.out _;refine bP ?_;refine blk_put (cs := #[.bool false,.int .u64 0,.int .u64 0]) ?_ 2 _ rfl;refine bP ?_;refine blk_put (cs := #[.bool false,.int .u64 0,.int .u64 0]) ?_ 1 _ rfl;refine bP ?_;refine blk_put (cs := #[.bool false,.int .u64 0,.int .u64 0]) ?_ 0 _ rfl;refine bP ?_;exact BK601.out) Try.underlying39 rfl Z310 (.cell gb602 39 #[.bool false,.int .u64 0,.int .u64 0] (0,0) _ rfl (by refine bP ?_;refine blk_put (cs := #[.bool false,.int .u64 0,.int .u64 0]) ?_ 2 _ rfl;refine bP ?_;refine blk_put (cs := #[.bool false,.int .u64 0,.int .u64 0]) ?_ 1 _ rfl;refine bP ?_;refine blk_put (cs := #[.bool false,.int .u64 0,.int .u64 0]) ?_ 0 _ rfl;refine bP ?_;refine blk_far ?_ NB602_601.out _;refine bP ?_;refine blk_far ?_ NB602_601.out _;refine bP ?_;refine blk_far ?_ NB602_601.out _;refine bP ?_;exact BK602.out) Try.underlying39 rfl Z310 (.tmp .nil)))) rfl ?_
    exact ⟨Z265,Z531⟩
   replace c25 := Bool.eq_false_iff.mpr c25
   subst c25
   rw [if_neg Bool.false_ne_true] at H
   obtain ⟨⟨t605,t606,t607,t608⟩,A330,H⟩ := Option.bind_eq_some_iff.mp H
   try dsimp only at H
   have A33 := Aside0.mk A330
   clear A330
   obtain ⟨⟨t610,t611,t612,t613⟩,A340,H⟩ := Option.bind_eq_some_iff.mp H
   try dsimp only at H
   have A34 := Aside0.mk A340
   clear A340
   by_cases c35 : t608 = true
   ·subst c35
    rw [if_pos rfl] at H
    simp only [Option.some.injEq,Prod.mk.injEq] at H
    obtain ⟨rfl,rfl,rfl,rfl,rfl,rfl,rfl⟩ := H
    have hnb36 := NB599_600.out
    have hnc36 := NB600_599.out
    have hnb37 := NB599_601.out
    have hnc37 := NB601_599.out
    have hnb38 := NB599_602.out
    have hnc38 := NB602_599.out
    obtain ⟨hcz39_0,hcz39_1,hcz39_2,hcz39_3,hfz39_0,hfz39_1,hfz39_2,hfz39_3⟩ := cells4 BK599.out
    have hnb40 := NB600_601.out
    have hnc40 := NB601_600.out
    have hnb41 := NB600_602.out
    have hnc41 := NB602_600.out
    obtain ⟨hcz42_0,hcz42_1,hcz42_2,hcz42_3,hfz42_0,hfz42_1,hfz42_2,hfz42_3⟩ := cells4 BK600.out
    try go_wp2_with (first | ((with_reducible refine gate_callee (f := 50) rfl ?_);refine goesL_ (some 26) rfl rfl Try.func50 Z310 rfl #[.agg #[.bool a0_0,.int .u64 a0_1,.int .u64 a0_2],.int .i64 a1_3] rfl Z249 ?_;(with_reducible refine (spec_ScaleWide.calls a0_0 a0_1 a0_2 a1_3 t605 t606 t607 true _ A33.out).mono ?_);rintro e w43 ⟨rfl,hb⟩;refine ⟨_,rfl,?_⟩;have n_ := Z81;clear BK599 BK600 BK601 BK602 HB;obtain ⟨BK599,BK600,BK601,BK602,HB⟩ := n_;(try clear hb);(try clear hb2);(try clear hk);(try clear hi)) | ((with_reducible refine gate_dst (N := 7) rfl ?_);refine bE 7 #[.bool false,.int .u64 0,.int .u64 0] 39 (h := ?_);intro gb609 hg w44 hbox hb;have n_ := Z9;clear BK599 BK600 BK601 BK602 HB;obtain ⟨BK599,BK600,BK601,BK602,HB,BK609,GW609,GE609,NB599_609,NB609_599,NB600_609,NB609_600,NB601_609,NB609_601,NB602_609,NB609_602⟩ := n_;clear hb hbox hg;have hnb45 := NB609_599.out;have hnc45 := NB599_609.out;have hnb46 := NB609_600.out;have hnc46 := NB600_609.out;have hnb47 := NB609_601.out;have hnc47 := NB601_609.out;have hnb48 := NB609_602.out;have hnc48 := NB602_609.out;obtain ⟨hcz49_0,hcz49_1,hcz49_2,hfz49_0,hfz49_1,hfz49_2⟩ := cells3 BK609.out;obtain ⟨hcz50_0,hcz50_1,hcz50_2,hcz50_3,hfz50_0,hfz50_1,hfz50_2,hfz50_3⟩ := cells4 BK600.out;obtain ⟨hcz51_0,hcz51_1,hcz51_2,hcz51_3,hfz51_0,hfz51_1,hfz51_2,hfz51_3⟩ := cells4 BK599.out) | ((with_reducible refine gate_callee (f := 50) rfl ?_);refine goesL_ (some 34) rfl rfl Try.func50 Z310 rfl #[.agg #[.bool a1_0,.int .u64 a1_1,.int .u64 a1_2],.int .i64 a0_3] rfl Z249 ?_;(with_reducible refine (spec_ScaleWide.calls a1_0 a1_1 a1_2 a0_3 t610 t611 t612 t613 _ A34.out).mono ?_);rintro e w52 ⟨rfl,hb⟩;refine ⟨_,rfl,?_⟩;have n_ := Z36;clear BK599 BK600 BK601 BK602 BK609 HB;obtain ⟨BK599,BK600,BK601,BK602,BK609,HB⟩ := n_;(try clear hb);(try clear hb2);(try clear hk);(try clear hi)) | ((with_reducible refine gate_dst (N := 9) rfl ?_);refine bE 9 #[.bool false,.int .u64 0,.int .u64 0] 39 (h := ?_);intro gb614 hg w53 hbox hb;have n_ := Z5;clear BK599 BK600 BK601 BK602 BK609 HB;obtain ⟨BK599,BK600,BK601,BK602,BK609,HB,BK614,GW614,GE614,NB599_614,NB614_599,NB600_614,NB614_600,NB601_614,NB614_601,NB602_614,NB614_602,NB609_614,NB614_609⟩ := n_;clear hb hbox hg;have hnb54 := NB614_599.out;have hnc54 := NB599_614.out;have hnb55 := NB614_600.out;have hnc55 := NB600_614.out;have hnb56 := NB614_601.out;have hnc56 := NB601_614.out;have hnb57 := NB614_602.out;have hnc57 := NB602_614.out;have hnb58 := NB614_609.out;have hnc58 := NB609_614.out;obtain ⟨hcz59_0,hcz59_1,hcz59_2,hfz59_0,hfz59_1,hfz59_2⟩ := cells3 BK614.out))
    have n0_ : Aside0 ((((w53.setCell ⟨gb614,0,none⟩ (.bool t610)).setCell ⟨gb614,1,none⟩ (.int .u64 t611)).setCell ⟨gb614,2,none⟩ (.int .u64 t612)).heap[gb599]? = some (.cells #[.bool a0_0,.int .u64 a0_1,.int .u64 a0_2,.int .i64 a0_3] 41 (0,0))) := ⟨Z235⟩
    have n1_ : Aside0 ((((w53.setCell ⟨gb614,0,none⟩ (.bool t610)).setCell ⟨gb614,1,none⟩ (.int .u64 t611)).setCell ⟨gb614,2,none⟩ (.int .u64 t612)).heap[gb600]? = some (.cells #[.bool a1_0,.int .u64 a1_1,.int .u64 a1_2,.int .i64 a1_3] 41 (0,0))) := ⟨Z234⟩
    have n2_ : Aside0 ((((w53.setCell ⟨gb614,0,none⟩ (.bool t610)).setCell ⟨gb614,1,none⟩ (.int .u64 t611)).setCell ⟨gb614,2,none⟩ (.int .u64 t612)).heap[gb601]? = some (.cells #[.bool false,.int .u64 0,.int .u64 0] 39 (0,0))) := ⟨Z233⟩
    have n3_ : Aside0 ((((w53.setCell ⟨gb614,0,none⟩ (.bool t610)).setCell ⟨gb614,1,none⟩ (.int .u64 t611)).setCell ⟨gb614,2,none⟩ (.int .u64 t612)).heap[gb602]? = some (.cells #[.bool false,.int .u64 0,.int .u64 0] 39 (0,0))) := ⟨Z232⟩
    have n4_ : Aside0 ((((w53.setCell ⟨gb614,0,none⟩ (.bool t610)).setCell ⟨gb614,1,none⟩ (.int .u64 t611)).setCell ⟨gb614,2,none⟩ (.int .u64 t612)).heap[gb609]? = some (.cells #[.bool t605,.int .u64 t606,.int .u64 t607] 39 (0,0))) := ⟨Z231⟩
    have n5_ : Aside0 ((((w53.setCell ⟨gb614,0,none⟩ (.bool t610)).setCell ⟨gb614,1,none⟩ (.int .u64 t611)).setCell ⟨gb614,2,none⟩ (.int .u64 t612)).heap[gb614]? = some (.cells #[.bool t610,.int .u64 t611,.int .u64 t612] 39 (0,0))) := ⟨Z160⟩
    have n6_ : Aside0 (Below w.heap.size w (((w53.setCell ⟨gb614,0,none⟩ (.bool t610)).setCell ⟨gb614,1,none⟩ (.int .u64 t611)).setCell ⟨gb614,2,none⟩ (.int .u64 t612))) := ⟨Z153⟩
    (try clear BK599)
    (try clear BK600)
    (try clear BK601)
    (try clear BK602)
    (try clear BK609)
    (try clear BK614)
    (try clear HB)
    generalize (((w53.setCell ⟨gb614,0,none⟩ (.bool t610)).setCell ⟨gb614,1,none⟩ (.int .u64 t611)).setCell ⟨gb614,2,none⟩ (.int .u64 t612)) = w60 at n0_ n1_ n2_ n3_ n4_ n5_ n6_ ⊢
    have BK599 := n0_
    have BK600 := n1_
    have BK601 := n2_
    have BK602 := n3_
    have BK609 := n4_
    have BK614 := n5_
    have HB := n6_
    clear n0_ n1_ n2_ n3_ n4_ n5_ n6_
    have n0_ := Aside0.mk (blk_drew BK599.out)
    have n1_ := Aside0.mk (blk_drew BK600.out)
    have n2_ := Aside0.mk (blk_drew BK601.out)
    have n3_ := Aside0.mk (blk_drew BK602.out)
    have n4_ := Aside0.mk (blk_drew BK609.out)
    have n5_ := Aside0.mk (blk_drew BK614.out)
    have n6_ := Aside0.mk (below_drew1 HB.out)
    clear BK599
    clear BK600
    clear BK601
    clear BK602
    clear BK609
    clear BK614
    clear HB
    have BK599 := n0_
    have BK600 := n1_
    have BK601 := n2_
    have BK602 := n3_
    have BK609 := n4_
    have BK614 := n5_
    have HB := n6_
    clear n0_ n1_ n2_ n3_ n4_ n5_ n6_
    refine start_ (n := 9) (S := fun w' => w'.cell? ⟨gb609,0,none⟩ = some (.bool t605) ∧ w'.cell? ⟨gb609,1,none⟩ = some (.int .u64 t606) ∧ w'.cell? ⟨gb609,2,none⟩ = some (.int .u64 t607) ∧ w'.cell? ⟨gb614,0,none⟩ = some (.bool t610) ∧ w'.cell? ⟨gb614,1,none⟩ = some (.int .u64 t611) ∧ w'.cell? ⟨gb614,2,none⟩ = some (.int .u64 t612)) (ds := []) (qM 9 0) Z310 rfl (by kernel_rfl) ⟨bc BK609 0,bc BK609 1,bc BK609 2,bc BK614 0,bc BK614 1,bc BK614 2⟩ (fun hHeld => ?_);refine with_tabW spec_l5Cross.tab5 spec_l5Cross.bits5 (fun HT_ HW_ => ?_)
    generalize w60.drew = w61 at BK599 BK600 BK601 BK602 BK609 BK614 HB hHeld ⊢
    refine rP 2 39 9 4 HT_ (h := ?_)
    refine rP 3 40 9 12 HT_ (h := ?_)
    refine rP 4 41 9 28 HT_ (h := ?_)
    refine rP 5 42 9 60 HT_ (h := ?_)
    refine rT6 0 37 9 61 HT_ HW_ hHeld (h := ?_)
    refine rT6 1 38 9 63 HT_ HW_ hHeld (h := ?_)
    refine one_ (i := 6) (N := none) (qM 9 127) rfl rfl (one_of HT_.out Z310) Z522 (fun K hK => ?_)
    have hs62 : w61.cell? ⟨gb601,0,none⟩ = some (.bool false) := bc BK601 0
    have hfs62 := blk_frozen BK601.out 0
    have hns62_0 := NB599_601.out
    have hns62_1 := NB600_601.out
    have hns62_3 := NB602_601.out
    have hns62_4 := NB609_601.out
    have hns62_5 := NB614_601.out
    have hms62_0 := NB601_599.out
    have hms62_1 := NB601_600.out
    have hms62_3 := NB601_602.out
    have hms62_4 := NB601_609.out
    have hms62_5 := NB601_614.out
    have hs63 : w61.cell? ⟨gb601,1,none⟩ = some (.int .u64 0) := bc BK601 1
    have hfs63 := blk_frozen BK601.out 1
    have hns63_0 := NB599_601.out
    have hns63_1 := NB600_601.out
    have hns63_3 := NB602_601.out
    have hns63_4 := NB609_601.out
    have hns63_5 := NB614_601.out
    have hms63_0 := NB601_599.out
    have hms63_1 := NB601_600.out
    have hms63_3 := NB601_602.out
    have hms63_4 := NB601_609.out
    have hms63_5 := NB601_614.out
    have hs64 : w61.cell? ⟨gb601,2,none⟩ = some (.int .u64 0) := bc BK601 2
    have hfs64 := blk_frozen BK601.out 2
    have hns64_0 := NB599_601.out
    have hns64_1 := NB600_601.out
    have hns64_3 := NB602_601.out
    have hns64_4 := NB609_601.out
    have hns64_5 := NB614_601.out
    have hms64_0 := NB601_599.out
    have hms64_1 := NB601_600.out
    have hms64_3 := NB601_602.out
    have hms64_4 := NB601_609.out
    have hms64_5 := NB601_614.out
    refine skip_ (w1 := ?_) Z311 rfl ?_ ?_
    rotate_left
    ·go_simp
     rfl
    refine hK.out _ _ ⟨((cell_far (p := ⟨gb601,_,none⟩) NB609_601.out _).trans (((cell_far (p := ⟨gb601,_,none⟩) NB609_601.out _).trans (((cell_far (p := ⟨gb601,_,none⟩) NB609_601.out _).trans (hHeld.1)))))),((cell_far (p := ⟨gb601,_,none⟩) NB609_601.out _).trans (((cell_far (p := ⟨gb601,_,none⟩) NB609_601.out _).trans (((cell_far (p := ⟨gb601,_,none⟩) NB609_601.out _).trans (hHeld.2.1)))))),((cell_far (p := ⟨gb601,_,none⟩) NB609_601.out _).trans (((cell_far (p := ⟨gb601,_,none⟩) NB609_601.out _).trans (((cell_far (p := ⟨gb601,_,none⟩) NB609_601.out _).trans (hHeld.2.2.1)))))),((cell_far (p := ⟨gb601,_,none⟩) NB614_601.out _).trans (((cell_far (p := ⟨gb601,_,none⟩) NB614_601.out _).trans (((cell_far (p := ⟨gb601,_,none⟩) NB614_601.out _).trans (hHeld.2.2.2.1)))))),((cell_far (p := ⟨gb601,_,none⟩) NB614_601.out _).trans (((cell_far (p := ⟨gb601,_,none⟩) NB614_601.out _).trans (((cell_far (p := ⟨gb601,_,none⟩) NB614_601.out _).trans (hHeld.2.2.2.2.1)))))),((cell_far (p := ⟨gb601,_,none⟩) NB614_601.out _).trans (((cell_far (p := ⟨gb601,_,none⟩) NB614_601.out _).trans (((cell_far (p := ⟨gb601,_,none⟩) NB614_601.out _).trans (hHeld.2.2.2.2.2))))))⟩ (fun hHeld => ?_)
    clear hK K
    refine one_ (i := 7) (N := none) (qM 9 255) rfl rfl (one_of HT_.out Z310) Z522 (fun K hK => ?_)
    have hs65 : w61.cell? ⟨gb602,0,none⟩ = some (.bool false) := bc BK602 0
    have hfs65 := blk_frozen BK602.out 0
    have hns65_0 := NB599_602.out
    have hns65_1 := NB600_602.out
    have hns65_2 := NB601_602.out
    have hns65_4 := NB609_602.out
    have hns65_5 := NB614_602.out
    have hms65_0 := NB602_599.out
    have hms65_1 := NB602_600.out
    have hms65_2 := NB602_601.out
    have hms65_4 := NB602_609.out
    have hms65_5 := NB602_614.out
    have hs66 : w61.cell? ⟨gb602,1,none⟩ = some (.int .u64 0) := bc BK602 1
    have hfs66 := blk_frozen BK602.out 1
    have hns66_0 := NB599_602.out
    have hns66_1 := NB600_602.out
    have hns66_2 := NB601_602.out
    have hns66_4 := NB609_602.out
    have hns66_5 := NB614_602.out
    have hms66_0 := NB602_599.out
    have hms66_1 := NB602_600.out
    have hms66_2 := NB602_601.out
    have hms66_4 := NB602_609.out
    have hms66_5 := NB602_614.out
    have hs67 : w61.cell? ⟨gb602,2,none⟩ = some (.int .u64 0) := bc BK602 2
    have hfs67 := blk_frozen BK602.out 2
    have hns67_0 := NB599_602.out
    have hns67_1 := NB600_602.out
    have hns67_2 := NB601_602.out
    have hns67_4 := NB609_602.out
    have hns67_5 := NB614_602.out
    have hms67_0 := NB602_599.out
    have hms67_1 := NB602_600.out
    have hms67_2 := NB602_601.out
    have hms67_4 := NB602_609.out
    have hms67_5 := NB602_614.out
    refine skip_ (w1 := ?_) Z311 rfl ?_ ?_
    rotate_left
    ·go_simp
     rfl
    refine hK.out _ _ ⟨((cell_far (p := ⟨gb602,_,none⟩) NB609_602.out _).trans (((cell_far (p := ⟨gb602,_,none⟩) NB609_602.out _).trans (((cell_far (p := ⟨gb602,_,none⟩) NB609_602.out _).trans (hHeld.1)))))),((cell_far (p := ⟨gb602,_,none⟩) NB609_602.out _).trans (((cell_far (p := ⟨gb602,_,none⟩) NB609_602.out _).trans (((cell_far (p := ⟨gb602,_,none⟩) NB609_602.out _).trans (hHeld.2.1)))))),((cell_far (p := ⟨gb602,_,none⟩) NB609_602.out _).trans (((cell_far (p := ⟨gb602,_,none⟩) NB609_602.out _).trans (((cell_far (p := ⟨gb602,_,none⟩) NB609_602.out _).trans (hHeld.2.2.1)))))),((cell_far (p := ⟨gb602,_,none⟩) NB614_602.out _).trans (((cell_far (p := ⟨gb602,_,none⟩) NB614_602.out _).trans (((cell_far (p := ⟨gb602,_,none⟩) NB614_602.out _).trans (hHeld.2.2.2.1)))))),((cell_far (p := ⟨gb602,_,none⟩) NB614_602.out _).trans (((cell_far (p := ⟨gb602,_,none⟩) NB614_602.out _).trans (((cell_far (p := ⟨gb602,_,none⟩) NB614_602.out _).trans (hHeld.2.2.2.2.1)))))),((cell_far (p := ⟨gb602,_,none⟩) NB614_602.out _).trans (((cell_far (p := ⟨gb602,_,none⟩) NB614_602.out _).trans (((cell_far (p := ⟨gb602,_,none⟩) NB614_602.out _).trans (hHeld.2.2.2.2.2))))))⟩ (fun hHeld => ?_)
    clear hK K
    refine rP 8 6 9 511 HT_ (h := ?_)
    refine done_ (done_of HT_.out Z310) ?_
    try go_wp2
    refine bodyPost_ret (results_list (rs := [.cell 4 39,.cell 5 39,.tmp 6]) rfl Z524 (.cell gb601 39 #[.bool t605,.int .u64 t606,.int .u64 t607] (0,0) _ rfl Z135 Try.underlying39 rfl Z310 (.cell gb602 39 #[.bool t610,.int .u64 t611,.int .u64 t612] (0,0) _ rfl Z133 Try.underlying39 rfl Z310 (.tmp .nil)))) rfl ?_
    exact ⟨Z265,Z153⟩
   replace c35 := Bool.eq_false_iff.mpr c35
   subst c35
   rw [if_neg Bool.false_ne_true] at H
   simp only [Option.some.injEq,Prod.mk.injEq] at H
   obtain ⟨rfl,rfl,rfl,rfl,rfl,rfl,rfl⟩ := H
   have hnb68 := NB599_600.out
   have hnc68 := NB600_599.out
   have hnb69 := NB599_601.out
   have hnc69 := NB601_599.out
   have hnb70 := NB599_602.out
   have hnc70 := NB602_599.out
   obtain ⟨hcz71_0,hcz71_1,hcz71_2,hcz71_3,hfz71_0,hfz71_1,hfz71_2,hfz71_3⟩ := cells4 BK599.out
   have hnb72 := NB600_601.out
   have hnc72 := NB601_600.out
   have hnb73 := NB600_602.out
   have hnc73 := NB602_600.out
   obtain ⟨hcz74_0,hcz74_1,hcz74_2,hcz74_3,hfz74_0,hfz74_1,hfz74_2,hfz74_3⟩ := cells4 BK600.out
   try go_wp2_with (first | ((with_reducible refine gate_callee (f := 50) rfl ?_);refine goesL_ (some 26) rfl rfl Try.func50 Z310 rfl #[.agg #[.bool a0_0,.int .u64 a0_1,.int .u64 a0_2],.int .i64 a1_3] rfl Z249 ?_;(with_reducible refine (spec_ScaleWide.calls a0_0 a0_1 a0_2 a1_3 t605 t606 t607 false _ A33.out).mono ?_);rintro e w75 ⟨rfl,hb⟩;refine ⟨_,rfl,?_⟩;have n_ := Z81;clear BK599 BK600 BK601 BK602 HB;obtain ⟨BK599,BK600,BK601,BK602,HB⟩ := n_;(try clear hb);(try clear hb2);(try clear hk);(try clear hi)) | ((with_reducible refine gate_dst (N := 7) rfl ?_);refine bE 7 #[.bool false,.int .u64 0,.int .u64 0] 39 (h := ?_);intro gb609 hg w76 hbox hb;have n_ := Z9;clear BK599 BK600 BK601 BK602 HB;obtain ⟨BK599,BK600,BK601,BK602,HB,BK609,GW609,GE609,NB599_609,NB609_599,NB600_609,NB609_600,NB601_609,NB609_601,NB602_609,NB609_602⟩ := n_;clear hb hbox hg;have hnb77 := NB609_599.out;have hnc77 := NB599_609.out;have hnb78 := NB609_600.out;have hnc78 := NB600_609.out;have hnb79 := NB609_601.out;have hnc79 := NB601_609.out;have hnb80 := NB609_602.out;have hnc80 := NB602_609.out;obtain ⟨hcz81_0,hcz81_1,hcz81_2,hfz81_0,hfz81_1,hfz81_2⟩ := cells3 BK609.out;obtain ⟨hcz82_0,hcz82_1,hcz82_2,hcz82_3,hfz82_0,hfz82_1,hfz82_2,hfz82_3⟩ := cells4 BK600.out;obtain ⟨hcz83_0,hcz83_1,hcz83_2,hcz83_3,hfz83_0,hfz83_1,hfz83_2,hfz83_3⟩ := cells4 BK599.out) | ((with_reducible refine gate_callee (f := 50) rfl ?_);refine goesL_ (some 34) rfl rfl Try.func50 Z310 rfl #[.agg #[.bool a1_0,.int .u64 a1_1,.int .u64 a1_2],.int .i64 a0_3] rfl Z249 ?_;(with_reducible refine (spec_ScaleWide.calls a1_0 a1_1 a1_2 a0_3 t610 t611 t612 t613 _ A34.out).mono ?_);rintro e w84 ⟨rfl,hb⟩;refine ⟨_,rfl,?_⟩;have n_ := Z36;clear BK599 BK600 BK601 BK602 BK609 HB;obtain ⟨BK599,BK600,BK601,BK602,BK609,HB⟩ := n_;(try clear hb);(try clear hb2);(try clear hk);(try clear hi)) | ((with_reducible refine gate_dst (N := 9) rfl ?_);refine bE 9 #[.bool false,.int .u64 0,.int .u64 0] 39 (h := ?_);intro gb614 hg w85 hbox hb;have n_ := Z5;clear BK599 BK600 BK601 BK602 BK609 HB;obtain ⟨BK599,BK600,BK601,BK602,BK609,HB,BK614,GW614,GE614,NB599_614,NB614_599,NB600_614,NB614_600,NB601_614,NB614_601,NB602_614,NB614_602,NB609_614,NB614_609⟩ := n_;clear hb hbox hg;have hnb86 := NB614_599.out;have hnc86 := NB599_614.out;have hnb87 := NB614_600.out;have hnc87 := NB600_614.out;have hnb88 := NB614_601.out;have hnc88 := NB601_614.out;have hnb89 := NB614_602.out;have hnc89 := NB602_614.out;have hnb90 := NB614_609.out;have hnc90 := NB609_614.out;obtain ⟨hcz91_0,hcz91_1,hcz91_2,hfz91_0,hfz91_1,hfz91_2⟩ := cells3 BK614.out))
   have n0_ : Aside0 ((((w85.setCell ⟨gb614,0,none⟩ (.bool t610)).setCell ⟨gb614,1,none⟩ (.int .u64 t611)).setCell ⟨gb614,2,none⟩ (.int .u64 t612)).heap[gb599]? = some (.cells #[.bool a0_0,.int .u64 a0_1,.int .u64 a0_2,.int .i64 a0_3] 41 (0,0))) := ⟨Z235⟩
   have n1_ : Aside0 ((((w85.setCell ⟨gb614,0,none⟩ (.bool t610)).setCell ⟨gb614,1,none⟩ (.int .u64 t611)).setCell ⟨gb614,2,none⟩ (.int .u64 t612)).heap[gb600]? = some (.cells #[.bool a1_0,.int .u64 a1_1,.int .u64 a1_2,.int .i64 a1_3] 41 (0,0))) := ⟨Z234⟩
   have n2_ : Aside0 ((((w85.setCell ⟨gb614,0,none⟩ (.bool t610)).setCell ⟨gb614,1,none⟩ (.int .u64 t611)).setCell ⟨gb614,2,none⟩ (.int .u64 t612)).heap[gb601]? = some (.cells #[.bool false,.int .u64 0,.int .u64 0] 39 (0,0))) := ⟨Z233⟩
   have n3_ : Aside0 ((((w85.setCell ⟨gb614,0,none⟩ (.bool t610)).setCell ⟨gb614,1,none⟩ (.int .u64 t611)).setCell ⟨gb614,2,none⟩ (.int .u64 t612)).heap[gb602]? = some (.cells #[.bool false,.int .u64 0,.int .u64 0] 39 (0,0))) := ⟨Z232⟩
   have n4_ : Aside0 ((((w85.setCell ⟨gb614,0,none⟩ (.bool t610)).setCell ⟨gb614,1,none⟩ (.int .u64 t611)).setCell ⟨gb614,2,none⟩ (.int .u64 t612)).heap[gb609]? = some (.cells #[.bool t605,.int .u64 t606,.int .u64 t607] 39 (0,0))) := ⟨Z231⟩
   have n5_ : Aside0 ((((w85.setCell ⟨gb614,0,none⟩ (.bool t610)).setCell ⟨gb614,1,none⟩ (.int .u64 t611)).setCell ⟨gb614,2,none⟩ (.int .u64 t612)).heap[gb614]? = some (.cells #[.bool t610,.int .u64 t611,.int .u64 t612] 39 (0,0))) := ⟨Z160⟩
   have n6_ : Aside0 (Below w.heap.size w (((w85.setCell ⟨gb614,0,none⟩ (.bool t610)).setCell ⟨gb614,1,none⟩ (.int .u64 t611)).setCell ⟨gb614,2,none⟩ (.int .u64 t612))) := ⟨Z153⟩
   (try clear BK599)
   (try clear BK600)
   (try clear BK601)
   (try clear BK602)
   (try clear BK609)
   (try clear BK614)
   (try clear HB)
   generalize (((w85.setCell ⟨gb614,0,none⟩ (.bool t610)).setCell ⟨gb614,1,none⟩ (.int .u64 t611)).setCell ⟨gb614,2,none⟩ (.int .u64 t612)) = w92 at n0_ n1_ n2_ n3_ n4_ n5_ n6_ ⊢
   have BK599 := n0_
   have BK600 := n1_
   have BK601 := n2_
   have BK602 := n3_
   have BK609 := n4_
   have BK614 := n5_
   have HB := n6_
   clear n0_ n1_ n2_ n3_ n4_ n5_ n6_
   have n0_ := Aside0.mk (blk_drew BK599.out)
   have n1_ := Aside0.mk (blk_drew BK600.out)
   have n2_ := Aside0.mk (blk_drew BK601.out)
   have n3_ := Aside0.mk (blk_drew BK602.out)
   have n4_ := Aside0.mk (blk_drew BK609.out)
   have n5_ := Aside0.mk (blk_drew BK614.out)
   have n6_ := Aside0.mk (below_drew1 HB.out)
   clear BK599
   clear BK600
   clear BK601
   clear BK602
   clear BK609
   clear BK614
   clear HB
   have BK599 := n0_
   have BK600 := n1_
   have BK601 := n2_
   have BK602 := n3_
   have BK609 := n4_
   have BK614 := n5_
   have HB := n6_
   clear n0_ n1_ n2_ n3_ n4_ n5_ n6_
   refine start_ (n := 9) (S := fun w' => w'.cell? ⟨gb609,0,none⟩ = some (.bool t605) ∧ w'.cell? ⟨gb609,1,none⟩ = some (.int .u64 t606) ∧ w'.cell? ⟨gb609,2,none⟩ = some (.int .u64 t607) ∧ w'.cell? ⟨gb614,0,none⟩ = some (.bool t610) ∧ w'.cell? ⟨gb614,1,none⟩ = some (.int .u64 t611) ∧ w'.cell? ⟨gb614,2,none⟩ = some (.int .u64 t612)) (ds := []) (qM 9 0) Z310 rfl (by kernel_rfl) ⟨bc BK609 0,bc BK609 1,bc BK609 2,bc BK614 0,bc BK614 1,bc BK614 2⟩ (fun hHeld => ?_);refine with_tabW spec_l5Cross.tab5 spec_l5Cross.bits5 (fun HT_ HW_ => ?_)
   generalize w92.drew = w93 at BK599 BK600 BK601 BK602 BK609 BK614 HB hHeld ⊢
   refine rP 2 39 9 4 HT_ (h := ?_)
   refine rP 3 40 9 12 HT_ (h := ?_)
   refine rU 4 41 9 28 HT_ (h := ?_)
   refine rP 5 42 9 60 HT_ (h := ?_)
   refine rT6 0 37 9 61 HT_ HW_ hHeld (h := ?_)
   refine rT6 1 38 9 63 HT_ HW_ hHeld (h := ?_)
   refine one_ (i := 6) (N := none) (qM 9 127) rfl rfl (one_of HT_.out Z310) Z522 (fun K hK => ?_)
   have hs94 : w93.cell? ⟨gb601,0,none⟩ = some (.bool false) := bc BK601 0
   have hfs94 := blk_frozen BK601.out 0
   have hns94_0 := NB599_601.out
   have hns94_1 := NB600_601.out
   have hns94_3 := NB602_601.out
   have hns94_4 := NB609_601.out
   have hns94_5 := NB614_601.out
   have hms94_0 := NB601_599.out
   have hms94_1 := NB601_600.out
   have hms94_3 := NB601_602.out
   have hms94_4 := NB601_609.out
   have hms94_5 := NB601_614.out
   have hs95 : w93.cell? ⟨gb601,1,none⟩ = some (.int .u64 0) := bc BK601 1
   have hfs95 := blk_frozen BK601.out 1
   have hns95_0 := NB599_601.out
   have hns95_1 := NB600_601.out
   have hns95_3 := NB602_601.out
   have hns95_4 := NB609_601.out
   have hns95_5 := NB614_601.out
   have hms95_0 := NB601_599.out
   have hms95_1 := NB601_600.out
   have hms95_3 := NB601_602.out
   have hms95_4 := NB601_609.out
   have hms95_5 := NB601_614.out
   have hs96 : w93.cell? ⟨gb601,2,none⟩ = some (.int .u64 0) := bc BK601 2
   have hfs96 := blk_frozen BK601.out 2
   have hns96_0 := NB599_601.out
   have hns96_1 := NB600_601.out
   have hns96_3 := NB602_601.out
   have hns96_4 := NB609_601.out
   have hns96_5 := NB614_601.out
   have hms96_0 := NB601_599.out
   have hms96_1 := NB601_600.out
   have hms96_3 := NB601_602.out
   have hms96_4 := NB601_609.out
   have hms96_5 := NB601_614.out
   refine skip_ (w1 := ?_) Z311 rfl ?_ ?_
   rotate_left
   ·go_simp
    rfl
   refine hK.out _ _ ⟨((cell_far (p := ⟨gb601,_,none⟩) NB609_601.out _).trans (((cell_far (p := ⟨gb601,_,none⟩) NB609_601.out _).trans (((cell_far (p := ⟨gb601,_,none⟩) NB609_601.out _).trans (hHeld.1)))))),((cell_far (p := ⟨gb601,_,none⟩) NB609_601.out _).trans (((cell_far (p := ⟨gb601,_,none⟩) NB609_601.out _).trans (((cell_far (p := ⟨gb601,_,none⟩) NB609_601.out _).trans (hHeld.2.1)))))),((cell_far (p := ⟨gb601,_,none⟩) NB609_601.out _).trans (((cell_far (p := ⟨gb601,_,none⟩) NB609_601.out _).trans (((cell_far (p := ⟨gb601,_,none⟩) NB609_601.out _).trans (hHeld.2.2.1)))))),((cell_far (p := ⟨gb601,_,none⟩) NB614_601.out _).trans (((cell_far (p := ⟨gb601,_,none⟩) NB614_601.out _).trans (((cell_far (p := ⟨gb601,_,none⟩) NB614_601.out _).trans (hHeld.2.2.2.1)))))),((cell_far (p := ⟨gb601,_,none⟩) NB614_601.out _).trans (((cell_far (p := ⟨gb601,_,none⟩) NB614_601.out _).trans (((cell_far (p := ⟨gb601,_,none⟩) NB614_601.out _).trans (hHeld.2.2.2.2.1)))))),((cell_far (p := ⟨gb601,_,none⟩) NB614_601.out _).trans (((cell_far (p := ⟨gb601,_,none⟩) NB614_601.out _).trans (((cell_far (p := ⟨gb601,_,none⟩) NB614_601.out _).trans (hHeld.2.2.2.2.2))))))⟩ (fun hHeld => ?_)
   clear hK K
   refine one_ (i := 7) (N := none) (qM 9 255) rfl rfl (one_of HT_.out Z310) Z522 (fun K hK => ?_)
   have hs97 : w93.cell? ⟨gb602,0,none⟩ = some (.bool false) := bc BK602 0
   have hfs97 := blk_frozen BK602.out 0
   have hns97_0 := NB599_602.out
   have hns97_1 := NB600_602.out
   have hns97_2 := NB601_602.out
   have hns97_4 := NB609_602.out
   have hns97_5 := NB614_602.out
   have hms97_0 := NB602_599.out
   have hms97_1 := NB602_600.out
   have hms97_2 := NB602_601.out
   have hms97_4 := NB602_609.out
   have hms97_5 := NB602_614.out
   have hs98 : w93.cell? ⟨gb602,1,none⟩ = some (.int .u64 0) := bc BK602 1
   have hfs98 := blk_frozen BK602.out 1
   have hns98_0 := NB599_602.out
   have hns98_1 := NB600_602.out
   have hns98_2 := NB601_602.out
   have hns98_4 := NB609_602.out
   have hns98_5 := NB614_602.out
   have hms98_0 := NB602_599.out
   have hms98_1 := NB602_600.out
   have hms98_2 := NB602_601.out
   have hms98_4 := NB602_609.out
   have hms98_5 := NB602_614.out
   have hs99 : w93.cell? ⟨gb602,2,none⟩ = some (.int .u64 0) := bc BK602 2
   have hfs99 := blk_frozen BK602.out 2
   have hns99_0 := NB599_602.out
   have hns99_1 := NB600_602.out
   have hns99_2 := NB601_602.out
   have hns99_4 := NB609_602.out
   have hns99_5 := NB614_602.out
   have hms99_0 := NB602_599.out
   have hms99_1 := NB602_600.out
   have hms99_2 := NB602_601.out
   have hms99_4 := NB602_609.out
   have hms99_5 := NB602_614.out
   refine skip_ (w1 := ?_) Z311 rfl ?_ ?_
   rotate_left
   ·go_simp
    rfl
   refine hK.out _ _ ⟨((cell_far (p := ⟨gb602,_,none⟩) NB609_602.out _).trans (((cell_far (p := ⟨gb602,_,none⟩) NB609_602.out _).trans (((cell_far (p := ⟨gb602,_,none⟩) NB609_602.out _).trans (hHeld.1)))))),((cell_far (p := ⟨gb602,_,none⟩) NB609_602.out _).trans (((cell_far (p := ⟨gb602,_,none⟩) NB609_602.out _).trans (((cell_far (p := ⟨gb602,_,none⟩) NB609_602.out _).trans (hHeld.2.1)))))),((cell_far (p := ⟨gb602,_,none⟩) NB609_602.out _).trans (((cell_far (p := ⟨gb602,_,none⟩) NB609_602.out _).trans (((cell_far (p := ⟨gb602,_,none⟩) NB609_602.out _).trans (hHeld.2.2.1)))))),((cell_far (p := ⟨gb602,_,none⟩) NB614_602.out _).trans (((cell_far (p := ⟨gb602,_,none⟩) NB614_602.out _).trans (((cell_far (p := ⟨gb602,_,none⟩) NB614_602.out _).trans (hHeld.2.2.2.1)))))),((cell_far (p := ⟨gb602,_,none⟩) NB614_602.out _).trans (((cell_far (p := ⟨gb602,_,none⟩) NB614_602.out _).trans (((cell_far (p := ⟨gb602,_,none⟩) NB614_602.out _).trans (hHeld.2.2.2.2.1)))))),((cell_far (p := ⟨gb602,_,none⟩) NB614_602.out _).trans (((cell_far (p := ⟨gb602,_,none⟩) NB614_602.out _).trans (((cell_far (p := ⟨gb602,_,none⟩) NB614_602.out _).trans (hHeld.2.2.2.2.2))))))⟩ (fun hHeld => ?_)
   clear hK K
   refine rP 8 6 9 511 HT_ (h := ?_)
   refine done_ (done_of HT_.out Z310) ?_
   try go_wp2
   refine bodyPost_ret (results_list (rs := [.cell 4 39,.cell 5 39,.tmp 6]) rfl Z524 (.cell gb601 39 #[.bool t605,.int .u64 t606,.int .u64 t607] (0,0) _ rfl Z135 Try.underlying39 rfl Z310 (.cell gb602 39 #[.bool t610,.int .u64 t611,.int .u64 t612] (0,0) _ rfl Z133 Try.underlying39 rfl Z310 (.tmp .nil)))) rfl ?_
   exact ⟨Z265,Z153⟩

end Go.Proofs.Ytlflcgdcegohjaa.QFnBetter
