/- The machine side of FnExactMayPart: what each Go function that it reaches comes to. Conditions: none. -/
import Derived.Test.YtaepeajaefpooaaQFnExactMayPartx0
import Derived.Test.YtaepeajaefpooaaQFnExactMayPartx8
import Derived.Test.YtaepeajaefpooaaQFnExactMayPartx9
namespace Go.Proofs.Ytaepeajaefpooaa.QFnExactMayPart
open Go.RowKit Go.Proofs.YtaepeajaefpooaaW.PrintWords Go.Proofs.YtaepeajaefpooaaW.PrintLast Go.Proofs.YtaepeajaefpooaaW.PrintMore
attribute [local go_sem] max2_int min2_int max_two min_two max_three min_three max_four min_four   -- for this text's walks alone
set_option linter.unusedVariables false
set_option linter.unusedSimpArgs false

/-! ### impl_size: function 165 -/
def impl_size.f (a0 : Int) : Option (Int) := if a0 < 0 then (some (IntKind.u64.wrap (-(IntKind.u64.wrap (a0))))) else (some (IntKind.u64.wrap (a0)))
set_option maxHeartbeats 8000000 in
set_option maxRecDepth 100000 in
theorem impl_size.calls (a0 : Int) (r : Int) (w : World) (h : impl_size.f a0 = some r) :
  Calls Try.prog 165 #[.int .i64 a0] w fun e w' => e = .returned (.int .u64 r) ∧ Drawn0 w w' := by
 have H := h
 clear h
 unfold impl_size.f at H
 by_cases c2 : a0 < 0
 ·rw [if_pos c2] at H
  have c2b0 : decide (a0 < 0) = true := decide_eq_true c2
  clear c2
  obtain rfl := Option.some.inj H
  go_enter Try.func165,Try.ntmps165
  go_wp2
  go_ret
  exact ⟨Z289,Z266⟩
 ·rw [if_neg c2] at H
  have c2b0 : decide (a0 < 0) = false := decide_eq_false c2
  clear c2
  obtain rfl := Option.some.inj H
  go_enter Try.func165,Try.ntmps165
  go_wp2
  go_ret
  exact ⟨Z289,Z266⟩

/-! ### impl_MulWide: function 150 -/
def impl_MulWide.f (a0 : Int) (a1 : Int) : Option (Bool × Int × Int) := (impl_size.f a0).bind fun t390 => ((impl_size.f a1).bind fun t391 => ((bits_Mul64.f t390 t391).bind fun bt392 => ((impl_wideOf.f ((decide (a0 < 0)) != (decide (a1 < 0))) bt392.1 bt392.2).bind fun bt394 => (some (bt394.1,bt394.2.1,bt394.2.2)))))
set_option maxHeartbeats 8000000 in
set_option maxRecDepth 100000 in
theorem impl_MulWide.calls (a0 : Int) (a1 : Int) (r1 : Bool) (r2 : Int) (r3 : Int) (w : World) (h : impl_MulWide.f a0 a1 = some (r1,r2,r3)) :
  Calls Try.prog 150 #[.int .i64 a0,.int .i64 a1] w fun e w' => e = .returned (.agg #[.bool r1,.int .u64 r2,.int .u64 r3]) ∧ Below w.heap.size w w' := by
 have hu100 := Try.underlying100
 have HB := Aside0.mk (Below.refl w.heap.size w)
 have H := h
 clear h
 unfold impl_MulWide.f at H
 obtain ⟨t390,A30,H⟩ := Option.bind_eq_some_iff.mp H
 have A3 := Aside0.mk A30
 clear A30
 obtain ⟨t391,A40,H⟩ := Option.bind_eq_some_iff.mp H
 have A4 := Aside0.mk A40
 clear A40
 obtain ⟨⟨t392,t393⟩,A50,H⟩ := Option.bind_eq_some_iff.mp H
 try dsimp only at H
 have A5 := Aside0.mk A50
 clear A50
 obtain ⟨⟨t394,t395,t396⟩,A60,H⟩ := Option.bind_eq_some_iff.mp H
 try dsimp only at H
 have A6 := Aside0.mk A60
 clear A60
 simp only [Option.some.injEq,Prod.mk.injEq] at H
 obtain ⟨rfl,rfl,rfl⟩ := H
 go_enter Try.func150,Try.ntmps150
 go_wp2_with (first | ((with_reducible refine gate_dst (N := 4) rfl ?_);refine bE 4 #[.bool false,.int .u64 0,.int .u64 0] 100 (h := ?_);intro gb389 hg wq1 hbox hb;have n_ := jA (below_step Z614 hb) (jA (hbox) (jA ((Z456 : w.heap.size ≤ gb389)) (Aside0.mk ((Z456 : w.heap.size ≤ gb389)))));clear HB;obtain ⟨HB,BK389,GW389,GE389⟩ := n_;clear hb hbox hg) | ((with_reducible refine gate_callee (f := 165) rfl ?_);refine goesL_ (some 9) rfl rfl Try.func165 Z312 rfl #[.int .i64 a0] rfl Z256 ?_;(with_reducible refine (impl_size.calls a0 t390 _ A3.out).mono ?_);rintro e w' ⟨rfl,⟨nd,rfl⟩⟩;refine ⟨_,rfl,?_⟩;(iterate 4 (try (rw [drewN_self wq1];generalize hq_ : World.drewN wq1 _ = wq1;have n0_ : Aside0 (wq1.heap[gb389]? = some (.cells #[.bool false,.int .u64 0,.int .u64 0] 100 (0,0))) := ⟨Z283⟩;have n1_ : Aside0 (Below w.heap.size w wq1) := ⟨Z221⟩;clear BK389 HB hq_;have BK389 := n0_;have HB := n1_;clear n0_ n1_)))) | ((with_reducible refine gate_callee (f := 165) rfl ?_);refine goesL_ (some 11) rfl rfl Try.func165 Z312 rfl #[.int .i64 a1] rfl Z256 ?_;(with_reducible refine (impl_size.calls a1 t391 _ A4.out).mono ?_);rintro e w' ⟨rfl,⟨nd,rfl⟩⟩;refine ⟨_,rfl,?_⟩;(iterate 4 (try (rw [drewN_self wq1];generalize hq_ : World.drewN wq1 _ = wq1;have n0_ : Aside0 (wq1.heap[gb389]? = some (.cells #[.bool false,.int .u64 0,.int .u64 0] 100 (0,0))) := ⟨Z283⟩;have n1_ : Aside0 (Below w.heap.size w wq1) := ⟨Z221⟩;clear BK389 HB hq_;have BK389 := n0_;have HB := n1_;clear n0_ n1_)))) | ((with_reducible refine gate_callee (f := 164) rfl ?_);refine goesL_ (some 12) rfl rfl Try.func164 Z312 rfl #[.int .u64 t390,.int .u64 t391] rfl Z256 ?_;(with_reducible refine (bits_Mul64.calls t390 t391 t392 t393 _ A5.out).mono ?_);rintro e w' ⟨rfl,⟨nd,rfl⟩⟩;refine ⟨_,rfl,?_⟩;(iterate 4 (try (rw [drewN_self wq1];generalize hq_ : World.drewN wq1 _ = wq1;have n0_ : Aside0 (wq1.heap[gb389]? = some (.cells #[.bool false,.int .u64 0,.int .u64 0] 100 (0,0))) := ⟨Z283⟩;have n1_ : Aside0 (Below w.heap.size w wq1) := ⟨Z221⟩;clear BK389 HB hq_;have BK389 := n0_;have HB := n1_;clear n0_ n1_)))) | ((with_reducible refine gate_callee (f := 153) rfl ?_);refine goesL_ (some 22) rfl rfl Try.func153 Z312 rfl #[.bool ((decide (a0 < 0)) != (decide (a1 < 0))),.int .u64 t392,.int .u64 t393] rfl Z256 ?_;(with_reducible refine (impl_wideOf.calls ((decide (a0 < 0)) != (decide (a1 < 0))) t392 t393 t394 t395 t396 _ A6.out).mono ?_);rintro e wq2 ⟨rfl,hb⟩;refine ⟨_,rfl,?_⟩;have n_ := jA (blk_below (g := gb389) (o := .cells #[.bool false,.int .u64 0,.int .u64 0] 100 (0,0)) (by refine bP ?_;exact BK389.out) hb) (Aside0.mk (below_step Z458 hb));clear BK389 HB;obtain ⟨BK389,HB⟩ := n_;(try clear hb);(try clear hb2);(try clear hk);(try clear hi);obtain ⟨hczq3_0,hczq3_1,hczq3_2,hfzq3_0,hfzq3_1,hfzq3_2⟩ := cells3 BK389.out))
 refine bodyPost_ret (results_cell_row rfl _ _ gb389 100 #[.bool t394,.int .u64 t395,.int .u64 t396] (0,0) _ rfl (by refine bP ?_;refine blk_put (cs := #[.bool t394,.int .u64 t395,.int .u64 0]) ?_ 2 _ rfl;refine bP ?_;refine blk_put (cs := #[.bool t394,.int .u64 0,.int .u64 0]) ?_ 1 _ rfl;refine bP ?_;refine blk_put (cs := #[.bool false,.int .u64 0,.int .u64 0]) ?_ 0 _ rfl;refine bP ?_;exact BK389.out) Try.underlying100 rfl Z312) rfl ?_
 exact ⟨Z263,Z458⟩

/-! ### impl_SquareOver: function 125 -/
def impl_SquareOver.f (a0 : Int) (a1 : Int) : Option (Bool × Int × Int × Int × Bool) := (impl_MulWide.f a0 a0).bind fun bt398 => ((impl_fracOf.f bt398.1 bt398.2.1 bt398.2.2 a1).bind fun bt401 => (some (bt401.1,bt401.2.1,bt401.2.2.1,bt401.2.2.2.1,bt401.2.2.2.2)))
set_option maxHeartbeats 8000000 in
set_option maxRecDepth 100000 in
theorem impl_SquareOver.calls (a0 : Int) (a1 : Int) (r1 : Bool) (r2 : Int) (r3 : Int) (r4 : Int) (r5 : Bool) (w : World) (h : impl_SquareOver.f a0 a1 = some (r1,r2,r3,r4,r5)) :
  Calls Try.prog 125 #[.int .i64 a0,.int .i64 a1] w fun e w' => e = .returned (.tuple #[.agg #[.bool r1,.int .u64 r2,.int .u64 r3,.int .i64 r4],.bool r5]) ∧ Below w.heap.size w w' := by
 have hu102 := Try.underlying102
 have HB := Aside0.mk (Below.refl w.heap.size w)
 have H := h
 clear h
 unfold impl_SquareOver.f at H
 obtain ⟨⟨t398,t399,t400⟩,A30,H⟩ := Option.bind_eq_some_iff.mp H
 try dsimp only at H
 have A3 := Aside0.mk A30
 clear A30
 obtain ⟨⟨t401,t402,t403,t404,t405⟩,A40,H⟩ := Option.bind_eq_some_iff.mp H
 try dsimp only at H
 have A4 := Aside0.mk A40
 clear A40
 simp only [Option.some.injEq,Prod.mk.injEq] at H
 obtain ⟨rfl,rfl,rfl,rfl,rfl⟩ := H
 go_enter Try.func125,Try.ntmps125
 go_wp2_with (first | ((with_reducible refine gate_dst (N := 4) rfl ?_);refine bE 4 #[.bool false,.int .u64 0,.int .u64 0,.int .i64 0] 102 (h := ?_);intro gb397 hg wq1 hbox hb;have n_ := jA (below_step Z614 hb) (jA (hbox) (jA ((Z456 : w.heap.size ≤ gb397)) (Aside0.mk ((Z456 : w.heap.size ≤ gb397)))));clear HB;obtain ⟨HB,BK397,GW397,GE397⟩ := n_;clear hb hbox hg) | ((with_reducible refine gate_callee (f := 150) rfl ?_);refine goesL_ (some 8) rfl rfl Try.func150 Z312 rfl #[.int .i64 a0,.int .i64 a0] rfl Z256 ?_;(with_reducible refine (impl_MulWide.calls a0 a0 t398 t399 t400 _ A3.out).mono ?_);rintro e wq2 ⟨rfl,hb⟩;refine ⟨_,rfl,?_⟩;have n_ := Z151;clear BK397 HB;obtain ⟨BK397,HB⟩ := n_;(try clear hb);(try clear hb2);(try clear hk);(try clear hi)) | ((with_reducible refine gate_callee (f := 148) rfl ?_);refine goesL_ (some 10) rfl rfl Try.func148 Z312 rfl #[.agg #[.bool t398,.int .u64 t399,.int .u64 t400],.int .i64 a1] rfl Z256 ?_;(with_reducible refine (impl_fracOf.calls t398 t399 t400 a1 t401 t402 t403 t404 t405 _ A4.out).mono ?_);rintro e wq3 ⟨rfl,hb⟩;refine ⟨_,rfl,?_⟩;have n_ := Z151;clear BK397 HB;obtain ⟨BK397,HB⟩ := n_;(try clear hb);(try clear hb2);(try clear hk);(try clear hi);obtain ⟨hczq4_0,hczq4_1,hczq4_2,hczq4_3,hfzq4_0,hfzq4_1,hfzq4_2,hfzq4_3⟩ := cells4 BK397.out))
 refine bodyPost_ret (results_ct rfl _ _ gb397 102 #[.bool t401,.int .u64 t402,.int .u64 t403,.int .i64 t404] (0,0) _ rfl (by refine bP ?_;refine blk_put (cs := #[.bool t401,.int .u64 t402,.int .u64 t403,.int .i64 0]) ?_ 3 _ rfl;refine bP ?_;refine blk_put (cs := #[.bool t401,.int .u64 t402,.int .u64 0,.int .i64 0]) ?_ 2 _ rfl;refine bP ?_;refine blk_put (cs := #[.bool t401,.int .u64 0,.int .u64 0,.int .i64 0]) ?_ 1 _ rfl;refine bP ?_;refine blk_put (cs := #[.bool false,.int .u64 0,.int .u64 0,.int .i64 0]) ?_ 0 _ rfl;refine bP ?_;exact BK397.out) Try.underlying102 rfl Z312) rfl ?_
 exact ⟨Z263,Z477⟩

/-! ### impl_PlainGain: function 89 -/
def impl_PlainGain.f (a0_0 : Int) (a0_1 : Int) (a1 : Int) : Option (Bool × Int × Int × Int × Bool) := (impl_isCount.f a0_0 a1).bind fun t408 => (if t408 = true then ((impl_SquareOver.f a0_1 (wrap64 (a0_0 + a1))).bind fun bt409 => (some (bt409.1,bt409.2.1,bt409.2.2.1,bt409.2.2.2.1,bt409.2.2.2.2))) else (some (false,0,0,0,false)))
set_option maxHeartbeats 8000000 in
set_option maxRecDepth 100000 in
theorem impl_PlainGain.calls (a0_0 : Int) (a0_1 : Int) (a1 : Int) (r1 : Bool) (r2 : Int) (r3 : Int) (r4 : Int) (r5 : Bool) (w : World) (h : impl_PlainGain.f a0_0 a0_1 a1 = some (r1,r2,r3,r4,r5)) :
  Calls Try.prog 89 #[.agg #[.int .i64 a0_0,.int .i64 a0_1],.int .i64 a1] w fun e w' => e = .returned (.tuple #[.agg #[.bool r1,.int .u64 r2,.int .u64 r3,.int .i64 r4],.bool r5]) ∧ Below w.heap.size w w' := by
 have hu37 := Try.underlying37
 have hu102 := Try.underlying102
 have HB := Aside0.mk (Below.refl w.heap.size w)
 have H := h
 clear h
 unfold impl_PlainGain.f at H
 obtain ⟨t408,A30,H⟩ := Option.bind_eq_some_iff.mp H
 have A3 := Aside0.mk A30
 clear A30
 by_cases c4 : t408 = true
 ·subst c4
  rw [if_pos rfl] at H
  obtain ⟨⟨t409,t410,t411,t412,t413⟩,A50,H⟩ := Option.bind_eq_some_iff.mp H
  try dsimp only at H
  have A5 := Aside0.mk A50
  clear A50
  simp only [Option.some.injEq,Prod.mk.injEq] at H
  obtain ⟨rfl,rfl,rfl,rfl,rfl⟩ := H
  go_enter Try.func89,Try.ntmps89
  go_wp2_with (first | ((with_reducible refine gate_dst (N := 2) rfl ?_);refine bE 2 #[.int .i64 a0_0,.int .i64 a0_1] 37 (h := ?_);intro gb406 hg wq1 hbox hb;have n_ := Z123;clear HB;obtain ⟨HB,BK406,GW406,GE406⟩ := n_;clear hb hbox hg) | ((with_reducible refine gate_dst (N := 4) rfl ?_);refine bE 4 #[.bool false,.int .u64 0,.int .u64 0,.int .i64 0] 102 (h := ?_);intro gb407 hg wq2 hbox hb;have n_ := Z79;clear BK406 HB;obtain ⟨BK406,HB,BK407,GW407,GE407,NB406_407,NB407_406⟩ := n_;clear hb hbox hg;have hnbq3 := NB406_407.out;have hncq3 := NB407_406.out;obtain ⟨hczq4_0,hczq4_1,hfzq4_0,hfzq4_1⟩ := cells2 BK406.out) | ((with_reducible refine gate_callee (f := 119) rfl ?_);refine goesL_ (some 9) rfl rfl Try.func119 Z312 rfl #[.int .i64 a0_0,.int .i64 a1] rfl Z256 ?_;(with_reducible refine (impl_isCount.calls a0_0 a1 true _ A3.out).mono ?_);rintro e w' ⟨rfl,⟨nd,rfl⟩⟩;refine ⟨_,rfl,?_⟩;(iterate 4 (try (rw [drewN_self wq2];generalize hq_ : World.drewN wq2 _ = wq2;have n0_ : Aside0 (wq2.heap[gb406]? = some (.cells #[.int .i64 a0_0,.int .i64 a0_1] 37 (0,0))) := ⟨Z285⟩;have n1_ : Aside0 (wq2.heap[gb407]? = some (.cells #[.bool false,.int .u64 0,.int .u64 0,.int .i64 0] 102 (0,0))) := ⟨Z284⟩;have n2_ : Aside0 (Below w.heap.size w wq2) := ⟨Z193⟩;clear BK406 BK407 HB hq_;have BK406 := n0_;have BK407 := n1_;have HB := n2_;clear n0_ n1_ n2_)));(try (obtain ⟨hczq4_0,hczq4_1,hfzq4_0,hfzq4_1⟩ := cells2 BK406.out))) | ((with_reducible refine gate_callee (f := 125) rfl ?_);refine goesL_ (some 18) rfl rfl Try.func125 Z312 rfl #[.int .i64 a0_1,.int .i64 (wrap64 (a0_0 + a1))] rfl Z256 ?_;(with_reducible refine (impl_SquareOver.calls a0_1 (wrap64 (a0_0 + a1)) t409 t410 t411 t412 t413 _ A5.out).mono ?_);rintro e wq5 ⟨rfl,hb⟩;refine ⟨_,rfl,?_⟩;have n_ := jA (blk_below (g := gb406) (o := .cells #[.int .i64 a0_0,.int .i64 a0_1] 37 (0,0)) Z526 hb) (jA (blk_below (g := gb407) (o := .cells #[.bool false,.int .u64 0,.int .u64 0,.int .i64 0] 102 (0,0)) (by refine bP ?_;exact BK407.out) hb) (Aside0.mk (below_step Z393 hb)));clear BK406 BK407 HB;obtain ⟨BK406,BK407,HB⟩ := n_;(try clear hb);(try clear hb2);(try clear hk);(try clear hi);obtain ⟨hczq6_0,hczq6_1,hczq6_2,hczq6_3,hfzq6_0,hfzq6_1,hfzq6_2,hfzq6_3⟩ := cells4 BK407.out))
  refine bodyPost_ret (results_ct rfl _ _ gb407 102 #[.bool t409,.int .u64 t410,.int .u64 t411,.int .i64 t412] (0,0) _ rfl (by refine bP ?_;refine blk_put (cs := #[.bool t409,.int .u64 t410,.int .u64 t411,.int .i64 0]) ?_ 3 _ rfl;refine bP ?_;refine blk_put (cs := #[.bool t409,.int .u64 t410,.int .u64 0,.int .i64 0]) ?_ 2 _ rfl;refine bP ?_;refine blk_put (cs := #[.bool t409,.int .u64 0,.int .u64 0,.int .i64 0]) ?_ 1 _ rfl;refine bP ?_;refine blk_put (cs := #[.bool false,.int .u64 0,.int .u64 0,.int .i64 0]) ?_ 0 _ rfl;refine bP ?_;exact BK407.out) Try.underlying102 rfl Z312) rfl ?_
  exact ⟨Z263,Z393⟩
 ·replace c4 := Bool.eq_false_iff.mpr c4
  subst c4
  rw [if_neg Bool.false_ne_true] at H
  simp only [Option.some.injEq,Prod.mk.injEq] at H
  obtain ⟨rfl,rfl,rfl,rfl,rfl⟩ := H
  go_enter Try.func89,Try.ntmps89
  go_wp2_with (first | ((with_reducible refine gate_dst (N := 2) rfl ?_);refine bE 2 #[.int .i64 a0_0,.int .i64 a0_1] 37 (h := ?_);intro gb406 hg wq1 hbox hb;have n_ := Z123;clear HB;obtain ⟨HB,BK406,GW406,GE406⟩ := n_;clear hb hbox hg) | ((with_reducible refine gate_dst (N := 4) rfl ?_);refine bE 4 #[.bool false,.int .u64 0,.int .u64 0,.int .i64 0] 102 (h := ?_);intro gb407 hg wq2 hbox hb;have n_ := Z79;clear BK406 HB;obtain ⟨BK406,HB,BK407,GW407,GE407,NB406_407,NB407_406⟩ := n_;clear hb hbox hg;have hnbq3 := NB406_407.out;have hncq3 := NB407_406.out;obtain ⟨hczq4_0,hczq4_1,hfzq4_0,hfzq4_1⟩ := cells2 BK406.out) | ((with_reducible refine gate_callee (f := 119) rfl ?_);refine goesL_ (some 9) rfl rfl Try.func119 Z312 rfl #[.int .i64 a0_0,.int .i64 a1] rfl Z256 ?_;(with_reducible refine (impl_isCount.calls a0_0 a1 false _ A3.out).mono ?_);rintro e w' ⟨rfl,⟨nd,rfl⟩⟩;refine ⟨_,rfl,?_⟩;(iterate 4 (try (rw [drewN_self wq2];generalize hq_ : World.drewN wq2 _ = wq2;have n0_ : Aside0 (wq2.heap[gb406]? = some (.cells #[.int .i64 a0_0,.int .i64 a0_1] 37 (0,0))) := ⟨Z285⟩;have n1_ : Aside0 (wq2.heap[gb407]? = some (.cells #[.bool false,.int .u64 0,.int .u64 0,.int .i64 0] 102 (0,0))) := ⟨Z284⟩;have n2_ : Aside0 (Below w.heap.size w wq2) := ⟨Z193⟩;clear BK406 BK407 HB hq_;have BK406 := n0_;have BK407 := n1_;have HB := n2_;clear n0_ n1_ n2_)));(try (obtain ⟨hczq4_0,hczq4_1,hfzq4_0,hfzq4_1⟩ := cells2 BK406.out));obtain ⟨hczq5_0,hczq5_1,hczq5_2,hczq5_3,hfzq5_0,hfzq5_1,hfzq5_2,hfzq5_3⟩ := cells4 BK407.out))
  refine bodyPost_ret (results_ct rfl _ _ gb407 102 #[.bool false,.int .u64 0,.int .u64 0,.int .i64 0] (0,0) _ rfl (by refine bP ?_;refine blk_put (cs := #[.bool false,.int .u64 0,.int .u64 0,.int .i64 0]) ?_ 3 _ rfl;refine bP ?_;refine blk_put (cs := #[.bool false,.int .u64 0,.int .u64 0,.int .i64 0]) ?_ 2 _ rfl;refine bP ?_;refine blk_put (cs := #[.bool false,.int .u64 0,.int .u64 0,.int .i64 0]) ?_ 1 _ rfl;refine bP ?_;refine blk_put (cs := #[.bool false,.int .u64 0,.int .u64 0,.int .i64 0]) ?_ 0 _ rfl;refine bP ?_;exact BK407.out) Try.underlying102 rfl Z312) rfl ?_
  exact ⟨Z263,Z393⟩

/-! ### bits_Add64: function 163: the model stands in for it -/
def bits_Add64.f (a0 : Int) (a1 : Int) (a2 : Int) : Option (Int × Int) := if 0 ≤ a0 ∧ 0 ≤ a1 ∧ 0 ≤ a2 ∧ a2 ≤ 1 then some ((a0 + a1 + a2) % 18446744073709551616,(a0 + a1 + a2) / 18446744073709551616) else none
theorem bits_Add64.run (a0 a1 a2 r1 r2 : Int) (h : bits_Add64.f a0 a1 a2 = some (r1,r2)) (w : World) : (callFunc 163 #[.int .u64 a0,.int .u64 a1,.int .u64 a2]).run Try.prog w = .ok (.value (.tuple #[.int .u64 r1,.int .u64 r2])) w := by
 unfold bits_Add64.f at h
 split at h
 ·rename_i g
  simp only [Option.some.injEq,Prod.mk.injEq] at h
  obtain ⟨rfl,rfl⟩ := h
  obtain ⟨g0,g1,g2,g3⟩ := g
  rw [run_callFunc_extern Try.func163 Z312 Z312 Z312 (e := add64Entry) Z312,run_add64 a0 a1 a2 g0 g1 g2 g3]
  rfl
 ·simp at h

/-! ### impl_ScaleWide: function 152 -/
def impl_ScaleWide.f (a0_0 : Bool) (a0_1 : Int) (a0_2 : Int) (a1 : Int) : Option (Bool × Int × Int × Bool) := (impl_WideOk.f a0_0 a0_1 a0_2).bind fun t416 => (if t416 = true then ((impl_size.f a1).bind fun t417 => ((bits_Mul64.f a0_1 t417).bind fun bt418 => ((bits_Mul64.f a0_2 t417).bind fun bt420 => ((bits_Add64.f bt418.2 bt420.1 0).bind fun bt422 => ((impl_wideOf.f (a0_0 != (decide (a1 < 0))) bt422.1 bt420.2).bind fun bt424 => (if bt418.1 > 0 then (some (false,0,0,false)) else (if bt422.2 > 0 then (some (false,0,0,false)) else ((impl_WideOk.f bt424.1 bt424.2.1 bt424.2.2).bind fun t428 => (if t428 = true then (some (bt424.1,bt424.2.1,bt424.2.2,true)) else (some (false,0,0,false))))))))))) else (some (false,0,0,false)))
set_option maxHeartbeats 8000000 in
set_option maxRecDepth 100000 in
theorem impl_ScaleWide.calls (a0_0 : Bool) (a0_1 : Int) (a0_2 : Int) (a1 : Int) (r1 : Bool) (r2 : Int) (r3 : Int) (r4 : Bool) (w : World) (h : impl_ScaleWide.f a0_0 a0_1 a0_2 a1 = some (r1,r2,r3,r4)) :
  Calls Try.prog 152 #[.agg #[.bool a0_0,.int .u64 a0_1,.int .u64 a0_2],.int .i64 a1] w fun e w' => e = .returned (.tuple #[.agg #[.bool r1,.int .u64 r2,.int .u64 r3],.bool r4]) ∧ Below w.heap.size w w' := by
 have hu100 := Try.underlying100
 have HB := Aside0.mk (Below.refl w.heap.size w)
 have H := h
 clear h
 unfold impl_ScaleWide.f at H
 obtain ⟨t416,A30,H⟩ := Option.bind_eq_some_iff.mp H
 have A3 := Aside0.mk A30
 clear A30
 by_cases c4 : t416 = true
 ·subst c4
  rw [if_pos rfl] at H
  obtain ⟨t417,A50,H⟩ := Option.bind_eq_some_iff.mp H
  have A5 := Aside0.mk A50
  clear A50
  obtain ⟨⟨t418,t419⟩,A60,H⟩ := Option.bind_eq_some_iff.mp H
  try dsimp only at H
  have A6 := Aside0.mk A60
  clear A60
  obtain ⟨⟨t420,t421⟩,A70,H⟩ := Option.bind_eq_some_iff.mp H
  try dsimp only at H
  have A7 := Aside0.mk A70
  clear A70
  obtain ⟨⟨t422,t423⟩,A80,H⟩ := Option.bind_eq_some_iff.mp H
  try dsimp only at H
  have A8 := Aside0.mk A80
  clear A80
  obtain ⟨⟨t424,t425,t426⟩,A90,H⟩ := Option.bind_eq_some_iff.mp H
  try dsimp only at H
  have A9 := Aside0.mk A90
  clear A90
  by_cases c10 : t418 > 0
  ·rw [if_pos c10] at H
   have c10b0 : decide (0 < t418) = true := decide_eq_true c10
   clear c10
   simp only [Option.some.injEq,Prod.mk.injEq] at H
   obtain ⟨rfl,rfl,rfl,rfl⟩ := H
   go_enter Try.func152,Try.ntmps152
   go_wp2_with (first | ((with_reducible refine gate_dst (N := 2) rfl ?_);refine bE 2 #[.bool a0_0,.int .u64 a0_1,.int .u64 a0_2] 100 (h := ?_);intro gb414 hg wq1 hbox hb;have n_ := Z104;clear HB;obtain ⟨HB,BK414,GW414,GE414⟩ := n_;clear hb hbox hg) | ((with_reducible refine gate_dst (N := 4) rfl ?_);refine bE 4 #[.bool false,.int .u64 0,.int .u64 0] 100 (h := ?_);intro gb415 hg wq2 hbox hb;have n_ := Z73;clear BK414 HB;obtain ⟨BK414,HB,BK415,GW415,GE415,NB414_415,NB415_414⟩ := n_;clear hb hbox hg;have hnbq3 := NB414_415.out;have hncq3 := NB415_414.out;obtain ⟨hczq4_0,hczq4_1,hczq4_2,hfzq4_0,hfzq4_1,hfzq4_2⟩ := cells3 BK414.out) | ((with_reducible refine gate_callee (f := 161) rfl ?_);refine goesL_ (some 14) rfl rfl Try.func161 Z312 rfl #[.agg #[.bool a0_0,.int .u64 a0_1,.int .u64 a0_2]] rfl Z256 ?_;(with_reducible refine (impl_WideOk.calls a0_0 a0_1 a0_2 true _ A3.out).mono ?_);rintro e wq5 ⟨rfl,hb⟩;refine ⟨_,rfl,?_⟩;have n_ := Z138;clear BK414 BK415 HB;obtain ⟨BK414,BK415,HB⟩ := n_;(try clear hb);(try clear hb2);(try clear hk);(try clear hi)) | ((with_reducible refine gate_callee (f := 165) rfl ?_);refine goesL_ (some 18) rfl rfl Try.func165 Z312 rfl #[.int .i64 a1] rfl Z256 ?_;(with_reducible refine (impl_size.calls a1 t417 _ A5.out).mono ?_);rintro e w' ⟨rfl,⟨nd,rfl⟩⟩;refine ⟨_,rfl,?_⟩;(iterate 4 (try (rw [drewN_self wq5];generalize hq_ : World.drewN wq5 _ = wq5;have n0_ : Aside0 (wq5.heap[gb414]? = some (.cells #[.bool a0_0,.int .u64 a0_1,.int .u64 a0_2] 100 (0,0))) := ⟨Z270⟩;have n1_ : Aside0 (wq5.heap[gb415]? = some (.cells #[.bool false,.int .u64 0,.int .u64 0] 100 (0,0))) := ⟨Z269⟩;have n2_ : Aside0 (Below w.heap.size w wq5) := ⟨Z191⟩;clear BK414 BK415 HB hq_;have BK414 := n0_;have BK415 := n1_;have HB := n2_;clear n0_ n1_ n2_)));obtain ⟨hczq6_0,hczq6_1,hczq6_2,hfzq6_0,hfzq6_1,hfzq6_2⟩ := cells3 BK414.out) | ((with_reducible refine gate_callee (f := 164) rfl ?_);refine goesL_ (some 23) rfl rfl Try.func164 Z312 rfl #[.int .u64 a0_1,.int .u64 t417] rfl Z256 ?_;(with_reducible refine (bits_Mul64.calls a0_1 t417 t418 t419 _ A6.out).mono ?_);rintro e w' ⟨rfl,⟨nd,rfl⟩⟩;refine ⟨_,rfl,?_⟩;(iterate 4 (try (rw [drewN_self wq5];generalize hq_ : World.drewN wq5 _ = wq5;have n0_ : Aside0 (wq5.heap[gb414]? = some (.cells #[.bool a0_0,.int .u64 a0_1,.int .u64 a0_2] 100 (0,0))) := ⟨Z270⟩;have n1_ : Aside0 (wq5.heap[gb415]? = some (.cells #[.bool false,.int .u64 0,.int .u64 0] 100 (0,0))) := ⟨Z269⟩;have n2_ : Aside0 (Below w.heap.size w wq5) := ⟨Z191⟩;clear BK414 BK415 HB hq_;have BK414 := n0_;have BK415 := n1_;have HB := n2_;clear n0_ n1_ n2_)));(try (obtain ⟨hczq6_0,hczq6_1,hczq6_2,hfzq6_0,hfzq6_1,hfzq6_2⟩ := cells3 BK414.out))) | ((with_reducible refine gate_callee (f := 164) rfl ?_);refine goesL_ (some 30) rfl rfl Try.func164 Z312 rfl #[.int .u64 a0_2,.int .u64 t417] rfl Z256 ?_;(with_reducible refine (bits_Mul64.calls a0_2 t417 t420 t421 _ A7.out).mono ?_);rintro e w' ⟨rfl,⟨nd,rfl⟩⟩;refine ⟨_,rfl,?_⟩;(iterate 4 (try (rw [drewN_self wq5];generalize hq_ : World.drewN wq5 _ = wq5;have n0_ : Aside0 (wq5.heap[gb414]? = some (.cells #[.bool a0_0,.int .u64 a0_1,.int .u64 a0_2] 100 (0,0))) := ⟨Z270⟩;have n1_ : Aside0 (wq5.heap[gb415]? = some (.cells #[.bool false,.int .u64 0,.int .u64 0] 100 (0,0))) := ⟨Z269⟩;have n2_ : Aside0 (Below w.heap.size w wq5) := ⟨Z191⟩;clear BK414 BK415 HB hq_;have BK414 := n0_;have BK415 := n1_;have HB := n2_;clear n0_ n1_ n2_)));(try (obtain ⟨hczq6_0,hczq6_1,hczq6_2,hfzq6_0,hfzq6_1,hfzq6_2⟩ := cells3 BK414.out))) | (simp only [bits_Add64.run t419 t420 0 t422 t423 A8.out];(iterate 4 (try (rw [drewN_self wq5];generalize hq_ : World.drewN wq5 _ = wq5;have n0_ : Aside0 (wq5.heap[gb414]? = some (.cells #[.bool a0_0,.int .u64 a0_1,.int .u64 a0_2] 100 (0,0))) := ⟨Z270⟩;have n1_ : Aside0 (wq5.heap[gb415]? = some (.cells #[.bool false,.int .u64 0,.int .u64 0] 100 (0,0))) := ⟨Z269⟩;have n2_ : Aside0 (Below w.heap.size w wq5) := ⟨Z191⟩;clear BK414 BK415 HB hq_;have BK414 := n0_;have BK415 := n1_;have HB := n2_;clear n0_ n1_ n2_)));(try (obtain ⟨hczq6_0,hczq6_1,hczq6_2,hfzq6_0,hfzq6_1,hfzq6_2⟩ := cells3 BK414.out))) | ((with_reducible refine gate_callee (f := 153) rfl ?_);refine goesL_ (some 46) rfl rfl Try.func153 Z312 rfl #[.bool (a0_0 != (decide (a1 < 0))),.int .u64 t422,.int .u64 t421] rfl Z256 ?_;(with_reducible refine (impl_wideOf.calls (a0_0 != (decide (a1 < 0))) t422 t421 t424 t425 t426 _ A9.out).mono ?_);rintro e wq7 ⟨rfl,hb⟩;refine ⟨_,rfl,?_⟩;have n_ := Z138;clear BK414 BK415 HB;obtain ⟨BK414,BK415,HB⟩ := n_;(try clear hb);(try clear hb2);(try clear hk);(try clear hi)) | ((with_reducible refine gate_dst (N := 12) rfl ?_);refine bE 12 #[.bool false,.int .u64 0,.int .u64 0] 100 (h := ?_);intro gb427 hg wq8 hbox hb;have n_ := Z46;clear BK414 BK415 HB;obtain ⟨BK414,BK415,HB,BK427,GW427,GE427,NB414_427,NB427_414,NB415_427,NB427_415⟩ := n_;clear hb hbox hg;have hnbq9 := NB427_414.out;have hncq9 := NB414_427.out;have hnbq10 := NB427_415.out;have hncq10 := NB415_427.out;obtain ⟨hczq11_0,hczq11_1,hczq11_2,hfzq11_0,hfzq11_1,hfzq11_2⟩ := cells3 BK427.out;obtain ⟨hczq12_0,hczq12_1,hczq12_2,hfzq12_0,hfzq12_1,hfzq12_2⟩ := cells3 BK415.out))
   refine bodyPost_ret (results_ct rfl _ _ gb415 100 #[.bool false,.int .u64 0,.int .u64 0] (0,0) _ rfl Z145 Try.underlying100 rfl Z312) rfl ?_
   exact ⟨Z263,Z357⟩
  ·rw [if_neg c10] at H
   have c10b0 : decide (0 < t418) = false := decide_eq_false c10
   clear c10
   by_cases c23 : t423 > 0
   ·rw [if_pos c23] at H
    have c23b0 : decide (0 < t423) = true := decide_eq_true c23
    clear c23
    simp only [Option.some.injEq,Prod.mk.injEq] at H
    obtain ⟨rfl,rfl,rfl,rfl⟩ := H
    go_enter Try.func152,Try.ntmps152
    go_wp2_with (first | ((with_reducible refine gate_dst (N := 2) rfl ?_);refine bE 2 #[.bool a0_0,.int .u64 a0_1,.int .u64 a0_2] 100 (h := ?_);intro gb414 hg wq1 hbox hb;have n_ := Z104;clear HB;obtain ⟨HB,BK414,GW414,GE414⟩ := n_;clear hb hbox hg) | ((with_reducible refine gate_dst (N := 4) rfl ?_);refine bE 4 #[.bool false,.int .u64 0,.int .u64 0] 100 (h := ?_);intro gb415 hg wq2 hbox hb;have n_ := Z73;clear BK414 HB;obtain ⟨BK414,HB,BK415,GW415,GE415,NB414_415,NB415_414⟩ := n_;clear hb hbox hg;have hnbq3 := NB414_415.out;have hncq3 := NB415_414.out;obtain ⟨hczq4_0,hczq4_1,hczq4_2,hfzq4_0,hfzq4_1,hfzq4_2⟩ := cells3 BK414.out) | ((with_reducible refine gate_callee (f := 161) rfl ?_);refine goesL_ (some 14) rfl rfl Try.func161 Z312 rfl #[.agg #[.bool a0_0,.int .u64 a0_1,.int .u64 a0_2]] rfl Z256 ?_;(with_reducible refine (impl_WideOk.calls a0_0 a0_1 a0_2 true _ A3.out).mono ?_);rintro e wq5 ⟨rfl,hb⟩;refine ⟨_,rfl,?_⟩;have n_ := Z138;clear BK414 BK415 HB;obtain ⟨BK414,BK415,HB⟩ := n_;(try clear hb);(try clear hb2);(try clear hk);(try clear hi)) | ((with_reducible refine gate_callee (f := 165) rfl ?_);refine goesL_ (some 18) rfl rfl Try.func165 Z312 rfl #[.int .i64 a1] rfl Z256 ?_;(with_reducible refine (impl_size.calls a1 t417 _ A5.out).mono ?_);rintro e w' ⟨rfl,⟨nd,rfl⟩⟩;refine ⟨_,rfl,?_⟩;(iterate 4 (try (rw [drewN_self wq5];generalize hq_ : World.drewN wq5 _ = wq5;have n0_ : Aside0 (wq5.heap[gb414]? = some (.cells #[.bool a0_0,.int .u64 a0_1,.int .u64 a0_2] 100 (0,0))) := ⟨Z270⟩;have n1_ : Aside0 (wq5.heap[gb415]? = some (.cells #[.bool false,.int .u64 0,.int .u64 0] 100 (0,0))) := ⟨Z269⟩;have n2_ : Aside0 (Below w.heap.size w wq5) := ⟨Z191⟩;clear BK414 BK415 HB hq_;have BK414 := n0_;have BK415 := n1_;have HB := n2_;clear n0_ n1_ n2_)));obtain ⟨hczq6_0,hczq6_1,hczq6_2,hfzq6_0,hfzq6_1,hfzq6_2⟩ := cells3 BK414.out) | ((with_reducible refine gate_callee (f := 164) rfl ?_);refine goesL_ (some 23) rfl rfl Try.func164 Z312 rfl #[.int .u64 a0_1,.int .u64 t417] rfl Z256 ?_;(with_reducible refine (bits_Mul64.calls a0_1 t417 t418 t419 _ A6.out).mono ?_);rintro e w' ⟨rfl,⟨nd,rfl⟩⟩;refine ⟨_,rfl,?_⟩;(iterate 4 (try (rw [drewN_self wq5];generalize hq_ : World.drewN wq5 _ = wq5;have n0_ : Aside0 (wq5.heap[gb414]? = some (.cells #[.bool a0_0,.int .u64 a0_1,.int .u64 a0_2] 100 (0,0))) := ⟨Z270⟩;have n1_ : Aside0 (wq5.heap[gb415]? = some (.cells #[.bool false,.int .u64 0,.int .u64 0] 100 (0,0))) := ⟨Z269⟩;have n2_ : Aside0 (Below w.heap.size w wq5) := ⟨Z191⟩;clear BK414 BK415 HB hq_;have BK414 := n0_;have BK415 := n1_;have HB := n2_;clear n0_ n1_ n2_)));(try (obtain ⟨hczq6_0,hczq6_1,hczq6_2,hfzq6_0,hfzq6_1,hfzq6_2⟩ := cells3 BK414.out))) | ((with_reducible refine gate_callee (f := 164) rfl ?_);refine goesL_ (some 30) rfl rfl Try.func164 Z312 rfl #[.int .u64 a0_2,.int .u64 t417] rfl Z256 ?_;(with_reducible refine (bits_Mul64.calls a0_2 t417 t420 t421 _ A7.out).mono ?_);rintro e w' ⟨rfl,⟨nd,rfl⟩⟩;refine ⟨_,rfl,?_⟩;(iterate 4 (try (rw [drewN_self wq5];generalize hq_ : World.drewN wq5 _ = wq5;have n0_ : Aside0 (wq5.heap[gb414]? = some (.cells #[.bool a0_0,.int .u64 a0_1,.int .u64 a0_2] 100 (0,0))) := ⟨Z270⟩;have n1_ : Aside0 (wq5.heap[gb415]? = some (.cells #[.bool false,.int .u64 0,.int .u64 0] 100 (0,0))) := ⟨Z269⟩;have n2_ : Aside0 (Below w.heap.size w wq5) := ⟨Z191⟩;clear BK414 BK415 HB hq_;have BK414 := n0_;have BK415 := n1_;have HB := n2_;clear n0_ n1_ n2_)));(try (obtain ⟨hczq6_0,hczq6_1,hczq6_2,hfzq6_0,hfzq6_1,hfzq6_2⟩ := cells3 BK414.out))) | (simp only [bits_Add64.run t419 t420 0 t422 t423 A8.out];(iterate 4 (try (rw [drewN_self wq5];generalize hq_ : World.drewN wq5 _ = wq5;have n0_ : Aside0 (wq5.heap[gb414]? = some (.cells #[.bool a0_0,.int .u64 a0_1,.int .u64 a0_2] 100 (0,0))) := ⟨Z270⟩;have n1_ : Aside0 (wq5.heap[gb415]? = some (.cells #[.bool false,.int .u64 0,.int .u64 0] 100 (0,0))) := ⟨Z269⟩;have n2_ : Aside0 (Below w.heap.size w wq5) := ⟨Z191⟩;clear BK414 BK415 HB hq_;have BK414 := n0_;have BK415 := n1_;have HB := n2_;clear n0_ n1_ n2_)));(try (obtain ⟨hczq6_0,hczq6_1,hczq6_2,hfzq6_0,hfzq6_1,hfzq6_2⟩ := cells3 BK414.out))) | ((with_reducible refine gate_callee (f := 153) rfl ?_);refine goesL_ (some 46) rfl rfl Try.func153 Z312 rfl #[.bool (a0_0 != (decide (a1 < 0))),.int .u64 t422,.int .u64 t421] rfl Z256 ?_;(with_reducible refine (impl_wideOf.calls (a0_0 != (decide (a1 < 0))) t422 t421 t424 t425 t426 _ A9.out).mono ?_);rintro e wq7 ⟨rfl,hb⟩;refine ⟨_,rfl,?_⟩;have n_ := Z138;clear BK414 BK415 HB;obtain ⟨BK414,BK415,HB⟩ := n_;(try clear hb);(try clear hb2);(try clear hk);(try clear hi)) | ((with_reducible refine gate_dst (N := 12) rfl ?_);refine bE 12 #[.bool false,.int .u64 0,.int .u64 0] 100 (h := ?_);intro gb427 hg wq8 hbox hb;have n_ := Z46;clear BK414 BK415 HB;obtain ⟨BK414,BK415,HB,BK427,GW427,GE427,NB414_427,NB427_414,NB415_427,NB427_415⟩ := n_;clear hb hbox hg;have hnbq9 := NB427_414.out;have hncq9 := NB414_427.out;have hnbq10 := NB427_415.out;have hncq10 := NB415_427.out;obtain ⟨hczq11_0,hczq11_1,hczq11_2,hfzq11_0,hfzq11_1,hfzq11_2⟩ := cells3 BK427.out;obtain ⟨hczq12_0,hczq12_1,hczq12_2,hfzq12_0,hfzq12_1,hfzq12_2⟩ := cells3 BK415.out))
    refine bodyPost_ret (results_ct rfl _ _ gb415 100 #[.bool false,.int .u64 0,.int .u64 0] (0,0) _ rfl Z145 Try.underlying100 rfl Z312) rfl ?_
    exact ⟨Z263,Z357⟩
   ·rw [if_neg c23] at H
    have c23b0 : decide (0 < t423) = false := decide_eq_false c23
    clear c23
    obtain ⟨t428,A360,H⟩ := Option.bind_eq_some_iff.mp H
    have A36 := Aside0.mk A360
    clear A360
    by_cases c37 : t428 = true
    ·subst c37
     rw [if_pos rfl] at H
     simp only [Option.some.injEq,Prod.mk.injEq] at H
     obtain ⟨rfl,rfl,rfl,rfl⟩ := H
     go_enter Try.func152,Try.ntmps152
     go_wp2_with (first | ((with_reducible refine gate_dst (N := 2) rfl ?_);refine bE 2 #[.bool a0_0,.int .u64 a0_1,.int .u64 a0_2] 100 (h := ?_);intro gb414 hg wq1 hbox hb;have n_ := Z104;clear HB;obtain ⟨HB,BK414,GW414,GE414⟩ := n_;clear hb hbox hg) | ((with_reducible refine gate_dst (N := 4) rfl ?_);refine bE 4 #[.bool false,.int .u64 0,.int .u64 0] 100 (h := ?_);intro gb415 hg wq2 hbox hb;have n_ := Z73;clear BK414 HB;obtain ⟨BK414,HB,BK415,GW415,GE415,NB414_415,NB415_414⟩ := n_;clear hb hbox hg;have hnbq3 := NB414_415.out;have hncq3 := NB415_414.out;obtain ⟨hczq4_0,hczq4_1,hczq4_2,hfzq4_0,hfzq4_1,hfzq4_2⟩ := cells3 BK414.out) | ((with_reducible refine gate_callee (f := 161) rfl ?_);refine goesL_ (some 14) rfl rfl Try.func161 Z312 rfl #[.agg #[.bool a0_0,.int .u64 a0_1,.int .u64 a0_2]] rfl Z256 ?_;(with_reducible refine (impl_WideOk.calls a0_0 a0_1 a0_2 true _ A3.out).mono ?_);rintro e wq5 ⟨rfl,hb⟩;refine ⟨_,rfl,?_⟩;have n_ := Z138;clear BK414 BK415 HB;obtain ⟨BK414,BK415,HB⟩ := n_;(try clear hb);(try clear hb2);(try clear hk);(try clear hi)) | ((with_reducible refine gate_callee (f := 165) rfl ?_);refine goesL_ (some 18) rfl rfl Try.func165 Z312 rfl #[.int .i64 a1] rfl Z256 ?_;(with_reducible refine (impl_size.calls a1 t417 _ A5.out).mono ?_);rintro e w' ⟨rfl,⟨nd,rfl⟩⟩;refine ⟨_,rfl,?_⟩;(iterate 4 (try (rw [drewN_self wq5];generalize hq_ : World.drewN wq5 _ = wq5;have n0_ : Aside0 (wq5.heap[gb414]? = some (.cells #[.bool a0_0,.int .u64 a0_1,.int .u64 a0_2] 100 (0,0))) := ⟨Z270⟩;have n1_ : Aside0 (wq5.heap[gb415]? = some (.cells #[.bool false,.int .u64 0,.int .u64 0] 100 (0,0))) := ⟨Z269⟩;have n2_ : Aside0 (Below w.heap.size w wq5) := ⟨Z191⟩;clear BK414 BK415 HB hq_;have BK414 := n0_;have BK415 := n1_;have HB := n2_;clear n0_ n1_ n2_)));obtain ⟨hczq6_0,hczq6_1,hczq6_2,hfzq6_0,hfzq6_1,hfzq6_2⟩ := cells3 BK414.out) | ((with_reducible refine gate_callee (f := 164) rfl ?_);refine goesL_ (some 23) rfl rfl Try.func164 Z312 rfl #[.int .u64 a0_1,.int .u64 t417] rfl Z256 ?_;(with_reducible refine (bits_Mul64.calls a0_1 t417 t418 t419 _ A6.out).mono ?_);rintro e w' ⟨rfl,⟨nd,rfl⟩⟩;refine ⟨_,rfl,?_⟩;(iterate 4 (try (rw [drewN_self wq5];generalize hq_ : World.drewN wq5 _ = wq5;have n0_ : Aside0 (wq5.heap[gb414]? = some (.cells #[.bool a0_0,.int .u64 a0_1,.int .u64 a0_2] 100 (0,0))) := ⟨Z270⟩;have n1_ : Aside0 (wq5.heap[gb415]? = some (.cells #[.bool false,.int .u64 0,.int .u64 0] 100 (0,0))) := ⟨Z269⟩;have n2_ : Aside0 (Below w.heap.size w wq5) := ⟨Z191⟩;clear BK414 BK415 HB hq_;have BK414 := n0_;have BK415 := n1_;have HB := n2_;clear n0_ n1_ n2_)));(try (obtain ⟨hczq6_0,hczq6_1,hczq6_2,hfzq6_0,hfzq6_1,hfzq6_2⟩ := cells3 BK414.out))) | ((with_reducible refine gate_callee (f := 164) rfl ?_);refine goesL_ (some 30) rfl rfl Try.func164 Z312 rfl #[.int .u64 a0_2,.int .u64 t417] rfl Z256 ?_;(with_reducible refine (bits_Mul64.calls a0_2 t417 t420 t421 _ A7.out).mono ?_);rintro e w' ⟨rfl,⟨nd,rfl⟩⟩;refine ⟨_,rfl,?_⟩;(iterate 4 (try (rw [drewN_self wq5];generalize hq_ : World.drewN wq5 _ = wq5;have n0_ : Aside0 (wq5.heap[gb414]? = some (.cells #[.bool a0_0,.int .u64 a0_1,.int .u64 a0_2] 100 (0,0))) := ⟨Z270⟩;have n1_ : Aside0 (wq5.heap[gb415]? = some (.cells #[.bool false,.int .u64 0,.int .u64 0] 100 (0,0))) := ⟨Z269⟩;have n2_ : Aside0 (Below w.heap.size w wq5) := ⟨Z191⟩;clear BK414 BK415 HB hq_;have BK414 := n0_;have BK415 := n1_;have HB := n2_;clear n0_ n1_ n2_)));(try (obtain ⟨hczq6_0,hczq6_1,hczq6_2,hfzq6_0,hfzq6_1,hfzq6_2⟩ := cells3 BK414.out))) | (simp only [bits_Add64.run t419 t420 0 t422 t423 A8.out];(iterate 4 (try (rw [drewN_self wq5];generalize hq_ : World.drewN wq5 _ = wq5;have n0_ : Aside0 (wq5.heap[gb414]? = some (.cells #[.bool a0_0,.int .u64 a0_1,.int .u64 a0_2] 100 (0,0))) := ⟨Z270⟩;have n1_ : Aside0 (wq5.heap[gb415]? = some (.cells #[.bool false,.int .u64 0,.int .u64 0] 100 (0,0))) := ⟨Z269⟩;have n2_ : Aside0 (Below w.heap.size w wq5) := ⟨Z191⟩;clear BK414 BK415 HB hq_;have BK414 := n0_;have BK415 := n1_;have HB := n2_;clear n0_ n1_ n2_)));(try (obtain ⟨hczq6_0,hczq6_1,hczq6_2,hfzq6_0,hfzq6_1,hfzq6_2⟩ := cells3 BK414.out))) | ((with_reducible refine gate_callee (f := 153) rfl ?_);refine goesL_ (some 46) rfl rfl Try.func153 Z312 rfl #[.bool (a0_0 != (decide (a1 < 0))),.int .u64 t422,.int .u64 t421] rfl Z256 ?_;(with_reducible refine (impl_wideOf.calls (a0_0 != (decide (a1 < 0))) t422 t421 t424 t425 t426 _ A9.out).mono ?_);rintro e wq7 ⟨rfl,hb⟩;refine ⟨_,rfl,?_⟩;have n_ := Z138;clear BK414 BK415 HB;obtain ⟨BK414,BK415,HB⟩ := n_;(try clear hb);(try clear hb2);(try clear hk);(try clear hi)) | ((with_reducible refine gate_dst (N := 12) rfl ?_);refine bE 12 #[.bool false,.int .u64 0,.int .u64 0] 100 (h := ?_);intro gb427 hg wq8 hbox hb;have n_ := Z46;clear BK414 BK415 HB;obtain ⟨BK414,BK415,HB,BK427,GW427,GE427,NB414_427,NB427_414,NB415_427,NB427_415⟩ := n_;clear hb hbox hg;have hnbq9 := NB427_414.out;have hncq9 := NB414_427.out;have hnbq10 := NB427_415.out;have hncq10 := NB415_427.out;obtain ⟨hczq11_0,hczq11_1,hczq11_2,hfzq11_0,hfzq11_1,hfzq11_2⟩ := cells3 BK427.out) | (go_at_call 161;(with_reducible refine (impl_WideOk.calls t424 t425 t426 true _ A36.out).mono ?_);rintro e wq12 ⟨rfl,hb⟩;have n_ := Z70;clear BK414 BK415 BK427 HB;obtain ⟨BK414,BK415,BK427,HB⟩ := n_;(try clear hb);(try clear hb2);(try clear hk);(try clear hi);obtain ⟨hczq13_0,hczq13_1,hczq13_2,hfzq13_0,hfzq13_1,hfzq13_2⟩ := cells3 BK427.out;obtain ⟨hczq14_0,hczq14_1,hczq14_2,hfzq14_0,hfzq14_1,hfzq14_2⟩ := cells3 BK415.out))
     refine bodyPost_ret (results_ct rfl _ _ gb415 100 #[.bool t424,.int .u64 t425,.int .u64 t426] (0,0) _ rfl (by refine bP ?_;refine blk_put (cs := #[.bool t424,.int .u64 t425,.int .u64 0]) ?_ 2 _ rfl;refine bP ?_;refine blk_put (cs := #[.bool t424,.int .u64 0,.int .u64 0]) ?_ 1 _ rfl;refine bP ?_;refine blk_put (cs := #[.bool false,.int .u64 0,.int .u64 0]) ?_ 0 _ rfl;refine bP ?_;exact BK415.out) Try.underlying100 rfl Z312) rfl ?_
     exact ⟨Z263,Z357⟩
    ·replace c37 := Bool.eq_false_iff.mpr c37
     subst c37
     rw [if_neg Bool.false_ne_true] at H
     simp only [Option.some.injEq,Prod.mk.injEq] at H
     obtain ⟨rfl,rfl,rfl,rfl⟩ := H
     go_enter Try.func152,Try.ntmps152
     go_wp2_with (first | ((with_reducible refine gate_dst (N := 2) rfl ?_);refine bE 2 #[.bool a0_0,.int .u64 a0_1,.int .u64 a0_2] 100 (h := ?_);intro gb414 hg wq1 hbox hb;have n_ := Z104;clear HB;obtain ⟨HB,BK414,GW414,GE414⟩ := n_;clear hb hbox hg) | ((with_reducible refine gate_dst (N := 4) rfl ?_);refine bE 4 #[.bool false,.int .u64 0,.int .u64 0] 100 (h := ?_);intro gb415 hg wq2 hbox hb;have n_ := Z73;clear BK414 HB;obtain ⟨BK414,HB,BK415,GW415,GE415,NB414_415,NB415_414⟩ := n_;clear hb hbox hg;have hnbq3 := NB414_415.out;have hncq3 := NB415_414.out;obtain ⟨hczq4_0,hczq4_1,hczq4_2,hfzq4_0,hfzq4_1,hfzq4_2⟩ := cells3 BK414.out) | ((with_reducible refine gate_callee (f := 161) rfl ?_);refine goesL_ (some 14) rfl rfl Try.func161 Z312 rfl #[.agg #[.bool a0_0,.int .u64 a0_1,.int .u64 a0_2]] rfl Z256 ?_;(with_reducible refine (impl_WideOk.calls a0_0 a0_1 a0_2 true _ A3.out).mono ?_);rintro e wq5 ⟨rfl,hb⟩;refine ⟨_,rfl,?_⟩;have n_ := Z138;clear BK414 BK415 HB;obtain ⟨BK414,BK415,HB⟩ := n_;(try clear hb);(try clear hb2);(try clear hk);(try clear hi)) | ((with_reducible refine gate_callee (f := 165) rfl ?_);refine goesL_ (some 18) rfl rfl Try.func165 Z312 rfl #[.int .i64 a1] rfl Z256 ?_;(with_reducible refine (impl_size.calls a1 t417 _ A5.out).mono ?_);rintro e w' ⟨rfl,⟨nd,rfl⟩⟩;refine ⟨_,rfl,?_⟩;(iterate 4 (try (rw [drewN_self wq5];generalize hq_ : World.drewN wq5 _ = wq5;have n0_ : Aside0 (wq5.heap[gb414]? = some (.cells #[.bool a0_0,.int .u64 a0_1,.int .u64 a0_2] 100 (0,0))) := ⟨Z270⟩;have n1_ : Aside0 (wq5.heap[gb415]? = some (.cells #[.bool false,.int .u64 0,.int .u64 0] 100 (0,0))) := ⟨Z269⟩;have n2_ : Aside0 (Below w.heap.size w wq5) := ⟨Z191⟩;clear BK414 BK415 HB hq_;have BK414 := n0_;have BK415 := n1_;have HB := n2_;clear n0_ n1_ n2_)));obtain ⟨hczq6_0,hczq6_1,hczq6_2,hfzq6_0,hfzq6_1,hfzq6_2⟩ := cells3 BK414.out) | ((with_reducible refine gate_callee (f := 164) rfl ?_);refine goesL_ (some 23) rfl rfl Try.func164 Z312 rfl #[.int .u64 a0_1,.int .u64 t417] rfl Z256 ?_;(with_reducible refine (bits_Mul64.calls a0_1 t417 t418 t419 _ A6.out).mono ?_);rintro e w' ⟨rfl,⟨nd,rfl⟩⟩;refine ⟨_,rfl,?_⟩;(iterate 4 (try (rw [drewN_self wq5];generalize hq_ : World.drewN wq5 _ = wq5;have n0_ : Aside0 (wq5.heap[gb414]? = some (.cells #[.bool a0_0,.int .u64 a0_1,.int .u64 a0_2] 100 (0,0))) := ⟨Z270⟩;have n1_ : Aside0 (wq5.heap[gb415]? = some (.cells #[.bool false,.int .u64 0,.int .u64 0] 100 (0,0))) := ⟨Z269⟩;have n2_ : Aside0 (Below w.heap.size w wq5) := ⟨Z191⟩;clear BK414 BK415 HB hq_;have BK414 := n0_;have BK415 := n1_;have HB := n2_;clear n0_ n1_ n2_)));(try (obtain ⟨hczq6_0,hczq6_1,hczq6_2,hfzq6_0,hfzq6_1,hfzq6_2⟩ := cells3 BK414.out))) | ((with_reducible refine gate_callee (f := 164) rfl ?_);refine goesL_ (some 30) rfl rfl Try.func164 Z312 rfl #[.int .u64 a0_2,.int .u64 t417] rfl Z256 ?_;(with_reducible refine (bits_Mul64.calls a0_2 t417 t420 t421 _ A7.out).mono ?_);rintro e w' ⟨rfl,⟨nd,rfl⟩⟩;refine ⟨_,rfl,?_⟩;(iterate 4 (try (rw [drewN_self wq5];generalize hq_ : World.drewN wq5 _ = wq5;have n0_ : Aside0 (wq5.heap[gb414]? = some (.cells #[.bool a0_0,.int .u64 a0_1,.int .u64 a0_2] 100 (0,0))) := ⟨Z270⟩;have n1_ : Aside0 (wq5.heap[gb415]? = some (.cells #[.bool false,.int .u64 0,.int .u64 0] 100 (0,0))) := ⟨Z269⟩;have n2_ : Aside0 (Below w.heap.size w wq5) := ⟨Z191⟩;clear BK414 BK415 HB hq_;have BK414 := n0_;have BK415 := n1_;have HB := n2_;clear n0_ n1_ n2_)));(try (obtain ⟨hczq6_0,hczq6_1,hczq6_2,hfzq6_0,hfzq6_1,hfzq6_2⟩ := cells3 BK414.out))) | (simp only [bits_Add64.run t419 t420 0 t422 t423 A8.out];(iterate 4 (try (rw [drewN_self wq5];generalize hq_ : World.drewN wq5 _ = wq5;have n0_ : Aside0 (wq5.heap[gb414]? = some (.cells #[.bool a0_0,.int .u64 a0_1,.int .u64 a0_2] 100 (0,0))) := ⟨Z270⟩;have n1_ : Aside0 (wq5.heap[gb415]? = some (.cells #[.bool false,.int .u64 0,.int .u64 0] 100 (0,0))) := ⟨Z269⟩;have n2_ : Aside0 (Below w.heap.size w wq5) := ⟨Z191⟩;clear BK414 BK415 HB hq_;have BK414 := n0_;have BK415 := n1_;have HB := n2_;clear n0_ n1_ n2_)));(try (obtain ⟨hczq6_0,hczq6_1,hczq6_2,hfzq6_0,hfzq6_1,hfzq6_2⟩ := cells3 BK414.out))) | ((with_reducible refine gate_callee (f := 153) rfl ?_);refine goesL_ (some 46) rfl rfl Try.func153 Z312 rfl #[.bool (a0_0 != (decide (a1 < 0))),.int .u64 t422,.int .u64 t421] rfl Z256 ?_;(with_reducible refine (impl_wideOf.calls (a0_0 != (decide (a1 < 0))) t422 t421 t424 t425 t426 _ A9.out).mono ?_);rintro e wq7 ⟨rfl,hb⟩;refine ⟨_,rfl,?_⟩;have n_ := Z138;clear BK414 BK415 HB;obtain ⟨BK414,BK415,HB⟩ := n_;(try clear hb);(try clear hb2);(try clear hk);(try clear hi)) | ((with_reducible refine gate_dst (N := 12) rfl ?_);refine bE 12 #[.bool false,.int .u64 0,.int .u64 0] 100 (h := ?_);intro gb427 hg wq8 hbox hb;have n_ := Z46;clear BK414 BK415 HB;obtain ⟨BK414,BK415,HB,BK427,GW427,GE427,NB414_427,NB427_414,NB415_427,NB427_415⟩ := n_;clear hb hbox hg;have hnbq9 := NB427_414.out;have hncq9 := NB414_427.out;have hnbq10 := NB427_415.out;have hncq10 := NB415_427.out;obtain ⟨hczq11_0,hczq11_1,hczq11_2,hfzq11_0,hfzq11_1,hfzq11_2⟩ := cells3 BK427.out) | (go_at_call 161;(with_reducible refine (impl_WideOk.calls t424 t425 t426 false _ A36.out).mono ?_);rintro e wq12 ⟨rfl,hb⟩;have n_ := Z70;clear BK414 BK415 BK427 HB;obtain ⟨BK414,BK415,BK427,HB⟩ := n_;(try clear hb);(try clear hb2);(try clear hk);(try clear hi);obtain ⟨hczq13_0,hczq13_1,hczq13_2,hfzq13_0,hfzq13_1,hfzq13_2⟩ := cells3 BK415.out))
     refine bodyPost_ret (results_ct rfl _ _ gb415 100 #[.bool false,.int .u64 0,.int .u64 0] (0,0) _ rfl Z166 Try.underlying100 rfl Z312) rfl ?_
     exact ⟨Z263,Z357⟩
 ·replace c4 := Bool.eq_false_iff.mpr c4
  subst c4
  rw [if_neg Bool.false_ne_true] at H
  simp only [Option.some.injEq,Prod.mk.injEq] at H
  obtain ⟨rfl,rfl,rfl,rfl⟩ := H
  go_enter Try.func152,Try.ntmps152
  go_wp2_with (first | ((with_reducible refine gate_dst (N := 2) rfl ?_);refine bE 2 #[.bool a0_0,.int .u64 a0_1,.int .u64 a0_2] 100 (h := ?_);intro gb414 hg wq1 hbox hb;have n_ := Z104;clear HB;obtain ⟨HB,BK414,GW414,GE414⟩ := n_;clear hb hbox hg) | ((with_reducible refine gate_dst (N := 4) rfl ?_);refine bE 4 #[.bool false,.int .u64 0,.int .u64 0] 100 (h := ?_);intro gb415 hg wq2 hbox hb;have n_ := Z73;clear BK414 HB;obtain ⟨BK414,HB,BK415,GW415,GE415,NB414_415,NB415_414⟩ := n_;clear hb hbox hg;have hnbq3 := NB414_415.out;have hncq3 := NB415_414.out;obtain ⟨hczq4_0,hczq4_1,hczq4_2,hfzq4_0,hfzq4_1,hfzq4_2⟩ := cells3 BK414.out) | ((with_reducible refine gate_callee (f := 161) rfl ?_);refine goesL_ (some 14) rfl rfl Try.func161 Z312 rfl #[.agg #[.bool a0_0,.int .u64 a0_1,.int .u64 a0_2]] rfl Z256 ?_;(with_reducible refine (impl_WideOk.calls a0_0 a0_1 a0_2 false _ A3.out).mono ?_);rintro e wq5 ⟨rfl,hb⟩;refine ⟨_,rfl,?_⟩;have n_ := Z138;clear BK414 BK415 HB;obtain ⟨BK414,BK415,HB⟩ := n_;(try clear hb);(try clear hb2);(try clear hk);(try clear hi);obtain ⟨hczq6_0,hczq6_1,hczq6_2,hfzq6_0,hfzq6_1,hfzq6_2⟩ := cells3 BK415.out))
  refine bodyPost_ret (results_ct rfl _ _ gb415 100 #[.bool false,.int .u64 0,.int .u64 0] (0,0) _ rfl Z166 Try.underlying100 rfl Z312) rfl ?_
  exact ⟨Z263,Z574⟩

end Go.Proofs.Ytaepeajaefpooaa.QFnExactMayPart
