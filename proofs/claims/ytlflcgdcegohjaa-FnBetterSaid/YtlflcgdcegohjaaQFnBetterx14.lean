/- The machine side of FnBetter: what each Go function that it reaches comes to. Conditions: none. -/
import Derived.Test.YtlflcgdcegohjaaQFnBetterx0
import Derived.Test.YtlflcgdcegohjaaQFnBetterx10
import Derived.Test.YtlflcgdcegohjaaQFnBetterx11
import Derived.Test.YtlflcgdcegohjaaQFnBetterx12
import Derived.Test.YtlflcgdcegohjaaQFnBetterx13
namespace Go.Proofs.Ytlflcgdcegohjaa.QFnBetter
open Go.RowKit Go.Proofs.YtlflcgdcegohjaaW.PrintWords Go.Proofs.YtlflcgdcegohjaaW.PrintLast Go.Proofs.YtlflcgdcegohjaaW.PrintMore
attribute [local go_sem] max2_int min2_int max_two min_two max_three min_three max_four min_four   -- for this text's walks alone
set_option linter.unusedVariables false
set_option linter.unusedSimpArgs false

/-! ### spec_AddFrac: function 30 -/
def spec_AddFrac.f (k : Nat) (a0_0 : Bool) (a0_1 : Int) (a0_2 : Int) (a0_3 : Int) (a1_0 : Bool) (a1_1 : Int) (a1_2 : Int) (a1_3 : Int) : Option (Bool × Int × Int × Int × Bool) := (spec_l5Cross.f k a0_0 a0_1 a0_2 a0_3 a1_0 a1_1 a1_2 a1_3).bind fun bt634 => (if bt634.2.2.2.2.2.2 = true then ((spec_AddWide.f k bt634.1 bt634.2.1 bt634.2.2.1 bt634.2.2.2.1 bt634.2.2.2.2.1 bt634.2.2.2.2.2.1).bind fun bt643 => (if bt643.2.2.2 = true then ((spec_FracOk.f bt643.1 bt643.2.1 bt643.2.2.1 (wrap64 (a0_3 * a1_3))).bind fun t649 => (if t649 = true then (some (bt643.1,bt643.2.1,bt643.2.2.1,wrap64 (a0_3 * a1_3),true)) else (some (false,0,0,0,false)))) else (some (false,0,0,0,false)))) else (some (false,0,0,0,false)))
theorem spec_AddFrac.mono : ∀ a0 a1 a2 a3 a4 a5 a6 a7 k,LeO (spec_AddFrac.f k a0 a1 a2 a3 a4 a5 a6 a7) (spec_AddFrac.f (k + 1) a0 a1 a2 a3 a4 a5 a6 a7) := by
 intro a0 a1 a2 a3 a4 a5 a6 a7 k
 unfold spec_AddFrac.f
 repeat' first
   | (with_reducible exact spec_AddWide.mono _ _ _ _ _ _ _)
   | (with_reducible exact spec_l5Cross.mono _ _ _ _ _ _ _ _ _)
   | (with_reducible exact LeO.refl _)
   | (with_reducible exact LeO.none _)
   | (with_reducible refine LeO.ite ?_ ?_)
   | (with_reducible refine LeO.bind ?_ (fun _ => ?_))
   | exact spec_AddWide.mono _ _ _ _ _ _ _
   | exact spec_l5Cross.mono _ _ _ _ _ _ _ _ _
   | exact LeO.none _
   | refine LeO.ite ?_ ?_
   | refine LeO.bind ?_ (fun _ => ?_)
set_option maxHeartbeats 8000000 in
set_option maxRecDepth 100000 in
theorem spec_AddFrac.calls (k : Nat) (a0_0 : Bool) (a0_1 : Int) (a0_2 : Int) (a0_3 : Int) (a1_0 : Bool) (a1_1 : Int) (a1_2 : Int) (a1_3 : Int) (r1 : Bool) (r2 : Int) (r3 : Int) (r4 : Int) (r5 : Bool) (w : World) (h : spec_AddFrac.f k a0_0 a0_1 a0_2 a0_3 a1_0 a1_1 a1_2 a1_3 = some (r1,r2,r3,r4,r5)) :
  Calls Try.prog 30 #[.agg #[.bool a0_0,.int .u64 a0_1,.int .u64 a0_2,.int .i64 a0_3],.agg #[.bool a1_0,.int .u64 a1_1,.int .u64 a1_2,.int .i64 a1_3]] w fun e w' => e = .returned (.tuple #[.agg #[.bool r1,.int .u64 r2,.int .u64 r3,.int .i64 r4],.bool r5]) ∧ Below w.heap.size w w' := by
 have hu41 := Try.underlying41
 have hu39 := Try.underlying39
 have HB := Aside0.mk (Below.refl w.heap.size w)
 have H := h
 clear h
 unfold spec_AddFrac.f at H
 obtain ⟨⟨t634,t635,t636,t637,t638,t639,t640⟩,A30,H⟩ := Option.bind_eq_some_iff.mp H
 try dsimp only at H
 have A3 := Aside0.mk A30
 clear A30
 by_cases c4 : t640 = true
 rotate_left
 ·replace c4 := Bool.eq_false_iff.mpr c4
  subst c4
  rw [if_neg Bool.false_ne_true] at H
  simp only [Option.some.injEq,Prod.mk.injEq] at H
  obtain ⟨rfl,rfl,rfl,rfl,rfl⟩ := H
  go_enter Try.func30,Try.ntmps30
  go_wp2_with (first | ((with_reducible refine gate_dst (N := 2) rfl ?_);refine bE 2 #[.bool a0_0,.int .u64 a0_1,.int .u64 a0_2,.int .i64 a0_3] 41 (h := ?_);intro gb631 hg wq1 hbox hb;have n_ := Z100;clear HB;obtain ⟨HB,BK631,GW631,GE631⟩ := n_;clear hb hbox hg) | ((with_reducible refine gate_dst (N := 3) rfl ?_);refine bE 3 #[.bool a1_0,.int .u64 a1_1,.int .u64 a1_2,.int .i64 a1_3] 41 (h := ?_);intro gb632 hg wq2 hbox hb;have n_ := Z58;clear BK631 HB;obtain ⟨BK631,HB,BK632,GW632,GE632,NB631_632,NB632_631⟩ := n_;clear hb hbox hg) | ((with_reducible refine gate_dst (N := 4) rfl ?_);refine bE 4 #[.bool false,.int .u64 0,.int .u64 0,.int .i64 0] 41 (h := ?_);intro gb633 hg wq3 hbox hb;have n_ := Z32;clear BK631 BK632 HB;obtain ⟨BK631,BK632,HB,BK633,GW633,GE633,NB631_633,NB633_631,NB632_633,NB633_632⟩ := n_;clear hb hbox hg;have hnbq4 := NB631_632.out;have hncq4 := NB632_631.out;have hnbq5 := NB631_633.out;have hncq5 := NB633_631.out;obtain ⟨hczq6_0,hczq6_1,hczq6_2,hczq6_3,hfzq6_0,hfzq6_1,hfzq6_2,hfzq6_3⟩ := cells4 BK631.out;have hnbq7 := NB632_633.out;have hncq7 := NB633_632.out;obtain ⟨hczq8_0,hczq8_1,hczq8_2,hczq8_3,hfzq8_0,hfzq8_1,hfzq8_2,hfzq8_3⟩ := cells4 BK632.out) | ((with_reducible refine gate_callee (f := 31) rfl ?_);refine goesL_ (some 15) rfl rfl Try.func31 Z310 rfl #[.agg #[.bool a0_0,.int .u64 a0_1,.int .u64 a0_2,.int .i64 a0_3],.agg #[.bool a1_0,.int .u64 a1_1,.int .u64 a1_2,.int .i64 a1_3]] rfl Z249 ?_;(with_reducible refine (spec_l5Cross.calls k a0_0 a0_1 a0_2 a0_3 a1_0 a1_1 a1_2 a1_3 t634 t635 t636 t637 t638 t639 false _ A3.out).mono ?_);rintro e wq9 ⟨rfl,hb⟩;refine ⟨_,rfl,?_⟩;have n_ := Z86;clear BK631 BK632 BK633 HB;obtain ⟨BK631,BK632,BK633,HB⟩ := n_;(try clear hb);(try clear hb2);(try clear hk);(try clear hi)) | ((with_reducible refine gate_dst (N := 6) rfl ?_);refine bE 6 #[.bool false,.int .u64 0,.int .u64 0] 39 (h := ?_);intro gb641 hg wq10 hbox hb;have n_ := Z20;clear BK631 BK632 BK633 HB;obtain ⟨BK631,BK632,BK633,HB,BK641,GW641,GE641,NB631_641,NB641_631,NB632_641,NB641_632,NB633_641,NB641_633⟩ := n_;clear hb hbox hg) | ((with_reducible refine gate_dst (N := 7) rfl ?_);refine bE 7 #[.bool false,.int .u64 0,.int .u64 0] 39 (h := ?_);intro gb642 hg wq11 hbox hb;have n_ := Z7;clear BK631 BK632 BK633 BK641 HB;obtain ⟨BK631,BK632,BK633,BK641,HB,BK642,GW642,GE642,NB631_642,NB642_631,NB632_642,NB642_632,NB633_642,NB642_633,NB641_642,NB642_641⟩ := n_;clear hb hbox hg;have hnbq12 := NB641_631.out;have hncq12 := NB631_641.out;have hnbq13 := NB641_632.out;have hncq13 := NB632_641.out;have hnbq14 := NB641_633.out;have hncq14 := NB633_641.out;have hnbq15 := NB641_642.out;have hncq15 := NB642_641.out;obtain ⟨hczq16_0,hczq16_1,hczq16_2,hfzq16_0,hfzq16_1,hfzq16_2⟩ := cells3 BK641.out;have hnbq17 := NB642_631.out;have hncq17 := NB631_642.out;have hnbq18 := NB642_632.out;have hncq18 := NB632_642.out;have hnbq19 := NB642_633.out;have hncq19 := NB633_642.out;obtain ⟨hczq20_0,hczq20_1,hczq20_2,hfzq20_0,hfzq20_1,hfzq20_2⟩ := cells3 BK642.out;obtain ⟨hczq21_0,hczq21_1,hczq21_2,hczq21_3,hfzq21_0,hfzq21_1,hfzq21_2,hfzq21_3⟩ := cells4 BK633.out))
  refine bodyPost_ret (results_ct rfl _ _ gb633 41 #[.bool false,.int .u64 0,.int .u64 0,.int .i64 0] (0,0) _ rfl (by refine bP ?_;refine blk_put (cs := #[.bool false,.int .u64 0,.int .u64 0,.int .i64 0]) ?_ 3 _ rfl;refine bP ?_;refine blk_put (cs := #[.bool false,.int .u64 0,.int .u64 0,.int .i64 0]) ?_ 2 _ rfl;refine bP ?_;refine blk_put (cs := #[.bool false,.int .u64 0,.int .u64 0,.int .i64 0]) ?_ 1 _ rfl;refine bP ?_;refine blk_put (cs := #[.bool false,.int .u64 0,.int .u64 0,.int .i64 0]) ?_ 0 _ rfl;refine bP ?_;refine blk_far ?_ NB633_642.out _;refine bP ?_;refine blk_far ?_ NB633_642.out _;refine bP ?_;refine blk_far ?_ NB633_642.out _;refine bP ?_;refine blk_far ?_ NB633_641.out _;refine bP ?_;refine blk_far ?_ NB633_641.out _;refine bP ?_;refine blk_far ?_ NB633_641.out _;refine bP ?_;exact BK633.out) Try.underlying41 rfl Z310) rfl ?_
  exact ⟨Z265,Z527⟩
 subst c4
 rw [if_pos rfl] at H
 obtain ⟨⟨t643,t644,t645,t646⟩,A50,H⟩ := Option.bind_eq_some_iff.mp H
 try dsimp only at H
 have A5 := Aside0.mk A50
 clear A50
 by_cases c6 : t646 = true
 rotate_left
 ·replace c6 := Bool.eq_false_iff.mpr c6
  subst c6
  rw [if_neg Bool.false_ne_true] at H
  simp only [Option.some.injEq,Prod.mk.injEq] at H
  obtain ⟨rfl,rfl,rfl,rfl,rfl⟩ := H
  go_enter Try.func30,Try.ntmps30
  go_wp2_with (first | ((with_reducible refine gate_dst (N := 2) rfl ?_);refine bE 2 #[.bool a0_0,.int .u64 a0_1,.int .u64 a0_2,.int .i64 a0_3] 41 (h := ?_);intro gb631 hg wq1 hbox hb;have n_ := Z100;clear HB;obtain ⟨HB,BK631,GW631,GE631⟩ := n_;clear hb hbox hg) | ((with_reducible refine gate_dst (N := 3) rfl ?_);refine bE 3 #[.bool a1_0,.int .u64 a1_1,.int .u64 a1_2,.int .i64 a1_3] 41 (h := ?_);intro gb632 hg wq2 hbox hb;have n_ := Z58;clear BK631 HB;obtain ⟨BK631,HB,BK632,GW632,GE632,NB631_632,NB632_631⟩ := n_;clear hb hbox hg) | ((with_reducible refine gate_dst (N := 4) rfl ?_);refine bE 4 #[.bool false,.int .u64 0,.int .u64 0,.int .i64 0] 41 (h := ?_);intro gb633 hg wq3 hbox hb;have n_ := Z32;clear BK631 BK632 HB;obtain ⟨BK631,BK632,HB,BK633,GW633,GE633,NB631_633,NB633_631,NB632_633,NB633_632⟩ := n_;clear hb hbox hg;have hnbq4 := NB631_632.out;have hncq4 := NB632_631.out;have hnbq5 := NB631_633.out;have hncq5 := NB633_631.out;obtain ⟨hczq6_0,hczq6_1,hczq6_2,hczq6_3,hfzq6_0,hfzq6_1,hfzq6_2,hfzq6_3⟩ := cells4 BK631.out;have hnbq7 := NB632_633.out;have hncq7 := NB633_632.out;obtain ⟨hczq8_0,hczq8_1,hczq8_2,hczq8_3,hfzq8_0,hfzq8_1,hfzq8_2,hfzq8_3⟩ := cells4 BK632.out) | ((with_reducible refine gate_callee (f := 31) rfl ?_);refine goesL_ (some 15) rfl rfl Try.func31 Z310 rfl #[.agg #[.bool a0_0,.int .u64 a0_1,.int .u64 a0_2,.int .i64 a0_3],.agg #[.bool a1_0,.int .u64 a1_1,.int .u64 a1_2,.int .i64 a1_3]] rfl Z249 ?_;(with_reducible refine (spec_l5Cross.calls k a0_0 a0_1 a0_2 a0_3 a1_0 a1_1 a1_2 a1_3 t634 t635 t636 t637 t638 t639 true _ A3.out).mono ?_);rintro e wq9 ⟨rfl,hb⟩;refine ⟨_,rfl,?_⟩;have n_ := Z86;clear BK631 BK632 BK633 HB;obtain ⟨BK631,BK632,BK633,HB⟩ := n_;(try clear hb);(try clear hb2);(try clear hk);(try clear hi)) | ((with_reducible refine gate_dst (N := 6) rfl ?_);refine bE 6 #[.bool false,.int .u64 0,.int .u64 0] 39 (h := ?_);intro gb641 hg wq10 hbox hb;have n_ := Z20;clear BK631 BK632 BK633 HB;obtain ⟨BK631,BK632,BK633,HB,BK641,GW641,GE641,NB631_641,NB641_631,NB632_641,NB641_632,NB633_641,NB641_633⟩ := n_;clear hb hbox hg) | ((with_reducible refine gate_dst (N := 7) rfl ?_);refine bE 7 #[.bool false,.int .u64 0,.int .u64 0] 39 (h := ?_);intro gb642 hg wq11 hbox hb;have n_ := Z7;clear BK631 BK632 BK633 BK641 HB;obtain ⟨BK631,BK632,BK633,BK641,HB,BK642,GW642,GE642,NB631_642,NB642_631,NB632_642,NB642_632,NB633_642,NB642_633,NB641_642,NB642_641⟩ := n_;clear hb hbox hg;have hnbq12 := NB641_631.out;have hncq12 := NB631_641.out;have hnbq13 := NB641_632.out;have hncq13 := NB632_641.out;have hnbq14 := NB641_633.out;have hncq14 := NB633_641.out;have hnbq15 := NB641_642.out;have hncq15 := NB642_641.out;obtain ⟨hczq16_0,hczq16_1,hczq16_2,hfzq16_0,hfzq16_1,hfzq16_2⟩ := cells3 BK641.out;have hnbq17 := NB642_631.out;have hncq17 := NB631_642.out;have hnbq18 := NB642_632.out;have hncq18 := NB632_642.out;have hnbq19 := NB642_633.out;have hncq19 := NB633_642.out;obtain ⟨hczq20_0,hczq20_1,hczq20_2,hfzq20_0,hfzq20_1,hfzq20_2⟩ := cells3 BK642.out) | ((with_reducible refine gate_callee (f := 48) rfl ?_);refine goesL_ (some 25) rfl rfl Try.func48 Z310 rfl #[.agg #[.bool t634,.int .u64 t635,.int .u64 t636],.agg #[.bool t637,.int .u64 t638,.int .u64 t639]] rfl Z249 ?_;(with_reducible refine (spec_AddWide.calls k t634 t635 t636 t637 t638 t639 t643 t644 t645 false _ A5.out).mono ?_);rintro e wq21 ⟨rfl,hb⟩;refine ⟨_,rfl,?_⟩;have n_ := Z15;clear BK631 BK632 BK633 BK641 BK642 HB;obtain ⟨BK631,BK632,BK633,BK641,BK642,HB⟩ := n_;(try clear hb);(try clear hb2);(try clear hk);(try clear hi)) | ((with_reducible refine gate_dst (N := 9) rfl ?_);refine bE 9 #[.bool false,.int .u64 0,.int .u64 0] 39 (h := ?_);intro gb647 hg wq22 hbox hb;have n_ := Z2;clear BK631 BK632 BK633 BK641 BK642 HB;obtain ⟨BK631,BK632,BK633,BK641,BK642,HB,BK647,GW647,GE647,NB631_647,NB647_631,NB632_647,NB647_632,NB633_647,NB647_633,NB641_647,NB647_641,NB642_647,NB647_642⟩ := n_;clear hb hbox hg;have hnbq23 := NB647_631.out;have hncq23 := NB631_647.out;have hnbq24 := NB647_632.out;have hncq24 := NB632_647.out;have hnbq25 := NB647_633.out;have hncq25 := NB633_647.out;have hnbq26 := NB647_641.out;have hncq26 := NB641_647.out;have hnbq27 := NB647_642.out;have hncq27 := NB642_647.out;obtain ⟨hczq28_0,hczq28_1,hczq28_2,hfzq28_0,hfzq28_1,hfzq28_2⟩ := cells3 BK647.out;obtain ⟨hczq29_0,hczq29_1,hczq29_2,hczq29_3,hfzq29_0,hfzq29_1,hfzq29_2,hfzq29_3⟩ := cells4 BK631.out;obtain ⟨hczq30_0,hczq30_1,hczq30_2,hczq30_3,hfzq30_0,hfzq30_1,hfzq30_2,hfzq30_3⟩ := cells4 BK632.out) | ((with_reducible refine gate_dst (N := 11) rfl ?_);refine bE 11 #[.bool false,.int .u64 0,.int .u64 0,.int .i64 0] 41 (h := ?_);intro gb648 hg wq31 hbox hb;have n_ := Z1;clear BK631 BK632 BK633 BK641 BK642 BK647 HB;obtain ⟨BK631,BK632,BK633,BK641,BK642,BK647,HB,BK648,GW648,GE648,NB631_648,NB648_631,NB632_648,NB648_632,NB633_648,NB648_633,NB641_648,NB648_641,NB642_648,NB648_642,NB647_648,NB648_647⟩ := n_;clear hb hbox hg;have hnbq32 := NB648_631.out;have hncq32 := NB631_648.out;have hnbq33 := NB648_632.out;have hncq33 := NB632_648.out;have hnbq34 := NB648_633.out;have hncq34 := NB633_648.out;have hnbq35 := NB648_641.out;have hncq35 := NB641_648.out;have hnbq36 := NB648_642.out;have hncq36 := NB642_648.out;have hnbq37 := NB648_647.out;have hncq37 := NB647_648.out;obtain ⟨hczq38_0,hczq38_1,hczq38_2,hczq38_3,hfzq38_0,hfzq38_1,hfzq38_2,hfzq38_3⟩ := cells4 BK648.out;obtain ⟨hczq39_0,hczq39_1,hczq39_2,hczq39_3,hfzq39_0,hfzq39_1,hfzq39_2,hfzq39_3⟩ := cells4 BK633.out))
  refine bodyPost_ret (results_ct rfl _ _ gb633 41 #[.bool false,.int .u64 0,.int .u64 0,.int .i64 0] (0,0) _ rfl (by refine bP ?_;refine blk_put (cs := #[.bool false,.int .u64 0,.int .u64 0,.int .i64 0]) ?_ 3 _ rfl;refine bP ?_;refine blk_put (cs := #[.bool false,.int .u64 0,.int .u64 0,.int .i64 0]) ?_ 2 _ rfl;refine bP ?_;refine blk_put (cs := #[.bool false,.int .u64 0,.int .u64 0,.int .i64 0]) ?_ 1 _ rfl;refine bP ?_;refine blk_put (cs := #[.bool false,.int .u64 0,.int .u64 0,.int .i64 0]) ?_ 0 _ rfl;refine bP ?_;refine blk_far ?_ NB633_648.out _;refine bP ?_;refine blk_far ?_ NB633_648.out _;refine bP ?_;refine blk_far ?_ NB633_648.out _;refine bP ?_;refine blk_far ?_ NB633_648.out _;refine bP ?_;exact BK633.out) Try.underlying41 rfl Z310) rfl ?_
  exact ⟨Z265,Z312⟩
 subst c6
 rw [if_pos rfl] at H
 obtain ⟨t649,A70,H⟩ := Option.bind_eq_some_iff.mp H
 have A7 := Aside0.mk A70
 clear A70
 by_cases c8 : t649 = true
 rotate_left
 ·replace c8 := Bool.eq_false_iff.mpr c8
  subst c8
  rw [if_neg Bool.false_ne_true] at H
  simp only [Option.some.injEq,Prod.mk.injEq] at H
  obtain ⟨rfl,rfl,rfl,rfl,rfl⟩ := H
  go_enter Try.func30,Try.ntmps30
  go_wp2_with (first | ((with_reducible refine gate_dst (N := 2) rfl ?_);refine bE 2 #[.bool a0_0,.int .u64 a0_1,.int .u64 a0_2,.int .i64 a0_3] 41 (h := ?_);intro gb631 hg wq1 hbox hb;have n_ := Z100;clear HB;obtain ⟨HB,BK631,GW631,GE631⟩ := n_;clear hb hbox hg) | ((with_reducible refine gate_dst (N := 3) rfl ?_);refine bE 3 #[.bool a1_0,.int .u64 a1_1,.int .u64 a1_2,.int .i64 a1_3] 41 (h := ?_);intro gb632 hg wq2 hbox hb;have n_ := Z58;clear BK631 HB;obtain ⟨BK631,HB,BK632,GW632,GE632,NB631_632,NB632_631⟩ := n_;clear hb hbox hg) | ((with_reducible refine gate_dst (N := 4) rfl ?_);refine bE 4 #[.bool false,.int .u64 0,.int .u64 0,.int .i64 0] 41 (h := ?_);intro gb633 hg wq3 hbox hb;have n_ := Z32;clear BK631 BK632 HB;obtain ⟨BK631,BK632,HB,BK633,GW633,GE633,NB631_633,NB633_631,NB632_633,NB633_632⟩ := n_;clear hb hbox hg;have hnbq4 := NB631_632.out;have hncq4 := NB632_631.out;have hnbq5 := NB631_633.out;have hncq5 := NB633_631.out;obtain ⟨hczq6_0,hczq6_1,hczq6_2,hczq6_3,hfzq6_0,hfzq6_1,hfzq6_2,hfzq6_3⟩ := cells4 BK631.out;have hnbq7 := NB632_633.out;have hncq7 := NB633_632.out;obtain ⟨hczq8_0,hczq8_1,hczq8_2,hczq8_3,hfzq8_0,hfzq8_1,hfzq8_2,hfzq8_3⟩ := cells4 BK632.out) | ((with_reducible refine gate_callee (f := 31) rfl ?_);refine goesL_ (some 15) rfl rfl Try.func31 Z310 rfl #[.agg #[.bool a0_0,.int .u64 a0_1,.int .u64 a0_2,.int .i64 a0_3],.agg #[.bool a1_0,.int .u64 a1_1,.int .u64 a1_2,.int .i64 a1_3]] rfl Z249 ?_;(with_reducible refine (spec_l5Cross.calls k a0_0 a0_1 a0_2 a0_3 a1_0 a1_1 a1_2 a1_3 t634 t635 t636 t637 t638 t639 true _ A3.out).mono ?_);rintro e wq9 ⟨rfl,hb⟩;refine ⟨_,rfl,?_⟩;have n_ := Z86;clear BK631 BK632 BK633 HB;obtain ⟨BK631,BK632,BK633,HB⟩ := n_;(try clear hb);(try clear hb2);(try clear hk);(try clear hi)) | ((with_reducible refine gate_dst (N := 6) rfl ?_);refine bE 6 #[.bool false,.int .u64 0,.int .u64 0] 39 (h := ?_);intro gb641 hg wq10 hbox hb;have n_ := Z20;clear BK631 BK632 BK633 HB;obtain ⟨BK631,BK632,BK633,HB,BK641,GW641,GE641,NB631_641,NB641_631,NB632_641,NB641_632,NB633_641,NB641_633⟩ := n_;clear hb hbox hg) | ((with_reducible refine gate_dst (N := 7) rfl ?_);refine bE 7 #[.bool false,.int .u64 0,.int .u64 0] 39 (h := ?_);intro gb642 hg wq11 hbox hb;have n_ := Z7;clear BK631 BK632 BK633 BK641 HB;obtain ⟨BK631,BK632,BK633,BK641,HB,BK642,GW642,GE642,NB631_642,NB642_631,NB632_642,NB642_632,NB633_642,NB642_633,NB641_642,NB642_641⟩ := n_;clear hb hbox hg;have hnbq12 := NB641_631.out;have hncq12 := NB631_641.out;have hnbq13 := NB641_632.out;have hncq13 := NB632_641.out;have hnbq14 := NB641_633.out;have hncq14 := NB633_641.out;have hnbq15 := NB641_642.out;have hncq15 := NB642_641.out;obtain ⟨hczq16_0,hczq16_1,hczq16_2,hfzq16_0,hfzq16_1,hfzq16_2⟩ := cells3 BK641.out;have hnbq17 := NB642_631.out;have hncq17 := NB631_642.out;have hnbq18 := NB642_632.out;have hncq18 := NB632_642.out;have hnbq19 := NB642_633.out;have hncq19 := NB633_642.out;obtain ⟨hczq20_0,hczq20_1,hczq20_2,hfzq20_0,hfzq20_1,hfzq20_2⟩ := cells3 BK642.out) | ((with_reducible refine gate_callee (f := 48) rfl ?_);refine goesL_ (some 25) rfl rfl Try.func48 Z310 rfl #[.agg #[.bool t634,.int .u64 t635,.int .u64 t636],.agg #[.bool t637,.int .u64 t638,.int .u64 t639]] rfl Z249 ?_;(with_reducible refine (spec_AddWide.calls k t634 t635 t636 t637 t638 t639 t643 t644 t645 true _ A5.out).mono ?_);rintro e wq21 ⟨rfl,hb⟩;refine ⟨_,rfl,?_⟩;have n_ := Z15;clear BK631 BK632 BK633 BK641 BK642 HB;obtain ⟨BK631,BK632,BK633,BK641,BK642,HB⟩ := n_;(try clear hb);(try clear hb2);(try clear hk);(try clear hi)) | ((with_reducible refine gate_dst (N := 9) rfl ?_);refine bE 9 #[.bool false,.int .u64 0,.int .u64 0] 39 (h := ?_);intro gb647 hg wq22 hbox hb;have n_ := Z2;clear BK631 BK632 BK633 BK641 BK642 HB;obtain ⟨BK631,BK632,BK633,BK641,BK642,HB,BK647,GW647,GE647,NB631_647,NB647_631,NB632_647,NB647_632,NB633_647,NB647_633,NB641_647,NB647_641,NB642_647,NB647_642⟩ := n_;clear hb hbox hg;have hnbq23 := NB647_631.out;have hncq23 := NB631_647.out;have hnbq24 := NB647_632.out;have hncq24 := NB632_647.out;have hnbq25 := NB647_633.out;have hncq25 := NB633_647.out;have hnbq26 := NB647_641.out;have hncq26 := NB641_647.out;have hnbq27 := NB647_642.out;have hncq27 := NB642_647.out;obtain ⟨hczq28_0,hczq28_1,hczq28_2,hfzq28_0,hfzq28_1,hfzq28_2⟩ := cells3 BK647.out;obtain ⟨hczq29_0,hczq29_1,hczq29_2,hczq29_3,hfzq29_0,hfzq29_1,hfzq29_2,hfzq29_3⟩ := cells4 BK631.out;obtain ⟨hczq30_0,hczq30_1,hczq30_2,hczq30_3,hfzq30_0,hfzq30_1,hfzq30_2,hfzq30_3⟩ := cells4 BK632.out) | ((with_reducible refine gate_dst (N := 11) rfl ?_);refine bE 11 #[.bool false,.int .u64 0,.int .u64 0,.int .i64 0] 41 (h := ?_);intro gb648 hg wq31 hbox hb;have n_ := Z1;clear BK631 BK632 BK633 BK641 BK642 BK647 HB;obtain ⟨BK631,BK632,BK633,BK641,BK642,BK647,HB,BK648,GW648,GE648,NB631_648,NB648_631,NB632_648,NB648_632,NB633_648,NB648_633,NB641_648,NB648_641,NB642_648,NB648_642,NB647_648,NB648_647⟩ := n_;clear hb hbox hg;have hnbq32 := NB648_631.out;have hncq32 := NB631_648.out;have hnbq33 := NB648_632.out;have hncq33 := NB632_648.out;have hnbq34 := NB648_633.out;have hncq34 := NB633_648.out;have hnbq35 := NB648_641.out;have hncq35 := NB641_648.out;have hnbq36 := NB648_642.out;have hncq36 := NB642_648.out;have hnbq37 := NB648_647.out;have hncq37 := NB647_648.out;obtain ⟨hczq38_0,hczq38_1,hczq38_2,hczq38_3,hfzq38_0,hfzq38_1,hfzq38_2,hfzq38_3⟩ := cells4 BK648.out) | (go_at_call 49;(with_reducible refine (spec_FracOk.calls t643 t644 t645 (wrap64 (a0_3 * a1_3)) false _ A7.out).mono ?_);rintro e wq39 ⟨rfl,hb⟩;have n_ := Z11;clear BK631 BK632 BK633 BK641 BK642 BK647 BK648 HB;obtain ⟨BK631,BK632,BK633,BK641,BK642,BK647,BK648,HB⟩ := n_;(try clear hb);(try clear hb2);(try clear hk);(try clear hi);obtain ⟨hczq40_0,hczq40_1,hczq40_2,hczq40_3,hfzq40_0,hfzq40_1,hfzq40_2,hfzq40_3⟩ := cells4 BK633.out))
  refine bodyPost_ret (results_ct rfl _ _ gb633 41 #[.bool false,.int .u64 0,.int .u64 0,.int .i64 0] (0,0) _ rfl (by refine bP ?_;refine blk_put (cs := #[.bool false,.int .u64 0,.int .u64 0,.int .i64 0]) ?_ 3 _ rfl;refine bP ?_;refine blk_put (cs := #[.bool false,.int .u64 0,.int .u64 0,.int .i64 0]) ?_ 2 _ rfl;refine bP ?_;refine blk_put (cs := #[.bool false,.int .u64 0,.int .u64 0,.int .i64 0]) ?_ 1 _ rfl;refine bP ?_;refine blk_put (cs := #[.bool false,.int .u64 0,.int .u64 0,.int .i64 0]) ?_ 0 _ rfl;refine bP ?_;exact BK633.out) Try.underlying41 rfl Z310) rfl ?_
  exact ⟨Z265,Z312⟩
 subst c8
 rw [if_pos rfl] at H
 simp only [Option.some.injEq,Prod.mk.injEq] at H
 obtain ⟨rfl,rfl,rfl,rfl,rfl⟩ := H
 go_enter Try.func30,Try.ntmps30
 go_wp2_with (first | ((with_reducible refine gate_dst (N := 2) rfl ?_);refine bE 2 #[.bool a0_0,.int .u64 a0_1,.int .u64 a0_2,.int .i64 a0_3] 41 (h := ?_);intro gb631 hg wq1 hbox hb;have n_ := Z100;clear HB;obtain ⟨HB,BK631,GW631,GE631⟩ := n_;clear hb hbox hg) | ((with_reducible refine gate_dst (N := 3) rfl ?_);refine bE 3 #[.bool a1_0,.int .u64 a1_1,.int .u64 a1_2,.int .i64 a1_3] 41 (h := ?_);intro gb632 hg wq2 hbox hb;have n_ := Z58;clear BK631 HB;obtain ⟨BK631,HB,BK632,GW632,GE632,NB631_632,NB632_631⟩ := n_;clear hb hbox hg) | ((with_reducible refine gate_dst (N := 4) rfl ?_);refine bE 4 #[.bool false,.int .u64 0,.int .u64 0,.int .i64 0] 41 (h := ?_);intro gb633 hg wq3 hbox hb;have n_ := Z32;clear BK631 BK632 HB;obtain ⟨BK631,BK632,HB,BK633,GW633,GE633,NB631_633,NB633_631,NB632_633,NB633_632⟩ := n_;clear hb hbox hg;have hnbq4 := NB631_632.out;have hncq4 := NB632_631.out;have hnbq5 := NB631_633.out;have hncq5 := NB633_631.out;obtain ⟨hczq6_0,hczq6_1,hczq6_2,hczq6_3,hfzq6_0,hfzq6_1,hfzq6_2,hfzq6_3⟩ := cells4 BK631.out;have hnbq7 := NB632_633.out;have hncq7 := NB633_632.out;obtain ⟨hczq8_0,hczq8_1,hczq8_2,hczq8_3,hfzq8_0,hfzq8_1,hfzq8_2,hfzq8_3⟩ := cells4 BK632.out) | ((with_reducible refine gate_callee (f := 31) rfl ?_);refine goesL_ (some 15) rfl rfl Try.func31 Z310 rfl #[.agg #[.bool a0_0,.int .u64 a0_1,.int .u64 a0_2,.int .i64 a0_3],.agg #[.bool a1_0,.int .u64 a1_1,.int .u64 a1_2,.int .i64 a1_3]] rfl Z249 ?_;(with_reducible refine (spec_l5Cross.calls k a0_0 a0_1 a0_2 a0_3 a1_0 a1_1 a1_2 a1_3 t634 t635 t636 t637 t638 t639 true _ A3.out).mono ?_);rintro e wq9 ⟨rfl,hb⟩;refine ⟨_,rfl,?_⟩;have n_ := Z86;clear BK631 BK632 BK633 HB;obtain ⟨BK631,BK632,BK633,HB⟩ := n_;(try clear hb);(try clear hb2);(try clear hk);(try clear hi)) | ((with_reducible refine gate_dst (N := 6) rfl ?_);refine bE 6 #[.bool false,.int .u64 0,.int .u64 0] 39 (h := ?_);intro gb641 hg wq10 hbox hb;have n_ := Z20;clear BK631 BK632 BK633 HB;obtain ⟨BK631,BK632,BK633,HB,BK641,GW641,GE641,NB631_641,NB641_631,NB632_641,NB641_632,NB633_641,NB641_633⟩ := n_;clear hb hbox hg) | ((with_reducible refine gate_dst (N := 7) rfl ?_);refine bE 7 #[.bool false,.int .u64 0,.int .u64 0] 39 (h := ?_);intro gb642 hg wq11 hbox hb;have n_ := Z7;clear BK631 BK632 BK633 BK641 HB;obtain ⟨BK631,BK632,BK633,BK641,HB,BK642,GW642,GE642,NB631_642,NB642_631,NB632_642,NB642_632,NB633_642,NB642_633,NB641_642,NB642_641⟩ := n_;clear hb hbox hg;have hnbq12 := NB641_631.out;have hncq12 := NB631_641.out;have hnbq13 := NB641_632.out;have hncq13 := NB632_641.out;have hnbq14 := NB641_633.out;have hncq14 := NB633_641.out;have hnbq15 := NB641_642.out;have hncq15 := NB642_641.out;obtain ⟨hczq16_0,hczq16_1,hczq16_2,hfzq16_0,hfzq16_1,hfzq16_2⟩ := cells3 BK641.out;have hnbq17 := NB642_631.out;have hncq17 := NB631_642.out;have hnbq18 := NB642_632.out;have hncq18 := NB632_642.out;have hnbq19 := NB642_633.out;have hncq19 := NB633_642.out;obtain ⟨hczq20_0,hczq20_1,hczq20_2,hfzq20_0,hfzq20_1,hfzq20_2⟩ := cells3 BK642.out) | ((with_reducible refine gate_callee (f := 48) rfl ?_);refine goesL_ (some 25) rfl rfl Try.func48 Z310 rfl #[.agg #[.bool t634,.int .u64 t635,.int .u64 t636],.agg #[.bool t637,.int .u64 t638,.int .u64 t639]] rfl Z249 ?_;(with_reducible refine (spec_AddWide.calls k t634 t635 t636 t637 t638 t639 t643 t644 t645 true _ A5.out).mono ?_);rintro e wq21 ⟨rfl,hb⟩;refine ⟨_,rfl,?_⟩;have n_ := Z15;clear BK631 BK632 BK633 BK641 BK642 HB;obtain ⟨BK631,BK632,BK633,BK641,BK642,HB⟩ := n_;(try clear hb);(try clear hb2);(try clear hk);(try clear hi)) | ((with_reducible refine gate_dst (N := 9) rfl ?_);refine bE 9 #[.bool false,.int .u64 0,.int .u64 0] 39 (h := ?_);intro gb647 hg wq22 hbox hb;have n_ := Z2;clear BK631 BK632 BK633 BK641 BK642 HB;obtain ⟨BK631,BK632,BK633,BK641,BK642,HB,BK647,GW647,GE647,NB631_647,NB647_631,NB632_647,NB647_632,NB633_647,NB647_633,NB641_647,NB647_641,NB642_647,NB647_642⟩ := n_;clear hb hbox hg;have hnbq23 := NB647_631.out;have hncq23 := NB631_647.out;have hnbq24 := NB647_632.out;have hncq24 := NB632_647.out;have hnbq25 := NB647_633.out;have hncq25 := NB633_647.out;have hnbq26 := NB647_641.out;have hncq26 := NB641_647.out;have hnbq27 := NB647_642.out;have hncq27 := NB642_647.out;obtain ⟨hczq28_0,hczq28_1,hczq28_2,hfzq28_0,hfzq28_1,hfzq28_2⟩ := cells3 BK647.out;obtain ⟨hczq29_0,hczq29_1,hczq29_2,hczq29_3,hfzq29_0,hfzq29_1,hfzq29_2,hfzq29_3⟩ := cells4 BK631.out;obtain ⟨hczq30_0,hczq30_1,hczq30_2,hczq30_3,hfzq30_0,hfzq30_1,hfzq30_2,hfzq30_3⟩ := cells4 BK632.out) | ((with_reducible refine gate_dst (N := 11) rfl ?_);refine bE 11 #[.bool false,.int .u64 0,.int .u64 0,.int .i64 0] 41 (h := ?_);intro gb648 hg wq31 hbox hb;have n_ := Z1;clear BK631 BK632 BK633 BK641 BK642 BK647 HB;obtain ⟨BK631,BK632,BK633,BK641,BK642,BK647,HB,BK648,GW648,GE648,NB631_648,NB648_631,NB632_648,NB648_632,NB633_648,NB648_633,NB641_648,NB648_641,NB642_648,NB648_642,NB647_648,NB648_647⟩ := n_;clear hb hbox hg;have hnbq32 := NB648_631.out;have hncq32 := NB631_648.out;have hnbq33 := NB648_632.out;have hncq33 := NB632_648.out;have hnbq34 := NB648_633.out;have hncq34 := NB633_648.out;have hnbq35 := NB648_641.out;have hncq35 := NB641_648.out;have hnbq36 := NB648_642.out;have hncq36 := NB642_648.out;have hnbq37 := NB648_647.out;have hncq37 := NB647_648.out;obtain ⟨hczq38_0,hczq38_1,hczq38_2,hczq38_3,hfzq38_0,hfzq38_1,hfzq38_2,hfzq38_3⟩ := cells4 BK648.out) | (go_at_call 49;(with_reducible refine (spec_FracOk.calls t643 t644 t645 (wrap64 (a0_3 * a1_3)) true _ A7.out).mono ?_);rintro e wq39 ⟨rfl,hb⟩;have n_ := Z11;clear BK631 BK632 BK633 BK641 BK642 BK647 BK648 HB;obtain ⟨BK631,BK632,BK633,BK641,BK642,BK647,BK648,HB⟩ := n_;(try clear hb);(try clear hb2);(try clear hk);(try clear hi);obtain ⟨hczq40_0,hczq40_1,hczq40_2,hczq40_3,hfzq40_0,hfzq40_1,hfzq40_2,hfzq40_3⟩ := cells4 BK648.out;obtain ⟨hczq41_0,hczq41_1,hczq41_2,hczq41_3,hfzq41_0,hfzq41_1,hfzq41_2,hfzq41_3⟩ := cells4 BK633.out))
 refine bodyPost_ret (results_ct rfl _ _ gb633 41 #[.bool t643,.int .u64 t644,.int .u64 t645,.int .i64 (wrap64 (a0_3 * a1_3))] (0,0) _ rfl (by refine bP ?_;refine blk_put (cs := #[.bool t643,.int .u64 t644,.int .u64 t645,.int .i64 0]) ?_ 3 _ rfl;refine bP ?_;refine blk_put (cs := #[.bool t643,.int .u64 t644,.int .u64 0,.int .i64 0]) ?_ 2 _ rfl;refine bP ?_;refine blk_put (cs := #[.bool t643,.int .u64 0,.int .u64 0,.int .i64 0]) ?_ 1 _ rfl;refine bP ?_;refine blk_put (cs := #[.bool false,.int .u64 0,.int .u64 0,.int .i64 0]) ?_ 0 _ rfl;refine bP ?_;exact BK633.out) Try.underlying41 rfl Z310) rfl ?_
 exact ⟨Z265,Z312⟩

/-! ### spec_GainOf: function 15 -/
def spec_GainOf.f (k : Nat) (a0_0 : Int) (a0_1 : Int) (a0_2 : Int) (a0_3 : Int) (a0_4 : Int) (a0_5 : Int) (a1 : Int) : Option (Bool × Int × Int × Int × Bool) := (spec_PlainGain.f a0_2 a0_3 a1).bind fun bt652 => ((spec_PlainGain.f a0_4 a0_5 a1).bind fun bt658 => (if bt652.2.2.2.2 = true then (if bt658.2.2.2.2 = true then ((spec_AddFrac.f k bt652.1 bt652.2.1 bt652.2.2.1 bt652.2.2.2.1 bt658.1 bt658.2.1 bt658.2.2.1 bt658.2.2.2.1).bind fun bt664 => (some (bt664.1,bt664.2.1,bt664.2.2.1,bt664.2.2.2.1,bt664.2.2.2.2))) else (some (false,0,0,0,false))) else (some (false,0,0,0,false))))
theorem spec_GainOf.mono : ∀ a0 a1 a2 a3 a4 a5 a6 k,LeO (spec_GainOf.f k a0 a1 a2 a3 a4 a5 a6) (spec_GainOf.f (k + 1) a0 a1 a2 a3 a4 a5 a6) := by
 intro a0 a1 a2 a3 a4 a5 a6 k
 unfold spec_GainOf.f
 repeat' first
   | (with_reducible exact spec_AddFrac.mono _ _ _ _ _ _ _ _ _)
   | (with_reducible exact LeO.refl _)
   | (with_reducible exact LeO.none _)
   | (with_reducible refine LeO.ite ?_ ?_)
   | (with_reducible refine LeO.bind ?_ (fun _ => ?_))
   | exact spec_AddFrac.mono _ _ _ _ _ _ _ _ _
   | exact LeO.none _
   | refine LeO.ite ?_ ?_
   | refine LeO.bind ?_ (fun _ => ?_)
set_option maxHeartbeats 8000000 in
set_option maxRecDepth 100000 in
theorem spec_GainOf.calls (k : Nat) (a0_0 : Int) (a0_1 : Int) (a0_2 : Int) (a0_3 : Int) (a0_4 : Int) (a0_5 : Int) (a1 : Int) (r1 : Bool) (r2 : Int) (r3 : Int) (r4 : Int) (r5 : Bool) (w : World) (h : spec_GainOf.f k a0_0 a0_1 a0_2 a0_3 a0_4 a0_5 a1 = some (r1,r2,r3,r4,r5)) :
  Calls Try.prog 15 #[.agg #[.int .i64 a0_0,.int .i64 a0_1,.int .i64 a0_2,.int .i64 a0_3,.int .i64 a0_4,.int .i64 a0_5],.int .i64 a1] w fun e w' => e = .returned (.tuple #[.agg #[.bool r1,.int .u64 r2,.int .u64 r3,.int .i64 r4],.bool r5]) ∧ Below w.heap.size w w' := by
 have hu27 := Try.underlying27
 have hu41 := Try.underlying41
 have hu25 := Try.underlying25
 have HB := Aside0.mk (Below.refl w.heap.size w)
 have H := h
 clear h
 unfold spec_GainOf.f at H
 obtain ⟨⟨t652,t653,t654,t655,t656⟩,A30,H⟩ := Option.bind_eq_some_iff.mp H
 try dsimp only at H
 have A3 := Aside0.mk A30
 clear A30
 obtain ⟨⟨t658,t659,t660,t661,t662⟩,A40,H⟩ := Option.bind_eq_some_iff.mp H
 try dsimp only at H
 have A4 := Aside0.mk A40
 clear A40
 by_cases c5 : t656 = true
 rotate_left
 ·replace c5 := Bool.eq_false_iff.mpr c5
  subst c5
  rw [if_neg Bool.false_ne_true] at H
  simp only [Option.some.injEq,Prod.mk.injEq] at H
  obtain ⟨rfl,rfl,rfl,rfl,rfl⟩ := H
  go_enter Try.func15,Try.ntmps15
  go_wp2_with (first | ((with_reducible refine gate_dst (N := 2) rfl ?_);refine bE 2 #[.int .i64 a0_0,.int .i64 a0_1,.int .i64 a0_2,.int .i64 a0_3,.int .i64 a0_4,.int .i64 a0_5] 27 (h := ?_);intro gb650 hg wq1 hbox hb;have n_ := Z104;clear HB;obtain ⟨HB,BK650,GW650,GE650⟩ := n_;clear hb hbox hg) | ((with_reducible refine gate_dst (N := 4) rfl ?_);refine bE 4 #[.bool false,.int .u64 0,.int .u64 0,.int .i64 0] 41 (h := ?_);intro gb651 hg wq2 hbox hb;have n_ := Z54;clear BK650 HB;obtain ⟨BK650,HB,BK651,GW651,GE651,NB650_651,NB651_650⟩ := n_;clear hb hbox hg;have hnbq3 := NB650_651.out;have hncq3 := NB651_650.out;obtain ⟨hczq4_0,hczq4_1,hczq4_2,hczq4_3,hczq4_4,hczq4_5,hfzq4_0,hfzq4_1,hfzq4_2,hfzq4_3,hfzq4_4,hfzq4_5⟩ := cells6 BK650.out) | ((with_reducible refine gate_callee (f := 29) rfl ?_);refine goesL_ (some 14) rfl rfl Try.func29 Z310 rfl #[.agg #[.int .i64 a0_2,.int .i64 a0_3],.int .i64 a1] rfl Z249 ?_;(with_reducible refine (spec_PlainGain.calls a0_2 a0_3 a1 t652 t653 t654 t655 false _ A3.out).mono ?_);rintro e wq5 ⟨rfl,hb⟩;refine ⟨_,rfl,?_⟩;have n_ := Z121;clear BK650 BK651 HB;obtain ⟨BK650,BK651,HB⟩ := n_;(try clear hb);(try clear hb2);(try clear hk);(try clear hi)) | ((with_reducible refine gate_dst (N := 6) rfl ?_);refine bE 6 #[.bool false,.int .u64 0,.int .u64 0,.int .i64 0] 41 (h := ?_);intro gb657 hg wq6 hbox hb;have n_ := Z28;clear BK650 BK651 HB;obtain ⟨BK650,BK651,HB,BK657,GW657,GE657,NB650_657,NB657_650,NB651_657,NB657_651⟩ := n_;clear hb hbox hg;have hnbq7 := NB657_650.out;have hncq7 := NB650_657.out;have hnbq8 := NB657_651.out;have hncq8 := NB651_657.out;obtain ⟨hczq9_0,hczq9_1,hczq9_2,hczq9_3,hfzq9_0,hfzq9_1,hfzq9_2,hfzq9_3⟩ := cells4 BK657.out;obtain ⟨hczq10_0,hczq10_1,hczq10_2,hczq10_3,hczq10_4,hczq10_5,hfzq10_0,hfzq10_1,hfzq10_2,hfzq10_3,hfzq10_4,hfzq10_5⟩ := cells6 BK650.out) | ((with_reducible refine gate_callee (f := 29) rfl ?_);refine goesL_ (some 21) rfl rfl Try.func29 Z310 rfl #[.agg #[.int .i64 a0_4,.int .i64 a0_5],.int .i64 a1] rfl Z249 ?_;(with_reducible refine (spec_PlainGain.calls a0_4 a0_5 a1 t658 t659 t660 t661 t662 _ A4.out).mono ?_);rintro e wq11 ⟨rfl,hb⟩;refine ⟨_,rfl,?_⟩;have n_ := Z47;clear BK650 BK651 BK657 HB;obtain ⟨BK650,BK651,BK657,HB⟩ := n_;(try clear hb);(try clear hb2);(try clear hk);(try clear hi)) | ((with_reducible refine gate_dst (N := 8) rfl ?_);refine bE 8 #[.bool false,.int .u64 0,.int .u64 0,.int .i64 0] 41 (h := ?_);intro gb663 hg wq12 hbox hb;have n_ := Z17;clear BK650 BK651 BK657 HB;obtain ⟨BK650,BK651,BK657,HB,BK663,GW663,GE663,NB650_663,NB663_650,NB651_663,NB663_651,NB657_663,NB663_657⟩ := n_;clear hb hbox hg;have hnbq13 := NB663_650.out;have hncq13 := NB650_663.out;have hnbq14 := NB663_651.out;have hncq14 := NB651_663.out;have hnbq15 := NB663_657.out;have hncq15 := NB657_663.out;obtain ⟨hczq16_0,hczq16_1,hczq16_2,hczq16_3,hfzq16_0,hfzq16_1,hfzq16_2,hfzq16_3⟩ := cells4 BK663.out;obtain ⟨hczq17_0,hczq17_1,hczq17_2,hczq17_3,hfzq17_0,hfzq17_1,hfzq17_2,hfzq17_3⟩ := cells4 BK651.out))
  refine bodyPost_ret (results_ct rfl _ _ gb651 41 #[.bool false,.int .u64 0,.int .u64 0,.int .i64 0] (0,0) _ rfl Z93 Try.underlying41 rfl Z310) rfl ?_
  exact ⟨Z265,Z167⟩
 subst c5
 rw [if_pos rfl] at H
 by_cases c6 : t662 = true
 rotate_left
 ·replace c6 := Bool.eq_false_iff.mpr c6
  subst c6
  rw [if_neg Bool.false_ne_true] at H
  simp only [Option.some.injEq,Prod.mk.injEq] at H
  obtain ⟨rfl,rfl,rfl,rfl,rfl⟩ := H
  go_enter Try.func15,Try.ntmps15
  go_wp2_with (first | ((with_reducible refine gate_dst (N := 2) rfl ?_);refine bE 2 #[.int .i64 a0_0,.int .i64 a0_1,.int .i64 a0_2,.int .i64 a0_3,.int .i64 a0_4,.int .i64 a0_5] 27 (h := ?_);intro gb650 hg wq1 hbox hb;have n_ := Z104;clear HB;obtain ⟨HB,BK650,GW650,GE650⟩ := n_;clear hb hbox hg) | ((with_reducible refine gate_dst (N := 4) rfl ?_);refine bE 4 #[.bool false,.int .u64 0,.int .u64 0,.int .i64 0] 41 (h := ?_);intro gb651 hg wq2 hbox hb;have n_ := Z54;clear BK650 HB;obtain ⟨BK650,HB,BK651,GW651,GE651,NB650_651,NB651_650⟩ := n_;clear hb hbox hg;have hnbq3 := NB650_651.out;have hncq3 := NB651_650.out;obtain ⟨hczq4_0,hczq4_1,hczq4_2,hczq4_3,hczq4_4,hczq4_5,hfzq4_0,hfzq4_1,hfzq4_2,hfzq4_3,hfzq4_4,hfzq4_5⟩ := cells6 BK650.out) | ((with_reducible refine gate_callee (f := 29) rfl ?_);refine goesL_ (some 14) rfl rfl Try.func29 Z310 rfl #[.agg #[.int .i64 a0_2,.int .i64 a0_3],.int .i64 a1] rfl Z249 ?_;(with_reducible refine (spec_PlainGain.calls a0_2 a0_3 a1 t652 t653 t654 t655 true _ A3.out).mono ?_);rintro e wq5 ⟨rfl,hb⟩;refine ⟨_,rfl,?_⟩;have n_ := Z121;clear BK650 BK651 HB;obtain ⟨BK650,BK651,HB⟩ := n_;(try clear hb);(try clear hb2);(try clear hk);(try clear hi)) | ((with_reducible refine gate_dst (N := 6) rfl ?_);refine bE 6 #[.bool false,.int .u64 0,.int .u64 0,.int .i64 0] 41 (h := ?_);intro gb657 hg wq6 hbox hb;have n_ := Z28;clear BK650 BK651 HB;obtain ⟨BK650,BK651,HB,BK657,GW657,GE657,NB650_657,NB657_650,NB651_657,NB657_651⟩ := n_;clear hb hbox hg;have hnbq7 := NB657_650.out;have hncq7 := NB650_657.out;have hnbq8 := NB657_651.out;have hncq8 := NB651_657.out;obtain ⟨hczq9_0,hczq9_1,hczq9_2,hczq9_3,hfzq9_0,hfzq9_1,hfzq9_2,hfzq9_3⟩ := cells4 BK657.out;obtain ⟨hczq10_0,hczq10_1,hczq10_2,hczq10_3,hczq10_4,hczq10_5,hfzq10_0,hfzq10_1,hfzq10_2,hfzq10_3,hfzq10_4,hfzq10_5⟩ := cells6 BK650.out) | ((with_reducible refine gate_callee (f := 29) rfl ?_);refine goesL_ (some 21) rfl rfl Try.func29 Z310 rfl #[.agg #[.int .i64 a0_4,.int .i64 a0_5],.int .i64 a1] rfl Z249 ?_;(with_reducible refine (spec_PlainGain.calls a0_4 a0_5 a1 t658 t659 t660 t661 false _ A4.out).mono ?_);rintro e wq11 ⟨rfl,hb⟩;refine ⟨_,rfl,?_⟩;have n_ := Z47;clear BK650 BK651 BK657 HB;obtain ⟨BK650,BK651,BK657,HB⟩ := n_;(try clear hb);(try clear hb2);(try clear hk);(try clear hi)) | ((with_reducible refine gate_dst (N := 8) rfl ?_);refine bE 8 #[.bool false,.int .u64 0,.int .u64 0,.int .i64 0] 41 (h := ?_);intro gb663 hg wq12 hbox hb;have n_ := Z17;clear BK650 BK651 BK657 HB;obtain ⟨BK650,BK651,BK657,HB,BK663,GW663,GE663,NB650_663,NB663_650,NB651_663,NB663_651,NB657_663,NB663_657⟩ := n_;clear hb hbox hg;have hnbq13 := NB663_650.out;have hncq13 := NB650_663.out;have hnbq14 := NB663_651.out;have hncq14 := NB651_663.out;have hnbq15 := NB663_657.out;have hncq15 := NB657_663.out;obtain ⟨hczq16_0,hczq16_1,hczq16_2,hczq16_3,hfzq16_0,hfzq16_1,hfzq16_2,hfzq16_3⟩ := cells4 BK663.out;obtain ⟨hczq17_0,hczq17_1,hczq17_2,hczq17_3,hfzq17_0,hfzq17_1,hfzq17_2,hfzq17_3⟩ := cells4 BK651.out))
  refine bodyPost_ret (results_ct rfl _ _ gb651 41 #[.bool false,.int .u64 0,.int .u64 0,.int .i64 0] (0,0) _ rfl Z93 Try.underlying41 rfl Z310) rfl ?_
  exact ⟨Z265,Z167⟩
 subst c6
 rw [if_pos rfl] at H
 obtain ⟨⟨t664,t665,t666,t667,t668⟩,A70,H⟩ := Option.bind_eq_some_iff.mp H
 try dsimp only at H
 have A7 := Aside0.mk A70
 clear A70
 simp only [Option.some.injEq,Prod.mk.injEq] at H
 obtain ⟨rfl,rfl,rfl,rfl,rfl⟩ := H
 go_enter Try.func15,Try.ntmps15
 go_wp2_with (first | ((with_reducible refine gate_dst (N := 2) rfl ?_);refine bE 2 #[.int .i64 a0_0,.int .i64 a0_1,.int .i64 a0_2,.int .i64 a0_3,.int .i64 a0_4,.int .i64 a0_5] 27 (h := ?_);intro gb650 hg wq1 hbox hb;have n_ := Z104;clear HB;obtain ⟨HB,BK650,GW650,GE650⟩ := n_;clear hb hbox hg) | ((with_reducible refine gate_dst (N := 4) rfl ?_);refine bE 4 #[.bool false,.int .u64 0,.int .u64 0,.int .i64 0] 41 (h := ?_);intro gb651 hg wq2 hbox hb;have n_ := Z54;clear BK650 HB;obtain ⟨BK650,HB,BK651,GW651,GE651,NB650_651,NB651_650⟩ := n_;clear hb hbox hg;have hnbq3 := NB650_651.out;have hncq3 := NB651_650.out;obtain ⟨hczq4_0,hczq4_1,hczq4_2,hczq4_3,hczq4_4,hczq4_5,hfzq4_0,hfzq4_1,hfzq4_2,hfzq4_3,hfzq4_4,hfzq4_5⟩ := cells6 BK650.out) | ((with_reducible refine gate_callee (f := 29) rfl ?_);refine goesL_ (some 14) rfl rfl Try.func29 Z310 rfl #[.agg #[.int .i64 a0_2,.int .i64 a0_3],.int .i64 a1] rfl Z249 ?_;(with_reducible refine (spec_PlainGain.calls a0_2 a0_3 a1 t652 t653 t654 t655 true _ A3.out).mono ?_);rintro e wq5 ⟨rfl,hb⟩;refine ⟨_,rfl,?_⟩;have n_ := Z121;clear BK650 BK651 HB;obtain ⟨BK650,BK651,HB⟩ := n_;(try clear hb);(try clear hb2);(try clear hk);(try clear hi)) | ((with_reducible refine gate_dst (N := 6) rfl ?_);refine bE 6 #[.bool false,.int .u64 0,.int .u64 0,.int .i64 0] 41 (h := ?_);intro gb657 hg wq6 hbox hb;have n_ := Z28;clear BK650 BK651 HB;obtain ⟨BK650,BK651,HB,BK657,GW657,GE657,NB650_657,NB657_650,NB651_657,NB657_651⟩ := n_;clear hb hbox hg;have hnbq7 := NB657_650.out;have hncq7 := NB650_657.out;have hnbq8 := NB657_651.out;have hncq8 := NB651_657.out;obtain ⟨hczq9_0,hczq9_1,hczq9_2,hczq9_3,hfzq9_0,hfzq9_1,hfzq9_2,hfzq9_3⟩ := cells4 BK657.out;obtain ⟨hczq10_0,hczq10_1,hczq10_2,hczq10_3,hczq10_4,hczq10_5,hfzq10_0,hfzq10_1,hfzq10_2,hfzq10_3,hfzq10_4,hfzq10_5⟩ := cells6 BK650.out) | ((with_reducible refine gate_callee (f := 29) rfl ?_);refine goesL_ (some 21) rfl rfl Try.func29 Z310 rfl #[.agg #[.int .i64 a0_4,.int .i64 a0_5],.int .i64 a1] rfl Z249 ?_;(with_reducible refine (spec_PlainGain.calls a0_4 a0_5 a1 t658 t659 t660 t661 true _ A4.out).mono ?_);rintro e wq11 ⟨rfl,hb⟩;refine ⟨_,rfl,?_⟩;have n_ := Z47;clear BK650 BK651 BK657 HB;obtain ⟨BK650,BK651,BK657,HB⟩ := n_;(try clear hb);(try clear hb2);(try clear hk);(try clear hi)) | ((with_reducible refine gate_dst (N := 8) rfl ?_);refine bE 8 #[.bool false,.int .u64 0,.int .u64 0,.int .i64 0] 41 (h := ?_);intro gb663 hg wq12 hbox hb;have n_ := Z17;clear BK650 BK651 BK657 HB;obtain ⟨BK650,BK651,BK657,HB,BK663,GW663,GE663,NB650_663,NB663_650,NB651_663,NB663_651,NB657_663,NB663_657⟩ := n_;clear hb hbox hg;have hnbq13 := NB663_650.out;have hncq13 := NB650_663.out;have hnbq14 := NB663_651.out;have hncq14 := NB651_663.out;have hnbq15 := NB663_657.out;have hncq15 := NB657_663.out;obtain ⟨hczq16_0,hczq16_1,hczq16_2,hczq16_3,hfzq16_0,hfzq16_1,hfzq16_2,hfzq16_3⟩ := cells4 BK663.out;obtain ⟨hczq17_0,hczq17_1,hczq17_2,hczq17_3,hfzq17_0,hfzq17_1,hfzq17_2,hfzq17_3⟩ := cells4 BK657.out) | ((with_reducible refine gate_callee (f := 30) rfl ?_);refine goesL_ (some 33) rfl rfl Try.func30 Z310 rfl #[.agg #[.bool t652,.int .u64 t653,.int .u64 t654,.int .i64 t655],.agg #[.bool t658,.int .u64 t659,.int .u64 t660,.int .i64 t661]] rfl Z249 ?_;(with_reducible refine (spec_AddFrac.calls k t652 t653 t654 t655 t658 t659 t660 t661 t664 t665 t666 t667 t668 _ A7.out).mono ?_);rintro e wq18 ⟨rfl,hb⟩;refine ⟨_,rfl,?_⟩;have n_ := jA (blk_below (g := gb650) (o := .cells #[.int .i64 a0_0,.int .i64 a0_1,.int .i64 a0_2,.int .i64 a0_3,.int .i64 a0_4,.int .i64 a0_5] 27 (0,0)) (by refine bP ?_;refine blk_far ?_ NB650_663.out _;refine bP ?_;refine blk_far ?_ NB650_663.out _;refine bP ?_;refine blk_far ?_ NB650_663.out _;refine bP ?_;refine blk_far ?_ NB650_663.out _;refine bP ?_;exact BK650.out) hb) (jA (blk_below (g := gb651) (o := .cells #[.bool false,.int .u64 0,.int .u64 0,.int .i64 0] 41 (0,0)) (by refine bP ?_;refine blk_far ?_ NB651_663.out _;refine bP ?_;refine blk_far ?_ NB651_663.out _;refine bP ?_;refine blk_far ?_ NB651_663.out _;refine bP ?_;refine blk_far ?_ NB651_663.out _;refine bP ?_;exact BK651.out) hb) (jA (blk_below (g := gb657) (o := .cells #[.bool t652,.int .u64 t653,.int .u64 t654,.int .i64 t655] 41 (0,0)) (by refine bP ?_;refine blk_far ?_ NB657_663.out _;refine bP ?_;refine blk_far ?_ NB657_663.out _;refine bP ?_;refine blk_far ?_ NB657_663.out _;refine bP ?_;refine blk_far ?_ NB657_663.out _;refine bP ?_;exact BK657.out) hb) (jA (blk_below (g := gb663) (o := .cells #[.bool t658,.int .u64 t659,.int .u64 t660,.int .i64 t661] 41 (0,0)) (by refine bP ?_;refine blk_put (cs := #[.bool t658,.int .u64 t659,.int .u64 t660,.int .i64 0]) ?_ 3 _ rfl;refine bP ?_;refine blk_put (cs := #[.bool t658,.int .u64 t659,.int .u64 0,.int .i64 0]) ?_ 2 _ rfl;refine bP ?_;refine blk_put (cs := #[.bool t658,.int .u64 0,.int .u64 0,.int .i64 0]) ?_ 1 _ rfl;refine bP ?_;refine blk_put (cs := #[.bool false,.int .u64 0,.int .u64 0,.int .i64 0]) ?_ 0 _ rfl;refine bP ?_;exact BK663.out) hb) (Aside0.mk (below_step Z167 hb)))));clear BK650 BK651 BK657 BK663 HB;obtain ⟨BK650,BK651,BK657,BK663,HB⟩ := n_;(try clear hb);(try clear hb2);(try clear hk);(try clear hi);obtain ⟨hczq19_0,hczq19_1,hczq19_2,hczq19_3,hfzq19_0,hfzq19_1,hfzq19_2,hfzq19_3⟩ := cells4 BK651.out))
 refine bodyPost_ret (results_ct rfl _ _ gb651 41 #[.bool t664,.int .u64 t665,.int .u64 t666,.int .i64 t667] (0,0) _ rfl (by refine bP ?_;refine blk_put (cs := #[.bool t664,.int .u64 t665,.int .u64 t666,.int .i64 0]) ?_ 3 _ rfl;refine bP ?_;refine blk_put (cs := #[.bool t664,.int .u64 t665,.int .u64 0,.int .i64 0]) ?_ 2 _ rfl;refine bP ?_;refine blk_put (cs := #[.bool t664,.int .u64 0,.int .u64 0,.int .i64 0]) ?_ 1 _ rfl;refine bP ?_;refine blk_put (cs := #[.bool false,.int .u64 0,.int .u64 0,.int .i64 0]) ?_ 0 _ rfl;refine bP ?_;exact BK651.out) Try.underlying41 rfl Z310) rfl ?_
 exact ⟨Z265,Z167⟩

/-! ### spec_CompareWide: function 32 -/
mutual
def spec_CompareWide.j0 : Nat → Bool → Bool → Int → Int → Bool → Int → Int → Option (Int)
 | 0,_,_,_,_,_,_,_ => none
 | k + 1,x5,x670000,x670001,x670002,x671000,x671001,x671002 => if x671000 = true then ((spec_l3Zero.f x671000 x671001 x671002).bind fun t672 => (spec_CompareWide.j1 k x5 (!t672) x670000 x670001 x670002 x671000 x671001 x671002)) else (spec_CompareWide.j1 k x5 false x670000 x670001 x670002 x671000 x671001 x671002)
def spec_CompareWide.j1 : Nat → Bool → Bool → Bool → Int → Int → Bool → Int → Int → Option (Int)
 | 0,_,_,_,_,_,_,_,_ => none
 | k + 1,x5,x6,x670000,x670001,x670002,x671000,x671001,x671002 => if x5 = true then (spec_CompareWide.j2 k x5 x6 (!x6) x670000 x670001 x670002 x671000 x671001 x671002) else (spec_CompareWide.j2 k x5 x6 false x670000 x670001 x670002 x671000 x671001 x671002)
def spec_CompareWide.j2 : Nat → Bool → Bool → Bool → Bool → Int → Int → Bool → Int → Int → Option (Int)
 | 0,_,_,_,_,_,_,_,_,_ => none
 | k + 1,x5,x6,x21,x670000,x670001,x670002,x671000,x671001,x671002 => if x21 = true then (some (-1)) else (if x6 = true then (spec_CompareWide.j3 k x5 (!x5) x670000 x670001 x670002 x671000 x671001 x671002) else (spec_CompareWide.j3 k x5 false x670000 x670001 x670002 x671000 x671001 x671002))
def spec_CompareWide.j3 : Nat → Bool → Bool → Bool → Int → Int → Bool → Int → Int → Option (Int)
 | 0,_,_,_,_,_,_,_,_ => none
 | k + 1,x5,x27,x670000,x670001,x670002,x671000,x671001,x671002 => if x27 = true then (some 1) else (if x5 = true then ((spec_l3Order.f k x671000 x671001 x671002 x670000 x670001 x670002).bind fun t673 => (some t673)) else ((spec_l3Order.f k x670000 x670001 x670002 x671000 x671001 x671002).bind fun t674 => (some t674)))
end
def spec_CompareWide.f (k : Nat) (a0_0 : Bool) (a0_1 : Int) (a0_2 : Int) (a1_0 : Bool) (a1_1 : Int) (a1_2 : Int) : Option (Int) := if a0_0 = true then ((spec_l3Zero.f a0_0 a0_1 a0_2).bind fun t671 => (spec_CompareWide.j0 k (!t671) a0_0 a0_1 a0_2 a1_0 a1_1 a1_2)) else (spec_CompareWide.j0 k false a0_0 a0_1 a0_2 a1_0 a1_1 a1_2)
theorem spec_CompareWide.mono_l : ∀ k,(∀ y0 y1 y2 y3 y4 y5 y6,LeO (spec_CompareWide.j0 k y0 y1 y2 y3 y4 y5 y6) (spec_CompareWide.j0 (k + 1) y0 y1 y2 y3 y4 y5 y6)) ∧ (∀ y0 y1 y2 y3 y4 y5 y6 y7,LeO (spec_CompareWide.j1 k y0 y1 y2 y3 y4 y5 y6 y7) (spec_CompareWide.j1 (k + 1) y0 y1 y2 y3 y4 y5 y6 y7)) ∧ (∀ y0 y1 y2 y3 y4 y5 y6 y7 y8,LeO (spec_CompareWide.j2 k y0 y1 y2 y3 y4 y5 y6 y7 y8) (spec_CompareWide.j2 (k + 1) y0 y1 y2 y3 y4 y5 y6 y7 y8)) ∧ (∀ y0 y1 y2 y3 y4 y5 y6 y7,LeO (spec_CompareWide.j3 k y0 y1 y2 y3 y4 y5 y6 y7) (spec_CompareWide.j3 (k + 1) y0 y1 y2 y3 y4 y5 y6 y7))
 | 0 => ⟨fun _ _ _ _ _ _ _ r h => by simp [spec_CompareWide.j0] at h,fun _ _ _ _ _ _ _ _ r h => by simp [spec_CompareWide.j1] at h,fun _ _ _ _ _ _ _ _ _ r h => by simp [spec_CompareWide.j2] at h,fun _ _ _ _ _ _ _ _ r h => by simp [spec_CompareWide.j3] at h⟩
 | k + 1 => by
  obtain ⟨ih0,ih1,ih2,ih3⟩ := spec_CompareWide.mono_l k
  refine ⟨?_,?_,?_,?_⟩
  ·intro y0 y1 y2 y3 y4 y5 y6
   unfold spec_CompareWide.j0
   repeat' first
   | (with_reducible exact ih0 _ _ _ _ _ _ _)
   | (with_reducible exact ih1 _ _ _ _ _ _ _ _)
   | (with_reducible exact ih2 _ _ _ _ _ _ _ _ _)
   | (with_reducible exact ih3 _ _ _ _ _ _ _ _)
   | (with_reducible exact spec_l3Order.mono _ _ _ _ _ _ _)
   | (with_reducible exact LeO.refl _)
   | (with_reducible exact LeO.none _)
   | (with_reducible refine LeO.ite ?_ ?_)
   | (with_reducible refine LeO.bind ?_ (fun _ => ?_))
   | exact ih0 _ _ _ _ _ _ _
   | exact ih1 _ _ _ _ _ _ _ _
   | exact ih2 _ _ _ _ _ _ _ _ _
   | exact ih3 _ _ _ _ _ _ _ _
   | exact spec_l3Order.mono _ _ _ _ _ _ _
   | exact LeO.none _
   | refine LeO.ite ?_ ?_
   | refine LeO.bind ?_ (fun _ => ?_)
  ·intro y0 y1 y2 y3 y4 y5 y6 y7
   unfold spec_CompareWide.j1
   repeat' first
   | (with_reducible exact ih0 _ _ _ _ _ _ _)
   | (with_reducible exact ih1 _ _ _ _ _ _ _ _)
   | (with_reducible exact ih2 _ _ _ _ _ _ _ _ _)
   | (with_reducible exact ih3 _ _ _ _ _ _ _ _)
   | (with_reducible exact spec_l3Order.mono _ _ _ _ _ _ _)
   | (with_reducible exact LeO.refl _)
   | (with_reducible exact LeO.none _)
   | (with_reducible refine LeO.ite ?_ ?_)
   | (with_reducible refine LeO.bind ?_ (fun _ => ?_))
   | exact ih0 _ _ _ _ _ _ _
   | exact ih1 _ _ _ _ _ _ _ _
   | exact ih2 _ _ _ _ _ _ _ _ _
   | exact ih3 _ _ _ _ _ _ _ _
   | exact spec_l3Order.mono _ _ _ _ _ _ _
   | exact LeO.none _
   | refine LeO.ite ?_ ?_
   | refine LeO.bind ?_ (fun _ => ?_)
  ·intro y0 y1 y2 y3 y4 y5 y6 y7 y8
   unfold spec_CompareWide.j2
   repeat' first
   | (with_reducible exact ih0 _ _ _ _ _ _ _)
   | (with_reducible exact ih1 _ _ _ _ _ _ _ _)
   | (with_reducible exact ih2 _ _ _ _ _ _ _ _ _)
   | (with_reducible exact ih3 _ _ _ _ _ _ _ _)
   | (with_reducible exact spec_l3Order.mono _ _ _ _ _ _ _)
   | (with_reducible exact LeO.refl _)
   | (with_reducible exact LeO.none _)
   | (with_reducible refine LeO.ite ?_ ?_)
   | (with_reducible refine LeO.bind ?_ (fun _ => ?_))
   | exact ih0 _ _ _ _ _ _ _
   | exact ih1 _ _ _ _ _ _ _ _
   | exact ih2 _ _ _ _ _ _ _ _ _
   | exact ih3 _ _ _ _ _ _ _ _
   | exact spec_l3Order.mono _ _ _ _ _ _ _
   | exact LeO.none _
   | refine LeO.ite ?_ ?_
   | refine LeO.bind ?_ (fun _ => ?_)
  ·intro y0 y1 y2 y3 y4 y5 y6 y7
   unfold spec_CompareWide.j3
   repeat' first
   | (with_reducible exact ih0 _ _ _ _ _ _ _)
   | (with_reducible exact ih1 _ _ _ _ _ _ _ _)
   | (with_reducible exact ih2 _ _ _ _ _ _ _ _ _)
   | (with_reducible exact ih3 _ _ _ _ _ _ _ _)
   | (with_reducible exact spec_l3Order.mono _ _ _ _ _ _ _)
   | (with_reducible exact LeO.refl _)
   | (with_reducible exact LeO.none _)
   | (with_reducible refine LeO.ite ?_ ?_)
   | (with_reducible refine LeO.bind ?_ (fun _ => ?_))
   | exact ih0 _ _ _ _ _ _ _
   | exact ih1 _ _ _ _ _ _ _ _
   | exact ih2 _ _ _ _ _ _ _ _ _
   | exact ih3 _ _ _ _ _ _ _ _
   | exact spec_l3Order.mono _ _ _ _ _ _ _
   | exact LeO.none _
   | refine LeO.ite ?_ ?_
   | refine LeO.bind ?_ (fun _ => ?_)
theorem spec_CompareWide.mono : ∀ a0 a1 a2 a3 a4 a5 k,LeO (spec_CompareWide.f k a0 a1 a2 a3 a4 a5) (spec_CompareWide.f (k + 1) a0 a1 a2 a3 a4 a5) := by
 intro a0 a1 a2 a3 a4 a5 k
 obtain ⟨ih0,ih1,ih2,ih3⟩ := spec_CompareWide.mono_l k
 unfold spec_CompareWide.f
 repeat' first
   | (with_reducible exact ih0 _ _ _ _ _ _ _)
   | (with_reducible exact ih1 _ _ _ _ _ _ _ _)
   | (with_reducible exact ih2 _ _ _ _ _ _ _ _ _)
   | (with_reducible exact ih3 _ _ _ _ _ _ _ _)
   | (with_reducible exact spec_l3Order.mono _ _ _ _ _ _ _)
   | (with_reducible exact LeO.refl _)
   | (with_reducible exact LeO.none _)
   | (with_reducible refine LeO.ite ?_ ?_)
   | (with_reducible refine LeO.bind ?_ (fun _ => ?_))
   | exact ih0 _ _ _ _ _ _ _
   | exact ih1 _ _ _ _ _ _ _ _
   | exact ih2 _ _ _ _ _ _ _ _ _
   | exact ih3 _ _ _ _ _ _ _ _
   | exact spec_l3Order.mono _ _ _ _ _ _ _
   | exact LeO.none _
   | refine LeO.ite ?_ ?_
   | refine LeO.bind ?_ (fun _ => ?_)
set_option maxHeartbeats 8000000 in
set_option maxRecDepth 100000 in
theorem spec_CompareWide.calls (k : Nat) (a0_0 : Bool) (a0_1 : Int) (a0_2 : Int) (a1_0 : Bool) (a1_1 : Int) (a1_2 : Int) (r : Int) (w : World) (h : spec_CompareWide.f k a0_0 a0_1 a0_2 a1_0 a1_1 a1_2 = some r) :
  Calls Try.prog 32 #[.agg #[.bool a0_0,.int .u64 a0_1,.int .u64 a0_2],.agg #[.bool a1_0,.int .u64 a1_1,.int .u64 a1_2]] w fun e w' => e = .returned (.int .i64 r) ∧ Below w.heap.size w w' := by
 have hu39 := Try.underlying39
 have HB := Aside0.mk (Below.refl w.heap.size w)
 have H := h
 clear h
 unfold spec_CompareWide.f at H
 have HC3 := Aside0.mk H
 clear H
 go_enter Try.func32,Try.ntmps32
 go_upto_region 1 with (first | ((with_reducible refine gate_dst (N := 2) rfl ?_);refine bE 2 #[.bool a0_0,.int .u64 a0_1,.int .u64 a0_2] 39 (h := ?_);intro gb669 hg w4 hbox hb;have n_ := jA (below_step Z574 hb) (jA (hbox) (jA ((Z405 : w.heap.size ≤ gb669)) (Aside0.mk ((Z405 : w.heap.size ≤ gb669)))));clear HB;obtain ⟨HB,BK669,GW669,GE669⟩ := n_;clear hb hbox hg) | ((with_reducible refine gate_dst (N := 3) rfl ?_);refine bE 3 #[.bool a1_0,.int .u64 a1_1,.int .u64 a1_2] 39 (h := ?_);intro gb670 hg w5 hbox hb;have n_ := jA (blk_below (g := gb669) (o := .cells #[.bool a0_0,.int .u64 a0_1,.int .u64 a0_2] 39 (0,0)) Z492 hb) (jA (below_step Z433 hb) (jA (hbox) (jA ((Z210 : w.heap.size ≤ gb670)) (jA ((Z210 : w.heap.size ≤ gb670)) (jA ((by rw [hg];exact Nat.ne_of_lt (blk_lt (g := gb669) (o := .cells #[.bool a0_0,.int .u64 a0_1,.int .u64 a0_2] 39 (0,0)) Z492) : gb669 ≠ gb670)) (Aside0.mk ((by rw [hg];exact Nat.ne_of_gt (blk_lt (g := gb669) (o := .cells #[.bool a0_0,.int .u64 a0_1,.int .u64 a0_2] 39 (0,0)) Z492) : gb670 ≠ gb669))))))));clear BK669 HB;obtain ⟨BK669,HB,BK670,GW670,GE670,NB669_670,NB670_669⟩ := n_;clear hb hbox hg))
 (try simp only [Act.put,List.setIfInBounds_toArray,List.set_cons_zero,List.set_cons_succ])
 go_cut [5] (fun v5 wc => ∃ (kq : Nat) (x5_2 : Bool),v5 = .bool x5_2 ∧ Aside0 (spec_CompareWide.j0 kq x5_2 a0_0 a0_1 a0_2 a1_0 a1_1 a1_2 = some r) ∧ Aside0 (kq ≤ k) ∧ Aside0 (wc.heap[gb669]? = some (.cells #[.bool a0_0,.int .u64 a0_1,.int .u64 a0_2] 39 (0,0))) ∧ Aside0 (wc.heap[gb670]? = some (.cells #[.bool a1_0,.int .u64 a1_1,.int .u64 a1_2] 39 (0,0))) ∧ Aside0 (Below w.heap.size w wc))
 case first =>
  have H := HC3.out
  clear HC3
  by_cases c6 : a0_0 = true
  rotate_left
  ·replace c6 := Bool.eq_false_iff.mpr c6
   subst c6
   rw [if_neg Bool.false_ne_true] at H
   have H' := Aside0.mk H
   clear H
   have hnb11 := NB669_670.out
   have hnc11 := NB670_669.out
   obtain ⟨hcz12_0,hcz12_1,hcz12_2,hfz12_0,hfz12_1,hfz12_2⟩ := cells3 BK669.out
   go_wp2
   go_meet
   case rel => exact ⟨_,(false),Z294,H',⟨Z296⟩,⟨Z492⟩,⟨Z493⟩,⟨Z370⟩⟩
  subst c6
  rw [if_pos rfl] at H
  obtain ⟨t671,A70,H⟩ := Option.bind_eq_some_iff.mp H
  have A7 := Aside0.mk A70
  clear A70
  have H' := Aside0.mk H
  clear H
  have hnb8 := NB669_670.out
  have hnc8 := NB670_669.out
  obtain ⟨hcz9_0,hcz9_1,hcz9_2,hfz9_0,hfz9_1,hfz9_2⟩ := cells3 BK669.out
  go_wp2_with (first | (go_at_call 51;(with_reducible refine (spec_l3Zero.calls true a0_1 a0_2 t671 _ A7.out).mono ?_);rintro e w10 ⟨rfl,hb⟩;have n_ := jA (blk_below (g := gb669) (o := .cells #[.bool true,.int .u64 a0_1,.int .u64 a0_2] 39 (0,0)) Z492 hb) (jA (blk_below (g := gb670) (o := .cells #[.bool a1_0,.int .u64 a1_1,.int .u64 a1_2] 39 (0,0)) Z493 hb) (Aside0.mk (below_step Z370 hb)));clear BK669 BK670 HB;obtain ⟨BK669,BK670,HB⟩ := n_;(try clear hb);(try clear hb2);(try clear hk);(try clear hi)))
  go_meet
  case rel => exact ⟨_,(!t671),Z294,H',⟨Z296⟩,⟨Z492⟩,⟨Z493⟩,⟨Z370⟩⟩
 case rest =>
  clear HC3
  try clear c1
  try clear p2
  try clear c3
  try clear c6
  try clear c8
  try clear c11
  try clear hcz12_0
  try clear hcz12_1
  try clear hcz12_2
  try clear hcz9_0
  try clear hcz9_1
  try clear hcz9_2
  try clear hfz12_0
  try clear hfz12_1
  try clear hfz12_2
  try clear hfz9_0
  try clear hfz9_1
  try clear hfz9_2
  obtain ⟨kq,x5_2,rfl,HA,HJ2,BK669,BK670,HB⟩ := hcut
  cases kq with
  | zero => exact absurd HA.out (by simp [spec_CompareWide.j0])
  | succ kj2 =>
   have H := HA.out
   clear HA
   simp only [spec_CompareWide.j0] at H
   have HC13 := Aside0.mk H
   clear H
   go_upto_region 2 with (fail)
   go_cut [6] (fun v6 wc => ∃ (kq : Nat) (x6_12 : Bool),v6 = .bool x6_12 ∧ Aside0 (spec_CompareWide.j1 kq x5_2 x6_12 a0_0 a0_1 a0_2 a1_0 a1_1 a1_2 = some r) ∧ Aside0 (kq ≤ kj2) ∧ Aside0 (wc.heap[gb669]? = some (.cells #[.bool a0_0,.int .u64 a0_1,.int .u64 a0_2] 39 (0,0))) ∧ Aside0 (wc.heap[gb670]? = some (.cells #[.bool a1_0,.int .u64 a1_1,.int .u64 a1_2] 39 (0,0))) ∧ Aside0 (Below w.heap.size w wc))
   case first =>
    have H := HC13.out
    clear HC13
    by_cases c14 : a1_0 = true
    rotate_left
    ·replace c14 := Bool.eq_false_iff.mpr c14
     subst c14
     rw [if_neg Bool.false_ne_true] at H
     have H' := Aside0.mk H
     clear H
     have hnb19 := NB670_669.out
     have hnc19 := NB669_670.out
     obtain ⟨hcz20_0,hcz20_1,hcz20_2,hfz20_0,hfz20_1,hfz20_2⟩ := cells3 BK670.out
     go_wp2
     go_meet
     case rel => exact ⟨_,(false),Z294,H',⟨Z291⟩,⟨Z492⟩,⟨Z493⟩,⟨Z370⟩⟩
    subst c14
    rw [if_pos rfl] at H
    obtain ⟨t672,A150,H⟩ := Option.bind_eq_some_iff.mp H
    have A15 := Aside0.mk A150
    clear A150
    have H' := Aside0.mk H
    clear H
    have hnb16 := NB670_669.out
    have hnc16 := NB669_670.out
    obtain ⟨hcz17_0,hcz17_1,hcz17_2,hfz17_0,hfz17_1,hfz17_2⟩ := cells3 BK670.out
    go_wp2_with (first | (go_at_call 51;(with_reducible refine (spec_l3Zero.calls true a1_1 a1_2 t672 _ A15.out).mono ?_);rintro e w18 ⟨rfl,hb⟩;have n_ := jA (blk_below (g := gb669) (o := .cells #[.bool a0_0,.int .u64 a0_1,.int .u64 a0_2] 39 (0,0)) Z492 hb) (jA (blk_below (g := gb670) (o := .cells #[.bool true,.int .u64 a1_1,.int .u64 a1_2] 39 (0,0)) Z493 hb) (Aside0.mk (below_step Z370 hb)));clear BK669 BK670 HB;obtain ⟨BK669,BK670,HB⟩ := n_;(try clear hb);(try clear hb2);(try clear hk);(try clear hi)))
    go_meet
    case rel => exact ⟨_,(!t672),Z294,H',⟨Z291⟩,⟨Z492⟩,⟨Z493⟩,⟨Z370⟩⟩
   case rest =>
    clear HC13
    try clear c1
    try clear p2
    try clear c3
    try clear c6
    try clear c8
    try clear c11
    try clear c14
    try clear c16
    try clear c19
    try clear hcz12_0
    try clear hcz12_1
    try clear hcz12_2
    try clear hcz17_0
    try clear hcz17_1
    try clear hcz17_2
    try clear hcz20_0
    try clear hcz20_1
    try clear hcz20_2
    try clear hcz9_0
    try clear hcz9_1
    try clear hcz9_2
    try clear hfz12_0
    try clear hfz12_1
    try clear hfz12_2
    try clear hfz17_0
    try clear hfz17_1
    try clear hfz17_2
    try clear hfz20_0
    try clear hfz20_1
    try clear hfz20_2
    try clear hfz9_0
    try clear hfz9_1
    try clear hfz9_2
    try clear p2
    obtain ⟨kq,x6_12,rfl,HA,HJ12,BK669,BK670,HB⟩ := hcut
    cases kq with
    | zero => exact absurd HA.out (by simp [spec_CompareWide.j1])
    | succ kj12 =>
     have H := HA.out
     clear HA
     simp only [spec_CompareWide.j1] at H
     have HC21 := Aside0.mk H
     clear H
     go_upto_region 3 with (fail)
     go_cut [21] (fun v21 wc => ∃ (kq : Nat) (x21_20 : Bool),v21 = .bool x21_20 ∧ Aside0 (spec_CompareWide.j2 kq x5_2 x6_12 x21_20 a0_0 a0_1 a0_2 a1_0 a1_1 a1_2 = some r) ∧ Aside0 (kq ≤ kj12) ∧ Aside0 (wc.heap[gb669]? = some (.cells #[.bool a0_0,.int .u64 a0_1,.int .u64 a0_2] 39 (0,0))) ∧ Aside0 (wc.heap[gb670]? = some (.cells #[.bool a1_0,.int .u64 a1_1,.int .u64 a1_2] 39 (0,0))) ∧ Aside0 (Below w.heap.size w wc))
     case first =>
      have H := HC21.out
      clear HC21
      by_cases c22 : x5_2 = true
      ·subst c22
       rw [if_pos rfl] at H
       have H' := Aside0.mk H
       clear H
       go_wp2
       go_meet
       case rel => exact ⟨_,(!x6_12),Z294,H',⟨Z269⟩,⟨Z492⟩,⟨Z493⟩,⟨Z370⟩⟩
      replace c22 := Bool.eq_false_iff.mpr c22
      subst c22
      rw [if_neg Bool.false_ne_true] at H
      have H' := Aside0.mk H
      clear H
      go_wp2
      go_meet
      case rel => exact ⟨_,(false),Z294,H',⟨Z269⟩,⟨Z492⟩,⟨Z493⟩,⟨Z370⟩⟩
     case rest =>
      clear HC21
      try clear c1
      try clear c2
      try clear p2
      try clear c3
      try clear c6
      try clear c8
      try clear c11
      try clear c14
      try clear c16
      try clear c19
      try clear c22
      try clear hcz12_0
      try clear hcz12_1
      try clear hcz12_2
      try clear hcz17_0
      try clear hcz17_1
      try clear hcz17_2
      try clear hcz20_0
      try clear hcz20_1
      try clear hcz20_2
      try clear hcz9_0
      try clear hcz9_1
      try clear hcz9_2
      try clear hfz12_0
      try clear hfz12_1
      try clear hfz12_2
      try clear hfz17_0
      try clear hfz17_1
      try clear hfz17_2
      try clear hfz20_0
      try clear hfz20_1
      try clear hfz20_2
      try clear hfz9_0
      try clear hfz9_1
      try clear hfz9_2
      try clear p2
      obtain ⟨kq,x21_20,rfl,HA,HJ20,BK669,BK670,HB⟩ := hcut
      cases kq with
      | zero => exact absurd HA.out (by simp [spec_CompareWide.j2])
      | succ kj20 =>
       have H := HA.out
       clear HA
       simp only [spec_CompareWide.j2] at H
       by_cases c23 : x21_20 = true
       ·subst c23
        rw [if_pos rfl] at H
        obtain rfl := Option.some.inj H
        go_wp2
        go_ret
        exact ⟨Z265,Z370⟩
       replace c23 := Bool.eq_false_iff.mpr c23
       subst c23
       rw [if_neg Bool.false_ne_true] at H
       have HC24 := Aside0.mk H
       clear H
       go_upto_region 5 with (fail)
       go_cut [27] (fun v27 wc => ∃ (kq : Nat) (x27_23 : Bool),v27 = .bool x27_23 ∧ Aside0 (spec_CompareWide.j3 kq x5_2 x27_23 a0_0 a0_1 a0_2 a1_0 a1_1 a1_2 = some r) ∧ Aside0 (kq ≤ kj20) ∧ Aside0 (wc.heap[gb669]? = some (.cells #[.bool a0_0,.int .u64 a0_1,.int .u64 a0_2] 39 (0,0))) ∧ Aside0 (wc.heap[gb670]? = some (.cells #[.bool a1_0,.int .u64 a1_1,.int .u64 a1_2] 39 (0,0))) ∧ Aside0 (Below w.heap.size w wc))
       case first =>
        have H := HC24.out
        clear HC24
        by_cases c25 : x6_12 = true
        ·subst c25
         rw [if_pos rfl] at H
         have H' := Aside0.mk H
         clear H
         go_wp2
         go_meet
         case rel => exact ⟨_,(!x5_2),Z294,H',⟨Z268⟩,⟨Z492⟩,⟨Z493⟩,⟨Z370⟩⟩
        replace c25 := Bool.eq_false_iff.mpr c25
        subst c25
        rw [if_neg Bool.false_ne_true] at H
        have H' := Aside0.mk H
        clear H
        go_wp2
        go_meet
        case rel => exact ⟨_,(false),Z294,H',⟨Z268⟩,⟨Z492⟩,⟨Z493⟩,⟨Z370⟩⟩
       case rest =>
        clear HC24
        try clear c1
        try clear c2
        try clear p2
        try clear c3
        try clear c6
        try clear c8
        try clear c11
        try clear c14
        try clear c16
        try clear c19
        try clear c22
        try clear c23
        try clear c25
        try clear hcz12_0
        try clear hcz12_1
        try clear hcz12_2
        try clear hcz17_0
        try clear hcz17_1
        try clear hcz17_2
        try clear hcz20_0
        try clear hcz20_1
        try clear hcz20_2
        try clear hcz9_0
        try clear hcz9_1
        try clear hcz9_2
        try clear hfz12_0
        try clear hfz12_1
        try clear hfz12_2
        try clear hfz17_0
        try clear hfz17_1
        try clear hfz17_2
        try clear hfz20_0
        try clear hfz20_1
        try clear hfz20_2
        try clear hfz9_0
        try clear hfz9_1
        try clear hfz9_2
        try clear p2
        obtain ⟨kq,x27_23,rfl,HA,HJ23,BK669,BK670,HB⟩ := hcut
        cases kq with
        | zero => exact absurd HA.out (by simp [spec_CompareWide.j3])
        | succ kj23 =>
         have H := HA.out
         clear HA
         simp only [spec_CompareWide.j3] at H
         by_cases c26 : x27_23 = true
         ·subst c26
          rw [if_pos rfl] at H
          obtain rfl := Option.some.inj H
          go_wp2
          go_ret
          exact ⟨Z265,Z370⟩
         replace c26 := Bool.eq_false_iff.mpr c26
         subst c26
         rw [if_neg Bool.false_ne_true] at H
         by_cases c27 : x5_2 = true
         ·subst c27
          rw [if_pos rfl] at H
          obtain ⟨t673,A280,H⟩ := Option.bind_eq_some_iff.mp H
          have A28 := Aside0.mk A280
          clear A280
          obtain rfl := Option.some.inj H
          have hnb29 := NB670_669.out
          have hnc29 := NB669_670.out
          obtain ⟨hcz30_0,hcz30_1,hcz30_2,hfz30_0,hfz30_1,hfz30_2⟩ := cells3 BK670.out
          obtain ⟨hcz31_0,hcz31_1,hcz31_2,hfz31_0,hfz31_1,hfz31_2⟩ := cells3 BK669.out
          go_wp2_with (first | ((with_reducible refine gate_callee (f := 52) rfl ?_);refine goesL_ (some 37) rfl rfl Try.func52 Z310 rfl #[.agg #[.bool a1_0,.int .u64 a1_1,.int .u64 a1_2],.agg #[.bool a0_0,.int .u64 a0_1,.int .u64 a0_2]] rfl Z249 ?_;(with_reducible refine (spec_l3Order.calls kj23 a1_0 a1_1 a1_2 a0_0 a0_1 a0_2 t673 _ A28.out).mono ?_);rintro e wq1 ⟨rfl,hb⟩;refine ⟨_,rfl,?_⟩;have n_ := Z125;clear BK669 BK670 HB;obtain ⟨BK669,BK670,HB⟩ := n_;(try clear hb);(try clear hb2);(try clear hk);(try clear hi)))
          go_ret
          exact ⟨Z265,Z370⟩
         replace c27 := Bool.eq_false_iff.mpr c27
         subst c27
         rw [if_neg Bool.false_ne_true] at H
         obtain ⟨t674,A330,H⟩ := Option.bind_eq_some_iff.mp H
         have A33 := Aside0.mk A330
         clear A330
         obtain rfl := Option.some.inj H
         have hnb34 := NB669_670.out
         have hnc34 := NB670_669.out
         obtain ⟨hcz35_0,hcz35_1,hcz35_2,hfz35_0,hfz35_1,hfz35_2⟩ := cells3 BK669.out
         obtain ⟨hcz36_0,hcz36_1,hcz36_2,hfz36_0,hfz36_1,hfz36_2⟩ := cells3 BK670.out
         go_wp2_with (first | ((with_reducible refine gate_callee (f := 52) rfl ?_);refine goesL_ (some 40) rfl rfl Try.func52 Z310 rfl #[.agg #[.bool a0_0,.int .u64 a0_1,.int .u64 a0_2],.agg #[.bool a1_0,.int .u64 a1_1,.int .u64 a1_2]] rfl Z249 ?_;(with_reducible refine (spec_l3Order.calls kj23 a0_0 a0_1 a0_2 a1_0 a1_1 a1_2 t674 _ A33.out).mono ?_);rintro e wq1 ⟨rfl,hb⟩;refine ⟨_,rfl,?_⟩;have n_ := Z125;clear BK669 BK670 HB;obtain ⟨BK669,BK670,HB⟩ := n_;(try clear hb);(try clear hb2);(try clear hk);(try clear hi)))
         go_ret
         exact ⟨Z265,Z370⟩

/-! ### spec_CompareFrac: function 16 -/
def spec_CompareFrac.f (k : Nat) (a0_0 : Bool) (a0_1 : Int) (a0_2 : Int) (a0_3 : Int) (a1_0 : Bool) (a1_1 : Int) (a1_2 : Int) (a1_3 : Int) : Option (Int × Bool) := (spec_l5Cross.f k a0_0 a0_1 a0_2 a0_3 a1_0 a1_1 a1_2 a1_3).bind fun bt677 => (if bt677.2.2.2.2.2.2 = true then ((spec_CompareWide.f k bt677.1 bt677.2.1 bt677.2.2.1 bt677.2.2.2.1 bt677.2.2.2.2.1 bt677.2.2.2.2.2.1).bind fun t686 => (some (t686,true))) else (some (0,false)))
theorem spec_CompareFrac.mono : ∀ a0 a1 a2 a3 a4 a5 a6 a7 k,LeO (spec_CompareFrac.f k a0 a1 a2 a3 a4 a5 a6 a7) (spec_CompareFrac.f (k + 1) a0 a1 a2 a3 a4 a5 a6 a7) := by
 intro a0 a1 a2 a3 a4 a5 a6 a7 k
 unfold spec_CompareFrac.f
 repeat' first
   | (with_reducible exact spec_CompareWide.mono _ _ _ _ _ _ _)
   | (with_reducible exact spec_l5Cross.mono _ _ _ _ _ _ _ _ _)
   | (with_reducible exact LeO.refl _)
   | (with_reducible exact LeO.none _)
   | (with_reducible refine LeO.ite ?_ ?_)
   | (with_reducible refine LeO.bind ?_ (fun _ => ?_))
   | exact spec_CompareWide.mono _ _ _ _ _ _ _
   | exact spec_l5Cross.mono _ _ _ _ _ _ _ _ _
   | exact LeO.none _
   | refine LeO.ite ?_ ?_
   | refine LeO.bind ?_ (fun _ => ?_)
set_option maxHeartbeats 8000000 in
set_option maxRecDepth 100000 in
theorem spec_CompareFrac.calls (k : Nat) (a0_0 : Bool) (a0_1 : Int) (a0_2 : Int) (a0_3 : Int) (a1_0 : Bool) (a1_1 : Int) (a1_2 : Int) (a1_3 : Int) (r1 : Int) (r2 : Bool) (w : World) (h : spec_CompareFrac.f k a0_0 a0_1 a0_2 a0_3 a1_0 a1_1 a1_2 a1_3 = some (r1,r2)) :
  Calls Try.prog 16 #[.agg #[.bool a0_0,.int .u64 a0_1,.int .u64 a0_2,.int .i64 a0_3],.agg #[.bool a1_0,.int .u64 a1_1,.int .u64 a1_2,.int .i64 a1_3]] w fun e w' => e = .returned (.tuple #[.int .i64 r1,.bool r2]) ∧ Below w.heap.size w w' := by
 have hu41 := Try.underlying41
 have hu39 := Try.underlying39
 have HB := Aside0.mk (Below.refl w.heap.size w)
 have H := h
 clear h
 unfold spec_CompareFrac.f at H
 obtain ⟨⟨t677,t678,t679,t680,t681,t682,t683⟩,A30,H⟩ := Option.bind_eq_some_iff.mp H
 try dsimp only at H
 have A3 := Aside0.mk A30
 clear A30
 by_cases c4 : t683 = true
 rotate_left
 ·replace c4 := Bool.eq_false_iff.mpr c4
  subst c4
  rw [if_neg Bool.false_ne_true] at H
  simp only [Option.some.injEq,Prod.mk.injEq] at H
  obtain ⟨rfl,rfl⟩ := H
  go_enter Try.func16,Try.ntmps16
  go_wp2_with (first | ((with_reducible refine gate_dst (N := 2) rfl ?_);refine bE 2 #[.bool a0_0,.int .u64 a0_1,.int .u64 a0_2,.int .i64 a0_3] 41 (h := ?_);intro gb675 hg wq1 hbox hb;have n_ := Z112;clear HB;obtain ⟨HB,BK675,GW675,GE675⟩ := n_;clear hb hbox hg) | ((with_reducible refine gate_dst (N := 3) rfl ?_);refine bE 3 #[.bool a1_0,.int .u64 a1_1,.int .u64 a1_2,.int .i64 a1_3] 41 (h := ?_);intro gb676 hg wq2 hbox hb;have n_ := Z60;clear BK675 HB;obtain ⟨BK675,HB,BK676,GW676,GE676,NB675_676,NB676_675⟩ := n_;clear hb hbox hg;have hnbq3 := NB675_676.out;have hncq3 := NB676_675.out;obtain ⟨hczq4_0,hczq4_1,hczq4_2,hczq4_3,hfzq4_0,hfzq4_1,hfzq4_2,hfzq4_3⟩ := cells4 BK675.out;obtain ⟨hczq5_0,hczq5_1,hczq5_2,hczq5_3,hfzq5_0,hfzq5_1,hfzq5_2,hfzq5_3⟩ := cells4 BK676.out) | ((with_reducible refine gate_callee (f := 31) rfl ?_);refine goesL_ (some 12) rfl rfl Try.func31 Z310 rfl #[.agg #[.bool a0_0,.int .u64 a0_1,.int .u64 a0_2,.int .i64 a0_3],.agg #[.bool a1_0,.int .u64 a1_1,.int .u64 a1_2,.int .i64 a1_3]] rfl Z249 ?_;(with_reducible refine (spec_l5Cross.calls k a0_0 a0_1 a0_2 a0_3 a1_0 a1_1 a1_2 a1_3 t677 t678 t679 t680 t681 t682 false _ A3.out).mono ?_);rintro e wq6 ⟨rfl,hb⟩;refine ⟨_,rfl,?_⟩;have n_ := Z123;clear BK675 BK676 HB;obtain ⟨BK675,BK676,HB⟩ := n_;(try clear hb);(try clear hb2);(try clear hk);(try clear hi)) | ((with_reducible refine gate_dst (N := 6) rfl ?_);refine bE 6 #[.bool false,.int .u64 0,.int .u64 0] 39 (h := ?_);intro gb684 hg wq7 hbox hb;have n_ := Z34;clear BK675 BK676 HB;obtain ⟨BK675,BK676,HB,BK684,GW684,GE684,NB675_684,NB684_675,NB676_684,NB684_676⟩ := n_;clear hb hbox hg) | ((with_reducible refine gate_dst (N := 7) rfl ?_);refine bE 7 #[.bool false,.int .u64 0,.int .u64 0] 39 (h := ?_);intro gb685 hg wq8 hbox hb;have n_ := Z22;clear BK675 BK676 BK684 HB;obtain ⟨BK675,BK676,BK684,HB,BK685,GW685,GE685,NB675_685,NB685_675,NB676_685,NB685_676,NB684_685,NB685_684⟩ := n_;clear hb hbox hg;have hnbq9 := NB684_675.out;have hncq9 := NB675_684.out;have hnbq10 := NB684_676.out;have hncq10 := NB676_684.out;have hnbq11 := NB684_685.out;have hncq11 := NB685_684.out;obtain ⟨hczq12_0,hczq12_1,hczq12_2,hfzq12_0,hfzq12_1,hfzq12_2⟩ := cells3 BK684.out;have hnbq13 := NB685_675.out;have hncq13 := NB675_685.out;have hnbq14 := NB685_676.out;have hncq14 := NB676_685.out;obtain ⟨hczq15_0,hczq15_1,hczq15_2,hfzq15_0,hfzq15_1,hfzq15_2⟩ := cells3 BK685.out))
  go_ret2
  exact ⟨Z265,Z169⟩
 subst c4
 rw [if_pos rfl] at H
 obtain ⟨t686,A50,H⟩ := Option.bind_eq_some_iff.mp H
 have A5 := Aside0.mk A50
 clear A50
 simp only [Option.some.injEq,Prod.mk.injEq] at H
 obtain ⟨rfl,rfl⟩ := H
 go_enter Try.func16,Try.ntmps16
 go_wp2_with (first | ((with_reducible refine gate_dst (N := 2) rfl ?_);refine bE 2 #[.bool a0_0,.int .u64 a0_1,.int .u64 a0_2,.int .i64 a0_3] 41 (h := ?_);intro gb675 hg wq1 hbox hb;have n_ := Z112;clear HB;obtain ⟨HB,BK675,GW675,GE675⟩ := n_;clear hb hbox hg) | ((with_reducible refine gate_dst (N := 3) rfl ?_);refine bE 3 #[.bool a1_0,.int .u64 a1_1,.int .u64 a1_2,.int .i64 a1_3] 41 (h := ?_);intro gb676 hg wq2 hbox hb;have n_ := Z60;clear BK675 HB;obtain ⟨BK675,HB,BK676,GW676,GE676,NB675_676,NB676_675⟩ := n_;clear hb hbox hg;have hnbq3 := NB675_676.out;have hncq3 := NB676_675.out;obtain ⟨hczq4_0,hczq4_1,hczq4_2,hczq4_3,hfzq4_0,hfzq4_1,hfzq4_2,hfzq4_3⟩ := cells4 BK675.out;obtain ⟨hczq5_0,hczq5_1,hczq5_2,hczq5_3,hfzq5_0,hfzq5_1,hfzq5_2,hfzq5_3⟩ := cells4 BK676.out) | ((with_reducible refine gate_callee (f := 31) rfl ?_);refine goesL_ (some 12) rfl rfl Try.func31 Z310 rfl #[.agg #[.bool a0_0,.int .u64 a0_1,.int .u64 a0_2,.int .i64 a0_3],.agg #[.bool a1_0,.int .u64 a1_1,.int .u64 a1_2,.int .i64 a1_3]] rfl Z249 ?_;(with_reducible refine (spec_l5Cross.calls k a0_0 a0_1 a0_2 a0_3 a1_0 a1_1 a1_2 a1_3 t677 t678 t679 t680 t681 t682 true _ A3.out).mono ?_);rintro e wq6 ⟨rfl,hb⟩;refine ⟨_,rfl,?_⟩;have n_ := Z123;clear BK675 BK676 HB;obtain ⟨BK675,BK676,HB⟩ := n_;(try clear hb);(try clear hb2);(try clear hk);(try clear hi)) | ((with_reducible refine gate_dst (N := 6) rfl ?_);refine bE 6 #[.bool false,.int .u64 0,.int .u64 0] 39 (h := ?_);intro gb684 hg wq7 hbox hb;have n_ := Z34;clear BK675 BK676 HB;obtain ⟨BK675,BK676,HB,BK684,GW684,GE684,NB675_684,NB684_675,NB676_684,NB684_676⟩ := n_;clear hb hbox hg) | ((with_reducible refine gate_dst (N := 7) rfl ?_);refine bE 7 #[.bool false,.int .u64 0,.int .u64 0] 39 (h := ?_);intro gb685 hg wq8 hbox hb;have n_ := Z22;clear BK675 BK676 BK684 HB;obtain ⟨BK675,BK676,BK684,HB,BK685,GW685,GE685,NB675_685,NB685_675,NB676_685,NB685_676,NB684_685,NB685_684⟩ := n_;clear hb hbox hg;have hnbq9 := NB684_675.out;have hncq9 := NB675_684.out;have hnbq10 := NB684_676.out;have hncq10 := NB676_684.out;have hnbq11 := NB684_685.out;have hncq11 := NB685_684.out;obtain ⟨hczq12_0,hczq12_1,hczq12_2,hfzq12_0,hfzq12_1,hfzq12_2⟩ := cells3 BK684.out;have hnbq13 := NB685_675.out;have hncq13 := NB675_685.out;have hnbq14 := NB685_676.out;have hncq14 := NB676_685.out;obtain ⟨hczq15_0,hczq15_1,hczq15_2,hfzq15_0,hfzq15_1,hfzq15_2⟩ := cells3 BK685.out) | ((with_reducible refine gate_callee (f := 32) rfl ?_);refine goesL_ (some 20) rfl rfl Try.func32 Z310 rfl #[.agg #[.bool t677,.int .u64 t678,.int .u64 t679],.agg #[.bool t680,.int .u64 t681,.int .u64 t682]] rfl Z249 ?_;(with_reducible refine (spec_CompareWide.calls k t677 t678 t679 t680 t681 t682 t686 _ A5.out).mono ?_);rintro e wq16 ⟨rfl,hb⟩;refine ⟨_,rfl,?_⟩;have n_ := jA (blk_below (g := gb675) (o := .cells #[.bool a0_0,.int .u64 a0_1,.int .u64 a0_2,.int .i64 a0_3] 41 (0,0)) (by refine bP ?_;refine blk_far ?_ NB675_685.out _;refine bP ?_;refine blk_far ?_ NB675_685.out _;refine bP ?_;refine blk_far ?_ NB675_685.out _;refine bP ?_;refine blk_far ?_ NB675_684.out _;refine bP ?_;refine blk_far ?_ NB675_684.out _;refine bP ?_;refine blk_far ?_ NB675_684.out _;refine bP ?_;exact BK675.out) hb) (jA (blk_below (g := gb676) (o := .cells #[.bool a1_0,.int .u64 a1_1,.int .u64 a1_2,.int .i64 a1_3] 41 (0,0)) (by refine bP ?_;refine blk_far ?_ NB676_685.out _;refine bP ?_;refine blk_far ?_ NB676_685.out _;refine bP ?_;refine blk_far ?_ NB676_685.out _;refine bP ?_;refine blk_far ?_ NB676_684.out _;refine bP ?_;refine blk_far ?_ NB676_684.out _;refine bP ?_;refine blk_far ?_ NB676_684.out _;refine bP ?_;exact BK676.out) hb) (jA (blk_below (g := gb684) (o := .cells #[.bool t677,.int .u64 t678,.int .u64 t679] 39 (0,0)) (by refine bP ?_;refine blk_far ?_ NB684_685.out _;refine bP ?_;refine blk_far ?_ NB684_685.out _;refine bP ?_;refine blk_far ?_ NB684_685.out _;refine bP ?_;refine blk_put (cs := #[.bool t677,.int .u64 t678,.int .u64 0]) ?_ 2 _ rfl;refine bP ?_;refine blk_put (cs := #[.bool t677,.int .u64 0,.int .u64 0]) ?_ 1 _ rfl;refine bP ?_;refine blk_put (cs := #[.bool false,.int .u64 0,.int .u64 0]) ?_ 0 _ rfl;refine bP ?_;exact BK684.out) hb) (jA (blk_below (g := gb685) (o := .cells #[.bool t680,.int .u64 t681,.int .u64 t682] 39 (0,0)) (by refine bP ?_;refine blk_put (cs := #[.bool t680,.int .u64 t681,.int .u64 0]) ?_ 2 _ rfl;refine bP ?_;refine blk_put (cs := #[.bool t680,.int .u64 0,.int .u64 0]) ?_ 1 _ rfl;refine bP ?_;refine blk_put (cs := #[.bool false,.int .u64 0,.int .u64 0]) ?_ 0 _ rfl;refine bP ?_;refine blk_far ?_ NB685_684.out _;refine bP ?_;refine blk_far ?_ NB685_684.out _;refine bP ?_;refine blk_far ?_ NB685_684.out _;refine bP ?_;exact BK685.out) hb) (Aside0.mk (below_step Z169 hb)))));clear BK675 BK676 BK684 BK685 HB;obtain ⟨BK675,BK676,BK684,BK685,HB⟩ := n_;(try clear hb);(try clear hb2);(try clear hk);(try clear hi)))
 go_ret2
 exact ⟨Z265,Z169⟩

/-! ### spec_CandLess: function 17 -/
def spec_CandLess.f (a0_0 : Int) (a0_1 : Int) (a0_2 : Int) (a0_3 : Int) (a0_4 : Int) (a0_5 : Int) (a1_0 : Int) (a1_1 : Int) (a1_2 : Int) (a1_3 : Int) (a1_4 : Int) (a1_5 : Int) : Option (Bool) := if a0_0 < a1_0 then (some true) else (if a0_0 = a1_0 then (some (decide (a0_1 < a1_1))) else (some false))
set_option maxHeartbeats 8000000 in
set_option maxRecDepth 100000 in
theorem spec_CandLess.calls (a0_0 : Int) (a0_1 : Int) (a0_2 : Int) (a0_3 : Int) (a0_4 : Int) (a0_5 : Int) (a1_0 : Int) (a1_1 : Int) (a1_2 : Int) (a1_3 : Int) (a1_4 : Int) (a1_5 : Int) (r : Bool) (w : World) (h : spec_CandLess.f a0_0 a0_1 a0_2 a0_3 a0_4 a0_5 a1_0 a1_1 a1_2 a1_3 a1_4 a1_5 = some r) :
  Calls Try.prog 17 #[.agg #[.int .i64 a0_0,.int .i64 a0_1,.int .i64 a0_2,.int .i64 a0_3,.int .i64 a0_4,.int .i64 a0_5],.agg #[.int .i64 a1_0,.int .i64 a1_1,.int .i64 a1_2,.int .i64 a1_3,.int .i64 a1_4,.int .i64 a1_5]] w fun e w' => e = .returned (.bool r) ∧ Below w.heap.size w w' := by
 have hu27 := Try.underlying27
 have HB := Aside0.mk (Below.refl w.heap.size w)
 have H := h
 clear h
 unfold spec_CandLess.f at H
 by_cases c3 : a0_0 < a1_0
 ·rw [if_pos c3] at H
  have c3b0 : decide (a0_0 < a1_0) = true := decide_eq_true c3
  clear c3
  obtain rfl := Option.some.inj H
  go_enter Try.func17,Try.ntmps17
  go_wp2_with (first | ((with_reducible refine gate_dst (N := 2) rfl ?_);refine bE 2 #[.int .i64 a0_0,.int .i64 a0_1,.int .i64 a0_2,.int .i64 a0_3,.int .i64 a0_4,.int .i64 a0_5] 27 (h := ?_);intro gb687 hg wq1 hbox hb;have n_ := Z103;clear HB;obtain ⟨HB,BK687,GW687,GE687⟩ := n_;clear hb hbox hg) | ((with_reducible refine gate_dst (N := 3) rfl ?_);refine bE 3 #[.int .i64 a1_0,.int .i64 a1_1,.int .i64 a1_2,.int .i64 a1_3,.int .i64 a1_4,.int .i64 a1_5] 27 (h := ?_);intro gb688 hg wq2 hbox hb;have n_ := Z53;clear BK687 HB;obtain ⟨BK687,HB,BK688,GW688,GE688,NB687_688,NB688_687⟩ := n_;clear hb hbox hg;have hnbq3 := NB687_688.out;have hncq3 := NB688_687.out;obtain ⟨hczq4_0,hczq4_1,hczq4_2,hczq4_3,hczq4_4,hczq4_5,hfzq4_0,hfzq4_1,hfzq4_2,hfzq4_3,hfzq4_4,hfzq4_5⟩ := cells6 BK687.out;obtain ⟨hczq5_0,hczq5_1,hczq5_2,hczq5_3,hczq5_4,hczq5_5,hfzq5_0,hfzq5_1,hfzq5_2,hfzq5_3,hfzq5_4,hfzq5_5⟩ := cells6 BK688.out))
  go_ret
  exact ⟨Z265,Z208⟩
 rw [if_neg c3] at H
 have c3b0 : decide (a0_0 < a1_0) = false := decide_eq_false c3
 clear c3
 by_cases c9 : a0_0 = a1_0
 rotate_left
 ·rw [if_neg c9] at H
  have c9b0 : (a0_0 == a1_0) = false := beq_eq_false_iff_ne.mpr c9
  have c9b1 : (a0_0 != a1_0) = true := bne_iff_ne.mpr c9
  obtain rfl := Option.some.inj H
  go_enter Try.func17,Try.ntmps17
  go_wp2_with (first | ((with_reducible refine gate_dst (N := 2) rfl ?_);refine bE 2 #[.int .i64 a0_0,.int .i64 a0_1,.int .i64 a0_2,.int .i64 a0_3,.int .i64 a0_4,.int .i64 a0_5] 27 (h := ?_);intro gb687 hg wq1 hbox hb;have n_ := Z103;clear HB;obtain ⟨HB,BK687,GW687,GE687⟩ := n_;clear hb hbox hg) | ((with_reducible refine gate_dst (N := 3) rfl ?_);refine bE 3 #[.int .i64 a1_0,.int .i64 a1_1,.int .i64 a1_2,.int .i64 a1_3,.int .i64 a1_4,.int .i64 a1_5] 27 (h := ?_);intro gb688 hg wq2 hbox hb;have n_ := Z53;clear BK687 HB;obtain ⟨BK687,HB,BK688,GW688,GE688,NB687_688,NB688_687⟩ := n_;clear hb hbox hg;have hnbq3 := NB687_688.out;have hncq3 := NB688_687.out;obtain ⟨hczq4_0,hczq4_1,hczq4_2,hczq4_3,hczq4_4,hczq4_5,hfzq4_0,hfzq4_1,hfzq4_2,hfzq4_3,hfzq4_4,hfzq4_5⟩ := cells6 BK687.out;obtain ⟨hczq5_0,hczq5_1,hczq5_2,hczq5_3,hczq5_4,hczq5_5,hfzq5_0,hfzq5_1,hfzq5_2,hfzq5_3,hfzq5_4,hfzq5_5⟩ := cells6 BK688.out))
  go_ret
  exact ⟨Z265,Z208⟩
 rw [if_pos c9] at H
 have c9b0 : (a0_0 == a1_0) = true := beq_iff_eq.mpr c9
 have c9b1 : (a0_0 != a1_0) = false := bne_eq_false_iff_eq.mpr c9
 clear c9
 obtain rfl := Option.some.inj H
 go_enter Try.func17,Try.ntmps17
 go_wp2_with (first | ((with_reducible refine gate_dst (N := 2) rfl ?_);refine bE 2 #[.int .i64 a0_0,.int .i64 a0_1,.int .i64 a0_2,.int .i64 a0_3,.int .i64 a0_4,.int .i64 a0_5] 27 (h := ?_);intro gb687 hg wq1 hbox hb;have n_ := Z103;clear HB;obtain ⟨HB,BK687,GW687,GE687⟩ := n_;clear hb hbox hg) | ((with_reducible refine gate_dst (N := 3) rfl ?_);refine bE 3 #[.int .i64 a1_0,.int .i64 a1_1,.int .i64 a1_2,.int .i64 a1_3,.int .i64 a1_4,.int .i64 a1_5] 27 (h := ?_);intro gb688 hg wq2 hbox hb;have n_ := Z53;clear BK687 HB;obtain ⟨BK687,HB,BK688,GW688,GE688,NB687_688,NB688_687⟩ := n_;clear hb hbox hg;have hnbq3 := NB687_688.out;have hncq3 := NB688_687.out;obtain ⟨hczq4_0,hczq4_1,hczq4_2,hczq4_3,hczq4_4,hczq4_5,hfzq4_0,hfzq4_1,hfzq4_2,hfzq4_3,hfzq4_4,hfzq4_5⟩ := cells6 BK687.out;obtain ⟨hczq5_0,hczq5_1,hczq5_2,hczq5_3,hczq5_4,hczq5_5,hfzq5_0,hfzq5_1,hfzq5_2,hfzq5_3,hfzq5_4,hfzq5_5⟩ := cells6 BK688.out))
 go_ret
 exact ⟨Z265,Z208⟩

end Go.Proofs.Ytlflcgdcegohjaa.QFnBetter
