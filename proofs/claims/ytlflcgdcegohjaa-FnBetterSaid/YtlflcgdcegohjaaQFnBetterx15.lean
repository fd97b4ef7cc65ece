/- The machine side of FnBetter: what each Go function that it reaches comes to. Conditions: none. -/
import Derived.Test.YtlflcgdcegohjaaQFnBetterx0
import Derived.Test.YtlflcgdcegohjaaQFnBetterx1
import Derived.Test.YtlflcgdcegohjaaQFnBetterx6
import Derived.Test.YtlflcgdcegohjaaQFnBetterx10
import Derived.Test.YtlflcgdcegohjaaQFnBetterx14
namespace Go.Proofs.Ytlflcgdcegohjaa.QFnBetter
open Go.RowKit Go.Proofs.YtlflcgdcegohjaaW.PrintWords Go.Proofs.YtlflcgdcegohjaaW.PrintLast Go.Proofs.YtlflcgdcegohjaaW.PrintMore
attribute [local go_sem] max2_int min2_int max_two min_two max_three min_three max_four min_four   -- for this text's walks alone
set_option linter.unusedVariables false
set_option linter.unusedSimpArgs false

/-! ### spec_Better: function 7 -/
def spec_Better.j0 : Nat → Bool → Int → Int → Int → Int → Int → Int → Int → Int → Int → Int → Int → Int → Bool → Int → Int → Int → Bool → Int → Int → Int → Option (Bool)
 | 0,_,_,_,_,_,_,_,_,_,_,_,_,_,_,_,_,_,_,_,_,_ => none
 | k + 1,x30,x690000,x690001,x690002,x690003,x690004,x690005,x691000,x691001,x691002,x691003,x691004,x691005,x697000,x697001,x697002,x697003,x703000,x703001,x703002,x703003 => if x30 = true then (some false) else ((spec_CompareFrac.f k x697000 x697001 x697002 x697003 x703000 x703001 x703002 x703003).bind fun bt703 => (if bt703.2 = true then (if bt703.1 > 0 then (some true) else (if bt703.1 = 0 then ((spec_CandLess.f x690000 x690001 x690002 x690003 x690004 x690005 x691000 x691001 x691002 x691003 x691004 x691005).bind fun t705 => (some t705)) else (some false))) else (some false)))
def spec_Better.f (k : Nat) (a0_0 : Int) (a0_1 : Int) (a0_2 : Int) (a0_3 : Int) (a0_4 : Int) (a0_5 : Int) (a1_0 : Int) (a1_1 : Int) (a1_2 : Int) (a1_3 : Int) (a1_4 : Int) (a1_5 : Int) (a2 : Int) : Option (Bool) := (spec_GainOf.f k a0_0 a0_1 a0_2 a0_3 a0_4 a0_5 a2).bind fun bt691 => ((spec_GainOf.f k a1_0 a1_1 a1_2 a1_3 a1_4 a1_5 a2).bind fun bt697 => (if bt691.2.2.2.2 = true then (spec_Better.j0 k (!bt697.2.2.2.2) a0_0 a0_1 a0_2 a0_3 a0_4 a0_5 a1_0 a1_1 a1_2 a1_3 a1_4 a1_5 bt691.1 bt691.2.1 bt691.2.2.1 bt691.2.2.2.1 bt697.1 bt697.2.1 bt697.2.2.1 bt697.2.2.2.1) else (spec_Better.j0 k true a0_0 a0_1 a0_2 a0_3 a0_4 a0_5 a1_0 a1_1 a1_2 a1_3 a1_4 a1_5 bt691.1 bt691.2.1 bt691.2.2.1 bt691.2.2.2.1 bt697.1 bt697.2.1 bt697.2.2.1 bt697.2.2.2.1)))
theorem spec_Better.mono_l : ∀ k,(∀ y0 y1 y2 y3 y4 y5 y6 y7 y8 y9 y10 y11 y12 y13 y14 y15 y16 y17 y18 y19 y20,LeO (spec_Better.j0 k y0 y1 y2 y3 y4 y5 y6 y7 y8 y9 y10 y11 y12 y13 y14 y15 y16 y17 y18 y19 y20) (spec_Better.j0 (k + 1) y0 y1 y2 y3 y4 y5 y6 y7 y8 y9 y10 y11 y12 y13 y14 y15 y16 y17 y18 y19 y20))
 | 0 => fun _ _ _ _ _ _ _ _ _ _ _ _ _ _ _ _ _ _ _ _ _ r h => by simp [spec_Better.j0] at h
 | k + 1 => by
  have ih0 := spec_Better.mono_l k
  ·intro y0 y1 y2 y3 y4 y5 y6 y7 y8 y9 y10 y11 y12 y13 y14 y15 y16 y17 y18 y19 y20
   unfold spec_Better.j0
   repeat' first
   | (with_reducible exact ih0 _ _ _ _ _ _ _ _ _ _ _ _ _ _ _ _ _ _ _ _ _)
   | (with_reducible exact spec_CompareFrac.mono _ _ _ _ _ _ _ _ _)
   | (with_reducible exact spec_GainOf.mono _ _ _ _ _ _ _ _)
   | (with_reducible exact LeO.refl _)
   | (with_reducible exact LeO.none _)
   | (with_reducible refine LeO.ite ?_ ?_)
   | (with_reducible refine LeO.bind ?_ (fun _ => ?_))
   | exact ih0 _ _ _ _ _ _ _ _ _ _ _ _ _ _ _ _ _ _ _ _ _
   | exact spec_CompareFrac.mono _ _ _ _ _ _ _ _ _
   | exact spec_GainOf.mono _ _ _ _ _ _ _ _
   | exact LeO.none _
   | refine LeO.ite ?_ ?_
   | refine LeO.bind ?_ (fun _ => ?_)
theorem spec_Better.mono : ∀ a0 a1 a2 a3 a4 a5 a6 a7 a8 a9 a10 a11 a12 k,LeO (spec_Better.f k a0 a1 a2 a3 a4 a5 a6 a7 a8 a9 a10 a11 a12) (spec_Better.f (k + 1) a0 a1 a2 a3 a4 a5 a6 a7 a8 a9 a10 a11 a12) := by
 intro a0 a1 a2 a3 a4 a5 a6 a7 a8 a9 a10 a11 a12 k
 have ih0 := spec_Better.mono_l k
 unfold spec_Better.f
 repeat' first
   | (with_reducible exact ih0 _ _ _ _ _ _ _ _ _ _ _ _ _ _ _ _ _ _ _ _ _)
   | (with_reducible exact spec_CompareFrac.mono _ _ _ _ _ _ _ _ _)
   | (with_reducible exact spec_GainOf.mono _ _ _ _ _ _ _ _)
   | (with_reducible exact LeO.refl _)
   | (with_reducible exact LeO.none _)
   | (with_reducible refine LeO.ite ?_ ?_)
   | (with_reducible refine LeO.bind ?_ (fun _ => ?_))
   | exact ih0 _ _ _ _ _ _ _ _ _ _ _ _ _ _ _ _ _ _ _ _ _
   | exact spec_CompareFrac.mono _ _ _ _ _ _ _ _ _
   | exact spec_GainOf.mono _ _ _ _ _ _ _ _
   | exact LeO.none _
   | refine LeO.ite ?_ ?_
   | refine LeO.bind ?_ (fun _ => ?_)
set_option maxHeartbeats 8000000 in
set_option maxRecDepth 100000 in
theorem spec_Better.calls (k : Nat) (a0_0 : Int) (a0_1 : Int) (a0_2 : Int) (a0_3 : Int) (a0_4 : Int) (a0_5 : Int) (a1_0 : Int) (a1_1 : Int) (a1_2 : Int) (a1_3 : Int) (a1_4 : Int) (a1_5 : Int) (a2 : Int) (r : Bool) (w : World) (h : spec_Better.f k a0_0 a0_1 a0_2 a0_3 a0_4 a0_5 a1_0 a1_1 a1_2 a1_3 a1_4 a1_5 a2 = some r) :
  Calls Try.prog 7 #[.agg #[.int .i64 a0_0,.int .i64 a0_1,.int .i64 a0_2,.int .i64 a0_3,.int .i64 a0_4,.int .i64 a0_5],.agg #[.int .i64 a1_0,.int .i64 a1_1,.int .i64 a1_2,.int .i64 a1_3,.int .i64 a1_4,.int .i64 a1_5],.int .i64 a2] w fun e w' => e = .returned (.bool r) ∧ Below w.heap.size w w' := by
 have hu27 := Try.underlying27
 have hu41 := Try.underlying41
 have HB := Aside0.mk (Below.refl w.heap.size w)
 have H := h
 clear h
 unfold spec_Better.f at H
 obtain ⟨⟨t691,t692,t693,t694,t695⟩,A40,H⟩ := Option.bind_eq_some_iff.mp H
 try dsimp only at H
 have A4 := Aside0.mk A40
 clear A40
 obtain ⟨⟨t697,t698,t699,t700,t701⟩,A50,H⟩ := Option.bind_eq_some_iff.mp H
 try dsimp only at H
 have A5 := Aside0.mk A50
 clear A50
 have HC6 := Aside0.mk H
 clear H
 go_enter Try.func7,Try.ntmps7
 go_upto_region 3 with (first | ((with_reducible refine gate_dst (N := 3) rfl ?_);refine bE 3 #[.int .i64 a0_0,.int .i64 a0_1,.int .i64 a0_2,.int .i64 a0_3,.int .i64 a0_4,.int .i64 a0_5] 27 (h := ?_);intro gb689 hg w7 hbox hb;have n_ := jA (below_step Z574 hb) (jA (hbox) (jA ((Z405 : w.heap.size ≤ gb689)) (Aside0.mk ((Z405 : w.heap.size ≤ gb689)))));clear HB;obtain ⟨HB,BK689,GW689,GE689⟩ := n_;clear hb hbox hg) | ((with_reducible refine gate_dst (N := 4) rfl ?_);refine bE 4 #[.int .i64 a1_0,.int .i64 a1_1,.int .i64 a1_2,.int .i64 a1_3,.int .i64 a1_4,.int .i64 a1_5] 27 (h := ?_);intro gb690 hg w8 hbox hb;have n_ := jA (blk_below (g := gb689) (o := .cells #[.int .i64 a0_0,.int .i64 a0_1,.int .i64 a0_2,.int .i64 a0_3,.int .i64 a0_4,.int .i64 a0_5] 27 (0,0)) Z494 hb) (jA (below_step Z432 hb) (jA (hbox) (jA ((Z209 : w.heap.size ≤ gb690)) (jA ((Z209 : w.heap.size ≤ gb690)) (jA ((Z198 : gb689 ≠ gb690)) (Aside0.mk ((Z199 : gb690 ≠ gb689))))))));clear BK689 HB;obtain ⟨BK689,HB,BK690,GW690,GE690,NB689_690,NB690_689⟩ := n_;clear hb hbox hg;have hnb9 := NB689_690.out;have hnc9 := NB690_689.out;obtain ⟨hcz10_0,hcz10_1,hcz10_2,hcz10_3,hcz10_4,hcz10_5,hfz10_0,hfz10_1,hfz10_2,hfz10_3,hfz10_4,hfz10_5⟩ := cells6 BK689.out) | ((with_reducible refine gate_callee (f := 15) rfl ?_);refine goesL_ (some 16) rfl rfl Try.func15 Z310 rfl #[.agg #[.int .i64 a0_0,.int .i64 a0_1,.int .i64 a0_2,.int .i64 a0_3,.int .i64 a0_4,.int .i64 a0_5],.int .i64 a2] rfl Z249 ?_;(with_reducible refine (spec_GainOf.calls k a0_0 a0_1 a0_2 a0_3 a0_4 a0_5 a2 t691 t692 t693 t694 t695 _ A4.out).mono ?_);rintro e w11 ⟨rfl,hb⟩;refine ⟨_,rfl,?_⟩;have n_ := jA (blk_below (g := gb689) (o := .cells #[.int .i64 a0_0,.int .i64 a0_1,.int .i64 a0_2,.int .i64 a0_3,.int .i64 a0_4,.int .i64 a0_5] 27 (0,0)) Z494 hb) (jA (blk_below (g := gb690) (o := .cells #[.int .i64 a1_0,.int .i64 a1_1,.int .i64 a1_2,.int .i64 a1_3,.int .i64 a1_4,.int .i64 a1_5] 27 (0,0)) Z496 hb) (Aside0.mk (below_step Z374 hb)));clear BK689 BK690 HB;obtain ⟨BK689,BK690,HB⟩ := n_;(try clear hb);(try clear hb2);(try clear hk);(try clear hi)) | ((with_reducible refine gate_dst (N := 7) rfl ?_);refine bE 7 #[.bool false,.int .u64 0,.int .u64 0,.int .i64 0] 41 (h := ?_);intro gb696 hg w12 hbox hb;have n_ := jA (blk_below (g := gb689) (o := .cells #[.int .i64 a0_0,.int .i64 a0_1,.int .i64 a0_2,.int .i64 a0_3,.int .i64 a0_4,.int .i64 a0_5] 27 (0,0)) Z494 hb) (jA (blk_below (g := gb690) (o := .cells #[.int .i64 a1_0,.int .i64 a1_1,.int .i64 a1_2,.int .i64 a1_3,.int .i64 a1_4,.int .i64 a1_5] 27 (0,0)) Z496 hb) (jA (below_step Z374 hb) (jA (hbox) (jA ((Z180 : w.heap.size ≤ gb696)) (jA ((Z180 : w.heap.size ≤ gb696)) (jA ((Z198 : gb689 ≠ gb696)) (jA ((Z199 : gb696 ≠ gb689)) (jA ((Z200 : gb690 ≠ gb696)) (Aside0.mk ((Z201 : gb696 ≠ gb690)))))))))));clear BK689 BK690 HB;obtain ⟨BK689,BK690,HB,BK696,GW696,GE696,NB689_696,NB696_689,NB690_696,NB696_690⟩ := n_;clear hb hbox hg;have hnb13 := NB696_689.out;have hnc13 := NB689_696.out;have hnb14 := NB696_690.out;have hnc14 := NB690_696.out;obtain ⟨hcz15_0,hcz15_1,hcz15_2,hcz15_3,hfz15_0,hfz15_1,hfz15_2,hfz15_3⟩ := cells4 BK696.out;obtain ⟨hcz16_0,hcz16_1,hcz16_2,hcz16_3,hcz16_4,hcz16_5,hfz16_0,hfz16_1,hfz16_2,hfz16_3,hfz16_4,hfz16_5⟩ := cells6 BK690.out) | ((with_reducible refine gate_callee (f := 15) rfl ?_);refine goesL_ (some 22) rfl rfl Try.func15 Z310 rfl #[.agg #[.int .i64 a1_0,.int .i64 a1_1,.int .i64 a1_2,.int .i64 a1_3,.int .i64 a1_4,.int .i64 a1_5],.int .i64 a2] rfl Z249 ?_;(with_reducible refine (spec_GainOf.calls k a1_0 a1_1 a1_2 a1_3 a1_4 a1_5 a2 t697 t698 t699 t700 t701 _ A5.out).mono ?_);rintro e w17 ⟨rfl,hb⟩;refine ⟨_,rfl,?_⟩;have n_ := jA (blk_below (g := gb689) (o := .cells #[.int .i64 a0_0,.int .i64 a0_1,.int .i64 a0_2,.int .i64 a0_3,.int .i64 a0_4,.int .i64 a0_5] 27 (0,0)) (by refine bP ?_;refine blk_far ?_ NB689_696.out _;refine bP ?_;refine blk_far ?_ NB689_696.out _;refine bP ?_;refine blk_far ?_ NB689_696.out _;refine bP ?_;refine blk_far ?_ NB689_696.out _;refine bP ?_;exact BK689.out) hb) (jA (blk_below (g := gb690) (o := .cells #[.int .i64 a1_0,.int .i64 a1_1,.int .i64 a1_2,.int .i64 a1_3,.int .i64 a1_4,.int .i64 a1_5] 27 (0,0)) (by refine bP ?_;refine blk_far ?_ NB690_696.out _;refine bP ?_;refine blk_far ?_ NB690_696.out _;refine bP ?_;refine blk_far ?_ NB690_696.out _;refine bP ?_;refine blk_far ?_ NB690_696.out _;refine bP ?_;exact BK690.out) hb) (jA (blk_below (g := gb696) (o := .cells #[.bool t691,.int .u64 t692,.int .u64 t693,.int .i64 t694] 41 (0,0)) (by refine bP ?_;refine blk_put (cs := #[.bool t691,.int .u64 t692,.int .u64 t693,.int .i64 0]) ?_ 3 _ rfl;refine bP ?_;refine blk_put (cs := #[.bool t691,.int .u64 t692,.int .u64 0,.int .i64 0]) ?_ 2 _ rfl;refine bP ?_;refine blk_put (cs := #[.bool t691,.int .u64 0,.int .u64 0,.int .i64 0]) ?_ 1 _ rfl;refine bP ?_;refine blk_put (cs := #[.bool false,.int .u64 0,.int .u64 0,.int .i64 0]) ?_ 0 _ rfl;refine bP ?_;exact BK696.out) hb) (Aside0.mk (below_step Z343 hb))));clear BK689 BK690 BK696 HB;obtain ⟨BK689,BK690,BK696,HB⟩ := n_;(try clear hb);(try clear hb2);(try clear hk);(try clear hi)) | ((with_reducible refine gate_dst (N := 9) rfl ?_);refine bE 9 #[.bool false,.int .u64 0,.int .u64 0,.int .i64 0] 41 (h := ?_);intro gb702 hg w18 hbox hb;have n_ := jA (blk_below (g := gb689) (o := .cells #[.int .i64 a0_0,.int .i64 a0_1,.int .i64 a0_2,.int .i64 a0_3,.int .i64 a0_4,.int .i64 a0_5] 27 (0,0)) Z494 hb) (jA (blk_below (g := gb690) (o := .cells #[.int .i64 a1_0,.int .i64 a1_1,.int .i64 a1_2,.int .i64 a1_3,.int .i64 a1_4,.int .i64 a1_5] 27 (0,0)) Z496 hb) (jA (blk_below (g := gb696) (o := .cells #[.bool t691,.int .u64 t692,.int .u64 t693,.int .i64 t694] 41 (0,0)) Z504 hb) (jA (below_step Z343 hb) (jA (hbox) (jA ((Z171 : w.heap.size ≤ gb702)) (jA ((Z171 : w.heap.size ≤ gb702)) (jA ((Z198 : gb689 ≠ gb702)) (jA ((Z199 : gb702 ≠ gb689)) (jA ((Z200 : gb690 ≠ gb702)) (jA ((Z201 : gb702 ≠ gb690)) (jA ((by rw [hg];exact Nat.ne_of_lt (blk_lt (g := gb696) (o := .cells #[.bool t691,.int .u64 t692,.int .u64 t693,.int .i64 t694] 41 (0,0)) Z504) : gb696 ≠ gb702)) (Aside0.mk ((by rw [hg];exact Nat.ne_of_gt (blk_lt (g := gb696) (o := .cells #[.bool t691,.int .u64 t692,.int .u64 t693,.int .i64 t694] 41 (0,0)) Z504) : gb702 ≠ gb696))))))))))))));clear BK689 BK690 BK696 HB;obtain ⟨BK689,BK690,BK696,HB,BK702,GW702,GE702,NB689_702,NB702_689,NB690_702,NB702_690,NB696_702,NB702_696⟩ := n_;clear hb hbox hg;have hnb19 := NB702_689.out;have hnc19 := NB689_702.out;have hnb20 := NB702_690.out;have hnc20 := NB690_702.out;have hnb21 := NB702_696.out;have hnc21 := NB696_702.out;obtain ⟨hcz22_0,hcz22_1,hcz22_2,hcz22_3,hfz22_0,hfz22_1,hfz22_2,hfz22_3⟩ := cells4 BK702.out))
 (try simp only [Act.put,List.setIfInBounds_toArray,List.set_cons_zero,List.set_cons_succ])
 go_cut [30] (fun v30 wc => ∃ (kq : Nat) (x30_5 : Bool),v30 = .bool x30_5 ∧ Aside0 (spec_Better.j0 kq x30_5 a0_0 a0_1 a0_2 a0_3 a0_4 a0_5 a1_0 a1_1 a1_2 a1_3 a1_4 a1_5 t691 t692 t693 t694 t697 t698 t699 t700 = some r) ∧ Aside0 (kq ≤ k) ∧ Aside0 (wc.heap[gb689]? = some (.cells #[.int .i64 a0_0,.int .i64 a0_1,.int .i64 a0_2,.int .i64 a0_3,.int .i64 a0_4,.int .i64 a0_5] 27 (0,0))) ∧ Aside0 (wc.heap[gb690]? = some (.cells #[.int .i64 a1_0,.int .i64 a1_1,.int .i64 a1_2,.int .i64 a1_3,.int .i64 a1_4,.int .i64 a1_5] 27 (0,0))) ∧ Aside0 (wc.heap[gb696]? = some (.cells #[.bool t691,.int .u64 t692,.int .u64 t693,.int .i64 t694] 41 (0,0))) ∧ Aside0 (wc.heap[gb702]? = some (.cells #[.bool t697,.int .u64 t698,.int .u64 t699,.int .i64 t700] 41 (0,0))) ∧ Aside0 (Below w.heap.size w wc))
 case first =>
  have H := HC6.out
  clear HC6
  by_cases c23 : t695 = true
  ·subst c23
   rw [if_pos rfl] at H
   have H' := Aside0.mk H
   clear H
   go_wp2
   go_meet
   case rel => exact ⟨_,(!t701),Z294,H',⟨Z296⟩,⟨Z192⟩,⟨Z191⟩,⟨Z190⟩,⟨Z138⟩,⟨Z326⟩⟩
  replace c23 := Bool.eq_false_iff.mpr c23
  subst c23
  rw [if_neg Bool.false_ne_true] at H
  have H' := Aside0.mk H
  clear H
  go_wp2
  go_meet
  case rel => exact ⟨_,(true),Z294,H',⟨Z296⟩,⟨Z192⟩,⟨Z191⟩,⟨Z190⟩,⟨Z138⟩,⟨Z326⟩⟩
 case rest =>
  clear HC6
  try clear c1
  try clear c2
  try clear p2
  try clear c7
  try clear c9
  try clear c13
  try clear c14
  try clear c15
  try clear c19
  try clear c20
  try clear c21
  try clear c23
  try clear hcz10_0
  try clear hcz10_1
  try clear hcz10_2
  try clear hcz10_3
  try clear hcz10_4
  try clear hcz10_5
  try clear hcz15_0
  try clear hcz15_1
  try clear hcz15_2
  try clear hcz15_3
  try clear hcz16_0
  try clear hcz16_1
  try clear hcz16_2
  try clear hcz16_3
  try clear hcz16_4
  try clear hcz16_5
  try clear hcz22_0
  try clear hcz22_1
  try clear hcz22_2
  try clear hcz22_3
  try clear hfz10_0
  try clear hfz10_1
  try clear hfz10_2
  try clear hfz10_3
  try clear hfz10_4
  try clear hfz10_5
  try clear hfz15_0
  try clear hfz15_1
  try clear hfz15_2
  try clear hfz15_3
  try clear hfz16_0
  try clear hfz16_1
  try clear hfz16_2
  try clear hfz16_3
  try clear hfz16_4
  try clear hfz16_5
  try clear hfz22_0
  try clear hfz22_1
  try clear hfz22_2
  try clear hfz22_3
  obtain ⟨kq,x30_5,rfl,HA,HJ5,BK689,BK690,BK696,BK702,HB⟩ := hcut
  cases kq with
  | zero => exact absurd HA.out (by simp [spec_Better.j0])
  | succ kj5 =>
   have H := HA.out
   clear HA
   simp only [spec_Better.j0] at H
   by_cases c24 : x30_5 = true
   ·subst c24
    rw [if_pos rfl] at H
    obtain rfl := Option.some.inj H
    go_wp2
    go_ret
    exact ⟨Z265,Z326⟩
   replace c24 := Bool.eq_false_iff.mpr c24
   subst c24
   rw [if_neg Bool.false_ne_true] at H
   obtain ⟨⟨t703,t704⟩,A250,H⟩ := Option.bind_eq_some_iff.mp H
   try dsimp only at H
   have A25 := Aside0.mk A250
   clear A250
   by_cases c26 : t704 = true
   rotate_left
   ·replace c26 := Bool.eq_false_iff.mpr c26
    subst c26
    rw [if_neg Bool.false_ne_true] at H
    obtain rfl := Option.some.inj H
    have hnb58 := NB696_689.out
    have hnc58 := NB689_696.out
    have hnb59 := NB696_690.out
    have hnc59 := NB690_696.out
    have hnb60 := NB696_702.out
    have hnc60 := NB702_696.out
    obtain ⟨hcz61_0,hcz61_1,hcz61_2,hcz61_3,hfz61_0,hfz61_1,hfz61_2,hfz61_3⟩ := cells4 BK696.out
    have hnb62 := NB702_689.out
    have hnc62 := NB689_702.out
    have hnb63 := NB702_690.out
    have hnc63 := NB690_702.out
    obtain ⟨hcz64_0,hcz64_1,hcz64_2,hcz64_3,hfz64_0,hfz64_1,hfz64_2,hfz64_3⟩ := cells4 BK702.out
    go_wp2_with (first | ((with_reducible refine gate_callee (f := 16) rfl ?_);refine goesL_ (some 34) rfl rfl Try.func16 Z310 rfl #[.agg #[.bool t691,.int .u64 t692,.int .u64 t693,.int .i64 t694],.agg #[.bool t697,.int .u64 t698,.int .u64 t699,.int .i64 t700]] rfl Z249 ?_;(with_reducible refine (spec_CompareFrac.calls kj5 t691 t692 t693 t694 t697 t698 t699 t700 t703 false _ A25.out).mono ?_);rintro e wq1 ⟨rfl,hb⟩;refine ⟨_,rfl,?_⟩;have n_ := Z74;clear BK689 BK690 BK696 BK702 HB;obtain ⟨BK689,BK690,BK696,BK702,HB⟩ := n_;(try clear hb);(try clear hb2);(try clear hk);(try clear hi)))
    go_ret
    exact ⟨Z265,Z326⟩
   subst c26
   rw [if_pos rfl] at H
   by_cases c27 : t703 > 0
   ·rw [if_pos c27] at H
    have c27b0 : decide (0 < t703) = true := decide_eq_true c27
    clear c27
    obtain rfl := Option.some.inj H
    have hnb28 := NB696_689.out
    have hnc28 := NB689_696.out
    have hnb29 := NB696_690.out
    have hnc29 := NB690_696.out
    have hnb30 := NB696_702.out
    have hnc30 := NB702_696.out
    obtain ⟨hcz31_0,hcz31_1,hcz31_2,hcz31_3,hfz31_0,hfz31_1,hfz31_2,hfz31_3⟩ := cells4 BK696.out
    have hnb32 := NB702_689.out
    have hnc32 := NB689_702.out
    have hnb33 := NB702_690.out
    have hnc33 := NB690_702.out
    obtain ⟨hcz34_0,hcz34_1,hcz34_2,hcz34_3,hfz34_0,hfz34_1,hfz34_2,hfz34_3⟩ := cells4 BK702.out
    go_wp2_with (first | ((with_reducible refine gate_callee (f := 16) rfl ?_);refine goesL_ (some 34) rfl rfl Try.func16 Z310 rfl #[.agg #[.bool t691,.int .u64 t692,.int .u64 t693,.int .i64 t694],.agg #[.bool t697,.int .u64 t698,.int .u64 t699,.int .i64 t700]] rfl Z249 ?_;(with_reducible refine (spec_CompareFrac.calls kj5 t691 t692 t693 t694 t697 t698 t699 t700 t703 true _ A25.out).mono ?_);rintro e wq1 ⟨rfl,hb⟩;refine ⟨_,rfl,?_⟩;have n_ := Z74;clear BK689 BK690 BK696 BK702 HB;obtain ⟨BK689,BK690,BK696,BK702,HB⟩ := n_;(try clear hb);(try clear hb2);(try clear hk);(try clear hi)))
    go_ret
    exact ⟨Z265,Z326⟩
   rw [if_neg c27] at H
   have c27b0 : decide (0 < t703) = false := decide_eq_false c27
   clear c27
   by_cases c36 : t703 = 0
   rotate_left
   ·rw [if_neg c36] at H
    have c36b0 : (t703 == 0) = false := beq_eq_false_iff_ne.mpr c36
    have c36b1 : (t703 != 0) = true := bne_iff_ne.mpr c36
    obtain rfl := Option.some.inj H
    have hnb50 := NB696_689.out
    have hnc50 := NB689_696.out
    have hnb51 := NB696_690.out
    have hnc51 := NB690_696.out
    have hnb52 := NB696_702.out
    have hnc52 := NB702_696.out
    obtain ⟨hcz53_0,hcz53_1,hcz53_2,hcz53_3,hfz53_0,hfz53_1,hfz53_2,hfz53_3⟩ := cells4 BK696.out
    have hnb54 := NB702_689.out
    have hnc54 := NB689_702.out
    have hnb55 := NB702_690.out
    have hnc55 := NB690_702.out
    obtain ⟨hcz56_0,hcz56_1,hcz56_2,hcz56_3,hfz56_0,hfz56_1,hfz56_2,hfz56_3⟩ := cells4 BK702.out
    go_wp2_with (first | ((with_reducible refine gate_callee (f := 16) rfl ?_);refine goesL_ (some 34) rfl rfl Try.func16 Z310 rfl #[.agg #[.bool t691,.int .u64 t692,.int .u64 t693,.int .i64 t694],.agg #[.bool t697,.int .u64 t698,.int .u64 t699,.int .i64 t700]] rfl Z249 ?_;(with_reducible refine (spec_CompareFrac.calls kj5 t691 t692 t693 t694 t697 t698 t699 t700 t703 true _ A25.out).mono ?_);rintro e wq1 ⟨rfl,hb⟩;refine ⟨_,rfl,?_⟩;have n_ := Z74;clear BK689 BK690 BK696 BK702 HB;obtain ⟨BK689,BK690,BK696,BK702,HB⟩ := n_;(try clear hb);(try clear hb2);(try clear hk);(try clear hi)))
    go_ret
    exact ⟨Z265,Z326⟩
   rw [if_pos c36] at H
   have c36b0 : (t703 == 0) = true := beq_iff_eq.mpr c36
   have c36b1 : (t703 != 0) = false := bne_eq_false_iff_eq.mpr c36
   clear c36
   obtain ⟨t705,A370,H⟩ := Option.bind_eq_some_iff.mp H
   have A37 := Aside0.mk A370
   clear A370
   obtain rfl := Option.some.inj H
   have hnb38 := NB696_689.out
   have hnc38 := NB689_696.out
   have hnb39 := NB696_690.out
   have hnc39 := NB690_696.out
   have hnb40 := NB696_702.out
   have hnc40 := NB702_696.out
   obtain ⟨hcz41_0,hcz41_1,hcz41_2,hcz41_3,hfz41_0,hfz41_1,hfz41_2,hfz41_3⟩ := cells4 BK696.out
   have hnb42 := NB702_689.out
   have hnc42 := NB689_702.out
   have hnb43 := NB702_690.out
   have hnc43 := NB690_702.out
   obtain ⟨hcz44_0,hcz44_1,hcz44_2,hcz44_3,hfz44_0,hfz44_1,hfz44_2,hfz44_3⟩ := cells4 BK702.out
   go_wp2_with (first | ((with_reducible refine gate_callee (f := 16) rfl ?_);refine goesL_ (some 34) rfl rfl Try.func16 Z310 rfl #[.agg #[.bool t691,.int .u64 t692,.int .u64 t693,.int .i64 t694],.agg #[.bool t697,.int .u64 t698,.int .u64 t699,.int .i64 t700]] rfl Z249 ?_;(with_reducible refine (spec_CompareFrac.calls kj5 t691 t692 t693 t694 t697 t698 t699 t700 t703 true _ A25.out).mono ?_);rintro e wq1 ⟨rfl,hb⟩;refine ⟨_,rfl,?_⟩;have n_ := Z74;clear BK689 BK690 BK696 BK702 HB;obtain ⟨BK689,BK690,BK696,BK702,HB⟩ := n_;(try clear hb);(try clear hb2);(try clear hk);(try clear hi);have hnbq2 := NB689_690.out;have hncq2 := NB690_689.out;obtain ⟨hczq3_0,hczq3_1,hczq3_2,hczq3_3,hczq3_4,hczq3_5,hfzq3_0,hfzq3_1,hfzq3_2,hfzq3_3,hfzq3_4,hfzq3_5⟩ := cells6 BK689.out;obtain ⟨hczq4_0,hczq4_1,hczq4_2,hczq4_3,hczq4_4,hczq4_5,hfzq4_0,hfzq4_1,hfzq4_2,hfzq4_3,hfzq4_4,hfzq4_5⟩ := cells6 BK690.out) | (go_at_call 17;(with_reducible refine (spec_CandLess.calls a0_0 a0_1 a0_2 a0_3 a0_4 a0_5 a1_0 a1_1 a1_2 a1_3 a1_4 a1_5 t705 _ A37.out).mono ?_);rintro e wq5 ⟨rfl,hb⟩;have n_ := Z74;clear BK689 BK690 BK696 BK702 HB;obtain ⟨BK689,BK690,BK696,BK702,HB⟩ := n_;(try clear hb);(try clear hb2);(try clear hk);(try clear hi)))
   go_ret
   exact ⟨Z265,Z326⟩

/-! ### laws_FnBetter: function 3 -/
def laws_FnBetter.f (k : Nat) (l0 : List Int) : Option (Bool) := (laws_big.f l0).bind fun t706 => (if t706 = true then (some true) else ((spec_DrawBetter.f k l0).bind fun bt707 => ((impl_Better.f k bt707.1 bt707.2.1 bt707.2.2.1 bt707.2.2.2.1 bt707.2.2.2.2.1 bt707.2.2.2.2.2.1 bt707.2.2.2.2.2.2.1 bt707.2.2.2.2.2.2.2.1 bt707.2.2.2.2.2.2.2.2.1 bt707.2.2.2.2.2.2.2.2.2.1 bt707.2.2.2.2.2.2.2.2.2.2.1 bt707.2.2.2.2.2.2.2.2.2.2.2.1 bt707.2.2.2.2.2.2.2.2.2.2.2.2).bind fun t722 => ((impl_Better.f k bt707.2.2.2.2.2.2.1 bt707.2.2.2.2.2.2.2.1 bt707.2.2.2.2.2.2.2.2.1 bt707.2.2.2.2.2.2.2.2.2.1 bt707.2.2.2.2.2.2.2.2.2.2.1 bt707.2.2.2.2.2.2.2.2.2.2.2.1 bt707.1 bt707.2.1 bt707.2.2.1 bt707.2.2.2.1 bt707.2.2.2.2.1 bt707.2.2.2.2.2.1 bt707.2.2.2.2.2.2.2.2.2.2.2.2).bind fun t723 => ((spec_Better.f k bt707.1 bt707.2.1 bt707.2.2.1 bt707.2.2.2.1 bt707.2.2.2.2.1 bt707.2.2.2.2.2.1 bt707.2.2.2.2.2.2.1 bt707.2.2.2.2.2.2.2.1 bt707.2.2.2.2.2.2.2.2.1 bt707.2.2.2.2.2.2.2.2.2.1 bt707.2.2.2.2.2.2.2.2.2.2.1 bt707.2.2.2.2.2.2.2.2.2.2.2.1 bt707.2.2.2.2.2.2.2.2.2.2.2.2).bind fun t724 => (if (t722 != t724) = true then (some false) else ((spec_Better.f k bt707.2.2.2.2.2.2.1 bt707.2.2.2.2.2.2.2.1 bt707.2.2.2.2.2.2.2.2.1 bt707.2.2.2.2.2.2.2.2.2.1 bt707.2.2.2.2.2.2.2.2.2.2.1 bt707.2.2.2.2.2.2.2.2.2.2.2.1 bt707.1 bt707.2.1 bt707.2.2.1 bt707.2.2.2.1 bt707.2.2.2.2.1 bt707.2.2.2.2.2.1 bt707.2.2.2.2.2.2.2.2.2.2.2.2).bind fun t725 => (if (t723 != t725) = true then (some false) else (if t722 = true then (if t723 = true then (some false) else ((impl_Better.f k bt707.1 bt707.2.1 bt707.2.2.1 bt707.2.2.2.1 bt707.2.2.2.2.1 bt707.2.2.2.2.2.1 bt707.1 bt707.2.1 bt707.2.2.1 bt707.2.2.2.1 bt707.2.2.2.2.1 bt707.2.2.2.2.2.1 bt707.2.2.2.2.2.2.2.2.2.2.2.2).bind fun t726 => (some (!t726)))) else ((impl_Better.f k bt707.1 bt707.2.1 bt707.2.2.1 bt707.2.2.2.1 bt707.2.2.2.2.1 bt707.2.2.2.2.2.1 bt707.1 bt707.2.1 bt707.2.2.1 bt707.2.2.2.1 bt707.2.2.2.2.1 bt707.2.2.2.2.2.1 bt707.2.2.2.2.2.2.2.2.2.2.2.2).bind fun t727 => (some (!t727))))))))))))
theorem laws_FnBetter.mono : ∀ a0 k,LeO (laws_FnBetter.f k a0) (laws_FnBetter.f (k + 1) a0) := by
 intro a0 k
 unfold laws_FnBetter.f
 repeat' first
   | (with_reducible exact impl_Better.mono _ _ _ _ _ _ _ _ _ _ _ _ _ _)
   | (with_reducible exact spec_Better.mono _ _ _ _ _ _ _ _ _ _ _ _ _ _)
   | (with_reducible exact spec_DrawBetter.mono _ _)
   | (with_reducible exact LeO.refl _)
   | (with_reducible exact LeO.none _)
   | (with_reducible refine LeO.ite ?_ ?_)
   | (with_reducible refine LeO.bind ?_ (fun _ => ?_))
   | exact impl_Better.mono _ _ _ _ _ _ _ _ _ _ _ _ _ _
   | exact spec_Better.mono _ _ _ _ _ _ _ _ _ _ _ _ _ _
   | exact spec_DrawBetter.mono _ _
   | exact LeO.none _
   | refine LeO.ite ?_ ?_
   | refine LeO.bind ?_ (fun _ => ?_)
set_option maxHeartbeats 8000000 in
set_option maxRecDepth 100000 in
theorem laws_FnBetter.calls (k : Nat) (A0 : Option Addr) (c0 : Nat) (l0 : List Int) (r : Bool) (w : World) (hr0 : Kd.C (Kd.int .u8) w A0 l0.length l0) (hc0 : l0.length ≤ c0) (h : laws_FnBetter.f k l0 = some r) (hr_ : r = true) :
  Calls Try.prog 3 #[.slice A0 l0.length c0] w fun e w' => e = .returned (.bool r) ∧ Below w.heap.size w w' := by
 have HRT := Aside0.mk hr_
 clear hr_
 have hu27 := Try.underlying27
 have HR0 := Aside0.mk hr0
 have HC0 := Aside0.mk hc0
 clear hr0 hc0
 have HB := Aside0.mk (Below.refl w.heap.size w)
 have H := h
 clear h
 unfold laws_FnBetter.f at H
 obtain ⟨t706,A20,H⟩ := Option.bind_eq_some_iff.mp H
 have A2 := Aside0.mk A20
 clear A20
 by_cases c3 : t706 = true
 ·subst c3
  rw [if_pos rfl] at H
  obtain rfl := Option.some.inj H
  go_enter Try.func3,Try.ntmps3
  go_wp2_with (first | ((with_reducible refine gate_callee (f := 4) rfl ?_);refine goesL_ (some 9) rfl rfl Try.func4 Z310 rfl #[.slice A0 l0.length c0] rfl Z249 ?_;(with_reducible refine (laws_big.calls _ _ l0 true _ ?side1 ?side2 A2.out).mono ?_);(case side1 => exact Z246);(case side2 => exact HC0.out);rintro e w' ⟨rfl,⟨nd,rfl⟩⟩;refine ⟨_,rfl,?_⟩))
  go_ret
  exact ⟨Z265,Z574⟩
 replace c3 := Bool.eq_false_iff.mpr c3
 subst c3
 rw [if_neg Bool.false_ne_true] at H
 obtain ⟨⟨t707,t708,t709,t710,t711,t712,t713,t714,t715,t716,t717,t718,t719⟩,A40,H⟩ := Option.bind_eq_some_iff.mp H
 try dsimp only at H
 have A4 := Aside0.mk A40
 clear A40
 obtain ⟨t722,A50,H⟩ := Option.bind_eq_some_iff.mp H
 have A5 := Aside0.mk A50
 clear A50
 obtain ⟨t723,A60,H⟩ := Option.bind_eq_some_iff.mp H
 have A6 := Aside0.mk A60
 clear A60
 obtain ⟨t724,A70,H⟩ := Option.bind_eq_some_iff.mp H
 have A7 := Aside0.mk A70
 clear A70
 by_cases c8 : (t722 != t724) = true
 ·rw [if_pos c8] at H
  have c8b0 : (t722 != t724) = true := c8
  (try (have c8b1 : decide (t722 = t724) = false := by simpa using c8))
  (try (have c8b2 : (t722 == t724) = false := by simpa using c8))
  (try (have c8b3 : ¬ (t722 = t724) := by simpa using c8))
  clear c8
  exact absurd ((Option.some.inj H).trans HRT.out) Z522
 rw [if_neg c8] at H
 have c8b0 : (t722 != t724) = false := by simpa using c8
 (try (have c8b1 : decide (t722 = t724) = true := by simpa using c8))
 (try (have c8b2 : (t722 == t724) = true := by simpa using c8))
 clear c8
 obtain ⟨t725,A90,H⟩ := Option.bind_eq_some_iff.mp H
 have A9 := Aside0.mk A90
 clear A90
 by_cases c10 : (t723 != t725) = true
 ·rw [if_pos c10] at H
  have c10b0 : (t723 != t725) = true := c10
  (try (have c10b1 : decide (t723 = t725) = false := by simpa using c10))
  (try (have c10b2 : (t723 == t725) = false := by simpa using c10))
  (try (have c10b3 : ¬ (t723 = t725) := by simpa using c10))
  clear c10
  exact absurd ((Option.some.inj H).trans HRT.out) Z522
 rw [if_neg c10] at H
 have c10b0 : (t723 != t725) = false := by simpa using c10
 (try (have c10b1 : decide (t723 = t725) = true := by simpa using c10))
 (try (have c10b2 : (t723 == t725) = true := by simpa using c10))
 clear c10
 by_cases c11 : t722 = true
 rotate_left
 ·replace c11 := Bool.eq_false_iff.mpr c11
  subst c11
  rw [if_neg Bool.false_ne_true] at H
  obtain ⟨t727,A320,H⟩ := Option.bind_eq_some_iff.mp H
  have A32 := Aside0.mk A320
  clear A320
  obtain rfl := Option.some.inj H
  go_enter Try.func3,Try.ntmps3
  go_wp2_with (first | ((with_reducible refine gate_callee (f := 4) rfl ?_);refine goesL_ (some 9) rfl rfl Try.func4 Z310 rfl #[.slice A0 l0.length c0] rfl Z249 ?_;(with_reducible refine (laws_big.calls _ _ l0 false _ ?side1 ?side2 A2.out).mono ?_);(case side1 => exact Z246);(case side2 => exact HC0.out);rintro e w' ⟨rfl,⟨nd,rfl⟩⟩;refine ⟨_,rfl,?_⟩) | ((with_reducible refine gate_callee (f := 5) rfl ?_);refine goesL_ (some 12) rfl rfl Try.func5 Z310 rfl #[.slice A0 l0.length c0] rfl Z249 ?_;(with_reducible refine (spec_DrawBetter.calls k _ _ l0 t707 t708 t709 t710 t711 t712 t713 t714 t715 t716 t717 t718 t719 _ ?side1 ?side2 A4.out).mono ?_);(case side1 => exact Z246);(case side2 => exact HC0.out);rintro e wq1 ⟨rfl,hb⟩;refine ⟨_,rfl,?_⟩;have n0_ := Aside0.mk (below_step Z574 hb);clear HB;have HB := n0_;clear n0_;(try clear hb);(try clear hb2);(try clear hk);(try clear hi)) | ((with_reducible refine gate_dst (N := 3) rfl ?_);refine bE 3 #[.int .i64 0,.int .i64 0,.int .i64 0,.int .i64 0,.int .i64 0,.int .i64 0] 27 (h := ?_);intro gb720 hg wq2 hbox hb;have n_ := Z111;clear HB;obtain ⟨HB,BK720,GW720,GE720⟩ := n_;clear hb hbox hg) | ((with_reducible refine gate_dst (N := 4) rfl ?_);refine bE 4 #[.int .i64 0,.int .i64 0,.int .i64 0,.int .i64 0,.int .i64 0,.int .i64 0] 27 (h := ?_);intro gb721 hg wq3 hbox hb;have n_ := Z56;clear BK720 HB;obtain ⟨BK720,HB,BK721,GW721,GE721,NB720_721,NB721_720⟩ := n_;clear hb hbox hg;have hnbq4 := NB720_721.out;have hncq4 := NB721_720.out;obtain ⟨hczq5_0,hczq5_1,hczq5_2,hczq5_3,hczq5_4,hczq5_5,hfzq5_0,hfzq5_1,hfzq5_2,hfzq5_3,hfzq5_4,hfzq5_5⟩ := cells6 BK720.out;obtain ⟨hczq6_0,hczq6_1,hczq6_2,hczq6_3,hczq6_4,hczq6_5,hfzq6_0,hfzq6_1,hfzq6_2,hfzq6_3,hfzq6_4,hfzq6_5⟩ := cells6 BK721.out) | ((with_reducible refine gate_callee (f := 6) rfl ?_);refine goesL_ (some 19) rfl rfl Try.func6 Z310 rfl #[.agg #[.int .i64 t707,.int .i64 t708,.int .i64 t709,.int .i64 t710,.int .i64 t711,.int .i64 t712],.agg #[.int .i64 t713,.int .i64 t714,.int .i64 t715,.int .i64 t716,.int .i64 t717,.int .i64 t718],.int .i64 t719] rfl Z249 ?_;(with_reducible refine (impl_Better.calls k t707 t708 t709 t710 t711 t712 t713 t714 t715 t716 t717 t718 t719 false _ A5.out).mono ?_);rintro e wq7 ⟨rfl,hb⟩;refine ⟨_,rfl,?_⟩;have n_ := Z13;clear BK720 BK721 HB;obtain ⟨BK720,BK721,HB⟩ := n_;(try clear hb);(try clear hb2);(try clear hk);(try clear hi);obtain ⟨hczq8_0,hczq8_1,hczq8_2,hczq8_3,hczq8_4,hczq8_5,hfzq8_0,hfzq8_1,hfzq8_2,hfzq8_3,hfzq8_4,hfzq8_5⟩ := cells6 BK721.out;obtain ⟨hczq9_0,hczq9_1,hczq9_2,hczq9_3,hczq9_4,hczq9_5,hfzq9_0,hfzq9_1,hfzq9_2,hfzq9_3,hfzq9_4,hfzq9_5⟩ := cells6 BK720.out) | ((with_reducible refine gate_callee (f := 6) rfl ?_);refine goesL_ (some 23) rfl rfl Try.func6 Z310 rfl #[.agg #[.int .i64 t713,.int .i64 t714,.int .i64 t715,.int .i64 t716,.int .i64 t717,.int .i64 t718],.agg #[.int .i64 t707,.int .i64 t708,.int .i64 t709,.int .i64 t710,.int .i64 t711,.int .i64 t712],.int .i64 t719] rfl Z249 ?_;(with_reducible refine (impl_Better.calls k t713 t714 t715 t716 t717 t718 t707 t708 t709 t710 t711 t712 t719 t723 _ A6.out).mono ?_);rintro e wq10 ⟨rfl,hb⟩;refine ⟨_,rfl,?_⟩;have n_ := Z95;clear BK720 BK721 HB;obtain ⟨BK720,BK721,HB⟩ := n_;(try clear hb);(try clear hb2);(try clear hk);(try clear hi);obtain ⟨hczq11_0,hczq11_1,hczq11_2,hczq11_3,hczq11_4,hczq11_5,hfzq11_0,hfzq11_1,hfzq11_2,hfzq11_3,hfzq11_4,hfzq11_5⟩ := cells6 BK720.out;obtain ⟨hczq12_0,hczq12_1,hczq12_2,hczq12_3,hczq12_4,hczq12_5,hfzq12_0,hfzq12_1,hfzq12_2,hfzq12_3,hfzq12_4,hfzq12_5⟩ := cells6 BK721.out) | ((with_reducible refine gate_callee (f := 7) rfl ?_);refine goesL_ (some 28) rfl rfl Try.func7 Z310 rfl #[.agg #[.int .i64 t707,.int .i64 t708,.int .i64 t709,.int .i64 t710,.int .i64 t711,.int .i64 t712],.agg #[.int .i64 t713,.int .i64 t714,.int .i64 t715,.int .i64 t716,.int .i64 t717,.int .i64 t718],.int .i64 t719] rfl Z249 ?_;(with_reducible refine (spec_Better.calls k t707 t708 t709 t710 t711 t712 t713 t714 t715 t716 t717 t718 t719 t724 _ A7.out).mono ?_);rintro e wq13 ⟨rfl,hb⟩;refine ⟨_,rfl,?_⟩;have n_ := Z95;clear BK720 BK721 HB;obtain ⟨BK720,BK721,HB⟩ := n_;(try clear hb);(try clear hb2);(try clear hk);(try clear hi);obtain ⟨hczq14_0,hczq14_1,hczq14_2,hczq14_3,hczq14_4,hczq14_5,hfzq14_0,hfzq14_1,hfzq14_2,hfzq14_3,hfzq14_4,hfzq14_5⟩ := cells6 BK721.out;obtain ⟨hczq15_0,hczq15_1,hczq15_2,hczq15_3,hczq15_4,hczq15_5,hfzq15_0,hfzq15_1,hfzq15_2,hfzq15_3,hfzq15_4,hfzq15_5⟩ := cells6 BK720.out) | (go_at_call 7;(with_reducible refine (spec_Better.calls k t713 t714 t715 t716 t717 t718 t707 t708 t709 t710 t711 t712 t719 t725 _ A9.out).mono ?_);rintro e wq16 ⟨rfl,hb⟩;have n_ := Z95;clear BK720 BK721 HB;obtain ⟨BK720,BK721,HB⟩ := n_;(try clear hb);(try clear hb2);(try clear hk);(try clear hi);obtain ⟨hczq17_0,hczq17_1,hczq17_2,hczq17_3,hczq17_4,hczq17_5,hfzq17_0,hfzq17_1,hfzq17_2,hfzq17_3,hfzq17_4,hfzq17_5⟩ := cells6 BK720.out) | (go_at_call 6;(with_reducible refine (impl_Better.calls k t707 t708 t709 t710 t711 t712 t707 t708 t709 t710 t711 t712 t719 t727 _ A32.out).mono ?_);rintro e wq18 ⟨rfl,hb⟩;have n_ := Z95;clear BK720 BK721 HB;obtain ⟨BK720,BK721,HB⟩ := n_;(try clear hb);(try clear hb2);(try clear hk);(try clear hi)))
  go_ret
  exact ⟨Z265,Z372⟩
 subst c11
 rw [if_pos rfl] at H
 by_cases c12 : t723 = true
 ·subst c12
  rw [if_pos rfl] at H
  exact absurd ((Option.some.inj H).trans HRT.out) Z522
 replace c12 := Bool.eq_false_iff.mpr c12
 subst c12
 rw [if_neg Bool.false_ne_true] at H
 obtain ⟨t726,A130,H⟩ := Option.bind_eq_some_iff.mp H
 have A13 := Aside0.mk A130
 clear A130
 obtain rfl := Option.some.inj H
 go_enter Try.func3,Try.ntmps3
 go_wp2_with (first | ((with_reducible refine gate_callee (f := 4) rfl ?_);refine goesL_ (some 9) rfl rfl Try.func4 Z310 rfl #[.slice A0 l0.length c0] rfl Z249 ?_;(with_reducible refine (laws_big.calls _ _ l0 false _ ?side1 ?side2 A2.out).mono ?_);(case side1 => exact Z246);(case side2 => exact HC0.out);rintro e w' ⟨rfl,⟨nd,rfl⟩⟩;refine ⟨_,rfl,?_⟩) | ((with_reducible refine gate_callee (f := 5) rfl ?_);refine goesL_ (some 12) rfl rfl Try.func5 Z310 rfl #[.slice A0 l0.length c0] rfl Z249 ?_;(with_reducible refine (spec_DrawBetter.calls k _ _ l0 t707 t708 t709 t710 t711 t712 t713 t714 t715 t716 t717 t718 t719 _ ?side1 ?side2 A4.out).mono ?_);(case side1 => exact Z246);(case side2 => exact HC0.out);rintro e wq1 ⟨rfl,hb⟩;refine ⟨_,rfl,?_⟩;have n0_ := Aside0.mk (below_step Z574 hb);clear HB;have HB := n0_;clear n0_;(try clear hb);(try clear hb2);(try clear hk);(try clear hi)) | ((with_reducible refine gate_dst (N := 3) rfl ?_);refine bE 3 #[.int .i64 0,.int .i64 0,.int .i64 0,.int .i64 0,.int .i64 0,.int .i64 0] 27 (h := ?_);intro gb720 hg wq2 hbox hb;have n_ := Z111;clear HB;obtain ⟨HB,BK720,GW720,GE720⟩ := n_;clear hb hbox hg) | ((with_reducible refine gate_dst (N := 4) rfl ?_);refine bE 4 #[.int .i64 0,.int .i64 0,.int .i64 0,.int .i64 0,.int .i64 0,.int .i64 0] 27 (h := ?_);intro gb721 hg wq3 hbox hb;have n_ := Z56;clear BK720 HB;obtain ⟨BK720,HB,BK721,GW721,GE721,NB720_721,NB721_720⟩ := n_;clear hb hbox hg;have hnbq4 := NB720_721.out;have hncq4 := NB721_720.out;obtain ⟨hczq5_0,hczq5_1,hczq5_2,hczq5_3,hczq5_4,hczq5_5,hfzq5_0,hfzq5_1,hfzq5_2,hfzq5_3,hfzq5_4,hfzq5_5⟩ := cells6 BK720.out;obtain ⟨hczq6_0,hczq6_1,hczq6_2,hczq6_3,hczq6_4,hczq6_5,hfzq6_0,hfzq6_1,hfzq6_2,hfzq6_3,hfzq6_4,hfzq6_5⟩ := cells6 BK721.out) | ((with_reducible refine gate_callee (f := 6) rfl ?_);refine goesL_ (some 19) rfl rfl Try.func6 Z310 rfl #[.agg #[.int .i64 t707,.int .i64 t708,.int .i64 t709,.int .i64 t710,.int .i64 t711,.int .i64 t712],.agg #[.int .i64 t713,.int .i64 t714,.int .i64 t715,.int .i64 t716,.int .i64 t717,.int .i64 t718],.int .i64 t719] rfl Z249 ?_;(with_reducible refine (impl_Better.calls k t707 t708 t709 t710 t711 t712 t713 t714 t715 t716 t717 t718 t719 true _ A5.out).mono ?_);rintro e wq7 ⟨rfl,hb⟩;refine ⟨_,rfl,?_⟩;have n_ := Z13;clear BK720 BK721 HB;obtain ⟨BK720,BK721,HB⟩ := n_;(try clear hb);(try clear hb2);(try clear hk);(try clear hi);obtain ⟨hczq8_0,hczq8_1,hczq8_2,hczq8_3,hczq8_4,hczq8_5,hfzq8_0,hfzq8_1,hfzq8_2,hfzq8_3,hfzq8_4,hfzq8_5⟩ := cells6 BK721.out;obtain ⟨hczq9_0,hczq9_1,hczq9_2,hczq9_3,hczq9_4,hczq9_5,hfzq9_0,hfzq9_1,hfzq9_2,hfzq9_3,hfzq9_4,hfzq9_5⟩ := cells6 BK720.out) | ((with_reducible refine gate_callee (f := 6) rfl ?_);refine goesL_ (some 23) rfl rfl Try.func6 Z310 rfl #[.agg #[.int .i64 t713,.int .i64 t714,.int .i64 t715,.int .i64 t716,.int .i64 t717,.int .i64 t718],.agg #[.int .i64 t707,.int .i64 t708,.int .i64 t709,.int .i64 t710,.int .i64 t711,.int .i64 t712],.int .i64 t719] rfl Z249 ?_;(with_reducible refine (impl_Better.calls k t713 t714 t715 t716 t717 t718 t707 t708 t709 t710 t711 t712 t719 false _ A6.out).mono ?_);rintro e wq10 ⟨rfl,hb⟩;refine ⟨_,rfl,?_⟩;have n_ := Z95;clear BK720 BK721 HB;obtain ⟨BK720,BK721,HB⟩ := n_;(try clear hb);(try clear hb2);(try clear hk);(try clear hi);obtain ⟨hczq11_0,hczq11_1,hczq11_2,hczq11_3,hczq11_4,hczq11_5,hfzq11_0,hfzq11_1,hfzq11_2,hfzq11_3,hfzq11_4,hfzq11_5⟩ := cells6 BK720.out;obtain ⟨hczq12_0,hczq12_1,hczq12_2,hczq12_3,hczq12_4,hczq12_5,hfzq12_0,hfzq12_1,hfzq12_2,hfzq12_3,hfzq12_4,hfzq12_5⟩ := cells6 BK721.out) | ((with_reducible refine gate_callee (f := 7) rfl ?_);refine goesL_ (some 28) rfl rfl Try.func7 Z310 rfl #[.agg #[.int .i64 t707,.int .i64 t708,.int .i64 t709,.int .i64 t710,.int .i64 t711,.int .i64 t712],.agg #[.int .i64 t713,.int .i64 t714,.int .i64 t715,.int .i64 t716,.int .i64 t717,.int .i64 t718],.int .i64 t719] rfl Z249 ?_;(with_reducible refine (spec_Better.calls k t707 t708 t709 t710 t711 t712 t713 t714 t715 t716 t717 t718 t719 t724 _ A7.out).mono ?_);rintro e wq13 ⟨rfl,hb⟩;refine ⟨_,rfl,?_⟩;have n_ := Z95;clear BK720 BK721 HB;obtain ⟨BK720,BK721,HB⟩ := n_;(try clear hb);(try clear hb2);(try clear hk);(try clear hi);obtain ⟨hczq14_0,hczq14_1,hczq14_2,hczq14_3,hczq14_4,hczq14_5,hfzq14_0,hfzq14_1,hfzq14_2,hfzq14_3,hfzq14_4,hfzq14_5⟩ := cells6 BK721.out;obtain ⟨hczq15_0,hczq15_1,hczq15_2,hczq15_3,hczq15_4,hczq15_5,hfzq15_0,hfzq15_1,hfzq15_2,hfzq15_3,hfzq15_4,hfzq15_5⟩ := cells6 BK720.out) | (go_at_call 7;(with_reducible refine (spec_Better.calls k t713 t714 t715 t716 t717 t718 t707 t708 t709 t710 t711 t712 t719 t725 _ A9.out).mono ?_);rintro e wq16 ⟨rfl,hb⟩;have n_ := Z95;clear BK720 BK721 HB;obtain ⟨BK720,BK721,HB⟩ := n_;(try clear hb);(try clear hb2);(try clear hk);(try clear hi);obtain ⟨hczq17_0,hczq17_1,hczq17_2,hczq17_3,hczq17_4,hczq17_5,hfzq17_0,hfzq17_1,hfzq17_2,hfzq17_3,hfzq17_4,hfzq17_5⟩ := cells6 BK720.out) | (go_at_call 6;(with_reducible refine (impl_Better.calls k t707 t708 t709 t710 t711 t712 t707 t708 t709 t710 t711 t712 t719 t726 _ A13.out).mono ?_);rintro e wq18 ⟨rfl,hb⟩;have n_ := Z95;clear BK720 BK721 HB;obtain ⟨BK720,BK721,HB⟩ := n_;(try clear hb);(try clear hb2);(try clear hk);(try clear hi)))
 go_ret
 exact ⟨Z265,Z372⟩

/-- THE ONE PURE STATEMENT of laws_FnBetter: yours. -/
def laws_FnBetter.Pure : Prop := ∀ (l0 : List Int),l0.length ≤ maxLen → l0.length * 1 ≤ 140737488351232 → (∀ x ∈ l0,(Lit.int .u8 x).wf = true) → ∃ k,laws_FnBetter.f k l0 = some true
theorem laws_FnBetter.walk (P : laws_FnBetter.Pure) (a0 : Option Addr) (len0 cap0 : Nat) (z0 : List Int) (w : World) (w0 : (a0 = none ∧ len0 = 0 ∧ cap0 = 0 ∧ z0 = []) ∨ ∃ x,a0 = some x ∧ len0 ≤ cap0 ∧ cap0 ≤ maxLen ∧ z0.length = cap0 ∧ (∀ i,i < z0.length → w.cell? (x.add i) = some (.int .u8 (z0.getD i 0))) ∧ ∀ n ∈ z0,(Lit.int .u8 n).wf = true) (y0 : len0 * 1 ≤ 140737488351232) :
  Calls Try.prog 3 #[.slice a0 len0 cap0] w fun e w' => e = .returned (.bool true) ∧ Below w.heap.size w w' := by
 obtain ⟨l0,rfl,hr0,hm0,hw0,hc0⟩ := ReadsInt.ofRowC w0
 obtain ⟨k,h⟩ := P l0 hm0 y0 hw0
 refine (laws_FnBetter.calls k _ _ l0 true w (Kd.C_of_reads (d := (0 : Int)) (h1 := fun _ => rfl) hr0) hc0 h rfl).mono ?_
 rintro e w' ⟨rfl,hd⟩
 exact ⟨rfl,hd⟩

end Go.Proofs.Ytlflcgdcegohjaa.QFnBetter
