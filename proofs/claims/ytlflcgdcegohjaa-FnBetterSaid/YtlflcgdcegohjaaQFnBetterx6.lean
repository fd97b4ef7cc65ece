/- The machine side of FnBetter: what each Go function that it reaches comes to. Conditions: none. -/
import Derived.Test.YtlflcgdcegohjaaQFnBetterx0
import Derived.Test.YtlflcgdcegohjaaQFnBetterx1
import Derived.Test.YtlflcgdcegohjaaQFnBetterx5
namespace Go.Proofs.Ytlflcgdcegohjaa.QFnBetter
open Go.RowKit Go.Proofs.YtlflcgdcegohjaaW.PrintWords Go.Proofs.YtlflcgdcegohjaaW.PrintLast Go.Proofs.YtlflcgdcegohjaaW.PrintMore
attribute [local go_sem] max2_int min2_int max_two min_two max_three min_three max_four min_four   -- for this text's walks alone
set_option linter.unusedVariables false
set_option linter.unusedSimpArgs false

/-! ### spec_DrawBetter: function 5 -/
def spec_DrawBetter.f (k : Nat) (l0 : List Int) : Option (Int × Int × Int × Int × Int × Int × Int × Int × Int × Int × Int × Int × Int) := (spec_l1New.f k l0).bind fun bt329 => ((spec_l16Cands.f k bt329.1 bt329.2.1 bt329.2.2).bind fun bt333 => (if (bt333.1.length : Int) > 1 then (if 0 < (bt333.1.length : Int) then ((spec_l1Below.f bt329.1 bt333.2.1 bt333.2.2 (wrap64 ((bt333.1.length : Int) - 1))).bind fun bt339 => (if 0 ≤ (wrap64 (1 + bt339.1)) then (if (wrap64 (1 + bt339.1)) < (bt333.1.length : Int) then ((spec_l1Below.f bt329.1 bt339.2.1 bt339.2.2 3).bind fun bt343 => (some ((rd_T27 bt333.1 0).f0,(rd_T27 bt333.1 0).f1,(rd_T27 bt333.1 0).f2.f0,(rd_T27 bt333.1 0).f2.f1,(rd_T27 bt333.1 0).f3.f0,(rd_T27 bt333.1 0).f3.f1,(rd_T27 bt333.1 (wrap64 (1 + bt339.1))).f0,(rd_T27 bt333.1 (wrap64 (1 + bt339.1))).f1,(rd_T27 bt333.1 (wrap64 (1 + bt339.1))).f2.f0,(rd_T27 bt333.1 (wrap64 (1 + bt339.1))).f2.f1,(rd_T27 bt333.1 (wrap64 (1 + bt339.1))).f3.f0,(rd_T27 bt333.1 (wrap64 (1 + bt339.1))).f3.f1,wrap64 (1 + bt343.1)))) else (none)) else (none))) else (none)) else ((spec_l15Cand.f k bt329.1 bt333.2.1 bt333.2.2).bind fun bt346 => ((spec_l15Cand.f k bt329.1 bt346.2.2.2.2.2.2.1 bt346.2.2.2.2.2.2.2).bind fun bt354 => ((spec_l1Below.f bt329.1 bt354.2.2.2.2.2.2.1 bt354.2.2.2.2.2.2.2 3).bind fun bt362 => (some (bt346.1,bt346.2.1,bt346.2.2.1,bt346.2.2.2.1,bt346.2.2.2.2.1,bt346.2.2.2.2.2.1,bt354.1,bt354.2.1,bt354.2.2.1,bt354.2.2.2.1,bt354.2.2.2.2.1,bt354.2.2.2.2.2.1,bt362.1)))))))
theorem spec_DrawBetter.mono : ∀ a0 k,LeO (spec_DrawBetter.f k a0) (spec_DrawBetter.f (k + 1) a0) := by
 intro a0 k
 unfold spec_DrawBetter.f
 repeat' first
   | (with_reducible exact spec_l15Cand.mono _ _ _ _)
   | (with_reducible exact spec_l16Cands.mono _ _ _ _)
   | (with_reducible exact spec_l1New.mono _ _)
   | (with_reducible exact LeO.refl _)
   | (with_reducible exact LeO.none _)
   | (with_reducible refine LeO.ite ?_ ?_)
   | (with_reducible refine LeO.bind ?_ (fun _ => ?_))
   | exact spec_l15Cand.mono _ _ _ _
   | exact spec_l16Cands.mono _ _ _ _
   | exact spec_l1New.mono _ _
   | exact LeO.none _
   | refine LeO.ite ?_ ?_
   | refine LeO.bind ?_ (fun _ => ?_)
def spec_DrawBetter.T4 : Bool × List (List Nat × List Nat) := (true,[([],[]),([0],[0]),([1],[1]),([],[]),([],[]),([],[]),([5],[5]),([6],[6]),([4,7],[4,7]),([8],[8]),([3,9],[3,9]),([10],[10]),([],[]),([12,8],[12]),([13],[13]),([2,13,0,1,2],[2]),([11,15,0,1,2,3,4,5,6,7,8,9,10,11,15],[11]),([14,16,0,1,2,3,4,5,6,7,8,9,10,11,12,13,14,15,16],[14])])
def spec_DrawBetter.B4 : List Nat := [0,1,3,0,0,0,32,96,240,496,1016,2040,0,4592,12784,12791,49151,131071]
theorem spec_DrawBetter.tab4 : rtab .any (opsOf Try.f5 4) = spec_DrawBetter.T4 := by kernel_rfl
theorem spec_DrawBetter.bits4 : waitsOk spec_DrawBetter.T4.2 spec_DrawBetter.B4 = true := by kernel_rfl
set_option maxHeartbeats 8000000 in
set_option maxRecDepth 100000 in
theorem spec_DrawBetter.calls (k : Nat) (A0 : Option Addr) (c0 : Nat) (l0 : List Int) (r1 : Int) (r2 : Int) (r3 : Int) (r4 : Int) (r5 : Int) (r6 : Int) (r7 : Int) (r8 : Int) (r9 : Int) (r10 : Int) (r11 : Int) (r12 : Int) (r13 : Int) (w : World) (hr0 : Kd.C (Kd.int .u8) w A0 l0.length l0) (hc0 : l0.length ≤ c0) (h : spec_DrawBetter.f k l0 = some (r1,r2,r3,r4,r5,r6,r7,r8,r9,r10,r11,r12,r13)) :
  Calls Try.prog 5 #[.slice A0 l0.length c0] w fun e w' => e = .returned (.tuple #[.agg #[.int .i64 r1,.int .i64 r2,.int .i64 r3,.int .i64 r4,.int .i64 r5,.int .i64 r6],.agg #[.int .i64 r7,.int .i64 r8,.int .i64 r9,.int .i64 r10,.int .i64 r11,.int .i64 r12],.int .i64 r13]) ∧ Below w.heap.size w w' := by
 have hu27 := Try.underlying27
 have HR0 := Aside0.mk hr0
 have HC0 := Aside0.mk hc0
 clear hr0 hc0
 have HB := Aside0.mk (Below.refl w.heap.size w)
 have H := h
 clear h
 unfold spec_DrawBetter.f at H
 obtain ⟨⟨t329,t330,t331⟩,A20,H⟩ := Option.bind_eq_some_iff.mp H
 try dsimp only at H
 have A2 := Aside0.mk A20
 clear A20
 obtain ⟨⟨t333,t336,t337⟩,A30,H⟩ := Option.bind_eq_some_iff.mp H
 try dsimp only at H
 have A3 := Aside0.mk A30
 clear A30
 by_cases c4 : (t333.length : Int) > 1
 rotate_left
 ·rw [if_neg c4] at H
  have c4b0 : decide (1 < (t333.length : Int)) = false := decide_eq_false c4
  have c4b1 : decide (1 < t333.length) = false := decide_eq_false Z523
  clear c4
  obtain ⟨⟨t346,t347,t348,t349,t350,t351,t352,t353⟩,A310,H⟩ := Option.bind_eq_some_iff.mp H
  try dsimp only at H
  have A31 := Aside0.mk A310
  clear A310
  obtain ⟨⟨t354,t355,t356,t357,t358,t359,t360,t361⟩,A320,H⟩ := Option.bind_eq_some_iff.mp H
  try dsimp only at H
  have A32 := Aside0.mk A320
  clear A320
  obtain ⟨⟨t362,t363,t364⟩,A330,H⟩ := Option.bind_eq_some_iff.mp H
  try dsimp only at H
  have A33 := Aside0.mk A330
  clear A330
  simp only [Option.some.injEq,Prod.mk.injEq] at H
  obtain ⟨rfl,rfl,rfl,rfl,rfl,rfl,rfl,rfl,rfl,rfl,rfl,rfl,rfl⟩ := H
  go_enter Try.func5,Try.ntmps5
  go_wp2_with (first | ((with_reducible refine gate_dst (N := 2) rfl ?_);refine bE 2 #[.int .i64 0,.int .i64 0,.int .i64 0,.int .i64 0,.int .i64 0,.int .i64 0] 27 (h := ?_);intro gb327 hg wq1 hbox hb;have n_ := Z120;clear HB;obtain ⟨HB,BK327,GW327,GE327⟩ := n_;clear hb hbox hg) | ((with_reducible refine gate_dst (N := 3) rfl ?_);refine bE 3 #[.int .i64 0,.int .i64 0,.int .i64 0,.int .i64 0,.int .i64 0,.int .i64 0] 27 (h := ?_);intro gb328 hg wq2 hbox hb;have n_ := Z57;clear BK327 HB;obtain ⟨BK327,HB,BK328,GW328,GE328,NB327_328,NB328_327⟩ := n_;clear hb hbox hg) | ((with_reducible refine gate_callee (f := 8) rfl ?_);refine goesL_ (some 8) rfl rfl Try.func8 Z310 rfl #[.slice A0 l0.length c0] rfl Z249 ?_;(with_reducible refine (spec_l1New.calls k _ _ l0 t329 t330 t331 w _ ?side1 ?side2 ?side3 A2.out).mono ?_);(case side1 => exact Z219);(case side2 => exact HR0.out);(case side3 => exact HC0.out);rintro e wq3 ⟨gq4,rfl,hi,hb,hbq5⟩;refine ⟨_,rfl,?_⟩;have n_ := jA (blk_below (g := gb327) (o := .cells #[.int .i64 0,.int .i64 0,.int .i64 0,.int .i64 0,.int .i64 0,.int .i64 0] 27 (0,0)) Z490 hbq5) (jA (blk_below (g := gb328) (o := .cells #[.int .i64 0,.int .i64 0,.int .i64 0,.int .i64 0,.int .i64 0,.int .i64 0] 27 (0,0)) Z298 hbq5) (jA (hb) (jA (hi) (jA (IsS48.ne_blk hi (blk_below (g := gb327) (o := .cells #[.int .i64 0,.int .i64 0,.int .i64 0,.int .i64 0,.int .i64 0,.int .i64 0] 27 (0,0)) Z490 hbq5) Z522) (jA (Ne.symm (IsS48.ne_blk hi (blk_below (g := gb327) (o := .cells #[.int .i64 0,.int .i64 0,.int .i64 0,.int .i64 0,.int .i64 0,.int .i64 0] 27 (0,0)) Z490 hbq5) Z522)) (jA (IsS48.ne_blk hi (blk_below (g := gb328) (o := .cells #[.int .i64 0,.int .i64 0,.int .i64 0,.int .i64 0,.int .i64 0,.int .i64 0] 27 (0,0)) Z298 hbq5) Z522) (Aside0.mk (Ne.symm (IsS48.ne_blk hi (blk_below (g := gb328) (o := .cells #[.int .i64 0,.int .i64 0,.int .i64 0,.int .i64 0,.int .i64 0,.int .i64 0] 27 (0,0)) Z298 hbq5) Z522)))))))));clear BK327 BK328 HB;obtain ⟨BK327,BK328,HB,HI332,NB332_327,NB327_332,NB332_328,NB328_332⟩ := n_;(try clear hb);(try clear hbq5);(try clear hk);(try clear hi)) | ((with_reducible refine gate_callee (f := 9) rfl ?_);refine goesL_ (some 10) rfl rfl Try.func9 Z310 rfl #[.pointer (some ⟨gq4,0,none⟩)] rfl Z249 ?_;(with_reducible refine (spec_l16Cands.calls k gq4 t329 t330 t331 t333 t336 t337 w _ ?side1 ?side2 A3.out).mono ?_);(case side1 => exact Z176);(case side2 => exact Z178);rintro e wq6 ⟨vq7,rfl,hoq8,hi,hb,hk⟩;refine ⟨_,rfl,?_⟩;have n_ := jA (KeepBut.blk hk (g' := gb327) (o := .cells #[.int .i64 0,.int .i64 0,.int .i64 0,.int .i64 0,.int .i64 0,.int .i64 0] 27 (0,0)) Z490 NB327_332.out Z524) (jA (KeepBut.blk hk (g' := gb328) (o := .cells #[.int .i64 0,.int .i64 0,.int .i64 0,.int .i64 0,.int .i64 0,.int .i64 0] 27 (0,0)) Z298 NB328_332.out Z524) (jA (Kd.Q_lower (Kd.Q_newB (Kd.Q_newB hoq8 (g := gb327) (o := .cells #[.int .i64 0,.int .i64 0,.int .i64 0,.int .i64 0,.int .i64 0,.int .i64 0] 27 (0,0)) Z490) (g := gb328) (o := .cells #[.int .i64 0,.int .i64 0,.int .i64 0,.int .i64 0,.int .i64 0,.int .i64 0] 27 (0,0)) Z298) (below_size Z178)) (jA (hb) (Aside0.mk (hi)))));clear BK327 BK328 HB HI332;obtain ⟨BK327,BK328,HO335,HB,HI332⟩ := n_;(try clear hb);(try clear hbq5);(try clear hk);(try clear hi);(try clear hoq8);obtain ⟨Aoq9,coq9,eoq9,_⟩ := Kd.Q_slice HO335.out;subst eoq9) | ((with_reducible refine gate_callee (f := 11) rfl ?_);refine goesL_ (some 30) rfl rfl Try.func11 Z310 rfl #[.pointer (some ⟨gq4,0,none⟩)] rfl Z249 ?_;(with_reducible refine (spec_l15Cand.calls k gq4 t329 t336 t337 t346 t347 t348 t349 t350 t351 t352 t353 w _ ?side1 ?side2 A31.out).mono ?_);(case side1 => exact Z176);(case side2 => exact Z178);rintro e wq10 ⟨rfl,hi,hb,hk⟩;refine ⟨_,rfl,?_⟩;have n_ := jA (KeepBut.blk hk (g' := gb327) (o := .cells #[.int .i64 0,.int .i64 0,.int .i64 0,.int .i64 0,.int .i64 0,.int .i64 0] 27 (0,0)) Z490 NB327_332.out Z524) (jA (KeepBut.blk hk (g' := gb328) (o := .cells #[.int .i64 0,.int .i64 0,.int .i64 0,.int .i64 0,.int .i64 0,.int .i64 0] 27 (0,0)) Z298 NB328_332.out Z524) (jA (Kd.Q_mono (Kd.Q_keep (IsS48.apartQ (show IsS48 w _ gq4 t329 t336 t337 from Z176) Z259 Z522) hk (fun _ h => h.2)) (fun _ h => h.1)) (jA (hb) (Aside0.mk (hi)))));clear BK327 BK328 HO335 HB HI332;obtain ⟨BK327,BK328,HO335,HB,HI332⟩ := n_;(try clear hb);(try clear hbq5);(try clear hk);(try clear hi)) | ((with_reducible refine gate_callee (f := 11) rfl ?_);refine goesL_ (some 32) rfl rfl Try.func11 Z310 rfl #[.pointer (some ⟨gq4,0,none⟩)] rfl Z249 ?_;(with_reducible refine (spec_l15Cand.calls k gq4 t329 t352 t353 t354 t355 t356 t357 t358 t359 t360 t361 w _ ?side1 ?side2 A32.out).mono ?_);(case side1 => exact Z176);(case side2 => exact Z178);rintro e wq11 ⟨rfl,hi,hb,hk⟩;refine ⟨_,rfl,?_⟩;have n_ := jA (KeepBut.blk hk (g' := gb327) (o := .cells #[.int .i64 0,.int .i64 0,.int .i64 0,.int .i64 0,.int .i64 0,.int .i64 0] 27 (0,0)) Z490 NB327_332.out Z524) (jA (KeepBut.blk hk (g' := gb328) (o := .cells #[.int .i64 0,.int .i64 0,.int .i64 0,.int .i64 0,.int .i64 0,.int .i64 0] 27 (0,0)) Z298 NB328_332.out Z524) (jA (Kd.Q_mono (Kd.Q_keep (IsS48.apartQ (show IsS48 w _ gq4 t329 t352 t353 from Z176) Z259 Z522) hk (fun _ h => h.2)) (fun _ h => h.1)) (jA (hb) (Aside0.mk (hi)))));clear BK327 BK328 HO335 HB HI332;obtain ⟨BK327,BK328,HO335,HB,HI332⟩ := n_;(try clear hb);(try clear hbq5);(try clear hk);(try clear hi)) | ((with_reducible refine gate_callee (f := 10) rfl ?_);refine goesL_ (some 34) rfl rfl Try.func10 Z310 rfl #[.pointer (some ⟨gq4,0,none⟩),.int .i64 3] rfl Z249 ?_;(with_reducible refine (spec_l1Below.calls gq4 t329 t360 t361 3 t362 t363 t364 w _ ?side1 ?side2 A33.out).mono ?_);(case side1 => exact Z176);(case side2 => exact Z178);rintro e wq12 ⟨rfl,hi,hb,hk⟩;refine ⟨_,rfl,?_⟩;have n_ := jA (KeepBut.blk hk (g' := gb327) (o := .cells #[.int .i64 0,.int .i64 0,.int .i64 0,.int .i64 0,.int .i64 0,.int .i64 0] 27 (0,0)) Z490 NB327_332.out Z524) (jA (KeepBut.blk hk (g' := gb328) (o := .cells #[.int .i64 0,.int .i64 0,.int .i64 0,.int .i64 0,.int .i64 0,.int .i64 0] 27 (0,0)) Z298 NB328_332.out Z524) (jA (Kd.Q_mono (Kd.Q_keep (IsS48.apartQ (show IsS48 w _ gq4 t329 t360 t361 from Z176) Z259 Z522) hk (fun _ h => h.2)) (fun _ h => h.1)) (jA (hb) (Aside0.mk (hi)))));clear BK327 BK328 HO335 HB HI332;obtain ⟨BK327,BK328,HO335,HB,HI332⟩ := n_;(try clear hb);(try clear hbq5);(try clear hk);(try clear hi);have hnbq13 := NB327_328.out;have hncq13 := NB328_327.out;have hnbq14 := NB327_332.out;have hncq14 := NB332_327.out;obtain ⟨hczq15_0,hczq15_1,hczq15_2,hczq15_3,hczq15_4,hczq15_5,hfzq15_0,hfzq15_1,hfzq15_2,hfzq15_3,hfzq15_4,hfzq15_5⟩ := cells6 BK327.out;have hnbq16 := NB328_332.out;have hncq16 := NB332_328.out;obtain ⟨hczq17_0,hczq17_1,hczq17_2,hczq17_3,hczq17_4,hczq17_5,hfzq17_0,hfzq17_1,hfzq17_2,hfzq17_3,hfzq17_4,hfzq17_5⟩ := cells6 BK328.out))
  refine bodyPost_ret (results_list (rs := [.cell 2 27,.cell 3 27,.tmp 4]) rfl Z524 (.cell gb327 27 #[.int .i64 t346,.int .i64 t347,.int .i64 t348,.int .i64 t349,.int .i64 t350,.int .i64 t351] (0,0) _ rfl (by refine bP ?_;refine blk_far ?_ NB327_328.out _;refine bP ?_;refine blk_far ?_ NB327_328.out _;refine bP ?_;refine blk_far ?_ NB327_328.out _;refine bP ?_;refine blk_far ?_ NB327_328.out _;refine bP ?_;refine blk_far ?_ NB327_328.out _;refine bP ?_;refine blk_far ?_ NB327_328.out _;refine bP ?_;refine blk_put (cs := #[.int .i64 t346,.int .i64 t347,.int .i64 t348,.int .i64 t349,.int .i64 t350,.int .i64 0]) ?_ 5 _ rfl;refine bP ?_;refine blk_put (cs := #[.int .i64 t346,.int .i64 t347,.int .i64 t348,.int .i64 t349,.int .i64 0,.int .i64 0]) ?_ 4 _ rfl;refine bP ?_;refine blk_put (cs := #[.int .i64 t346,.int .i64 t347,.int .i64 t348,.int .i64 0,.int .i64 0,.int .i64 0]) ?_ 3 _ rfl;refine bP ?_;refine blk_put (cs := #[.int .i64 t346,.int .i64 t347,.int .i64 0,.int .i64 0,.int .i64 0,.int .i64 0]) ?_ 2 _ rfl;refine bP ?_;refine blk_put (cs := #[.int .i64 t346,.int .i64 0,.int .i64 0,.int .i64 0,.int .i64 0,.int .i64 0]) ?_ 1 _ rfl;refine bP ?_;refine blk_put (cs := #[.int .i64 0,.int .i64 0,.int .i64 0,.int .i64 0,.int .i64 0,.int .i64 0]) ?_ 0 _ rfl;refine bP ?_;exact BK327.out) Try.underlying27 rfl Z310 (.cell gb328 27 #[.int .i64 t354,.int .i64 t355,.int .i64 t356,.int .i64 t357,.int .i64 t358,.int .i64 t359] (0,0) _ rfl (by refine bP ?_;refine blk_put (cs := #[.int .i64 t354,.int .i64 t355,.int .i64 t356,.int .i64 t357,.int .i64 t358,.int .i64 0]) ?_ 5 _ rfl;refine bP ?_;refine blk_put (cs := #[.int .i64 t354,.int .i64 t355,.int .i64 t356,.int .i64 t357,.int .i64 0,.int .i64 0]) ?_ 4 _ rfl;refine bP ?_;refine blk_put (cs := #[.int .i64 t354,.int .i64 t355,.int .i64 t356,.int .i64 0,.int .i64 0,.int .i64 0]) ?_ 3 _ rfl;refine bP ?_;refine blk_put (cs := #[.int .i64 t354,.int .i64 t355,.int .i64 0,.int .i64 0,.int .i64 0,.int .i64 0]) ?_ 2 _ rfl;refine bP ?_;refine blk_put (cs := #[.int .i64 t354,.int .i64 0,.int .i64 0,.int .i64 0,.int .i64 0,.int .i64 0]) ?_ 1 _ rfl;refine bP ?_;refine blk_put (cs := #[.int .i64 0,.int .i64 0,.int .i64 0,.int .i64 0,.int .i64 0,.int .i64 0]) ?_ 0 _ rfl;refine bP ?_;refine blk_far ?_ NB328_327.out _;refine bP ?_;refine blk_far ?_ NB328_327.out _;refine bP ?_;refine blk_far ?_ NB328_327.out _;refine bP ?_;refine blk_far ?_ NB328_327.out _;refine bP ?_;refine blk_far ?_ NB328_327.out _;refine bP ?_;refine blk_far ?_ NB328_327.out _;refine bP ?_;exact BK328.out) Try.underlying27 rfl Z310 (.tmp .nil)))) rfl ?_
  exact ⟨Z265,Z178⟩
 rw [if_pos c4] at H
 have c4b0 : decide (1 < (t333.length : Int)) = true := decide_eq_true c4
 have c4b1 : decide (1 < t333.length) = true := decide_eq_true Z523
 clear c4
 obtain ⟨c5,H⟩ := ifp H
 have c5b0 : decide (0 < (t333.length : Int)) = true := decide_eq_true c5
 have c5b1 : decide (0 < t333.length) = true := decide_eq_true Z523
 clear c5
 obtain ⟨⟨t339,t340,t341⟩,A60,H⟩ := Option.bind_eq_some_iff.mp H
 try dsimp only at H
 have A6 := Aside0.mk A60
 clear A60
 obtain ⟨ji7,hji7⟩ : ∃ j_ : Int,(wrap64 (1 + t339)) = j_ := ⟨_,rfl⟩
 replace H : (if 0 ≤ (ji7) then (if (ji7) < (t333.length : Int) then ((spec_l1Below.f t329 t340 t341 3).bind fun bt343 => (some ((rd_T27 t333 0).f0,(rd_T27 t333 0).f1,(rd_T27 t333 0).f2.f0,(rd_T27 t333 0).f2.f1,(rd_T27 t333 0).f3.f0,(rd_T27 t333 0).f3.f1,(rd_T27 t333 (ji7)).f0,(rd_T27 t333 (ji7)).f1,(rd_T27 t333 (ji7)).f2.f0,(rd_T27 t333 (ji7)).f2.f1,(rd_T27 t333 (ji7)).f3.f0,(rd_T27 t333 (ji7)).f3.f1,wrap64 (1 + bt343.1)))) else (none)) else (none)) = some (r1,r2,r3,r4,r5,r6,r7,r8,r9,r10,r11,r12,r13) := by first | (rw [hji7] at H;exact H) | (simp only [hji7] at H ⊢;exact H)
 (try rw [hji7] at A2)
 (try rw [hji7] at A3)
 (try rw [hji7] at A6)
 have hji7w : (IntKind.i64.wrap (1 + t339)) = ji7 := (i64_w _).trans hji7
 obtain ⟨c8,H⟩ := ifp H
 have c8b0 : decide (0 ≤ (ji7)) = true := decide_eq_true c8
 clear c8
 obtain ⟨c9,H⟩ := ifp H
 have c9b0 : decide ((ji7) < (t333.length : Int)) = true := decide_eq_true c9
 clear c9
 obtain ⟨⟨t343,t344,t345⟩,A100,H⟩ := Option.bind_eq_some_iff.mp H
 try dsimp only at H
 have A10 := Aside0.mk A100
 clear A100
 simp only [Option.some.injEq,Prod.mk.injEq] at H
 obtain ⟨rfl,rfl,rfl,rfl,rfl,rfl,rfl,rfl,rfl,rfl,rfl,rfl,rfl⟩ := H
 go_enter Try.func5,Try.ntmps5
 try go_wp2_with (first | ((with_reducible refine gate_dst (N := 2) rfl ?_);refine bE 2 #[.int .i64 0,.int .i64 0,.int .i64 0,.int .i64 0,.int .i64 0,.int .i64 0] 27 (h := ?_);intro gb327 hg w11 hbox hb;have n_ := Z120;clear HB;obtain ⟨HB,BK327,GW327,GE327⟩ := n_;clear hb hbox hg) | ((with_reducible refine gate_dst (N := 3) rfl ?_);refine bE 3 #[.int .i64 0,.int .i64 0,.int .i64 0,.int .i64 0,.int .i64 0,.int .i64 0] 27 (h := ?_);intro gb328 hg w12 hbox hb;have n_ := Z57;clear BK327 HB;obtain ⟨BK327,HB,BK328,GW328,GE328,NB327_328,NB328_327⟩ := n_;clear hb hbox hg) | ((with_reducible refine gate_callee (f := 8) rfl ?_);refine goesL_ (some 8) rfl rfl Try.func8 Z310 rfl #[.slice A0 l0.length c0] rfl Z249 ?_;(with_reducible refine (spec_l1New.calls k _ _ l0 t329 t330 t331 w _ ?side1 ?side2 ?side3 A2.out).mono ?_);(case side1 => exact Z219);(case side2 => exact HR0.out);(case side3 => exact HC0.out);rintro e w13 ⟨g332,rfl,hi,hb,hb2⟩;refine ⟨_,rfl,?_⟩;have n_ := jA (blk_below (g := gb327) (o := .cells #[.int .i64 0,.int .i64 0,.int .i64 0,.int .i64 0,.int .i64 0,.int .i64 0] 27 (0,0)) Z490 hb2) (jA (blk_below (g := gb328) (o := .cells #[.int .i64 0,.int .i64 0,.int .i64 0,.int .i64 0,.int .i64 0,.int .i64 0] 27 (0,0)) Z298 hb2) (jA (hb) (jA (hi) (jA (IsS48.ne_blk hi (blk_below (g := gb327) (o := .cells #[.int .i64 0,.int .i64 0,.int .i64 0,.int .i64 0,.int .i64 0,.int .i64 0] 27 (0,0)) Z490 hb2) Z522) (jA (Ne.symm (IsS48.ne_blk hi (blk_below (g := gb327) (o := .cells #[.int .i64 0,.int .i64 0,.int .i64 0,.int .i64 0,.int .i64 0,.int .i64 0] 27 (0,0)) Z490 hb2) Z522)) (jA (IsS48.ne_blk hi (blk_below (g := gb328) (o := .cells #[.int .i64 0,.int .i64 0,.int .i64 0,.int .i64 0,.int .i64 0,.int .i64 0] 27 (0,0)) Z298 hb2) Z522) (Aside0.mk (Ne.symm (IsS48.ne_blk hi (blk_below (g := gb328) (o := .cells #[.int .i64 0,.int .i64 0,.int .i64 0,.int .i64 0,.int .i64 0,.int .i64 0] 27 (0,0)) Z298 hb2) Z522)))))))));clear BK327 BK328 HB;obtain ⟨BK327,BK328,HB,HI332,NB332_327,NB327_332,NB332_328,NB328_332⟩ := n_;(try clear hb);(try clear hb2);(try clear hk);(try clear hi)) | ((with_reducible refine gate_callee (f := 9) rfl ?_);refine goesL_ (some 10) rfl rfl Try.func9 Z310 rfl #[.pointer (some ⟨g332,0,none⟩)] rfl Z249 ?_;(with_reducible refine (spec_l16Cands.calls k g332 t329 t330 t331 t333 t336 t337 w _ ?side1 ?side2 A3.out).mono ?_);(case side1 => exact Z176);(case side2 => exact Z178);rintro e w14 ⟨v334,rfl,ho0,hi,hb,hk⟩;refine ⟨_,rfl,?_⟩;have n_ := jA (KeepBut.blk hk (g' := gb327) (o := .cells #[.int .i64 0,.int .i64 0,.int .i64 0,.int .i64 0,.int .i64 0,.int .i64 0] 27 (0,0)) Z490 NB327_332.out Z524) (jA (KeepBut.blk hk (g' := gb328) (o := .cells #[.int .i64 0,.int .i64 0,.int .i64 0,.int .i64 0,.int .i64 0,.int .i64 0] 27 (0,0)) Z298 NB328_332.out Z524) (jA (Kd.Q_lower (Kd.Q_newB (Kd.Q_newB ho0 (g := gb327) (o := .cells #[.int .i64 0,.int .i64 0,.int .i64 0,.int .i64 0,.int .i64 0,.int .i64 0] 27 (0,0)) Z490) (g := gb328) (o := .cells #[.int .i64 0,.int .i64 0,.int .i64 0,.int .i64 0,.int .i64 0,.int .i64 0] 27 (0,0)) Z298) (below_size Z178)) (jA (hb) (Aside0.mk (hi)))));clear BK327 BK328 HB HI332;obtain ⟨BK327,BK328,HO335,HB,HI332⟩ := n_;(try clear hb);(try clear hb2);(try clear hk);(try clear hi);(try clear ho0);obtain ⟨Ao15,co15,eo15,_⟩ := Kd.Q_slice HO335.out;subst eo15))
 have n0_ := Aside0.mk (Kd.Q_drew HO335.out)
 have n1_ := Aside0.mk (blk_drew BK327.out)
 have n2_ := Aside0.mk (blk_drew BK328.out)
 have n3_ := Aside0.mk (IsS48.drew HI332.out)
 have n4_ := Aside0.mk (below_drew1 HB.out)
 clear HO335
 clear BK327
 clear BK328
 clear HI332
 clear HB
 have HO335 := n0_
 have BK327 := n1_
 have BK328 := n2_
 have HI332 := n3_
 have HB := n4_
 clear n0_ n1_ n2_ n3_ n4_
 have p338 : 0 ≤ (0 : Int) := Z523
 have q338 : 0 < (t333.length : Int) := of_decide_eq_true Z293
 obtain ⟨ad338,e338,hx338_0,hx338_1,hx338_2,hx338_3,hx338_4,hx338_5⟩ := at_T27 (Kd.Q_reads' HO335.out).2.2 0 p338 q338
 cases e338
 have qi338 : (0 < t333.length) = True := eq_true Z523
 (try rw [show ((0 : Int)).toNat = 0 from rfl] at hx338_0)
 (try rw [show 0 * 6 = 0 from rfl] at hx338_0)
 (try rw [Addr.add_zero'] at hx338_0)
 (try rw [show ((0 : Int)).toNat = 0 from rfl] at hx338_1)
 (try rw [show 0 * 6 = 0 from rfl] at hx338_1)
 (try rw [Addr.add_zero'] at hx338_1)
 (try rw [show ((0 : Int)).toNat = 0 from rfl] at hx338_2)
 (try rw [show 0 * 6 = 0 from rfl] at hx338_2)
 (try rw [Addr.add_zero'] at hx338_2)
 (try rw [show ((0 : Int)).toNat = 0 from rfl] at hx338_3)
 (try rw [show 0 * 6 = 0 from rfl] at hx338_3)
 (try rw [Addr.add_zero'] at hx338_3)
 (try rw [show ((0 : Int)).toNat = 0 from rfl] at hx338_4)
 (try rw [show 0 * 6 = 0 from rfl] at hx338_4)
 (try rw [Addr.add_zero'] at hx338_4)
 (try rw [show ((0 : Int)).toNat = 0 from rfl] at hx338_5)
 (try rw [show 0 * 6 = 0 from rfl] at hx338_5)
 (try rw [Addr.add_zero'] at hx338_5)
 replace p338 := eq_true p338
 replace q338 := eq_true q338
 have p342 : 0 ≤ ((ji7) : Int) := of_decide_eq_true Z293
 have q342 : (ji7) < (t333.length : Int) := of_decide_eq_true Z293
 obtain ⟨ad342,e342,hx342_0,hx342_1,hx342_2,hx342_3,hx342_4,hx342_5⟩ := at_T27 (Kd.Q_reads' HO335.out).2.2 (ji7) p342 q342
 obtain rfl : ad338 = ad342 := (by injection e342)
 replace p342 := eq_true p342
 replace q342 := eq_true q342
 refine start_ (n := 18) (S := fun w' => w'.cell? ad338 = some (.int .i64 ((rd_T27 t333 0).f0)) ∧ w'.cell? ⟨ad338.block,ad338.off + 1,none⟩ = some (.int .i64 ((rd_T27 t333 0).f1)) ∧ w'.cell? ⟨ad338.block,ad338.off + 2,none⟩ = some (.int .i64 ((rd_T27 t333 0).f2.f0)) ∧ w'.cell? ⟨ad338.block,ad338.off + 3,none⟩ = some (.int .i64 ((rd_T27 t333 0).f2.f1)) ∧ w'.cell? ⟨ad338.block,ad338.off + 4,none⟩ = some (.int .i64 ((rd_T27 t333 0).f3.f0)) ∧ w'.cell? ⟨ad338.block,ad338.off + 5,none⟩ = some (.int .i64 ((rd_T27 t333 0).f3.f1)) ∧ w'.cell? (ad338.add (((ji7)).toNat * 6)) = some (.int .i64 ((rd_T27 t333 (ji7)).f0)) ∧ w'.cell? ⟨(ad338.add (((ji7)).toNat * 6)).block,(ad338.add (((ji7)).toNat * 6)).off + 1,none⟩ = some (.int .i64 ((rd_T27 t333 (ji7)).f1)) ∧ w'.cell? ⟨(ad338.add (((ji7)).toNat * 6)).block,(ad338.add (((ji7)).toNat * 6)).off + 2,none⟩ = some (.int .i64 ((rd_T27 t333 (ji7)).f2.f0)) ∧ w'.cell? ⟨(ad338.add (((ji7)).toNat * 6)).block,(ad338.add (((ji7)).toNat * 6)).off + 3,none⟩ = some (.int .i64 ((rd_T27 t333 (ji7)).f2.f1)) ∧ w'.cell? ⟨(ad338.add (((ji7)).toNat * 6)).block,(ad338.add (((ji7)).toNat * 6)).off + 4,none⟩ = some (.int .i64 ((rd_T27 t333 (ji7)).f3.f0)) ∧ w'.cell? ⟨(ad338.add (((ji7)).toNat * 6)).block,(ad338.add (((ji7)).toNat * 6)).off + 5,none⟩ = some (.int .i64 ((rd_T27 t333 (ji7)).f3.f1))) (ds := []) (qM 18 0) Z310 rfl (by kernel_rfl) ⟨hx338_0,hx338_1,hx338_2,hx338_3,hx338_4,hx338_5,hx342_0,hx342_1,hx342_2,hx342_3,hx342_4,hx342_5⟩ (fun hHeld => ?_);refine with_tabW spec_DrawBetter.tab4 spec_DrawBetter.bits4 (fun HT_ HW_ => ?_)
 generalize w14.drew = w16 at HO335 BK327 BK328 HI332 HB hx338_0 hx338_1 hx338_2 hx338_3 hx338_4 hx338_5 hx342_0 hx342_1 hx342_2 hx342_3 hx342_4 hx342_5 hHeld ⊢
 refine rP 0 14 18 1 HT_ (h := ?_)
 refine rP 1 15 18 3 HT_ (h := ?_)
 refine rP 3 17 18 11 HT_ (h := ?_)
 refine rP 4 18 18 27 HT_ (h := ?_)
 refine rP 5 19 18 59 HT_ (h := ?_)
 refine rP 6 20 18 123 HT_ (h := ?_)
 refine rP 7 21 18 251 HT_ (h := ?_)
 refine rP 12 26 18 4347 HT_ (h := ?_)
 refine rT12 2 16 18 4351 HT_ HW_ hHeld (h := ?_)
 refine rO 8 22 18 4607 HT_ (h := fun K hK => ?_)
 refine goes_ Try.func10 Z310 rfl #[.pointer (some ⟨g332,0,none⟩),.int .i64 (wrap64 ((t333.length : Int) - 1))] Z311 rfl rfl Z249 ?_
 with_reducible refine (spec_l1Below.calls g332 t329 t336 t337 (wrap64 ((t333.length : Int) - 1)) t339 t340 t341 w _ ?side1 ?side2 A6.out).mono ?_
 (case side1 => exact Z176)
 (case side2 => exact Z178)
 rintro e w17 ⟨rfl,hi,hb,hk⟩
 have HS0_ := keep_cell hk (hHeld.1) Z143
 have HS1_ := keep_cell hk (hHeld.2.1) Z143
 have HS2_ := keep_cell hk (hHeld.2.2.1) Z143
 have HS3_ := keep_cell hk (hHeld.2.2.2.1) Z143
 have HS4_ := keep_cell hk (hHeld.2.2.2.2.1) Z143
 have HS5_ := keep_cell hk (hHeld.2.2.2.2.2.1) Z143
 have HS6_ := keep_cell hk (hHeld.2.2.2.2.2.2.1) Z143
 have HS7_ := keep_cell hk (hHeld.2.2.2.2.2.2.2.1) Z143
 have HS8_ := keep_cell hk (hHeld.2.2.2.2.2.2.2.2.1) Z143
 have HS9_ := keep_cell hk (hHeld.2.2.2.2.2.2.2.2.2.1) Z143
 have HS10_ := keep_cell hk (hHeld.2.2.2.2.2.2.2.2.2.2.1) Z143
 have HS11_ := keep_cell hk (hHeld.2.2.2.2.2.2.2.2.2.2.2) Z143
 refine ⟨_,rfl,?_⟩
 have n0_ := Aside0.mk (KeepBut.blk hk (g' := gb327) (o := .cells #[.int .i64 0,.int .i64 0,.int .i64 0,.int .i64 0,.int .i64 0,.int .i64 0] 27 (0,0)) Z490 NB327_332.out Z524)
 have n1_ := Aside0.mk (KeepBut.blk hk (g' := gb328) (o := .cells #[.int .i64 0,.int .i64 0,.int .i64 0,.int .i64 0,.int .i64 0,.int .i64 0] 27 (0,0)) Z298 NB328_332.out Z524)
 have n2_ := Aside0.mk (Kd.Q_mono (Kd.Q_keep (IsS48.apartQ (show IsS48 w _ g332 t329 t336 t337 from Z176) Z259 Z522) hk (fun _ h => h.2)) (fun _ h => h.1))
 have n3_ := Aside0.mk (hb)
 have n4_ := Aside0.mk (hi)
 clear BK327
 clear BK328
 clear HO335
 clear HB
 clear HI332
 have BK327 := n0_
 have BK328 := n1_
 have HO335 := n2_
 have HB := n3_
 have HI332 := n4_
 clear n0_ n1_ n2_ n3_ n4_
 (try clear hb)
 (try clear hb2)
 (try clear hk)
 (try clear hi)
 refine hK.out _ _ ⟨HS0_,HS1_,HS2_,HS3_,HS4_,HS5_,HS6_,HS7_,HS8_,HS9_,HS10_,HS11_⟩ (fun hHeld => ?_)
 clear hK K
 refine rN (h := ?_)
 refine rP 9 23 18 5119 HT_ (h := ?_)
 refine rP 10 24 18 6143 HT_ (h := ?_)
 refine rT12 11 25 18 8191 HT_ HW_ hHeld (h := ?_)
 refine rO 13 27 18 16383 HT_ (h := fun K hK => ?_)
 refine goes_ Try.func10 Z310 rfl #[.pointer (some ⟨g332,0,none⟩),.int .i64 3] Z311 rfl rfl Z249 ?_
 with_reducible refine (spec_l1Below.calls g332 t329 t340 t341 3 t343 t344 t345 w _ ?side1 ?side2 A10.out).mono ?_
 (case side1 => exact Z176)
 (case side2 => exact Z178)
 rintro e w18 ⟨rfl,hi,hb,hk⟩
 have HS0_ := keep_cell hk (hHeld.1) Z143
 have HS1_ := keep_cell hk (hHeld.2.1) Z143
 have HS2_ := keep_cell hk (hHeld.2.2.1) Z143
 have HS3_ := keep_cell hk (hHeld.2.2.2.1) Z143
 have HS4_ := keep_cell hk (hHeld.2.2.2.2.1) Z143
 have HS5_ := keep_cell hk (hHeld.2.2.2.2.2.1) Z143
 have HS6_ := keep_cell hk (hHeld.2.2.2.2.2.2.1) Z143
 have HS7_ := keep_cell hk (hHeld.2.2.2.2.2.2.2.1) Z143
 have HS8_ := keep_cell hk (hHeld.2.2.2.2.2.2.2.2.1) Z143
 have HS9_ := keep_cell hk (hHeld.2.2.2.2.2.2.2.2.2.1) Z143
 have HS10_ := keep_cell hk (hHeld.2.2.2.2.2.2.2.2.2.2.1) Z143
 have HS11_ := keep_cell hk (hHeld.2.2.2.2.2.2.2.2.2.2.2) Z143
 refine ⟨_,rfl,?_⟩
 have n0_ := Aside0.mk (KeepBut.blk hk (g' := gb327) (o := .cells #[.int .i64 0,.int .i64 0,.int .i64 0,.int .i64 0,.int .i64 0,.int .i64 0] 27 (0,0)) Z490 NB327_332.out Z524)
 have n1_ := Aside0.mk (KeepBut.blk hk (g' := gb328) (o := .cells #[.int .i64 0,.int .i64 0,.int .i64 0,.int .i64 0,.int .i64 0,.int .i64 0] 27 (0,0)) Z298 NB328_332.out Z524)
 have n2_ := Aside0.mk (Kd.Q_mono (Kd.Q_keep (IsS48.apartQ (show IsS48 w _ g332 t329 t340 t341 from Z176) Z259 Z522) hk (fun _ h => h.2)) (fun _ h => h.1))
 have n3_ := Aside0.mk (hb)
 have n4_ := Aside0.mk (hi)
 clear BK327
 clear BK328
 clear HO335
 clear HB
 clear HI332
 have BK327 := n0_
 have BK328 := n1_
 have HO335 := n2_
 have HB := n3_
 have HI332 := n4_
 clear n0_ n1_ n2_ n3_ n4_
 (try clear hb)
 (try clear hb2)
 (try clear hk)
 (try clear hi)
 refine hK.out _ _ ⟨HS0_,HS1_,HS2_,HS3_,HS4_,HS5_,HS6_,HS7_,HS8_,HS9_,HS10_,HS11_⟩ (fun hHeld => ?_)
 clear hK K
 refine rN (h := ?_)
 refine rP 14 28 18 32767 HT_ (h := ?_)
 refine one_ (i := 15) (N := none) (qM 18 65535) rfl rfl (one_of HT_.out Z310) Z522 (fun K hK => ?_)
 have hs19 : w18.cell? ⟨gb327,0,none⟩ = some (.int .i64 0) := bc BK327 0
 have hfs19 := blk_frozen BK327.out 0
 have hns19_1 := NB328_327.out
 have hms19_1 := NB327_328.out
 have hs20 : w18.cell? ⟨gb327,1,none⟩ = some (.int .i64 0) := bc BK327 1
 have hfs20 := blk_frozen BK327.out 1
 have hns20_1 := NB328_327.out
 have hms20_1 := NB327_328.out
 have hs21 : w18.cell? ⟨gb327,2,none⟩ = some (.int .i64 0) := bc BK327 2
 have hfs21 := blk_frozen BK327.out 2
 have hns21_1 := NB328_327.out
 have hms21_1 := NB327_328.out
 have hs22 : w18.cell? ⟨gb327,3,none⟩ = some (.int .i64 0) := bc BK327 3
 have hfs22 := blk_frozen BK327.out 3
 have hns22_1 := NB328_327.out
 have hms22_1 := NB327_328.out
 have hs23 : w18.cell? ⟨gb327,4,none⟩ = some (.int .i64 0) := bc BK327 4
 have hfs23 := blk_frozen BK327.out 4
 have hns23_1 := NB328_327.out
 have hms23_1 := NB327_328.out
 have hs24 : w18.cell? ⟨gb327,5,none⟩ = some (.int .i64 0) := bc BK327 5
 have hfs24 := blk_frozen BK327.out 5
 have hns24_1 := NB328_327.out
 have hms24_1 := NB327_328.out
 refine skip_ (w1 := ?_) Z311 rfl ?_ ?_
 rotate_left
 ·go_simp
  rfl
 refine hK.out _ _ ⟨((cell_far (p := ⟨gb327,_,none⟩) Z151 _).trans (((cell_far (p := ⟨gb327,_,none⟩) Z151 _).trans (((cell_far (p := ⟨gb327,_,none⟩) Z151 _).trans (((cell_far (p := ⟨gb327,_,none⟩) Z151 _).trans (((cell_far (p := ⟨gb327,_,none⟩) Z151 _).trans (((cell_far (p := ⟨gb327,_,none⟩) Z151 _).trans (hHeld.1)))))))))))),((cell_far (p := ⟨gb327,_,none⟩) Z151 _).trans (((cell_far (p := ⟨gb327,_,none⟩) Z151 _).trans (((cell_far (p := ⟨gb327,_,none⟩) Z151 _).trans (((cell_far (p := ⟨gb327,_,none⟩) Z151 _).trans (((cell_far (p := ⟨gb327,_,none⟩) Z151 _).trans (((cell_far (p := ⟨gb327,_,none⟩) Z151 _).trans (hHeld.2.1)))))))))))),((cell_far (p := ⟨gb327,_,none⟩) Z151 _).trans (((cell_far (p := ⟨gb327,_,none⟩) Z151 _).trans (((cell_far (p := ⟨gb327,_,none⟩) Z151 _).trans (((cell_far (p := ⟨gb327,_,none⟩) Z151 _).trans (((cell_far (p := ⟨gb327,_,none⟩) Z151 _).trans (((cell_far (p := ⟨gb327,_,none⟩) Z151 _).trans (hHeld.2.2.1)))))))))))),((cell_far (p := ⟨gb327,_,none⟩) Z151 _).trans (((cell_far (p := ⟨gb327,_,none⟩) Z151 _).trans (((cell_far (p := ⟨gb327,_,none⟩) Z151 _).trans (((cell_far (p := ⟨gb327,_,none⟩) Z151 _).trans (((cell_far (p := ⟨gb327,_,none⟩) Z151 _).trans (((cell_far (p := ⟨gb327,_,none⟩) Z151 _).trans (hHeld.2.2.2.1)))))))))))),((cell_far (p := ⟨gb327,_,none⟩) Z151 _).trans (((cell_far (p := ⟨gb327,_,none⟩) Z151 _).trans (((cell_far (p := ⟨gb327,_,none⟩) Z151 _).trans (((cell_far (p := ⟨gb327,_,none⟩) Z151 _).trans (((cell_far (p := ⟨gb327,_,none⟩) Z151 _).trans (((cell_far (p := ⟨gb327,_,none⟩) Z151 _).trans (hHeld.2.2.2.2.1)))))))))))),((cell_far (p := ⟨gb327,_,none⟩) Z151 _).trans (((cell_far (p := ⟨gb327,_,none⟩) Z151 _).trans (((cell_far (p := ⟨gb327,_,none⟩) Z151 _).trans (((cell_far (p := ⟨gb327,_,none⟩) Z151 _).trans (((cell_far (p := ⟨gb327,_,none⟩) Z151 _).trans (((cell_far (p := ⟨gb327,_,none⟩) Z151 _).trans (hHeld.2.2.2.2.2.1)))))))))))),((cell_far (p := ⟨gb327,_,none⟩) Z151 _).trans (((cell_far (p := ⟨gb327,_,none⟩) Z151 _).trans (((cell_far (p := ⟨gb327,_,none⟩) Z151 _).trans (((cell_far (p := ⟨gb327,_,none⟩) Z151 _).trans (((cell_far (p := ⟨gb327,_,none⟩) Z151 _).trans (((cell_far (p := ⟨gb327,_,none⟩) Z151 _).trans (hHeld.2.2.2.2.2.2.1)))))))))))),((cell_far (p := ⟨gb327,_,none⟩) Z151 _).trans (((cell_far (p := ⟨gb327,_,none⟩) Z151 _).trans (((cell_far (p := ⟨gb327,_,none⟩) Z151 _).trans (((cell_far (p := ⟨gb327,_,none⟩) Z151 _).trans (((cell_far (p := ⟨gb327,_,none⟩) Z151 _).trans (((cell_far (p := ⟨gb327,_,none⟩) Z151 _).trans (hHeld.2.2.2.2.2.2.2.1)))))))))))),((cell_far (p := ⟨gb327,_,none⟩) Z151 _).trans (((cell_far (p := ⟨gb327,_,none⟩) Z151 _).trans (((cell_far (p := ⟨gb327,_,none⟩) Z151 _).trans (((cell_far (p := ⟨gb327,_,none⟩) Z151 _).trans (((cell_far (p := ⟨gb327,_,none⟩) Z151 _).trans (((cell_far (p := ⟨gb327,_,none⟩) Z151 _).trans (hHeld.2.2.2.2.2.2.2.2.1)))))))))))),((cell_far (p := ⟨gb327,_,none⟩) Z151 _).trans (((cell_far (p := ⟨gb327,_,none⟩) Z151 _).trans (((cell_far (p := ⟨gb327,_,none⟩) Z151 _).trans (((cell_far (p := ⟨gb327,_,none⟩) Z151 _).trans (((cell_far (p := ⟨gb327,_,none⟩) Z151 _).trans (((cell_far (p := ⟨gb327,_,none⟩) Z151 _).trans (hHeld.2.2.2.2.2.2.2.2.2.1)))))))))))),((cell_far (p := ⟨gb327,_,none⟩) Z151 _).trans (((cell_far (p := ⟨gb327,_,none⟩) Z151 _).trans (((cell_far (p := ⟨gb327,_,none⟩) Z151 _).trans (((cell_far (p := ⟨gb327,_,none⟩) Z151 _).trans (((cell_far (p := ⟨gb327,_,none⟩) Z151 _).trans (((cell_far (p := ⟨gb327,_,none⟩) Z151 _).trans (hHeld.2.2.2.2.2.2.2.2.2.2.1)))))))))))),((cell_far (p := ⟨gb327,_,none⟩) Z151 _).trans (((cell_far (p := ⟨gb327,_,none⟩) Z151 _).trans (((cell_far (p := ⟨gb327,_,none⟩) Z151 _).trans (((cell_far (p := ⟨gb327,_,none⟩) Z151 _).trans (((cell_far (p := ⟨gb327,_,none⟩) Z151 _).trans (((cell_far (p := ⟨gb327,_,none⟩) Z151 _).trans (hHeld.2.2.2.2.2.2.2.2.2.2.2))))))))))))⟩ (fun hHeld => ?_)
 clear hK K
 refine one_ (i := 16) (N := none) (qM 18 131071) rfl rfl (one_of HT_.out Z310) Z522 (fun K hK => ?_)
 have hs25 : w18.cell? ⟨gb328,0,none⟩ = some (.int .i64 0) := bc BK328 0
 have hfs25 := blk_frozen BK328.out 0
 have hns25_0 := NB327_328.out
 have hms25_0 := NB328_327.out
 have hs26 : w18.cell? ⟨gb328,1,none⟩ = some (.int .i64 0) := bc BK328 1
 have hfs26 := blk_frozen BK328.out 1
 have hns26_0 := NB327_328.out
 have hms26_0 := NB328_327.out
 have hs27 : w18.cell? ⟨gb328,2,none⟩ = some (.int .i64 0) := bc BK328 2
 have hfs27 := blk_frozen BK328.out 2
 have hns27_0 := NB327_328.out
 have hms27_0 := NB328_327.out
 have hs28 : w18.cell? ⟨gb328,3,none⟩ = some (.int .i64 0) := bc BK328 3
 have hfs28 := blk_frozen BK328.out 3
 have hns28_0 := NB327_328.out
 have hms28_0 := NB328_327.out
 have hs29 : w18.cell? ⟨gb328,4,none⟩ = some (.int .i64 0) := bc BK328 4
 have hfs29 := blk_frozen BK328.out 4
 have hns29_0 := NB327_328.out
 have hms29_0 := NB328_327.out
 have hs30 : w18.cell? ⟨gb328,5,none⟩ = some (.int .i64 0) := bc BK328 5
 have hfs30 := blk_frozen BK328.out 5
 have hns30_0 := NB327_328.out
 have hms30_0 := NB328_327.out
 refine skip_ (w1 := ?_) Z311 rfl ?_ ?_
 rotate_left
 ·go_simp
  rfl
 refine hK.out _ _ ⟨((cell_far (p := ⟨gb328,_,none⟩) Z152 _).trans (((cell_far (p := ⟨gb328,_,none⟩) Z152 _).trans (((cell_far (p := ⟨gb328,_,none⟩) Z152 _).trans (((cell_far (p := ⟨gb328,_,none⟩) Z152 _).trans (((cell_far (p := ⟨gb328,_,none⟩) Z152 _).trans (((cell_far (p := ⟨gb328,_,none⟩) Z152 _).trans (hHeld.1)))))))))))),((cell_far (p := ⟨gb328,_,none⟩) Z152 _).trans (((cell_far (p := ⟨gb328,_,none⟩) Z152 _).trans (((cell_far (p := ⟨gb328,_,none⟩) Z152 _).trans (((cell_far (p := ⟨gb328,_,none⟩) Z152 _).trans (((cell_far (p := ⟨gb328,_,none⟩) Z152 _).trans (((cell_far (p := ⟨gb328,_,none⟩) Z152 _).trans (hHeld.2.1)))))))))))),((cell_far (p := ⟨gb328,_,none⟩) Z152 _).trans (((cell_far (p := ⟨gb328,_,none⟩) Z152 _).trans (((cell_far (p := ⟨gb328,_,none⟩) Z152 _).trans (((cell_far (p := ⟨gb328,_,none⟩) Z152 _).trans (((cell_far (p := ⟨gb328,_,none⟩) Z152 _).trans (((cell_far (p := ⟨gb328,_,none⟩) Z152 _).trans (hHeld.2.2.1)))))))))))),((cell_far (p := ⟨gb328,_,none⟩) Z152 _).trans (((cell_far (p := ⟨gb328,_,none⟩) Z152 _).trans (((cell_far (p := ⟨gb328,_,none⟩) Z152 _).trans (((cell_far (p := ⟨gb328,_,none⟩) Z152 _).trans (((cell_far (p := ⟨gb328,_,none⟩) Z152 _).trans (((cell_far (p := ⟨gb328,_,none⟩) Z152 _).trans (hHeld.2.2.2.1)))))))))))),((cell_far (p := ⟨gb328,_,none⟩) Z152 _).trans (((cell_far (p := ⟨gb328,_,none⟩) Z152 _).trans (((cell_far (p := ⟨gb328,_,none⟩) Z152 _).trans (((cell_far (p := ⟨gb328,_,none⟩) Z152 _).trans (((cell_far (p := ⟨gb328,_,none⟩) Z152 _).trans (((cell_far (p := ⟨gb328,_,none⟩) Z152 _).trans (hHeld.2.2.2.2.1)))))))))))),((cell_far (p := ⟨gb328,_,none⟩) Z152 _).trans (((cell_far (p := ⟨gb328,_,none⟩) Z152 _).trans (((cell_far (p := ⟨gb328,_,none⟩) Z152 _).trans (((cell_far (p := ⟨gb328,_,none⟩) Z152 _).trans (((cell_far (p := ⟨gb328,_,none⟩) Z152 _).trans (((cell_far (p := ⟨gb328,_,none⟩) Z152 _).trans (hHeld.2.2.2.2.2.1)))))))))))),((cell_far (p := ⟨gb328,_,none⟩) Z152 _).trans (((cell_far (p := ⟨gb328,_,none⟩) Z152 _).trans (((cell_far (p := ⟨gb328,_,none⟩) Z152 _).trans (((cell_far (p := ⟨gb328,_,none⟩) Z152 _).trans (((cell_far (p := ⟨gb328,_,none⟩) Z152 _).trans (((cell_far (p := ⟨gb328,_,none⟩) Z152 _).trans (hHeld.2.2.2.2.2.2.1)))))))))))),((cell_far (p := ⟨gb328,_,none⟩) Z152 _).trans (((cell_far (p := ⟨gb328,_,none⟩) Z152 _).trans (((cell_far (p := ⟨gb328,_,none⟩) Z152 _).trans (((cell_far (p := ⟨gb328,_,none⟩) Z152 _).trans (((cell_far (p := ⟨gb328,_,none⟩) Z152 _).trans (((cell_far (p := ⟨gb328,_,none⟩) Z152 _).trans (hHeld.2.2.2.2.2.2.2.1)))))))))))),((cell_far (p := ⟨gb328,_,none⟩) Z152 _).trans (((cell_far (p := ⟨gb328,_,none⟩) Z152 _).trans (((cell_far (p := ⟨gb328,_,none⟩) Z152 _).trans (((cell_far (p := ⟨gb328,_,none⟩) Z152 _).trans (((cell_far (p := ⟨gb328,_,none⟩) Z152 _).trans (((cell_far (p := ⟨gb328,_,none⟩) Z152 _).trans (hHeld.2.2.2.2.2.2.2.2.1)))))))))))),((cell_far (p := ⟨gb328,_,none⟩) Z152 _).trans (((cell_far (p := ⟨gb328,_,none⟩) Z152 _).trans (((cell_far (p := ⟨gb328,_,none⟩) Z152 _).trans (((cell_far (p := ⟨gb328,_,none⟩) Z152 _).trans (((cell_far (p := ⟨gb328,_,none⟩) Z152 _).trans (((cell_far (p := ⟨gb328,_,none⟩) Z152 _).trans (hHeld.2.2.2.2.2.2.2.2.2.1)))))))))))),((cell_far (p := ⟨gb328,_,none⟩) Z152 _).trans (((cell_far (p := ⟨gb328,_,none⟩) Z152 _).trans (((cell_far (p := ⟨gb328,_,none⟩) Z152 _).trans (((cell_far (p := ⟨gb328,_,none⟩) Z152 _).trans (((cell_far (p := ⟨gb328,_,none⟩) Z152 _).trans (((cell_far (p := ⟨gb328,_,none⟩) Z152 _).trans (hHeld.2.2.2.2.2.2.2.2.2.2.1)))))))))))),((cell_far (p := ⟨gb328,_,none⟩) Z152 _).trans (((cell_far (p := ⟨gb328,_,none⟩) Z152 _).trans (((cell_far (p := ⟨gb328,_,none⟩) Z152 _).trans (((cell_far (p := ⟨gb328,_,none⟩) Z152 _).trans (((cell_far (p := ⟨gb328,_,none⟩) Z152 _).trans (((cell_far (p := ⟨gb328,_,none⟩) Z152 _).trans (hHeld.2.2.2.2.2.2.2.2.2.2.2))))))))))))⟩ (fun hHeld => ?_)
 clear hK K
 refine rP 17 4 18 262143 HT_ (h := ?_)
 refine done_ (done_of HT_.out Z310) ?_
 try go_wp2
 refine bodyPost_ret (results_list (rs := [.cell 2 27,.cell 3 27,.tmp 4]) rfl Z524 (.cell gb327 27 #[.int .i64 ((rd_T27 t333 0).f0),.int .i64 ((rd_T27 t333 0).f1),.int .i64 ((rd_T27 t333 0).f2.f0),.int .i64 ((rd_T27 t333 0).f2.f1),.int .i64 ((rd_T27 t333 0).f3.f0),.int .i64 ((rd_T27 t333 0).f3.f1)] (0,0) _ rfl (by refine bP ?_;refine blk_far ?_ NB327_328.out _;refine bP ?_;refine blk_far ?_ NB327_328.out _;refine bP ?_;refine blk_far ?_ NB327_328.out _;refine bP ?_;refine blk_far ?_ NB327_328.out _;refine bP ?_;refine blk_far ?_ NB327_328.out _;refine bP ?_;refine blk_far ?_ NB327_328.out _;refine bP ?_;refine blk_put (cs := #[.int .i64 ((rd_T27 t333 0).f0),.int .i64 ((rd_T27 t333 0).f1),.int .i64 ((rd_T27 t333 0).f2.f0),.int .i64 ((rd_T27 t333 0).f2.f1),.int .i64 ((rd_T27 t333 0).f3.f0),.int .i64 0]) ?_ 5 _ rfl;refine bP ?_;refine blk_put (cs := #[.int .i64 ((rd_T27 t333 0).f0),.int .i64 ((rd_T27 t333 0).f1),.int .i64 ((rd_T27 t333 0).f2.f0),.int .i64 ((rd_T27 t333 0).f2.f1),.int .i64 0,.int .i64 0]) ?_ 4 _ rfl;refine bP ?_;refine blk_put (cs := #[.int .i64 ((rd_T27 t333 0).f0),.int .i64 ((rd_T27 t333 0).f1),.int .i64 ((rd_T27 t333 0).f2.f0),.int .i64 0,.int .i64 0,.int .i64 0]) ?_ 3 _ rfl;refine bP ?_;refine blk_put (cs := #[.int .i64 ((rd_T27 t333 0).f0),.int .i64 ((rd_T27 t333 0).f1),.int .i64 0,.int .i64 0,.int .i64 0,.int .i64 0]) ?_ 2 _ rfl;refine bP ?_;refine blk_put (cs := #[.int .i64 ((rd_T27 t333 0).f0),.int .i64 0,.int .i64 0,.int .i64 0,.int .i64 0,.int .i64 0]) ?_ 1 _ rfl;refine bP ?_;refine blk_put (cs := #[.int .i64 0,.int .i64 0,.int .i64 0,.int .i64 0,.int .i64 0,.int .i64 0]) ?_ 0 _ rfl;refine bP ?_;exact BK327.out) Try.underlying27 rfl Z310 (.cell gb328 27 #[.int .i64 ((rd_T27 t333 (ji7)).f0),.int .i64 ((rd_T27 t333 (ji7)).f1),.int .i64 ((rd_T27 t333 (ji7)).f2.f0),.int .i64 ((rd_T27 t333 (ji7)).f2.f1),.int .i64 ((rd_T27 t333 (ji7)).f3.f0),.int .i64 ((rd_T27 t333 (ji7)).f3.f1)] (0,0) _ rfl (by refine bP ?_;refine blk_put (cs := #[.int .i64 ((rd_T27 t333 (ji7)).f0),.int .i64 ((rd_T27 t333 (ji7)).f1),.int .i64 ((rd_T27 t333 (ji7)).f2.f0),.int .i64 ((rd_T27 t333 (ji7)).f2.f1),.int .i64 ((rd_T27 t333 (ji7)).f3.f0),.int .i64 0]) ?_ 5 _ rfl;refine bP ?_;refine blk_put (cs := #[.int .i64 ((rd_T27 t333 (ji7)).f0),.int .i64 ((rd_T27 t333 (ji7)).f1),.int .i64 ((rd_T27 t333 (ji7)).f2.f0),.int .i64 ((rd_T27 t333 (ji7)).f2.f1),.int .i64 0,.int .i64 0]) ?_ 4 _ rfl;refine bP ?_;refine blk_put (cs := #[.int .i64 ((rd_T27 t333 (ji7)).f0),.int .i64 ((rd_T27 t333 (ji7)).f1),.int .i64 ((rd_T27 t333 (ji7)).f2.f0),.int .i64 0,.int .i64 0,.int .i64 0]) ?_ 3 _ rfl;refine bP ?_;refine blk_put (cs := #[.int .i64 ((rd_T27 t333 (ji7)).f0),.int .i64 ((rd_T27 t333 (ji7)).f1),.int .i64 0,.int .i64 0,.int .i64 0,.int .i64 0]) ?_ 2 _ rfl;refine bP ?_;refine blk_put (cs := #[.int .i64 ((rd_T27 t333 (ji7)).f0),.int .i64 0,.int .i64 0,.int .i64 0,.int .i64 0,.int .i64 0]) ?_ 1 _ rfl;refine bP ?_;refine blk_put (cs := #[.int .i64 0,.int .i64 0,.int .i64 0,.int .i64 0,.int .i64 0,.int .i64 0]) ?_ 0 _ rfl;refine bP ?_;refine blk_far ?_ NB328_327.out _;refine bP ?_;refine blk_far ?_ NB328_327.out _;refine bP ?_;refine blk_far ?_ NB328_327.out _;refine bP ?_;refine blk_far ?_ NB328_327.out _;refine bP ?_;refine blk_far ?_ NB328_327.out _;refine bP ?_;refine blk_far ?_ NB328_327.out _;refine bP ?_;exact BK328.out) Try.underlying27 rfl Z310 (.tmp .nil)))) rfl ?_
 exact ⟨by first | rfl | (simp [errW_none,errW_some] <;> rfl) | (simp only [← hji7];first | rfl | (simp [errW_none,errW_some] <;> rfl)) | (simp [*,errW_none,errW_some] <;> rfl),Z178⟩

/-! ### impl_within: function 54 -/
def impl_within.f (a0 : Int) (a1 : Int) (a2 : Int) : Option (Bool) := if a0 ≥ a1 then (some (decide (a0 ≤ a2))) else (some false)
set_option maxHeartbeats 8000000 in
set_option maxRecDepth 100000 in
theorem impl_within.calls (a0 : Int) (a1 : Int) (a2 : Int) (r : Bool) (w : World) (h : impl_within.f a0 a1 a2 = some r) :
  Calls Try.prog 54 #[.int .i64 a0,.int .i64 a1,.int .i64 a2] w fun e w' => e = .returned (.bool r) ∧ Drawn0 w w' := by
 have H := h
 clear h
 unfold impl_within.f at H
 by_cases c4 : a0 ≥ a1
 ·rw [if_pos c4] at H
  have c4b0 : decide (a1 ≤ a0) = true := decide_eq_true c4
  clear c4
  obtain rfl := Option.some.inj H
  go_enter Try.func54,Try.ntmps54
  go_wp2
  go_ret
  exact ⟨Z294,Z271⟩
 rw [if_neg c4] at H
 have c4b0 : decide (a1 ≤ a0) = false := decide_eq_false c4
 clear c4
 obtain rfl := Option.some.inj H
 go_enter Try.func54,Try.ntmps54
 go_wp2
 go_ret
 exact ⟨Z294,Z271⟩

/-! ### impl_isCount: function 37 -/
def impl_isCount.f (a0 : Int) (a1 : Int) : Option (Bool) := (impl_within.f a0 0 40).bind fun t365 => (if t365 = true then ((impl_within.f a1 1 100).bind fun t366 => (some t366)) else (some false))
set_option maxHeartbeats 8000000 in
set_option maxRecDepth 100000 in
theorem impl_isCount.calls (a0 : Int) (a1 : Int) (r : Bool) (w : World) (h : impl_isCount.f a0 a1 = some r) :
  Calls Try.prog 37 #[.int .i64 a0,.int .i64 a1] w fun e w' => e = .returned (.bool r) ∧ Drawn0 w w' := by
 have H := h
 clear h
 unfold impl_isCount.f at H
 obtain ⟨t365,A30,H⟩ := Option.bind_eq_some_iff.mp H
 have A3 := Aside0.mk A30
 clear A30
 by_cases c4 : t365 = true
 rotate_left
 ·replace c4 := Bool.eq_false_iff.mpr c4
  subst c4
  rw [if_neg Bool.false_ne_true] at H
  obtain rfl := Option.some.inj H
  go_enter Try.func37,Try.ntmps37
  go_wp2_with (first | ((with_reducible refine gate_callee (f := 54) rfl ?_);refine goesL_ (some 6) rfl rfl Try.func54 Z310 rfl #[.int .i64 a0,.int .i64 0,.int .i64 40] rfl Z249 ?_;(with_reducible refine (impl_within.calls a0 0 40 false _ A3.out).mono ?_);rintro e w' ⟨rfl,⟨nd,rfl⟩⟩;refine ⟨_,rfl,?_⟩))
  go_ret
  exact ⟨Z294,Z271⟩
 subst c4
 rw [if_pos rfl] at H
 obtain ⟨t366,A50,H⟩ := Option.bind_eq_some_iff.mp H
 have A5 := Aside0.mk A50
 clear A50
 obtain rfl := Option.some.inj H
 go_enter Try.func37,Try.ntmps37
 go_wp2_with (first | ((with_reducible refine gate_callee (f := 54) rfl ?_);refine goesL_ (some 6) rfl rfl Try.func54 Z310 rfl #[.int .i64 a0,.int .i64 0,.int .i64 40] rfl Z249 ?_;(with_reducible refine (impl_within.calls a0 0 40 true _ A3.out).mono ?_);rintro e w' ⟨rfl,⟨nd,rfl⟩⟩;refine ⟨_,rfl,?_⟩) | (go_at_call 54;(with_reducible refine (impl_within.calls a1 1 100 t366 _ A5.out).mono ?_);rintro e w' ⟨rfl,⟨nd,rfl⟩⟩))
 go_ret
 exact ⟨Z294,Z271⟩

/-! ### impl_WideOk: function 56 -/
def impl_WideOk.f (a0_0 : Bool) (a0_1 : Int) (a0_2 : Int) : Option (Bool) := if a0_1 < 9223372036854775808 then (if a0_0 = true then (if a0_1 > 0 then (some true) else (some (decide (a0_2 > 0)))) else (some true)) else (some false)
set_option maxHeartbeats 8000000 in
set_option maxRecDepth 100000 in
theorem impl_WideOk.calls (a0_0 : Bool) (a0_1 : Int) (a0_2 : Int) (r : Bool) (w : World) (h : impl_WideOk.f a0_0 a0_1 a0_2 = some r) :
  Calls Try.prog 56 #[.agg #[.bool a0_0,.int .u64 a0_1,.int .u64 a0_2]] w fun e w' => e = .returned (.bool r) ∧ Below w.heap.size w w' := by
 have hu39 := Try.underlying39
 have HB := Aside0.mk (Below.refl w.heap.size w)
 have H := h
 clear h
 unfold impl_WideOk.f at H
 by_cases c2 : a0_1 < 9223372036854775808
 rotate_left
 ·rw [if_neg c2] at H
  have c2b0 : decide (a0_1 < 9223372036854775808) = false := decide_eq_false c2
  clear c2
  obtain rfl := Option.some.inj H
  go_enter Try.func56,Try.ntmps56
  go_wp2_with (first | ((with_reducible refine gate_dst (N := 1) rfl ?_);refine bE 1 #[.bool a0_0,.int .u64 a0_1,.int .u64 a0_2] 39 (h := ?_);intro gb367 hg wq1 hbox hb;have n_ := Z102;clear HB;obtain ⟨HB,BK367,GW367,GE367⟩ := n_;clear hb hbox hg;obtain ⟨hczq2_0,hczq2_1,hczq2_2,hfzq2_0,hfzq2_1,hfzq2_2⟩ := cells3 BK367.out))
  go_ret
  exact ⟨Z265,Z243⟩
 rw [if_pos c2] at H
 have c2b0 : decide (a0_1 < 9223372036854775808) = true := decide_eq_true c2
 clear c2
 by_cases c3 : a0_0 = true
 rotate_left
 ·replace c3 := Bool.eq_false_iff.mpr c3
  subst c3
  rw [if_neg Bool.false_ne_true] at H
  obtain rfl := Option.some.inj H
  go_enter Try.func56,Try.ntmps56
  go_wp2_with (first | ((with_reducible refine gate_dst (N := 1) rfl ?_);refine bE 1 #[.bool false,.int .u64 a0_1,.int .u64 a0_2] 39 (h := ?_);intro gb367 hg wq1 hbox hb;have n_ := Z102;clear HB;obtain ⟨HB,BK367,GW367,GE367⟩ := n_;clear hb hbox hg;obtain ⟨hczq2_0,hczq2_1,hczq2_2,hfzq2_0,hfzq2_1,hfzq2_2⟩ := cells3 BK367.out))
  go_ret
  exact ⟨Z265,Z243⟩
 subst c3
 rw [if_pos rfl] at H
 by_cases c4 : a0_1 > 0
 ·rw [if_pos c4] at H
  have c4b0 : decide (0 < a0_1) = true := decide_eq_true c4
  clear c4
  obtain rfl := Option.some.inj H
  go_enter Try.func56,Try.ntmps56
  go_wp2_with (first | ((with_reducible refine gate_dst (N := 1) rfl ?_);refine bE 1 #[.bool true,.int .u64 a0_1,.int .u64 a0_2] 39 (h := ?_);intro gb367 hg wq1 hbox hb;have n_ := Z102;clear HB;obtain ⟨HB,BK367,GW367,GE367⟩ := n_;clear hb hbox hg;obtain ⟨hczq2_0,hczq2_1,hczq2_2,hfzq2_0,hfzq2_1,hfzq2_2⟩ := cells3 BK367.out))
  go_ret
  exact ⟨Z265,Z243⟩
 rw [if_neg c4] at H
 have c4b0 : decide (0 < a0_1) = false := decide_eq_false c4
 clear c4
 obtain rfl := Option.some.inj H
 go_enter Try.func56,Try.ntmps56
 go_wp2_with (first | ((with_reducible refine gate_dst (N := 1) rfl ?_);refine bE 1 #[.bool true,.int .u64 a0_1,.int .u64 a0_2] 39 (h := ?_);intro gb367 hg wq1 hbox hb;have n_ := Z102;clear HB;obtain ⟨HB,BK367,GW367,GE367⟩ := n_;clear hb hbox hg;obtain ⟨hczq2_0,hczq2_1,hczq2_2,hfzq2_0,hfzq2_1,hfzq2_2⟩ := cells3 BK367.out))
 go_ret
 exact ⟨Z265,Z243⟩

/-! ### impl_FracOk: function 41 -/
def impl_FracOk.f (a0_0 : Bool) (a0_1 : Int) (a0_2 : Int) (a0_3 : Int) : Option (Bool) := (impl_WideOk.f a0_0 a0_1 a0_2).bind fun t369 => (if t369 = true then ((impl_within.f a0_3 1 1000000).bind fun t370 => (some t370)) else (some false))
set_option maxHeartbeats 8000000 in
set_option maxRecDepth 100000 in
theorem impl_FracOk.calls (a0_0 : Bool) (a0_1 : Int) (a0_2 : Int) (a0_3 : Int) (r : Bool) (w : World) (h : impl_FracOk.f a0_0 a0_1 a0_2 a0_3 = some r) :
  Calls Try.prog 41 #[.agg #[.bool a0_0,.int .u64 a0_1,.int .u64 a0_2,.int .i64 a0_3]] w fun e w' => e = .returned (.bool r) ∧ Below w.heap.size w w' := by
 have hu41 := Try.underlying41
 have hu39 := Try.underlying39
 have HB := Aside0.mk (Below.refl w.heap.size w)
 have H := h
 clear h
 unfold impl_FracOk.f at H
 obtain ⟨t369,A20,H⟩ := Option.bind_eq_some_iff.mp H
 have A2 := Aside0.mk A20
 clear A20
 by_cases c3 : t369 = true
 rotate_left
 ·replace c3 := Bool.eq_false_iff.mpr c3
  subst c3
  rw [if_neg Bool.false_ne_true] at H
  obtain rfl := Option.some.inj H
  go_enter Try.func41,Try.ntmps41
  go_wp2_with (first | ((with_reducible refine gate_dst (N := 1) rfl ?_);refine bE 1 #[.bool a0_0,.int .u64 a0_1,.int .u64 a0_2,.int .i64 a0_3] 41 (h := ?_);intro gb368 hg wq1 hbox hb;have n_ := Z119;clear HB;obtain ⟨HB,BK368,GW368,GE368⟩ := n_;clear hb hbox hg;obtain ⟨hczq2_0,hczq2_1,hczq2_2,hczq2_3,hfzq2_0,hfzq2_1,hfzq2_2,hfzq2_3⟩ := cells4 BK368.out) | ((with_reducible refine gate_callee (f := 56) rfl ?_);refine goesL_ (some 5) rfl rfl Try.func56 Z310 rfl #[.agg #[.bool a0_0,.int .u64 a0_1,.int .u64 a0_2]] rfl Z249 ?_;(with_reducible refine (impl_WideOk.calls a0_0 a0_1 a0_2 false _ A2.out).mono ?_);rintro e wq3 ⟨rfl,hb⟩;refine ⟨_,rfl,?_⟩;have n_ := Z145;clear BK368 HB;obtain ⟨BK368,HB⟩ := n_;(try clear hb);(try clear hb2);(try clear hk);(try clear hi)))
  go_ret
  exact ⟨Z265,Z427⟩
 subst c3
 rw [if_pos rfl] at H
 obtain ⟨t370,A40,H⟩ := Option.bind_eq_some_iff.mp H
 have A4 := Aside0.mk A40
 clear A40
 obtain rfl := Option.some.inj H
 go_enter Try.func41,Try.ntmps41
 go_wp2_with (first | ((with_reducible refine gate_dst (N := 1) rfl ?_);refine bE 1 #[.bool a0_0,.int .u64 a0_1,.int .u64 a0_2,.int .i64 a0_3] 41 (h := ?_);intro gb368 hg wq1 hbox hb;have n_ := Z119;clear HB;obtain ⟨HB,BK368,GW368,GE368⟩ := n_;clear hb hbox hg;obtain ⟨hczq2_0,hczq2_1,hczq2_2,hczq2_3,hfzq2_0,hfzq2_1,hfzq2_2,hfzq2_3⟩ := cells4 BK368.out) | ((with_reducible refine gate_callee (f := 56) rfl ?_);refine goesL_ (some 5) rfl rfl Try.func56 Z310 rfl #[.agg #[.bool a0_0,.int .u64 a0_1,.int .u64 a0_2]] rfl Z249 ?_;(with_reducible refine (impl_WideOk.calls a0_0 a0_1 a0_2 true _ A2.out).mono ?_);rintro e wq3 ⟨rfl,hb⟩;refine ⟨_,rfl,?_⟩;have n_ := Z145;clear BK368 HB;obtain ⟨BK368,HB⟩ := n_;(try clear hb);(try clear hb2);(try clear hk);(try clear hi);obtain ⟨hczq4_0,hczq4_1,hczq4_2,hczq4_3,hfzq4_0,hfzq4_1,hfzq4_2,hfzq4_3⟩ := cells4 BK368.out) | (go_at_call 54;(with_reducible refine (impl_within.calls a0_3 1 1000000 t370 _ A4.out).mono ?_);rintro e w' ⟨rfl,⟨nd,rfl⟩⟩))
 go_ret
 exact ⟨Z265,Z427⟩

/-! ### impl_fracOf: function 40 -/
def impl_fracOf.f (a0_0 : Bool) (a0_1 : Int) (a0_2 : Int) (a1 : Int) : Option (Bool × Int × Int × Int × Bool) := (impl_FracOk.f a0_0 a0_1 a0_2 a1).bind fun t374 => (if t374 = true then (some (a0_0,a0_1,a0_2,a1,true)) else (some (false,0,0,0,false)))
set_option maxHeartbeats 8000000 in
set_option maxRecDepth 100000 in
theorem impl_fracOf.calls (a0_0 : Bool) (a0_1 : Int) (a0_2 : Int) (a1 : Int) (r1 : Bool) (r2 : Int) (r3 : Int) (r4 : Int) (r5 : Bool) (w : World) (h : impl_fracOf.f a0_0 a0_1 a0_2 a1 = some (r1,r2,r3,r4,r5)) :
  Calls Try.prog 40 #[.agg #[.bool a0_0,.int .u64 a0_1,.int .u64 a0_2],.int .i64 a1] w fun e w' => e = .returned (.tuple #[.agg #[.bool r1,.int .u64 r2,.int .u64 r3,.int .i64 r4],.bool r5]) ∧ Below w.heap.size w w' := by
 have hu39 := Try.underlying39
 have hu41 := Try.underlying41
 have HB := Aside0.mk (Below.refl w.heap.size w)
 have H := h
 clear h
 unfold impl_fracOf.f at H
 obtain ⟨t374,A30,H⟩ := Option.bind_eq_some_iff.mp H
 have A3 := Aside0.mk A30
 clear A30
 by_cases c4 : t374 = true
 rotate_left
 ·replace c4 := Bool.eq_false_iff.mpr c4
  subst c4
  rw [if_neg Bool.false_ne_true] at H
  simp only [Option.some.injEq,Prod.mk.injEq] at H
  obtain ⟨rfl,rfl,rfl,rfl,rfl⟩ := H
  go_enter Try.func40,Try.ntmps40
  go_wp2_with (first | ((with_reducible refine gate_dst (N := 2) rfl ?_);refine bE 2 #[.bool a0_0,.int .u64 a0_1,.int .u64 a0_2] 39 (h := ?_);intro gb371 hg wq1 hbox hb;have n_ := Z118;clear HB;obtain ⟨HB,BK371,GW371,GE371⟩ := n_;clear hb hbox hg) | ((with_reducible refine gate_dst (N := 4) rfl ?_);refine bE 4 #[.bool false,.int .u64 0,.int .u64 0,.int .i64 0] 41 (h := ?_);intro gb372 hg wq2 hbox hb;have n_ := Z66;clear BK371 HB;obtain ⟨BK371,HB,BK372,GW372,GE372,NB371_372,NB372_371⟩ := n_;clear hb hbox hg;have hnbq3 := NB371_372.out;have hncq3 := NB372_371.out;obtain ⟨hczq4_0,hczq4_1,hczq4_2,hfzq4_0,hfzq4_1,hfzq4_2⟩ := cells3 BK371.out) | ((with_reducible refine gate_dst (N := 6) rfl ?_);refine bE 6 #[.bool false,.int .u64 0,.int .u64 0,.int .i64 0] 41 (h := ?_);intro gb373 hg wq5 hbox hb;have n_ := Z38;clear BK371 BK372 HB;obtain ⟨BK371,BK372,HB,BK373,GW373,GE373,NB371_373,NB373_371,NB372_373,NB373_372⟩ := n_;clear hb hbox hg;have hnbq6 := NB373_371.out;have hncq6 := NB371_373.out;have hnbq7 := NB373_372.out;have hncq7 := NB372_373.out;obtain ⟨hczq8_0,hczq8_1,hczq8_2,hczq8_3,hfzq8_0,hfzq8_1,hfzq8_2,hfzq8_3⟩ := cells4 BK373.out) | ((with_reducible refine gate_callee (f := 41) rfl ?_);refine goesL_ (some 11) rfl rfl Try.func41 Z310 rfl #[.agg #[.bool a0_0,.int .u64 a0_1,.int .u64 a0_2,.int .i64 a1]] rfl Z249 ?_;(with_reducible refine (impl_FracOk.calls a0_0 a0_1 a0_2 a1 false _ A3.out).mono ?_);rintro e wq9 ⟨rfl,hb⟩;refine ⟨_,rfl,?_⟩;have n_ := Z50;clear BK371 BK372 BK373 HB;obtain ⟨BK371,BK372,BK373,HB⟩ := n_;(try clear hb);(try clear hb2);(try clear hk);(try clear hi);obtain ⟨hczq10_0,hczq10_1,hczq10_2,hczq10_3,hfzq10_0,hfzq10_1,hfzq10_2,hfzq10_3⟩ := cells4 BK372.out))
  refine bodyPost_ret (results_ct rfl _ _ gb372 41 #[.bool false,.int .u64 0,.int .u64 0,.int .i64 0] (0,0) _ rfl (by refine bP ?_;refine blk_put (cs := #[.bool false,.int .u64 0,.int .u64 0,.int .i64 0]) ?_ 3 _ rfl;refine bP ?_;refine blk_put (cs := #[.bool false,.int .u64 0,.int .u64 0,.int .i64 0]) ?_ 2 _ rfl;refine bP ?_;refine blk_put (cs := #[.bool false,.int .u64 0,.int .u64 0,.int .i64 0]) ?_ 1 _ rfl;refine bP ?_;refine blk_put (cs := #[.bool false,.int .u64 0,.int .u64 0,.int .i64 0]) ?_ 0 _ rfl;refine bP ?_;exact BK372.out) Try.underlying41 rfl Z310) rfl ?_
  exact ⟨Z265,Z344⟩
 subst c4
 rw [if_pos rfl] at H
 simp only [Option.some.injEq,Prod.mk.injEq] at H
 obtain ⟨rfl,rfl,rfl,rfl,rfl⟩ := H
 go_enter Try.func40,Try.ntmps40
 go_wp2_with (first | ((with_reducible refine gate_dst (N := 2) rfl ?_);refine bE 2 #[.bool a0_0,.int .u64 a0_1,.int .u64 a0_2] 39 (h := ?_);intro gb371 hg wq1 hbox hb;have n_ := Z118;clear HB;obtain ⟨HB,BK371,GW371,GE371⟩ := n_;clear hb hbox hg) | ((with_reducible refine gate_dst (N := 4) rfl ?_);refine bE 4 #[.bool false,.int .u64 0,.int .u64 0,.int .i64 0] 41 (h := ?_);intro gb372 hg wq2 hbox hb;have n_ := Z66;clear BK371 HB;obtain ⟨BK371,HB,BK372,GW372,GE372,NB371_372,NB372_371⟩ := n_;clear hb hbox hg;have hnbq3 := NB371_372.out;have hncq3 := NB372_371.out;obtain ⟨hczq4_0,hczq4_1,hczq4_2,hfzq4_0,hfzq4_1,hfzq4_2⟩ := cells3 BK371.out) | ((with_reducible refine gate_dst (N := 6) rfl ?_);refine bE 6 #[.bool false,.int .u64 0,.int .u64 0,.int .i64 0] 41 (h := ?_);intro gb373 hg wq5 hbox hb;have n_ := Z38;clear BK371 BK372 HB;obtain ⟨BK371,BK372,HB,BK373,GW373,GE373,NB371_373,NB373_371,NB372_373,NB373_372⟩ := n_;clear hb hbox hg;have hnbq6 := NB373_371.out;have hncq6 := NB371_373.out;have hnbq7 := NB373_372.out;have hncq7 := NB372_373.out;obtain ⟨hczq8_0,hczq8_1,hczq8_2,hczq8_3,hfzq8_0,hfzq8_1,hfzq8_2,hfzq8_3⟩ := cells4 BK373.out) | ((with_reducible refine gate_callee (f := 41) rfl ?_);refine goesL_ (some 11) rfl rfl Try.func41 Z310 rfl #[.agg #[.bool a0_0,.int .u64 a0_1,.int .u64 a0_2,.int .i64 a1]] rfl Z249 ?_;(with_reducible refine (impl_FracOk.calls a0_0 a0_1 a0_2 a1 true _ A3.out).mono ?_);rintro e wq9 ⟨rfl,hb⟩;refine ⟨_,rfl,?_⟩;have n_ := Z50;clear BK371 BK372 BK373 HB;obtain ⟨BK371,BK372,BK373,HB⟩ := n_;(try clear hb);(try clear hb2);(try clear hk);(try clear hi);obtain ⟨hczq10_0,hczq10_1,hczq10_2,hczq10_3,hfzq10_0,hfzq10_1,hfzq10_2,hfzq10_3⟩ := cells4 BK373.out;obtain ⟨hczq11_0,hczq11_1,hczq11_2,hczq11_3,hfzq11_0,hfzq11_1,hfzq11_2,hfzq11_3⟩ := cells4 BK372.out))
 refine bodyPost_ret (results_ct rfl _ _ gb372 41 #[.bool a0_0,.int .u64 a0_1,.int .u64 a0_2,.int .i64 a1] (0,0) _ rfl (by refine bP ?_;refine blk_put (cs := #[.bool a0_0,.int .u64 a0_1,.int .u64 a0_2,.int .i64 0]) ?_ 3 _ rfl;refine bP ?_;refine blk_put (cs := #[.bool a0_0,.int .u64 a0_1,.int .u64 0,.int .i64 0]) ?_ 2 _ rfl;refine bP ?_;refine blk_put (cs := #[.bool a0_0,.int .u64 0,.int .u64 0,.int .i64 0]) ?_ 1 _ rfl;refine bP ?_;refine blk_put (cs := #[.bool false,.int .u64 0,.int .u64 0,.int .i64 0]) ?_ 0 _ rfl;refine bP ?_;exact BK372.out) Try.underlying41 rfl Z310) rfl ?_
 exact ⟨Z265,Z344⟩

/-! ### impl_wideOf: function 43 -/
def impl_wideOf.f (a0 : Bool) (a1 : Int) (a2 : Int) : Option (Bool × Int × Int) := if a0 = true then (if a1 > 0 then (some (true,a1,a2)) else (some (decide (a2 > 0),a1,a2))) else (some (false,a1,a2))
set_option maxHeartbeats 8000000 in
set_option maxRecDepth 100000 in
theorem impl_wideOf.calls (a0 : Bool) (a1 : Int) (a2 : Int) (r1 : Bool) (r2 : Int) (r3 : Int) (w : World) (h : impl_wideOf.f a0 a1 a2 = some (r1,r2,r3)) :
  Calls Try.prog 43 #[.bool a0,.int .u64 a1,.int .u64 a2] w fun e w' => e = .returned (.agg #[.bool r1,.int .u64 r2,.int .u64 r3]) ∧ Below w.heap.size w w' := by
 have hu39 := Try.underlying39
 have HB := Aside0.mk (Below.refl w.heap.size w)
 have H := h
 clear h
 unfold impl_wideOf.f at H
 by_cases c4 : a0 = true
 rotate_left
 ·replace c4 := Bool.eq_false_iff.mpr c4
  subst c4
  rw [if_neg Bool.false_ne_true] at H
  simp only [Option.some.injEq,Prod.mk.injEq] at H
  obtain ⟨rfl,rfl,rfl⟩ := H
  go_enter Try.func43,Try.ntmps43
  go_wp2_with (first | ((with_reducible refine gate_dst (N := 6) rfl ?_);refine bE 6 #[.bool false,.int .u64 0,.int .u64 0] 39 (h := ?_);intro gb375 hg wq1 hbox hb;have n_ := Z109;clear HB;obtain ⟨HB,BK375,GW375,GE375⟩ := n_;clear hb hbox hg;obtain ⟨hczq2_0,hczq2_1,hczq2_2,hfzq2_0,hfzq2_1,hfzq2_2⟩ := cells3 BK375.out))
  refine bodyPost_ret (results_cell_row rfl _ _ gb375 39 #[.bool false,.int .u64 a1,.int .u64 a2] (0,0) _ rfl (by refine bP ?_;refine blk_put (cs := #[.bool false,.int .u64 a1,.int .u64 0]) ?_ 2 _ rfl;refine bP ?_;refine blk_put (cs := #[.bool false,.int .u64 0,.int .u64 0]) ?_ 1 _ rfl;refine bP ?_;refine blk_put (cs := #[.bool false,.int .u64 0,.int .u64 0]) ?_ 0 _ rfl;refine bP ?_;exact BK375.out) Try.underlying39 rfl Z310) rfl ?_
  exact ⟨Z265,Z244⟩
 subst c4
 rw [if_pos rfl] at H
 by_cases c5 : a1 > 0
 ·rw [if_pos c5] at H
  have c5b0 : decide (0 < a1) = true := decide_eq_true c5
  clear c5
  simp only [Option.some.injEq,Prod.mk.injEq] at H
  obtain ⟨rfl,rfl,rfl⟩ := H
  go_enter Try.func43,Try.ntmps43
  go_wp2_with (first | ((with_reducible refine gate_dst (N := 6) rfl ?_);refine bE 6 #[.bool false,.int .u64 0,.int .u64 0] 39 (h := ?_);intro gb375 hg wq1 hbox hb;have n_ := Z109;clear HB;obtain ⟨HB,BK375,GW375,GE375⟩ := n_;clear hb hbox hg;obtain ⟨hczq2_0,hczq2_1,hczq2_2,hfzq2_0,hfzq2_1,hfzq2_2⟩ := cells3 BK375.out))
  refine bodyPost_ret (results_cell_row rfl _ _ gb375 39 #[.bool true,.int .u64 a1,.int .u64 a2] (0,0) _ rfl (by refine bP ?_;refine blk_put (cs := #[.bool true,.int .u64 a1,.int .u64 0]) ?_ 2 _ rfl;refine bP ?_;refine blk_put (cs := #[.bool true,.int .u64 0,.int .u64 0]) ?_ 1 _ rfl;refine bP ?_;refine blk_put (cs := #[.bool false,.int .u64 0,.int .u64 0]) ?_ 0 _ rfl;refine bP ?_;exact BK375.out) Try.underlying39 rfl Z310) rfl ?_
  exact ⟨Z265,Z244⟩
 rw [if_neg c5] at H
 have c5b0 : decide (0 < a1) = false := decide_eq_false c5
 clear c5
 simp only [Option.some.injEq,Prod.mk.injEq] at H
 obtain ⟨rfl,rfl,rfl⟩ := H
 go_enter Try.func43,Try.ntmps43
 go_wp2_with (first | ((with_reducible refine gate_dst (N := 6) rfl ?_);refine bE 6 #[.bool false,.int .u64 0,.int .u64 0] 39 (h := ?_);intro gb375 hg wq1 hbox hb;have n_ := Z109;clear HB;obtain ⟨HB,BK375,GW375,GE375⟩ := n_;clear hb hbox hg;obtain ⟨hczq2_0,hczq2_1,hczq2_2,hfzq2_0,hfzq2_1,hfzq2_2⟩ := cells3 BK375.out))
 refine bodyPost_ret (results_cell_row rfl _ _ gb375 39 #[.bool (decide (a2 > 0)),.int .u64 a1,.int .u64 a2] (0,0) _ rfl (by refine bP ?_;refine blk_put (cs := #[.bool (decide (a2 > 0)),.int .u64 a1,.int .u64 0]) ?_ 2 _ rfl;refine bP ?_;refine blk_put (cs := #[.bool (decide (a2 > 0)),.int .u64 0,.int .u64 0]) ?_ 1 _ rfl;refine bP ?_;refine blk_put (cs := #[.bool false,.int .u64 0,.int .u64 0]) ?_ 0 _ rfl;refine bP ?_;exact BK375.out) Try.underlying39 rfl Z310) rfl ?_
 exact ⟨Z265,Z244⟩

/-! ### impl_size: function 59 -/
def impl_size.f (a0 : Int) : Option (Int) := if a0 < 0 then (some (IntKind.u64.wrap (-(IntKind.u64.wrap (a0))))) else (some (IntKind.u64.wrap (a0)))
set_option maxHeartbeats 8000000 in
set_option maxRecDepth 100000 in
theorem impl_size.calls (a0 : Int) (r : Int) (w : World) (h : impl_size.f a0 = some r) :
  Calls Try.prog 59 #[.int .i64 a0] w fun e w' => e = .returned (.int .u64 r) ∧ Drawn0 w w' := by
 have H := h
 clear h
 unfold impl_size.f at H
 by_cases c2 : a0 < 0
 ·rw [if_pos c2] at H
  have c2b0 : decide (a0 < 0) = true := decide_eq_true c2
  clear c2
  obtain rfl := Option.some.inj H
  go_enter Try.func59,Try.ntmps59
  go_wp2
  go_ret
  exact ⟨Z294,Z271⟩
 rw [if_neg c2] at H
 have c2b0 : decide (a0 < 0) = false := decide_eq_false c2
 clear c2
 obtain rfl := Option.some.inj H
 go_enter Try.func59,Try.ntmps59
 go_wp2
 go_ret
 exact ⟨Z294,Z271⟩

/-! ### bits_Mul64: function 60 -/
def bits_Mul64.f (a0 : Int) (a1 : Int) : Option (Int × Int) := some (IntKind.u64.wrap ((IntKind.u64.wrap ((IntKind.u64.wrap ((a0 / 4294967296) * (a1 / 4294967296))) + ((IntKind.u64.wrap ((IntKind.u64.wrap ((a0 / 4294967296) * (Go.bits .and .u64 a1 4294967295))) + ((IntKind.u64.wrap ((Go.bits .and .u64 a0 4294967295) * (Go.bits .and .u64 a1 4294967295))) / 4294967296))) / 4294967296))) + ((IntKind.u64.wrap ((Go.bits .and .u64 (IntKind.u64.wrap ((IntKind.u64.wrap ((a0 / 4294967296) * (Go.bits .and .u64 a1 4294967295))) + ((IntKind.u64.wrap ((Go.bits .and .u64 a0 4294967295) * (Go.bits .and .u64 a1 4294967295))) / 4294967296))) 4294967295) + (IntKind.u64.wrap ((Go.bits .and .u64 a0 4294967295) * (a1 / 4294967296))))) / 4294967296)),IntKind.u64.wrap (a0 * a1))
set_option maxHeartbeats 8000000 in
set_option maxRecDepth 100000 in
theorem bits_Mul64.calls (a0 : Int) (a1 : Int) (r1 : Int) (r2 : Int) (w : World) (h : bits_Mul64.f a0 a1 = some (r1,r2)) :
  Calls Try.prog 60 #[.int .u64 a0,.int .u64 a1] w fun e w' => e = .returned (.tuple #[.int .u64 r1,.int .u64 r2]) ∧ Drawn0 w w' := by
 have H := h
 clear h
 unfold bits_Mul64.f at H
 simp only [Option.some.injEq,Prod.mk.injEq] at H
 obtain ⟨rfl,rfl⟩ := H
 go_enter Try.func60,Try.ntmps60
 go_wp2
 go_ret2
 exact ⟨Z294,Z271⟩

/-! ### impl_MulWide: function 55 -/
def impl_MulWide.f (a0 : Int) (a1 : Int) : Option (Bool × Int × Int) := (impl_size.f a0).bind fun t377 => ((impl_size.f a1).bind fun t378 => ((bits_Mul64.f t377 t378).bind fun bt379 => ((impl_wideOf.f ((decide (a0 < 0)) != (decide (a1 < 0))) bt379.1 bt379.2).bind fun bt381 => (some (bt381.1,bt381.2.1,bt381.2.2)))))
set_option maxHeartbeats 8000000 in
set_option maxRecDepth 100000 in
theorem impl_MulWide.calls (a0 : Int) (a1 : Int) (r1 : Bool) (r2 : Int) (r3 : Int) (w : World) (h : impl_MulWide.f a0 a1 = some (r1,r2,r3)) :
  Calls Try.prog 55 #[.int .i64 a0,.int .i64 a1] w fun e w' => e = .returned (.agg #[.bool r1,.int .u64 r2,.int .u64 r3]) ∧ Below w.heap.size w w' := by
 have hu39 := Try.underlying39
 have HB := Aside0.mk (Below.refl w.heap.size w)
 have H := h
 clear h
 unfold impl_MulWide.f at H
 obtain ⟨t377,A30,H⟩ := Option.bind_eq_some_iff.mp H
 have A3 := Aside0.mk A30
 clear A30
 obtain ⟨t378,A40,H⟩ := Option.bind_eq_some_iff.mp H
 have A4 := Aside0.mk A40
 clear A40
 obtain ⟨⟨t379,t380⟩,A50,H⟩ := Option.bind_eq_some_iff.mp H
 try dsimp only at H
 have A5 := Aside0.mk A50
 clear A50
 obtain ⟨⟨t381,t382,t383⟩,A60,H⟩ := Option.bind_eq_some_iff.mp H
 try dsimp only at H
 have A6 := Aside0.mk A60
 clear A60
 simp only [Option.some.injEq,Prod.mk.injEq] at H
 obtain ⟨rfl,rfl,rfl⟩ := H
 go_enter Try.func55,Try.ntmps55
 go_wp2_with (first | ((with_reducible refine gate_dst (N := 4) rfl ?_);refine bE 4 #[.bool false,.int .u64 0,.int .u64 0] 39 (h := ?_);intro gb376 hg wq1 hbox hb;have n_ := jA (below_step Z574 hb) (jA (hbox) (jA ((Z405 : w.heap.size ≤ gb376)) (Aside0.mk ((Z405 : w.heap.size ≤ gb376)))));clear HB;obtain ⟨HB,BK376,GW376,GE376⟩ := n_;clear hb hbox hg) | ((with_reducible refine gate_callee (f := 59) rfl ?_);refine goesL_ (some 9) rfl rfl Try.func59 Z310 rfl #[.int .i64 a0] rfl Z249 ?_;(with_reducible refine (impl_size.calls a0 t377 _ A3.out).mono ?_);rintro e w' ⟨rfl,⟨nd,rfl⟩⟩;refine ⟨_,rfl,?_⟩;(iterate 4 (try (rw [drewN_self wq1];generalize hq_ : World.drewN wq1 _ = wq1;have n0_ : Aside0 (wq1.heap[gb376]? = some (.cells #[.bool false,.int .u64 0,.int .u64 0] 39 (0,0))) := ⟨Z287⟩;have n1_ : Aside0 (Below w.heap.size w wq1) := ⟨Z221⟩;clear BK376 HB hq_;have BK376 := n0_;have HB := n1_;clear n0_ n1_)))) | ((with_reducible refine gate_callee (f := 59) rfl ?_);refine goesL_ (some 11) rfl rfl Try.func59 Z310 rfl #[.int .i64 a1] rfl Z249 ?_;(with_reducible refine (impl_size.calls a1 t378 _ A4.out).mono ?_);rintro e w' ⟨rfl,⟨nd,rfl⟩⟩;refine ⟨_,rfl,?_⟩;(iterate 4 (try (rw [drewN_self wq1];generalize hq_ : World.drewN wq1 _ = wq1;have n0_ : Aside0 (wq1.heap[gb376]? = some (.cells #[.bool false,.int .u64 0,.int .u64 0] 39 (0,0))) := ⟨Z287⟩;have n1_ : Aside0 (Below w.heap.size w wq1) := ⟨Z221⟩;clear BK376 HB hq_;have BK376 := n0_;have HB := n1_;clear n0_ n1_)))) | ((with_reducible refine gate_callee (f := 60) rfl ?_);refine goesL_ (some 12) rfl rfl Try.func60 Z310 rfl #[.int .u64 t377,.int .u64 t378] rfl Z249 ?_;(with_reducible refine (bits_Mul64.calls t377 t378 t379 t380 _ A5.out).mono ?_);rintro e w' ⟨rfl,⟨nd,rfl⟩⟩;refine ⟨_,rfl,?_⟩;(iterate 4 (try (rw [drewN_self wq1];generalize hq_ : World.drewN wq1 _ = wq1;have n0_ : Aside0 (wq1.heap[gb376]? = some (.cells #[.bool false,.int .u64 0,.int .u64 0] 39 (0,0))) := ⟨Z287⟩;have n1_ : Aside0 (Below w.heap.size w wq1) := ⟨Z221⟩;clear BK376 HB hq_;have BK376 := n0_;have HB := n1_;clear n0_ n1_)))) | ((with_reducible refine gate_callee (f := 43) rfl ?_);refine goesL_ (some 22) rfl rfl Try.func43 Z310 rfl #[.bool ((decide (a0 < 0)) != (decide (a1 < 0))),.int .u64 t379,.int .u64 t380] rfl Z249 ?_;(with_reducible refine (impl_wideOf.calls ((decide (a0 < 0)) != (decide (a1 < 0))) t379 t380 t381 t382 t383 _ A6.out).mono ?_);rintro e wq2 ⟨rfl,hb⟩;refine ⟨_,rfl,?_⟩;have n_ := jA (blk_below (g := gb376) (o := .cells #[.bool false,.int .u64 0,.int .u64 0] 39 (0,0)) (by refine bP ?_;exact BK376.out) hb) (Aside0.mk (below_step Z425 hb));clear BK376 HB;obtain ⟨BK376,HB⟩ := n_;(try clear hb);(try clear hb2);(try clear hk);(try clear hi);obtain ⟨hczq3_0,hczq3_1,hczq3_2,hfzq3_0,hfzq3_1,hfzq3_2⟩ := cells3 BK376.out))
 refine bodyPost_ret (results_cell_row rfl _ _ gb376 39 #[.bool t381,.int .u64 t382,.int .u64 t383] (0,0) _ rfl (by refine bP ?_;refine blk_put (cs := #[.bool t381,.int .u64 t382,.int .u64 0]) ?_ 2 _ rfl;refine bP ?_;refine blk_put (cs := #[.bool t381,.int .u64 0,.int .u64 0]) ?_ 1 _ rfl;refine bP ?_;refine blk_put (cs := #[.bool false,.int .u64 0,.int .u64 0]) ?_ 0 _ rfl;refine bP ?_;exact BK376.out) Try.underlying39 rfl Z310) rfl ?_
 exact ⟨Z265,Z425⟩

/-! ### impl_SquareOver: function 38 -/
def impl_SquareOver.f (a0 : Int) (a1 : Int) : Option (Bool × Int × Int × Int × Bool) := (impl_MulWide.f a0 a0).bind fun bt385 => ((impl_fracOf.f bt385.1 bt385.2.1 bt385.2.2 a1).bind fun bt388 => (some (bt388.1,bt388.2.1,bt388.2.2.1,bt388.2.2.2.1,bt388.2.2.2.2)))
set_option maxHeartbeats 8000000 in
set_option maxRecDepth 100000 in
theorem impl_SquareOver.calls (a0 : Int) (a1 : Int) (r1 : Bool) (r2 : Int) (r3 : Int) (r4 : Int) (r5 : Bool) (w : World) (h : impl_SquareOver.f a0 a1 = some (r1,r2,r3,r4,r5)) :
  Calls Try.prog 38 #[.int .i64 a0,.int .i64 a1] w fun e w' => e = .returned (.tuple #[.agg #[.bool r1,.int .u64 r2,.int .u64 r3,.int .i64 r4],.bool r5]) ∧ Below w.heap.size w w' := by
 have hu41 := Try.underlying41
 have HB := Aside0.mk (Below.refl w.heap.size w)
 have H := h
 clear h
 unfold impl_SquareOver.f at H
 obtain ⟨⟨t385,t386,t387⟩,A30,H⟩ := Option.bind_eq_some_iff.mp H
 try dsimp only at H
 have A3 := Aside0.mk A30
 clear A30
 obtain ⟨⟨t388,t389,t390,t391,t392⟩,A40,H⟩ := Option.bind_eq_some_iff.mp H
 try dsimp only at H
 have A4 := Aside0.mk A40
 clear A40
 simp only [Option.some.injEq,Prod.mk.injEq] at H
 obtain ⟨rfl,rfl,rfl,rfl,rfl⟩ := H
 go_enter Try.func38,Try.ntmps38
 go_wp2_with (first | ((with_reducible refine gate_dst (N := 4) rfl ?_);refine bE 4 #[.bool false,.int .u64 0,.int .u64 0,.int .i64 0] 41 (h := ?_);intro gb384 hg wq1 hbox hb;have n_ := jA (below_step Z574 hb) (jA (hbox) (jA ((Z405 : w.heap.size ≤ gb384)) (Aside0.mk ((Z405 : w.heap.size ≤ gb384)))));clear HB;obtain ⟨HB,BK384,GW384,GE384⟩ := n_;clear hb hbox hg) | ((with_reducible refine gate_callee (f := 55) rfl ?_);refine goesL_ (some 8) rfl rfl Try.func55 Z310 rfl #[.int .i64 a0,.int .i64 a0] rfl Z249 ?_;(with_reducible refine (impl_MulWide.calls a0 a0 t385 t386 t387 _ A3.out).mono ?_);rintro e wq2 ⟨rfl,hb⟩;refine ⟨_,rfl,?_⟩;have n_ := Z149;clear BK384 HB;obtain ⟨BK384,HB⟩ := n_;(try clear hb);(try clear hb2);(try clear hk);(try clear hi)) | ((with_reducible refine gate_callee (f := 40) rfl ?_);refine goesL_ (some 10) rfl rfl Try.func40 Z310 rfl #[.agg #[.bool t385,.int .u64 t386,.int .u64 t387],.int .i64 a1] rfl Z249 ?_;(with_reducible refine (impl_fracOf.calls t385 t386 t387 a1 t388 t389 t390 t391 t392 _ A4.out).mono ?_);rintro e wq3 ⟨rfl,hb⟩;refine ⟨_,rfl,?_⟩;have n_ := Z149;clear BK384 HB;obtain ⟨BK384,HB⟩ := n_;(try clear hb);(try clear hb2);(try clear hk);(try clear hi);obtain ⟨hczq4_0,hczq4_1,hczq4_2,hczq4_3,hfzq4_0,hfzq4_1,hfzq4_2,hfzq4_3⟩ := cells4 BK384.out))
 refine bodyPost_ret (results_ct rfl _ _ gb384 41 #[.bool t388,.int .u64 t389,.int .u64 t390,.int .i64 t391] (0,0) _ rfl (by refine bP ?_;refine blk_put (cs := #[.bool t388,.int .u64 t389,.int .u64 t390,.int .i64 0]) ?_ 3 _ rfl;refine bP ?_;refine blk_put (cs := #[.bool t388,.int .u64 t389,.int .u64 0,.int .i64 0]) ?_ 2 _ rfl;refine bP ?_;refine blk_put (cs := #[.bool t388,.int .u64 0,.int .u64 0,.int .i64 0]) ?_ 1 _ rfl;refine bP ?_;refine blk_put (cs := #[.bool false,.int .u64 0,.int .u64 0,.int .i64 0]) ?_ 0 _ rfl;refine bP ?_;exact BK384.out) Try.underlying41 rfl Z310) rfl ?_
 exact ⟨Z265,Z442⟩

/-! ### impl_PlainGain: function 23 -/
def impl_PlainGain.f (a0_0 : Int) (a0_1 : Int) (a1 : Int) : Option (Bool × Int × Int × Int × Bool) := (impl_isCount.f a0_0 a1).bind fun t395 => (if t395 = true then ((impl_SquareOver.f a0_1 (wrap64 (a0_0 + a1))).bind fun bt396 => (some (bt396.1,bt396.2.1,bt396.2.2.1,bt396.2.2.2.1,bt396.2.2.2.2))) else (some (false,0,0,0,false)))
set_option maxHeartbeats 8000000 in
set_option maxRecDepth 100000 in
theorem impl_PlainGain.calls (a0_0 : Int) (a0_1 : Int) (a1 : Int) (r1 : Bool) (r2 : Int) (r3 : Int) (r4 : Int) (r5 : Bool) (w : World) (h : impl_PlainGain.f a0_0 a0_1 a1 = some (r1,r2,r3,r4,r5)) :
  Calls Try.prog 23 #[.agg #[.int .i64 a0_0,.int .i64 a0_1],.int .i64 a1] w fun e w' => e = .returned (.tuple #[.agg #[.bool r1,.int .u64 r2,.int .u64 r3,.int .i64 r4],.bool r5]) ∧ Below w.heap.size w w' := by
 have hu25 := Try.underlying25
 have hu41 := Try.underlying41
 have HB := Aside0.mk (Below.refl w.heap.size w)
 have H := h
 clear h
 unfold impl_PlainGain.f at H
 obtain ⟨t395,A30,H⟩ := Option.bind_eq_some_iff.mp H
 have A3 := Aside0.mk A30
 clear A30
 by_cases c4 : t395 = true
 rotate_left
 ·replace c4 := Bool.eq_false_iff.mpr c4
  subst c4
  rw [if_neg Bool.false_ne_true] at H
  simp only [Option.some.injEq,Prod.mk.injEq] at H
  obtain ⟨rfl,rfl,rfl,rfl,rfl⟩ := H
  go_enter Try.func23,Try.ntmps23
  go_wp2_with (first | ((with_reducible refine gate_dst (N := 2) rfl ?_);refine bE 2 #[.int .i64 a0_0,.int .i64 a0_1] 25 (h := ?_);intro gb393 hg wq1 hbox hb;have n_ := Z117;clear HB;obtain ⟨HB,BK393,GW393,GE393⟩ := n_;clear hb hbox hg) | ((with_reducible refine gate_dst (N := 4) rfl ?_);refine bE 4 #[.bool false,.int .u64 0,.int .u64 0,.int .i64 0] 41 (h := ?_);intro gb394 hg wq2 hbox hb;have n_ := Z69;clear BK393 HB;obtain ⟨BK393,HB,BK394,GW394,GE394,NB393_394,NB394_393⟩ := n_;clear hb hbox hg;have hnbq3 := NB393_394.out;have hncq3 := NB394_393.out;obtain ⟨hczq4_0,hczq4_1,hfzq4_0,hfzq4_1⟩ := cells2 BK393.out) | ((with_reducible refine gate_callee (f := 37) rfl ?_);refine goesL_ (some 9) rfl rfl Try.func37 Z310 rfl #[.int .i64 a0_0,.int .i64 a1] rfl Z249 ?_;(with_reducible refine (impl_isCount.calls a0_0 a1 false _ A3.out).mono ?_);rintro e w' ⟨rfl,⟨nd,rfl⟩⟩;refine ⟨_,rfl,?_⟩;(iterate 4 (try (rw [drewN_self wq2];generalize hq_ : World.drewN wq2 _ = wq2;have n0_ : Aside0 (wq2.heap[gb393]? = some (.cells #[.int .i64 a0_0,.int .i64 a0_1] 25 (0,0))) := ⟨Z289⟩;have n1_ : Aside0 (wq2.heap[gb394]? = some (.cells #[.bool false,.int .u64 0,.int .u64 0,.int .i64 0] 41 (0,0))) := ⟨Z288⟩;have n2_ : Aside0 (Below w.heap.size w wq2) := ⟨Z188⟩;clear BK393 BK394 HB hq_;have BK393 := n0_;have BK394 := n1_;have HB := n2_;clear n0_ n1_ n2_)));(try (obtain ⟨hczq4_0,hczq4_1,hfzq4_0,hfzq4_1⟩ := cells2 BK393.out));obtain ⟨hczq5_0,hczq5_1,hczq5_2,hczq5_3,hfzq5_0,hfzq5_1,hfzq5_2,hfzq5_3⟩ := cells4 BK394.out))
  refine bodyPost_ret (results_ct rfl _ _ gb394 41 #[.bool false,.int .u64 0,.int .u64 0,.int .i64 0] (0,0) _ rfl (by refine bP ?_;refine blk_put (cs := #[.bool false,.int .u64 0,.int .u64 0,.int .i64 0]) ?_ 3 _ rfl;refine bP ?_;refine blk_put (cs := #[.bool false,.int .u64 0,.int .u64 0,.int .i64 0]) ?_ 2 _ rfl;refine bP ?_;refine blk_put (cs := #[.bool false,.int .u64 0,.int .u64 0,.int .i64 0]) ?_ 1 _ rfl;refine bP ?_;refine blk_put (cs := #[.bool false,.int .u64 0,.int .u64 0,.int .i64 0]) ?_ 0 _ rfl;refine bP ?_;exact BK394.out) Try.underlying41 rfl Z310) rfl ?_
  exact ⟨Z265,Z373⟩
 subst c4
 rw [if_pos rfl] at H
 obtain ⟨⟨t396,t397,t398,t399,t400⟩,A50,H⟩ := Option.bind_eq_some_iff.mp H
 try dsimp only at H
 have A5 := Aside0.mk A50
 clear A50
 simp only [Option.some.injEq,Prod.mk.injEq] at H
 obtain ⟨rfl,rfl,rfl,rfl,rfl⟩ := H
 go_enter Try.func23,Try.ntmps23
 go_wp2_with (first | ((with_reducible refine gate_dst (N := 2) rfl ?_);refine bE 2 #[.int .i64 a0_0,.int .i64 a0_1] 25 (h := ?_);intro gb393 hg wq1 hbox hb;have n_ := Z117;clear HB;obtain ⟨HB,BK393,GW393,GE393⟩ := n_;clear hb hbox hg) | ((with_reducible refine gate_dst (N := 4) rfl ?_);refine bE 4 #[.bool false,.int .u64 0,.int .u64 0,.int .i64 0] 41 (h := ?_);intro gb394 hg wq2 hbox hb;have n_ := Z69;clear BK393 HB;obtain ⟨BK393,HB,BK394,GW394,GE394,NB393_394,NB394_393⟩ := n_;clear hb hbox hg;have hnbq3 := NB393_394.out;have hncq3 := NB394_393.out;obtain ⟨hczq4_0,hczq4_1,hfzq4_0,hfzq4_1⟩ := cells2 BK393.out) | ((with_reducible refine gate_callee (f := 37) rfl ?_);refine goesL_ (some 9) rfl rfl Try.func37 Z310 rfl #[.int .i64 a0_0,.int .i64 a1] rfl Z249 ?_;(with_reducible refine (impl_isCount.calls a0_0 a1 true _ A3.out).mono ?_);rintro e w' ⟨rfl,⟨nd,rfl⟩⟩;refine ⟨_,rfl,?_⟩;(iterate 4 (try (rw [drewN_self wq2];generalize hq_ : World.drewN wq2 _ = wq2;have n0_ : Aside0 (wq2.heap[gb393]? = some (.cells #[.int .i64 a0_0,.int .i64 a0_1] 25 (0,0))) := ⟨Z289⟩;have n1_ : Aside0 (wq2.heap[gb394]? = some (.cells #[.bool false,.int .u64 0,.int .u64 0,.int .i64 0] 41 (0,0))) := ⟨Z288⟩;have n2_ : Aside0 (Below w.heap.size w wq2) := ⟨Z188⟩;clear BK393 BK394 HB hq_;have BK393 := n0_;have BK394 := n1_;have HB := n2_;clear n0_ n1_ n2_)));(try (obtain ⟨hczq4_0,hczq4_1,hfzq4_0,hfzq4_1⟩ := cells2 BK393.out))) | ((with_reducible refine gate_callee (f := 38) rfl ?_);refine goesL_ (some 18) rfl rfl Try.func38 Z310 rfl #[.int .i64 a0_1,.int .i64 (wrap64 (a0_0 + a1))] rfl Z249 ?_;(with_reducible refine (impl_SquareOver.calls a0_1 (wrap64 (a0_0 + a1)) t396 t397 t398 t399 t400 _ A5.out).mono ?_);rintro e wq5 ⟨rfl,hb⟩;refine ⟨_,rfl,?_⟩;have n_ := jA (blk_below (g := gb393) (o := .cells #[.int .i64 a0_0,.int .i64 a0_1] 25 (0,0)) Z502 hb) (jA (blk_below (g := gb394) (o := .cells #[.bool false,.int .u64 0,.int .u64 0,.int .i64 0] 41 (0,0)) (by refine bP ?_;exact BK394.out) hb) (Aside0.mk (below_step Z373 hb)));clear BK393 BK394 HB;obtain ⟨BK393,BK394,HB⟩ := n_;(try clear hb);(try clear hb2);(try clear hk);(try clear hi);obtain ⟨hczq6_0,hczq6_1,hczq6_2,hczq6_3,hfzq6_0,hfzq6_1,hfzq6_2,hfzq6_3⟩ := cells4 BK394.out))
 refine bodyPost_ret (results_ct rfl _ _ gb394 41 #[.bool t396,.int .u64 t397,.int .u64 t398,.int .i64 t399] (0,0) _ rfl (by refine bP ?_;refine blk_put (cs := #[.bool t396,.int .u64 t397,.int .u64 t398,.int .i64 0]) ?_ 3 _ rfl;refine bP ?_;refine blk_put (cs := #[.bool t396,.int .u64 t397,.int .u64 0,.int .i64 0]) ?_ 2 _ rfl;refine bP ?_;refine blk_put (cs := #[.bool t396,.int .u64 0,.int .u64 0,.int .i64 0]) ?_ 1 _ rfl;refine bP ?_;refine blk_put (cs := #[.bool false,.int .u64 0,.int .u64 0,.int .i64 0]) ?_ 0 _ rfl;refine bP ?_;exact BK394.out) Try.underlying41 rfl Z310) rfl ?_
 exact ⟨Z265,Z373⟩

/-! ### bits_Add64: function 58: the model stands in for it -/
def bits_Add64.f (a0 : Int) (a1 : Int) (a2 : Int) : Option (Int × Int) := if 0 ≤ a0 ∧ 0 ≤ a1 ∧ 0 ≤ a2 ∧ a2 ≤ 1 then some ((a0 + a1 + a2) % 18446744073709551616,(a0 + a1 + a2) / 18446744073709551616) else none
theorem bits_Add64.run (a0 a1 a2 r1 r2 : Int) (h : bits_Add64.f a0 a1 a2 = some (r1,r2)) (w : World) : (callFunc 58 #[.int .u64 a0,.int .u64 a1,.int .u64 a2]).run Try.prog w = .ok (.value (.tuple #[.int .u64 r1,.int .u64 r2])) w := by
 unfold bits_Add64.f at h
 split at h
 ·rename_i g
  simp only [Option.some.injEq,Prod.mk.injEq] at h
  obtain ⟨rfl,rfl⟩ := h
  obtain ⟨g0,g1,g2,g3⟩ := g
  rw [run_callFunc_extern Try.func58 Z310 Z310 Z310 (e := add64Entry) Z310,run_add64 a0 a1 a2 g0 g1 g2 g3]
  rfl
 simp at h

end Go.Proofs.Ytlflcgdcegohjaa.QFnBetter
