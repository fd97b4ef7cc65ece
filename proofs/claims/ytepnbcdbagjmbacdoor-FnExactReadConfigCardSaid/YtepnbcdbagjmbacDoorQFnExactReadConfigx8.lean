/- The machine side of FnExactReadConfig: what each Go function that it reaches comes to. Conditions: none. -/
import Derived.Test.YtepnbcdbagjmbacDoorQFnExactReadConfigx0
import Derived.Test.YtepnbcdbagjmbacDoorQFnExactReadConfigx4
import Derived.Test.YtepnbcdbagjmbacDoorQFnExactReadConfigx6
import Derived.Test.YtepnbcdbagjmbacDoorQFnExactReadConfigx7
namespace Go.Proofs.YtepnbcdbagjmbacDoor.QFnExactReadConfig
open Go.RowKit Go.Proofs.YtepnbcdbagjmbacDoorW.PrintWords Go.Proofs.YtepnbcdbagjmbacDoorW.PrintLast Go.Proofs.YtepnbcdbagjmbacDoorW.PrintMore
attribute [local go_sem] max2_int min2_int max_two min_two max_three min_three max_four min_four   -- for this text's walks alone
set_option linter.unusedVariables false
set_option linter.unusedSimpArgs false

/-! ### laws_FnExactReadConfig: function 3 -/
mutual
def laws_FnExactReadConfig.j0 : Nat → ByteArray → Bool → Int → Int → Int → Int → Int → Int → Int → List Int → Int → Int → Int → Int → Int → Int → Int → Int → Int → Int → List Int → Option (Bool)
 | 0,_,_,_,_,_,_,_,_,_,_,_,_,_,_,_,_,_,_,_,_,_ => none
 | k + 1,x0,x33,x328000,x328001,x328002,x328003,x328004,x328005,x328006,x328007,x329000,x329001,x329002,x343000,x343001,x343002,x343003,x343004,x343005,x343006,x343007 => if x33 = true then (some false) else ((laws_markConfig.f k x343000 x343001 x343002 x343003 x343004 x343005 x343006 x343007 1).bind fun bt346 => ((laws_heldConfig.f k x343000 x343001 x343002 x343003 x343004 x343005 x343006 bt346.2 1).bind fun t348 => (if t348 < 0 then (some false) else (if t348 = bt346.1 then ((impl_ReadConfig.f k x0).bind fun bt349 => ((laws_eqConfig.f k bt349.1 bt349.2.1 bt349.2.2.1 bt349.2.2.2.1 bt349.2.2.2.2.1 bt349.2.2.2.2.2.1 bt349.2.2.2.2.2.2.1 bt349.2.2.2.2.2.2.2.1 x328000 x328001 x328002 x328003 x328004 x328005 x328006 x328007).bind fun t364 => (if t364 = true then ((laws_eqFault.f bt349.2.2.2.2.2.2.2.2.1 bt349.2.2.2.2.2.2.2.2.2.1 bt349.2.2.2.2.2.2.2.2.2.2 x329000 x329001 x329002).bind fun t365 => (laws_FnExactReadConfig.j1 k bt346.1 (!t365) x343000 x343001 x343002 x343003 x343004 x343005 x343006 bt346.2)) else (laws_FnExactReadConfig.j1 k bt346.1 true x343000 x343001 x343002 x343003 x343004 x343005 x343006 bt346.2)))) else (some false)))))
def laws_FnExactReadConfig.j1 : Nat → Int → Bool → Int → Int → Int → Int → Int → Int → Int → List Int → Option (Bool)
 | 0,_,_,_,_,_,_,_,_,_,_ => none
 | k + 1,x7,x59,x343000,x343001,x343002,x343003,x343004,x343005,x343006,x343007 => if x59 = true then (some false) else ((laws_heldConfig.f k x343000 x343001 x343002 x343003 x343004 x343005 x343006 x343007 1).bind fun t366 => (if t366 < 0 then (some false) else (if t366 = x7 then (some true) else (some false))))
end
def laws_FnExactReadConfig.f (k : Nat) (a0 : ByteArray) : Option (Bool) := if (a0.size : Int) > 1048576 then (some true) else ((spec_ReadConfig.f k a0).bind fun bt314 => ((impl_ReadConfig.f k a0).bind fun bt329 => ((laws_eqConfig.f k bt329.1 bt329.2.1 bt329.2.2.1 bt329.2.2.2.1 bt329.2.2.2.2.1 bt329.2.2.2.2.2.1 bt329.2.2.2.2.2.2.1 bt329.2.2.2.2.2.2.2.1 bt314.1 bt314.2.1 bt314.2.2.1 bt314.2.2.2.1 bt314.2.2.2.2.1 bt314.2.2.2.2.2.1 bt314.2.2.2.2.2.2.1 bt314.2.2.2.2.2.2.2.1).bind fun t344 => (if t344 = true then ((laws_eqFault.f bt329.2.2.2.2.2.2.2.2.1 bt329.2.2.2.2.2.2.2.2.2.1 bt329.2.2.2.2.2.2.2.2.2.2 bt314.2.2.2.2.2.2.2.2.1 bt314.2.2.2.2.2.2.2.2.2.1 bt314.2.2.2.2.2.2.2.2.2.2).bind fun t345 => (laws_FnExactReadConfig.j0 k a0 (!t345) bt314.1 bt314.2.1 bt314.2.2.1 bt314.2.2.2.1 bt314.2.2.2.2.1 bt314.2.2.2.2.2.1 bt314.2.2.2.2.2.2.1 bt314.2.2.2.2.2.2.2.1 bt314.2.2.2.2.2.2.2.2.1 bt314.2.2.2.2.2.2.2.2.2.1 bt314.2.2.2.2.2.2.2.2.2.2 bt329.1 bt329.2.1 bt329.2.2.1 bt329.2.2.2.1 bt329.2.2.2.2.1 bt329.2.2.2.2.2.1 bt329.2.2.2.2.2.2.1 bt329.2.2.2.2.2.2.2.1)) else (laws_FnExactReadConfig.j0 k a0 true bt314.1 bt314.2.1 bt314.2.2.1 bt314.2.2.2.1 bt314.2.2.2.2.1 bt314.2.2.2.2.2.1 bt314.2.2.2.2.2.2.1 bt314.2.2.2.2.2.2.2.1 bt314.2.2.2.2.2.2.2.2.1 bt314.2.2.2.2.2.2.2.2.2.1 bt314.2.2.2.2.2.2.2.2.2.2 bt329.1 bt329.2.1 bt329.2.2.1 bt329.2.2.2.1 bt329.2.2.2.2.1 bt329.2.2.2.2.2.1 bt329.2.2.2.2.2.2.1 bt329.2.2.2.2.2.2.2.1)))))
theorem laws_FnExactReadConfig.mono_l : ∀ k,(∀ y0 y1 y2 y3 y4 y5 y6 y7 y8 y9 y10 y11 y12 y13 y14 y15 y16 y17 y18 y19 y20,LeO (laws_FnExactReadConfig.j0 k y0 y1 y2 y3 y4 y5 y6 y7 y8 y9 y10 y11 y12 y13 y14 y15 y16 y17 y18 y19 y20) (laws_FnExactReadConfig.j0 (k + 1) y0 y1 y2 y3 y4 y5 y6 y7 y8 y9 y10 y11 y12 y13 y14 y15 y16 y17 y18 y19 y20)) ∧ (∀ y0 y1 y2 y3 y4 y5 y6 y7 y8 y9,LeO (laws_FnExactReadConfig.j1 k y0 y1 y2 y3 y4 y5 y6 y7 y8 y9) (laws_FnExactReadConfig.j1 (k + 1) y0 y1 y2 y3 y4 y5 y6 y7 y8 y9))
 | 0 => ⟨fun _ _ _ _ _ _ _ _ _ _ _ _ _ _ _ _ _ _ _ _ _ r h => by simp [laws_FnExactReadConfig.j0] at h,fun _ _ _ _ _ _ _ _ _ _ r h => by simp [laws_FnExactReadConfig.j1] at h⟩
 | k + 1 => by
  obtain ⟨ih0,ih1⟩ := laws_FnExactReadConfig.mono_l k
  refine ⟨?_,?_⟩
  ·intro y0 y1 y2 y3 y4 y5 y6 y7 y8 y9 y10 y11 y12 y13 y14 y15 y16 y17 y18 y19 y20
   unfold laws_FnExactReadConfig.j0
   repeat' first
   | (with_reducible exact ih0 _ _ _ _ _ _ _ _ _ _ _ _ _ _ _ _ _ _ _ _ _)
   | (with_reducible exact ih1 _ _ _ _ _ _ _ _ _ _)
   | (with_reducible exact impl_ReadConfig.mono _ _)
   | (with_reducible exact laws_eqConfig.mono _ _ _ _ _ _ _ _ _ _ _ _ _ _ _ _ _)
   | (with_reducible exact laws_heldConfig.mono _ _ _ _ _ _ _ _ _ _)
   | (with_reducible exact laws_markConfig.mono _ _ _ _ _ _ _ _ _ _)
   | (with_reducible exact spec_ReadConfig.mono _ _)
   | (with_reducible exact LeO.refl _)
   | (with_reducible exact LeO.none _)
   | (with_reducible refine LeO.ite ?_ ?_)
   | (with_reducible refine LeO.bind ?_ (fun _ => ?_))
   | exact ih0 _ _ _ _ _ _ _ _ _ _ _ _ _ _ _ _ _ _ _ _ _
   | exact ih1 _ _ _ _ _ _ _ _ _ _
   | exact impl_ReadConfig.mono _ _
   | exact laws_eqConfig.mono _ _ _ _ _ _ _ _ _ _ _ _ _ _ _ _ _
   | exact laws_heldConfig.mono _ _ _ _ _ _ _ _ _ _
   | exact laws_markConfig.mono _ _ _ _ _ _ _ _ _ _
   | exact spec_ReadConfig.mono _ _
   | exact LeO.none _
   | refine LeO.ite ?_ ?_
   | refine LeO.bind ?_ (fun _ => ?_)
  ·intro y0 y1 y2 y3 y4 y5 y6 y7 y8 y9
   unfold laws_FnExactReadConfig.j1
   repeat' first
   | (with_reducible exact ih0 _ _ _ _ _ _ _ _ _ _ _ _ _ _ _ _ _ _ _ _ _)
   | (with_reducible exact ih1 _ _ _ _ _ _ _ _ _ _)
   | (with_reducible exact impl_ReadConfig.mono _ _)
   | (with_reducible exact laws_eqConfig.mono _ _ _ _ _ _ _ _ _ _ _ _ _ _ _ _ _)
   | (with_reducible exact laws_heldConfig.mono _ _ _ _ _ _ _ _ _ _)
   | (with_reducible exact laws_markConfig.mono _ _ _ _ _ _ _ _ _ _)
   | (with_reducible exact spec_ReadConfig.mono _ _)
   | (with_reducible exact LeO.refl _)
   | (with_reducible exact LeO.none _)
   | (with_reducible refine LeO.ite ?_ ?_)
   | (with_reducible refine LeO.bind ?_ (fun _ => ?_))
   | exact ih0 _ _ _ _ _ _ _ _ _ _ _ _ _ _ _ _ _ _ _ _ _
   | exact ih1 _ _ _ _ _ _ _ _ _ _
   | exact impl_ReadConfig.mono _ _
   | exact laws_eqConfig.mono _ _ _ _ _ _ _ _ _ _ _ _ _ _ _ _ _
   | exact laws_heldConfig.mono _ _ _ _ _ _ _ _ _ _
   | exact laws_markConfig.mono _ _ _ _ _ _ _ _ _ _
   | exact spec_ReadConfig.mono _ _
   | exact LeO.none _
   | refine LeO.ite ?_ ?_
   | refine LeO.bind ?_ (fun _ => ?_)
theorem laws_FnExactReadConfig.mono : ∀ a0 k,LeO (laws_FnExactReadConfig.f k a0) (laws_FnExactReadConfig.f (k + 1) a0) := by
 intro a0 k
 obtain ⟨ih0,ih1⟩ := laws_FnExactReadConfig.mono_l k
 unfold laws_FnExactReadConfig.f
 repeat' first
   | (with_reducible exact ih0 _ _ _ _ _ _ _ _ _ _ _ _ _ _ _ _ _ _ _ _ _)
   | (with_reducible exact ih1 _ _ _ _ _ _ _ _ _ _)
   | (with_reducible exact impl_ReadConfig.mono _ _)
   | (with_reducible exact laws_eqConfig.mono _ _ _ _ _ _ _ _ _ _ _ _ _ _ _ _ _)
   | (with_reducible exact laws_heldConfig.mono _ _ _ _ _ _ _ _ _ _)
   | (with_reducible exact laws_markConfig.mono _ _ _ _ _ _ _ _ _ _)
   | (with_reducible exact spec_ReadConfig.mono _ _)
   | (with_reducible exact LeO.refl _)
   | (with_reducible exact LeO.none _)
   | (with_reducible refine LeO.ite ?_ ?_)
   | (with_reducible refine LeO.bind ?_ (fun _ => ?_))
   | exact ih0 _ _ _ _ _ _ _ _ _ _ _ _ _ _ _ _ _ _ _ _ _
   | exact ih1 _ _ _ _ _ _ _ _ _ _
   | exact impl_ReadConfig.mono _ _
   | exact laws_eqConfig.mono _ _ _ _ _ _ _ _ _ _ _ _ _ _ _ _ _
   | exact laws_heldConfig.mono _ _ _ _ _ _ _ _ _ _
   | exact laws_markConfig.mono _ _ _ _ _ _ _ _ _ _
   | exact spec_ReadConfig.mono _ _
   | exact LeO.none _
   | refine LeO.ite ?_ ?_
   | refine LeO.bind ?_ (fun _ => ?_)
theorem laws_FnExactReadConfig.j0_stop {k : Nat} {r : Bool} {y0 : ByteArray} {y328000 : Int} {y328001 : Int} {y328002 : Int} {y328003 : Int} {y328004 : Int} {y328005 : Int} {y328006 : Int} {y328007 : List Int} {y329000 : Int} {y329001 : Int} {y329002 : Int} {y343000 : Int} {y343001 : Int} {y343002 : Int} {y343003 : Int} {y343004 : Int} {y343005 : Int} {y343006 : Int} {y343007 : List Int} (h : laws_FnExactReadConfig.j0 k y0 true y328000 y328001 y328002 y328003 y328004 y328005 y328006 y328007 y329000 y329001 y329002 y343000 y343001 y343002 y343003 y343004 y343005 y343006 y343007 = some r) : r = false := by
 cases k with
 | zero => simp [laws_FnExactReadConfig.j0] at h
 | succ k =>
  simp only [laws_FnExactReadConfig.j0] at h
  rw [if_pos trivial] at h
  exact (Option.some.inj h).symm
theorem laws_FnExactReadConfig.j1_stop {k : Nat} {r : Bool} {y7 : Int} {y343000 : Int} {y343001 : Int} {y343002 : Int} {y343003 : Int} {y343004 : Int} {y343005 : Int} {y343006 : Int} {y343007 : List Int} (h : laws_FnExactReadConfig.j1 k y7 true y343000 y343001 y343002 y343003 y343004 y343005 y343006 y343007 = some r) : r = false := by
 cases k with
 | zero => simp [laws_FnExactReadConfig.j1] at h
 | succ k =>
  simp only [laws_FnExactReadConfig.j1] at h
  rw [if_pos trivial] at h
  exact (Option.some.inj h).symm
set_option maxHeartbeats 8000000 in
set_option maxRecDepth 100000 in
theorem laws_FnExactReadConfig.calls (k : Nat) (a0 : ByteArray) (r : Bool) (w : World) (hG : GT w) (h : laws_FnExactReadConfig.f k a0 = some r) (hr_ : r = true) :
  Calls Tryd.prog 3 #[.string a0] w fun e w' => e = .returned (.bool r) ∧ Below w.heap.size w w' := by
 have HRT := Aside0.mk hr_
 clear hr_
 have HG := Aside0.mk hG
 clear hG
 have hu24 := Tryd.underlying24
 have hu26 := Tryd.underlying26
 have HB := Aside0.mk (Below.refl w.heap.size w)
 have H := h
 clear h
 unfold laws_FnExactReadConfig.f at H
 by_cases c2 : (a0.size : Int) > 1048576
 ·rw [if_pos c2] at H
  have c2b0 : decide (1048576 < (a0.size : Int)) = true := decide_eq_true c2
  have c2b1 : decide (1048576 < a0.size) = true := decide_eq_true Z134
  clear c2
  obtain rfl := Option.some.inj H
  go_enter Tryd.func3,Tryd.ntmps3
  go_wp2
  go_ret
  exact ⟨Z107,Z186⟩
 rw [if_neg c2] at H
 have c2b0 : decide (1048576 < (a0.size : Int)) = false := decide_eq_false c2
 have c2b1 : decide (1048576 < a0.size) = false := decide_eq_false Z134
 clear c2
 obtain ⟨⟨t314,t315,t316,t317,t318,t319,t320,t321,t324,t325,t326⟩,A30,H⟩ := Option.bind_eq_some_iff.mp H
 try dsimp only at H
 have A3 := Aside0.mk A30
 clear A30
 obtain ⟨⟨t329,t330,t331,t332,t333,t334,t335,t336,t339,t340,t341⟩,A40,H⟩ := Option.bind_eq_some_iff.mp H
 try dsimp only at H
 have A4 := Aside0.mk A40
 clear A40
 have HC5 := Aside0.mk H
 clear H
 go_enter Tryd.func3,Tryd.ntmps3
 go_upto_region 5 with (first | ((with_reducible refine gate_callee (f := 4) rfl ?_);refine goesL_ (some 16) rfl rfl Tryd.func4 Z133 rfl #[.string a0] rfl Z87 ?_;(with_reducible refine (spec_ReadConfig.calls k a0 t314 t315 t316 t317 t318 t319 t320 t321 t324 t325 t326 _ A3.out).mono ?_);rintro e w6 ⟨v322,rfl,ho0,hb⟩;refine ⟨_,rfl,?_⟩;have n_ := Z31;clear HB;obtain ⟨HO323,HB⟩ := n_;(try clear hb);(try clear hb2);(try clear hk);(try clear hi);(try clear ho0)) | ((with_reducible refine gate_dst (N := 3) rfl ?_);refine bE 3 #[.int .i64 0,.int .i64 0,.int .i64 0,.int .i64 0,.int .i64 0,.int .i64 0,.int .i64 0,.slice none 0 0] 24 (h := ?_);intro gb327 hg w7 hbox hb;have n_ := jA (Kd.R_below Z96 hb) (jA (below_step Z186 hb) (jA (hbox) (jA ((Z155 : w.heap.size ≤ gb327)) (Aside0.mk ((Z155 : w.heap.size ≤ gb327))))));clear HO323 HB;obtain ⟨HO323,HB,BK327,GW327,GE327⟩ := n_;clear hb hbox hg) | ((with_reducible refine gate_dst (N := 4) rfl ?_);refine bE 4 #[.int .i64 0,.int .i64 0,.int .i64 0] 26 (h := ?_);intro gb328 hg w8 hbox hb;have n_ := jA (Kd.R_below Z96 hb) (jA (blk_below (g := gb327) (o := .cells #[.int .i64 0,.int .i64 0,.int .i64 0,.int .i64 0,.int .i64 0,.int .i64 0,.int .i64 0,.slice none 0 0] 24 (0,0)) Z171 hb) (jA (below_step Z157 hb) (jA (hbox) (jA ((Z64 : w.heap.size ≤ gb328)) (jA ((Z64 : w.heap.size ≤ gb328)) (jA ((by rw [hg];exact Nat.ne_of_lt (blk_lt (g := gb327) (o := .cells #[.int .i64 0,.int .i64 0,.int .i64 0,.int .i64 0,.int .i64 0,.int .i64 0,.int .i64 0,.slice none 0 0] 24 (0,0)) Z171) : gb327 ≠ gb328)) (Aside0.mk ((by rw [hg];exact Nat.ne_of_gt (blk_lt (g := gb327) (o := .cells #[.int .i64 0,.int .i64 0,.int .i64 0,.int .i64 0,.int .i64 0,.int .i64 0,.int .i64 0,.slice none 0 0] 24 (0,0)) Z171) : gb328 ≠ gb327)))))))));clear HO323 BK327 HB;obtain ⟨HO323,BK327,HB,BK328,GW328,GE328,NB327_328,NB328_327⟩ := n_;clear hb hbox hg;have hnb9 := NB327_328.out;have hnc9 := NB328_327.out;obtain ⟨hcz10_0,hcz10_1,hcz10_2,hcz10_3,hcz10_4,hcz10_5,hcz10_6,hcz10_7,hfz10_0,hfz10_1,hfz10_2,hfz10_3,hfz10_4,hfz10_5,hfz10_6,hfz10_7⟩ := cells8 BK327.out;obtain ⟨Ao11,co11,eo11⟩ := Kd.R_slice HO323.out;subst eo11;obtain ⟨hcz12_0,hcz12_1,hcz12_2,hfz12_0,hfz12_1,hfz12_2⟩ := cells3 BK328.out) | ((with_reducible refine gate_callee (f := 5) rfl ?_);refine goesL_ (some 21) rfl rfl Tryd.func5 Z133 rfl #[.string a0] rfl Z87 ?_;(with_reducible refine (impl_ReadConfig.calls k a0 t329 t330 t331 t332 t333 t334 t335 t336 t339 t340 t341 _ ?side1 A4.out).mono ?_);(case side1 => exact GT_below HG.out Z148);rintro e w13 ⟨v337,rfl,ho0,hb⟩;refine ⟨_,rfl,?_⟩;have n_ := jA (Kd.R_elder' Z17 (Kd.R_base ho0) hb) (jA (Kd.R_lower (Kd.R_new' ho0 (Kd.R_lt Z17)) (below_size Z148)) (jA (blk_below (g := gb327) (o := .cells #[.int .i64 t314,.int .i64 t315,.int .i64 t316,.int .i64 t317,.int .i64 t318,.int .i64 t319,.int .i64 t320,.slice Ao11 t321.length co11] 24 (0,0)) (by refine bP ?_;refine blk_far ?_ NB327_328.out _;refine bP ?_;refine blk_far ?_ NB327_328.out _;refine bP ?_;refine blk_far ?_ NB327_328.out _;refine bP ?_;refine blk_put (cs := #[.int .i64 t314,.int .i64 t315,.int .i64 t316,.int .i64 t317,.int .i64 t318,.int .i64 t319,.int .i64 t320,.slice none 0 0]) ?_ 7 _ rfl;refine bP ?_;refine blk_put (cs := #[.int .i64 t314,.int .i64 t315,.int .i64 t316,.int .i64 t317,.int .i64 t318,.int .i64 t319,.int .i64 0,.slice none 0 0]) ?_ 6 _ rfl;refine bP ?_;refine blk_put (cs := #[.int .i64 t314,.int .i64 t315,.int .i64 t316,.int .i64 t317,.int .i64 t318,.int .i64 0,.int .i64 0,.slice none 0 0]) ?_ 5 _ rfl;refine bP ?_;refine blk_put (cs := #[.int .i64 t314,.int .i64 t315,.int .i64 t316,.int .i64 t317,.int .i64 0,.int .i64 0,.int .i64 0,.slice none 0 0]) ?_ 4 _ rfl;refine bP ?_;refine blk_put (cs := #[.int .i64 t314,.int .i64 t315,.int .i64 t316,.int .i64 0,.int .i64 0,.int .i64 0,.int .i64 0,.slice none 0 0]) ?_ 3 _ rfl;refine bP ?_;refine blk_put (cs := #[.int .i64 t314,.int .i64 t315,.int .i64 0,.int .i64 0,.int .i64 0,.int .i64 0,.int .i64 0,.slice none 0 0]) ?_ 2 _ rfl;refine bP ?_;refine blk_put (cs := #[.int .i64 t314,.int .i64 0,.int .i64 0,.int .i64 0,.int .i64 0,.int .i64 0,.int .i64 0,.slice none 0 0]) ?_ 1 _ rfl;refine bP ?_;refine blk_put (cs := #[.int .i64 0,.int .i64 0,.int .i64 0,.int .i64 0,.int .i64 0,.int .i64 0,.int .i64 0,.slice none 0 0]) ?_ 0 _ rfl;refine bP ?_;exact BK327.out) hb) (jA (blk_below (g := gb328) (o := .cells #[.int .i64 t324,.int .i64 t325,.int .i64 t326] 26 (0,0)) (by refine bP ?_;refine blk_put (cs := #[.int .i64 t324,.int .i64 t325,.int .i64 0]) ?_ 2 _ rfl;refine bP ?_;refine blk_put (cs := #[.int .i64 t324,.int .i64 0,.int .i64 0]) ?_ 1 _ rfl;refine bP ?_;refine blk_put (cs := #[.int .i64 0,.int .i64 0,.int .i64 0]) ?_ 0 _ rfl;refine bP ?_;refine blk_far ?_ NB328_327.out _;refine bP ?_;refine blk_far ?_ NB328_327.out _;refine bP ?_;refine blk_far ?_ NB328_327.out _;refine bP ?_;refine blk_far ?_ NB328_327.out _;refine bP ?_;refine blk_far ?_ NB328_327.out _;refine bP ?_;refine blk_far ?_ NB328_327.out _;refine bP ?_;refine blk_far ?_ NB328_327.out _;refine bP ?_;refine blk_far ?_ NB328_327.out _;refine bP ?_;exact BK328.out) hb) (Aside0.mk (below_step Z148 hb)))));clear HO323 BK327 BK328 HB;obtain ⟨HO323,HO338,BK327,BK328,HB⟩ := n_;(try clear hb);(try clear hb2);(try clear hk);(try clear hi);(try clear ho0)) | ((with_reducible refine gate_dst (N := 5) rfl ?_);refine bE 5 #[.int .i64 0,.int .i64 0,.int .i64 0,.int .i64 0,.int .i64 0,.int .i64 0,.int .i64 0,.slice none 0 0] 24 (h := ?_);intro gb342 hg w14 hbox hb;have n_ := jA (Kd.R_below Z96 hb) (jA (Kd.R_below Z100 hb) (jA (blk_below (g := gb327) (o := .cells #[.int .i64 t314,.int .i64 t315,.int .i64 t316,.int .i64 t317,.int .i64 t318,.int .i64 t319,.int .i64 t320,.slice Ao11 t321.length co11] 24 (0,0)) Z171 hb) (jA (blk_below (g := gb328) (o := .cells #[.int .i64 t324,.int .i64 t325,.int .i64 t326] 26 (0,0)) Z173 hb) (jA (below_step Z148 hb) (jA (hbox) (jA ((Z57 : w.heap.size ≤ gb342)) (jA ((Z57 : w.heap.size ≤ gb342)) (jA ((Z53 : gb327 ≠ gb342)) (jA ((Z54 : gb342 ≠ gb327)) (jA ((Z81 : gb328 ≠ gb342)) (Aside0.mk ((Z82 : gb342 ≠ gb328)))))))))))));clear HO323 HO338 BK327 BK328 HB;obtain ⟨HO323,HO338,BK327,BK328,HB,BK342,GW342,GE342,NB327_342,NB342_327,NB328_342,NB342_328⟩ := n_;clear hb hbox hg) | ((with_reducible refine gate_dst (N := 6) rfl ?_);refine bE 6 #[.int .i64 0,.int .i64 0,.int .i64 0] 26 (h := ?_);intro gb343 hg w15 hbox hb;have n_ := jA (Kd.R_below Z96 hb) (jA (Kd.R_below Z100 hb) (jA (blk_below (g := gb327) (o := .cells #[.int .i64 t314,.int .i64 t315,.int .i64 t316,.int .i64 t317,.int .i64 t318,.int .i64 t319,.int .i64 t320,.slice Ao11 t321.length co11] 24 (0,0)) Z171 hb) (jA (blk_below (g := gb328) (o := .cells #[.int .i64 t324,.int .i64 t325,.int .i64 t326] 26 (0,0)) Z173 hb) (jA (blk_below (g := gb342) (o := .cells #[.int .i64 0,.int .i64 0,.int .i64 0,.int .i64 0,.int .i64 0,.int .i64 0,.int .i64 0,.slice none 0 0] 24 (0,0)) Z172 hb) (jA (below_step Z140 hb) (jA (hbox) (jA ((Z49 : w.heap.size ≤ gb343)) (jA ((Z49 : w.heap.size ≤ gb343)) (jA ((Z53 : gb327 ≠ gb343)) (jA ((Z54 : gb343 ≠ gb327)) (jA ((Z81 : gb328 ≠ gb343)) (jA ((Z82 : gb343 ≠ gb328)) (jA ((by rw [hg];exact Nat.ne_of_lt (blk_lt (g := gb342) (o := .cells #[.int .i64 0,.int .i64 0,.int .i64 0,.int .i64 0,.int .i64 0,.int .i64 0,.int .i64 0,.slice none 0 0] 24 (0,0)) Z172) : gb342 ≠ gb343)) (Aside0.mk ((by rw [hg];exact Nat.ne_of_gt (blk_lt (g := gb342) (o := .cells #[.int .i64 0,.int .i64 0,.int .i64 0,.int .i64 0,.int .i64 0,.int .i64 0,.int .i64 0,.slice none 0 0] 24 (0,0)) Z172) : gb343 ≠ gb342))))))))))))))));clear HO323 HO338 BK327 BK328 BK342 HB;obtain ⟨HO323,HO338,BK327,BK328,BK342,HB,BK343,GW343,GE343,NB327_343,NB343_327,NB328_343,NB343_328,NB342_343,NB343_342⟩ := n_;clear hb hbox hg;have hnb16 := NB342_327.out;have hnc16 := NB327_342.out;have hnb17 := NB342_328.out;have hnc17 := NB328_342.out;have hnb18 := NB342_343.out;have hnc18 := NB343_342.out;obtain ⟨hcz19_0,hcz19_1,hcz19_2,hcz19_3,hcz19_4,hcz19_5,hcz19_6,hcz19_7,hfz19_0,hfz19_1,hfz19_2,hfz19_3,hfz19_4,hfz19_5,hfz19_6,hfz19_7⟩ := cells8 BK342.out;obtain ⟨Ao20,co20,eo20⟩ := Kd.R_slice HO338.out;subst eo20;have hnb21 := NB343_327.out;have hnc21 := NB327_343.out;have hnb22 := NB343_328.out;have hnc22 := NB328_343.out;obtain ⟨hcz23_0,hcz23_1,hcz23_2,hfz23_0,hfz23_1,hfz23_2⟩ := cells3 BK343.out))
 (try simp only [Act.put,List.setIfInBounds_toArray,List.set_cons_zero,List.set_cons_succ])
 go_cut [33] (fun v33 wc => ∃ (kq : Nat) (x33_4 : Bool),v33 = .bool x33_4 ∧ Aside0 (laws_FnExactReadConfig.j0 kq a0 x33_4 t314 t315 t316 t317 t318 t319 t320 t321 t324 t325 t326 t329 t330 t331 t332 t333 t334 t335 t336 = some r) ∧ Aside0 (kq ≤ k) ∧ Aside0 (Kd.R (Kd.int .i64) 3 wc w.heap.size (fun k_ => some k_ ≠ ((.slice Ao20 t336.length co20) : Value).ownBlock) (.slice Ao11 t321.length co11) t321) ∧ Aside0 (Kd.R (Kd.int .i64) 3 wc w.heap.size (fun k_ => some k_ ≠ ((.slice Ao11 t321.length co11) : Value).ownBlock) (.slice Ao20 t336.length co20) t336) ∧ Aside0 (wc.heap[gb327]? = some (.cells #[.int .i64 t314,.int .i64 t315,.int .i64 t316,.int .i64 t317,.int .i64 t318,.int .i64 t319,.int .i64 t320,(.slice Ao11 t321.length co11)] 24 (0,0))) ∧ Aside0 (wc.heap[gb328]? = some (.cells #[.int .i64 t324,.int .i64 t325,.int .i64 t326] 26 (0,0))) ∧ Aside0 (wc.heap[gb342]? = some (.cells #[.int .i64 t329,.int .i64 t330,.int .i64 t331,.int .i64 t332,.int .i64 t333,.int .i64 t334,.int .i64 t335,(.slice Ao20 t336.length co20)] 24 (0,0))) ∧ Aside0 (wc.heap[gb343]? = some (.cells #[.int .i64 t339,.int .i64 t340,.int .i64 t341] 26 (0,0))) ∧ Aside0 (Below w.heap.size w wc))
 case first =>
  have H := HC5.out
  clear HC5
  obtain ⟨t344,A240,H⟩ := Option.bind_eq_some_iff.mp H
  have A24 := Aside0.mk A240
  clear A240
  by_cases c25 : t344 = true
  rotate_left
  ·replace c25 := Bool.eq_false_iff.mpr c25
   subst c25
   rw [if_neg Bool.false_ne_true] at H
   exact absurd ((laws_FnExactReadConfig.j0_stop H).symm.trans HRT.out) Z180
  subst c25
  rw [if_pos rfl] at H
  obtain ⟨t345,A260,H⟩ := Option.bind_eq_some_iff.mp H
  have A26 := Aside0.mk A260
  clear A260
  have H' := Aside0.mk H
  clear H
  have hnb27 := NB342_327.out
  have hnc27 := NB327_342.out
  have hnb28 := NB342_328.out
  have hnc28 := NB328_342.out
  have hnb29 := NB342_343.out
  have hnc29 := NB343_342.out
  obtain ⟨hcz30_0,hcz30_1,hcz30_2,hcz30_3,hcz30_4,hcz30_5,hcz30_6,hcz30_7,hfz30_0,hfz30_1,hfz30_2,hfz30_3,hfz30_4,hfz30_5,hfz30_6,hfz30_7⟩ := cells8 BK342.out
  have hnb31 := NB327_328.out
  have hnc31 := NB328_327.out
  have hnb32 := NB327_343.out
  have hnc32 := NB343_327.out
  obtain ⟨hcz33_0,hcz33_1,hcz33_2,hcz33_3,hcz33_4,hcz33_5,hcz33_6,hcz33_7,hfz33_0,hfz33_1,hfz33_2,hfz33_3,hfz33_4,hfz33_5,hfz33_6,hfz33_7⟩ := cells8 BK327.out
  go_wp2_with (first | ((with_reducible refine gate_callee (f := 6) rfl ?_);refine goesL_ (some 26) rfl rfl Tryd.func6 Z133 rfl #[.agg #[.int .i64 t329,.int .i64 t330,.int .i64 t331,.int .i64 t332,.int .i64 t333,.int .i64 t334,.int .i64 t335,.slice Ao20 t336.length co20],.agg #[.int .i64 t314,.int .i64 t315,.int .i64 t316,.int .i64 t317,.int .i64 t318,.int .i64 t319,.int .i64 t320,.slice Ao11 t321.length co11]] rfl Z87 ?_;(with_reducible refine (laws_eqConfig.calls k t329 t330 t331 t332 t333 t334 t335 _ _ t336 t314 t315 t316 t317 t318 t319 t320 _ _ t321 true _ ?side1 ?side2 ?side3 ?side4 A24.out).mono ?_);(case side1 => refine (Kd.R_reads' (e := 3) (base := w.heap.size) (ok := fun k_ => (True ∧ some k_ ≠ (.slice Ao11 t321.length co11 : Value).ownBlock)) (n := t336.length) (c := co20) ?_).2.2;exact Z15);(case side2 => exact (Kd.R_reads' HO338.out).2.1);(case side3 => refine (Kd.R_reads' (e := 3) (base := w.heap.size) (ok := fun k_ => (True ∧ some k_ ≠ (.slice Ao20 t336.length co20 : Value).ownBlock)) (n := t321.length) (c := co11) ?_).2.2;exact Z16);(case side4 => exact (Kd.R_reads' HO323.out).2.1);rintro e w34 ⟨rfl,hb⟩;refine ⟨_,rfl,?_⟩;have n_ := jA (Kd.R_below Z16 hb) (jA (Kd.R_below Z15 hb) (jA (blk_below (g := gb327) (o := .cells #[.int .i64 t314,.int .i64 t315,.int .i64 t316,.int .i64 t317,.int .i64 t318,.int .i64 t319,.int .i64 t320,.slice Ao11 t321.length co11] 24 (0,0)) (by refine bP ?_;refine blk_far ?_ NB327_343.out _;refine bP ?_;refine blk_far ?_ NB327_343.out _;refine bP ?_;refine blk_far ?_ NB327_343.out _;refine bP ?_;refine blk_far ?_ NB327_342.out _;refine bP ?_;refine blk_far ?_ NB327_342.out _;refine bP ?_;refine blk_far ?_ NB327_342.out _;refine bP ?_;refine blk_far ?_ NB327_342.out _;refine bP ?_;refine blk_far ?_ NB327_342.out _;refine bP ?_;refine blk_far ?_ NB327_342.out _;refine bP ?_;refine blk_far ?_ NB327_342.out _;refine bP ?_;refine blk_far ?_ NB327_342.out _;refine bP ?_;exact BK327.out) hb) (jA (blk_below (g := gb328) (o := .cells #[.int .i64 t324,.int .i64 t325,.int .i64 t326] 26 (0,0)) (by refine bP ?_;refine blk_far ?_ NB328_343.out _;refine bP ?_;refine blk_far ?_ NB328_343.out _;refine bP ?_;refine blk_far ?_ NB328_343.out _;refine bP ?_;refine blk_far ?_ NB328_342.out _;refine bP ?_;refine blk_far ?_ NB328_342.out _;refine bP ?_;refine blk_far ?_ NB328_342.out _;refine bP ?_;refine blk_far ?_ NB328_342.out _;refine bP ?_;refine blk_far ?_ NB328_342.out _;refine bP ?_;refine blk_far ?_ NB328_342.out _;refine bP ?_;refine blk_far ?_ NB328_342.out _;refine bP ?_;refine blk_far ?_ NB328_342.out _;refine bP ?_;exact BK328.out) hb) (jA (blk_below (g := gb342) (o := .cells #[.int .i64 t329,.int .i64 t330,.int .i64 t331,.int .i64 t332,.int .i64 t333,.int .i64 t334,.int .i64 t335,.slice Ao20 t336.length co20] 24 (0,0)) (by refine bP ?_;refine blk_far ?_ NB342_343.out _;refine bP ?_;refine blk_far ?_ NB342_343.out _;refine bP ?_;refine blk_far ?_ NB342_343.out _;refine bP ?_;refine blk_put (cs := #[.int .i64 t329,.int .i64 t330,.int .i64 t331,.int .i64 t332,.int .i64 t333,.int .i64 t334,.int .i64 t335,.slice none 0 0]) ?_ 7 _ rfl;refine bP ?_;refine blk_put (cs := #[.int .i64 t329,.int .i64 t330,.int .i64 t331,.int .i64 t332,.int .i64 t333,.int .i64 t334,.int .i64 0,.slice none 0 0]) ?_ 6 _ rfl;refine bP ?_;refine blk_put (cs := #[.int .i64 t329,.int .i64 t330,.int .i64 t331,.int .i64 t332,.int .i64 t333,.int .i64 0,.int .i64 0,.slice none 0 0]) ?_ 5 _ rfl;refine bP ?_;refine blk_put (cs := #[.int .i64 t329,.int .i64 t330,.int .i64 t331,.int .i64 t332,.int .i64 0,.int .i64 0,.int .i64 0,.slice none 0 0]) ?_ 4 _ rfl;refine bP ?_;refine blk_put (cs := #[.int .i64 t329,.int .i64 t330,.int .i64 t331,.int .i64 0,.int .i64 0,.int .i64 0,.int .i64 0,.slice none 0 0]) ?_ 3 _ rfl;refine bP ?_;refine blk_put (cs := #[.int .i64 t329,.int .i64 t330,.int .i64 0,.int .i64 0,.int .i64 0,.int .i64 0,.int .i64 0,.slice none 0 0]) ?_ 2 _ rfl;refine bP ?_;refine blk_put (cs := #[.int .i64 t329,.int .i64 0,.int .i64 0,.int .i64 0,.int .i64 0,.int .i64 0,.int .i64 0,.slice none 0 0]) ?_ 1 _ rfl;refine bP ?_;refine blk_put (cs := #[.int .i64 0,.int .i64 0,.int .i64 0,.int .i64 0,.int .i64 0,.int .i64 0,.int .i64 0,.slice none 0 0]) ?_ 0 _ rfl;refine bP ?_;exact BK342.out) hb) (jA (blk_below (g := gb343) (o := .cells #[.int .i64 t339,.int .i64 t340,.int .i64 t341] 26 (0,0)) (by refine bP ?_;refine blk_put (cs := #[.int .i64 t339,.int .i64 t340,.int .i64 0]) ?_ 2 _ rfl;refine bP ?_;refine blk_put (cs := #[.int .i64 t339,.int .i64 0,.int .i64 0]) ?_ 1 _ rfl;refine bP ?_;refine blk_put (cs := #[.int .i64 0,.int .i64 0,.int .i64 0]) ?_ 0 _ rfl;refine bP ?_;refine blk_far ?_ NB343_342.out _;refine bP ?_;refine blk_far ?_ NB343_342.out _;refine bP ?_;refine blk_far ?_ NB343_342.out _;refine bP ?_;refine blk_far ?_ NB343_342.out _;refine bP ?_;refine blk_far ?_ NB343_342.out _;refine bP ?_;refine blk_far ?_ NB343_342.out _;refine bP ?_;refine blk_far ?_ NB343_342.out _;refine bP ?_;refine blk_far ?_ NB343_342.out _;refine bP ?_;exact BK343.out) hb) (Aside0.mk (below_step Z137 hb)))))));clear HO323 HO338 BK327 BK328 BK342 BK343 HB;obtain ⟨HO323,HO338,BK327,BK328,BK342,BK343,HB⟩ := n_;(try clear hb);(try clear hb2);(try clear hk);(try clear hi);have hnb35 := NB343_328.out;have hnc35 := NB328_343.out;obtain ⟨hcz36_0,hcz36_1,hcz36_2,hfz36_0,hfz36_1,hfz36_2⟩ := cells3 BK343.out;obtain ⟨hcz37_0,hcz37_1,hcz37_2,hfz37_0,hfz37_1,hfz37_2⟩ := cells3 BK328.out) | (go_at_call 7;(with_reducible refine (laws_eqFault.calls t339 t340 t341 t324 t325 t326 t345 _ A26.out).mono ?_);rintro e w38 ⟨rfl,hb⟩;have n_ := jA (Kd.R_below Z96 hb) (jA (Kd.R_below Z100 hb) (jA (blk_below (g := gb327) (o := .cells #[.int .i64 t314,.int .i64 t315,.int .i64 t316,.int .i64 t317,.int .i64 t318,.int .i64 t319,.int .i64 t320,.slice Ao11 t321.length co11] 24 (0,0)) Z171 hb) (jA (blk_below (g := gb328) (o := .cells #[.int .i64 t324,.int .i64 t325,.int .i64 t326] 26 (0,0)) Z173 hb) (jA (blk_below (g := gb342) (o := .cells #[.int .i64 t329,.int .i64 t330,.int .i64 t331,.int .i64 t332,.int .i64 t333,.int .i64 t334,.int .i64 t335,.slice Ao20 t336.length co20] 24 (0,0)) Z172 hb) (jA (blk_below (g := gb343) (o := .cells #[.int .i64 t339,.int .i64 t340,.int .i64 t341] 26 (0,0)) Z175 hb) (Aside0.mk (below_step Z137 hb)))))));clear HO323 HO338 BK327 BK328 BK342 BK343 HB;obtain ⟨HO323,HO338,BK327,BK328,BK342,BK343,HB⟩ := n_;(try clear hb);(try clear hb2);(try clear hk);(try clear hi)))
  go_meet
  case rel => exact ⟨_,(!t345),Z118,H',⟨Z120⟩,⟨by (with_reducible repeat (first | apply Kd.R_alloc | apply Kd.R_drewN | apply Kd.R_drew));exact Kd.R_mono HO323.out (fun _ hk => hk.2)⟩,⟨by (with_reducible repeat (first | apply Kd.R_alloc | apply Kd.R_drewN | apply Kd.R_drew));exact Kd.R_mono HO338.out (fun _ hk => hk.2)⟩,⟨Z171⟩,⟨Z173⟩,⟨Z172⟩,⟨Z175⟩,⟨Z137⟩⟩
 case rest =>
  clear HC5
  try clear c1
  try clear c2
  try clear c2b0
  try clear c2b1
  try clear p2
  try clear c3
  try clear c4
  try clear c5
  try clear c6
  try clear c9
  try clear c16
  try clear c17
  try clear c18
  try clear c21
  try clear c22
  try clear c25
  try clear c27
  try clear c28
  try clear c29
  try clear c31
  try clear c32
  try clear c35
  obtain ⟨kq,x33_4,rfl,HA,HJ4,HO_328007,HO_343007,BK327,BK328,BK342,BK343,HB⟩ := hcut
  cases kq with
  | zero => exact absurd HA.out (by simp [laws_FnExactReadConfig.j0])
  | succ kj4 =>
   have H := HA.out
   clear HA
   simp only [laws_FnExactReadConfig.j0] at H
   by_cases c39 : x33_4 = true
   ·subst c39
    rw [if_pos rfl] at H
    exact absurd ((Option.some.inj H).trans HRT.out) Z180
   replace c39 := Bool.eq_false_iff.mpr c39
   subst c39
   rw [if_neg Bool.false_ne_true] at H
   obtain ⟨⟨t346,t347⟩,A400,H⟩ := Option.bind_eq_some_iff.mp H
   try dsimp only at H
   have A40 := Aside0.mk A400
   clear A400
   obtain ⟨t348,A410,H⟩ := Option.bind_eq_some_iff.mp H
   have A41 := Aside0.mk A410
   clear A410
   by_cases c42 : t348 < 0
   ·rw [if_pos c42] at H
    have c42b0 : decide (t348 < 0) = true := decide_eq_true c42
    clear c42
    exact absurd ((Option.some.inj H).trans HRT.out) Z180
   rw [if_neg c42] at H
   have c42b0 : decide (t348 < 0) = false := decide_eq_false c42
   clear c42
   by_cases c43 : t348 = t346
   rotate_left
   ·rw [if_neg c43] at H
    have c43b0 : (t348 == t346) = false := beq_eq_false_iff_ne.mpr c43
    have c43b1 : (t348 != t346) = true := bne_iff_ne.mpr c43
    exact absurd ((Option.some.inj H).trans HRT.out) Z180
   rw [if_pos c43] at H
   have c43b0 : (t348 == t346) = true := beq_iff_eq.mpr c43
   have c43b1 : (t348 != t346) = false := bne_eq_false_iff_eq.mpr c43
   clear c43
   obtain ⟨⟨t349,t350,t351,t352,t353,t354,t355,t356,t359,t360,t361⟩,A440,H⟩ := Option.bind_eq_some_iff.mp H
   try dsimp only at H
   have A44 := Aside0.mk A440
   clear A440
   have HC45 := Aside0.mk H
   clear H
   have hnb46 := NB342_327.out
   have hnc46 := NB327_342.out
   have hnb47 := NB342_328.out
   have hnc47 := NB328_342.out
   have hnb48 := NB342_343.out
   have hnc48 := NB343_342.out
   obtain ⟨hcz49_0,hcz49_1,hcz49_2,hcz49_3,hcz49_4,hcz49_5,hcz49_6,hcz49_7,hfz49_0,hfz49_1,hfz49_2,hfz49_3,hfz49_4,hfz49_5,hfz49_6,hfz49_7⟩ := cells8 BK342.out
   go_upto_region 16 with (first | ((with_reducible refine gate_callee (f := 8) rfl ?_);refine goesL_ (some 36) rfl rfl Tryd.func8 Z133 rfl #[.agg #[.int .i64 t329,.int .i64 t330,.int .i64 t331,.int .i64 t332,.int .i64 t333,.int .i64 t334,.int .i64 t335,.slice Ao20 t336.length co20],.int .i64 1] rfl Z87 ?_;(with_reducible refine (laws_markConfig.calls kj4 t329 t330 t331 t332 t333 t334 t335 (fun k_ => some k_ = (.slice Ao20 t336.length co20 : Value).ownBlock) (.slice Ao20 t336.length co20) t336 1 t346 t347 w _ ?side1 ?side2 A40.out).mono ?_);(case side1 => exact Z137);(case side2 => exact Kd.R_tight rfl HO_343007.out);rintro e w50 ⟨rfl,hy0,hb,hkp⟩;refine ⟨_,rfl,?_⟩;have n_ := jA (Kd.R_mono (ok' := fun k_ => some k_ ≠ (.slice Ao20 t336.length co20 : Value).ownBlock) (Kd.R_keptB (HO_328007.out) hkp (fun k_ hk_ hs_ => (hk_) hs_)) (fun k_ hk_ => hk_.1)) (jA (Kd.R_reok rfl hy0 (fun k_ e_ => HO_343007.out.1 k_ e_)) (jA (blk_kept Z171 hkp (fun hs_ => (fun e_ => (Kd.R_ne HO_343007.out BK327.out Z180) e_) hs_)) (jA (blk_kept Z173 hkp (fun hs_ => (fun e_ => (Kd.R_ne HO_343007.out BK328.out Z180) e_) hs_)) (jA (blk_kept Z172 hkp (fun hs_ => (fun e_ => (Kd.R_ne HO_343007.out BK342.out Z180) e_) hs_)) (jA (blk_kept Z175 hkp (fun hs_ => (fun e_ => (Kd.R_ne HO_343007.out BK343.out Z180) e_) hs_)) (Aside0.mk (hb)))))));clear HO_328007 HO_343007 BK327 BK328 BK342 BK343 HB;obtain ⟨HO_328007,HO_343007,BK327,BK328,BK342,BK343,HB⟩ := n_;(try clear hb);(try clear hkp);(try clear hy0);obtain ⟨hcz51_0,hcz51_1,hcz51_2,hcz51_3,hcz51_4,hcz51_5,hcz51_6,hcz51_7,hfz51_0,hfz51_1,hfz51_2,hfz51_3,hfz51_4,hfz51_5,hfz51_6,hfz51_7⟩ := cells8 BK342.out) | ((with_reducible refine gate_callee (f := 9) rfl ?_);refine goesL_ (some 39) rfl rfl Tryd.func9 Z133 rfl #[.agg #[.int .i64 t329,.int .i64 t330,.int .i64 t331,.int .i64 t332,.int .i64 t333,.int .i64 t334,.int .i64 t335,.slice Ao20 t347.length co20],.int .i64 1] rfl (by (try simp only [List.map_toArray,List.map_cons,List.map_nil]);first | done | (rw [show t347.length = t336.length from (Kd.R_reads' HO_343007.out).1.symm] <;> rfl) | rfl | (simp only [List.length_drop,List.length_take];rfl)) ?_;(with_reducible refine (laws_heldConfig.calls kj4 t329 t330 t331 t332 t333 t334 t335 _ _ t347 1 t348 _ ?side1 ?side2 A41.out).mono ?_);(case side1 => exact Z65);(case side2 => rw [show t347.length = t336.length from (Kd.R_reads' HO_343007.out).1.symm];exact (Kd.R_reads' HO_343007.out).2.1);rintro e w52 ⟨rfl,hb⟩;refine ⟨_,rfl,?_⟩;have n_ := jA (Kd.R_below Z94 hb) (jA (Kd.R_below Z93 hb) (jA (blk_below (g := gb327) (o := .cells #[.int .i64 t314,.int .i64 t315,.int .i64 t316,.int .i64 t317,.int .i64 t318,.int .i64 t319,.int .i64 t320,.slice Ao11 t321.length co11] 24 (0,0)) Z171 hb) (jA (blk_below (g := gb328) (o := .cells #[.int .i64 t324,.int .i64 t325,.int .i64 t326] 26 (0,0)) Z173 hb) (jA (blk_below (g := gb342) (o := .cells #[.int .i64 t329,.int .i64 t330,.int .i64 t331,.int .i64 t332,.int .i64 t333,.int .i64 t334,.int .i64 t335,.slice Ao20 t336.length co20] 24 (0,0)) Z172 hb) (jA (blk_below (g := gb343) (o := .cells #[.int .i64 t339,.int .i64 t340,.int .i64 t341] 26 (0,0)) Z175 hb) (Aside0.mk (below_step Z137 hb)))))));clear HO_328007 HO_343007 BK327 BK328 BK342 BK343 HB;obtain ⟨HO_328007,HO_343007,BK327,BK328,BK342,BK343,HB⟩ := n_;(try clear hb);(try clear hb2);(try clear hk);(try clear hi)) | ((with_reducible refine gate_callee (f := 5) rfl ?_);refine goesL_ (some 47) rfl rfl Tryd.func5 Z133 rfl #[.string a0] rfl Z87 ?_;(with_reducible refine (impl_ReadConfig.calls kj4 a0 t349 t350 t351 t352 t353 t354 t355 t356 t359 t360 t361 _ ?side1 A44.out).mono ?_);(case side1 => exact GT_below HG.out Z137);rintro e w53 ⟨v357,rfl,ho0,hb⟩;refine ⟨_,rfl,?_⟩;have n_ := jA (Kd.R_elder' Z94 (Kd.R_base ho0) hb) (jA (Kd.R_elder' Z93 (Kd.R_base ho0) hb) (jA (Kd.R_lower (Kd.R_new' (Kd.R_new' ho0 (Kd.R_lt Z94)) (Kd.R_lt Z93)) (below_size Z137)) (jA (blk_below (g := gb327) (o := .cells #[.int .i64 t314,.int .i64 t315,.int .i64 t316,.int .i64 t317,.int .i64 t318,.int .i64 t319,.int .i64 t320,.slice Ao11 t321.length co11] 24 (0,0)) Z171 hb) (jA (blk_below (g := gb328) (o := .cells #[.int .i64 t324,.int .i64 t325,.int .i64 t326] 26 (0,0)) Z173 hb) (jA (blk_below (g := gb342) (o := .cells #[.int .i64 t329,.int .i64 t330,.int .i64 t331,.int .i64 t332,.int .i64 t333,.int .i64 t334,.int .i64 t335,.slice Ao20 t336.length co20] 24 (0,0)) Z172 hb) (jA (blk_below (g := gb343) (o := .cells #[.int .i64 t339,.int .i64 t340,.int .i64 t341] 26 (0,0)) Z175 hb) (Aside0.mk (below_step Z137 hb))))))));clear HO_328007 HO_343007 BK327 BK328 BK342 BK343 HB;obtain ⟨HO_328007,HO_343007,HO358,BK327,BK328,BK342,BK343,HB⟩ := n_;(try clear hb);(try clear hb2);(try clear hk);(try clear hi);(try clear ho0)) | ((with_reducible refine gate_dst (N := 9) rfl ?_);refine bE 9 #[.int .i64 0,.int .i64 0,.int .i64 0,.int .i64 0,.int .i64 0,.int .i64 0,.int .i64 0,.slice none 0 0] 24 (h := ?_);intro gb362 hg w54 hbox hb;have n_ := jA (Kd.R_below Z94 hb) (jA (Kd.R_below Z93 hb) (jA (Kd.R_below Z99 hb) (jA (blk_below (g := gb327) (o := .cells #[.int .i64 t314,.int .i64 t315,.int .i64 t316,.int .i64 t317,.int .i64 t318,.int .i64 t319,.int .i64 t320,.slice Ao11 t321.length co11] 24 (0,0)) Z171 hb) (jA (blk_below (g := gb328) (o := .cells #[.int .i64 t324,.int .i64 t325,.int .i64 t326] 26 (0,0)) Z173 hb) (jA (blk_below (g := gb342) (o := .cells #[.int .i64 t329,.int .i64 t330,.int .i64 t331,.int .i64 t332,.int .i64 t333,.int .i64 t334,.int .i64 t335,.slice Ao20 t336.length co20] 24 (0,0)) Z172 hb) (jA (blk_below (g := gb343) (o := .cells #[.int .i64 t339,.int .i64 t340,.int .i64 t341] 26 (0,0)) Z175 hb) (jA (below_step Z137 hb) (jA (hbox) (jA ((Z39 : w.heap.size ≤ gb362)) (jA ((Z39 : w.heap.size ≤ gb362)) (jA ((Z53 : gb327 ≠ gb362)) (jA ((Z54 : gb362 ≠ gb327)) (jA ((Z81 : gb328 ≠ gb362)) (jA ((Z82 : gb362 ≠ gb328)) (jA ((Z55 : gb342 ≠ gb362)) (jA ((Z56 : gb362 ≠ gb342)) (jA ((Z83 : gb343 ≠ gb362)) (Aside0.mk ((Z84 : gb362 ≠ gb343))))))))))))))))))));clear HO_328007 HO_343007 HO358 BK327 BK328 BK342 BK343 HB;obtain ⟨HO_328007,HO_343007,HO358,BK327,BK328,BK342,BK343,HB,BK362,GW362,GE362,NB327_362,NB362_327,NB328_362,NB362_328,NB342_362,NB362_342,NB343_362,NB362_343⟩ := n_;clear hb hbox hg) | ((with_reducible refine gate_dst (N := 10) rfl ?_);refine bE 10 #[.int .i64 0,.int .i64 0,.int .i64 0] 26 (h := ?_);intro gb363 hg w55 hbox hb;have n_ := jA (Kd.R_below Z94 hb) (jA (Kd.R_below Z93 hb) (jA (Kd.R_below Z99 hb) (jA (blk_below (g := gb327) (o := .cells #[.int .i64 t314,.int .i64 t315,.int .i64 t316,.int .i64 t317,.int .i64 t318,.int .i64 t319,.int .i64 t320,.slice Ao11 t321.length co11] 24 (0,0)) Z171 hb) (jA (blk_below (g := gb328) (o := .cells #[.int .i64 t324,.int .i64 t325,.int .i64 t326] 26 (0,0)) Z173 hb) (jA (blk_below (g := gb342) (o := .cells #[.int .i64 t329,.int .i64 t330,.int .i64 t331,.int .i64 t332,.int .i64 t333,.int .i64 t334,.int .i64 t335,.slice Ao20 t336.length co20] 24 (0,0)) Z172 hb) (jA (blk_below (g := gb343) (o := .cells #[.int .i64 t339,.int .i64 t340,.int .i64 t341] 26 (0,0)) Z175 hb) (jA (blk_below (g := gb362) (o := .cells #[.int .i64 0,.int .i64 0,.int .i64 0,.int .i64 0,.int .i64 0,.int .i64 0,.int .i64 0,.slice none 0 0] 24 (0,0)) Z126 hb) (jA (below_step Z136 hb) (jA (hbox) (jA ((Z36 : w.heap.size ≤ gb363)) (jA ((Z36 : w.heap.size ≤ gb363)) (jA ((Z53 : gb327 ≠ gb363)) (jA ((Z54 : gb363 ≠ gb327)) (jA ((Z81 : gb328 ≠ gb363)) (jA ((Z82 : gb363 ≠ gb328)) (jA ((Z55 : gb342 ≠ gb363)) (jA ((Z56 : gb363 ≠ gb342)) (jA ((Z83 : gb343 ≠ gb363)) (jA ((Z84 : gb363 ≠ gb343)) (jA ((by rw [hg];exact Nat.ne_of_lt (blk_lt (g := gb362) (o := .cells #[.int .i64 0,.int .i64 0,.int .i64 0,.int .i64 0,.int .i64 0,.int .i64 0,.int .i64 0,.slice none 0 0] 24 (0,0)) Z126) : gb362 ≠ gb363)) (Aside0.mk ((by rw [hg];exact Nat.ne_of_gt (blk_lt (g := gb362) (o := .cells #[.int .i64 0,.int .i64 0,.int .i64 0,.int .i64 0,.int .i64 0,.int .i64 0,.int .i64 0,.slice none 0 0] 24 (0,0)) Z126) : gb363 ≠ gb362)))))))))))))))))))))));clear HO_328007 HO_343007 HO358 BK327 BK328 BK342 BK343 BK362 HB;obtain ⟨HO_328007,HO_343007,HO358,BK327,BK328,BK342,BK343,BK362,HB,BK363,GW363,GE363,NB327_363,NB363_327,NB328_363,NB363_328,NB342_363,NB363_342,NB343_363,NB363_343,NB362_363,NB363_362⟩ := n_;clear hb hbox hg;have hnb56 := NB362_327.out;have hnc56 := NB327_362.out;have hnb57 := NB362_328.out;have hnc57 := NB328_362.out;have hnb58 := NB362_342.out;have hnc58 := NB342_362.out;have hnb59 := NB362_343.out;have hnc59 := NB343_362.out;have hnb60 := NB362_363.out;have hnc60 := NB363_362.out;obtain ⟨hcz61_0,hcz61_1,hcz61_2,hcz61_3,hcz61_4,hcz61_5,hcz61_6,hcz61_7,hfz61_0,hfz61_1,hfz61_2,hfz61_3,hfz61_4,hfz61_5,hfz61_6,hfz61_7⟩ := cells8 BK362.out;obtain ⟨Ao62,co62,eo62⟩ := Kd.R_slice HO358.out;subst eo62;have hnb63 := NB363_327.out;have hnc63 := NB327_363.out;have hnb64 := NB363_328.out;have hnc64 := NB328_363.out;have hnb65 := NB363_342.out;have hnc65 := NB342_363.out;have hnb66 := NB363_343.out;have hnc66 := NB343_363.out;obtain ⟨hcz67_0,hcz67_1,hcz67_2,hfz67_0,hfz67_1,hfz67_2⟩ := cells3 BK363.out))
   (try simp only [Act.put,List.setIfInBounds_toArray,List.set_cons_zero,List.set_cons_succ])
   go_cut [59] (fun v59 wc => ∃ (kq : Nat) (x59_44 : Bool),v59 = .bool x59_44 ∧ Aside0 (laws_FnExactReadConfig.j1 kq t346 x59_44 t329 t330 t331 t332 t333 t334 t335 t347 = some r) ∧ Aside0 (kq ≤ kj4) ∧ Aside0 (Kd.R (Kd.int .i64) 3 wc w.heap.size (fun k_ => some k_ ≠ ((.slice Ao20 t336.length co20) : Value).ownBlock ∧ some k_ ≠ ((.slice Ao62 t356.length co62) : Value).ownBlock) (.slice Ao11 t321.length co11) t321) ∧ Aside0 (Kd.R (Kd.int .i64) 3 wc w.heap.size (fun k_ => some k_ ≠ ((.slice Ao11 t321.length co11) : Value).ownBlock ∧ some k_ ≠ ((.slice Ao62 t356.length co62) : Value).ownBlock) (.slice Ao20 t336.length co20) t347) ∧ Aside0 (Kd.R (Kd.int .i64) 3 wc w.heap.size (fun k_ => some k_ ≠ ((.slice Ao11 t321.length co11) : Value).ownBlock ∧ some k_ ≠ ((.slice Ao20 t336.length co20) : Value).ownBlock) (.slice Ao62 t356.length co62) t356) ∧ Aside0 (wc.heap[gb327]? = some (.cells #[.int .i64 t314,.int .i64 t315,.int .i64 t316,.int .i64 t317,.int .i64 t318,.int .i64 t319,.int .i64 t320,(.slice Ao11 t321.length co11)] 24 (0,0))) ∧ Aside0 (wc.heap[gb328]? = some (.cells #[.int .i64 t324,.int .i64 t325,.int .i64 t326] 26 (0,0))) ∧ Aside0 (wc.heap[gb342]? = some (.cells #[.int .i64 t329,.int .i64 t330,.int .i64 t331,.int .i64 t332,.int .i64 t333,.int .i64 t334,.int .i64 t335,(.slice Ao20 t336.length co20)] 24 (0,0))) ∧ Aside0 (wc.heap[gb343]? = some (.cells #[.int .i64 t339,.int .i64 t340,.int .i64 t341] 26 (0,0))) ∧ Aside0 (wc.heap[gb362]? = some (.cells #[.int .i64 t349,.int .i64 t350,.int .i64 t351,.int .i64 t352,.int .i64 t353,.int .i64 t354,.int .i64 t355,(.slice Ao62 t356.length co62)] 24 (0,0))) ∧ Aside0 (wc.heap[gb363]? = some (.cells #[.int .i64 t359,.int .i64 t360,.int .i64 t361] 26 (0,0))) ∧ Aside0 (Below w.heap.size w wc))
   case first =>
    have H := HC45.out
    clear HC45
    obtain ⟨t364,A680,H⟩ := Option.bind_eq_some_iff.mp H
    have A68 := Aside0.mk A680
    clear A680
    by_cases c69 : t364 = true
    rotate_left
    ·replace c69 := Bool.eq_false_iff.mpr c69
     subst c69
     rw [if_neg Bool.false_ne_true] at H
     exact absurd ((laws_FnExactReadConfig.j1_stop H).symm.trans HRT.out) Z180
    subst c69
    rw [if_pos rfl] at H
    obtain ⟨t365,A700,H⟩ := Option.bind_eq_some_iff.mp H
    have A70 := Aside0.mk A700
    clear A700
    have H' := Aside0.mk H
    clear H
    have hnb71 := NB362_327.out
    have hnc71 := NB327_362.out
    have hnb72 := NB362_328.out
    have hnc72 := NB328_362.out
    have hnb73 := NB362_342.out
    have hnc73 := NB342_362.out
    have hnb74 := NB362_343.out
    have hnc74 := NB343_362.out
    have hnb75 := NB362_363.out
    have hnc75 := NB363_362.out
    obtain ⟨hcz76_0,hcz76_1,hcz76_2,hcz76_3,hcz76_4,hcz76_5,hcz76_6,hcz76_7,hfz76_0,hfz76_1,hfz76_2,hfz76_3,hfz76_4,hfz76_5,hfz76_6,hfz76_7⟩ := cells8 BK362.out
    have hnb77 := NB327_328.out
    have hnc77 := NB328_327.out
    have hnb78 := NB327_342.out
    have hnc78 := NB342_327.out
    have hnb79 := NB327_343.out
    have hnc79 := NB343_327.out
    have hnb80 := NB327_363.out
    have hnc80 := NB363_327.out
    obtain ⟨hcz81_0,hcz81_1,hcz81_2,hcz81_3,hcz81_4,hcz81_5,hcz81_6,hcz81_7,hfz81_0,hfz81_1,hfz81_2,hfz81_3,hfz81_4,hfz81_5,hfz81_6,hfz81_7⟩ := cells8 BK327.out
    go_wp2_with (first | ((with_reducible refine gate_callee (f := 6) rfl ?_);refine goesL_ (some 52) rfl rfl Tryd.func6 Z133 rfl #[.agg #[.int .i64 t349,.int .i64 t350,.int .i64 t351,.int .i64 t352,.int .i64 t353,.int .i64 t354,.int .i64 t355,.slice Ao62 t356.length co62],.agg #[.int .i64 t314,.int .i64 t315,.int .i64 t316,.int .i64 t317,.int .i64 t318,.int .i64 t319,.int .i64 t320,.slice Ao11 t321.length co11]] rfl Z87 ?_;(with_reducible refine (laws_eqConfig.calls kj4 t349 t350 t351 t352 t353 t354 t355 _ _ t356 t314 t315 t316 t317 t318 t319 t320 _ _ t321 true _ ?side1 ?side2 ?side3 ?side4 A68.out).mono ?_);(case side1 => refine (Kd.R_reads' (e := 3) (base := w.heap.size) (ok := fun k_ => ((True ∧ some k_ ≠ (.slice Ao11 t321.length co11 : Value).ownBlock) ∧ some k_ ≠ (.slice Ao20 t336.length co20 : Value).ownBlock)) (n := t356.length) (c := co62) ?_).2.2;exact Z14);(case side2 => exact (Kd.R_reads' HO358.out).2.1);(case side3 => refine (Kd.R_reads' (e := 3) (base := w.heap.size) (ok := fun k_ => (some k_ ≠ (.slice Ao20 t336.length co20 : Value).ownBlock ∧ some k_ ≠ (.slice Ao62 t356.length co62 : Value).ownBlock)) (n := t321.length) (c := co11) ?_).2.2;exact Z13);(case side4 => exact (Kd.R_reads' HO_328007.out).2.1);rintro e w82 ⟨rfl,hb⟩;refine ⟨_,rfl,?_⟩;have n_ := jA (Kd.R_below Z13 hb) (jA (Kd.R_below (by (with_reducible repeat (first | apply Kd.R_alloc | apply Kd.R_drewN | apply Kd.R_drew));exact (Kd.R_mono (Kd.R_mono (Kd.R_far (p := ⟨gb363,2,none⟩) (Kd.R_far (p := ⟨gb363,1,none⟩) (Kd.R_far (p := ⟨gb363,0,none⟩) (Kd.R_far (p := ⟨gb362,7,none⟩) (Kd.R_far (p := ⟨gb362,6,none⟩) (Kd.R_far (p := ⟨gb362,5,none⟩) (Kd.R_far (p := ⟨gb362,4,none⟩) (Kd.R_far (p := ⟨gb362,3,none⟩) (Kd.R_far (p := ⟨gb362,2,none⟩) (Kd.R_far (p := ⟨gb362,1,none⟩) (Kd.R_far (p := ⟨gb362,0,none⟩) (Kd.R_types (Kd.R_types HO_343007.out BK362.out Z180) BK363.out Z180) (fun _ hk => hk.1.2) (.int .i64 t349)) (fun _ hk => hk.1.2) (.int .i64 t350)) (fun _ hk => hk.1.2) (.int .i64 t351)) (fun _ hk => hk.1.2) (.int .i64 t352)) (fun _ hk => hk.1.2) (.int .i64 t353)) (fun _ hk => hk.1.2) (.int .i64 t354)) (fun _ hk => hk.1.2) (.int .i64 t355)) (fun _ hk => hk.1.2) (.slice Ao62 t356.length co62)) (fun _ hk => hk.2) (.int .i64 t359)) (fun _ hk => hk.2) (.int .i64 t360)) (fun _ hk => hk.2) (.int .i64 t361)) (fun _ h_ => h_.1)) (fun _ h_ => h_.1))) hb) (jA (Kd.R_below Z14 hb) (jA (blk_below (g := gb327) (o := .cells #[.int .i64 t314,.int .i64 t315,.int .i64 t316,.int .i64 t317,.int .i64 t318,.int .i64 t319,.int .i64 t320,.slice Ao11 t321.length co11] 24 (0,0)) (by refine bP ?_;refine blk_far ?_ NB327_363.out _;refine bP ?_;refine blk_far ?_ NB327_363.out _;refine bP ?_;refine blk_far ?_ NB327_363.out _;refine bP ?_;refine blk_far ?_ NB327_362.out _;refine bP ?_;refine blk_far ?_ NB327_362.out _;refine bP ?_;refine blk_far ?_ NB327_362.out _;refine bP ?_;refine blk_far ?_ NB327_362.out _;refine bP ?_;refine blk_far ?_ NB327_362.out _;refine bP ?_;refine blk_far ?_ NB327_362.out _;refine bP ?_;refine blk_far ?_ NB327_362.out _;refine bP ?_;refine blk_far ?_ NB327_362.out _;refine bP ?_;exact BK327.out) hb) (jA (blk_below (g := gb328) (o := .cells #[.int .i64 t324,.int .i64 t325,.int .i64 t326] 26 (0,0)) (by refine bP ?_;refine blk_far ?_ NB328_363.out _;refine bP ?_;refine blk_far ?_ NB328_363.out _;refine bP ?_;refine blk_far ?_ NB328_363.out _;refine bP ?_;refine blk_far ?_ NB328_362.out _;refine bP ?_;refine blk_far ?_ NB328_362.out _;refine bP ?_;refine blk_far ?_ NB328_362.out _;refine bP ?_;refine blk_far ?_ NB328_362.out _;refine bP ?_;refine blk_far ?_ NB328_362.out _;refine bP ?_;refine blk_far ?_ NB328_362.out _;refine bP ?_;refine blk_far ?_ NB328_362.out _;refine bP ?_;refine blk_far ?_ NB328_362.out _;refine bP ?_;exact BK328.out) hb) (jA (blk_below (g := gb342) (o := .cells #[.int .i64 t329,.int .i64 t330,.int .i64 t331,.int .i64 t332,.int .i64 t333,.int .i64 t334,.int .i64 t335,.slice Ao20 t336.length co20] 24 (0,0)) (by refine bP ?_;refine blk_far ?_ NB342_363.out _;refine bP ?_;refine blk_far ?_ NB342_363.out _;refine bP ?_;refine blk_far ?_ NB342_363.out _;refine bP ?_;refine blk_far ?_ NB342_362.out _;refine bP ?_;refine blk_far ?_ NB342_362.out _;refine bP ?_;refine blk_far ?_ NB342_362.out _;refine bP ?_;refine blk_far ?_ NB342_362.out _;refine bP ?_;refine blk_far ?_ NB342_362.out _;refine bP ?_;refine blk_far ?_ NB342_362.out _;refine bP ?_;refine blk_far ?_ NB342_362.out _;refine bP ?_;refine blk_far ?_ NB342_362.out _;refine bP ?_;exact BK342.out) hb) (jA (blk_below (g := gb343) (o := .cells #[.int .i64 t339,.int .i64 t340,.int .i64 t341] 26 (0,0)) (by refine bP ?_;refine blk_far ?_ NB343_363.out _;refine bP ?_;refine blk_far ?_ NB343_363.out _;refine bP ?_;refine blk_far ?_ NB343_363.out _;refine bP ?_;refine blk_far ?_ NB343_362.out _;refine bP ?_;refine blk_far ?_ NB343_362.out _;refine bP ?_;refine blk_far ?_ NB343_362.out _;refine bP ?_;refine blk_far ?_ NB343_362.out _;refine bP ?_;refine blk_far ?_ NB343_362.out _;refine bP ?_;refine blk_far ?_ NB343_362.out _;refine bP ?_;refine blk_far ?_ NB343_362.out _;refine bP ?_;refine blk_far ?_ NB343_362.out _;refine bP ?_;exact BK343.out) hb) (jA (blk_below (g := gb362) (o := .cells #[.int .i64 t349,.int .i64 t350,.int .i64 t351,.int .i64 t352,.int .i64 t353,.int .i64 t354,.int .i64 t355,.slice Ao62 t356.length co62] 24 (0,0)) (by refine bP ?_;refine blk_far ?_ NB362_363.out _;refine bP ?_;refine blk_far ?_ NB362_363.out _;refine bP ?_;refine blk_far ?_ NB362_363.out _;refine bP ?_;refine blk_put (cs := #[.int .i64 t349,.int .i64 t350,.int .i64 t351,.int .i64 t352,.int .i64 t353,.int .i64 t354,.int .i64 t355,.slice none 0 0]) ?_ 7 _ rfl;refine bP ?_;refine blk_put (cs := #[.int .i64 t349,.int .i64 t350,.int .i64 t351,.int .i64 t352,.int .i64 t353,.int .i64 t354,.int .i64 0,.slice none 0 0]) ?_ 6 _ rfl;refine bP ?_;refine blk_put (cs := #[.int .i64 t349,.int .i64 t350,.int .i64 t351,.int .i64 t352,.int .i64 t353,.int .i64 0,.int .i64 0,.slice none 0 0]) ?_ 5 _ rfl;refine bP ?_;refine blk_put (cs := #[.int .i64 t349,.int .i64 t350,.int .i64 t351,.int .i64 t352,.int .i64 0,.int .i64 0,.int .i64 0,.slice none 0 0]) ?_ 4 _ rfl;refine bP ?_;refine blk_put (cs := #[.int .i64 t349,.int .i64 t350,.int .i64 t351,.int .i64 0,.int .i64 0,.int .i64 0,.int .i64 0,.slice none 0 0]) ?_ 3 _ rfl;refine bP ?_;refine blk_put (cs := #[.int .i64 t349,.int .i64 t350,.int .i64 0,.int .i64 0,.int .i64 0,.int .i64 0,.int .i64 0,.slice none 0 0]) ?_ 2 _ rfl;refine bP ?_;refine blk_put (cs := #[.int .i64 t349,.int .i64 0,.int .i64 0,.int .i64 0,.int .i64 0,.int .i64 0,.int .i64 0,.slice none 0 0]) ?_ 1 _ rfl;refine bP ?_;refine blk_put (cs := #[.int .i64 0,.int .i64 0,.int .i64 0,.int .i64 0,.int .i64 0,.int .i64 0,.int .i64 0,.slice none 0 0]) ?_ 0 _ rfl;refine bP ?_;exact BK362.out) hb) (jA (blk_below (g := gb363) (o := .cells #[.int .i64 t359,.int .i64 t360,.int .i64 t361] 26 (0,0)) (by refine bP ?_;refine blk_put (cs := #[.int .i64 t359,.int .i64 t360,.int .i64 0]) ?_ 2 _ rfl;refine bP ?_;refine blk_put (cs := #[.int .i64 t359,.int .i64 0,.int .i64 0]) ?_ 1 _ rfl;refine bP ?_;refine blk_put (cs := #[.int .i64 0,.int .i64 0,.int .i64 0]) ?_ 0 _ rfl;refine bP ?_;refine blk_far ?_ NB363_362.out _;refine bP ?_;refine blk_far ?_ NB363_362.out _;refine bP ?_;refine blk_far ?_ NB363_362.out _;refine bP ?_;refine blk_far ?_ NB363_362.out _;refine bP ?_;refine blk_far ?_ NB363_362.out _;refine bP ?_;refine blk_far ?_ NB363_362.out _;refine bP ?_;refine blk_far ?_ NB363_362.out _;refine bP ?_;refine blk_far ?_ NB363_362.out _;refine bP ?_;exact BK363.out) hb) (Aside0.mk (below_step Z35 hb))))))))));clear HO_328007 HO_343007 HO358 BK327 BK328 BK342 BK343 BK362 BK363 HB;obtain ⟨HO_328007,HO_343007,HO358,BK327,BK328,BK342,BK343,BK362,BK363,HB⟩ := n_;(try clear hb);(try clear hb2);(try clear hk);(try clear hi);have hnb83 := NB363_328.out;have hnc83 := NB328_363.out;have hnb84 := NB363_342.out;have hnc84 := NB342_363.out;have hnb85 := NB363_343.out;have hnc85 := NB343_363.out;obtain ⟨hcz86_0,hcz86_1,hcz86_2,hfz86_0,hfz86_1,hfz86_2⟩ := cells3 BK363.out;have hnb87 := NB328_342.out;have hnc87 := NB342_328.out;have hnb88 := NB328_343.out;have hnc88 := NB343_328.out;obtain ⟨hcz89_0,hcz89_1,hcz89_2,hfz89_0,hfz89_1,hfz89_2⟩ := cells3 BK328.out) | (go_at_call 7;(with_reducible refine (laws_eqFault.calls t359 t360 t361 t324 t325 t326 t365 _ A70.out).mono ?_);rintro e w90 ⟨rfl,hb⟩;have n_ := jA (Kd.R_below Z94 hb) (jA (Kd.R_below Z93 hb) (jA (Kd.R_below Z99 hb) (jA (blk_below (g := gb327) (o := .cells #[.int .i64 t314,.int .i64 t315,.int .i64 t316,.int .i64 t317,.int .i64 t318,.int .i64 t319,.int .i64 t320,.slice Ao11 t321.length co11] 24 (0,0)) Z171 hb) (jA (blk_below (g := gb328) (o := .cells #[.int .i64 t324,.int .i64 t325,.int .i64 t326] 26 (0,0)) Z173 hb) (jA (blk_below (g := gb342) (o := .cells #[.int .i64 t329,.int .i64 t330,.int .i64 t331,.int .i64 t332,.int .i64 t333,.int .i64 t334,.int .i64 t335,.slice Ao20 t336.length co20] 24 (0,0)) Z172 hb) (jA (blk_below (g := gb343) (o := .cells #[.int .i64 t339,.int .i64 t340,.int .i64 t341] 26 (0,0)) Z175 hb) (jA (blk_below (g := gb362) (o := .cells #[.int .i64 t349,.int .i64 t350,.int .i64 t351,.int .i64 t352,.int .i64 t353,.int .i64 t354,.int .i64 t355,.slice Ao62 t356.length co62] 24 (0,0)) Z126 hb) (jA (blk_below (g := gb363) (o := .cells #[.int .i64 t359,.int .i64 t360,.int .i64 t361] 26 (0,0)) Z127 hb) (Aside0.mk (below_step Z35 hb))))))))));clear HO_328007 HO_343007 HO358 BK327 BK328 BK342 BK343 BK362 BK363 HB;obtain ⟨HO_328007,HO_343007,HO358,BK327,BK328,BK342,BK343,BK362,BK363,HB⟩ := n_;(try clear hb);(try clear hb2);(try clear hk);(try clear hi)))
    go_meet
    case rel => exact ⟨_,(!t365),Z118,H',⟨by have := HJ4.out;first | omega | exact Nat.le_refl _⟩,⟨Z94⟩,⟨Z93⟩,⟨by (with_reducible repeat (first | apply Kd.R_alloc | apply Kd.R_drewN | apply Kd.R_drew));exact Kd.R_mono HO358.out (fun _ hk => ⟨hk.1.2,hk.2⟩)⟩,⟨Z171⟩,⟨Z173⟩,⟨Z172⟩,⟨Z175⟩,⟨Z126⟩,⟨Z127⟩,⟨Z35⟩⟩
   case rest =>
    clear HC45
    try clear c1
    try clear c2
    try clear c2b0
    try clear c2b1
    try clear p2
    try clear c3
    try clear c4
    try clear c5
    try clear c6
    try clear c7
    try clear c8
    try clear c9
    try clear c16
    try clear c17
    try clear c18
    try clear c21
    try clear c22
    try clear c25
    try clear c27
    try clear c28
    try clear c29
    try clear c31
    try clear c32
    try clear c35
    try clear c39
    try clear c42
    try clear c42b0
    try clear c43
    try clear c43b0
    try clear c43b1
    try clear c46
    try clear c47
    try clear c48
    try clear c56
    try clear c57
    try clear c58
    try clear c59
    try clear c60
    try clear c63
    try clear c64
    try clear c65
    try clear c66
    try clear c69
    try clear c71
    try clear c72
    try clear c73
    try clear c74
    try clear c75
    try clear c77
    try clear c78
    try clear c79
    try clear c80
    try clear c83
    try clear c84
    try clear c85
    try clear c87
    try clear c88
    try clear p2
    obtain ⟨kq,x59_44,rfl,HA,HJ44,HO_328007,HO_343007,HO_363007,BK327,BK328,BK342,BK343,BK362,BK363,HB⟩ := hcut
    have hl343007_44 := (Kd.R_reads' HO_343007.out).1
    rw [hl343007_44] at HO_343007
    (try simp only [hl343007_44])
    (try simp only [hl343007_44] at BK327)
    (try simp only [hl343007_44] at BK328)
    (try simp only [hl343007_44] at BK342)
    (try simp only [hl343007_44] at BK343)
    (try simp only [hl343007_44] at BK362)
    (try simp only [hl343007_44] at BK363)
    (try simp only [hl343007_44] at HO_328007)
    (try simp only [hl343007_44] at HO_363007)
    cases kq with
    | zero => exact absurd HA.out (by simp [laws_FnExactReadConfig.j1])
    | succ kj44 =>
     have H := HA.out
     clear HA
     simp only [laws_FnExactReadConfig.j1] at H
     by_cases c91 : x59_44 = true
     ·subst c91
      rw [if_pos rfl] at H
      exact absurd ((Option.some.inj H).trans HRT.out) Z180
     replace c91 := Bool.eq_false_iff.mpr c91
     subst c91
     rw [if_neg Bool.false_ne_true] at H
     obtain ⟨t366,A920,H⟩ := Option.bind_eq_some_iff.mp H
     have A92 := Aside0.mk A920
     clear A920
     by_cases c93 : t366 < 0
     ·rw [if_pos c93] at H
      have c93b0 : decide (t366 < 0) = true := decide_eq_true c93
      clear c93
      exact absurd ((Option.some.inj H).trans HRT.out) Z180
     rw [if_neg c93] at H
     have c93b0 : decide (t366 < 0) = false := decide_eq_false c93
     clear c93
     by_cases c94 : t366 = t346
     rotate_left
     ·rw [if_neg c94] at H
      have c94b0 : (t366 == t346) = false := beq_eq_false_iff_ne.mpr c94
      have c94b1 : (t366 != t346) = true := bne_iff_ne.mpr c94
      exact absurd ((Option.some.inj H).trans HRT.out) Z180
     rw [if_pos c94] at H
     have c94b0 : (t366 == t346) = true := beq_iff_eq.mpr c94
     have c94b1 : (t366 != t346) = false := bne_eq_false_iff_eq.mpr c94
     clear c94
     obtain rfl := Option.some.inj H
     have hnb95 := NB342_327.out
     have hnc95 := NB327_342.out
     have hnb96 := NB342_328.out
     have hnc96 := NB328_342.out
     have hnb97 := NB342_343.out
     have hnc97 := NB343_342.out
     have hnb98 := NB342_362.out
     have hnc98 := NB362_342.out
     have hnb99 := NB342_363.out
     have hnc99 := NB363_342.out
     obtain ⟨hcz100_0,hcz100_1,hcz100_2,hcz100_3,hcz100_4,hcz100_5,hcz100_6,hcz100_7,hfz100_0,hfz100_1,hfz100_2,hfz100_3,hfz100_4,hfz100_5,hfz100_6,hfz100_7⟩ := cells8 BK342.out
     go_wp2_with (first | ((with_reducible refine gate_callee (f := 9) rfl ?_);refine goesL_ (some 62) rfl rfl Tryd.func9 Z133 rfl #[.agg #[.int .i64 t329,.int .i64 t330,.int .i64 t331,.int .i64 t332,.int .i64 t333,.int .i64 t334,.int .i64 t335,.slice Ao20 t347.length co20],.int .i64 1] rfl Z87 ?_;(with_reducible refine (laws_heldConfig.calls kj44 t329 t330 t331 t332 t333 t334 t335 _ _ t347 1 t366 _ ?side1 ?side2 A92.out).mono ?_);(case side1 => exact Z65);(case side2 => exact (Kd.R_reads' HO_343007.out).2.1);rintro e wq1 ⟨rfl,hb⟩;refine ⟨_,rfl,?_⟩;have n_ := jA (Kd.R_below Z94 hb) (jA (Kd.R_below Z93 hb) (jA (Kd.R_below (by (with_reducible repeat (first | apply Kd.R_alloc | apply Kd.R_drewN | apply Kd.R_drew));exact HO_363007.out) hb) (jA (blk_below (g := gb327) (o := .cells #[.int .i64 t314,.int .i64 t315,.int .i64 t316,.int .i64 t317,.int .i64 t318,.int .i64 t319,.int .i64 t320,.slice Ao11 t321.length co11] 24 (0,0)) Z171 hb) (jA (blk_below (g := gb328) (o := .cells #[.int .i64 t324,.int .i64 t325,.int .i64 t326] 26 (0,0)) Z173 hb) (jA (blk_below (g := gb342) (o := .cells #[.int .i64 t329,.int .i64 t330,.int .i64 t331,.int .i64 t332,.int .i64 t333,.int .i64 t334,.int .i64 t335,.slice Ao20 t347.length co20] 24 (0,0)) Z172 hb) (jA (blk_below (g := gb343) (o := .cells #[.int .i64 t339,.int .i64 t340,.int .i64 t341] 26 (0,0)) Z175 hb) (jA (blk_below (g := gb362) (o := .cells #[.int .i64 t349,.int .i64 t350,.int .i64 t351,.int .i64 t352,.int .i64 t353,.int .i64 t354,.int .i64 t355,.slice Ao62 t356.length co62] 24 (0,0)) Z126 hb) (jA (blk_below (g := gb363) (o := .cells #[.int .i64 t359,.int .i64 t360,.int .i64 t361] 26 (0,0)) Z127 hb) (Aside0.mk (below_step Z35 hb))))))))));clear HO_328007 HO_343007 HO_363007 BK327 BK328 BK342 BK343 BK362 BK363 HB;obtain ⟨HO_328007,HO_343007,HO_363007,BK327,BK328,BK342,BK343,BK362,BK363,HB⟩ := n_;(try clear hb);(try clear hb2);(try clear hk);(try clear hi)))
     go_ret
     exact ⟨Z107,Z35⟩

/-- THE ONE PURE STATEMENT of laws_FnExactReadConfig: yours. -/
def laws_FnExactReadConfig.Pure : Prop := ∀ (a0 : ByteArray),a0.size ≤ 140737488351232 → ∃ k,laws_FnExactReadConfig.f k a0 = some true
theorem laws_FnExactReadConfig.walk (P : laws_FnExactReadConfig.Pure) (a0 : ByteArray) (w : World) (hG : GT w) (w0 : a0.size ≤ 140737488351232) :
  Calls Tryd.prog 3 #[.string a0] w fun e w' => e = .returned (.bool true) ∧ Below w.heap.size w w' := by
 obtain ⟨k,h⟩ := P a0 w0
 refine (laws_FnExactReadConfig.calls k a0 true w hG h rfl).mono ?_
 rintro e w' ⟨rfl,hd⟩
 exact ⟨rfl,hd⟩

end Go.Proofs.YtepnbcdbagjmbacDoor.QFnExactReadConfig
