/- The machine side of FnConfig: what each Go function that it reaches comes to. Conditions: none. -/
import Derived.Test.YtepnbcdbagjmbaeGreatDoorQFnConfigx0
import Derived.Test.YtepnbcdbagjmbaeGreatDoorQFnConfigx7
import Derived.Test.YtepnbcdbagjmbaeGreatDoorQFnConfigx18
namespace Go.Proofs.YtepnbcdbagjmbaeGreatDoor.QFnConfig
open Go.RowKit Go.Proofs.YtepnbcdbagjmbaeGreatDoorW.PrintWords Go.Proofs.YtepnbcdbagjmbaeGreatDoorW.PrintLast Go.Proofs.YtepnbcdbagjmbaeGreatDoorW.PrintMore
attribute [local go_sem] max2_int min2_int max_two min_two max_three min_three max_four min_four   -- for this text's walks alone
set_option linter.unusedVariables false
set_option linter.unusedSimpArgs false

/-! ### spec_SameConfig: function 12 -/
def spec_SameConfig.f (k : Nat) (a0_0 : Int) (a0_1 : Int) (a0_2 : Int) (a0_3 : Int) (a0_4 : Int) (a0_5 : Int) (a0_6 : Int) (l0_7 : List Int) (a1_0 : Int) (a1_1 : Int) (a1_2 : Int) (a1_3 : Int) (a1_4 : Int) (a1_5 : Int) (a1_6 : Int) (l1_7 : List Int) : Option (Bool) := (spec_l8Numbers.f a0_0 a0_1 a0_2 a0_3 a0_4 a0_5 a0_6 l0_7).bind fun t617 => ((spec_l8Numbers.f a1_0 a1_1 a1_2 a1_3 a1_4 a1_5 a1_6 l1_7).bind fun t620 => ((spec_l8Ints.f k t617 t620).bind fun t623 => (if t623 = true then (if a0_5 = a1_5 then (if a0_6 = a1_6 then ((spec_l8Ints.f k l0_7 l1_7).bind fun t624 => (some t624)) else (some false)) else (some false)) else (some false))))
theorem spec_SameConfig.mono : ∀ a0 a1 a2 a3 a4 a5 a6 a7 a8 a9 a10 a11 a12 a13 a14 a15 k,LeO (spec_SameConfig.f k a0 a1 a2 a3 a4 a5 a6 a7 a8 a9 a10 a11 a12 a13 a14 a15) (spec_SameConfig.f (k + 1) a0 a1 a2 a3 a4 a5 a6 a7 a8 a9 a10 a11 a12 a13 a14 a15) := by
 intro a0 a1 a2 a3 a4 a5 a6 a7 a8 a9 a10 a11 a12 a13 a14 a15 k
 unfold spec_SameConfig.f
 repeat' first
   | (with_reducible exact spec_l8Ints.mono _ _ _)
   | (with_reducible exact LeO.refl _)
   | (with_reducible exact LeO.none _)
   | (with_reducible refine LeO.ite ?_ ?_)
   | (with_reducible refine LeO.bind ?_ (fun _ => ?_))
   | exact spec_l8Ints.mono _ _ _
   | exact LeO.none _
   | refine LeO.ite ?_ ?_
   | refine LeO.bind ?_ (fun _ => ?_)
def spec_SameConfig.T1 : Bool × List (List Nat × List Nat) := (true,[([],[]),([0],[0]),([],[]),([2,1],[2]),([1,3,3],[1,3]),([4,4],[4]),([5],[5]),([6,5],[5,6]),([5],[5]),([8,5],[5,8]),([7,9,5],[5,7,9]),([5,10],[5,10]),([11,5],[11]),([12],[12]),([13,12],[12,13]),([12],[12]),([15,12],[12,15]),([14,16,12],[12,14,16]),([12,17],[12,17]),([18,12],[18]),([19],[19]),([20,19],[19,20]),([19],[19]),([22,19],[19,22]),([21,23,19,19],[19,21,23]),([19,24],[19,24]),([25,24,0,1,2,3,4,5,6,7,8,9,10,11,12,13,14,15,16,17,18,19,20,21,22,23,24,25],[25])])
def spec_SameConfig.B1 : List Nat := [0,1,0,7,15,31,63,127,63,319,1023,2047,4095,8191,16383,8191,40959,131071,262143,524287,1048575,2097151,1048575,5242879,16777215,33554431,67108863]
theorem spec_SameConfig.tab1 : rtab .any (opsOf Tryz.f12 1) = spec_SameConfig.T1 := by kernel_rfl
theorem spec_SameConfig.bits1 : waitsOk spec_SameConfig.T1.2 spec_SameConfig.B1 = true := by kernel_rfl
set_option maxHeartbeats 8000000 in
set_option maxRecDepth 100000 in
theorem spec_SameConfig.calls (k : Nat) (a0_0 : Int) (a0_1 : Int) (a0_2 : Int) (a0_3 : Int) (a0_4 : Int) (a0_5 : Int) (a0_6 : Int) (A0_7 : Option Addr) (c0_7 : Nat) (l0_7 : List Int) (a1_0 : Int) (a1_1 : Int) (a1_2 : Int) (a1_3 : Int) (a1_4 : Int) (a1_5 : Int) (a1_6 : Int) (A1_7 : Option Addr) (c1_7 : Nat) (l1_7 : List Int) (r : Bool) (w : World) (hr0_7 : Kd.C (Kd.int .i64) w A0_7 l0_7.length l0_7) (hc0_7 : l0_7.length ≤ c0_7) (hr1_7 : Kd.C (Kd.int .i64) w A1_7 l1_7.length l1_7) (hc1_7 : l1_7.length ≤ c1_7) (h : spec_SameConfig.f k a0_0 a0_1 a0_2 a0_3 a0_4 a0_5 a0_6 l0_7 a1_0 a1_1 a1_2 a1_3 a1_4 a1_5 a1_6 l1_7 = some r) :
  Calls Tryz.prog 12 #[.agg #[.int .i64 a0_0,.int .i64 a0_1,.int .i64 a0_2,.int .i64 a0_3,.int .i64 a0_4,.int .i64 a0_5,.int .i64 a0_6,.slice A0_7 l0_7.length c0_7],.agg #[.int .i64 a1_0,.int .i64 a1_1,.int .i64 a1_2,.int .i64 a1_3,.int .i64 a1_4,.int .i64 a1_5,.int .i64 a1_6,.slice A1_7 l1_7.length c1_7]] w fun e w' => e = .returned (.bool r) ∧ Below w.heap.size w w' := by
 have hu26 := Tryz.underlying26
 have HR0_7 := Aside0.mk hr0_7
 have HC0_7 := Aside0.mk hc0_7
 clear hr0_7 hc0_7
 have HR1_7 := Aside0.mk hr1_7
 have HC1_7 := Aside0.mk hc1_7
 clear hr1_7 hc1_7
 have HB := Aside0.mk (Below.refl w.heap.size w)
 have H := h
 clear h
 unfold spec_SameConfig.f at H
 obtain ⟨t617,A30,H⟩ := Option.bind_eq_some_iff.mp H
 have A3 := Aside0.mk A30
 clear A30
 obtain ⟨t620,A40,H⟩ := Option.bind_eq_some_iff.mp H
 have A4 := Aside0.mk A40
 clear A40
 obtain ⟨t623,A50,H⟩ := Option.bind_eq_some_iff.mp H
 have A5 := Aside0.mk A50
 clear A50
 by_cases c6 : t623 = true
 rotate_left
 ·replace c6 := Bool.eq_false_iff.mpr c6
  subst c6
  rw [if_neg Bool.false_ne_true] at H
  obtain rfl := Option.some.inj H
  go_enter Tryz.func12,Tryz.ntmps12
  try go_wp2_with (first | ((with_reducible refine gate_dst (N := 2) rfl ?_);refine bE 2 #[.int .i64 a0_0,.int .i64 a0_1,.int .i64 a0_2,.int .i64 a0_3,.int .i64 a0_4,.int .i64 a0_5,.int .i64 a0_6,.slice A0_7 l0_7.length c0_7] 26 (h := ?_);intro gb615 hg w31 hbox hb;have n_ := Z44;clear HB;obtain ⟨HB,BK615,GW615,GE615⟩ := n_;clear hb hbox hg) | ((with_reducible refine gate_dst (N := 3) rfl ?_);refine bE 3 #[.int .i64 a1_0,.int .i64 a1_1,.int .i64 a1_2,.int .i64 a1_3,.int .i64 a1_4,.int .i64 a1_5,.int .i64 a1_6,.slice A1_7 l1_7.length c1_7] 26 (h := ?_);intro gb616 hg w32 hbox hb;have n_ := Z20;clear BK615 HB;obtain ⟨BK615,HB,BK616,GW616,GE616,NB615_616,NB616_615⟩ := n_;clear hb hbox hg))
  have n_ := jA (blk_drew BK615.out) (jA (blk_drew BK616.out) (Aside0.mk (below_drew1 HB.out)))
  clear BK615 BK616 HB
  obtain ⟨BK615,BK616,HB⟩ := n_
  refine start_ (n := 27) (S := fun w' => w'.cell? ⟨gb615,0,none⟩ = some (.int .i64 a0_0) ∧ w'.cell? ⟨gb615,1,none⟩ = some (.int .i64 a0_1) ∧ w'.cell? ⟨gb615,2,none⟩ = some (.int .i64 a0_2) ∧ w'.cell? ⟨gb615,3,none⟩ = some (.int .i64 a0_3) ∧ w'.cell? ⟨gb615,4,none⟩ = some (.int .i64 a0_4) ∧ w'.cell? ⟨gb615,5,none⟩ = some (.int .i64 a0_5) ∧ w'.cell? ⟨gb615,6,none⟩ = some (.int .i64 a0_6) ∧ w'.cell? ⟨gb615,7,none⟩ = some (.slice A0_7 l0_7.length c0_7) ∧ w'.cell? ⟨gb616,0,none⟩ = some (.int .i64 a1_0) ∧ w'.cell? ⟨gb616,1,none⟩ = some (.int .i64 a1_1) ∧ w'.cell? ⟨gb616,2,none⟩ = some (.int .i64 a1_2) ∧ w'.cell? ⟨gb616,3,none⟩ = some (.int .i64 a1_3) ∧ w'.cell? ⟨gb616,4,none⟩ = some (.int .i64 a1_4) ∧ w'.cell? ⟨gb616,5,none⟩ = some (.int .i64 a1_5) ∧ w'.cell? ⟨gb616,6,none⟩ = some (.int .i64 a1_6) ∧ w'.cell? ⟨gb616,7,none⟩ = some (.slice A1_7 l1_7.length c1_7)) (ds := []) (qM 27 0) Z190 rfl (by kernel_rfl) ⟨bc BK615 0,bc BK615 1,bc BK615 2,bc BK615 3,bc BK615 4,bc BK615 5,bc BK615 6,bc BK615 7,bc BK616 0,bc BK616 1,bc BK616 2,bc BK616 3,bc BK616 4,bc BK616 5,bc BK616 6,bc BK616 7⟩ (fun hHeld => ?_);refine with_tabW spec_SameConfig.tab1 spec_SameConfig.bits1 (fun HT_ HW_ => ?_)
  generalize w32.drew = w33 at BK615 BK616 HB hHeld ⊢
  refine rT16 0 5 27 1 HT_ HW_ hHeld (h := ?_)
  refine rT16 2 7 27 5 HT_ HW_ hHeld (h := ?_)
  refine rO 1 6 27 7 HT_ (h := fun K hK => ?_)
  refine goes_ Tryz.func19 Z190 rfl #[.agg #[.int .i64 a0_0,.int .i64 a0_1,.int .i64 a0_2,.int .i64 a0_3,.int .i64 a0_4,.int .i64 a0_5,.int .i64 a0_6,.slice A0_7 l0_7.length c0_7]] Z191 rfl rfl Z130 ?_
  with_reducible refine (spec_l8Numbers.calls a0_0 a0_1 a0_2 a0_3 a0_4 a0_5 a0_6 _ _ l0_7 t617 _ ?side1 ?side2 A3.out).mono ?_
  (case side1 => exact Z103)
  (case side2 => exact Z186)
  rintro e w34 ⟨v618,rfl,ho0,hb⟩
  refine ⟨_,rfl,?_⟩
  have n_ := jA (Kd.R_lower ho0 (below_size Z95)) (jA (blk_below (g := gb615) (o := .cells #[.int .i64 a0_0,.int .i64 a0_1,.int .i64 a0_2,.int .i64 a0_3,.int .i64 a0_4,.int .i64 a0_5,.int .i64 a0_6,.slice A0_7 l0_7.length c0_7] 26 (0,0)) Z277 hb) (jA (blk_below (g := gb616) (o := .cells #[.int .i64 a1_0,.int .i64 a1_1,.int .i64 a1_2,.int .i64 a1_3,.int .i64 a1_4,.int .i64 a1_5,.int .i64 a1_6,.slice A1_7 l1_7.length c1_7] 26 (0,0)) Z178 hb) (Aside0.mk (below_step Z95 hb))))
  clear BK615 BK616 HB
  obtain ⟨HO619,BK615,BK616,HB⟩ := n_
  (try clear hb)
  (try clear hb2)
  (try clear hk)
  (try clear hi)
  (try clear ho0)
  refine hK.out _ _ ⟨bc BK615 0,bc BK615 1,bc BK615 2,bc BK615 3,bc BK615 4,bc BK615 5,bc BK615 6,bc BK615 7,bc BK616 0,bc BK616 1,bc BK616 2,bc BK616 3,bc BK616 4,bc BK616 5,bc BK616 6,bc BK616 7⟩ (fun hHeld => ?_)
  clear hK K
  refine rN (h := ?_)
  refine rO 3 8 27 15 HT_ (h := fun K hK => ?_)
  refine goes_ Tryz.func19 Z190 rfl #[.agg #[.int .i64 a1_0,.int .i64 a1_1,.int .i64 a1_2,.int .i64 a1_3,.int .i64 a1_4,.int .i64 a1_5,.int .i64 a1_6,.slice A1_7 l1_7.length c1_7]] Z191 rfl rfl Z130 ?_
  with_reducible refine (spec_l8Numbers.calls a1_0 a1_1 a1_2 a1_3 a1_4 a1_5 a1_6 _ _ l1_7 t620 _ ?side1 ?side2 A4.out).mono ?_
  (case side1 => exact Z104)
  (case side2 => exact HC1_7.out)
  rintro e w35 ⟨v621,rfl,ho0,hb⟩
  refine ⟨_,rfl,?_⟩
  have n_ := jA (Kd.R_elder' Z139 (Kd.R_base ho0) hb) (jA (Kd.R_lower (Kd.R_new' ho0 (Kd.R_lt Z139)) (below_size Z95)) (jA (blk_below (g := gb615) (o := .cells #[.int .i64 a0_0,.int .i64 a0_1,.int .i64 a0_2,.int .i64 a0_3,.int .i64 a0_4,.int .i64 a0_5,.int .i64 a0_6,.slice A0_7 l0_7.length c0_7] 26 (0,0)) Z277 hb) (jA (blk_below (g := gb616) (o := .cells #[.int .i64 a1_0,.int .i64 a1_1,.int .i64 a1_2,.int .i64 a1_3,.int .i64 a1_4,.int .i64 a1_5,.int .i64 a1_6,.slice A1_7 l1_7.length c1_7] 26 (0,0)) Z178 hb) (Aside0.mk (below_step Z95 hb)))))
  clear HO619 BK615 BK616 HB
  obtain ⟨HO619,HO622,BK615,BK616,HB⟩ := n_
  (try clear hb)
  (try clear hb2)
  (try clear hk)
  (try clear hi)
  (try clear ho0)
  obtain ⟨Ao36,co36,eo36⟩ := Kd.R_slice HO619.out
  (first | subst eo36 | (injection eo36 with f1_ f2_ f3_;have f4_ := f1_.symm;have f5_ := f3_.symm;clear f1_ f2_ f3_;subst f4_;subst f5_))
  obtain ⟨Ao37,co37,eo37⟩ := Kd.R_slice HO622.out
  (first | subst eo37 | (injection eo37 with f1_ f2_ f3_;have f4_ := f1_.symm;have f5_ := f3_.symm;clear f1_ f2_ f3_;subst f4_;subst f5_))
  refine hK.out _ _ ⟨bc BK615 0,bc BK615 1,bc BK615 2,bc BK615 3,bc BK615 4,bc BK615 5,bc BK615 6,bc BK615 7,bc BK616 0,bc BK616 1,bc BK616 2,bc BK616 3,bc BK616 4,bc BK616 5,bc BK616 6,bc BK616 7⟩ (fun hHeld => ?_)
  clear hK K
  refine rN (h := ?_)
  refine rO 4 9 27 31 HT_ (h := fun K hK => ?_)
  refine goes_ Tryz.func38 Z190 rfl #[.slice Ao36 t617.length co36,.slice Ao37 t620.length co37] Z191 rfl rfl Z130 ?_
  with_reducible refine (spec_l8Ints.calls k _ _ t617 _ _ t620 false _ ?side1 ?side2 ?side3 ?side4 A5.out).mono ?_
  (case side1 => exact Z108)
  (case side2 => exact Z173)
  (case side3 => exact Z107)
  (case side4 => exact Z172)
  rintro e w' ⟨rfl,⟨nd,rfl⟩⟩
  refine ⟨_,rfl,?_⟩
  refine hK.out _ _ ⟨bc BK615 0,bc BK615 1,bc BK615 2,bc BK615 3,bc BK615 4,bc BK615 5,bc BK615 6,bc BK615 7,bc BK616 0,bc BK616 1,bc BK616 2,bc BK616 3,bc BK616 4,bc BK616 5,bc BK616 6,bc BK616 7⟩ (fun hHeld => ?_)
  clear hK K
  refine rN (h := ?_)
  refine rP 5 10 27 63 HT_ (h := ?_)
  refine rU 6 11 27 127 HT_ (h := ?_)
  refine rU 7 12 27 255 HT_ (h := ?_)
  refine rU 8 13 27 511 HT_ (h := ?_)
  refine rU 9 14 27 1023 HT_ (h := ?_)
  refine rU 10 15 27 2047 HT_ (h := ?_)
  refine rP 11 16 27 4095 HT_ (h := ?_)
  refine rP 12 17 27 8191 HT_ (h := ?_)
  refine rU 13 18 27 16383 HT_ (h := ?_)
  refine rU 14 19 27 32767 HT_ (h := ?_)
  refine rU 15 20 27 65535 HT_ (h := ?_)
  refine rU 16 21 27 131071 HT_ (h := ?_)
  refine rU 17 22 27 262143 HT_ (h := ?_)
  refine rP 18 23 27 524287 HT_ (h := ?_)
  refine rP 19 24 27 1048575 HT_ (h := ?_)
  refine rU 20 25 27 2097151 HT_ (h := ?_)
  refine rU 21 26 27 4194303 HT_ (h := ?_)
  refine rU 22 27 27 8388607 HT_ (h := ?_)
  refine rU 23 28 27 16777215 HT_ (h := ?_)
  refine rU 24 29 27 33554431 HT_ (h := ?_)
  refine rP 25 30 27 67108863 HT_ (h := ?_)
  refine rP 26 4 27 134217727 HT_ (h := ?_)
  refine done_ (done_of HT_.out Z190) ?_
  try go_wp2
  go_ret
  exact ⟨Z152,Z95⟩
 subst c6
 rw [if_pos rfl] at H
 by_cases c7 : a0_5 = a1_5
 rotate_left
 ·rw [if_neg c7] at H
  have c7b0 : (a0_5 == a1_5) = false := beq_eq_false_iff_ne.mpr c7
  have c7b1 : (a0_5 != a1_5) = true := bne_iff_ne.mpr c7
  obtain rfl := Option.some.inj H
  go_enter Tryz.func12,Tryz.ntmps12
  try go_wp2_with (first | ((with_reducible refine gate_dst (N := 2) rfl ?_);refine bE 2 #[.int .i64 a0_0,.int .i64 a0_1,.int .i64 a0_2,.int .i64 a0_3,.int .i64 a0_4,.int .i64 a0_5,.int .i64 a0_6,.slice A0_7 l0_7.length c0_7] 26 (h := ?_);intro gb615 hg w24 hbox hb;have n_ := Z44;clear HB;obtain ⟨HB,BK615,GW615,GE615⟩ := n_;clear hb hbox hg) | ((with_reducible refine gate_dst (N := 3) rfl ?_);refine bE 3 #[.int .i64 a1_0,.int .i64 a1_1,.int .i64 a1_2,.int .i64 a1_3,.int .i64 a1_4,.int .i64 a1_5,.int .i64 a1_6,.slice A1_7 l1_7.length c1_7] 26 (h := ?_);intro gb616 hg w25 hbox hb;have n_ := Z20;clear BK615 HB;obtain ⟨BK615,HB,BK616,GW616,GE616,NB615_616,NB616_615⟩ := n_;clear hb hbox hg))
  have n_ := jA (blk_drew BK615.out) (jA (blk_drew BK616.out) (Aside0.mk (below_drew1 HB.out)))
  clear BK615 BK616 HB
  obtain ⟨BK615,BK616,HB⟩ := n_
  refine start_ (n := 27) (S := fun w' => w'.cell? ⟨gb615,0,none⟩ = some (.int .i64 a0_0) ∧ w'.cell? ⟨gb615,1,none⟩ = some (.int .i64 a0_1) ∧ w'.cell? ⟨gb615,2,none⟩ = some (.int .i64 a0_2) ∧ w'.cell? ⟨gb615,3,none⟩ = some (.int .i64 a0_3) ∧ w'.cell? ⟨gb615,4,none⟩ = some (.int .i64 a0_4) ∧ w'.cell? ⟨gb615,5,none⟩ = some (.int .i64 a0_5) ∧ w'.cell? ⟨gb615,6,none⟩ = some (.int .i64 a0_6) ∧ w'.cell? ⟨gb615,7,none⟩ = some (.slice A0_7 l0_7.length c0_7) ∧ w'.cell? ⟨gb616,0,none⟩ = some (.int .i64 a1_0) ∧ w'.cell? ⟨gb616,1,none⟩ = some (.int .i64 a1_1) ∧ w'.cell? ⟨gb616,2,none⟩ = some (.int .i64 a1_2) ∧ w'.cell? ⟨gb616,3,none⟩ = some (.int .i64 a1_3) ∧ w'.cell? ⟨gb616,4,none⟩ = some (.int .i64 a1_4) ∧ w'.cell? ⟨gb616,5,none⟩ = some (.int .i64 a1_5) ∧ w'.cell? ⟨gb616,6,none⟩ = some (.int .i64 a1_6) ∧ w'.cell? ⟨gb616,7,none⟩ = some (.slice A1_7 l1_7.length c1_7)) (ds := []) (qM 27 0) Z190 rfl (by kernel_rfl) ⟨bc BK615 0,bc BK615 1,bc BK615 2,bc BK615 3,bc BK615 4,bc BK615 5,bc BK615 6,bc BK615 7,bc BK616 0,bc BK616 1,bc BK616 2,bc BK616 3,bc BK616 4,bc BK616 5,bc BK616 6,bc BK616 7⟩ (fun hHeld => ?_);refine with_tabW spec_SameConfig.tab1 spec_SameConfig.bits1 (fun HT_ HW_ => ?_)
  generalize w25.drew = w26 at BK615 BK616 HB hHeld ⊢
  refine rT16 0 5 27 1 HT_ HW_ hHeld (h := ?_)
  refine rT16 2 7 27 5 HT_ HW_ hHeld (h := ?_)
  refine rO 1 6 27 7 HT_ (h := fun K hK => ?_)
  refine goes_ Tryz.func19 Z190 rfl #[.agg #[.int .i64 a0_0,.int .i64 a0_1,.int .i64 a0_2,.int .i64 a0_3,.int .i64 a0_4,.int .i64 a0_5,.int .i64 a0_6,.slice A0_7 l0_7.length c0_7]] Z191 rfl rfl Z130 ?_
  with_reducible refine (spec_l8Numbers.calls a0_0 a0_1 a0_2 a0_3 a0_4 a0_5 a0_6 _ _ l0_7 t617 _ ?side1 ?side2 A3.out).mono ?_
  (case side1 => exact Z103)
  (case side2 => exact Z186)
  rintro e w27 ⟨v618,rfl,ho0,hb⟩
  refine ⟨_,rfl,?_⟩
  have n_ := jA (Kd.R_lower ho0 (below_size Z95)) (jA (blk_below (g := gb615) (o := .cells #[.int .i64 a0_0,.int .i64 a0_1,.int .i64 a0_2,.int .i64 a0_3,.int .i64 a0_4,.int .i64 a0_5,.int .i64 a0_6,.slice A0_7 l0_7.length c0_7] 26 (0,0)) Z277 hb) (jA (blk_below (g := gb616) (o := .cells #[.int .i64 a1_0,.int .i64 a1_1,.int .i64 a1_2,.int .i64 a1_3,.int .i64 a1_4,.int .i64 a1_5,.int .i64 a1_6,.slice A1_7 l1_7.length c1_7] 26 (0,0)) Z178 hb) (Aside0.mk (below_step Z95 hb))))
  clear BK615 BK616 HB
  obtain ⟨HO619,BK615,BK616,HB⟩ := n_
  (try clear hb)
  (try clear hb2)
  (try clear hk)
  (try clear hi)
  (try clear ho0)
  refine hK.out _ _ ⟨bc BK615 0,bc BK615 1,bc BK615 2,bc BK615 3,bc BK615 4,bc BK615 5,bc BK615 6,bc BK615 7,bc BK616 0,bc BK616 1,bc BK616 2,bc BK616 3,bc BK616 4,bc BK616 5,bc BK616 6,bc BK616 7⟩ (fun hHeld => ?_)
  clear hK K
  refine rN (h := ?_)
  refine rO 3 8 27 15 HT_ (h := fun K hK => ?_)
  refine goes_ Tryz.func19 Z190 rfl #[.agg #[.int .i64 a1_0,.int .i64 a1_1,.int .i64 a1_2,.int .i64 a1_3,.int .i64 a1_4,.int .i64 a1_5,.int .i64 a1_6,.slice A1_7 l1_7.length c1_7]] Z191 rfl rfl Z130 ?_
  with_reducible refine (spec_l8Numbers.calls a1_0 a1_1 a1_2 a1_3 a1_4 a1_5 a1_6 _ _ l1_7 t620 _ ?side1 ?side2 A4.out).mono ?_
  (case side1 => exact Z104)
  (case side2 => exact HC1_7.out)
  rintro e w28 ⟨v621,rfl,ho0,hb⟩
  refine ⟨_,rfl,?_⟩
  have n_ := jA (Kd.R_elder' Z139 (Kd.R_base ho0) hb) (jA (Kd.R_lower (Kd.R_new' ho0 (Kd.R_lt Z139)) (below_size Z95)) (jA (blk_below (g := gb615) (o := .cells #[.int .i64 a0_0,.int .i64 a0_1,.int .i64 a0_2,.int .i64 a0_3,.int .i64 a0_4,.int .i64 a0_5,.int .i64 a0_6,.slice A0_7 l0_7.length c0_7] 26 (0,0)) Z277 hb) (jA (blk_below (g := gb616) (o := .cells #[.int .i64 a1_0,.int .i64 a1_1,.int .i64 a1_2,.int .i64 a1_3,.int .i64 a1_4,.int .i64 a1_5,.int .i64 a1_6,.slice A1_7 l1_7.length c1_7] 26 (0,0)) Z178 hb) (Aside0.mk (below_step Z95 hb)))))
  clear HO619 BK615 BK616 HB
  obtain ⟨HO619,HO622,BK615,BK616,HB⟩ := n_
  (try clear hb)
  (try clear hb2)
  (try clear hk)
  (try clear hi)
  (try clear ho0)
  obtain ⟨Ao29,co29,eo29⟩ := Kd.R_slice HO619.out
  (first | subst eo29 | (injection eo29 with f1_ f2_ f3_;have f4_ := f1_.symm;have f5_ := f3_.symm;clear f1_ f2_ f3_;subst f4_;subst f5_))
  obtain ⟨Ao30,co30,eo30⟩ := Kd.R_slice HO622.out
  (first | subst eo30 | (injection eo30 with f1_ f2_ f3_;have f4_ := f1_.symm;have f5_ := f3_.symm;clear f1_ f2_ f3_;subst f4_;subst f5_))
  refine hK.out _ _ ⟨bc BK615 0,bc BK615 1,bc BK615 2,bc BK615 3,bc BK615 4,bc BK615 5,bc BK615 6,bc BK615 7,bc BK616 0,bc BK616 1,bc BK616 2,bc BK616 3,bc BK616 4,bc BK616 5,bc BK616 6,bc BK616 7⟩ (fun hHeld => ?_)
  clear hK K
  refine rN (h := ?_)
  refine rO 4 9 27 31 HT_ (h := fun K hK => ?_)
  refine goes_ Tryz.func38 Z190 rfl #[.slice Ao29 t617.length co29,.slice Ao30 t620.length co30] Z191 rfl rfl Z130 ?_
  with_reducible refine (spec_l8Ints.calls k _ _ t617 _ _ t620 true _ ?side1 ?side2 ?side3 ?side4 A5.out).mono ?_
  (case side1 => exact Z108)
  (case side2 => exact Z173)
  (case side3 => exact Z107)
  (case side4 => exact Z172)
  rintro e w' ⟨rfl,⟨nd,rfl⟩⟩
  refine ⟨_,rfl,?_⟩
  refine hK.out _ _ ⟨bc BK615 0,bc BK615 1,bc BK615 2,bc BK615 3,bc BK615 4,bc BK615 5,bc BK615 6,bc BK615 7,bc BK616 0,bc BK616 1,bc BK616 2,bc BK616 3,bc BK616 4,bc BK616 5,bc BK616 6,bc BK616 7⟩ (fun hHeld => ?_)
  clear hK K
  refine rN (h := ?_)
  refine rP 5 10 27 63 HT_ (h := ?_)
  refine rP 6 11 27 127 HT_ (h := ?_)
  refine rP 8 13 27 383 HT_ (h := ?_)
  refine rT16 7 12 27 511 HT_ HW_ hHeld (h := ?_)
  refine rT16 9 14 27 1023 HT_ HW_ hHeld (h := ?_)
  refine rP 10 15 27 2047 HT_ (h := ?_)
  refine rP 11 16 27 4095 HT_ (h := ?_)
  refine rP 12 17 27 8191 HT_ (h := ?_)
  refine rU 13 18 27 16383 HT_ (h := ?_)
  refine rU 14 19 27 32767 HT_ (h := ?_)
  refine rU 15 20 27 65535 HT_ (h := ?_)
  refine rU 16 21 27 131071 HT_ (h := ?_)
  refine rU 17 22 27 262143 HT_ (h := ?_)
  refine rP 18 23 27 524287 HT_ (h := ?_)
  refine rP 19 24 27 1048575 HT_ (h := ?_)
  refine rU 20 25 27 2097151 HT_ (h := ?_)
  refine rU 21 26 27 4194303 HT_ (h := ?_)
  refine rU 22 27 27 8388607 HT_ (h := ?_)
  refine rU 23 28 27 16777215 HT_ (h := ?_)
  refine rU 24 29 27 33554431 HT_ (h := ?_)
  refine rP 25 30 27 67108863 HT_ (h := ?_)
  refine rP 26 4 27 134217727 HT_ (h := ?_)
  refine done_ (done_of HT_.out Z190) ?_
  try go_wp2
  go_ret
  exact ⟨Z152,Z95⟩
 rw [if_pos c7] at H
 have c7b0 : (a0_5 == a1_5) = true := beq_iff_eq.mpr c7
 have c7b1 : (a0_5 != a1_5) = false := bne_eq_false_iff_eq.mpr c7
 clear c7
 by_cases c8 : a0_6 = a1_6
 rotate_left
 ·rw [if_neg c8] at H
  have c8b0 : (a0_6 == a1_6) = false := beq_eq_false_iff_ne.mpr c8
  have c8b1 : (a0_6 != a1_6) = true := bne_iff_ne.mpr c8
  obtain rfl := Option.some.inj H
  go_enter Tryz.func12,Tryz.ntmps12
  try go_wp2_with (first | ((with_reducible refine gate_dst (N := 2) rfl ?_);refine bE 2 #[.int .i64 a0_0,.int .i64 a0_1,.int .i64 a0_2,.int .i64 a0_3,.int .i64 a0_4,.int .i64 a0_5,.int .i64 a0_6,.slice A0_7 l0_7.length c0_7] 26 (h := ?_);intro gb615 hg w17 hbox hb;have n_ := Z44;clear HB;obtain ⟨HB,BK615,GW615,GE615⟩ := n_;clear hb hbox hg) | ((with_reducible refine gate_dst (N := 3) rfl ?_);refine bE 3 #[.int .i64 a1_0,.int .i64 a1_1,.int .i64 a1_2,.int .i64 a1_3,.int .i64 a1_4,.int .i64 a1_5,.int .i64 a1_6,.slice A1_7 l1_7.length c1_7] 26 (h := ?_);intro gb616 hg w18 hbox hb;have n_ := Z20;clear BK615 HB;obtain ⟨BK615,HB,BK616,GW616,GE616,NB615_616,NB616_615⟩ := n_;clear hb hbox hg))
  have n_ := jA (blk_drew BK615.out) (jA (blk_drew BK616.out) (Aside0.mk (below_drew1 HB.out)))
  clear BK615 BK616 HB
  obtain ⟨BK615,BK616,HB⟩ := n_
  refine start_ (n := 27) (S := fun w' => w'.cell? ⟨gb615,0,none⟩ = some (.int .i64 a0_0) ∧ w'.cell? ⟨gb615,1,none⟩ = some (.int .i64 a0_1) ∧ w'.cell? ⟨gb615,2,none⟩ = some (.int .i64 a0_2) ∧ w'.cell? ⟨gb615,3,none⟩ = some (.int .i64 a0_3) ∧ w'.cell? ⟨gb615,4,none⟩ = some (.int .i64 a0_4) ∧ w'.cell? ⟨gb615,5,none⟩ = some (.int .i64 a0_5) ∧ w'.cell? ⟨gb615,6,none⟩ = some (.int .i64 a0_6) ∧ w'.cell? ⟨gb615,7,none⟩ = some (.slice A0_7 l0_7.length c0_7) ∧ w'.cell? ⟨gb616,0,none⟩ = some (.int .i64 a1_0) ∧ w'.cell? ⟨gb616,1,none⟩ = some (.int .i64 a1_1) ∧ w'.cell? ⟨gb616,2,none⟩ = some (.int .i64 a1_2) ∧ w'.cell? ⟨gb616,3,none⟩ = some (.int .i64 a1_3) ∧ w'.cell? ⟨gb616,4,none⟩ = some (.int .i64 a1_4) ∧ w'.cell? ⟨gb616,5,none⟩ = some (.int .i64 a1_5) ∧ w'.cell? ⟨gb616,6,none⟩ = some (.int .i64 a1_6) ∧ w'.cell? ⟨gb616,7,none⟩ = some (.slice A1_7 l1_7.length c1_7)) (ds := []) (qM 27 0) Z190 rfl (by kernel_rfl) ⟨bc BK615 0,bc BK615 1,bc BK615 2,bc BK615 3,bc BK615 4,bc BK615 5,bc BK615 6,bc BK615 7,bc BK616 0,bc BK616 1,bc BK616 2,bc BK616 3,bc BK616 4,bc BK616 5,bc BK616 6,bc BK616 7⟩ (fun hHeld => ?_);refine with_tabW spec_SameConfig.tab1 spec_SameConfig.bits1 (fun HT_ HW_ => ?_)
  generalize w18.drew = w19 at BK615 BK616 HB hHeld ⊢
  refine rT16 0 5 27 1 HT_ HW_ hHeld (h := ?_)
  refine rT16 2 7 27 5 HT_ HW_ hHeld (h := ?_)
  refine rO 1 6 27 7 HT_ (h := fun K hK => ?_)
  refine goes_ Tryz.func19 Z190 rfl #[.agg #[.int .i64 a0_0,.int .i64 a0_1,.int .i64 a0_2,.int .i64 a0_3,.int .i64 a0_4,.int .i64 a0_5,.int .i64 a0_6,.slice A0_7 l0_7.length c0_7]] Z191 rfl rfl Z130 ?_
  with_reducible refine (spec_l8Numbers.calls a0_0 a0_1 a0_2 a0_3 a0_4 a0_5 a0_6 _ _ l0_7 t617 _ ?side1 ?side2 A3.out).mono ?_
  (case side1 => exact Z103)
  (case side2 => exact Z186)
  rintro e w20 ⟨v618,rfl,ho0,hb⟩
  refine ⟨_,rfl,?_⟩
  have n_ := jA (Kd.R_lower ho0 (below_size Z95)) (jA (blk_below (g := gb615) (o := .cells #[.int .i64 a0_0,.int .i64 a0_1,.int .i64 a0_2,.int .i64 a0_3,.int .i64 a0_4,.int .i64 a0_5,.int .i64 a0_6,.slice A0_7 l0_7.length c0_7] 26 (0,0)) Z277 hb) (jA (blk_below (g := gb616) (o := .cells #[.int .i64 a1_0,.int .i64 a1_1,.int .i64 a1_2,.int .i64 a1_3,.int .i64 a1_4,.int .i64 a1_5,.int .i64 a1_6,.slice A1_7 l1_7.length c1_7] 26 (0,0)) Z178 hb) (Aside0.mk (below_step Z95 hb))))
  clear BK615 BK616 HB
  obtain ⟨HO619,BK615,BK616,HB⟩ := n_
  (try clear hb)
  (try clear hb2)
  (try clear hk)
  (try clear hi)
  (try clear ho0)
  refine hK.out _ _ ⟨bc BK615 0,bc BK615 1,bc BK615 2,bc BK615 3,bc BK615 4,bc BK615 5,bc BK615 6,bc BK615 7,bc BK616 0,bc BK616 1,bc BK616 2,bc BK616 3,bc BK616 4,bc BK616 5,bc BK616 6,bc BK616 7⟩ (fun hHeld => ?_)
  clear hK K
  refine rN (h := ?_)
  refine rO 3 8 27 15 HT_ (h := fun K hK => ?_)
  refine goes_ Tryz.func19 Z190 rfl #[.agg #[.int .i64 a1_0,.int .i64 a1_1,.int .i64 a1_2,.int .i64 a1_3,.int .i64 a1_4,.int .i64 a1_5,.int .i64 a1_6,.slice A1_7 l1_7.length c1_7]] Z191 rfl rfl Z130 ?_
  with_reducible refine (spec_l8Numbers.calls a1_0 a1_1 a1_2 a1_3 a1_4 a1_5 a1_6 _ _ l1_7 t620 _ ?side1 ?side2 A4.out).mono ?_
  (case side1 => exact Z104)
  (case side2 => exact HC1_7.out)
  rintro e w21 ⟨v621,rfl,ho0,hb⟩
  refine ⟨_,rfl,?_⟩
  have n_ := jA (Kd.R_elder' Z139 (Kd.R_base ho0) hb) (jA (Kd.R_lower (Kd.R_new' ho0 (Kd.R_lt Z139)) (below_size Z95)) (jA (blk_below (g := gb615) (o := .cells #[.int .i64 a0_0,.int .i64 a0_1,.int .i64 a0_2,.int .i64 a0_3,.int .i64 a0_4,.int .i64 a0_5,.int .i64 a0_6,.slice A0_7 l0_7.length c0_7] 26 (0,0)) Z277 hb) (jA (blk_below (g := gb616) (o := .cells #[.int .i64 a1_0,.int .i64 a1_1,.int .i64 a1_2,.int .i64 a1_3,.int .i64 a1_4,.int .i64 a1_5,.int .i64 a1_6,.slice A1_7 l1_7.length c1_7] 26 (0,0)) Z178 hb) (Aside0.mk (below_step Z95 hb)))))
  clear HO619 BK615 BK616 HB
  obtain ⟨HO619,HO622,BK615,BK616,HB⟩ := n_
  (try clear hb)
  (try clear hb2)
  (try clear hk)
  (try clear hi)
  (try clear ho0)
  obtain ⟨Ao22,co22,eo22⟩ := Kd.R_slice HO619.out
  (first | subst eo22 | (injection eo22 with f1_ f2_ f3_;have f4_ := f1_.symm;have f5_ := f3_.symm;clear f1_ f2_ f3_;subst f4_;subst f5_))
  obtain ⟨Ao23,co23,eo23⟩ := Kd.R_slice HO622.out
  (first | subst eo23 | (injection eo23 with f1_ f2_ f3_;have f4_ := f1_.symm;have f5_ := f3_.symm;clear f1_ f2_ f3_;subst f4_;subst f5_))
  refine hK.out _ _ ⟨bc BK615 0,bc BK615 1,bc BK615 2,bc BK615 3,bc BK615 4,bc BK615 5,bc BK615 6,bc BK615 7,bc BK616 0,bc BK616 1,bc BK616 2,bc BK616 3,bc BK616 4,bc BK616 5,bc BK616 6,bc BK616 7⟩ (fun hHeld => ?_)
  clear hK K
  refine rN (h := ?_)
  refine rO 4 9 27 31 HT_ (h := fun K hK => ?_)
  refine goes_ Tryz.func38 Z190 rfl #[.slice Ao22 t617.length co22,.slice Ao23 t620.length co23] Z191 rfl rfl Z130 ?_
  with_reducible refine (spec_l8Ints.calls k _ _ t617 _ _ t620 true _ ?side1 ?side2 ?side3 ?side4 A5.out).mono ?_
  (case side1 => exact Z108)
  (case side2 => exact Z173)
  (case side3 => exact Z107)
  (case side4 => exact Z172)
  rintro e w' ⟨rfl,⟨nd,rfl⟩⟩
  refine ⟨_,rfl,?_⟩
  refine hK.out _ _ ⟨bc BK615 0,bc BK615 1,bc BK615 2,bc BK615 3,bc BK615 4,bc BK615 5,bc BK615 6,bc BK615 7,bc BK616 0,bc BK616 1,bc BK616 2,bc BK616 3,bc BK616 4,bc BK616 5,bc BK616 6,bc BK616 7⟩ (fun hHeld => ?_)
  clear hK K
  refine rN (h := ?_)
  refine rP 5 10 27 63 HT_ (h := ?_)
  refine rP 6 11 27 127 HT_ (h := ?_)
  refine rP 8 13 27 383 HT_ (h := ?_)
  refine rT16 7 12 27 511 HT_ HW_ hHeld (h := ?_)
  refine rT16 9 14 27 1023 HT_ HW_ hHeld (h := ?_)
  refine rP 10 15 27 2047 HT_ (h := ?_)
  refine rP 11 16 27 4095 HT_ (h := ?_)
  refine rP 12 17 27 8191 HT_ (h := ?_)
  refine rP 13 18 27 16383 HT_ (h := ?_)
  refine rP 15 20 27 49151 HT_ (h := ?_)
  refine rT16 14 19 27 65535 HT_ HW_ hHeld (h := ?_)
  refine rT16 16 21 27 131071 HT_ HW_ hHeld (h := ?_)
  refine rP 17 22 27 262143 HT_ (h := ?_)
  refine rP 18 23 27 524287 HT_ (h := ?_)
  refine rP 19 24 27 1048575 HT_ (h := ?_)
  refine rU 20 25 27 2097151 HT_ (h := ?_)
  refine rU 21 26 27 4194303 HT_ (h := ?_)
  refine rU 22 27 27 8388607 HT_ (h := ?_)
  refine rU 23 28 27 16777215 HT_ (h := ?_)
  refine rU 24 29 27 33554431 HT_ (h := ?_)
  refine rP 25 30 27 67108863 HT_ (h := ?_)
  refine rP 26 4 27 134217727 HT_ (h := ?_)
  refine done_ (done_of HT_.out Z190) ?_
  try go_wp2
  go_ret
  exact ⟨Z152,Z95⟩
 rw [if_pos c8] at H
 have c8b0 : (a0_6 == a1_6) = true := beq_iff_eq.mpr c8
 have c8b1 : (a0_6 != a1_6) = false := bne_eq_false_iff_eq.mpr c8
 clear c8
 obtain ⟨t624,A90,H⟩ := Option.bind_eq_some_iff.mp H
 have A9 := Aside0.mk A90
 clear A90
 obtain rfl := Option.some.inj H
 go_enter Tryz.func12,Tryz.ntmps12
 try go_wp2_with (first | ((with_reducible refine gate_dst (N := 2) rfl ?_);refine bE 2 #[.int .i64 a0_0,.int .i64 a0_1,.int .i64 a0_2,.int .i64 a0_3,.int .i64 a0_4,.int .i64 a0_5,.int .i64 a0_6,.slice A0_7 l0_7.length c0_7] 26 (h := ?_);intro gb615 hg w10 hbox hb;have n_ := Z44;clear HB;obtain ⟨HB,BK615,GW615,GE615⟩ := n_;clear hb hbox hg) | ((with_reducible refine gate_dst (N := 3) rfl ?_);refine bE 3 #[.int .i64 a1_0,.int .i64 a1_1,.int .i64 a1_2,.int .i64 a1_3,.int .i64 a1_4,.int .i64 a1_5,.int .i64 a1_6,.slice A1_7 l1_7.length c1_7] 26 (h := ?_);intro gb616 hg w11 hbox hb;have n_ := Z20;clear BK615 HB;obtain ⟨BK615,HB,BK616,GW616,GE616,NB615_616,NB616_615⟩ := n_;clear hb hbox hg))
 have n_ := jA (blk_drew BK615.out) (jA (blk_drew BK616.out) (Aside0.mk (below_drew1 HB.out)))
 clear BK615 BK616 HB
 obtain ⟨BK615,BK616,HB⟩ := n_
 refine start_ (n := 27) (S := fun w' => w'.cell? ⟨gb615,0,none⟩ = some (.int .i64 a0_0) ∧ w'.cell? ⟨gb615,1,none⟩ = some (.int .i64 a0_1) ∧ w'.cell? ⟨gb615,2,none⟩ = some (.int .i64 a0_2) ∧ w'.cell? ⟨gb615,3,none⟩ = some (.int .i64 a0_3) ∧ w'.cell? ⟨gb615,4,none⟩ = some (.int .i64 a0_4) ∧ w'.cell? ⟨gb615,5,none⟩ = some (.int .i64 a0_5) ∧ w'.cell? ⟨gb615,6,none⟩ = some (.int .i64 a0_6) ∧ w'.cell? ⟨gb615,7,none⟩ = some (.slice A0_7 l0_7.length c0_7) ∧ w'.cell? ⟨gb616,0,none⟩ = some (.int .i64 a1_0) ∧ w'.cell? ⟨gb616,1,none⟩ = some (.int .i64 a1_1) ∧ w'.cell? ⟨gb616,2,none⟩ = some (.int .i64 a1_2) ∧ w'.cell? ⟨gb616,3,none⟩ = some (.int .i64 a1_3) ∧ w'.cell? ⟨gb616,4,none⟩ = some (.int .i64 a1_4) ∧ w'.cell? ⟨gb616,5,none⟩ = some (.int .i64 a1_5) ∧ w'.cell? ⟨gb616,6,none⟩ = some (.int .i64 a1_6) ∧ w'.cell? ⟨gb616,7,none⟩ = some (.slice A1_7 l1_7.length c1_7)) (ds := []) (qM 27 0) Z190 rfl (by kernel_rfl) ⟨bc BK615 0,bc BK615 1,bc BK615 2,bc BK615 3,bc BK615 4,bc BK615 5,bc BK615 6,bc BK615 7,bc BK616 0,bc BK616 1,bc BK616 2,bc BK616 3,bc BK616 4,bc BK616 5,bc BK616 6,bc BK616 7⟩ (fun hHeld => ?_);refine with_tabW spec_SameConfig.tab1 spec_SameConfig.bits1 (fun HT_ HW_ => ?_)
 generalize w11.drew = w12 at BK615 BK616 HB hHeld ⊢
 refine rT16 0 5 27 1 HT_ HW_ hHeld (h := ?_)
 refine rT16 2 7 27 5 HT_ HW_ hHeld (h := ?_)
 refine rO 1 6 27 7 HT_ (h := fun K hK => ?_)
 refine goes_ Tryz.func19 Z190 rfl #[.agg #[.int .i64 a0_0,.int .i64 a0_1,.int .i64 a0_2,.int .i64 a0_3,.int .i64 a0_4,.int .i64 a0_5,.int .i64 a0_6,.slice A0_7 l0_7.length c0_7]] Z191 rfl rfl Z130 ?_
 with_reducible refine (spec_l8Numbers.calls a0_0 a0_1 a0_2 a0_3 a0_4 a0_5 a0_6 _ _ l0_7 t617 _ ?side1 ?side2 A3.out).mono ?_
 (case side1 => exact Z103)
 (case side2 => exact Z186)
 rintro e w13 ⟨v618,rfl,ho0,hb⟩
 refine ⟨_,rfl,?_⟩
 have n_ := jA (Kd.R_lower ho0 (below_size Z95)) (jA (blk_below (g := gb615) (o := .cells #[.int .i64 a0_0,.int .i64 a0_1,.int .i64 a0_2,.int .i64 a0_3,.int .i64 a0_4,.int .i64 a0_5,.int .i64 a0_6,.slice A0_7 l0_7.length c0_7] 26 (0,0)) Z277 hb) (jA (blk_below (g := gb616) (o := .cells #[.int .i64 a1_0,.int .i64 a1_1,.int .i64 a1_2,.int .i64 a1_3,.int .i64 a1_4,.int .i64 a1_5,.int .i64 a1_6,.slice A1_7 l1_7.length c1_7] 26 (0,0)) Z178 hb) (Aside0.mk (below_step Z95 hb))))
 clear BK615 BK616 HB
 obtain ⟨HO619,BK615,BK616,HB⟩ := n_
 (try clear hb)
 (try clear hb2)
 (try clear hk)
 (try clear hi)
 (try clear ho0)
 refine hK.out _ _ ⟨bc BK615 0,bc BK615 1,bc BK615 2,bc BK615 3,bc BK615 4,bc BK615 5,bc BK615 6,bc BK615 7,bc BK616 0,bc BK616 1,bc BK616 2,bc BK616 3,bc BK616 4,bc BK616 5,bc BK616 6,bc BK616 7⟩ (fun hHeld => ?_)
 clear hK K
 refine rN (h := ?_)
 refine rO 3 8 27 15 HT_ (h := fun K hK => ?_)
 refine goes_ Tryz.func19 Z190 rfl #[.agg #[.int .i64 a1_0,.int .i64 a1_1,.int .i64 a1_2,.int .i64 a1_3,.int .i64 a1_4,.int .i64 a1_5,.int .i64 a1_6,.slice A1_7 l1_7.length c1_7]] Z191 rfl rfl Z130 ?_
 with_reducible refine (spec_l8Numbers.calls a1_0 a1_1 a1_2 a1_3 a1_4 a1_5 a1_6 _ _ l1_7 t620 _ ?side1 ?side2 A4.out).mono ?_
 (case side1 => exact Z104)
 (case side2 => exact HC1_7.out)
 rintro e w14 ⟨v621,rfl,ho0,hb⟩
 refine ⟨_,rfl,?_⟩
 have n_ := jA (Kd.R_elder' Z139 (Kd.R_base ho0) hb) (jA (Kd.R_lower (Kd.R_new' ho0 (Kd.R_lt Z139)) (below_size Z95)) (jA (blk_below (g := gb615) (o := .cells #[.int .i64 a0_0,.int .i64 a0_1,.int .i64 a0_2,.int .i64 a0_3,.int .i64 a0_4,.int .i64 a0_5,.int .i64 a0_6,.slice A0_7 l0_7.length c0_7] 26 (0,0)) Z277 hb) (jA (blk_below (g := gb616) (o := .cells #[.int .i64 a1_0,.int .i64 a1_1,.int .i64 a1_2,.int .i64 a1_3,.int .i64 a1_4,.int .i64 a1_5,.int .i64 a1_6,.slice A1_7 l1_7.length c1_7] 26 (0,0)) Z178 hb) (Aside0.mk (below_step Z95 hb)))))
 clear HO619 BK615 BK616 HB
 obtain ⟨HO619,HO622,BK615,BK616,HB⟩ := n_
 (try clear hb)
 (try clear hb2)
 (try clear hk)
 (try clear hi)
 (try clear ho0)
 obtain ⟨Ao15,co15,eo15⟩ := Kd.R_slice HO619.out
 (first | subst eo15 | (injection eo15 with f1_ f2_ f3_;have f4_ := f1_.symm;have f5_ := f3_.symm;clear f1_ f2_ f3_;subst f4_;subst f5_))
 obtain ⟨Ao16,co16,eo16⟩ := Kd.R_slice HO622.out
 (first | subst eo16 | (injection eo16 with f1_ f2_ f3_;have f4_ := f1_.symm;have f5_ := f3_.symm;clear f1_ f2_ f3_;subst f4_;subst f5_))
 refine hK.out _ _ ⟨bc BK615 0,bc BK615 1,bc BK615 2,bc BK615 3,bc BK615 4,bc BK615 5,bc BK615 6,bc BK615 7,bc BK616 0,bc BK616 1,bc BK616 2,bc BK616 3,bc BK616 4,bc BK616 5,bc BK616 6,bc BK616 7⟩ (fun hHeld => ?_)
 clear hK K
 refine rN (h := ?_)
 refine rO 4 9 27 31 HT_ (h := fun K hK => ?_)
 refine goes_ Tryz.func38 Z190 rfl #[.slice Ao15 t617.length co15,.slice Ao16 t620.length co16] Z191 rfl rfl Z130 ?_
 with_reducible refine (spec_l8Ints.calls k _ _ t617 _ _ t620 true _ ?side1 ?side2 ?side3 ?side4 A5.out).mono ?_
 (case side1 => exact Z108)
 (case side2 => exact Z173)
 (case side3 => exact Z107)
 (case side4 => exact Z172)
 rintro e w' ⟨rfl,⟨nd,rfl⟩⟩
 refine ⟨_,rfl,?_⟩
 refine hK.out _ _ ⟨bc BK615 0,bc BK615 1,bc BK615 2,bc BK615 3,bc BK615 4,bc BK615 5,bc BK615 6,bc BK615 7,bc BK616 0,bc BK616 1,bc BK616 2,bc BK616 3,bc BK616 4,bc BK616 5,bc BK616 6,bc BK616 7⟩ (fun hHeld => ?_)
 clear hK K
 refine rN (h := ?_)
 refine rP 5 10 27 63 HT_ (h := ?_)
 refine rP 6 11 27 127 HT_ (h := ?_)
 refine rP 8 13 27 383 HT_ (h := ?_)
 refine rT16 7 12 27 511 HT_ HW_ hHeld (h := ?_)
 refine rT16 9 14 27 1023 HT_ HW_ hHeld (h := ?_)
 refine rP 10 15 27 2047 HT_ (h := ?_)
 refine rP 11 16 27 4095 HT_ (h := ?_)
 refine rP 12 17 27 8191 HT_ (h := ?_)
 refine rP 13 18 27 16383 HT_ (h := ?_)
 refine rP 15 20 27 49151 HT_ (h := ?_)
 refine rT16 14 19 27 65535 HT_ HW_ hHeld (h := ?_)
 refine rT16 16 21 27 131071 HT_ HW_ hHeld (h := ?_)
 refine rP 17 22 27 262143 HT_ (h := ?_)
 refine rP 18 23 27 524287 HT_ (h := ?_)
 refine rP 19 24 27 1048575 HT_ (h := ?_)
 refine rP 20 25 27 2097151 HT_ (h := ?_)
 refine rP 22 27 27 6291455 HT_ (h := ?_)
 refine rT16 21 26 27 8388607 HT_ HW_ hHeld (h := ?_)
 refine rT16 23 28 27 16777215 HT_ HW_ hHeld (h := ?_)
 refine rO 24 29 27 33554431 HT_ (h := fun K hK => ?_)
 refine goes_ Tryz.func38 Z190 rfl #[.slice A0_7 l0_7.length c0_7,.slice A1_7 l1_7.length c1_7] Z191 rfl rfl Z130 ?_
 with_reducible refine (spec_l8Ints.calls k _ _ l0_7 _ _ l1_7 t624 _ ?side1 ?side2 ?side3 ?side4 A9.out).mono ?_
 (case side1 => repeat (first | exact (Kd.C_below HR0_7.out Z95) | (with_reducible refine Kd.C_alloc ?_ _) | (with_reducible refine Kd.C_drewN ?_ _) | (with_reducible refine Kd.C_drew ?_)))
 (case side2 => exact Z186)
 (case side3 => repeat (first | exact (Kd.C_below HR1_7.out Z95) | (with_reducible refine Kd.C_alloc ?_ _) | (with_reducible refine Kd.C_drewN ?_ _) | (with_reducible refine Kd.C_drew ?_)))
 (case side4 => exact HC1_7.out)
 rintro e w' ⟨rfl,⟨nd,rfl⟩⟩
 refine ⟨_,rfl,?_⟩
 refine hK.out _ _ ⟨bc BK615 0,bc BK615 1,bc BK615 2,bc BK615 3,bc BK615 4,bc BK615 5,bc BK615 6,bc BK615 7,bc BK616 0,bc BK616 1,bc BK616 2,bc BK616 3,bc BK616 4,bc BK616 5,bc BK616 6,bc BK616 7⟩ (fun hHeld => ?_)
 clear hK K
 refine rN (h := ?_)
 refine rP 25 30 27 67108863 HT_ (h := ?_)
 refine rP 26 4 27 134217727 HT_ (h := ?_)
 refine done_ (done_of HT_.out Z190) ?_
 try go_wp2
 go_ret
 exact ⟨Z152,Z95⟩

end Go.Proofs.YtepnbcdbagjmbaeGreatDoor.QFnConfig
