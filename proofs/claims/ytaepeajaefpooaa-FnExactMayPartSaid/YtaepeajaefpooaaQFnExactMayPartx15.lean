/- The machine side of FnExactMayPart: what each Go function that it reaches comes to. Conditions: none. -/
import Derived.Test.YtaepeajaefpooaaQFnExactMayPartx0
import Derived.Test.YtaepeajaefpooaaQFnExactMayPartx1
import Derived.Test.YtaepeajaefpooaaQFnExactMayPartx8
import Derived.Test.YtaepeajaefpooaaQFnExactMayPartx13
import Derived.Test.YtaepeajaefpooaaQFnExactMayPartx14
namespace Go.Proofs.Ytaepeajaefpooaa.QFnExactMayPart
open Go.RowKit Go.Proofs.YtaepeajaefpooaaW.PrintWords Go.Proofs.YtaepeajaefpooaaW.PrintLast Go.Proofs.YtaepeajaefpooaaW.PrintMore
attribute [local go_sem] max2_int min2_int max_two min_two max_three min_three max_four min_four   -- for this text's walks alone
set_option linter.unusedVariables false
set_option linter.unusedSimpArgs false

/-! ### laws_FnExactMayPart: function 3 -/
def laws_FnExactMayPart.f (k : Nat) (a0_0 : Int) (a0_1 : Int) (a0_2 : Int) (a0_3 : Int) (a0_4 : Int) (a0_5 : Int) (a0_6 : Int) (l0_7 : List Int) (a1_0 : Int) (a1_1 : Int) (a2_0 : Int) (a2_1 : Int) (a2_2 : Int) (a2_3 : Int) (a2_4 : Int) (a2_5 : Int) : Option (Bool) := (laws_szConfig.f a0_0 a0_1 a0_2 a0_3 a0_4 a0_5 a0_6 l0_7 1048576).bind fun t597 => (if t597 < 0 then (some true) else ((laws_toConfig.f k a0_0 a0_1 a0_2 a0_3 a0_4 a0_5 a0_6 l0_7).bind fun bt598 => ((laws_toBound.f a1_0 a1_1).bind fun bt608 => ((laws_toCand.f a2_0 a2_1 a2_2 a2_3 a2_4 a2_5).bind fun bt610 => ((spec_MayPart.f k bt598.1 bt598.2.1 bt598.2.2.1 bt598.2.2.2.1 bt598.2.2.2.2.1 bt598.2.2.2.2.2.1 bt598.2.2.2.2.2.2.1 bt598.2.2.2.2.2.2.2 bt608.1 bt608.2 bt610.1 bt610.2.1 bt610.2.2.1 bt610.2.2.2.1 bt610.2.2.2.2.1 bt610.2.2.2.2.2).bind fun t616 => ((laws_toConfig.f k a0_0 a0_1 a0_2 a0_3 a0_4 a0_5 a0_6 l0_7).bind fun bt617 => ((laws_toBound.f a1_0 a1_1).bind fun bt628 => ((laws_toCand.f a2_0 a2_1 a2_2 a2_3 a2_4 a2_5).bind fun bt630 => ((impl_MayPart.f k bt617.1 bt617.2.1 bt617.2.2.1 bt617.2.2.2.1 bt617.2.2.2.2.1 bt617.2.2.2.2.2.1 bt617.2.2.2.2.2.2.1 bt617.2.2.2.2.2.2.2 bt628.1 bt628.2 bt630.1 bt630.2.1 bt630.2.2.1 bt630.2.2.2.1 bt630.2.2.2.2.1 bt630.2.2.2.2.2).bind fun t636 => (if (t636 != t616) = true then (some false) else ((laws_toConfig.f k a0_0 a0_1 a0_2 a0_3 a0_4 a0_5 a0_6 l0_7).bind fun bt637 => ((laws_eqConfig.f k bt617.1 bt617.2.1 bt617.2.2.1 bt617.2.2.2.1 bt617.2.2.2.2.1 bt617.2.2.2.2.2.1 bt617.2.2.2.2.2.2.1 bt617.2.2.2.2.2.2.2 bt637.1 bt637.2.1 bt637.2.2.1 bt637.2.2.2.1 bt637.2.2.2.2.1 bt637.2.2.2.2.2.1 bt637.2.2.2.2.2.2.1 bt637.2.2.2.2.2.2.2).bind fun t647 => (if t647 = true then (some true) else (some false))))))))))))))
theorem laws_FnExactMayPart.mono : ∀ a0 a1 a2 a3 a4 a5 a6 a7 a8 a9 a10 a11 a12 a13 a14 a15 k,LeO (laws_FnExactMayPart.f k a0 a1 a2 a3 a4 a5 a6 a7 a8 a9 a10 a11 a12 a13 a14 a15) (laws_FnExactMayPart.f (k + 1) a0 a1 a2 a3 a4 a5 a6 a7 a8 a9 a10 a11 a12 a13 a14 a15) := by
 intro a0 a1 a2 a3 a4 a5 a6 a7 a8 a9 a10 a11 a12 a13 a14 a15 k
 unfold laws_FnExactMayPart.f
 repeat' first
   | (with_reducible exact impl_MayPart.mono _ _ _ _ _ _ _ _ _ _ _ _ _ _ _ _ _)
   | (with_reducible exact laws_eqConfig.mono _ _ _ _ _ _ _ _ _ _ _ _ _ _ _ _ _)
   | (with_reducible exact laws_toConfig.mono _ _ _ _ _ _ _ _ _)
   | (with_reducible exact spec_MayPart.mono _ _ _ _ _ _ _ _ _ _ _ _ _ _ _ _ _)
   | (with_reducible exact LeO.refl _)
   | (with_reducible exact LeO.none _)
   | (with_reducible refine LeO.ite ?_ ?_)
   | (with_reducible refine LeO.bind ?_ (fun _ => ?_))
   | exact impl_MayPart.mono _ _ _ _ _ _ _ _ _ _ _ _ _ _ _ _ _
   | exact laws_eqConfig.mono _ _ _ _ _ _ _ _ _ _ _ _ _ _ _ _ _
   | exact laws_toConfig.mono _ _ _ _ _ _ _ _ _
   | exact spec_MayPart.mono _ _ _ _ _ _ _ _ _ _ _ _ _ _ _ _ _
   | exact LeO.none _
   | refine LeO.ite ?_ ?_
   | refine LeO.bind ?_ (fun _ => ?_)
def laws_FnExactMayPart.T5 : Bool × List (List Nat × List Nat) := (true,[([],[]),([0],[0]),([],[]),([2,1],[2]),([],[]),([4,3],[4]),([1,3,5,5],[1,3,5]),([6,6,0,1,2,3,4,5,6],[6])])
def laws_FnExactMayPart.B5 : List Nat := [0,1,0,7,0,31,63,127]
theorem laws_FnExactMayPart.tab5 : rtab .any (opsOf Try.f3 5) = laws_FnExactMayPart.T5 := by kernel_rfl
theorem laws_FnExactMayPart.bits5 : waitsOk laws_FnExactMayPart.T5.2 laws_FnExactMayPart.B5 = true := by kernel_rfl
set_option maxHeartbeats 8000000 in
set_option maxRecDepth 100000 in
theorem laws_FnExactMayPart.calls (k : Nat) (a0_0 : Int) (a0_1 : Int) (a0_2 : Int) (a0_3 : Int) (a0_4 : Int) (a0_5 : Int) (a0_6 : Int) (A0_7 : Option Addr) (c0_7 : Nat) (l0_7 : List Int) (a1_0 : Int) (a1_1 : Int) (a2_0 : Int) (a2_1 : Int) (a2_2 : Int) (a2_3 : Int) (a2_4 : Int) (a2_5 : Int) (r : Bool) (w : World) (hr0_7 : Kd.C (Kd.int .i64) w A0_7 l0_7.length l0_7) (hc0_7 : l0_7.length ≤ c0_7) (h : laws_FnExactMayPart.f k a0_0 a0_1 a0_2 a0_3 a0_4 a0_5 a0_6 l0_7 a1_0 a1_1 a2_0 a2_1 a2_2 a2_3 a2_4 a2_5 = some r) (hr_ : r = true) :
  Calls Try.prog 3 #[.agg #[.int .i64 a0_0,.int .i64 a0_1,.int .i64 a0_2,.int .i64 a0_3,.int .i64 a0_4,.int .i64 a0_5,.int .i64 a0_6,.slice A0_7 l0_7.length c0_7],.agg #[.int .i64 a1_0,.int .i64 a1_1],.agg #[.int .i64 a2_0,.int .i64 a2_1,.int .i64 a2_2,.int .i64 a2_3,.int .i64 a2_4,.int .i64 a2_5]] w fun e w' => e = .returned (.bool r) ∧ Below w.heap.size w w' := by
 have HRT := Aside0.mk hr_
 clear hr_
 have hu24 := Try.underlying24
 have hu26 := Try.underlying26
 have hu30 := Try.underlying30
 have hu33 := Try.underlying33
 have HR0_7 := Aside0.mk hr0_7
 have HC0_7 := Aside0.mk hc0_7
 clear hr0_7 hc0_7
 have HB := Aside0.mk (Below.refl w.heap.size w)
 have H := h
 clear h
 unfold laws_FnExactMayPart.f at H
 obtain ⟨t597,A40,H⟩ := Option.bind_eq_some_iff.mp H
 have A4 := Aside0.mk A40
 clear A40
 by_cases c5 : t597 < 0
 ·rw [if_pos c5] at H
  have c5b0 : decide (t597 < 0) = true := decide_eq_true c5
  clear c5
  obtain rfl := Option.some.inj H
  go_enter Try.func3,Try.ntmps3
  go_wp2_with (first | ((with_reducible refine gate_dst (N := 3) rfl ?_);refine bE 3 #[.int .i64 a0_0,.int .i64 a0_1,.int .i64 a0_2,.int .i64 a0_3,.int .i64 a0_4,.int .i64 a0_5,.int .i64 a0_6,.slice A0_7 l0_7.length c0_7] 24 (h := ?_);intro gb594 hg wq1 hbox hb;have n_ := Z121;clear HB;obtain ⟨HB,BK594,GW594,GE594⟩ := n_;clear hb hbox hg) | ((with_reducible refine gate_dst (N := 4) rfl ?_);refine bE 4 #[.int .i64 a1_0,.int .i64 a1_1] 26 (h := ?_);intro gb595 hg wq2 hbox hb;have n_ := Z60;clear BK594 HB;obtain ⟨BK594,HB,BK595,GW595,GE595,NB594_595,NB595_594⟩ := n_;clear hb hbox hg) | ((with_reducible refine gate_dst (N := 5) rfl ?_);refine bE 5 #[.int .i64 a2_0,.int .i64 a2_1,.int .i64 a2_2,.int .i64 a2_3,.int .i64 a2_4,.int .i64 a2_5] 30 (h := ?_);intro gb596 hg wq3 hbox hb;have n_ := Z30;clear BK594 BK595 HB;obtain ⟨BK594,BK595,HB,BK596,GW596,GE596,NB594_596,NB596_594,NB595_596,NB596_595⟩ := n_;clear hb hbox hg;have hnbq4 := NB594_595.out;have hncq4 := NB595_594.out;have hnbq5 := NB594_596.out;have hncq5 := NB596_594.out;obtain ⟨hczq6_0,hczq6_1,hczq6_2,hczq6_3,hczq6_4,hczq6_5,hczq6_6,hczq6_7,hfzq6_0,hfzq6_1,hfzq6_2,hfzq6_3,hfzq6_4,hfzq6_5,hfzq6_6,hfzq6_7⟩ := cells8 BK594.out) | ((with_reducible refine gate_callee (f := 6) rfl ?_);refine goesL_ (some 13) rfl rfl Try.func6 Z312 rfl #[.agg #[.int .i64 a0_0,.int .i64 a0_1,.int .i64 a0_2,.int .i64 a0_3,.int .i64 a0_4,.int .i64 a0_5,.int .i64 a0_6,.slice A0_7 l0_7.length c0_7],.int .i64 1048576] rfl Z256 ?_;(with_reducible refine (laws_szConfig.calls a0_0 a0_1 a0_2 a0_3 a0_4 a0_5 a0_6 _ _ l0_7 1048576 t597 _ ?side1 ?side2 A4.out).mono ?_);(case side1 => exact Z224);(case side2 => exact Z311);rintro e wq7 ⟨rfl,hb⟩;refine ⟨_,rfl,?_⟩;have n_ := Z89;clear BK594 BK595 BK596 HB;obtain ⟨BK594,BK595,BK596,HB⟩ := n_;(try clear hb);(try clear hb2);(try clear hk);(try clear hi)))
  go_ret
  exact ⟨Z263,Z353⟩
 ·rw [if_neg c5] at H
  have c5b0 : decide (t597 < 0) = false := decide_eq_false c5
  clear c5
  obtain ⟨⟨t598,t599,t600,t601,t602,t603,t604,t605⟩,A130,H⟩ := Option.bind_eq_some_iff.mp H
  try dsimp only at H
  have A13 := Aside0.mk A130
  clear A130
  obtain ⟨⟨t608,t609⟩,A140,H⟩ := Option.bind_eq_some_iff.mp H
  try dsimp only at H
  have A14 := Aside0.mk A140
  clear A140
  obtain ⟨⟨t610,t611,t612,t613,t614,t615⟩,A150,H⟩ := Option.bind_eq_some_iff.mp H
  try dsimp only at H
  have A15 := Aside0.mk A150
  clear A150
  obtain ⟨t616,A160,H⟩ := Option.bind_eq_some_iff.mp H
  have A16 := Aside0.mk A160
  clear A160
  obtain ⟨⟨t617,t618,t619,t620,t621,t622,t623,t624⟩,A170,H⟩ := Option.bind_eq_some_iff.mp H
  try dsimp only at H
  have A17 := Aside0.mk A170
  clear A170
  obtain ⟨⟨t628,t629⟩,A180,H⟩ := Option.bind_eq_some_iff.mp H
  try dsimp only at H
  have A18 := Aside0.mk A180
  clear A180
  obtain ⟨⟨t630,t631,t632,t633,t634,t635⟩,A190,H⟩ := Option.bind_eq_some_iff.mp H
  try dsimp only at H
  have A19 := Aside0.mk A190
  clear A190
  obtain ⟨t636,A200,H⟩ := Option.bind_eq_some_iff.mp H
  have A20 := Aside0.mk A200
  clear A200
  by_cases c21 : (t636 != t616) = true
  ·rw [if_pos c21] at H
   have c21b0 : (t636 != t616) = true := c21
   (try (have c21b1 : decide (t636 = t616) = false := by simpa using c21))
   (try (have c21b2 : (t636 == t616) = false := by simpa using c21))
   (try (have c21b3 : ¬ (t636 = t616) := by simpa using c21))
   clear c21
   exact absurd ((Option.some.inj H).trans HRT.out) Z313
  ·rw [if_neg c21] at H
   have c21b0 : (t636 != t616) = false := by simpa using c21
   (try (have c21b1 : decide (t636 = t616) = true := by simpa using c21))
   (try (have c21b2 : (t636 == t616) = true := by simpa using c21))
   clear c21
   obtain ⟨⟨t637,t638,t639,t640,t641,t642,t643,t644⟩,A220,H⟩ := Option.bind_eq_some_iff.mp H
   try dsimp only at H
   have A22 := Aside0.mk A220
   clear A220
   obtain ⟨t647,A230,H⟩ := Option.bind_eq_some_iff.mp H
   have A23 := Aside0.mk A230
   clear A230
   by_cases c24 : t647 = true
   ·subst c24
    rw [if_pos rfl] at H
    obtain rfl := Option.some.inj H
    go_enter Try.func3,Try.ntmps3
    try go_wp2_with (first | ((with_reducible refine gate_dst (N := 3) rfl ?_);refine bE 3 #[.int .i64 a0_0,.int .i64 a0_1,.int .i64 a0_2,.int .i64 a0_3,.int .i64 a0_4,.int .i64 a0_5,.int .i64 a0_6,.slice A0_7 l0_7.length c0_7] 24 (h := ?_);intro gb594 hg w25 hbox hb;have n_ := Z121;clear HB;obtain ⟨HB,BK594,GW594,GE594⟩ := n_;clear hb hbox hg) | ((with_reducible refine gate_dst (N := 4) rfl ?_);refine bE 4 #[.int .i64 a1_0,.int .i64 a1_1] 26 (h := ?_);intro gb595 hg w26 hbox hb;have n_ := Z60;clear BK594 HB;obtain ⟨BK594,HB,BK595,GW595,GE595,NB594_595,NB595_594⟩ := n_;clear hb hbox hg) | ((with_reducible refine gate_dst (N := 5) rfl ?_);refine bE 5 #[.int .i64 a2_0,.int .i64 a2_1,.int .i64 a2_2,.int .i64 a2_3,.int .i64 a2_4,.int .i64 a2_5] 30 (h := ?_);intro gb596 hg w27 hbox hb;have n_ := Z30;clear BK594 BK595 HB;obtain ⟨BK594,BK595,HB,BK596,GW596,GE596,NB594_596,NB596_594,NB595_596,NB596_595⟩ := n_;clear hb hbox hg;have hnb28 := NB594_595.out;have hnc28 := NB595_594.out;have hnb29 := NB594_596.out;have hnc29 := NB596_594.out;obtain ⟨hcz30_0,hcz30_1,hcz30_2,hcz30_3,hcz30_4,hcz30_5,hcz30_6,hcz30_7,hfz30_0,hfz30_1,hfz30_2,hfz30_3,hfz30_4,hfz30_5,hfz30_6,hfz30_7⟩ := cells8 BK594.out) | ((with_reducible refine gate_callee (f := 6) rfl ?_);refine goesL_ (some 13) rfl rfl Try.func6 Z312 rfl #[.agg #[.int .i64 a0_0,.int .i64 a0_1,.int .i64 a0_2,.int .i64 a0_3,.int .i64 a0_4,.int .i64 a0_5,.int .i64 a0_6,.slice A0_7 l0_7.length c0_7],.int .i64 1048576] rfl Z256 ?_;(with_reducible refine (laws_szConfig.calls a0_0 a0_1 a0_2 a0_3 a0_4 a0_5 a0_6 _ _ l0_7 1048576 t597 _ ?side1 ?side2 A4.out).mono ?_);(case side1 => exact Z224);(case side2 => exact Z311);rintro e w31 ⟨rfl,hb⟩;refine ⟨_,rfl,?_⟩;have n_ := Z89;clear BK594 BK595 BK596 HB;obtain ⟨BK594,BK595,BK596,HB⟩ := n_;(try clear hb);(try clear hb2);(try clear hk);(try clear hi)))
    have n0_ := Aside0.mk (blk_drew BK594.out)
    have n1_ := Aside0.mk (blk_drew BK595.out)
    have n2_ := Aside0.mk (blk_drew BK596.out)
    have n3_ := Aside0.mk (below_drew1 HB.out)
    clear BK594
    clear BK595
    clear BK596
    clear HB
    have BK594 := n0_
    have BK595 := n1_
    have BK596 := n2_
    have HB := n3_
    clear n0_ n1_ n2_ n3_
    refine start_ (n := 8) (S := fun w' => w'.cell? ⟨gb594,0,none⟩ = some (.int .i64 a0_0) ∧ w'.cell? ⟨gb594,1,none⟩ = some (.int .i64 a0_1) ∧ w'.cell? ⟨gb594,2,none⟩ = some (.int .i64 a0_2) ∧ w'.cell? ⟨gb594,3,none⟩ = some (.int .i64 a0_3) ∧ w'.cell? ⟨gb594,4,none⟩ = some (.int .i64 a0_4) ∧ w'.cell? ⟨gb594,5,none⟩ = some (.int .i64 a0_5) ∧ w'.cell? ⟨gb594,6,none⟩ = some (.int .i64 a0_6) ∧ w'.cell? ⟨gb594,7,none⟩ = some (.slice A0_7 l0_7.length c0_7) ∧ w'.cell? ⟨gb595,0,none⟩ = some (.int .i64 a1_0) ∧ w'.cell? ⟨gb595,1,none⟩ = some (.int .i64 a1_1) ∧ w'.cell? ⟨gb596,0,none⟩ = some (.int .i64 a2_0) ∧ w'.cell? ⟨gb596,1,none⟩ = some (.int .i64 a2_1) ∧ w'.cell? ⟨gb596,2,none⟩ = some (.int .i64 a2_2) ∧ w'.cell? ⟨gb596,3,none⟩ = some (.int .i64 a2_3) ∧ w'.cell? ⟨gb596,4,none⟩ = some (.int .i64 a2_4) ∧ w'.cell? ⟨gb596,5,none⟩ = some (.int .i64 a2_5)) (ds := []) #[false,false,false,false,false,false,false,false] Z312 rfl rfl ⟨(blk_cell BK594.out 0).trans rfl,(blk_cell BK594.out 1).trans rfl,(blk_cell BK594.out 2).trans rfl,(blk_cell BK594.out 3).trans rfl,(blk_cell BK594.out 4).trans rfl,(blk_cell BK594.out 5).trans rfl,(blk_cell BK594.out 6).trans rfl,(blk_cell BK594.out 7).trans rfl,(blk_cell BK595.out 0).trans rfl,(blk_cell BK595.out 1).trans rfl,(blk_cell BK596.out 0).trans rfl,(blk_cell BK596.out 1).trans rfl,(blk_cell BK596.out 2).trans rfl,(blk_cell BK596.out 3).trans rfl,(blk_cell BK596.out 4).trans rfl,(blk_cell BK596.out 5).trans rfl⟩ (fun hHeld => ?_);refine with_tabW laws_FnExactMayPart.tab5 laws_FnExactMayPart.bits5 (fun HT_ HW_ => ?_)
    generalize w31.drew = w32 at BK594 BK595 BK596 HB hHeld ⊢
    refine take_ (i := 0) (N := some 16) (v := ?_) (a' := ?_) #[true,false,false,false,false,false,false,false] rfl rfl (take_ofW HT_.out HW_.out Z312) (fun _ _ _ h => h) (Or.inl ⟨Z314,?_⟩) hHeld ?_ ?_
    rotate_left
    ·rintro w' ⟨s0,s1,s2,s3,s4,s5,s6,s7,s8,s9,s10,s11,s12,s13,s14,s15⟩
     go_simp
     with_reducible rfl
    rotate_left
    ·simp only [Act.put,List.setIfInBounds_toArray,List.set_cons_zero,List.set_cons_succ,i64_w,i32_w]
     rfl
    refine take_ (i := 2) (N := some 18) (v := ?_) (a' := ?_) #[true,false,true,false,false,false,false,false] rfl rfl (take_ofW HT_.out HW_.out Z312) (fun _ _ _ h => h) (Or.inl ⟨Z314,?_⟩) hHeld ?_ ?_
    rotate_left
    ·rintro w' ⟨s0,s1,s2,s3,s4,s5,s6,s7,s8,s9,s10,s11,s12,s13,s14,s15⟩
     go_simp
     with_reducible rfl
    rotate_left
    ·simp only [Act.put,List.setIfInBounds_toArray,List.set_cons_zero,List.set_cons_succ,i64_w,i32_w]
     rfl
    refine take_ (i := 4) (N := some 20) (v := ?_) (a' := ?_) #[true,false,true,false,true,false,false,false] rfl rfl (take_ofW HT_.out HW_.out Z312) (fun _ _ _ h => h) (Or.inl ⟨Z314,?_⟩) hHeld ?_ ?_
    rotate_left
    ·rintro w' ⟨s0,s1,s2,s3,s4,s5,s6,s7,s8,s9,s10,s11,s12,s13,s14,s15⟩
     go_simp
     with_reducible rfl
    rotate_left
    ·simp only [Act.put,List.setIfInBounds_toArray,List.set_cons_zero,List.set_cons_succ,i64_w,i32_w]
     rfl
    refine one_ (i := 1) (N := some 17) #[true,true,true,false,true,false,false,false] rfl rfl (one_of HT_.out Z312) Z313 (fun K hK => ?_)
    refine goes_ Try.func8 Z312 rfl #[.agg #[.int .i64 a0_0,.int .i64 a0_1,.int .i64 a0_2,.int .i64 a0_3,.int .i64 a0_4,.int .i64 a0_5,.int .i64 a0_6,.slice A0_7 l0_7.length c0_7]] Z314 rfl rfl Z256 ?_
    with_reducible refine (laws_toConfig.calls k a0_0 a0_1 a0_2 a0_3 a0_4 a0_5 a0_6 _ _ l0_7 t598 t599 t600 t601 t602 t603 t604 t605 _ ?side1 ?side2 A13.out).mono ?_
    (case side1 => exact Z224)
    (case side2 => exact Z311)
    rintro e w33 ⟨v606,rfl,ho0,hb⟩
    refine ⟨_,rfl,?_⟩
    have n0_ := Aside0.mk (Kd.R_lower ho0 (below_size Z353))
    have n1_ := Aside0.mk (blk_below (g := gb594) (o := .cells #[.int .i64 a0_0,.int .i64 a0_1,.int .i64 a0_2,.int .i64 a0_3,.int .i64 a0_4,.int .i64 a0_5,.int .i64 a0_6,.slice A0_7 l0_7.length c0_7] 24 (0,0)) Z615 hb)
    have n2_ := Aside0.mk (blk_below (g := gb595) (o := .cells #[.int .i64 a1_0,.int .i64 a1_1] 26 (0,0)) Z616 hb)
    have n3_ := Aside0.mk (blk_below (g := gb596) (o := .cells #[.int .i64 a2_0,.int .i64 a2_1,.int .i64 a2_2,.int .i64 a2_3,.int .i64 a2_4,.int .i64 a2_5] 30 (0,0)) Z518 hb)
    have n4_ := Aside0.mk (below_step Z353 hb)
    clear BK594
    clear BK595
    clear BK596
    clear HB
    have HO607 := n0_
    have BK594 := n1_
    have BK595 := n2_
    have BK596 := n3_
    have HB := n4_
    clear n0_ n1_ n2_ n3_ n4_
    (try clear hb)
    (try clear hb2)
    (try clear hk)
    (try clear hi)
    (try clear ho0)
    refine hK.out _ _ ⟨(blk_cell BK594.out 0).trans rfl,(blk_cell BK594.out 1).trans rfl,(blk_cell BK594.out 2).trans rfl,(blk_cell BK594.out 3).trans rfl,(blk_cell BK594.out 4).trans rfl,(blk_cell BK594.out 5).trans rfl,(blk_cell BK594.out 6).trans rfl,(blk_cell BK594.out 7).trans rfl,(blk_cell BK595.out 0).trans rfl,(blk_cell BK595.out 1).trans rfl,(blk_cell BK596.out 0).trans rfl,(blk_cell BK596.out 1).trans rfl,(blk_cell BK596.out 2).trans rfl,(blk_cell BK596.out 3).trans rfl,(blk_cell BK596.out 4).trans rfl,(blk_cell BK596.out 5).trans rfl⟩ (fun hHeld => ?_)
    clear hK K
    refine norm_ (a' := ?_) ?_ ?_
    rotate_left
    ·show Act.put _ (some 17) _ = _
     simp only [Act.put,List.setIfInBounds_toArray,List.set_cons_zero,List.set_cons_succ,i64_w,i32_w]
     rfl
    refine one_ (i := 3) (N := some 19) #[true,true,true,true,true,false,false,false] rfl rfl (one_of HT_.out Z312) Z313 (fun K hK => ?_)
    refine goes_ Try.func9 Z312 rfl #[.agg #[.int .i64 a1_0,.int .i64 a1_1]] Z314 rfl rfl Z256 ?_
    with_reducible refine (laws_toBound.calls a1_0 a1_1 t608 t609 _ A14.out).mono ?_
    rintro e w34 ⟨rfl,hb⟩
    refine ⟨_,rfl,?_⟩
    have n0_ := Aside0.mk (Kd.R_below Z259 hb)
    have n1_ := Aside0.mk (blk_below (g := gb594) (o := .cells #[.int .i64 a0_0,.int .i64 a0_1,.int .i64 a0_2,.int .i64 a0_3,.int .i64 a0_4,.int .i64 a0_5,.int .i64 a0_6,.slice A0_7 l0_7.length c0_7] 24 (0,0)) Z615 hb)
    have n2_ := Aside0.mk (blk_below (g := gb595) (o := .cells #[.int .i64 a1_0,.int .i64 a1_1] 26 (0,0)) Z616 hb)
    have n3_ := Aside0.mk (blk_below (g := gb596) (o := .cells #[.int .i64 a2_0,.int .i64 a2_1,.int .i64 a2_2,.int .i64 a2_3,.int .i64 a2_4,.int .i64 a2_5] 30 (0,0)) Z518 hb)
    have n4_ := Aside0.mk (below_step Z353 hb)
    clear HO607
    clear BK594
    clear BK595
    clear BK596
    clear HB
    have HO607 := n0_
    have BK594 := n1_
    have BK595 := n2_
    have BK596 := n3_
    have HB := n4_
    clear n0_ n1_ n2_ n3_ n4_
    (try clear hb)
    (try clear hb2)
    (try clear hk)
    (try clear hi)
    refine hK.out _ _ ⟨(blk_cell BK594.out 0).trans rfl,(blk_cell BK594.out 1).trans rfl,(blk_cell BK594.out 2).trans rfl,(blk_cell BK594.out 3).trans rfl,(blk_cell BK594.out 4).trans rfl,(blk_cell BK594.out 5).trans rfl,(blk_cell BK594.out 6).trans rfl,(blk_cell BK594.out 7).trans rfl,(blk_cell BK595.out 0).trans rfl,(blk_cell BK595.out 1).trans rfl,(blk_cell BK596.out 0).trans rfl,(blk_cell BK596.out 1).trans rfl,(blk_cell BK596.out 2).trans rfl,(blk_cell BK596.out 3).trans rfl,(blk_cell BK596.out 4).trans rfl,(blk_cell BK596.out 5).trans rfl⟩ (fun hHeld => ?_)
    clear hK K
    refine norm_ (a' := ?_) ?_ ?_
    rotate_left
    ·show Act.put _ (some 19) _ = _
     simp only [Act.put,List.setIfInBounds_toArray,List.set_cons_zero,List.set_cons_succ,i64_w,i32_w]
     rfl
    refine one_ (i := 5) (N := some 21) #[true,true,true,true,true,true,false,false] rfl rfl (one_of HT_.out Z312) Z313 (fun K hK => ?_)
    refine goes_ Try.func10 Z312 rfl #[.agg #[.int .i64 a2_0,.int .i64 a2_1,.int .i64 a2_2,.int .i64 a2_3,.int .i64 a2_4,.int .i64 a2_5]] Z314 rfl rfl Z256 ?_
    with_reducible refine (laws_toCand.calls a2_0 a2_1 a2_2 a2_3 a2_4 a2_5 t610 t611 t612 t613 t614 t615 _ A15.out).mono ?_
    rintro e w35 ⟨rfl,hb⟩
    refine ⟨_,rfl,?_⟩
    have n0_ := Aside0.mk (Kd.R_below Z259 hb)
    have n1_ := Aside0.mk (blk_below (g := gb594) (o := .cells #[.int .i64 a0_0,.int .i64 a0_1,.int .i64 a0_2,.int .i64 a0_3,.int .i64 a0_4,.int .i64 a0_5,.int .i64 a0_6,.slice A0_7 l0_7.length c0_7] 24 (0,0)) Z615 hb)
    have n2_ := Aside0.mk (blk_below (g := gb595) (o := .cells #[.int .i64 a1_0,.int .i64 a1_1] 26 (0,0)) Z616 hb)
    have n3_ := Aside0.mk (blk_below (g := gb596) (o := .cells #[.int .i64 a2_0,.int .i64 a2_1,.int .i64 a2_2,.int .i64 a2_3,.int .i64 a2_4,.int .i64 a2_5] 30 (0,0)) Z518 hb)
    have n4_ := Aside0.mk (below_step Z353 hb)
    clear HO607
    clear BK594
    clear BK595
    clear BK596
    clear HB
    have HO607 := n0_
    have BK594 := n1_
    have BK595 := n2_
    have BK596 := n3_
    have HB := n4_
    clear n0_ n1_ n2_ n3_ n4_
    (try clear hb)
    (try clear hb2)
    (try clear hk)
    (try clear hi)
    obtain ⟨Ao36,co36,eo36⟩ := Kd.R_slice HO607.out
    (first | subst eo36 | (injection eo36 with f1_ f2_ f3_;have f4_ := f1_.symm;have f5_ := f3_.symm;clear f1_ f2_ f3_;subst f4_;subst f5_))
    refine hK.out _ _ ⟨(blk_cell BK594.out 0).trans rfl,(blk_cell BK594.out 1).trans rfl,(blk_cell BK594.out 2).trans rfl,(blk_cell BK594.out 3).trans rfl,(blk_cell BK594.out 4).trans rfl,(blk_cell BK594.out 5).trans rfl,(blk_cell BK594.out 6).trans rfl,(blk_cell BK594.out 7).trans rfl,(blk_cell BK595.out 0).trans rfl,(blk_cell BK595.out 1).trans rfl,(blk_cell BK596.out 0).trans rfl,(blk_cell BK596.out 1).trans rfl,(blk_cell BK596.out 2).trans rfl,(blk_cell BK596.out 3).trans rfl,(blk_cell BK596.out 4).trans rfl,(blk_cell BK596.out 5).trans rfl⟩ (fun hHeld => ?_)
    clear hK K
    refine norm_ (a' := ?_) ?_ ?_
    rotate_left
    ·show Act.put _ (some 21) _ = _
     simp only [Act.put,List.setIfInBounds_toArray,List.set_cons_zero,List.set_cons_succ,i64_w,i32_w]
     rfl
    refine one_ (i := 6) (N := some 22) #[true,true,true,true,true,true,true,false] rfl rfl (one_of HT_.out Z312) Z313 (fun K hK => ?_)
    refine goes_ Try.func7 Z312 rfl #[.agg #[.int .i64 t598,.int .i64 t599,.int .i64 t600,.int .i64 t601,.int .i64 t602,.int .i64 t603,.int .i64 t604,.slice Ao36 t605.length co36],.agg #[.int .i64 t608,.int .i64 t609],.agg #[.int .i64 t610,.int .i64 t611,.int .i64 t612,.int .i64 t613,.int .i64 t614,.int .i64 t615]] Z314 rfl rfl Z256 ?_
    with_reducible refine (spec_MayPart.calls k t598 t599 t600 t601 t602 t603 t604 _ _ t605 t608 t609 t610 t611 t612 t613 t614 t615 t616 _ ?side1 ?side2 A16.out).mono ?_
    (case side1 => repeat (first | exact (Kd.R_reads' HO607.out).2.2 | (with_reducible refine Kd.C_alloc ?_ _) | (with_reducible refine Kd.C_drewN ?_ _) | (with_reducible refine Kd.C_drew ?_)))
    (case side2 => exact (Kd.R_reads' HO607.out).2.1)
    rintro e w37 ⟨rfl,hb⟩
    refine ⟨_,rfl,?_⟩
    have n0_ := Aside0.mk (Kd.R_below Z259 hb)
    have n1_ := Aside0.mk (blk_below (g := gb594) (o := .cells #[.int .i64 a0_0,.int .i64 a0_1,.int .i64 a0_2,.int .i64 a0_3,.int .i64 a0_4,.int .i64 a0_5,.int .i64 a0_6,.slice A0_7 l0_7.length c0_7] 24 (0,0)) Z615 hb)
    have n2_ := Aside0.mk (blk_below (g := gb595) (o := .cells #[.int .i64 a1_0,.int .i64 a1_1] 26 (0,0)) Z616 hb)
    have n3_ := Aside0.mk (blk_below (g := gb596) (o := .cells #[.int .i64 a2_0,.int .i64 a2_1,.int .i64 a2_2,.int .i64 a2_3,.int .i64 a2_4,.int .i64 a2_5] 30 (0,0)) Z518 hb)
    have n4_ := Aside0.mk (below_step Z353 hb)
    clear HO607
    clear BK594
    clear BK595
    clear BK596
    clear HB
    have HO607 := n0_
    have BK594 := n1_
    have BK595 := n2_
    have BK596 := n3_
    have HB := n4_
    clear n0_ n1_ n2_ n3_ n4_
    (try clear hb)
    (try clear hb2)
    (try clear hk)
    (try clear hi)
    refine hK.out _ _ ⟨(blk_cell BK594.out 0).trans rfl,(blk_cell BK594.out 1).trans rfl,(blk_cell BK594.out 2).trans rfl,(blk_cell BK594.out 3).trans rfl,(blk_cell BK594.out 4).trans rfl,(blk_cell BK594.out 5).trans rfl,(blk_cell BK594.out 6).trans rfl,(blk_cell BK594.out 7).trans rfl,(blk_cell BK595.out 0).trans rfl,(blk_cell BK595.out 1).trans rfl,(blk_cell BK596.out 0).trans rfl,(blk_cell BK596.out 1).trans rfl,(blk_cell BK596.out 2).trans rfl,(blk_cell BK596.out 3).trans rfl,(blk_cell BK596.out 4).trans rfl,(blk_cell BK596.out 5).trans rfl⟩ (fun hHeld => ?_)
    clear hK K
    refine norm_ (a' := ?_) ?_ ?_
    rotate_left
    ·show Act.put _ (some 22) _ = _
     simp only [Act.put,List.setIfInBounds_toArray,List.set_cons_zero,List.set_cons_succ,i64_w,i32_w]
     rfl
    refine pure_ (i := 7) (N := some 8) (v := ?_) (a' := ?_) #[true,true,true,true,true,true,true,true] rfl rfl (any_of HT_.out Z312) (fun _ _ _ h => h) (Or.inl ⟨Z314,?_⟩) ?_ ?_
    rotate_left
    ·intro w'
     go_simp
     with_reducible rfl
    rotate_left
    ·simp only [Act.put,List.setIfInBounds_toArray,List.set_cons_zero,List.set_cons_succ,i64_w,i32_w]
     rfl
    refine done_ (done_of HT_.out Z312) ?_
    obtain ⟨hcz38_0,hcz38_1,hcz38_2,hcz38_3,hcz38_4,hcz38_5,hcz38_6,hcz38_7,hfz38_0,hfz38_1,hfz38_2,hfz38_3,hfz38_4,hfz38_5,hfz38_6,hfz38_7⟩ := cells8 BK594.out
    try go_wp2_with (first | ((with_reducible refine gate_callee (f := 8) rfl ?_);refine goesL_ (some 24) rfl rfl Try.func8 Z312 rfl #[.agg #[.int .i64 a0_0,.int .i64 a0_1,.int .i64 a0_2,.int .i64 a0_3,.int .i64 a0_4,.int .i64 a0_5,.int .i64 a0_6,.slice A0_7 l0_7.length c0_7]] rfl Z256 ?_;(with_reducible refine (laws_toConfig.calls k a0_0 a0_1 a0_2 a0_3 a0_4 a0_5 a0_6 _ _ l0_7 t617 t618 t619 t620 t621 t622 t623 t624 _ ?side1 ?side2 A17.out).mono ?_);(case side1 => exact Z224);(case side2 => exact Z311);rintro e w39 ⟨v625,rfl,ho0,hb⟩;refine ⟨_,rfl,?_⟩;have n_ := jA (Kd.R_elder' Z259 (Kd.R_base ho0) hb) (jA (Kd.R_lower (Kd.R_new' ho0 (Kd.R_lt Z259)) (below_size Z353)) (jA (blk_below (g := gb594) (o := .cells #[.int .i64 a0_0,.int .i64 a0_1,.int .i64 a0_2,.int .i64 a0_3,.int .i64 a0_4,.int .i64 a0_5,.int .i64 a0_6,.slice A0_7 l0_7.length c0_7] 24 (0,0)) Z615 hb) (jA (blk_below (g := gb595) (o := .cells #[.int .i64 a1_0,.int .i64 a1_1] 26 (0,0)) Z616 hb) (jA (blk_below (g := gb596) (o := .cells #[.int .i64 a2_0,.int .i64 a2_1,.int .i64 a2_2,.int .i64 a2_3,.int .i64 a2_4,.int .i64 a2_5] 30 (0,0)) Z518 hb) (Aside0.mk (below_step Z353 hb))))));clear HO607 BK594 BK595 BK596 HB;obtain ⟨HO607,HO626,BK594,BK595,BK596,HB⟩ := n_;(try clear hb);(try clear hb2);(try clear hk);(try clear hi);(try clear ho0)) | ((with_reducible refine gate_dst (N := 9) rfl ?_);refine bE 9 #[.int .i64 0,.int .i64 0,.int .i64 0,.int .i64 0,.int .i64 0,.int .i64 0,.int .i64 0,.slice none 0 0] 33 (h := ?_);intro gb627 hg w40 hbox hb;have n_ := jA (Kd.R_below Z259 hb) (jA (Kd.R_below Z260 hb) (jA (blk_below (g := gb594) (o := .cells #[.int .i64 a0_0,.int .i64 a0_1,.int .i64 a0_2,.int .i64 a0_3,.int .i64 a0_4,.int .i64 a0_5,.int .i64 a0_6,.slice A0_7 l0_7.length c0_7] 24 (0,0)) Z615 hb) (jA (blk_below (g := gb595) (o := .cells #[.int .i64 a1_0,.int .i64 a1_1] 26 (0,0)) Z616 hb) (jA (blk_below (g := gb596) (o := .cells #[.int .i64 a2_0,.int .i64 a2_1,.int .i64 a2_2,.int .i64 a2_3,.int .i64 a2_4,.int .i64 a2_5] 30 (0,0)) Z518 hb) (jA (below_step Z353 hb) (jA (hbox) (jA ((Z172 : w.heap.size ≤ gb627)) (jA ((Z172 : w.heap.size ≤ gb627)) (jA ((Z343 : gb594 ≠ gb627)) (jA ((Z344 : gb627 ≠ gb594)) (jA ((Z510 : gb595 ≠ gb627)) (jA ((Z514 : gb627 ≠ gb595)) (jA ((by rw [hg];exact Nat.ne_of_lt (blk_lt (g := gb596) (o := .cells #[.int .i64 a2_0,.int .i64 a2_1,.int .i64 a2_2,.int .i64 a2_3,.int .i64 a2_4,.int .i64 a2_5] 30 (0,0)) Z518) : gb596 ≠ gb627)) (Aside0.mk ((by rw [hg];exact Nat.ne_of_gt (blk_lt (g := gb596) (o := .cells #[.int .i64 a2_0,.int .i64 a2_1,.int .i64 a2_2,.int .i64 a2_3,.int .i64 a2_4,.int .i64 a2_5] 30 (0,0)) Z518) : gb627 ≠ gb596))))))))))))))));clear HO607 HO626 BK594 BK595 BK596 HB;obtain ⟨HO607,HO626,BK594,BK595,BK596,HB,BK627,GW627,GE627,NB594_627,NB627_594,NB595_627,NB627_595,NB596_627,NB627_596⟩ := n_;clear hb hbox hg;have hnb41 := NB627_594.out;have hnc41 := NB594_627.out;have hnb42 := NB627_595.out;have hnc42 := NB595_627.out;have hnb43 := NB627_596.out;have hnc43 := NB596_627.out;obtain ⟨hcz44_0,hcz44_1,hcz44_2,hcz44_3,hcz44_4,hcz44_5,hcz44_6,hcz44_7,hfz44_0,hfz44_1,hfz44_2,hfz44_3,hfz44_4,hfz44_5,hfz44_6,hfz44_7⟩ := cells8 BK627.out;obtain ⟨Ao45,co45,eo45⟩ := Kd.R_slice HO626.out;subst eo45))
    have n0_ : Aside0 (Kd.R (Kd.int .i64) 3 ((((((((w40.setCell ⟨gb627,0,none⟩ (.int .i64 t617)).setCell ⟨gb627,1,none⟩ (.int .i64 t618)).setCell ⟨gb627,2,none⟩ (.int .i64 t619)).setCell ⟨gb627,3,none⟩ (.int .i64 t620)).setCell ⟨gb627,4,none⟩ (.int .i64 t621)).setCell ⟨gb627,5,none⟩ (.int .i64 t622)).setCell ⟨gb627,6,none⟩ (.int .i64 t623)).setCell ⟨gb627,7,none⟩ (.slice Ao45 t624.length co45)) w.heap.size (fun k_ => some k_ ≠ (.slice Ao45 t624.length co45 : Value).ownBlock) (.slice Ao36 t605.length co36) t605) := ⟨by (with_reducible repeat (first | apply Kd.R_alloc | apply Kd.R_drewN | apply Kd.R_drew));exact Kd.R_mono (Kd.R_far (p := ⟨gb627,7,none⟩) (Kd.R_far (p := ⟨gb627,6,none⟩) (Kd.R_far (p := ⟨gb627,5,none⟩) (Kd.R_far (p := ⟨gb627,4,none⟩) (Kd.R_far (p := ⟨gb627,3,none⟩) (Kd.R_far (p := ⟨gb627,2,none⟩) (Kd.R_far (p := ⟨gb627,1,none⟩) (Kd.R_far (p := ⟨gb627,0,none⟩) (Kd.R_types HO607.out BK627.out Z313) (fun _ hk => hk.2) (.int .i64 t617)) (fun _ hk => hk.2) (.int .i64 t618)) (fun _ hk => hk.2) (.int .i64 t619)) (fun _ hk => hk.2) (.int .i64 t620)) (fun _ hk => hk.2) (.int .i64 t621)) (fun _ hk => hk.2) (.int .i64 t622)) (fun _ hk => hk.2) (.int .i64 t623)) (fun _ hk => hk.2) (.slice Ao45 t624.length co45)) (fun _ hk => hk.1.2)⟩
    have n1_ : Aside0 (Kd.R (Kd.int .i64) 3 ((((((((w40.setCell ⟨gb627,0,none⟩ (.int .i64 t617)).setCell ⟨gb627,1,none⟩ (.int .i64 t618)).setCell ⟨gb627,2,none⟩ (.int .i64 t619)).setCell ⟨gb627,3,none⟩ (.int .i64 t620)).setCell ⟨gb627,4,none⟩ (.int .i64 t621)).setCell ⟨gb627,5,none⟩ (.int .i64 t622)).setCell ⟨gb627,6,none⟩ (.int .i64 t623)).setCell ⟨gb627,7,none⟩ (.slice Ao45 t624.length co45)) w.heap.size (fun k_ => some k_ ≠ (.slice Ao36 t605.length co36 : Value).ownBlock) (.slice Ao45 t624.length co45) t624) := ⟨by (with_reducible repeat (first | apply Kd.R_alloc | apply Kd.R_drewN | apply Kd.R_drew));exact Kd.R_mono (Kd.R_far (p := ⟨gb627,7,none⟩) (Kd.R_far (p := ⟨gb627,6,none⟩) (Kd.R_far (p := ⟨gb627,5,none⟩) (Kd.R_far (p := ⟨gb627,4,none⟩) (Kd.R_far (p := ⟨gb627,3,none⟩) (Kd.R_far (p := ⟨gb627,2,none⟩) (Kd.R_far (p := ⟨gb627,1,none⟩) (Kd.R_far (p := ⟨gb627,0,none⟩) (Kd.R_types HO626.out BK627.out Z313) (fun _ hk => hk.2) (.int .i64 t617)) (fun _ hk => hk.2) (.int .i64 t618)) (fun _ hk => hk.2) (.int .i64 t619)) (fun _ hk => hk.2) (.int .i64 t620)) (fun _ hk => hk.2) (.int .i64 t621)) (fun _ hk => hk.2) (.int .i64 t622)) (fun _ hk => hk.2) (.int .i64 t623)) (fun _ hk => hk.2) (.slice Ao45 t624.length co45)) (fun _ hk => hk.1.2)⟩
    have n2_ : Aside0 (((((((((w40.setCell ⟨gb627,0,none⟩ (.int .i64 t617)).setCell ⟨gb627,1,none⟩ (.int .i64 t618)).setCell ⟨gb627,2,none⟩ (.int .i64 t619)).setCell ⟨gb627,3,none⟩ (.int .i64 t620)).setCell ⟨gb627,4,none⟩ (.int .i64 t621)).setCell ⟨gb627,5,none⟩ (.int .i64 t622)).setCell ⟨gb627,6,none⟩ (.int .i64 t623)).setCell ⟨gb627,7,none⟩ (.slice Ao45 t624.length co45)).heap[gb594]? = some (.cells #[.int .i64 a0_0,.int .i64 a0_1,.int .i64 a0_2,.int .i64 a0_3,.int .i64 a0_4,.int .i64 a0_5,.int .i64 a0_6,.slice A0_7 l0_7.length c0_7] 24 (0,0))) := ⟨by refine bP ?_;refine blk_far ?_ NB594_627.out _;refine bP ?_;refine blk_far ?_ NB594_627.out _;refine bP ?_;refine blk_far ?_ NB594_627.out _;refine bP ?_;refine blk_far ?_ NB594_627.out _;refine bP ?_;refine blk_far ?_ NB594_627.out _;refine bP ?_;refine blk_far ?_ NB594_627.out _;refine bP ?_;refine blk_far ?_ NB594_627.out _;refine bP ?_;refine blk_far ?_ NB594_627.out _;refine bP ?_;exact BK594.out⟩
    have n3_ : Aside0 (((((((((w40.setCell ⟨gb627,0,none⟩ (.int .i64 t617)).setCell ⟨gb627,1,none⟩ (.int .i64 t618)).setCell ⟨gb627,2,none⟩ (.int .i64 t619)).setCell ⟨gb627,3,none⟩ (.int .i64 t620)).setCell ⟨gb627,4,none⟩ (.int .i64 t621)).setCell ⟨gb627,5,none⟩ (.int .i64 t622)).setCell ⟨gb627,6,none⟩ (.int .i64 t623)).setCell ⟨gb627,7,none⟩ (.slice Ao45 t624.length co45)).heap[gb595]? = some (.cells #[.int .i64 a1_0,.int .i64 a1_1] 26 (0,0))) := ⟨by refine bP ?_;refine blk_far ?_ NB595_627.out _;refine bP ?_;refine blk_far ?_ NB595_627.out _;refine bP ?_;refine blk_far ?_ NB595_627.out _;refine bP ?_;refine blk_far ?_ NB595_627.out _;refine bP ?_;refine blk_far ?_ NB595_627.out _;refine bP ?_;refine blk_far ?_ NB595_627.out _;refine bP ?_;refine blk_far ?_ NB595_627.out _;refine bP ?_;refine blk_far ?_ NB595_627.out _;refine bP ?_;exact BK595.out⟩
    have n4_ : Aside0 (((((((((w40.setCell ⟨gb627,0,none⟩ (.int .i64 t617)).setCell ⟨gb627,1,none⟩ (.int .i64 t618)).setCell ⟨gb627,2,none⟩ (.int .i64 t619)).setCell ⟨gb627,3,none⟩ (.int .i64 t620)).setCell ⟨gb627,4,none⟩ (.int .i64 t621)).setCell ⟨gb627,5,none⟩ (.int .i64 t622)).setCell ⟨gb627,6,none⟩ (.int .i64 t623)).setCell ⟨gb627,7,none⟩ (.slice Ao45 t624.length co45)).heap[gb596]? = some (.cells #[.int .i64 a2_0,.int .i64 a2_1,.int .i64 a2_2,.int .i64 a2_3,.int .i64 a2_4,.int .i64 a2_5] 30 (0,0))) := ⟨by refine bP ?_;refine blk_far ?_ NB596_627.out _;refine bP ?_;refine blk_far ?_ NB596_627.out _;refine bP ?_;refine blk_far ?_ NB596_627.out _;refine bP ?_;refine blk_far ?_ NB596_627.out _;refine bP ?_;refine blk_far ?_ NB596_627.out _;refine bP ?_;refine blk_far ?_ NB596_627.out _;refine bP ?_;refine blk_far ?_ NB596_627.out _;refine bP ?_;refine blk_far ?_ NB596_627.out _;refine bP ?_;exact BK596.out⟩
    have n5_ : Aside0 (((((((((w40.setCell ⟨gb627,0,none⟩ (.int .i64 t617)).setCell ⟨gb627,1,none⟩ (.int .i64 t618)).setCell ⟨gb627,2,none⟩ (.int .i64 t619)).setCell ⟨gb627,3,none⟩ (.int .i64 t620)).setCell ⟨gb627,4,none⟩ (.int .i64 t621)).setCell ⟨gb627,5,none⟩ (.int .i64 t622)).setCell ⟨gb627,6,none⟩ (.int .i64 t623)).setCell ⟨gb627,7,none⟩ (.slice Ao45 t624.length co45)).heap[gb627]? = some (.cells #[.int .i64 t617,.int .i64 t618,.int .i64 t619,.int .i64 t620,.int .i64 t621,.int .i64 t622,.int .i64 t623,.slice Ao45 t624.length co45] 33 (0,0))) := ⟨by refine bP ?_;refine blk_put (cs := #[.int .i64 t617,.int .i64 t618,.int .i64 t619,.int .i64 t620,.int .i64 t621,.int .i64 t622,.int .i64 t623,.slice none 0 0]) ?_ 7 _ rfl;refine bP ?_;refine blk_put (cs := #[.int .i64 t617,.int .i64 t618,.int .i64 t619,.int .i64 t620,.int .i64 t621,.int .i64 t622,.int .i64 0,.slice none 0 0]) ?_ 6 _ rfl;refine bP ?_;refine blk_put (cs := #[.int .i64 t617,.int .i64 t618,.int .i64 t619,.int .i64 t620,.int .i64 t621,.int .i64 0,.int .i64 0,.slice none 0 0]) ?_ 5 _ rfl;refine bP ?_;refine blk_put (cs := #[.int .i64 t617,.int .i64 t618,.int .i64 t619,.int .i64 t620,.int .i64 0,.int .i64 0,.int .i64 0,.slice none 0 0]) ?_ 4 _ rfl;refine bP ?_;refine blk_put (cs := #[.int .i64 t617,.int .i64 t618,.int .i64 t619,.int .i64 0,.int .i64 0,.int .i64 0,.int .i64 0,.slice none 0 0]) ?_ 3 _ rfl;refine bP ?_;refine blk_put (cs := #[.int .i64 t617,.int .i64 t618,.int .i64 0,.int .i64 0,.int .i64 0,.int .i64 0,.int .i64 0,.slice none 0 0]) ?_ 2 _ rfl;refine bP ?_;refine blk_put (cs := #[.int .i64 t617,.int .i64 0,.int .i64 0,.int .i64 0,.int .i64 0,.int .i64 0,.int .i64 0,.slice none 0 0]) ?_ 1 _ rfl;refine bP ?_;refine blk_put (cs := #[.int .i64 0,.int .i64 0,.int .i64 0,.int .i64 0,.int .i64 0,.int .i64 0,.int .i64 0,.slice none 0 0]) ?_ 0 _ rfl;refine bP ?_;exact BK627.out⟩
    have n6_ : Aside0 (Below w.heap.size w ((((((((w40.setCell ⟨gb627,0,none⟩ (.int .i64 t617)).setCell ⟨gb627,1,none⟩ (.int .i64 t618)).setCell ⟨gb627,2,none⟩ (.int .i64 t619)).setCell ⟨gb627,3,none⟩ (.int .i64 t620)).setCell ⟨gb627,4,none⟩ (.int .i64 t621)).setCell ⟨gb627,5,none⟩ (.int .i64 t622)).setCell ⟨gb627,6,none⟩ (.int .i64 t623)).setCell ⟨gb627,7,none⟩ (.slice Ao45 t624.length co45))) := ⟨Z167⟩
    (try clear HO607)
    (try clear HO626)
    (try clear BK594)
    (try clear BK595)
    (try clear BK596)
    (try clear BK627)
    (try clear HB)
    generalize ((((((((w40.setCell ⟨gb627,0,none⟩ (.int .i64 t617)).setCell ⟨gb627,1,none⟩ (.int .i64 t618)).setCell ⟨gb627,2,none⟩ (.int .i64 t619)).setCell ⟨gb627,3,none⟩ (.int .i64 t620)).setCell ⟨gb627,4,none⟩ (.int .i64 t621)).setCell ⟨gb627,5,none⟩ (.int .i64 t622)).setCell ⟨gb627,6,none⟩ (.int .i64 t623)).setCell ⟨gb627,7,none⟩ (.slice Ao45 t624.length co45)) = w46 at n0_ n1_ n2_ n3_ n4_ n5_ n6_ ⊢
    have HO607 := n0_
    have HO626 := n1_
    have BK594 := n2_
    have BK595 := n3_
    have BK596 := n4_
    have BK627 := n5_
    have HB := n6_
    clear n0_ n1_ n2_ n3_ n4_ n5_ n6_
    have n0_ := Aside0.mk (Kd.R_drew HO607.out)
    have n1_ := Aside0.mk (Kd.R_drew HO626.out)
    have n2_ := Aside0.mk (blk_drew BK594.out)
    have n3_ := Aside0.mk (blk_drew BK595.out)
    have n4_ := Aside0.mk (blk_drew BK596.out)
    have n5_ := Aside0.mk (blk_drew BK627.out)
    have n6_ := Aside0.mk (below_drew1 HB.out)
    clear HO607
    clear HO626
    clear BK594
    clear BK595
    clear BK596
    clear BK627
    clear HB
    have HO607 := n0_
    have HO626 := n1_
    have BK594 := n2_
    have BK595 := n3_
    have BK596 := n4_
    have BK627 := n5_
    have HB := n6_
    clear n0_ n1_ n2_ n3_ n4_ n5_ n6_
    refine start_ (n := 7) (S := fun w' => w'.cell? ⟨gb627,0,none⟩ = some (.int .i64 t617) ∧ w'.cell? ⟨gb627,1,none⟩ = some (.int .i64 t618) ∧ w'.cell? ⟨gb627,2,none⟩ = some (.int .i64 t619) ∧ w'.cell? ⟨gb627,3,none⟩ = some (.int .i64 t620) ∧ w'.cell? ⟨gb627,4,none⟩ = some (.int .i64 t621) ∧ w'.cell? ⟨gb627,5,none⟩ = some (.int .i64 t622) ∧ w'.cell? ⟨gb627,6,none⟩ = some (.int .i64 t623) ∧ w'.cell? ⟨gb627,7,none⟩ = some (.slice Ao45 t624.length co45) ∧ w'.cell? ⟨gb595,0,none⟩ = some (.int .i64 a1_0) ∧ w'.cell? ⟨gb595,1,none⟩ = some (.int .i64 a1_1) ∧ w'.cell? ⟨gb596,0,none⟩ = some (.int .i64 a2_0) ∧ w'.cell? ⟨gb596,1,none⟩ = some (.int .i64 a2_1) ∧ w'.cell? ⟨gb596,2,none⟩ = some (.int .i64 a2_2) ∧ w'.cell? ⟨gb596,3,none⟩ = some (.int .i64 a2_3) ∧ w'.cell? ⟨gb596,4,none⟩ = some (.int .i64 a2_4) ∧ w'.cell? ⟨gb596,5,none⟩ = some (.int .i64 a2_5)) (ds := []) #[false,false,false,false,false,false,false] Z312 rfl rfl ⟨(blk_cell BK627.out 0).trans rfl,(blk_cell BK627.out 1).trans rfl,(blk_cell BK627.out 2).trans rfl,(blk_cell BK627.out 3).trans rfl,(blk_cell BK627.out 4).trans rfl,(blk_cell BK627.out 5).trans rfl,(blk_cell BK627.out 6).trans rfl,(blk_cell BK627.out 7).trans rfl,(blk_cell BK595.out 0).trans rfl,(blk_cell BK595.out 1).trans rfl,(blk_cell BK596.out 0).trans rfl,(blk_cell BK596.out 1).trans rfl,(blk_cell BK596.out 2).trans rfl,(blk_cell BK596.out 3).trans rfl,(blk_cell BK596.out 4).trans rfl,(blk_cell BK596.out 5).trans rfl⟩ (fun hHeld => ?_)
    generalize w46.drew = w47 at HO607 HO626 BK594 BK595 BK596 BK627 HB hHeld ⊢
    refine take_ (i := 0) (N := some 25) (v := ?_) (a' := ?_) #[true,false,false,false,false,false,false] rfl rfl Z312 (fun _ _ _ h => h) (Or.inl ⟨Z314,?_⟩) hHeld ?_ ?_
    rotate_left
    ·rintro w' ⟨s0,s1,s2,s3,s4,s5,s6,s7,s8,s9,s10,s11,s12,s13,s14,s15⟩
     go_simp
     with_reducible rfl
    rotate_left
    ·simp only [Act.put,List.setIfInBounds_toArray,List.set_cons_zero,List.set_cons_succ,i64_w,i32_w]
     rfl
    refine take_ (i := 1) (N := some 26) (v := ?_) (a' := ?_) #[true,true,false,false,false,false,false] rfl rfl Z312 (fun _ _ _ h => h) (Or.inl ⟨Z314,?_⟩) hHeld ?_ ?_
    rotate_left
    ·rintro w' ⟨s0,s1,s2,s3,s4,s5,s6,s7,s8,s9,s10,s11,s12,s13,s14,s15⟩
     go_simp
     with_reducible rfl
    rotate_left
    ·simp only [Act.put,List.setIfInBounds_toArray,List.set_cons_zero,List.set_cons_succ,i64_w,i32_w]
     rfl
    refine take_ (i := 3) (N := some 28) (v := ?_) (a' := ?_) #[true,true,false,true,false,false,false] rfl rfl Z312 (fun _ _ _ h => h) (Or.inl ⟨Z314,?_⟩) hHeld ?_ ?_
    rotate_left
    ·rintro w' ⟨s0,s1,s2,s3,s4,s5,s6,s7,s8,s9,s10,s11,s12,s13,s14,s15⟩
     go_simp
     with_reducible rfl
    rotate_left
    ·simp only [Act.put,List.setIfInBounds_toArray,List.set_cons_zero,List.set_cons_succ,i64_w,i32_w]
     rfl
    refine one_ (i := 2) (N := some 27) #[true,true,true,true,false,false,false] rfl rfl Z312 Z313 (fun K hK => ?_)
    refine goes_ Try.func9 Z312 rfl #[.agg #[.int .i64 a1_0,.int .i64 a1_1]] Z314 rfl rfl Z256 ?_
    with_reducible refine (laws_toBound.calls a1_0 a1_1 t628 t629 _ A18.out).mono ?_
    rintro e w48 ⟨rfl,hb⟩
    refine ⟨_,rfl,?_⟩
    have n0_ := Aside0.mk (Kd.R_below Z259 hb)
    have n1_ := Aside0.mk (Kd.R_below Z260 hb)
    have n2_ := Aside0.mk (blk_below (g := gb594) (o := .cells #[.int .i64 a0_0,.int .i64 a0_1,.int .i64 a0_2,.int .i64 a0_3,.int .i64 a0_4,.int .i64 a0_5,.int .i64 a0_6,.slice A0_7 l0_7.length c0_7] 24 (0,0)) Z615 hb)
    have n3_ := Aside0.mk (blk_below (g := gb595) (o := .cells #[.int .i64 a1_0,.int .i64 a1_1] 26 (0,0)) Z616 hb)
    have n4_ := Aside0.mk (blk_below (g := gb596) (o := .cells #[.int .i64 a2_0,.int .i64 a2_1,.int .i64 a2_2,.int .i64 a2_3,.int .i64 a2_4,.int .i64 a2_5] 30 (0,0)) Z518 hb)
    have n5_ := Aside0.mk (blk_below (g := gb627) (o := .cells #[.int .i64 t617,.int .i64 t618,.int .i64 t619,.int .i64 t620,.int .i64 t621,.int .i64 t622,.int .i64 t623,.slice Ao45 t624.length co45] 33 (0,0)) Z298 hb)
    have n6_ := Aside0.mk (below_step Z167 hb)
    clear HO607
    clear HO626
    clear BK594
    clear BK595
    clear BK596
    clear BK627
    clear HB
    have HO607 := n0_
    have HO626 := n1_
    have BK594 := n2_
    have BK595 := n3_
    have BK596 := n4_
    have BK627 := n5_
    have HB := n6_
    clear n0_ n1_ n2_ n3_ n4_ n5_ n6_
    (try clear hb)
    (try clear hb2)
    (try clear hk)
    (try clear hi)
    refine hK.out _ _ ⟨(blk_cell BK627.out 0).trans rfl,(blk_cell BK627.out 1).trans rfl,(blk_cell BK627.out 2).trans rfl,(blk_cell BK627.out 3).trans rfl,(blk_cell BK627.out 4).trans rfl,(blk_cell BK627.out 5).trans rfl,(blk_cell BK627.out 6).trans rfl,(blk_cell BK627.out 7).trans rfl,(blk_cell BK595.out 0).trans rfl,(blk_cell BK595.out 1).trans rfl,(blk_cell BK596.out 0).trans rfl,(blk_cell BK596.out 1).trans rfl,(blk_cell BK596.out 2).trans rfl,(blk_cell BK596.out 3).trans rfl,(blk_cell BK596.out 4).trans rfl,(blk_cell BK596.out 5).trans rfl⟩ (fun hHeld => ?_)
    clear hK K
    refine norm_ (a' := ?_) ?_ ?_
    rotate_left
    ·show Act.put _ (some 27) _ = _
     simp only [Act.put,List.setIfInBounds_toArray,List.set_cons_zero,List.set_cons_succ,i64_w,i32_w]
     rfl
    refine one_ (i := 4) (N := some 29) #[true,true,true,true,true,false,false] rfl rfl Z312 Z313 (fun K hK => ?_)
    refine goes_ Try.func10 Z312 rfl #[.agg #[.int .i64 a2_0,.int .i64 a2_1,.int .i64 a2_2,.int .i64 a2_3,.int .i64 a2_4,.int .i64 a2_5]] Z314 rfl rfl Z256 ?_
    with_reducible refine (laws_toCand.calls a2_0 a2_1 a2_2 a2_3 a2_4 a2_5 t630 t631 t632 t633 t634 t635 _ A19.out).mono ?_
    rintro e w49 ⟨rfl,hb⟩
    refine ⟨_,rfl,?_⟩
    have n0_ := Aside0.mk (Kd.R_below Z259 hb)
    have n1_ := Aside0.mk (Kd.R_below Z260 hb)
    have n2_ := Aside0.mk (blk_below (g := gb594) (o := .cells #[.int .i64 a0_0,.int .i64 a0_1,.int .i64 a0_2,.int .i64 a0_3,.int .i64 a0_4,.int .i64 a0_5,.int .i64 a0_6,.slice A0_7 l0_7.length c0_7] 24 (0,0)) Z615 hb)
    have n3_ := Aside0.mk (blk_below (g := gb595) (o := .cells #[.int .i64 a1_0,.int .i64 a1_1] 26 (0,0)) Z616 hb)
    have n4_ := Aside0.mk (blk_below (g := gb596) (o := .cells #[.int .i64 a2_0,.int .i64 a2_1,.int .i64 a2_2,.int .i64 a2_3,.int .i64 a2_4,.int .i64 a2_5] 30 (0,0)) Z518 hb)
    have n5_ := Aside0.mk (blk_below (g := gb627) (o := .cells #[.int .i64 t617,.int .i64 t618,.int .i64 t619,.int .i64 t620,.int .i64 t621,.int .i64 t622,.int .i64 t623,.slice Ao45 t624.length co45] 33 (0,0)) Z298 hb)
    have n6_ := Aside0.mk (below_step Z167 hb)
    clear HO607
    clear HO626
    clear BK594
    clear BK595
    clear BK596
    clear BK627
    clear HB
    have HO607 := n0_
    have HO626 := n1_
    have BK594 := n2_
    have BK595 := n3_
    have BK596 := n4_
    have BK627 := n5_
    have HB := n6_
    clear n0_ n1_ n2_ n3_ n4_ n5_ n6_
    (try clear hb)
    (try clear hb2)
    (try clear hk)
    (try clear hi)
    refine hK.out _ _ ⟨(blk_cell BK627.out 0).trans rfl,(blk_cell BK627.out 1).trans rfl,(blk_cell BK627.out 2).trans rfl,(blk_cell BK627.out 3).trans rfl,(blk_cell BK627.out 4).trans rfl,(blk_cell BK627.out 5).trans rfl,(blk_cell BK627.out 6).trans rfl,(blk_cell BK627.out 7).trans rfl,(blk_cell BK595.out 0).trans rfl,(blk_cell BK595.out 1).trans rfl,(blk_cell BK596.out 0).trans rfl,(blk_cell BK596.out 1).trans rfl,(blk_cell BK596.out 2).trans rfl,(blk_cell BK596.out 3).trans rfl,(blk_cell BK596.out 4).trans rfl,(blk_cell BK596.out 5).trans rfl⟩ (fun hHeld => ?_)
    clear hK K
    refine norm_ (a' := ?_) ?_ ?_
    rotate_left
    ·show Act.put _ (some 29) _ = _
     simp only [Act.put,List.setIfInBounds_toArray,List.set_cons_zero,List.set_cons_succ,i64_w,i32_w]
     rfl
    refine one_ (i := 5) (N := some 30) #[true,true,true,true,true,true,false] rfl rfl Z312 Z313 (fun K hK => ?_)
    refine goes_ Try.func11 Z312 rfl #[.agg #[.int .i64 t617,.int .i64 t618,.int .i64 t619,.int .i64 t620,.int .i64 t621,.int .i64 t622,.int .i64 t623,.slice Ao45 t624.length co45],.agg #[.int .i64 t628,.int .i64 t629],.agg #[.int .i64 t630,.int .i64 t631,.int .i64 t632,.int .i64 t633,.int .i64 t634,.int .i64 t635]] Z314 rfl rfl Z256 ?_
    with_reducible refine (impl_MayPart.calls k t617 t618 t619 t620 t621 t622 t623 _ _ t624 t628 t629 t630 t631 t632 t633 t634 t635 t636 _ ?side1 ?side2 A20.out).mono ?_
    (case side1 => exact Z226)
    (case side2 => exact (Kd.R_reads' HO626.out).2.1)
    rintro e w50 ⟨rfl,hb⟩
    refine ⟨_,rfl,?_⟩
    have n0_ := Aside0.mk (Kd.R_below Z259 hb)
    have n1_ := Aside0.mk (Kd.R_below Z260 hb)
    have n2_ := Aside0.mk (blk_below (g := gb594) (o := .cells #[.int .i64 a0_0,.int .i64 a0_1,.int .i64 a0_2,.int .i64 a0_3,.int .i64 a0_4,.int .i64 a0_5,.int .i64 a0_6,.slice A0_7 l0_7.length c0_7] 24 (0,0)) Z615 hb)
    have n3_ := Aside0.mk (blk_below (g := gb595) (o := .cells #[.int .i64 a1_0,.int .i64 a1_1] 26 (0,0)) Z616 hb)
    have n4_ := Aside0.mk (blk_below (g := gb596) (o := .cells #[.int .i64 a2_0,.int .i64 a2_1,.int .i64 a2_2,.int .i64 a2_3,.int .i64 a2_4,.int .i64 a2_5] 30 (0,0)) Z518 hb)
    have n5_ := Aside0.mk (blk_below (g := gb627) (o := .cells #[.int .i64 t617,.int .i64 t618,.int .i64 t619,.int .i64 t620,.int .i64 t621,.int .i64 t622,.int .i64 t623,.slice Ao45 t624.length co45] 33 (0,0)) Z298 hb)
    have n6_ := Aside0.mk (below_step Z167 hb)
    clear HO607
    clear HO626
    clear BK594
    clear BK595
    clear BK596
    clear BK627
    clear HB
    have HO607 := n0_
    have HO626 := n1_
    have BK594 := n2_
    have BK595 := n3_
    have BK596 := n4_
    have BK627 := n5_
    have HB := n6_
    clear n0_ n1_ n2_ n3_ n4_ n5_ n6_
    (try clear hb)
    (try clear hb2)
    (try clear hk)
    (try clear hi)
    refine hK.out _ _ ⟨(blk_cell BK627.out 0).trans rfl,(blk_cell BK627.out 1).trans rfl,(blk_cell BK627.out 2).trans rfl,(blk_cell BK627.out 3).trans rfl,(blk_cell BK627.out 4).trans rfl,(blk_cell BK627.out 5).trans rfl,(blk_cell BK627.out 6).trans rfl,(blk_cell BK627.out 7).trans rfl,(blk_cell BK595.out 0).trans rfl,(blk_cell BK595.out 1).trans rfl,(blk_cell BK596.out 0).trans rfl,(blk_cell BK596.out 1).trans rfl,(blk_cell BK596.out 2).trans rfl,(blk_cell BK596.out 3).trans rfl,(blk_cell BK596.out 4).trans rfl,(blk_cell BK596.out 5).trans rfl⟩ (fun hHeld => ?_)
    clear hK K
    refine norm_ (a' := ?_) ?_ ?_
    rotate_left
    ·show Act.put _ (some 30) _ = _
     simp only [Act.put,List.setIfInBounds_toArray,List.set_cons_zero,List.set_cons_succ,i64_w,i32_w]
     rfl
    refine pure_ (i := 6) (N := some 10) (v := ?_) (a' := ?_) #[true,true,true,true,true,true,true] rfl rfl Z312 (fun _ _ _ h => h) (Or.inl ⟨Z314,?_⟩) ?_ ?_
    rotate_left
    ·intro w'
     go_simp
     with_reducible rfl
    rotate_left
    ·simp only [Act.put,List.setIfInBounds_toArray,List.set_cons_zero,List.set_cons_succ,i64_w,i32_w]
     rfl
    refine done_ Z312 ?_
    try go_wp2
    have n0_ := Aside0.mk (Kd.R_drew HO607.out)
    have n1_ := Aside0.mk (Kd.R_drew HO626.out)
    have n2_ := Aside0.mk (blk_drew BK594.out)
    have n3_ := Aside0.mk (blk_drew BK595.out)
    have n4_ := Aside0.mk (blk_drew BK596.out)
    have n5_ := Aside0.mk (blk_drew BK627.out)
    have n6_ := Aside0.mk (below_drew1 HB.out)
    clear HO607
    clear HO626
    clear BK594
    clear BK595
    clear BK596
    clear BK627
    clear HB
    have HO607 := n0_
    have HO626 := n1_
    have BK594 := n2_
    have BK595 := n3_
    have BK596 := n4_
    have BK627 := n5_
    have HB := n6_
    clear n0_ n1_ n2_ n3_ n4_ n5_ n6_
    refine start_ (n := 5) (S := fun w' => w'.cell? ⟨gb627,0,none⟩ = some (.int .i64 t617) ∧ w'.cell? ⟨gb627,1,none⟩ = some (.int .i64 t618) ∧ w'.cell? ⟨gb627,2,none⟩ = some (.int .i64 t619) ∧ w'.cell? ⟨gb627,3,none⟩ = some (.int .i64 t620) ∧ w'.cell? ⟨gb627,4,none⟩ = some (.int .i64 t621) ∧ w'.cell? ⟨gb627,5,none⟩ = some (.int .i64 t622) ∧ w'.cell? ⟨gb627,6,none⟩ = some (.int .i64 t623) ∧ w'.cell? ⟨gb627,7,none⟩ = some (.slice Ao45 t624.length co45) ∧ w'.cell? ⟨gb594,0,none⟩ = some (.int .i64 a0_0) ∧ w'.cell? ⟨gb594,1,none⟩ = some (.int .i64 a0_1) ∧ w'.cell? ⟨gb594,2,none⟩ = some (.int .i64 a0_2) ∧ w'.cell? ⟨gb594,3,none⟩ = some (.int .i64 a0_3) ∧ w'.cell? ⟨gb594,4,none⟩ = some (.int .i64 a0_4) ∧ w'.cell? ⟨gb594,5,none⟩ = some (.int .i64 a0_5) ∧ w'.cell? ⟨gb594,6,none⟩ = some (.int .i64 a0_6) ∧ w'.cell? ⟨gb594,7,none⟩ = some (.slice A0_7 l0_7.length c0_7)) (ds := []) #[false,false,false,false,false] Z312 rfl rfl ⟨(blk_cell BK627.out 0).trans rfl,(blk_cell BK627.out 1).trans rfl,(blk_cell BK627.out 2).trans rfl,(blk_cell BK627.out 3).trans rfl,(blk_cell BK627.out 4).trans rfl,(blk_cell BK627.out 5).trans rfl,(blk_cell BK627.out 6).trans rfl,(blk_cell BK627.out 7).trans rfl,(blk_cell BK594.out 0).trans rfl,(blk_cell BK594.out 1).trans rfl,(blk_cell BK594.out 2).trans rfl,(blk_cell BK594.out 3).trans rfl,(blk_cell BK594.out 4).trans rfl,(blk_cell BK594.out 5).trans rfl,(blk_cell BK594.out 6).trans rfl,(blk_cell BK594.out 7).trans rfl⟩ (fun hHeld => ?_)
    generalize w50.drew = w51 at HO607 HO626 BK594 BK595 BK596 BK627 HB hHeld ⊢
    refine take_ (i := 0) (N := some 34) (v := ?_) (a' := ?_) #[true,false,false,false,false] rfl rfl Z312 (fun _ _ _ h => h) (Or.inl ⟨Z314,?_⟩) hHeld ?_ ?_
    rotate_left
    ·rintro w' ⟨s0,s1,s2,s3,s4,s5,s6,s7,s8,s9,s10,s11,s12,s13,s14,s15⟩
     go_simp
     with_reducible rfl
    rotate_left
    ·simp only [Act.put,List.setIfInBounds_toArray,List.set_cons_zero,List.set_cons_succ,i64_w,i32_w]
     rfl
    refine take_ (i := 1) (N := some 35) (v := ?_) (a' := ?_) #[true,true,false,false,false] rfl rfl Z312 (fun _ _ _ h => h) (Or.inl ⟨Z314,?_⟩) hHeld ?_ ?_
    rotate_left
    ·rintro w' ⟨s0,s1,s2,s3,s4,s5,s6,s7,s8,s9,s10,s11,s12,s13,s14,s15⟩
     go_simp
     with_reducible rfl
    rotate_left
    ·simp only [Act.put,List.setIfInBounds_toArray,List.set_cons_zero,List.set_cons_succ,i64_w,i32_w]
     rfl
    refine one_ (i := 2) (N := some 36) #[true,true,true,false,false] rfl rfl Z312 Z313 (fun K hK => ?_)
    refine goes_ Try.func8 Z312 rfl #[.agg #[.int .i64 a0_0,.int .i64 a0_1,.int .i64 a0_2,.int .i64 a0_3,.int .i64 a0_4,.int .i64 a0_5,.int .i64 a0_6,.slice A0_7 l0_7.length c0_7]] Z314 rfl rfl Z256 ?_
    with_reducible refine (laws_toConfig.calls k a0_0 a0_1 a0_2 a0_3 a0_4 a0_5 a0_6 _ _ l0_7 t637 t638 t639 t640 t641 t642 t643 t644 _ ?side1 ?side2 A22.out).mono ?_
    (case side1 => exact Z224)
    (case side2 => exact Z311)
    rintro e w52 ⟨v645,rfl,ho0,hb⟩
    refine ⟨_,rfl,?_⟩
    have n0_ := Aside0.mk (Kd.R_elder' Z259 (Kd.R_base ho0) hb)
    have n1_ := Aside0.mk (Kd.R_elder' Z260 (Kd.R_base ho0) hb)
    have n2_ := Aside0.mk (Kd.R_lower (Kd.R_new' (Kd.R_new' ho0 (Kd.R_lt Z259)) (Kd.R_lt Z260)) (below_size Z167))
    have n3_ := Aside0.mk (blk_below (g := gb594) (o := .cells #[.int .i64 a0_0,.int .i64 a0_1,.int .i64 a0_2,.int .i64 a0_3,.int .i64 a0_4,.int .i64 a0_5,.int .i64 a0_6,.slice A0_7 l0_7.length c0_7] 24 (0,0)) Z615 hb)
    have n4_ := Aside0.mk (blk_below (g := gb595) (o := .cells #[.int .i64 a1_0,.int .i64 a1_1] 26 (0,0)) Z616 hb)
    have n5_ := Aside0.mk (blk_below (g := gb596) (o := .cells #[.int .i64 a2_0,.int .i64 a2_1,.int .i64 a2_2,.int .i64 a2_3,.int .i64 a2_4,.int .i64 a2_5] 30 (0,0)) Z518 hb)
    have n6_ := Aside0.mk (blk_below (g := gb627) (o := .cells #[.int .i64 t617,.int .i64 t618,.int .i64 t619,.int .i64 t620,.int .i64 t621,.int .i64 t622,.int .i64 t623,.slice Ao45 t624.length co45] 33 (0,0)) Z298 hb)
    have n7_ := Aside0.mk (below_step Z167 hb)
    clear HO607
    clear HO626
    clear BK594
    clear BK595
    clear BK596
    clear BK627
    clear HB
    have HO607 := n0_
    have HO626 := n1_
    have HO646 := n2_
    have BK594 := n3_
    have BK595 := n4_
    have BK596 := n5_
    have BK627 := n6_
    have HB := n7_
    clear n0_ n1_ n2_ n3_ n4_ n5_ n6_ n7_
    (try clear hb)
    (try clear hb2)
    (try clear hk)
    (try clear hi)
    (try clear ho0)
    obtain ⟨Ao53,co53,eo53⟩ := Kd.R_slice HO646.out
    (first | subst eo53 | (injection eo53 with f1_ f2_ f3_;have f4_ := f1_.symm;have f5_ := f3_.symm;clear f1_ f2_ f3_;subst f4_;subst f5_))
    refine hK.out _ _ ⟨(blk_cell BK627.out 0).trans rfl,(blk_cell BK627.out 1).trans rfl,(blk_cell BK627.out 2).trans rfl,(blk_cell BK627.out 3).trans rfl,(blk_cell BK627.out 4).trans rfl,(blk_cell BK627.out 5).trans rfl,(blk_cell BK627.out 6).trans rfl,(blk_cell BK627.out 7).trans rfl,(blk_cell BK594.out 0).trans rfl,(blk_cell BK594.out 1).trans rfl,(blk_cell BK594.out 2).trans rfl,(blk_cell BK594.out 3).trans rfl,(blk_cell BK594.out 4).trans rfl,(blk_cell BK594.out 5).trans rfl,(blk_cell BK594.out 6).trans rfl,(blk_cell BK594.out 7).trans rfl⟩ (fun hHeld => ?_)
    clear hK K
    refine norm_ (a' := ?_) ?_ ?_
    rotate_left
    ·show Act.put _ (some 36) _ = _
     simp only [Act.put,List.setIfInBounds_toArray,List.set_cons_zero,List.set_cons_succ,i64_w,i32_w]
     rfl
    refine one_ (i := 3) (N := some 37) #[true,true,true,true,false] rfl rfl Z312 Z313 (fun K hK => ?_)
    refine goes_ Try.func12 Z312 rfl #[.agg #[.int .i64 t617,.int .i64 t618,.int .i64 t619,.int .i64 t620,.int .i64 t621,.int .i64 t622,.int .i64 t623,.slice Ao45 t624.length co45],.agg #[.int .i64 t637,.int .i64 t638,.int .i64 t639,.int .i64 t640,.int .i64 t641,.int .i64 t642,.int .i64 t643,.slice Ao53 t644.length co53]] Z314 rfl rfl Z256 ?_
    with_reducible refine (laws_eqConfig.calls k t617 t618 t619 t620 t621 t622 t623 _ _ t624 t637 t638 t639 t640 t641 t642 t643 _ _ t644 true _ ?side1 ?side2 ?side3 ?side4 A23.out).mono ?_
    (case side1 => exact Z226)
    (case side2 => exact (Kd.R_reads' HO626.out).2.1)
    (case side3 => repeat (first | exact (Kd.R_reads' HO646.out).2.2 | (with_reducible refine Kd.C_alloc ?_ _) | (with_reducible refine Kd.C_drewN ?_ _) | (with_reducible refine Kd.C_drew ?_)))
    (case side4 => exact (Kd.R_reads' HO646.out).2.1)
    rintro e w54 ⟨rfl,hb⟩
    refine ⟨_,rfl,?_⟩
    have n0_ := Aside0.mk (Kd.R_below Z259 hb)
    have n1_ := Aside0.mk (Kd.R_below Z260 hb)
    have n2_ := Aside0.mk (Kd.R_below (by (with_reducible repeat (first | apply Kd.R_alloc | apply Kd.R_drewN | apply Kd.R_drew));exact HO646.out) hb)
    have n3_ := Aside0.mk (blk_below (g := gb594) (o := .cells #[.int .i64 a0_0,.int .i64 a0_1,.int .i64 a0_2,.int .i64 a0_3,.int .i64 a0_4,.int .i64 a0_5,.int .i64 a0_6,.slice A0_7 l0_7.length c0_7] 24 (0,0)) Z615 hb)
    have n4_ := Aside0.mk (blk_below (g := gb595) (o := .cells #[.int .i64 a1_0,.int .i64 a1_1] 26 (0,0)) Z616 hb)
    have n5_ := Aside0.mk (blk_below (g := gb596) (o := .cells #[.int .i64 a2_0,.int .i64 a2_1,.int .i64 a2_2,.int .i64 a2_3,.int .i64 a2_4,.int .i64 a2_5] 30 (0,0)) Z518 hb)
    have n6_ := Aside0.mk (blk_below (g := gb627) (o := .cells #[.int .i64 t617,.int .i64 t618,.int .i64 t619,.int .i64 t620,.int .i64 t621,.int .i64 t622,.int .i64 t623,.slice Ao45 t624.length co45] 33 (0,0)) Z298 hb)
    have n7_ := Aside0.mk (below_step Z167 hb)
    clear HO607
    clear HO626
    clear HO646
    clear BK594
    clear BK595
    clear BK596
    clear BK627
    clear HB
    have HO607 := n0_
    have HO626 := n1_
    have HO646 := n2_
    have BK594 := n3_
    have BK595 := n4_
    have BK596 := n5_
    have BK627 := n6_
    have HB := n7_
    clear n0_ n1_ n2_ n3_ n4_ n5_ n6_ n7_
    (try clear hb)
    (try clear hb2)
    (try clear hk)
    (try clear hi)
    refine hK.out _ _ ⟨(blk_cell BK627.out 0).trans rfl,(blk_cell BK627.out 1).trans rfl,(blk_cell BK627.out 2).trans rfl,(blk_cell BK627.out 3).trans rfl,(blk_cell BK627.out 4).trans rfl,(blk_cell BK627.out 5).trans rfl,(blk_cell BK627.out 6).trans rfl,(blk_cell BK627.out 7).trans rfl,(blk_cell BK594.out 0).trans rfl,(blk_cell BK594.out 1).trans rfl,(blk_cell BK594.out 2).trans rfl,(blk_cell BK594.out 3).trans rfl,(blk_cell BK594.out 4).trans rfl,(blk_cell BK594.out 5).trans rfl,(blk_cell BK594.out 6).trans rfl,(blk_cell BK594.out 7).trans rfl⟩ (fun hHeld => ?_)
    clear hK K
    refine norm_ (a' := ?_) ?_ ?_
    rotate_left
    ·show Act.put _ (some 37) _ = _
     simp only [Act.put,List.setIfInBounds_toArray,List.set_cons_zero,List.set_cons_succ,i64_w,i32_w]
     rfl
    refine pure_ (i := 4) (N := some 38) (v := ?_) (a' := ?_) #[true,true,true,true,true] rfl rfl Z312 (fun _ _ _ h => h) (Or.inl ⟨Z314,?_⟩) ?_ ?_
    rotate_left
    ·intro w'
     go_simp
     with_reducible rfl
    rotate_left
    ·simp only [Act.put,List.setIfInBounds_toArray,List.set_cons_zero,List.set_cons_succ,i64_w,i32_w]
     rfl
    refine done_ Z312 ?_
    try go_wp2
    go_ret
    exact ⟨Z263,Z167⟩
   ·replace c24 := Bool.eq_false_iff.mpr c24
    subst c24
    rw [if_neg Bool.false_ne_true] at H
    exact absurd ((Option.some.inj H).trans HRT.out) Z313

end Go.Proofs.Ytaepeajaefpooaa.QFnExactMayPart
