/- The machine side of FnBetter: what each Go function that it reaches comes to. Conditions: none. -/
import Derived.Test.YtlflcgdcegohjaaQFnBetterx0
import Derived.Test.YtlflcgdcegohjaaQFnBetterx7
import Derived.Test.YtlflcgdcegohjaaQFnBetterx8
import Derived.Test.YtlflcgdcegohjaaQFnBetterx9
namespace Go.Proofs.Ytlflcgdcegohjaa.QFnBetter
open Go.RowKit Go.Proofs.YtlflcgdcegohjaaW.PrintWords Go.Proofs.YtlflcgdcegohjaaW.PrintLast Go.Proofs.YtlflcgdcegohjaaW.PrintMore
attribute [local go_sem] max2_int min2_int max_two min_two max_three min_three max_four min_four   -- for this text's walks alone
set_option linter.unusedVariables false
set_option linter.unusedSimpArgs false

/-! ### impl_CandLess: function 14 -/
def impl_CandLess.f (k : Nat) (a0_0 : Int) (a0_1 : Int) (a0_2 : Int) (a0_3 : Int) (a0_4 : Int) (a0_5 : Int) (a1_0 : Int) (a1_1 : Int) (a1_2 : Int) (a1_3 : Int) (a1_4 : Int) (a1_5 : Int) : Option (Bool) := (cmp_Compare_int.f a0_0 a1_0).bind fun t539 => ((cmp_Compare_int.f a0_1 a1_1).bind fun t540 => ((cmp_Or_int.f k (([t539,t540] : List Int))).bind fun t544 => (some (decide (t544 < 0)))))
theorem impl_CandLess.mono : ∀ a0 a1 a2 a3 a4 a5 a6 a7 a8 a9 a10 a11 k,LeO (impl_CandLess.f k a0 a1 a2 a3 a4 a5 a6 a7 a8 a9 a10 a11) (impl_CandLess.f (k + 1) a0 a1 a2 a3 a4 a5 a6 a7 a8 a9 a10 a11) := by
 intro a0 a1 a2 a3 a4 a5 a6 a7 a8 a9 a10 a11 k
 unfold impl_CandLess.f
 repeat' first
   | (with_reducible exact cmp_Or_int.mono _ _)
   | (with_reducible exact LeO.refl _)
   | (with_reducible exact LeO.none _)
   | (with_reducible refine LeO.ite ?_ ?_)
   | (with_reducible refine LeO.bind ?_ (fun _ => ?_))
   | exact cmp_Or_int.mono _ _
   | exact LeO.none _
   | refine LeO.ite ?_ ?_
   | refine LeO.bind ?_ (fun _ => ?_)
def impl_CandLess.T1 : Bool × List (List Nat × List Nat) := (true,[([],[]),([0],[0]),([],[]),([2],[2]),([1,3],[1,3]),([],[]),([5],[5]),([],[]),([7],[7]),([6,8,4],[6,8]),([4,9],[4,9]),([10,9],[10]),([11],[11]),([12,11,0,1,2,3,4,5,6,7,8,9,10,11,12],[12])])
def impl_CandLess.B1 : List Nat := [0,1,0,4,15,0,32,0,128,511,1023,2047,4095,8191]
theorem impl_CandLess.tab1 : rtab .any (opsOf Try.f14 1) = impl_CandLess.T1 := by kernel_rfl
theorem impl_CandLess.bits1 : waitsOk impl_CandLess.T1.2 impl_CandLess.B1 = true := by kernel_rfl
set_option maxHeartbeats 8000000 in
set_option maxRecDepth 100000 in
theorem impl_CandLess.calls (k : Nat) (a0_0 : Int) (a0_1 : Int) (a0_2 : Int) (a0_3 : Int) (a0_4 : Int) (a0_5 : Int) (a1_0 : Int) (a1_1 : Int) (a1_2 : Int) (a1_3 : Int) (a1_4 : Int) (a1_5 : Int) (r : Bool) (w : World) (h : impl_CandLess.f k a0_0 a0_1 a0_2 a0_3 a0_4 a0_5 a1_0 a1_1 a1_2 a1_3 a1_4 a1_5 = some r) :
  Calls Try.prog 14 #[.agg #[.int .i64 a0_0,.int .i64 a0_1,.int .i64 a0_2,.int .i64 a0_3,.int .i64 a0_4,.int .i64 a0_5],.agg #[.int .i64 a1_0,.int .i64 a1_1,.int .i64 a1_2,.int .i64 a1_3,.int .i64 a1_4,.int .i64 a1_5]] w fun e w' => e = .returned (.bool r) ∧ Below w.heap.size w w' := by
 have hu27 := Try.underlying27
 have HB := Aside0.mk (Below.refl w.heap.size w)
 have H := h
 clear h
 unfold impl_CandLess.f at H
 obtain ⟨t539,A30,H⟩ := Option.bind_eq_some_iff.mp H
 have A3 := Aside0.mk A30
 clear A30
 obtain ⟨t540,A40,H⟩ := Option.bind_eq_some_iff.mp H
 have A4 := Aside0.mk A40
 clear A40
 obtain ⟨y541,hy541⟩ : ∃ y_ : List Int,y_ = (([t539,t540] : List Int)) := ⟨_,rfl⟩
 replace H : ((cmp_Or_int.f k y541).bind fun t544 => (some (decide (t544 < 0)))) = some r := by first | (rw [hy541];with_reducible exact H) | (have H2_ := (Option.bind_some _ _).symm.trans H;rw [hy541];with_reducible exact H2_) | (have H2_ := (Option.bind_some _ _).symm.trans H;with_reducible exact H2_) | with_reducible exact H | (rw [hy541];exact H) | exact H
 have Ny541 := Aside0.mk hy541
 clear hy541
 obtain ⟨t544,A50,H⟩ := Option.bind_eq_some_iff.mp H
 have A5 := Aside0.mk A50
 clear A50
 obtain rfl := Option.some.inj H
 go_enter Try.func14,Try.ntmps14
 try go_wp2_with (first | ((with_reducible refine gate_dst (N := 2) rfl ?_);refine bE 2 #[.int .i64 a0_0,.int .i64 a0_1,.int .i64 a0_2,.int .i64 a0_3,.int .i64 a0_4,.int .i64 a0_5] 27 (h := ?_);intro gb537 hg w6 hbox hb;have n_ := jA (below_step Z574 hb) (jA (hbox) (jA ((Z405 : w.heap.size ≤ gb537)) (Aside0.mk ((Z405 : w.heap.size ≤ gb537)))));clear HB;obtain ⟨HB,BK537,GW537,GE537⟩ := n_;clear hb hbox hg) | ((with_reducible refine gate_dst (N := 3) rfl ?_);refine bE 3 #[.int .i64 a1_0,.int .i64 a1_1,.int .i64 a1_2,.int .i64 a1_3,.int .i64 a1_4,.int .i64 a1_5] 27 (h := ?_);intro gb538 hg w7 hbox hb;have n_ := jA (blk_below (g := gb537) (o := .cells #[.int .i64 a0_0,.int .i64 a0_1,.int .i64 a0_2,.int .i64 a0_3,.int .i64 a0_4,.int .i64 a0_5] 27 (0,0)) Z303 hb) (jA (below_step Z437 hb) (jA (hbox) (jA ((Z214 : w.heap.size ≤ gb538)) (jA ((Z214 : w.heap.size ≤ gb538)) (jA ((by rw [hg];exact Nat.ne_of_lt (blk_lt (g := gb537) (o := .cells #[.int .i64 a0_0,.int .i64 a0_1,.int .i64 a0_2,.int .i64 a0_3,.int .i64 a0_4,.int .i64 a0_5] 27 (0,0)) Z303) : gb537 ≠ gb538)) (Aside0.mk ((by rw [hg];exact Nat.ne_of_gt (blk_lt (g := gb537) (o := .cells #[.int .i64 a0_0,.int .i64 a0_1,.int .i64 a0_2,.int .i64 a0_3,.int .i64 a0_4,.int .i64 a0_5] 27 (0,0)) Z303) : gb538 ≠ gb537))))))));clear BK537 HB;obtain ⟨BK537,HB,BK538,GW538,GE538,NB537_538,NB538_537⟩ := n_;clear hb hbox hg))
 have n0_ := Aside0.mk (blk_drew BK537.out)
 have n1_ := Aside0.mk (blk_drew BK538.out)
 have n2_ := Aside0.mk (below_drew1 HB.out)
 clear BK537
 clear BK538
 clear HB
 have BK537 := n0_
 have BK538 := n1_
 have HB := n2_
 clear n0_ n1_ n2_
 refine start_ (n := 14) (S := fun w' => w'.cell? ⟨gb537,0,none⟩ = some (.int .i64 a0_0) ∧ w'.cell? ⟨gb537,1,none⟩ = some (.int .i64 a0_1) ∧ w'.cell? ⟨gb537,2,none⟩ = some (.int .i64 a0_2) ∧ w'.cell? ⟨gb537,3,none⟩ = some (.int .i64 a0_3) ∧ w'.cell? ⟨gb537,4,none⟩ = some (.int .i64 a0_4) ∧ w'.cell? ⟨gb537,5,none⟩ = some (.int .i64 a0_5) ∧ w'.cell? ⟨gb538,0,none⟩ = some (.int .i64 a1_0) ∧ w'.cell? ⟨gb538,1,none⟩ = some (.int .i64 a1_1) ∧ w'.cell? ⟨gb538,2,none⟩ = some (.int .i64 a1_2) ∧ w'.cell? ⟨gb538,3,none⟩ = some (.int .i64 a1_3) ∧ w'.cell? ⟨gb538,4,none⟩ = some (.int .i64 a1_4) ∧ w'.cell? ⟨gb538,5,none⟩ = some (.int .i64 a1_5)) (ds := []) (qM 14 0) Z310 rfl (by kernel_rfl) ⟨bc BK537 0,bc BK537 1,bc BK537 2,bc BK537 3,bc BK537 4,bc BK537 5,bc BK538 0,bc BK538 1,bc BK538 2,bc BK538 3,bc BK538 4,bc BK538 5⟩ (fun hHeld => ?_);refine with_tabW impl_CandLess.tab1 impl_CandLess.bits1 (fun HT_ HW_ => ?_)
 generalize w7.drew = w8 at BK537 BK538 HB hHeld ⊢
 refine rP 0 5 14 1 HT_ (h := ?_)
 refine rP 2 7 14 5 HT_ (h := ?_)
 refine rP 5 10 14 37 HT_ (h := ?_)
 refine rP 7 12 14 165 HT_ (h := ?_)
 refine rT12 1 6 14 167 HT_ HW_ hHeld (h := ?_)
 refine rT12 3 8 14 175 HT_ HW_ hHeld (h := ?_)
 refine rT12 6 11 14 239 HT_ HW_ hHeld (h := ?_)
 refine rT12 8 13 14 495 HT_ HW_ hHeld (h := ?_)
 refine rO 4 9 14 511 HT_ (h := fun K hK => ?_)
 refine goes_ Try.func28 Z310 rfl #[.int .i64 a0_0,.int .i64 a1_0] Z311 rfl rfl Z249 ?_
 with_reducible refine (cmp_Compare_int.calls a0_0 a1_0 t539 _ A3.out).mono ?_
 rintro e w' ⟨rfl,⟨nd,rfl⟩⟩
 refine ⟨_,rfl,?_⟩
 refine hK.out _ _ ⟨bc BK537 0,bc BK537 1,bc BK537 2,bc BK537 3,bc BK537 4,bc BK537 5,bc BK538 0,bc BK538 1,bc BK538 2,bc BK538 3,bc BK538 4,bc BK538 5⟩ (fun hHeld => ?_)
 clear hK K
 refine rN (h := ?_)
 refine rO 9 14 14 1023 HT_ (h := fun K hK => ?_)
 refine goes_ Try.func28 Z310 rfl #[.int .i64 a0_1,.int .i64 a1_1] Z311 rfl rfl Z249 ?_
 with_reducible refine (cmp_Compare_int.calls a0_1 a1_1 t540 _ A4.out).mono ?_
 rintro e w' ⟨rfl,⟨nd,rfl⟩⟩
 refine ⟨_,rfl,?_⟩
 refine hK.out _ _ ⟨bc BK537 0,bc BK537 1,bc BK537 2,bc BK537 3,bc BK537 4,bc BK537 5,bc BK538 0,bc BK538 1,bc BK538 2,bc BK538 3,bc BK538 4,bc BK538 5⟩ (fun hHeld => ?_)
 clear hK K
 refine rN (h := ?_)
 refine rO 10 15 14 2047 HT_ (h := fun K hK => ?_)
 refine Kd.R_lit_step (Kd.int .i64) _ 3 ?hg (N := 15) ?hd (xs := ([t539,t540] : List Int)) (inner := [.int .i64 t539,.int .i64 t540]) (ok := fun _ => True) (okp := fun _ => True) ?hr ?hp (fun _ hk => hk) trivial (Below.refl _ _) (Nat.le_refl _) Z524 ?_;(case hd => rfl);(case hg => rfl);(case hr => exact Z295);(case hp => exact (Reps.one (show Kd.M (Kd.int .i64) _ _ _ t539 [.int .i64 t539] from rfl) (Reps.one (show Kd.M (Kd.int .i64) _ _ _ t540 [.int .i64 t540] from rfl) (Reps.none _ _))))
 intro v542 w9 ho10 hb hg_ hnew_
 clear hg_ hnew_
 (first | rw [← Ny541.out] at ho10 | (simp only [Int.reduceToNat] at ho10;rw [← Ny541.out] at ho10))
 have n0_ := Aside0.mk (Kd.R_lower ho10 (below_size Z206))
 have n1_ := Aside0.mk (blk_below (g := gb537) (o := .cells #[.int .i64 a0_0,.int .i64 a0_1,.int .i64 a0_2,.int .i64 a0_3,.int .i64 a0_4,.int .i64 a0_5] 27 (0,0)) Z303 hb)
 have n2_ := Aside0.mk (blk_below (g := gb538) (o := .cells #[.int .i64 a1_0,.int .i64 a1_1,.int .i64 a1_2,.int .i64 a1_3,.int .i64 a1_4,.int .i64 a1_5] 27 (0,0)) (by refine bP ?_;exact BK538.out) hb)
 have n3_ := Aside0.mk (below_step Z206 hb)
 clear BK537
 clear BK538
 clear HB
 have HO543 := n0_
 have BK537 := n1_
 have BK538 := n2_
 have HB := n3_
 clear n0_ n1_ n2_ n3_
 clear hb ho10
 obtain ⟨Ao11,co11,eo11⟩ := Kd.R_slice HO543.out
 (first | subst eo11 | (injection eo11 with f1_ f2_ f3_;have f4_ := f1_.symm;have f5_ := f3_.symm;clear f1_ f2_ f3_;subst f4_;subst f5_))
 refine hK.out _ _ ⟨bc BK537 0,bc BK537 1,bc BK537 2,bc BK537 3,bc BK537 4,bc BK537 5,bc BK538 0,bc BK538 1,bc BK538 2,bc BK538 3,bc BK538 4,bc BK538 5⟩ (fun hHeld => ?_)
 clear hK K
 refine rN (h := ?_)
 refine rO 11 16 14 4095 HT_ (h := fun K hK => ?_)
 refine goes_ Try.func27 Z310 rfl #[.slice Ao11 y541.length co11] Z311 rfl rfl Z249 ?_
 with_reducible refine (cmp_Or_int.calls k _ _ y541 t544 _ ?side1 ?side2 A5.out).mono ?_
 (case side1 => repeat (first | exact (Kd.R_reads' HO543.out).2.2 | (with_reducible refine Kd.C_alloc ?_ _) | (with_reducible refine Kd.C_drewN ?_ _) | (with_reducible refine Kd.C_drew ?_)))
 (case side2 => exact (Kd.R_reads' HO543.out).2.1)
 rintro e w' ⟨rfl,⟨nd,rfl⟩⟩
 refine ⟨_,rfl,?_⟩
 refine hK.out _ _ ⟨bc BK537 0,bc BK537 1,bc BK537 2,bc BK537 3,bc BK537 4,bc BK537 5,bc BK538 0,bc BK538 1,bc BK538 2,bc BK538 3,bc BK538 4,bc BK538 5⟩ (fun hHeld => ?_)
 clear hK K
 refine rN (h := ?_)
 refine rP 12 17 14 8191 HT_ (h := ?_)
 refine rP 13 4 14 16383 HT_ (h := ?_)
 refine done_ (done_of HT_.out Z310) ?_
 try go_wp2
 go_ret
 exact ⟨Z265,Z206⟩

/-! ### impl_Better: function 6 -/
def impl_Better.f (k : Nat) (a0_0 : Int) (a0_1 : Int) (a0_2 : Int) (a0_3 : Int) (a0_4 : Int) (a0_5 : Int) (a1_0 : Int) (a1_1 : Int) (a1_2 : Int) (a1_3 : Int) (a1_4 : Int) (a1_5 : Int) (a2 : Int) : Option (Bool) := (impl_GainOf.f k a0_0 a0_1 a0_2 a0_3 a0_4 a0_5 a2).bind fun bt547 => ((impl_GainOf.f k a1_0 a1_1 a1_2 a1_3 a1_4 a1_5 a2).bind fun bt553 => ((impl_CompareFrac.f k bt547.1 bt547.2.1 bt547.2.2.1 bt547.2.2.2.1 bt553.1 bt553.2.1 bt553.2.2.1 bt553.2.2.2.1).bind fun bt559 => (if bt547.2.2.2.2 = true then (if bt553.2.2.2.2 = true then (if bt559.2 = true then (if bt559.1 > 0 then (some true) else (if bt559.1 = 0 then ((impl_CandLess.f k a0_0 a0_1 a0_2 a0_3 a0_4 a0_5 a1_0 a1_1 a1_2 a1_3 a1_4 a1_5).bind fun t561 => (some t561)) else (some false))) else (some false)) else (some false)) else (some false))))
theorem impl_Better.mono : ∀ a0 a1 a2 a3 a4 a5 a6 a7 a8 a9 a10 a11 a12 k,LeO (impl_Better.f k a0 a1 a2 a3 a4 a5 a6 a7 a8 a9 a10 a11 a12) (impl_Better.f (k + 1) a0 a1 a2 a3 a4 a5 a6 a7 a8 a9 a10 a11 a12) := by
 intro a0 a1 a2 a3 a4 a5 a6 a7 a8 a9 a10 a11 a12 k
 unfold impl_Better.f
 repeat' first
   | (with_reducible exact impl_CandLess.mono _ _ _ _ _ _ _ _ _ _ _ _ _)
   | (with_reducible exact impl_CompareFrac.mono _ _ _ _ _ _ _ _ _)
   | (with_reducible exact impl_GainOf.mono _ _ _ _ _ _ _ _)
   | (with_reducible exact LeO.refl _)
   | (with_reducible exact LeO.none _)
   | (with_reducible refine LeO.ite ?_ ?_)
   | (with_reducible refine LeO.bind ?_ (fun _ => ?_))
   | exact impl_CandLess.mono _ _ _ _ _ _ _ _ _ _ _ _ _
   | exact impl_CompareFrac.mono _ _ _ _ _ _ _ _ _
   | exact impl_GainOf.mono _ _ _ _ _ _ _ _
   | exact LeO.none _
   | refine LeO.ite ?_ ?_
   | refine LeO.bind ?_ (fun _ => ?_)
set_option maxHeartbeats 8000000 in
set_option maxRecDepth 100000 in
theorem impl_Better.calls (k : Nat) (a0_0 : Int) (a0_1 : Int) (a0_2 : Int) (a0_3 : Int) (a0_4 : Int) (a0_5 : Int) (a1_0 : Int) (a1_1 : Int) (a1_2 : Int) (a1_3 : Int) (a1_4 : Int) (a1_5 : Int) (a2 : Int) (r : Bool) (w : World) (h : impl_Better.f k a0_0 a0_1 a0_2 a0_3 a0_4 a0_5 a1_0 a1_1 a1_2 a1_3 a1_4 a1_5 a2 = some r) :
  Calls Try.prog 6 #[.agg #[.int .i64 a0_0,.int .i64 a0_1,.int .i64 a0_2,.int .i64 a0_3,.int .i64 a0_4,.int .i64 a0_5],.agg #[.int .i64 a1_0,.int .i64 a1_1,.int .i64 a1_2,.int .i64 a1_3,.int .i64 a1_4,.int .i64 a1_5],.int .i64 a2] w fun e w' => e = .returned (.bool r) ∧ Below w.heap.size w w' := by
 have hu27 := Try.underlying27
 have hu41 := Try.underlying41
 have HB := Aside0.mk (Below.refl w.heap.size w)
 have H := h
 clear h
 unfold impl_Better.f at H
 obtain ⟨⟨t547,t548,t549,t550,t551⟩,A40,H⟩ := Option.bind_eq_some_iff.mp H
 try dsimp only at H
 have A4 := Aside0.mk A40
 clear A40
 obtain ⟨⟨t553,t554,t555,t556,t557⟩,A50,H⟩ := Option.bind_eq_some_iff.mp H
 try dsimp only at H
 have A5 := Aside0.mk A50
 clear A50
 obtain ⟨⟨t559,t560⟩,A60,H⟩ := Option.bind_eq_some_iff.mp H
 try dsimp only at H
 have A6 := Aside0.mk A60
 clear A60
 by_cases c7 : t551 = true
 rotate_left
 ·replace c7 := Bool.eq_false_iff.mpr c7
  subst c7
  rw [if_neg Bool.false_ne_true] at H
  obtain rfl := Option.some.inj H
  go_enter Try.func6,Try.ntmps6
  go_wp2_with (first | ((with_reducible refine gate_dst (N := 3) rfl ?_);refine bE 3 #[.int .i64 a0_0,.int .i64 a0_1,.int .i64 a0_2,.int .i64 a0_3,.int .i64 a0_4,.int .i64 a0_5] 27 (h := ?_);intro gb545 hg wq1 hbox hb;have n_ := Z98;clear HB;obtain ⟨HB,BK545,GW545,GE545⟩ := n_;clear hb hbox hg) | ((with_reducible refine gate_dst (N := 4) rfl ?_);refine bE 4 #[.int .i64 a1_0,.int .i64 a1_1,.int .i64 a1_2,.int .i64 a1_3,.int .i64 a1_4,.int .i64 a1_5] 27 (h := ?_);intro gb546 hg wq2 hbox hb;have n_ := Z52;clear BK545 HB;obtain ⟨BK545,HB,BK546,GW546,GE546,NB545_546,NB546_545⟩ := n_;clear hb hbox hg;have hnbq3 := NB545_546.out;have hncq3 := NB546_545.out;obtain ⟨hczq4_0,hczq4_1,hczq4_2,hczq4_3,hczq4_4,hczq4_5,hfzq4_0,hfzq4_1,hfzq4_2,hfzq4_3,hfzq4_4,hfzq4_5⟩ := cells6 BK545.out) | ((with_reducible refine gate_callee (f := 12) rfl ?_);refine goesL_ (some 16) rfl rfl Try.func12 Z310 rfl #[.agg #[.int .i64 a0_0,.int .i64 a0_1,.int .i64 a0_2,.int .i64 a0_3,.int .i64 a0_4,.int .i64 a0_5],.int .i64 a2] rfl Z249 ?_;(with_reducible refine (impl_GainOf.calls k a0_0 a0_1 a0_2 a0_3 a0_4 a0_5 a2 t547 t548 t549 t550 false _ A4.out).mono ?_);rintro e wq5 ⟨rfl,hb⟩;refine ⟨_,rfl,?_⟩;have n_ := Z96;clear BK545 BK546 HB;obtain ⟨BK545,BK546,HB⟩ := n_;(try clear hb);(try clear hb2);(try clear hk);(try clear hi)) | ((with_reducible refine gate_dst (N := 7) rfl ?_);refine bE 7 #[.bool false,.int .u64 0,.int .u64 0,.int .i64 0] 41 (h := ?_);intro gb552 hg wq6 hbox hb;have n_ := Z27;clear BK545 BK546 HB;obtain ⟨BK545,BK546,HB,BK552,GW552,GE552,NB545_552,NB552_545,NB546_552,NB552_546⟩ := n_;clear hb hbox hg;have hnbq7 := NB552_545.out;have hncq7 := NB545_552.out;have hnbq8 := NB552_546.out;have hncq8 := NB546_552.out;obtain ⟨hczq9_0,hczq9_1,hczq9_2,hczq9_3,hfzq9_0,hfzq9_1,hfzq9_2,hfzq9_3⟩ := cells4 BK552.out;obtain ⟨hczq10_0,hczq10_1,hczq10_2,hczq10_3,hczq10_4,hczq10_5,hfzq10_0,hfzq10_1,hfzq10_2,hfzq10_3,hfzq10_4,hfzq10_5⟩ := cells6 BK546.out) | ((with_reducible refine gate_callee (f := 12) rfl ?_);refine goesL_ (some 22) rfl rfl Try.func12 Z310 rfl #[.agg #[.int .i64 a1_0,.int .i64 a1_1,.int .i64 a1_2,.int .i64 a1_3,.int .i64 a1_4,.int .i64 a1_5],.int .i64 a2] rfl Z249 ?_;(with_reducible refine (impl_GainOf.calls k a1_0 a1_1 a1_2 a1_3 a1_4 a1_5 a2 t553 t554 t555 t556 t557 _ A5.out).mono ?_);rintro e wq11 ⟨rfl,hb⟩;refine ⟨_,rfl,?_⟩;have n_ := Z46;clear BK545 BK546 BK552 HB;obtain ⟨BK545,BK546,BK552,HB⟩ := n_;(try clear hb);(try clear hb2);(try clear hk);(try clear hi)) | ((with_reducible refine gate_dst (N := 9) rfl ?_);refine bE 9 #[.bool false,.int .u64 0,.int .u64 0,.int .i64 0] 41 (h := ?_);intro gb558 hg wq12 hbox hb;have n_ := Z14;clear BK545 BK546 BK552 HB;obtain ⟨BK545,BK546,BK552,HB,BK558,GW558,GE558,NB545_558,NB558_545,NB546_558,NB558_546,NB552_558,NB558_552⟩ := n_;clear hb hbox hg;have hnbq13 := NB558_545.out;have hncq13 := NB545_558.out;have hnbq14 := NB558_546.out;have hncq14 := NB546_558.out;have hnbq15 := NB558_552.out;have hncq15 := NB552_558.out;obtain ⟨hczq16_0,hczq16_1,hczq16_2,hczq16_3,hfzq16_0,hfzq16_1,hfzq16_2,hfzq16_3⟩ := cells4 BK558.out;obtain ⟨hczq17_0,hczq17_1,hczq17_2,hczq17_3,hfzq17_0,hfzq17_1,hfzq17_2,hfzq17_3⟩ := cells4 BK552.out) | ((with_reducible refine gate_callee (f := 13) rfl ?_);refine goesL_ (some 28) rfl rfl Try.func13 Z310 rfl #[.agg #[.bool t547,.int .u64 t548,.int .u64 t549,.int .i64 t550],.agg #[.bool t553,.int .u64 t554,.int .u64 t555,.int .i64 t556]] rfl Z249 ?_;(with_reducible refine (impl_CompareFrac.calls k t547 t548 t549 t550 t553 t554 t555 t556 t559 t560 _ A6.out).mono ?_);rintro e wq18 ⟨rfl,hb⟩;refine ⟨_,rfl,?_⟩;have n_ := Z30;clear BK545 BK546 BK552 BK558 HB;obtain ⟨BK545,BK546,BK552,BK558,HB⟩ := n_;(try clear hb);(try clear hb2);(try clear hk);(try clear hi)))
  go_ret
  exact ⟨Z265,Z325⟩
 subst c7
 rw [if_pos rfl] at H
 by_cases c8 : t557 = true
 rotate_left
 ·replace c8 := Bool.eq_false_iff.mpr c8
  subst c8
  rw [if_neg Bool.false_ne_true] at H
  obtain rfl := Option.some.inj H
  go_enter Try.func6,Try.ntmps6
  go_wp2_with (first | ((with_reducible refine gate_dst (N := 3) rfl ?_);refine bE 3 #[.int .i64 a0_0,.int .i64 a0_1,.int .i64 a0_2,.int .i64 a0_3,.int .i64 a0_4,.int .i64 a0_5] 27 (h := ?_);intro gb545 hg wq1 hbox hb;have n_ := Z98;clear HB;obtain ⟨HB,BK545,GW545,GE545⟩ := n_;clear hb hbox hg) | ((with_reducible refine gate_dst (N := 4) rfl ?_);refine bE 4 #[.int .i64 a1_0,.int .i64 a1_1,.int .i64 a1_2,.int .i64 a1_3,.int .i64 a1_4,.int .i64 a1_5] 27 (h := ?_);intro gb546 hg wq2 hbox hb;have n_ := Z52;clear BK545 HB;obtain ⟨BK545,HB,BK546,GW546,GE546,NB545_546,NB546_545⟩ := n_;clear hb hbox hg;have hnbq3 := NB545_546.out;have hncq3 := NB546_545.out;obtain ⟨hczq4_0,hczq4_1,hczq4_2,hczq4_3,hczq4_4,hczq4_5,hfzq4_0,hfzq4_1,hfzq4_2,hfzq4_3,hfzq4_4,hfzq4_5⟩ := cells6 BK545.out) | ((with_reducible refine gate_callee (f := 12) rfl ?_);refine goesL_ (some 16) rfl rfl Try.func12 Z310 rfl #[.agg #[.int .i64 a0_0,.int .i64 a0_1,.int .i64 a0_2,.int .i64 a0_3,.int .i64 a0_4,.int .i64 a0_5],.int .i64 a2] rfl Z249 ?_;(with_reducible refine (impl_GainOf.calls k a0_0 a0_1 a0_2 a0_3 a0_4 a0_5 a2 t547 t548 t549 t550 true _ A4.out).mono ?_);rintro e wq5 ⟨rfl,hb⟩;refine ⟨_,rfl,?_⟩;have n_ := Z96;clear BK545 BK546 HB;obtain ⟨BK545,BK546,HB⟩ := n_;(try clear hb);(try clear hb2);(try clear hk);(try clear hi)) | ((with_reducible refine gate_dst (N := 7) rfl ?_);refine bE 7 #[.bool false,.int .u64 0,.int .u64 0,.int .i64 0] 41 (h := ?_);intro gb552 hg wq6 hbox hb;have n_ := Z27;clear BK545 BK546 HB;obtain ⟨BK545,BK546,HB,BK552,GW552,GE552,NB545_552,NB552_545,NB546_552,NB552_546⟩ := n_;clear hb hbox hg;have hnbq7 := NB552_545.out;have hncq7 := NB545_552.out;have hnbq8 := NB552_546.out;have hncq8 := NB546_552.out;obtain ⟨hczq9_0,hczq9_1,hczq9_2,hczq9_3,hfzq9_0,hfzq9_1,hfzq9_2,hfzq9_3⟩ := cells4 BK552.out;obtain ⟨hczq10_0,hczq10_1,hczq10_2,hczq10_3,hczq10_4,hczq10_5,hfzq10_0,hfzq10_1,hfzq10_2,hfzq10_3,hfzq10_4,hfzq10_5⟩ := cells6 BK546.out) | ((with_reducible refine gate_callee (f := 12) rfl ?_);refine goesL_ (some 22) rfl rfl Try.func12 Z310 rfl #[.agg #[.int .i64 a1_0,.int .i64 a1_1,.int .i64 a1_2,.int .i64 a1_3,.int .i64 a1_4,.int .i64 a1_5],.int .i64 a2] rfl Z249 ?_;(with_reducible refine (impl_GainOf.calls k a1_0 a1_1 a1_2 a1_3 a1_4 a1_5 a2 t553 t554 t555 t556 false _ A5.out).mono ?_);rintro e wq11 ⟨rfl,hb⟩;refine ⟨_,rfl,?_⟩;have n_ := Z46;clear BK545 BK546 BK552 HB;obtain ⟨BK545,BK546,BK552,HB⟩ := n_;(try clear hb);(try clear hb2);(try clear hk);(try clear hi)) | ((with_reducible refine gate_dst (N := 9) rfl ?_);refine bE 9 #[.bool false,.int .u64 0,.int .u64 0,.int .i64 0] 41 (h := ?_);intro gb558 hg wq12 hbox hb;have n_ := Z14;clear BK545 BK546 BK552 HB;obtain ⟨BK545,BK546,BK552,HB,BK558,GW558,GE558,NB545_558,NB558_545,NB546_558,NB558_546,NB552_558,NB558_552⟩ := n_;clear hb hbox hg;have hnbq13 := NB558_545.out;have hncq13 := NB545_558.out;have hnbq14 := NB558_546.out;have hncq14 := NB546_558.out;have hnbq15 := NB558_552.out;have hncq15 := NB552_558.out;obtain ⟨hczq16_0,hczq16_1,hczq16_2,hczq16_3,hfzq16_0,hfzq16_1,hfzq16_2,hfzq16_3⟩ := cells4 BK558.out;obtain ⟨hczq17_0,hczq17_1,hczq17_2,hczq17_3,hfzq17_0,hfzq17_1,hfzq17_2,hfzq17_3⟩ := cells4 BK552.out) | ((with_reducible refine gate_callee (f := 13) rfl ?_);refine goesL_ (some 28) rfl rfl Try.func13 Z310 rfl #[.agg #[.bool t547,.int .u64 t548,.int .u64 t549,.int .i64 t550],.agg #[.bool t553,.int .u64 t554,.int .u64 t555,.int .i64 t556]] rfl Z249 ?_;(with_reducible refine (impl_CompareFrac.calls k t547 t548 t549 t550 t553 t554 t555 t556 t559 t560 _ A6.out).mono ?_);rintro e wq18 ⟨rfl,hb⟩;refine ⟨_,rfl,?_⟩;have n_ := Z30;clear BK545 BK546 BK552 BK558 HB;obtain ⟨BK545,BK546,BK552,BK558,HB⟩ := n_;(try clear hb);(try clear hb2);(try clear hk);(try clear hi)))
  go_ret
  exact ⟨Z265,Z325⟩
 subst c8
 rw [if_pos rfl] at H
 by_cases c9 : t560 = true
 rotate_left
 ·replace c9 := Bool.eq_false_iff.mpr c9
  subst c9
  rw [if_neg Bool.false_ne_true] at H
  obtain rfl := Option.some.inj H
  go_enter Try.func6,Try.ntmps6
  go_wp2_with (first | ((with_reducible refine gate_dst (N := 3) rfl ?_);refine bE 3 #[.int .i64 a0_0,.int .i64 a0_1,.int .i64 a0_2,.int .i64 a0_3,.int .i64 a0_4,.int .i64 a0_5] 27 (h := ?_);intro gb545 hg wq1 hbox hb;have n_ := Z98;clear HB;obtain ⟨HB,BK545,GW545,GE545⟩ := n_;clear hb hbox hg) | ((with_reducible refine gate_dst (N := 4) rfl ?_);refine bE 4 #[.int .i64 a1_0,.int .i64 a1_1,.int .i64 a1_2,.int .i64 a1_3,.int .i64 a1_4,.int .i64 a1_5] 27 (h := ?_);intro gb546 hg wq2 hbox hb;have n_ := Z52;clear BK545 HB;obtain ⟨BK545,HB,BK546,GW546,GE546,NB545_546,NB546_545⟩ := n_;clear hb hbox hg;have hnbq3 := NB545_546.out;have hncq3 := NB546_545.out;obtain ⟨hczq4_0,hczq4_1,hczq4_2,hczq4_3,hczq4_4,hczq4_5,hfzq4_0,hfzq4_1,hfzq4_2,hfzq4_3,hfzq4_4,hfzq4_5⟩ := cells6 BK545.out) | ((with_reducible refine gate_callee (f := 12) rfl ?_);refine goesL_ (some 16) rfl rfl Try.func12 Z310 rfl #[.agg #[.int .i64 a0_0,.int .i64 a0_1,.int .i64 a0_2,.int .i64 a0_3,.int .i64 a0_4,.int .i64 a0_5],.int .i64 a2] rfl Z249 ?_;(with_reducible refine (impl_GainOf.calls k a0_0 a0_1 a0_2 a0_3 a0_4 a0_5 a2 t547 t548 t549 t550 true _ A4.out).mono ?_);rintro e wq5 ⟨rfl,hb⟩;refine ⟨_,rfl,?_⟩;have n_ := Z96;clear BK545 BK546 HB;obtain ⟨BK545,BK546,HB⟩ := n_;(try clear hb);(try clear hb2);(try clear hk);(try clear hi)) | ((with_reducible refine gate_dst (N := 7) rfl ?_);refine bE 7 #[.bool false,.int .u64 0,.int .u64 0,.int .i64 0] 41 (h := ?_);intro gb552 hg wq6 hbox hb;have n_ := Z27;clear BK545 BK546 HB;obtain ⟨BK545,BK546,HB,BK552,GW552,GE552,NB545_552,NB552_545,NB546_552,NB552_546⟩ := n_;clear hb hbox hg;have hnbq7 := NB552_545.out;have hncq7 := NB545_552.out;have hnbq8 := NB552_546.out;have hncq8 := NB546_552.out;obtain ⟨hczq9_0,hczq9_1,hczq9_2,hczq9_3,hfzq9_0,hfzq9_1,hfzq9_2,hfzq9_3⟩ := cells4 BK552.out;obtain ⟨hczq10_0,hczq10_1,hczq10_2,hczq10_3,hczq10_4,hczq10_5,hfzq10_0,hfzq10_1,hfzq10_2,hfzq10_3,hfzq10_4,hfzq10_5⟩ := cells6 BK546.out) | ((with_reducible refine gate_callee (f := 12) rfl ?_);refine goesL_ (some 22) rfl rfl Try.func12 Z310 rfl #[.agg #[.int .i64 a1_0,.int .i64 a1_1,.int .i64 a1_2,.int .i64 a1_3,.int .i64 a1_4,.int .i64 a1_5],.int .i64 a2] rfl Z249 ?_;(with_reducible refine (impl_GainOf.calls k a1_0 a1_1 a1_2 a1_3 a1_4 a1_5 a2 t553 t554 t555 t556 true _ A5.out).mono ?_);rintro e wq11 ⟨rfl,hb⟩;refine ⟨_,rfl,?_⟩;have n_ := Z46;clear BK545 BK546 BK552 HB;obtain ⟨BK545,BK546,BK552,HB⟩ := n_;(try clear hb);(try clear hb2);(try clear hk);(try clear hi)) | ((with_reducible refine gate_dst (N := 9) rfl ?_);refine bE 9 #[.bool false,.int .u64 0,.int .u64 0,.int .i64 0] 41 (h := ?_);intro gb558 hg wq12 hbox hb;have n_ := Z14;clear BK545 BK546 BK552 HB;obtain ⟨BK545,BK546,BK552,HB,BK558,GW558,GE558,NB545_558,NB558_545,NB546_558,NB558_546,NB552_558,NB558_552⟩ := n_;clear hb hbox hg;have hnbq13 := NB558_545.out;have hncq13 := NB545_558.out;have hnbq14 := NB558_546.out;have hncq14 := NB546_558.out;have hnbq15 := NB558_552.out;have hncq15 := NB552_558.out;obtain ⟨hczq16_0,hczq16_1,hczq16_2,hczq16_3,hfzq16_0,hfzq16_1,hfzq16_2,hfzq16_3⟩ := cells4 BK558.out;obtain ⟨hczq17_0,hczq17_1,hczq17_2,hczq17_3,hfzq17_0,hfzq17_1,hfzq17_2,hfzq17_3⟩ := cells4 BK552.out) | ((with_reducible refine gate_callee (f := 13) rfl ?_);refine goesL_ (some 28) rfl rfl Try.func13 Z310 rfl #[.agg #[.bool t547,.int .u64 t548,.int .u64 t549,.int .i64 t550],.agg #[.bool t553,.int .u64 t554,.int .u64 t555,.int .i64 t556]] rfl Z249 ?_;(with_reducible refine (impl_CompareFrac.calls k t547 t548 t549 t550 t553 t554 t555 t556 t559 false _ A6.out).mono ?_);rintro e wq18 ⟨rfl,hb⟩;refine ⟨_,rfl,?_⟩;have n_ := Z30;clear BK545 BK546 BK552 BK558 HB;obtain ⟨BK545,BK546,BK552,BK558,HB⟩ := n_;(try clear hb);(try clear hb2);(try clear hk);(try clear hi)))
  go_ret
  exact ⟨Z265,Z325⟩
 subst c9
 rw [if_pos rfl] at H
 by_cases c10 : t559 > 0
 ·rw [if_pos c10] at H
  have c10b0 : decide (0 < t559) = true := decide_eq_true c10
  clear c10
  obtain rfl := Option.some.inj H
  go_enter Try.func6,Try.ntmps6
  go_wp2_with (first | ((with_reducible refine gate_dst (N := 3) rfl ?_);refine bE 3 #[.int .i64 a0_0,.int .i64 a0_1,.int .i64 a0_2,.int .i64 a0_3,.int .i64 a0_4,.int .i64 a0_5] 27 (h := ?_);intro gb545 hg wq1 hbox hb;have n_ := Z98;clear HB;obtain ⟨HB,BK545,GW545,GE545⟩ := n_;clear hb hbox hg) | ((with_reducible refine gate_dst (N := 4) rfl ?_);refine bE 4 #[.int .i64 a1_0,.int .i64 a1_1,.int .i64 a1_2,.int .i64 a1_3,.int .i64 a1_4,.int .i64 a1_5] 27 (h := ?_);intro gb546 hg wq2 hbox hb;have n_ := Z52;clear BK545 HB;obtain ⟨BK545,HB,BK546,GW546,GE546,NB545_546,NB546_545⟩ := n_;clear hb hbox hg;have hnbq3 := NB545_546.out;have hncq3 := NB546_545.out;obtain ⟨hczq4_0,hczq4_1,hczq4_2,hczq4_3,hczq4_4,hczq4_5,hfzq4_0,hfzq4_1,hfzq4_2,hfzq4_3,hfzq4_4,hfzq4_5⟩ := cells6 BK545.out) | ((with_reducible refine gate_callee (f := 12) rfl ?_);refine goesL_ (some 16) rfl rfl Try.func12 Z310 rfl #[.agg #[.int .i64 a0_0,.int .i64 a0_1,.int .i64 a0_2,.int .i64 a0_3,.int .i64 a0_4,.int .i64 a0_5],.int .i64 a2] rfl Z249 ?_;(with_reducible refine (impl_GainOf.calls k a0_0 a0_1 a0_2 a0_3 a0_4 a0_5 a2 t547 t548 t549 t550 true _ A4.out).mono ?_);rintro e wq5 ⟨rfl,hb⟩;refine ⟨_,rfl,?_⟩;have n_ := Z96;clear BK545 BK546 HB;obtain ⟨BK545,BK546,HB⟩ := n_;(try clear hb);(try clear hb2);(try clear hk);(try clear hi)) | ((with_reducible refine gate_dst (N := 7) rfl ?_);refine bE 7 #[.bool false,.int .u64 0,.int .u64 0,.int .i64 0] 41 (h := ?_);intro gb552 hg wq6 hbox hb;have n_ := Z27;clear BK545 BK546 HB;obtain ⟨BK545,BK546,HB,BK552,GW552,GE552,NB545_552,NB552_545,NB546_552,NB552_546⟩ := n_;clear hb hbox hg;have hnbq7 := NB552_545.out;have hncq7 := NB545_552.out;have hnbq8 := NB552_546.out;have hncq8 := NB546_552.out;obtain ⟨hczq9_0,hczq9_1,hczq9_2,hczq9_3,hfzq9_0,hfzq9_1,hfzq9_2,hfzq9_3⟩ := cells4 BK552.out;obtain ⟨hczq10_0,hczq10_1,hczq10_2,hczq10_3,hczq10_4,hczq10_5,hfzq10_0,hfzq10_1,hfzq10_2,hfzq10_3,hfzq10_4,hfzq10_5⟩ := cells6 BK546.out) | ((with_reducible refine gate_callee (f := 12) rfl ?_);refine goesL_ (some 22) rfl rfl Try.func12 Z310 rfl #[.agg #[.int .i64 a1_0,.int .i64 a1_1,.int .i64 a1_2,.int .i64 a1_3,.int .i64 a1_4,.int .i64 a1_5],.int .i64 a2] rfl Z249 ?_;(with_reducible refine (impl_GainOf.calls k a1_0 a1_1 a1_2 a1_3 a1_4 a1_5 a2 t553 t554 t555 t556 true _ A5.out).mono ?_);rintro e wq11 ⟨rfl,hb⟩;refine ⟨_,rfl,?_⟩;have n_ := Z46;clear BK545 BK546 BK552 HB;obtain ⟨BK545,BK546,BK552,HB⟩ := n_;(try clear hb);(try clear hb2);(try clear hk);(try clear hi)) | ((with_reducible refine gate_dst (N := 9) rfl ?_);refine bE 9 #[.bool false,.int .u64 0,.int .u64 0,.int .i64 0] 41 (h := ?_);intro gb558 hg wq12 hbox hb;have n_ := Z14;clear BK545 BK546 BK552 HB;obtain ⟨BK545,BK546,BK552,HB,BK558,GW558,GE558,NB545_558,NB558_545,NB546_558,NB558_546,NB552_558,NB558_552⟩ := n_;clear hb hbox hg;have hnbq13 := NB558_545.out;have hncq13 := NB545_558.out;have hnbq14 := NB558_546.out;have hncq14 := NB546_558.out;have hnbq15 := NB558_552.out;have hncq15 := NB552_558.out;obtain ⟨hczq16_0,hczq16_1,hczq16_2,hczq16_3,hfzq16_0,hfzq16_1,hfzq16_2,hfzq16_3⟩ := cells4 BK558.out;obtain ⟨hczq17_0,hczq17_1,hczq17_2,hczq17_3,hfzq17_0,hfzq17_1,hfzq17_2,hfzq17_3⟩ := cells4 BK552.out) | ((with_reducible refine gate_callee (f := 13) rfl ?_);refine goesL_ (some 28) rfl rfl Try.func13 Z310 rfl #[.agg #[.bool t547,.int .u64 t548,.int .u64 t549,.int .i64 t550],.agg #[.bool t553,.int .u64 t554,.int .u64 t555,.int .i64 t556]] rfl Z249 ?_;(with_reducible refine (impl_CompareFrac.calls k t547 t548 t549 t550 t553 t554 t555 t556 t559 true _ A6.out).mono ?_);rintro e wq18 ⟨rfl,hb⟩;refine ⟨_,rfl,?_⟩;have n_ := Z30;clear BK545 BK546 BK552 BK558 HB;obtain ⟨BK545,BK546,BK552,BK558,HB⟩ := n_;(try clear hb);(try clear hb2);(try clear hk);(try clear hi)))
  go_ret
  exact ⟨Z265,Z325⟩
 rw [if_neg c10] at H
 have c10b0 : decide (0 < t559) = false := decide_eq_false c10
 clear c10
 by_cases c29 : t559 = 0
 rotate_left
 ·rw [if_neg c29] at H
  have c29b0 : (t559 == 0) = false := beq_eq_false_iff_ne.mpr c29
  have c29b1 : (t559 != 0) = true := bne_iff_ne.mpr c29
  obtain rfl := Option.some.inj H
  go_enter Try.func6,Try.ntmps6
  go_wp2_with (first | ((with_reducible refine gate_dst (N := 3) rfl ?_);refine bE 3 #[.int .i64 a0_0,.int .i64 a0_1,.int .i64 a0_2,.int .i64 a0_3,.int .i64 a0_4,.int .i64 a0_5] 27 (h := ?_);intro gb545 hg wq1 hbox hb;have n_ := Z98;clear HB;obtain ⟨HB,BK545,GW545,GE545⟩ := n_;clear hb hbox hg) | ((with_reducible refine gate_dst (N := 4) rfl ?_);refine bE 4 #[.int .i64 a1_0,.int .i64 a1_1,.int .i64 a1_2,.int .i64 a1_3,.int .i64 a1_4,.int .i64 a1_5] 27 (h := ?_);intro gb546 hg wq2 hbox hb;have n_ := Z52;clear BK545 HB;obtain ⟨BK545,HB,BK546,GW546,GE546,NB545_546,NB546_545⟩ := n_;clear hb hbox hg;have hnbq3 := NB545_546.out;have hncq3 := NB546_545.out;obtain ⟨hczq4_0,hczq4_1,hczq4_2,hczq4_3,hczq4_4,hczq4_5,hfzq4_0,hfzq4_1,hfzq4_2,hfzq4_3,hfzq4_4,hfzq4_5⟩ := cells6 BK545.out) | ((with_reducible refine gate_callee (f := 12) rfl ?_);refine goesL_ (some 16) rfl rfl Try.func12 Z310 rfl #[.agg #[.int .i64 a0_0,.int .i64 a0_1,.int .i64 a0_2,.int .i64 a0_3,.int .i64 a0_4,.int .i64 a0_5],.int .i64 a2] rfl Z249 ?_;(with_reducible refine (impl_GainOf.calls k a0_0 a0_1 a0_2 a0_3 a0_4 a0_5 a2 t547 t548 t549 t550 true _ A4.out).mono ?_);rintro e wq5 ⟨rfl,hb⟩;refine ⟨_,rfl,?_⟩;have n_ := Z96;clear BK545 BK546 HB;obtain ⟨BK545,BK546,HB⟩ := n_;(try clear hb);(try clear hb2);(try clear hk);(try clear hi)) | ((with_reducible refine gate_dst (N := 7) rfl ?_);refine bE 7 #[.bool false,.int .u64 0,.int .u64 0,.int .i64 0] 41 (h := ?_);intro gb552 hg wq6 hbox hb;have n_ := Z27;clear BK545 BK546 HB;obtain ⟨BK545,BK546,HB,BK552,GW552,GE552,NB545_552,NB552_545,NB546_552,NB552_546⟩ := n_;clear hb hbox hg;have hnbq7 := NB552_545.out;have hncq7 := NB545_552.out;have hnbq8 := NB552_546.out;have hncq8 := NB546_552.out;obtain ⟨hczq9_0,hczq9_1,hczq9_2,hczq9_3,hfzq9_0,hfzq9_1,hfzq9_2,hfzq9_3⟩ := cells4 BK552.out;obtain ⟨hczq10_0,hczq10_1,hczq10_2,hczq10_3,hczq10_4,hczq10_5,hfzq10_0,hfzq10_1,hfzq10_2,hfzq10_3,hfzq10_4,hfzq10_5⟩ := cells6 BK546.out) | ((with_reducible refine gate_callee (f := 12) rfl ?_);refine goesL_ (some 22) rfl rfl Try.func12 Z310 rfl #[.agg #[.int .i64 a1_0,.int .i64 a1_1,.int .i64 a1_2,.int .i64 a1_3,.int .i64 a1_4,.int .i64 a1_5],.int .i64 a2] rfl Z249 ?_;(with_reducible refine (impl_GainOf.calls k a1_0 a1_1 a1_2 a1_3 a1_4 a1_5 a2 t553 t554 t555 t556 true _ A5.out).mono ?_);rintro e wq11 ⟨rfl,hb⟩;refine ⟨_,rfl,?_⟩;have n_ := Z46;clear BK545 BK546 BK552 HB;obtain ⟨BK545,BK546,BK552,HB⟩ := n_;(try clear hb);(try clear hb2);(try clear hk);(try clear hi)) | ((with_reducible refine gate_dst (N := 9) rfl ?_);refine bE 9 #[.bool false,.int .u64 0,.int .u64 0,.int .i64 0] 41 (h := ?_);intro gb558 hg wq12 hbox hb;have n_ := Z14;clear BK545 BK546 BK552 HB;obtain ⟨BK545,BK546,BK552,HB,BK558,GW558,GE558,NB545_558,NB558_545,NB546_558,NB558_546,NB552_558,NB558_552⟩ := n_;clear hb hbox hg;have hnbq13 := NB558_545.out;have hncq13 := NB545_558.out;have hnbq14 := NB558_546.out;have hncq14 := NB546_558.out;have hnbq15 := NB558_552.out;have hncq15 := NB552_558.out;obtain ⟨hczq16_0,hczq16_1,hczq16_2,hczq16_3,hfzq16_0,hfzq16_1,hfzq16_2,hfzq16_3⟩ := cells4 BK558.out;obtain ⟨hczq17_0,hczq17_1,hczq17_2,hczq17_3,hfzq17_0,hfzq17_1,hfzq17_2,hfzq17_3⟩ := cells4 BK552.out) | ((with_reducible refine gate_callee (f := 13) rfl ?_);refine goesL_ (some 28) rfl rfl Try.func13 Z310 rfl #[.agg #[.bool t547,.int .u64 t548,.int .u64 t549,.int .i64 t550],.agg #[.bool t553,.int .u64 t554,.int .u64 t555,.int .i64 t556]] rfl Z249 ?_;(with_reducible refine (impl_CompareFrac.calls k t547 t548 t549 t550 t553 t554 t555 t556 t559 true _ A6.out).mono ?_);rintro e wq18 ⟨rfl,hb⟩;refine ⟨_,rfl,?_⟩;have n_ := Z30;clear BK545 BK546 BK552 BK558 HB;obtain ⟨BK545,BK546,BK552,BK558,HB⟩ := n_;(try clear hb);(try clear hb2);(try clear hk);(try clear hi)))
  go_ret
  exact ⟨Z265,Z325⟩
 rw [if_pos c29] at H
 have c29b0 : (t559 == 0) = true := beq_iff_eq.mpr c29
 have c29b1 : (t559 != 0) = false := bne_eq_false_iff_eq.mpr c29
 clear c29
 obtain ⟨t561,A300,H⟩ := Option.bind_eq_some_iff.mp H
 have A30 := Aside0.mk A300
 clear A300
 obtain rfl := Option.some.inj H
 go_enter Try.func6,Try.ntmps6
 go_wp2_with (first | ((with_reducible refine gate_dst (N := 3) rfl ?_);refine bE 3 #[.int .i64 a0_0,.int .i64 a0_1,.int .i64 a0_2,.int .i64 a0_3,.int .i64 a0_4,.int .i64 a0_5] 27 (h := ?_);intro gb545 hg wq1 hbox hb;have n_ := Z98;clear HB;obtain ⟨HB,BK545,GW545,GE545⟩ := n_;clear hb hbox hg) | ((with_reducible refine gate_dst (N := 4) rfl ?_);refine bE 4 #[.int .i64 a1_0,.int .i64 a1_1,.int .i64 a1_2,.int .i64 a1_3,.int .i64 a1_4,.int .i64 a1_5] 27 (h := ?_);intro gb546 hg wq2 hbox hb;have n_ := Z52;clear BK545 HB;obtain ⟨BK545,HB,BK546,GW546,GE546,NB545_546,NB546_545⟩ := n_;clear hb hbox hg;have hnbq3 := NB545_546.out;have hncq3 := NB546_545.out;obtain ⟨hczq4_0,hczq4_1,hczq4_2,hczq4_3,hczq4_4,hczq4_5,hfzq4_0,hfzq4_1,hfzq4_2,hfzq4_3,hfzq4_4,hfzq4_5⟩ := cells6 BK545.out) | ((with_reducible refine gate_callee (f := 12) rfl ?_);refine goesL_ (some 16) rfl rfl Try.func12 Z310 rfl #[.agg #[.int .i64 a0_0,.int .i64 a0_1,.int .i64 a0_2,.int .i64 a0_3,.int .i64 a0_4,.int .i64 a0_5],.int .i64 a2] rfl Z249 ?_;(with_reducible refine (impl_GainOf.calls k a0_0 a0_1 a0_2 a0_3 a0_4 a0_5 a2 t547 t548 t549 t550 true _ A4.out).mono ?_);rintro e wq5 ⟨rfl,hb⟩;refine ⟨_,rfl,?_⟩;have n_ := Z96;clear BK545 BK546 HB;obtain ⟨BK545,BK546,HB⟩ := n_;(try clear hb);(try clear hb2);(try clear hk);(try clear hi)) | ((with_reducible refine gate_dst (N := 7) rfl ?_);refine bE 7 #[.bool false,.int .u64 0,.int .u64 0,.int .i64 0] 41 (h := ?_);intro gb552 hg wq6 hbox hb;have n_ := Z27;clear BK545 BK546 HB;obtain ⟨BK545,BK546,HB,BK552,GW552,GE552,NB545_552,NB552_545,NB546_552,NB552_546⟩ := n_;clear hb hbox hg;have hnbq7 := NB552_545.out;have hncq7 := NB545_552.out;have hnbq8 := NB552_546.out;have hncq8 := NB546_552.out;obtain ⟨hczq9_0,hczq9_1,hczq9_2,hczq9_3,hfzq9_0,hfzq9_1,hfzq9_2,hfzq9_3⟩ := cells4 BK552.out;obtain ⟨hczq10_0,hczq10_1,hczq10_2,hczq10_3,hczq10_4,hczq10_5,hfzq10_0,hfzq10_1,hfzq10_2,hfzq10_3,hfzq10_4,hfzq10_5⟩ := cells6 BK546.out) | ((with_reducible refine gate_callee (f := 12) rfl ?_);refine goesL_ (some 22) rfl rfl Try.func12 Z310 rfl #[.agg #[.int .i64 a1_0,.int .i64 a1_1,.int .i64 a1_2,.int .i64 a1_3,.int .i64 a1_4,.int .i64 a1_5],.int .i64 a2] rfl Z249 ?_;(with_reducible refine (impl_GainOf.calls k a1_0 a1_1 a1_2 a1_3 a1_4 a1_5 a2 t553 t554 t555 t556 true _ A5.out).mono ?_);rintro e wq11 ⟨rfl,hb⟩;refine ⟨_,rfl,?_⟩;have n_ := Z46;clear BK545 BK546 BK552 HB;obtain ⟨BK545,BK546,BK552,HB⟩ := n_;(try clear hb);(try clear hb2);(try clear hk);(try clear hi)) | ((with_reducible refine gate_dst (N := 9) rfl ?_);refine bE 9 #[.bool false,.int .u64 0,.int .u64 0,.int .i64 0] 41 (h := ?_);intro gb558 hg wq12 hbox hb;have n_ := Z14;clear BK545 BK546 BK552 HB;obtain ⟨BK545,BK546,BK552,HB,BK558,GW558,GE558,NB545_558,NB558_545,NB546_558,NB558_546,NB552_558,NB558_552⟩ := n_;clear hb hbox hg;have hnbq13 := NB558_545.out;have hncq13 := NB545_558.out;have hnbq14 := NB558_546.out;have hncq14 := NB546_558.out;have hnbq15 := NB558_552.out;have hncq15 := NB552_558.out;obtain ⟨hczq16_0,hczq16_1,hczq16_2,hczq16_3,hfzq16_0,hfzq16_1,hfzq16_2,hfzq16_3⟩ := cells4 BK558.out;obtain ⟨hczq17_0,hczq17_1,hczq17_2,hczq17_3,hfzq17_0,hfzq17_1,hfzq17_2,hfzq17_3⟩ := cells4 BK552.out) | ((with_reducible refine gate_callee (f := 13) rfl ?_);refine goesL_ (some 28) rfl rfl Try.func13 Z310 rfl #[.agg #[.bool t547,.int .u64 t548,.int .u64 t549,.int .i64 t550],.agg #[.bool t553,.int .u64 t554,.int .u64 t555,.int .i64 t556]] rfl Z249 ?_;(with_reducible refine (impl_CompareFrac.calls k t547 t548 t549 t550 t553 t554 t555 t556 t559 true _ A6.out).mono ?_);rintro e wq18 ⟨rfl,hb⟩;refine ⟨_,rfl,?_⟩;have n_ := Z30;clear BK545 BK546 BK552 BK558 HB;obtain ⟨BK545,BK546,BK552,BK558,HB⟩ := n_;(try clear hb);(try clear hb2);(try clear hk);(try clear hi);obtain ⟨hczq19_0,hczq19_1,hczq19_2,hczq19_3,hczq19_4,hczq19_5,hfzq19_0,hfzq19_1,hfzq19_2,hfzq19_3,hfzq19_4,hfzq19_5⟩ := cells6 BK545.out;obtain ⟨hczq20_0,hczq20_1,hczq20_2,hczq20_3,hczq20_4,hczq20_5,hfzq20_0,hfzq20_1,hfzq20_2,hfzq20_3,hfzq20_4,hfzq20_5⟩ := cells6 BK546.out) | (go_at_call 14;(with_reducible refine (impl_CandLess.calls k a0_0 a0_1 a0_2 a0_3 a0_4 a0_5 a1_0 a1_1 a1_2 a1_3 a1_4 a1_5 t561 _ A30.out).mono ?_);rintro e wq21 ⟨rfl,hb⟩;have n_ := jA (blk_below (g := gb545) (o := .cells #[.int .i64 a0_0,.int .i64 a0_1,.int .i64 a0_2,.int .i64 a0_3,.int .i64 a0_4,.int .i64 a0_5] 27 (0,0)) Z590 hb) (jA (blk_below (g := gb546) (o := .cells #[.int .i64 a1_0,.int .i64 a1_1,.int .i64 a1_2,.int .i64 a1_3,.int .i64 a1_4,.int .i64 a1_5] 27 (0,0)) Z597 hb) (jA (blk_below (g := gb552) (o := .cells #[.bool t547,.int .u64 t548,.int .u64 t549,.int .i64 t550] 41 (0,0)) Z506 hb) (jA (blk_below (g := gb558) (o := .cells #[.bool t553,.int .u64 t554,.int .u64 t555,.int .i64 t556] 41 (0,0)) (by refine bP ?_;exact BK558.out) hb) (Aside0.mk (below_step Z325 hb)))));clear BK545 BK546 BK552 BK558 HB;obtain ⟨BK545,BK546,BK552,BK558,HB⟩ := n_;(try clear hb);(try clear hb2);(try clear hk);(try clear hi)))
 go_ret
 exact ⟨Z265,Z325⟩

/-! ### spec_l1In: function 46 -/
def spec_l1In.f (a0 : Int) (a1 : Int) (a2 : Int) : Option (Bool) := if a0 ≥ a1 then (some (decide (a0 ≤ a2))) else (some false)
set_option maxHeartbeats 8000000 in
set_option maxRecDepth 100000 in
theorem spec_l1In.calls (a0 : Int) (a1 : Int) (a2 : Int) (r : Bool) (w : World) (h : spec_l1In.f a0 a1 a2 = some r) :
  Calls Try.prog 46 #[.int .i64 a0,.int .i64 a1,.int .i64 a2] w fun e w' => e = .returned (.bool r) ∧ Drawn0 w w' := by
 have H := h
 clear h
 unfold spec_l1In.f at H
 by_cases c4 : a0 ≥ a1
 ·rw [if_pos c4] at H
  have c4b0 : decide (a1 ≤ a0) = true := decide_eq_true c4
  clear c4
  obtain rfl := Option.some.inj H
  go_enter Try.func46,Try.ntmps46
  go_wp2
  go_ret
  exact ⟨Z294,Z271⟩
 rw [if_neg c4] at H
 have c4b0 : decide (a1 ≤ a0) = false := decide_eq_false c4
 clear c4
 obtain rfl := Option.some.inj H
 go_enter Try.func46,Try.ntmps46
 go_wp2
 go_ret
 exact ⟨Z294,Z271⟩

/-! ### spec_WideOk: function 63 -/
def spec_WideOk.f (a0_0 : Bool) (a0_1 : Int) (a0_2 : Int) : Option (Bool) := if a0_1 < 9223372036854775808 then (if a0_0 = true then (if a0_1 > 0 then (some true) else (some (decide (a0_2 > 0)))) else (some true)) else (some false)
set_option maxHeartbeats 8000000 in
set_option maxRecDepth 100000 in
theorem spec_WideOk.calls (a0_0 : Bool) (a0_1 : Int) (a0_2 : Int) (r : Bool) (w : World) (h : spec_WideOk.f a0_0 a0_1 a0_2 = some r) :
  Calls Try.prog 63 #[.agg #[.bool a0_0,.int .u64 a0_1,.int .u64 a0_2]] w fun e w' => e = .returned (.bool r) ∧ Below w.heap.size w w' := by
 have hu39 := Try.underlying39
 have HB := Aside0.mk (Below.refl w.heap.size w)
 have H := h
 clear h
 unfold spec_WideOk.f at H
 by_cases c2 : a0_1 < 9223372036854775808
 rotate_left
 ·rw [if_neg c2] at H
  have c2b0 : decide (a0_1 < 9223372036854775808) = false := decide_eq_false c2
  clear c2
  obtain rfl := Option.some.inj H
  go_enter Try.func63,Try.ntmps63
  go_wp2_with (first | ((with_reducible refine gate_dst (N := 1) rfl ?_);refine bE 1 #[.bool a0_0,.int .u64 a0_1,.int .u64 a0_2] 39 (h := ?_);intro gb562 hg wq1 hbox hb;have n_ := Z101;clear HB;obtain ⟨HB,BK562,GW562,GE562⟩ := n_;clear hb hbox hg;obtain ⟨hczq2_0,hczq2_1,hczq2_2,hfzq2_0,hfzq2_1,hfzq2_2⟩ := cells3 BK562.out))
  go_ret
  exact ⟨Z265,Z242⟩
 rw [if_pos c2] at H
 have c2b0 : decide (a0_1 < 9223372036854775808) = true := decide_eq_true c2
 clear c2
 by_cases c3 : a0_0 = true
 rotate_left
 ·replace c3 := Bool.eq_false_iff.mpr c3
  subst c3
  rw [if_neg Bool.false_ne_true] at H
  obtain rfl := Option.some.inj H
  go_enter Try.func63,Try.ntmps63
  go_wp2_with (first | ((with_reducible refine gate_dst (N := 1) rfl ?_);refine bE 1 #[.bool false,.int .u64 a0_1,.int .u64 a0_2] 39 (h := ?_);intro gb562 hg wq1 hbox hb;have n_ := Z101;clear HB;obtain ⟨HB,BK562,GW562,GE562⟩ := n_;clear hb hbox hg;obtain ⟨hczq2_0,hczq2_1,hczq2_2,hfzq2_0,hfzq2_1,hfzq2_2⟩ := cells3 BK562.out))
  go_ret
  exact ⟨Z265,Z242⟩
 subst c3
 rw [if_pos rfl] at H
 by_cases c4 : a0_1 > 0
 ·rw [if_pos c4] at H
  have c4b0 : decide (0 < a0_1) = true := decide_eq_true c4
  clear c4
  obtain rfl := Option.some.inj H
  go_enter Try.func63,Try.ntmps63
  go_wp2_with (first | ((with_reducible refine gate_dst (N := 1) rfl ?_);refine bE 1 #[.bool true,.int .u64 a0_1,.int .u64 a0_2] 39 (h := ?_);intro gb562 hg wq1 hbox hb;have n_ := Z101;clear HB;obtain ⟨HB,BK562,GW562,GE562⟩ := n_;clear hb hbox hg;obtain ⟨hczq2_0,hczq2_1,hczq2_2,hfzq2_0,hfzq2_1,hfzq2_2⟩ := cells3 BK562.out))
  go_ret
  exact ⟨Z265,Z242⟩
 rw [if_neg c4] at H
 have c4b0 : decide (0 < a0_1) = false := decide_eq_false c4
 clear c4
 obtain rfl := Option.some.inj H
 go_enter Try.func63,Try.ntmps63
 go_wp2_with (first | ((with_reducible refine gate_dst (N := 1) rfl ?_);refine bE 1 #[.bool true,.int .u64 a0_1,.int .u64 a0_2] 39 (h := ?_);intro gb562 hg wq1 hbox hb;have n_ := Z101;clear HB;obtain ⟨HB,BK562,GW562,GE562⟩ := n_;clear hb hbox hg;obtain ⟨hczq2_0,hczq2_1,hczq2_2,hfzq2_0,hfzq2_1,hfzq2_2⟩ := cells3 BK562.out))
 go_ret
 exact ⟨Z265,Z242⟩

/-! ### spec_FracOk: function 49 -/
def spec_FracOk.f (a0_0 : Bool) (a0_1 : Int) (a0_2 : Int) (a0_3 : Int) : Option (Bool) := (spec_WideOk.f a0_0 a0_1 a0_2).bind fun t564 => (if t564 = true then ((spec_l1In.f a0_3 1 1000000).bind fun t565 => (some t565)) else (some false))
set_option maxHeartbeats 8000000 in
set_option maxRecDepth 100000 in
theorem spec_FracOk.calls (a0_0 : Bool) (a0_1 : Int) (a0_2 : Int) (a0_3 : Int) (r : Bool) (w : World) (h : spec_FracOk.f a0_0 a0_1 a0_2 a0_3 = some r) :
  Calls Try.prog 49 #[.agg #[.bool a0_0,.int .u64 a0_1,.int .u64 a0_2,.int .i64 a0_3]] w fun e w' => e = .returned (.bool r) ∧ Below w.heap.size w w' := by
 have hu41 := Try.underlying41
 have hu39 := Try.underlying39
 have HB := Aside0.mk (Below.refl w.heap.size w)
 have H := h
 clear h
 unfold spec_FracOk.f at H
 obtain ⟨t564,A20,H⟩ := Option.bind_eq_some_iff.mp H
 have A2 := Aside0.mk A20
 clear A20
 by_cases c3 : t564 = true
 rotate_left
 ·replace c3 := Bool.eq_false_iff.mpr c3
  subst c3
  rw [if_neg Bool.false_ne_true] at H
  obtain rfl := Option.some.inj H
  go_enter Try.func49,Try.ntmps49
  go_wp2_with (first | ((with_reducible refine gate_dst (N := 1) rfl ?_);refine bE 1 #[.bool a0_0,.int .u64 a0_1,.int .u64 a0_2,.int .i64 a0_3] 41 (h := ?_);intro gb563 hg wq1 hbox hb;have n_ := Z115;clear HB;obtain ⟨HB,BK563,GW563,GE563⟩ := n_;clear hb hbox hg;obtain ⟨hczq2_0,hczq2_1,hczq2_2,hczq2_3,hfzq2_0,hfzq2_1,hfzq2_2,hfzq2_3⟩ := cells4 BK563.out) | ((with_reducible refine gate_callee (f := 63) rfl ?_);refine goesL_ (some 5) rfl rfl Try.func63 Z310 rfl #[.agg #[.bool a0_0,.int .u64 a0_1,.int .u64 a0_2]] rfl Z249 ?_;(with_reducible refine (spec_WideOk.calls a0_0 a0_1 a0_2 false _ A2.out).mono ?_);rintro e wq3 ⟨rfl,hb⟩;refine ⟨_,rfl,?_⟩;have n_ := Z144;clear BK563 HB;obtain ⟨BK563,HB⟩ := n_;(try clear hb);(try clear hb2);(try clear hk);(try clear hi)))
  go_ret
  exact ⟨Z265,Z426⟩
 subst c3
 rw [if_pos rfl] at H
 obtain ⟨t565,A40,H⟩ := Option.bind_eq_some_iff.mp H
 have A4 := Aside0.mk A40
 clear A40
 obtain rfl := Option.some.inj H
 go_enter Try.func49,Try.ntmps49
 go_wp2_with (first | ((with_reducible refine gate_dst (N := 1) rfl ?_);refine bE 1 #[.bool a0_0,.int .u64 a0_1,.int .u64 a0_2,.int .i64 a0_3] 41 (h := ?_);intro gb563 hg wq1 hbox hb;have n_ := Z115;clear HB;obtain ⟨HB,BK563,GW563,GE563⟩ := n_;clear hb hbox hg;obtain ⟨hczq2_0,hczq2_1,hczq2_2,hczq2_3,hfzq2_0,hfzq2_1,hfzq2_2,hfzq2_3⟩ := cells4 BK563.out) | ((with_reducible refine gate_callee (f := 63) rfl ?_);refine goesL_ (some 5) rfl rfl Try.func63 Z310 rfl #[.agg #[.bool a0_0,.int .u64 a0_1,.int .u64 a0_2]] rfl Z249 ?_;(with_reducible refine (spec_WideOk.calls a0_0 a0_1 a0_2 true _ A2.out).mono ?_);rintro e wq3 ⟨rfl,hb⟩;refine ⟨_,rfl,?_⟩;have n_ := Z144;clear BK563 HB;obtain ⟨BK563,HB⟩ := n_;(try clear hb);(try clear hb2);(try clear hk);(try clear hi);obtain ⟨hczq4_0,hczq4_1,hczq4_2,hczq4_3,hfzq4_0,hfzq4_1,hfzq4_2,hfzq4_3⟩ := cells4 BK563.out) | (go_at_call 46;(with_reducible refine (spec_l1In.calls a0_3 1 1000000 t565 _ A4.out).mono ?_);rintro e w' ⟨rfl,⟨nd,rfl⟩⟩))
 go_ret
 exact ⟨Z265,Z426⟩

/-! ### spec_l3Abs: function 64 -/
def spec_l3Abs.f (a0 : Int) : Option (Int) := if a0 < 0 then (some (IntKind.u64.wrap ((IntKind.u64.wrap (wrap64 (-(wrap64 (a0 + 1))))) + 1))) else (some (IntKind.u64.wrap (a0)))
set_option maxHeartbeats 8000000 in
set_option maxRecDepth 100000 in
theorem spec_l3Abs.calls (a0 : Int) (r : Int) (w : World) (h : spec_l3Abs.f a0 = some r) :
  Calls Try.prog 64 #[.int .i64 a0] w fun e w' => e = .returned (.int .u64 r) ∧ Drawn0 w w' := by
 have H := h
 clear h
 unfold spec_l3Abs.f at H
 by_cases c2 : a0 < 0
 ·rw [if_pos c2] at H
  have c2b0 : decide (a0 < 0) = true := decide_eq_true c2
  clear c2
  obtain rfl := Option.some.inj H
  go_enter Try.func64,Try.ntmps64
  go_wp2
  go_ret
  exact ⟨Z294,Z271⟩
 rw [if_neg c2] at H
 have c2b0 : decide (a0 < 0) = false := decide_eq_false c2
 clear c2
 obtain rfl := Option.some.inj H
 go_enter Try.func64,Try.ntmps64
 go_wp2
 go_ret
 exact ⟨Z294,Z271⟩

/-! ### spec_l3Product: function 65 -/
def spec_l3Product.f (a0 : Int) (a1 : Int) : Option (Int × Int) := some (IntKind.u64.wrap ((IntKind.u64.wrap ((IntKind.u64.wrap ((a0 / 4294967296) * (a1 / 4294967296))) + ((IntKind.u64.wrap ((IntKind.u64.wrap ((a0 / 4294967296) * (Go.bits .and .u64 a1 4294967295))) + ((IntKind.u64.wrap ((Go.bits .and .u64 a0 4294967295) * (Go.bits .and .u64 a1 4294967295))) / 4294967296))) / 4294967296))) + ((IntKind.u64.wrap ((IntKind.u64.wrap ((Go.bits .and .u64 a0 4294967295) * (a1 / 4294967296))) + (Go.bits .and .u64 (IntKind.u64.wrap ((IntKind.u64.wrap ((a0 / 4294967296) * (Go.bits .and .u64 a1 4294967295))) + ((IntKind.u64.wrap ((Go.bits .and .u64 a0 4294967295) * (Go.bits .and .u64 a1 4294967295))) / 4294967296))) 4294967295))) / 4294967296)),IntKind.u64.wrap ((IntKind.u64.wrap ((IntKind.u64.wrap ((IntKind.u64.wrap ((Go.bits .and .u64 a0 4294967295) * (a1 / 4294967296))) + (Go.bits .and .u64 (IntKind.u64.wrap ((IntKind.u64.wrap ((a0 / 4294967296) * (Go.bits .and .u64 a1 4294967295))) + ((IntKind.u64.wrap ((Go.bits .and .u64 a0 4294967295) * (Go.bits .and .u64 a1 4294967295))) / 4294967296))) 4294967295))) * 4294967296)) + (Go.bits .and .u64 (IntKind.u64.wrap ((Go.bits .and .u64 a0 4294967295) * (Go.bits .and .u64 a1 4294967295))) 4294967295)))
set_option maxHeartbeats 8000000 in
set_option maxRecDepth 100000 in
theorem spec_l3Product.calls (a0 : Int) (a1 : Int) (r1 : Int) (r2 : Int) (w : World) (h : spec_l3Product.f a0 a1 = some (r1,r2)) :
  Calls Try.prog 65 #[.int .u64 a0,.int .u64 a1] w fun e w' => e = .returned (.tuple #[.int .u64 r1,.int .u64 r2]) ∧ Drawn0 w w' := by
 have H := h
 clear h
 unfold spec_l3Product.f at H
 simp only [Option.some.injEq,Prod.mk.injEq] at H
 obtain ⟨rfl,rfl⟩ := H
 go_enter Try.func65,Try.ntmps65
 go_wp2
 go_ret2
 exact ⟨Z294,Z271⟩

/-! ### spec_MulWide: function 62 -/
def spec_MulWide.f (a0 : Int) (a1 : Int) : Option (Bool × Int × Int) := (spec_l3Abs.f a0).bind fun t567 => ((spec_l3Abs.f a1).bind fun t568 => ((spec_l3Product.f t567 t568).bind fun bt569 => (if ((decide (a0 < 0)) != (decide (a1 < 0))) = true then (if a0 = 0 then (some (false,bt569.1,bt569.2)) else (some ((a1 != 0),bt569.1,bt569.2))) else (some (false,bt569.1,bt569.2)))))
set_option maxHeartbeats 8000000 in
set_option maxRecDepth 100000 in
theorem spec_MulWide.calls (a0 : Int) (a1 : Int) (r1 : Bool) (r2 : Int) (r3 : Int) (w : World) (h : spec_MulWide.f a0 a1 = some (r1,r2,r3)) :
  Calls Try.prog 62 #[.int .i64 a0,.int .i64 a1] w fun e w' => e = .returned (.agg #[.bool r1,.int .u64 r2,.int .u64 r3]) ∧ Below w.heap.size w w' := by
 have hu39 := Try.underlying39
 have HB := Aside0.mk (Below.refl w.heap.size w)
 have H := h
 clear h
 unfold spec_MulWide.f at H
 obtain ⟨t567,A30,H⟩ := Option.bind_eq_some_iff.mp H
 have A3 := Aside0.mk A30
 clear A30
 obtain ⟨t568,A40,H⟩ := Option.bind_eq_some_iff.mp H
 have A4 := Aside0.mk A40
 clear A40
 obtain ⟨⟨t569,t570⟩,A50,H⟩ := Option.bind_eq_some_iff.mp H
 try dsimp only at H
 have A5 := Aside0.mk A50
 clear A50
 by_cases c6 : ((decide (a0 < 0)) != (decide (a1 < 0))) = true
 rotate_left
 ·rw [if_neg c6] at H
  have c6b0 : ((decide (a0 < 0)) != (decide (a1 < 0))) = false := by simpa using c6
  (try (have c6b1 : decide ((decide (a0 < 0)) = (decide (a1 < 0))) = true := by simpa using c6))
  (try (have c6b2 : ((decide (a0 < 0)) == (decide (a1 < 0))) = true := by simpa using c6))
  clear c6
  simp only [Option.some.injEq,Prod.mk.injEq] at H
  obtain ⟨rfl,rfl,rfl⟩ := H
  go_enter Try.func62,Try.ntmps62
  go_wp2_with (first | ((with_reducible refine gate_dst (N := 4) rfl ?_);refine bE 4 #[.bool false,.int .u64 0,.int .u64 0] 39 (h := ?_);intro gb566 hg wq1 hbox hb;have n_ := Z106;clear HB;obtain ⟨HB,BK566,GW566,GE566⟩ := n_;clear hb hbox hg) | ((with_reducible refine gate_callee (f := 64) rfl ?_);refine goesL_ (some 9) rfl rfl Try.func64 Z310 rfl #[.int .i64 a0] rfl Z249 ?_;(with_reducible refine (spec_l3Abs.calls a0 t567 _ A3.out).mono ?_);rintro e w' ⟨rfl,⟨nd,rfl⟩⟩;refine ⟨_,rfl,?_⟩;(iterate 4 (try (rw [drewN_self wq1];generalize hq_ : World.drewN wq1 _ = wq1;have n0_ : Aside0 (wq1.heap[gb566]? = some (.cells #[.bool false,.int .u64 0,.int .u64 0] 39 (0,0))) := ⟨Z278⟩;have n1_ : Aside0 (Below w.heap.size w wq1) := ⟨Z220⟩;clear BK566 HB hq_;have BK566 := n0_;have HB := n1_;clear n0_ n1_)))) | ((with_reducible refine gate_callee (f := 64) rfl ?_);refine goesL_ (some 11) rfl rfl Try.func64 Z310 rfl #[.int .i64 a1] rfl Z249 ?_;(with_reducible refine (spec_l3Abs.calls a1 t568 _ A4.out).mono ?_);rintro e w' ⟨rfl,⟨nd,rfl⟩⟩;refine ⟨_,rfl,?_⟩;(iterate 4 (try (rw [drewN_self wq1];generalize hq_ : World.drewN wq1 _ = wq1;have n0_ : Aside0 (wq1.heap[gb566]? = some (.cells #[.bool false,.int .u64 0,.int .u64 0] 39 (0,0))) := ⟨Z278⟩;have n1_ : Aside0 (Below w.heap.size w wq1) := ⟨Z220⟩;clear BK566 HB hq_;have BK566 := n0_;have HB := n1_;clear n0_ n1_)))) | ((with_reducible refine gate_callee (f := 65) rfl ?_);refine goesL_ (some 12) rfl rfl Try.func65 Z310 rfl #[.int .u64 t567,.int .u64 t568] rfl Z249 ?_;(with_reducible refine (spec_l3Product.calls t567 t568 t569 t570 _ A5.out).mono ?_);rintro e w' ⟨rfl,⟨nd,rfl⟩⟩;refine ⟨_,rfl,?_⟩;(iterate 4 (try (rw [drewN_self wq1];generalize hq_ : World.drewN wq1 _ = wq1;have n0_ : Aside0 (wq1.heap[gb566]? = some (.cells #[.bool false,.int .u64 0,.int .u64 0] 39 (0,0))) := ⟨Z278⟩;have n1_ : Aside0 (Below w.heap.size w wq1) := ⟨Z220⟩;clear BK566 HB hq_;have BK566 := n0_;have HB := n1_;clear n0_ n1_)));obtain ⟨hczq2_0,hczq2_1,hczq2_2,hfzq2_0,hfzq2_1,hfzq2_2⟩ := cells3 BK566.out))
  refine bodyPost_ret (results_cell_row rfl _ _ gb566 39 #[.bool false,.int .u64 t569,.int .u64 t570] (0,0) _ rfl Z158 Try.underlying39 rfl Z310) rfl ?_
  exact ⟨Z265,Z416⟩
 rw [if_pos c6] at H
 have c6b0 : ((decide (a0 < 0)) != (decide (a1 < 0))) = true := c6
 (try (have c6b1 : decide ((decide (a0 < 0)) = (decide (a1 < 0))) = false := by simpa using c6))
 (try (have c6b2 : ((decide (a0 < 0)) == (decide (a1 < 0))) = false := by simpa using c6))
 (try (have c6b3 : ¬ ((decide (a0 < 0)) = (decide (a1 < 0))) := by simpa using c6))
 clear c6
 by_cases c7 : a0 = 0
 ·rw [if_pos c7] at H
  have c7b0 : (a0 == 0) = true := beq_iff_eq.mpr c7
  have c7b1 : (a0 != 0) = false := bne_eq_false_iff_eq.mpr c7
  clear c7
  simp only [Option.some.injEq,Prod.mk.injEq] at H
  obtain ⟨rfl,rfl,rfl⟩ := H
  go_enter Try.func62,Try.ntmps62
  go_wp2_with (first | ((with_reducible refine gate_dst (N := 4) rfl ?_);refine bE 4 #[.bool false,.int .u64 0,.int .u64 0] 39 (h := ?_);intro gb566 hg wq1 hbox hb;have n_ := Z106;clear HB;obtain ⟨HB,BK566,GW566,GE566⟩ := n_;clear hb hbox hg) | ((with_reducible refine gate_callee (f := 64) rfl ?_);refine goesL_ (some 9) rfl rfl Try.func64 Z310 rfl #[.int .i64 a0] rfl Z249 ?_;(with_reducible refine (spec_l3Abs.calls a0 t567 _ A3.out).mono ?_);rintro e w' ⟨rfl,⟨nd,rfl⟩⟩;refine ⟨_,rfl,?_⟩;(iterate 4 (try (rw [drewN_self wq1];generalize hq_ : World.drewN wq1 _ = wq1;have n0_ : Aside0 (wq1.heap[gb566]? = some (.cells #[.bool false,.int .u64 0,.int .u64 0] 39 (0,0))) := ⟨Z278⟩;have n1_ : Aside0 (Below w.heap.size w wq1) := ⟨Z220⟩;clear BK566 HB hq_;have BK566 := n0_;have HB := n1_;clear n0_ n1_)))) | ((with_reducible refine gate_callee (f := 64) rfl ?_);refine goesL_ (some 11) rfl rfl Try.func64 Z310 rfl #[.int .i64 a1] rfl Z249 ?_;(with_reducible refine (spec_l3Abs.calls a1 t568 _ A4.out).mono ?_);rintro e w' ⟨rfl,⟨nd,rfl⟩⟩;refine ⟨_,rfl,?_⟩;(iterate 4 (try (rw [drewN_self wq1];generalize hq_ : World.drewN wq1 _ = wq1;have n0_ : Aside0 (wq1.heap[gb566]? = some (.cells #[.bool false,.int .u64 0,.int .u64 0] 39 (0,0))) := ⟨Z278⟩;have n1_ : Aside0 (Below w.heap.size w wq1) := ⟨Z220⟩;clear BK566 HB hq_;have BK566 := n0_;have HB := n1_;clear n0_ n1_)))) | ((with_reducible refine gate_callee (f := 65) rfl ?_);refine goesL_ (some 12) rfl rfl Try.func65 Z310 rfl #[.int .u64 t567,.int .u64 t568] rfl Z249 ?_;(with_reducible refine (spec_l3Product.calls t567 t568 t569 t570 _ A5.out).mono ?_);rintro e w' ⟨rfl,⟨nd,rfl⟩⟩;refine ⟨_,rfl,?_⟩;(iterate 4 (try (rw [drewN_self wq1];generalize hq_ : World.drewN wq1 _ = wq1;have n0_ : Aside0 (wq1.heap[gb566]? = some (.cells #[.bool false,.int .u64 0,.int .u64 0] 39 (0,0))) := ⟨Z278⟩;have n1_ : Aside0 (Below w.heap.size w wq1) := ⟨Z220⟩;clear BK566 HB hq_;have BK566 := n0_;have HB := n1_;clear n0_ n1_)));obtain ⟨hczq2_0,hczq2_1,hczq2_2,hfzq2_0,hfzq2_1,hfzq2_2⟩ := cells3 BK566.out))
  refine bodyPost_ret (results_cell_row rfl _ _ gb566 39 #[.bool false,.int .u64 t569,.int .u64 t570] (0,0) _ rfl Z158 Try.underlying39 rfl Z310) rfl ?_
  exact ⟨Z265,Z416⟩
 rw [if_neg c7] at H
 have c7b0 : (a0 == 0) = false := beq_eq_false_iff_ne.mpr c7
 have c7b1 : (a0 != 0) = true := bne_iff_ne.mpr c7
 simp only [Option.some.injEq,Prod.mk.injEq] at H
 obtain ⟨rfl,rfl,rfl⟩ := H
 go_enter Try.func62,Try.ntmps62
 go_wp2_with (first | ((with_reducible refine gate_dst (N := 4) rfl ?_);refine bE 4 #[.bool false,.int .u64 0,.int .u64 0] 39 (h := ?_);intro gb566 hg wq1 hbox hb;have n_ := Z106;clear HB;obtain ⟨HB,BK566,GW566,GE566⟩ := n_;clear hb hbox hg) | ((with_reducible refine gate_callee (f := 64) rfl ?_);refine goesL_ (some 9) rfl rfl Try.func64 Z310 rfl #[.int .i64 a0] rfl Z249 ?_;(with_reducible refine (spec_l3Abs.calls a0 t567 _ A3.out).mono ?_);rintro e w' ⟨rfl,⟨nd,rfl⟩⟩;refine ⟨_,rfl,?_⟩;(iterate 4 (try (rw [drewN_self wq1];generalize hq_ : World.drewN wq1 _ = wq1;have n0_ : Aside0 (wq1.heap[gb566]? = some (.cells #[.bool false,.int .u64 0,.int .u64 0] 39 (0,0))) := ⟨Z278⟩;have n1_ : Aside0 (Below w.heap.size w wq1) := ⟨Z220⟩;clear BK566 HB hq_;have BK566 := n0_;have HB := n1_;clear n0_ n1_)))) | ((with_reducible refine gate_callee (f := 64) rfl ?_);refine goesL_ (some 11) rfl rfl Try.func64 Z310 rfl #[.int .i64 a1] rfl Z249 ?_;(with_reducible refine (spec_l3Abs.calls a1 t568 _ A4.out).mono ?_);rintro e w' ⟨rfl,⟨nd,rfl⟩⟩;refine ⟨_,rfl,?_⟩;(iterate 4 (try (rw [drewN_self wq1];generalize hq_ : World.drewN wq1 _ = wq1;have n0_ : Aside0 (wq1.heap[gb566]? = some (.cells #[.bool false,.int .u64 0,.int .u64 0] 39 (0,0))) := ⟨Z278⟩;have n1_ : Aside0 (Below w.heap.size w wq1) := ⟨Z220⟩;clear BK566 HB hq_;have BK566 := n0_;have HB := n1_;clear n0_ n1_)))) | ((with_reducible refine gate_callee (f := 65) rfl ?_);refine goesL_ (some 12) rfl rfl Try.func65 Z310 rfl #[.int .u64 t567,.int .u64 t568] rfl Z249 ?_;(with_reducible refine (spec_l3Product.calls t567 t568 t569 t570 _ A5.out).mono ?_);rintro e w' ⟨rfl,⟨nd,rfl⟩⟩;refine ⟨_,rfl,?_⟩;(iterate 4 (try (rw [drewN_self wq1];generalize hq_ : World.drewN wq1 _ = wq1;have n0_ : Aside0 (wq1.heap[gb566]? = some (.cells #[.bool false,.int .u64 0,.int .u64 0] 39 (0,0))) := ⟨Z278⟩;have n1_ : Aside0 (Below w.heap.size w wq1) := ⟨Z220⟩;clear BK566 HB hq_;have BK566 := n0_;have HB := n1_;clear n0_ n1_)));obtain ⟨hczq2_0,hczq2_1,hczq2_2,hfzq2_0,hfzq2_1,hfzq2_2⟩ := cells3 BK566.out))
 refine bodyPost_ret (results_cell_row rfl _ _ gb566 39 #[.bool (a1 != 0),.int .u64 t569,.int .u64 t570] (0,0) _ rfl (by refine bP ?_;refine blk_put (cs := #[.bool (a1 != 0),.int .u64 t569,.int .u64 0]) ?_ 2 _ rfl;refine bP ?_;refine blk_put (cs := #[.bool (a1 != 0),.int .u64 0,.int .u64 0]) ?_ 1 _ rfl;refine bP ?_;refine blk_put (cs := #[.bool false,.int .u64 0,.int .u64 0]) ?_ 0 _ rfl;refine bP ?_;exact BK566.out) Try.underlying39 rfl Z310) rfl ?_
 exact ⟨Z265,Z416⟩

/-! ### spec_SquareOver: function 47 -/
def spec_SquareOver.f (a0 : Int) (a1 : Int) : Option (Bool × Int × Int × Int × Bool) := (spec_MulWide.f a0 a0).bind fun bt572 => ((spec_FracOk.f bt572.1 bt572.2.1 bt572.2.2 a1).bind fun t576 => (if t576 = true then (some (bt572.1,bt572.2.1,bt572.2.2,a1,true)) else (some (false,0,0,0,false))))
set_option maxHeartbeats 8000000 in
set_option maxRecDepth 100000 in
theorem spec_SquareOver.calls (a0 : Int) (a1 : Int) (r1 : Bool) (r2 : Int) (r3 : Int) (r4 : Int) (r5 : Bool) (w : World) (h : spec_SquareOver.f a0 a1 = some (r1,r2,r3,r4,r5)) :
  Calls Try.prog 47 #[.int .i64 a0,.int .i64 a1] w fun e w' => e = .returned (.tuple #[.agg #[.bool r1,.int .u64 r2,.int .u64 r3,.int .i64 r4],.bool r5]) ∧ Below w.heap.size w w' := by
 have hu41 := Try.underlying41
 have HB := Aside0.mk (Below.refl w.heap.size w)
 have H := h
 clear h
 unfold spec_SquareOver.f at H
 obtain ⟨⟨t572,t573,t574⟩,A30,H⟩ := Option.bind_eq_some_iff.mp H
 try dsimp only at H
 have A3 := Aside0.mk A30
 clear A30
 obtain ⟨t576,A40,H⟩ := Option.bind_eq_some_iff.mp H
 have A4 := Aside0.mk A40
 clear A40
 by_cases c5 : t576 = true
 rotate_left
 ·replace c5 := Bool.eq_false_iff.mpr c5
  subst c5
  rw [if_neg Bool.false_ne_true] at H
  simp only [Option.some.injEq,Prod.mk.injEq] at H
  obtain ⟨rfl,rfl,rfl,rfl,rfl⟩ := H
  go_enter Try.func47,Try.ntmps47
  go_wp2_with (first | ((with_reducible refine gate_dst (N := 4) rfl ?_);refine bE 4 #[.bool false,.int .u64 0,.int .u64 0,.int .i64 0] 41 (h := ?_);intro gb571 hg wq1 hbox hb;have n_ := Z114;clear HB;obtain ⟨HB,BK571,GW571,GE571⟩ := n_;clear hb hbox hg) | ((with_reducible refine gate_callee (f := 62) rfl ?_);refine goesL_ (some 9) rfl rfl Try.func62 Z310 rfl #[.int .i64 a0,.int .i64 a0] rfl Z249 ?_;(with_reducible refine (spec_MulWide.calls a0 a0 t572 t573 t574 _ A3.out).mono ?_);rintro e wq2 ⟨rfl,hb⟩;refine ⟨_,rfl,?_⟩;have n_ := Z148;clear BK571 HB;obtain ⟨BK571,HB⟩ := n_;(try clear hb);(try clear hb2);(try clear hk);(try clear hi)) | ((with_reducible refine gate_dst (N := 6) rfl ?_);refine bE 6 #[.bool false,.int .u64 0,.int .u64 0,.int .i64 0] 41 (h := ?_);intro gb575 hg wq3 hbox hb;have n_ := Z63;clear BK571 HB;obtain ⟨BK571,HB,BK575,GW575,GE575,NB571_575,NB575_571⟩ := n_;clear hb hbox hg;have hnbq4 := NB575_571.out;have hncq4 := NB571_575.out;obtain ⟨hczq5_0,hczq5_1,hczq5_2,hczq5_3,hfzq5_0,hfzq5_1,hfzq5_2,hfzq5_3⟩ := cells4 BK575.out) | ((with_reducible refine gate_callee (f := 49) rfl ?_);refine goesL_ (some 13) rfl rfl Try.func49 Z310 rfl #[.agg #[.bool t572,.int .u64 t573,.int .u64 t574,.int .i64 a1]] rfl Z249 ?_;(with_reducible refine (spec_FracOk.calls t572 t573 t574 a1 false _ A4.out).mono ?_);rintro e wq6 ⟨rfl,hb⟩;refine ⟨_,rfl,?_⟩;have n_ := Z70;clear BK571 BK575 HB;obtain ⟨BK571,BK575,HB⟩ := n_;(try clear hb);(try clear hb2);(try clear hk);(try clear hi);obtain ⟨hczq7_0,hczq7_1,hczq7_2,hczq7_3,hfzq7_0,hfzq7_1,hfzq7_2,hfzq7_3⟩ := cells4 BK571.out))
  refine bodyPost_ret (results_ct rfl _ _ gb571 41 #[.bool false,.int .u64 0,.int .u64 0,.int .i64 0] (0,0) _ rfl (by refine bP ?_;refine blk_put (cs := #[.bool false,.int .u64 0,.int .u64 0,.int .i64 0]) ?_ 3 _ rfl;refine bP ?_;refine blk_put (cs := #[.bool false,.int .u64 0,.int .u64 0,.int .i64 0]) ?_ 2 _ rfl;refine bP ?_;refine blk_put (cs := #[.bool false,.int .u64 0,.int .u64 0,.int .i64 0]) ?_ 1 _ rfl;refine bP ?_;refine blk_put (cs := #[.bool false,.int .u64 0,.int .u64 0,.int .i64 0]) ?_ 0 _ rfl;refine bP ?_;exact BK571.out) Try.underlying41 rfl Z310) rfl ?_
  exact ⟨Z265,Z375⟩
 subst c5
 rw [if_pos rfl] at H
 simp only [Option.some.injEq,Prod.mk.injEq] at H
 obtain ⟨rfl,rfl,rfl,rfl,rfl⟩ := H
 go_enter Try.func47,Try.ntmps47
 go_wp2_with (first | ((with_reducible refine gate_dst (N := 4) rfl ?_);refine bE 4 #[.bool false,.int .u64 0,.int .u64 0,.int .i64 0] 41 (h := ?_);intro gb571 hg wq1 hbox hb;have n_ := Z114;clear HB;obtain ⟨HB,BK571,GW571,GE571⟩ := n_;clear hb hbox hg) | ((with_reducible refine gate_callee (f := 62) rfl ?_);refine goesL_ (some 9) rfl rfl Try.func62 Z310 rfl #[.int .i64 a0,.int .i64 a0] rfl Z249 ?_;(with_reducible refine (spec_MulWide.calls a0 a0 t572 t573 t574 _ A3.out).mono ?_);rintro e wq2 ⟨rfl,hb⟩;refine ⟨_,rfl,?_⟩;have n_ := Z148;clear BK571 HB;obtain ⟨BK571,HB⟩ := n_;(try clear hb);(try clear hb2);(try clear hk);(try clear hi)) | ((with_reducible refine gate_dst (N := 6) rfl ?_);refine bE 6 #[.bool false,.int .u64 0,.int .u64 0,.int .i64 0] 41 (h := ?_);intro gb575 hg wq3 hbox hb;have n_ := Z63;clear BK571 HB;obtain ⟨BK571,HB,BK575,GW575,GE575,NB571_575,NB575_571⟩ := n_;clear hb hbox hg;have hnbq4 := NB575_571.out;have hncq4 := NB571_575.out;obtain ⟨hczq5_0,hczq5_1,hczq5_2,hczq5_3,hfzq5_0,hfzq5_1,hfzq5_2,hfzq5_3⟩ := cells4 BK575.out) | ((with_reducible refine gate_callee (f := 49) rfl ?_);refine goesL_ (some 13) rfl rfl Try.func49 Z310 rfl #[.agg #[.bool t572,.int .u64 t573,.int .u64 t574,.int .i64 a1]] rfl Z249 ?_;(with_reducible refine (spec_FracOk.calls t572 t573 t574 a1 true _ A4.out).mono ?_);rintro e wq6 ⟨rfl,hb⟩;refine ⟨_,rfl,?_⟩;have n_ := Z70;clear BK571 BK575 HB;obtain ⟨BK571,BK575,HB⟩ := n_;(try clear hb);(try clear hb2);(try clear hk);(try clear hi);obtain ⟨hczq7_0,hczq7_1,hczq7_2,hczq7_3,hfzq7_0,hfzq7_1,hfzq7_2,hfzq7_3⟩ := cells4 BK575.out;obtain ⟨hczq8_0,hczq8_1,hczq8_2,hczq8_3,hfzq8_0,hfzq8_1,hfzq8_2,hfzq8_3⟩ := cells4 BK571.out))
 refine bodyPost_ret (results_ct rfl _ _ gb571 41 #[.bool t572,.int .u64 t573,.int .u64 t574,.int .i64 a1] (0,0) _ rfl (by refine bP ?_;refine blk_put (cs := #[.bool t572,.int .u64 t573,.int .u64 t574,.int .i64 0]) ?_ 3 _ rfl;refine bP ?_;refine blk_put (cs := #[.bool t572,.int .u64 t573,.int .u64 0,.int .i64 0]) ?_ 2 _ rfl;refine bP ?_;refine blk_put (cs := #[.bool t572,.int .u64 0,.int .u64 0,.int .i64 0]) ?_ 1 _ rfl;refine bP ?_;refine blk_put (cs := #[.bool false,.int .u64 0,.int .u64 0,.int .i64 0]) ?_ 0 _ rfl;refine bP ?_;exact BK571.out) Try.underlying41 rfl Z310) rfl ?_
 exact ⟨Z265,Z375⟩

/-! ### spec_PlainGain: function 29 -/
def spec_PlainGain.f (a0_0 : Int) (a0_1 : Int) (a1 : Int) : Option (Bool × Int × Int × Int × Bool) := (spec_l1In.f a0_0 0 40).bind fun t579 => (if t579 = true then ((spec_l1In.f a1 1 100).bind fun t580 => (if t580 = true then ((spec_SquareOver.f a0_1 (wrap64 (a0_0 + a1))).bind fun bt581 => (some (bt581.1,bt581.2.1,bt581.2.2.1,bt581.2.2.2.1,bt581.2.2.2.2))) else (some (false,0,0,0,false)))) else (some (false,0,0,0,false)))
set_option maxHeartbeats 8000000 in
set_option maxRecDepth 100000 in
theorem spec_PlainGain.calls (a0_0 : Int) (a0_1 : Int) (a1 : Int) (r1 : Bool) (r2 : Int) (r3 : Int) (r4 : Int) (r5 : Bool) (w : World) (h : spec_PlainGain.f a0_0 a0_1 a1 = some (r1,r2,r3,r4,r5)) :
  Calls Try.prog 29 #[.agg #[.int .i64 a0_0,.int .i64 a0_1],.int .i64 a1] w fun e w' => e = .returned (.tuple #[.agg #[.bool r1,.int .u64 r2,.int .u64 r3,.int .i64 r4],.bool r5]) ∧ Below w.heap.size w w' := by
 have hu25 := Try.underlying25
 have hu41 := Try.underlying41
 have HB := Aside0.mk (Below.refl w.heap.size w)
 have H := h
 clear h
 unfold spec_PlainGain.f at H
 obtain ⟨t579,A30,H⟩ := Option.bind_eq_some_iff.mp H
 have A3 := Aside0.mk A30
 clear A30
 by_cases c4 : t579 = true
 rotate_left
 ·replace c4 := Bool.eq_false_iff.mpr c4
  subst c4
  rw [if_neg Bool.false_ne_true] at H
  simp only [Option.some.injEq,Prod.mk.injEq] at H
  obtain ⟨rfl,rfl,rfl,rfl,rfl⟩ := H
  go_enter Try.func29,Try.ntmps29
  go_wp2_with (first | ((with_reducible refine gate_dst (N := 2) rfl ?_);refine bE 2 #[.int .i64 a0_0,.int .i64 a0_1] 25 (h := ?_);intro gb577 hg wq1 hbox hb;have n_ := Z105;clear HB;obtain ⟨HB,BK577,GW577,GE577⟩ := n_;clear hb hbox hg) | ((with_reducible refine gate_dst (N := 4) rfl ?_);refine bE 4 #[.bool false,.int .u64 0,.int .u64 0,.int .i64 0] 41 (h := ?_);intro gb578 hg wq2 hbox hb;have n_ := Z67;clear BK577 HB;obtain ⟨BK577,HB,BK578,GW578,GE578,NB577_578,NB578_577⟩ := n_;clear hb hbox hg;have hnbq3 := NB577_578.out;have hncq3 := NB578_577.out;obtain ⟨hczq4_0,hczq4_1,hfzq4_0,hfzq4_1⟩ := cells2 BK577.out) | ((with_reducible refine gate_callee (f := 46) rfl ?_);refine goesL_ (some 8) rfl rfl Try.func46 Z310 rfl #[.int .i64 a0_0,.int .i64 0,.int .i64 40] rfl Z249 ?_;(with_reducible refine (spec_l1In.calls a0_0 0 40 false _ A3.out).mono ?_);rintro e w' ⟨rfl,⟨nd,rfl⟩⟩;refine ⟨_,rfl,?_⟩;(iterate 4 (try (rw [drewN_self wq2];generalize hq_ : World.drewN wq2 _ = wq2;have n0_ : Aside0 (wq2.heap[gb577]? = some (.cells #[.int .i64 a0_0,.int .i64 a0_1] 25 (0,0))) := ⟨Z286⟩;have n1_ : Aside0 (wq2.heap[gb578]? = some (.cells #[.bool false,.int .u64 0,.int .u64 0,.int .i64 0] 41 (0,0))) := ⟨Z285⟩;have n2_ : Aside0 (Below w.heap.size w wq2) := ⟨Z187⟩;clear BK577 BK578 HB hq_;have BK577 := n0_;have BK578 := n1_;have HB := n2_;clear n0_ n1_ n2_)));(try (obtain ⟨hczq4_0,hczq4_1,hfzq4_0,hfzq4_1⟩ := cells2 BK577.out));obtain ⟨hczq5_0,hczq5_1,hczq5_2,hczq5_3,hfzq5_0,hfzq5_1,hfzq5_2,hfzq5_3⟩ := cells4 BK578.out))
  refine bodyPost_ret (results_ct rfl _ _ gb578 41 #[.bool false,.int .u64 0,.int .u64 0,.int .i64 0] (0,0) _ rfl Z139 Try.underlying41 rfl Z310) rfl ?_
  exact ⟨Z265,Z371⟩
 subst c4
 rw [if_pos rfl] at H
 obtain ⟨t580,A50,H⟩ := Option.bind_eq_some_iff.mp H
 have A5 := Aside0.mk A50
 clear A50
 by_cases c6 : t580 = true
 rotate_left
 ·replace c6 := Bool.eq_false_iff.mpr c6
  subst c6
  rw [if_neg Bool.false_ne_true] at H
  simp only [Option.some.injEq,Prod.mk.injEq] at H
  obtain ⟨rfl,rfl,rfl,rfl,rfl⟩ := H
  go_enter Try.func29,Try.ntmps29
  go_wp2_with (first | ((with_reducible refine gate_dst (N := 2) rfl ?_);refine bE 2 #[.int .i64 a0_0,.int .i64 a0_1] 25 (h := ?_);intro gb577 hg wq1 hbox hb;have n_ := Z105;clear HB;obtain ⟨HB,BK577,GW577,GE577⟩ := n_;clear hb hbox hg) | ((with_reducible refine gate_dst (N := 4) rfl ?_);refine bE 4 #[.bool false,.int .u64 0,.int .u64 0,.int .i64 0] 41 (h := ?_);intro gb578 hg wq2 hbox hb;have n_ := Z67;clear BK577 HB;obtain ⟨BK577,HB,BK578,GW578,GE578,NB577_578,NB578_577⟩ := n_;clear hb hbox hg;have hnbq3 := NB577_578.out;have hncq3 := NB578_577.out;obtain ⟨hczq4_0,hczq4_1,hfzq4_0,hfzq4_1⟩ := cells2 BK577.out) | ((with_reducible refine gate_callee (f := 46) rfl ?_);refine goesL_ (some 8) rfl rfl Try.func46 Z310 rfl #[.int .i64 a0_0,.int .i64 0,.int .i64 40] rfl Z249 ?_;(with_reducible refine (spec_l1In.calls a0_0 0 40 true _ A3.out).mono ?_);rintro e w' ⟨rfl,⟨nd,rfl⟩⟩;refine ⟨_,rfl,?_⟩;(iterate 4 (try (rw [drewN_self wq2];generalize hq_ : World.drewN wq2 _ = wq2;have n0_ : Aside0 (wq2.heap[gb577]? = some (.cells #[.int .i64 a0_0,.int .i64 a0_1] 25 (0,0))) := ⟨Z286⟩;have n1_ : Aside0 (wq2.heap[gb578]? = some (.cells #[.bool false,.int .u64 0,.int .u64 0,.int .i64 0] 41 (0,0))) := ⟨Z285⟩;have n2_ : Aside0 (Below w.heap.size w wq2) := ⟨Z187⟩;clear BK577 BK578 HB hq_;have BK577 := n0_;have BK578 := n1_;have HB := n2_;clear n0_ n1_ n2_)));(try (obtain ⟨hczq4_0,hczq4_1,hfzq4_0,hfzq4_1⟩ := cells2 BK577.out))) | (go_at_call 46;(with_reducible refine (spec_l1In.calls a1 1 100 false _ A5.out).mono ?_);rintro e w' ⟨rfl,⟨nd,rfl⟩⟩;(iterate 4 (try (rw [drewN_self wq2];generalize hq_ : World.drewN wq2 _ = wq2;have n0_ : Aside0 (wq2.heap[gb577]? = some (.cells #[.int .i64 a0_0,.int .i64 a0_1] 25 (0,0))) := ⟨Z286⟩;have n1_ : Aside0 (wq2.heap[gb578]? = some (.cells #[.bool false,.int .u64 0,.int .u64 0,.int .i64 0] 41 (0,0))) := ⟨Z285⟩;have n2_ : Aside0 (Below w.heap.size w wq2) := ⟨Z187⟩;clear BK577 BK578 HB hq_;have BK577 := n0_;have BK578 := n1_;have HB := n2_;clear n0_ n1_ n2_)));(try (obtain ⟨hczq4_0,hczq4_1,hfzq4_0,hfzq4_1⟩ := cells2 BK577.out));obtain ⟨hczq5_0,hczq5_1,hczq5_2,hczq5_3,hfzq5_0,hfzq5_1,hfzq5_2,hfzq5_3⟩ := cells4 BK578.out))
  refine bodyPost_ret (results_ct rfl _ _ gb578 41 #[.bool false,.int .u64 0,.int .u64 0,.int .i64 0] (0,0) _ rfl Z139 Try.underlying41 rfl Z310) rfl ?_
  exact ⟨Z265,Z371⟩
 subst c6
 rw [if_pos rfl] at H
 obtain ⟨⟨t581,t582,t583,t584,t585⟩,A70,H⟩ := Option.bind_eq_some_iff.mp H
 try dsimp only at H
 have A7 := Aside0.mk A70
 clear A70
 simp only [Option.some.injEq,Prod.mk.injEq] at H
 obtain ⟨rfl,rfl,rfl,rfl,rfl⟩ := H
 go_enter Try.func29,Try.ntmps29
 go_wp2_with (first | ((with_reducible refine gate_dst (N := 2) rfl ?_);refine bE 2 #[.int .i64 a0_0,.int .i64 a0_1] 25 (h := ?_);intro gb577 hg wq1 hbox hb;have n_ := Z105;clear HB;obtain ⟨HB,BK577,GW577,GE577⟩ := n_;clear hb hbox hg) | ((with_reducible refine gate_dst (N := 4) rfl ?_);refine bE 4 #[.bool false,.int .u64 0,.int .u64 0,.int .i64 0] 41 (h := ?_);intro gb578 hg wq2 hbox hb;have n_ := Z67;clear BK577 HB;obtain ⟨BK577,HB,BK578,GW578,GE578,NB577_578,NB578_577⟩ := n_;clear hb hbox hg;have hnbq3 := NB577_578.out;have hncq3 := NB578_577.out;obtain ⟨hczq4_0,hczq4_1,hfzq4_0,hfzq4_1⟩ := cells2 BK577.out) | ((with_reducible refine gate_callee (f := 46) rfl ?_);refine goesL_ (some 8) rfl rfl Try.func46 Z310 rfl #[.int .i64 a0_0,.int .i64 0,.int .i64 40] rfl Z249 ?_;(with_reducible refine (spec_l1In.calls a0_0 0 40 true _ A3.out).mono ?_);rintro e w' ⟨rfl,⟨nd,rfl⟩⟩;refine ⟨_,rfl,?_⟩;(iterate 4 (try (rw [drewN_self wq2];generalize hq_ : World.drewN wq2 _ = wq2;have n0_ : Aside0 (wq2.heap[gb577]? = some (.cells #[.int .i64 a0_0,.int .i64 a0_1] 25 (0,0))) := ⟨Z286⟩;have n1_ : Aside0 (wq2.heap[gb578]? = some (.cells #[.bool false,.int .u64 0,.int .u64 0,.int .i64 0] 41 (0,0))) := ⟨Z285⟩;have n2_ : Aside0 (Below w.heap.size w wq2) := ⟨Z187⟩;clear BK577 BK578 HB hq_;have BK577 := n0_;have BK578 := n1_;have HB := n2_;clear n0_ n1_ n2_)));(try (obtain ⟨hczq4_0,hczq4_1,hfzq4_0,hfzq4_1⟩ := cells2 BK577.out))) | (go_at_call 46;(with_reducible refine (spec_l1In.calls a1 1 100 true _ A5.out).mono ?_);rintro e w' ⟨rfl,⟨nd,rfl⟩⟩;(iterate 4 (try (rw [drewN_self wq2];generalize hq_ : World.drewN wq2 _ = wq2;have n0_ : Aside0 (wq2.heap[gb577]? = some (.cells #[.int .i64 a0_0,.int .i64 a0_1] 25 (0,0))) := ⟨Z286⟩;have n1_ : Aside0 (wq2.heap[gb578]? = some (.cells #[.bool false,.int .u64 0,.int .u64 0,.int .i64 0] 41 (0,0))) := ⟨Z285⟩;have n2_ : Aside0 (Below w.heap.size w wq2) := ⟨Z187⟩;clear BK577 BK578 HB hq_;have BK577 := n0_;have BK578 := n1_;have HB := n2_;clear n0_ n1_ n2_)));(try (obtain ⟨hczq4_0,hczq4_1,hfzq4_0,hfzq4_1⟩ := cells2 BK577.out))) | ((with_reducible refine gate_callee (f := 47) rfl ?_);refine goesL_ (some 22) rfl rfl Try.func47 Z310 rfl #[.int .i64 a0_1,.int .i64 (wrap64 (a0_0 + a1))] rfl Z249 ?_;(with_reducible refine (spec_SquareOver.calls a0_1 (wrap64 (a0_0 + a1)) t581 t582 t583 t584 t585 _ A7.out).mono ?_);rintro e wq5 ⟨rfl,hb⟩;refine ⟨_,rfl,?_⟩;have n_ := jA (blk_below (g := gb577) (o := .cells #[.int .i64 a0_0,.int .i64 a0_1] 25 (0,0)) Z500 hb) (jA (blk_below (g := gb578) (o := .cells #[.bool false,.int .u64 0,.int .u64 0,.int .i64 0] 41 (0,0)) (by refine bP ?_;exact BK578.out) hb) (Aside0.mk (below_step Z371 hb)));clear BK577 BK578 HB;obtain ⟨BK577,BK578,HB⟩ := n_;(try clear hb);(try clear hb2);(try clear hk);(try clear hi);obtain ⟨hczq6_0,hczq6_1,hczq6_2,hczq6_3,hfzq6_0,hfzq6_1,hfzq6_2,hfzq6_3⟩ := cells4 BK578.out))
 refine bodyPost_ret (results_ct rfl _ _ gb578 41 #[.bool t581,.int .u64 t582,.int .u64 t583,.int .i64 t584] (0,0) _ rfl (by refine bP ?_;refine blk_put (cs := #[.bool t581,.int .u64 t582,.int .u64 t583,.int .i64 0]) ?_ 3 _ rfl;refine bP ?_;refine blk_put (cs := #[.bool t581,.int .u64 t582,.int .u64 0,.int .i64 0]) ?_ 2 _ rfl;refine bP ?_;refine blk_put (cs := #[.bool t581,.int .u64 0,.int .u64 0,.int .i64 0]) ?_ 1 _ rfl;refine bP ?_;refine blk_put (cs := #[.bool false,.int .u64 0,.int .u64 0,.int .i64 0]) ?_ 0 _ rfl;refine bP ?_;exact BK578.out) Try.underlying41 rfl Z310) rfl ?_
 exact ⟨Z265,Z371⟩

/-! ### spec_l3Zero: function 51 -/
def spec_l3Zero.f (a0_0 : Bool) (a0_1 : Int) (a0_2 : Int) : Option (Bool) := if a0_1 = 0 then (some (a0_2 == 0)) else (some false)
set_option maxHeartbeats 8000000 in
set_option maxRecDepth 100000 in
theorem spec_l3Zero.calls (a0_0 : Bool) (a0_1 : Int) (a0_2 : Int) (r : Bool) (w : World) (h : spec_l3Zero.f a0_0 a0_1 a0_2 = some r) :
  Calls Try.prog 51 #[.agg #[.bool a0_0,.int .u64 a0_1,.int .u64 a0_2]] w fun e w' => e = .returned (.bool r) ∧ Below w.heap.size w w' := by
 have hu39 := Try.underlying39
 have HB := Aside0.mk (Below.refl w.heap.size w)
 have H := h
 clear h
 unfold spec_l3Zero.f at H
 by_cases c2 : a0_1 = 0
 rotate_left
 ·rw [if_neg c2] at H
  have c2b0 : (a0_1 == 0) = false := beq_eq_false_iff_ne.mpr c2
  have c2b1 : (a0_1 != 0) = true := bne_iff_ne.mpr c2
  obtain rfl := Option.some.inj H
  go_enter Try.func51,Try.ntmps51
  go_wp2_with (first | ((with_reducible refine gate_dst (N := 1) rfl ?_);refine bE 1 #[.bool a0_0,.int .u64 a0_1,.int .u64 a0_2] 39 (h := ?_);intro gb586 hg wq1 hbox hb;have n_ := Z113;clear HB;obtain ⟨HB,BK586,GW586,GE586⟩ := n_;clear hb hbox hg;obtain ⟨hczq2_0,hczq2_1,hczq2_2,hfzq2_0,hfzq2_1,hfzq2_2⟩ := cells3 BK586.out))
  go_ret
  exact ⟨Z265,Z245⟩
 rw [if_pos c2] at H
 have c2b0 : (a0_1 == 0) = true := beq_iff_eq.mpr c2
 have c2b1 : (a0_1 != 0) = false := bne_eq_false_iff_eq.mpr c2
 clear c2
 obtain rfl := Option.some.inj H
 go_enter Try.func51,Try.ntmps51
 go_wp2_with (first | ((with_reducible refine gate_dst (N := 1) rfl ?_);refine bE 1 #[.bool a0_0,.int .u64 a0_1,.int .u64 a0_2] 39 (h := ?_);intro gb586 hg wq1 hbox hb;have n_ := Z113;clear HB;obtain ⟨HB,BK586,GW586,GE586⟩ := n_;clear hb hbox hg;obtain ⟨hczq2_0,hczq2_1,hczq2_2,hfzq2_0,hfzq2_1,hfzq2_2⟩ := cells3 BK586.out))
 go_ret
 exact ⟨Z265,Z245⟩

end Go.Proofs.Ytlflcgdcegohjaa.QFnBetter
