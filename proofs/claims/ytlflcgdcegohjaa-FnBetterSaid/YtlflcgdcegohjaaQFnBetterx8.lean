/- The machine side of FnBetter: what each Go function that it reaches comes to. Conditions: none. -/
import Derived.Test.YtlflcgdcegohjaaQFnBetterx0
import Derived.Test.YtlflcgdcegohjaaQFnBetterx6
import Derived.Test.YtlflcgdcegohjaaQFnBetterx7
namespace Go.Proofs.Ytlflcgdcegohjaa.QFnBetter
open Go.RowKit Go.Proofs.YtlflcgdcegohjaaW.PrintWords Go.Proofs.YtlflcgdcegohjaaW.PrintLast Go.Proofs.YtlflcgdcegohjaaW.PrintMore
attribute [local go_sem] max2_int min2_int max_two min_two max_three min_three max_four min_four   -- for this text's walks alone
set_option linter.unusedVariables false
set_option linter.unusedSimpArgs false

/-! ### cmp_isNaN_uint64: function 67 -/
def cmp_isNaN_uint64.f (a0 : Int) : Option (Bool) := some (a0 != a0)
set_option maxHeartbeats 8000000 in
set_option maxRecDepth 100000 in
theorem cmp_isNaN_uint64.calls (a0 : Int) (r : Bool) (w : World) (h : cmp_isNaN_uint64.f a0 = some r) :
  Calls Try.prog 67 #[.int .u64 a0] w fun e w' => e = .returned (.bool r) ∧ Drawn0 w w' := by
 have H := h
 clear h
 unfold cmp_isNaN_uint64.f at H
 obtain rfl := Option.some.inj H
 go_enter Try.func67,Try.ntmps67
 go_wp2
 go_ret
 exact ⟨Z294,Z271⟩

/-! ### cmp_Compare_uint64: function 61 -/
def cmp_Compare_uint64.f (a0 : Int) (a1 : Int) : Option (Int) := (cmp_isNaN_uint64.f a0).bind fun t433 => ((cmp_isNaN_uint64.f a1).bind fun t434 => (if t433 = true then (if t434 = true then (some 0) else (some (-1))) else (if t434 = true then (some 1) else (if a0 < a1 then (some (-1)) else (if a0 > a1 then (some 1) else (some 0))))))
set_option maxHeartbeats 8000000 in
set_option maxRecDepth 100000 in
theorem cmp_Compare_uint64.calls (a0 : Int) (a1 : Int) (r : Int) (w : World) (h : cmp_Compare_uint64.f a0 a1 = some r) :
  Calls Try.prog 61 #[.int .u64 a0,.int .u64 a1] w fun e w' => e = .returned (.int .i64 r) ∧ Drawn0 w w' := by
 have H := h
 clear h
 unfold cmp_Compare_uint64.f at H
 obtain ⟨t433,A30,H⟩ := Option.bind_eq_some_iff.mp H
 have A3 := Aside0.mk A30
 clear A30
 obtain ⟨t434,A40,H⟩ := Option.bind_eq_some_iff.mp H
 have A4 := Aside0.mk A40
 clear A40
 by_cases c5 : t433 = true
 ·subst c5
  rw [if_pos rfl] at H
  by_cases c6 : t434 = true
  ·subst c6
   rw [if_pos rfl] at H
   obtain rfl := Option.some.inj H
   go_enter Try.func61,Try.ntmps61
   go_wp2_with (first | ((with_reducible refine gate_callee (f := 67) rfl ?_);refine goesL_ (some 8) rfl rfl Try.func67 Z310 rfl #[.int .u64 a0] rfl Z249 ?_;(with_reducible refine (cmp_isNaN_uint64.calls a0 true _ A3.out).mono ?_);rintro e w' ⟨rfl,⟨nd,rfl⟩⟩;refine ⟨_,rfl,?_⟩) | ((with_reducible refine gate_callee (f := 67) rfl ?_);refine goesL_ (some 10) rfl rfl Try.func67 Z310 rfl #[.int .u64 a1] rfl Z249 ?_;(with_reducible refine (cmp_isNaN_uint64.calls a1 true _ A4.out).mono ?_);rintro e w' ⟨rfl,⟨nd,rfl⟩⟩;refine ⟨_,rfl,?_⟩))
   go_ret
   exact ⟨Z294,Z271⟩
  replace c6 := Bool.eq_false_iff.mpr c6
  subst c6
  rw [if_neg Bool.false_ne_true] at H
  obtain rfl := Option.some.inj H
  go_enter Try.func61,Try.ntmps61
  go_wp2_with (first | ((with_reducible refine gate_callee (f := 67) rfl ?_);refine goesL_ (some 8) rfl rfl Try.func67 Z310 rfl #[.int .u64 a0] rfl Z249 ?_;(with_reducible refine (cmp_isNaN_uint64.calls a0 true _ A3.out).mono ?_);rintro e w' ⟨rfl,⟨nd,rfl⟩⟩;refine ⟨_,rfl,?_⟩) | ((with_reducible refine gate_callee (f := 67) rfl ?_);refine goesL_ (some 10) rfl rfl Try.func67 Z310 rfl #[.int .u64 a1] rfl Z249 ?_;(with_reducible refine (cmp_isNaN_uint64.calls a1 false _ A4.out).mono ?_);rintro e w' ⟨rfl,⟨nd,rfl⟩⟩;refine ⟨_,rfl,?_⟩))
  go_ret
  exact ⟨Z294,Z271⟩
 replace c5 := Bool.eq_false_iff.mpr c5
 subst c5
 rw [if_neg Bool.false_ne_true] at H
 by_cases c7 : t434 = true
 ·subst c7
  rw [if_pos rfl] at H
  obtain rfl := Option.some.inj H
  go_enter Try.func61,Try.ntmps61
  go_wp2_with (first | ((with_reducible refine gate_callee (f := 67) rfl ?_);refine goesL_ (some 8) rfl rfl Try.func67 Z310 rfl #[.int .u64 a0] rfl Z249 ?_;(with_reducible refine (cmp_isNaN_uint64.calls a0 false _ A3.out).mono ?_);rintro e w' ⟨rfl,⟨nd,rfl⟩⟩;refine ⟨_,rfl,?_⟩) | ((with_reducible refine gate_callee (f := 67) rfl ?_);refine goesL_ (some 10) rfl rfl Try.func67 Z310 rfl #[.int .u64 a1] rfl Z249 ?_;(with_reducible refine (cmp_isNaN_uint64.calls a1 true _ A4.out).mono ?_);rintro e w' ⟨rfl,⟨nd,rfl⟩⟩;refine ⟨_,rfl,?_⟩))
  go_ret
  exact ⟨Z294,Z271⟩
 replace c7 := Bool.eq_false_iff.mpr c7
 subst c7
 rw [if_neg Bool.false_ne_true] at H
 by_cases c8 : a0 < a1
 ·rw [if_pos c8] at H
  have c8b0 : decide (a0 < a1) = true := decide_eq_true c8
  clear c8
  obtain rfl := Option.some.inj H
  go_enter Try.func61,Try.ntmps61
  go_wp2_with (first | ((with_reducible refine gate_callee (f := 67) rfl ?_);refine goesL_ (some 8) rfl rfl Try.func67 Z310 rfl #[.int .u64 a0] rfl Z249 ?_;(with_reducible refine (cmp_isNaN_uint64.calls a0 false _ A3.out).mono ?_);rintro e w' ⟨rfl,⟨nd,rfl⟩⟩;refine ⟨_,rfl,?_⟩) | ((with_reducible refine gate_callee (f := 67) rfl ?_);refine goesL_ (some 10) rfl rfl Try.func67 Z310 rfl #[.int .u64 a1] rfl Z249 ?_;(with_reducible refine (cmp_isNaN_uint64.calls a1 false _ A4.out).mono ?_);rintro e w' ⟨rfl,⟨nd,rfl⟩⟩;refine ⟨_,rfl,?_⟩))
  go_ret
  exact ⟨Z294,Z271⟩
 rw [if_neg c8] at H
 have c8b0 : decide (a0 < a1) = false := decide_eq_false c8
 clear c8
 by_cases c9 : a0 > a1
 ·rw [if_pos c9] at H
  have c9b0 : decide (a1 < a0) = true := decide_eq_true c9
  clear c9
  obtain rfl := Option.some.inj H
  go_enter Try.func61,Try.ntmps61
  go_wp2_with (first | ((with_reducible refine gate_callee (f := 67) rfl ?_);refine goesL_ (some 8) rfl rfl Try.func67 Z310 rfl #[.int .u64 a0] rfl Z249 ?_;(with_reducible refine (cmp_isNaN_uint64.calls a0 false _ A3.out).mono ?_);rintro e w' ⟨rfl,⟨nd,rfl⟩⟩;refine ⟨_,rfl,?_⟩) | ((with_reducible refine gate_callee (f := 67) rfl ?_);refine goesL_ (some 10) rfl rfl Try.func67 Z310 rfl #[.int .u64 a1] rfl Z249 ?_;(with_reducible refine (cmp_isNaN_uint64.calls a1 false _ A4.out).mono ?_);rintro e w' ⟨rfl,⟨nd,rfl⟩⟩;refine ⟨_,rfl,?_⟩))
  go_ret
  exact ⟨Z294,Z271⟩
 rw [if_neg c9] at H
 have c9b0 : decide (a1 < a0) = false := decide_eq_false c9
 clear c9
 obtain rfl := Option.some.inj H
 go_enter Try.func61,Try.ntmps61
 go_wp2_with (first | ((with_reducible refine gate_callee (f := 67) rfl ?_);refine goesL_ (some 8) rfl rfl Try.func67 Z310 rfl #[.int .u64 a0] rfl Z249 ?_;(with_reducible refine (cmp_isNaN_uint64.calls a0 false _ A3.out).mono ?_);rintro e w' ⟨rfl,⟨nd,rfl⟩⟩;refine ⟨_,rfl,?_⟩) | ((with_reducible refine gate_callee (f := 67) rfl ?_);refine goesL_ (some 10) rfl rfl Try.func67 Z310 rfl #[.int .u64 a1] rfl Z249 ?_;(with_reducible refine (cmp_isNaN_uint64.calls a1 false _ A4.out).mono ?_);rintro e w' ⟨rfl,⟨nd,rfl⟩⟩;refine ⟨_,rfl,?_⟩))
 go_ret
 exact ⟨Z294,Z271⟩

/-! ### impl_compareSizes: function 44 -/
def impl_compareSizes.f (k : Nat) (a0_0 : Bool) (a0_1 : Int) (a0_2 : Int) (a1_0 : Bool) (a1_1 : Int) (a1_2 : Int) : Option (Int) := (cmp_Compare_uint64.f a0_1 a1_1).bind fun t437 => ((cmp_Compare_uint64.f a0_2 a1_2).bind fun t438 => ((cmp_Or_int.f k (([t437,t438] : List Int))).bind fun t442 => (some t442)))
theorem impl_compareSizes.mono : ∀ a0 a1 a2 a3 a4 a5 k,LeO (impl_compareSizes.f k a0 a1 a2 a3 a4 a5) (impl_compareSizes.f (k + 1) a0 a1 a2 a3 a4 a5) := by
 intro a0 a1 a2 a3 a4 a5 k
 unfold impl_compareSizes.f
 repeat' first
   | (with_reducible exact cmp_Or_int.mono _ _)
   | (with_reducible exact LeO.refl _)
   | (with_reducible exact LeO.none _)
   | (with_reducible refine LeO.ite ?_ ?_)
   | (with_reducible refine LeO.bind ?_ (fun _ => ?_))
   | exact cmp_Or_int.mono _ _
   | exact LeO.none _
   | refine LeO.ite ?_ ?_
   | refine LeO.bind ?_ (fun _ => ?_)
def impl_compareSizes.T1 : Bool × List (List Nat × List Nat) := (true,[([],[]),([0],[0]),([],[]),([2],[2]),([1,3],[1,3]),([],[]),([5],[5]),([],[]),([7],[7]),([6,8,4],[6,8]),([4,9],[4,9]),([10,9],[10]),([11,11,0,1,2,3,4,5,6,7,8,9,10,11],[11])])
def impl_compareSizes.B1 : List Nat := [0,1,0,4,15,0,32,0,128,511,1023,2047,4095]
theorem impl_compareSizes.tab1 : rtab .any (opsOf Try.f44 1) = impl_compareSizes.T1 := by kernel_rfl
theorem impl_compareSizes.bits1 : waitsOk impl_compareSizes.T1.2 impl_compareSizes.B1 = true := by kernel_rfl
set_option maxHeartbeats 8000000 in
set_option maxRecDepth 100000 in
theorem impl_compareSizes.calls (k : Nat) (a0_0 : Bool) (a0_1 : Int) (a0_2 : Int) (a1_0 : Bool) (a1_1 : Int) (a1_2 : Int) (r : Int) (w : World) (h : impl_compareSizes.f k a0_0 a0_1 a0_2 a1_0 a1_1 a1_2 = some r) :
  Calls Try.prog 44 #[.agg #[.bool a0_0,.int .u64 a0_1,.int .u64 a0_2],.agg #[.bool a1_0,.int .u64 a1_1,.int .u64 a1_2]] w fun e w' => e = .returned (.int .i64 r) ∧ Below w.heap.size w w' := by
 have hu39 := Try.underlying39
 have HB := Aside0.mk (Below.refl w.heap.size w)
 have H := h
 clear h
 unfold impl_compareSizes.f at H
 obtain ⟨t437,A30,H⟩ := Option.bind_eq_some_iff.mp H
 have A3 := Aside0.mk A30
 clear A30
 obtain ⟨t438,A40,H⟩ := Option.bind_eq_some_iff.mp H
 have A4 := Aside0.mk A40
 clear A40
 obtain ⟨y439,hy439⟩ : ∃ y_ : List Int,y_ = (([t437,t438] : List Int)) := ⟨_,rfl⟩
 replace H : ((cmp_Or_int.f k y439).bind fun t442 => (some t442)) = some r := by first | (rw [hy439];with_reducible exact H) | (have H2_ := (Option.bind_some _ _).symm.trans H;rw [hy439];with_reducible exact H2_) | (have H2_ := (Option.bind_some _ _).symm.trans H;with_reducible exact H2_) | with_reducible exact H | (rw [hy439];exact H) | exact H
 have Ny439 := Aside0.mk hy439
 clear hy439
 obtain ⟨t442,A50,H⟩ := Option.bind_eq_some_iff.mp H
 have A5 := Aside0.mk A50
 clear A50
 obtain rfl := Option.some.inj H
 go_enter Try.func44,Try.ntmps44
 try go_wp2_with (first | ((with_reducible refine gate_dst (N := 2) rfl ?_);refine bE 2 #[.bool a0_0,.int .u64 a0_1,.int .u64 a0_2] 39 (h := ?_);intro gb435 hg w6 hbox hb;have n_ := jA (below_step Z574 hb) (jA (hbox) (jA ((Z405 : w.heap.size ≤ gb435)) (Aside0.mk ((Z405 : w.heap.size ≤ gb435)))));clear HB;obtain ⟨HB,BK435,GW435,GE435⟩ := n_;clear hb hbox hg) | ((with_reducible refine gate_dst (N := 3) rfl ?_);refine bE 3 #[.bool a1_0,.int .u64 a1_1,.int .u64 a1_2] 39 (h := ?_);intro gb436 hg w7 hbox hb;have n_ := jA (blk_below (g := gb435) (o := .cells #[.bool a0_0,.int .u64 a0_1,.int .u64 a0_2] 39 (0,0)) Z304 hb) (jA (below_step Z440 hb) (jA (hbox) (jA ((Z217 : w.heap.size ≤ gb436)) (jA ((Z217 : w.heap.size ≤ gb436)) (jA ((by rw [hg];exact Nat.ne_of_lt (blk_lt (g := gb435) (o := .cells #[.bool a0_0,.int .u64 a0_1,.int .u64 a0_2] 39 (0,0)) Z304) : gb435 ≠ gb436)) (Aside0.mk ((by rw [hg];exact Nat.ne_of_gt (blk_lt (g := gb435) (o := .cells #[.bool a0_0,.int .u64 a0_1,.int .u64 a0_2] 39 (0,0)) Z304) : gb436 ≠ gb435))))))));clear BK435 HB;obtain ⟨BK435,HB,BK436,GW436,GE436,NB435_436,NB436_435⟩ := n_;clear hb hbox hg))
 have n0_ := Aside0.mk (blk_drew BK435.out)
 have n1_ := Aside0.mk (blk_drew BK436.out)
 have n2_ := Aside0.mk (below_drew1 HB.out)
 clear BK435
 clear BK436
 clear HB
 have BK435 := n0_
 have BK436 := n1_
 have HB := n2_
 clear n0_ n1_ n2_
 refine start_ (n := 13) (S := fun w' => w'.cell? ⟨gb435,0,none⟩ = some (.bool a0_0) ∧ w'.cell? ⟨gb435,1,none⟩ = some (.int .u64 a0_1) ∧ w'.cell? ⟨gb435,2,none⟩ = some (.int .u64 a0_2) ∧ w'.cell? ⟨gb436,0,none⟩ = some (.bool a1_0) ∧ w'.cell? ⟨gb436,1,none⟩ = some (.int .u64 a1_1) ∧ w'.cell? ⟨gb436,2,none⟩ = some (.int .u64 a1_2)) (ds := []) (qM 13 0) Z310 rfl (by kernel_rfl) ⟨bc BK435 0,bc BK435 1,bc BK435 2,bc BK436 0,bc BK436 1,bc BK436 2⟩ (fun hHeld => ?_);refine with_tabW impl_compareSizes.tab1 impl_compareSizes.bits1 (fun HT_ HW_ => ?_)
 generalize w7.drew = w8 at BK435 BK436 HB hHeld ⊢
 refine rP 0 5 13 1 HT_ (h := ?_)
 refine rP 2 7 13 5 HT_ (h := ?_)
 refine rP 5 10 13 37 HT_ (h := ?_)
 refine rP 7 12 13 165 HT_ (h := ?_)
 refine rT6 1 6 13 167 HT_ HW_ hHeld (h := ?_)
 refine rT6 3 8 13 175 HT_ HW_ hHeld (h := ?_)
 refine rT6 6 11 13 239 HT_ HW_ hHeld (h := ?_)
 refine rT6 8 13 13 495 HT_ HW_ hHeld (h := ?_)
 refine rO 4 9 13 511 HT_ (h := fun K hK => ?_)
 refine goes_ Try.func61 Z310 rfl #[.int .u64 a0_1,.int .u64 a1_1] Z311 rfl rfl Z249 ?_
 with_reducible refine (cmp_Compare_uint64.calls a0_1 a1_1 t437 _ A3.out).mono ?_
 rintro e w' ⟨rfl,⟨nd,rfl⟩⟩
 refine ⟨_,rfl,?_⟩
 refine hK.out _ _ ⟨bc BK435 0,bc BK435 1,bc BK435 2,bc BK436 0,bc BK436 1,bc BK436 2⟩ (fun hHeld => ?_)
 clear hK K
 refine rN (h := ?_)
 refine rO 9 14 13 1023 HT_ (h := fun K hK => ?_)
 refine goes_ Try.func61 Z310 rfl #[.int .u64 a0_2,.int .u64 a1_2] Z311 rfl rfl Z249 ?_
 with_reducible refine (cmp_Compare_uint64.calls a0_2 a1_2 t438 _ A4.out).mono ?_
 rintro e w' ⟨rfl,⟨nd,rfl⟩⟩
 refine ⟨_,rfl,?_⟩
 refine hK.out _ _ ⟨bc BK435 0,bc BK435 1,bc BK435 2,bc BK436 0,bc BK436 1,bc BK436 2⟩ (fun hHeld => ?_)
 clear hK K
 refine rN (h := ?_)
 refine rO 10 15 13 2047 HT_ (h := fun K hK => ?_)
 refine Kd.R_lit_step (Kd.int .i64) _ 3 ?hg (N := 15) ?hd (xs := ([t437,t438] : List Int)) (inner := [.int .i64 t437,.int .i64 t438]) (ok := fun _ => True) (okp := fun _ => True) ?hr ?hp (fun _ hk => hk) trivial (Below.refl _ _) (Nat.le_refl _) Z524 ?_;(case hd => rfl);(case hg => rfl);(case hr => exact Z295);(case hp => exact (Reps.one (show Kd.M (Kd.int .i64) _ _ _ t437 [.int .i64 t437] from rfl) (Reps.one (show Kd.M (Kd.int .i64) _ _ _ t438 [.int .i64 t438] from rfl) (Reps.none _ _))))
 intro v440 w9 ho10 hb hg_ hnew_
 clear hg_ hnew_
 (first | rw [← Ny439.out] at ho10 | (simp only [Int.reduceToNat] at ho10;rw [← Ny439.out] at ho10))
 have n0_ := Aside0.mk (Kd.R_lower ho10 (below_size Z207))
 have n1_ := Aside0.mk (blk_below (g := gb435) (o := .cells #[.bool a0_0,.int .u64 a0_1,.int .u64 a0_2] 39 (0,0)) Z304 hb)
 have n2_ := Aside0.mk (blk_below (g := gb436) (o := .cells #[.bool a1_0,.int .u64 a1_1,.int .u64 a1_2] 39 (0,0)) (by refine bP ?_;exact BK436.out) hb)
 have n3_ := Aside0.mk (below_step Z207 hb)
 clear BK435
 clear BK436
 clear HB
 have HO441 := n0_
 have BK435 := n1_
 have BK436 := n2_
 have HB := n3_
 clear n0_ n1_ n2_ n3_
 clear hb ho10
 obtain ⟨Ao11,co11,eo11⟩ := Kd.R_slice HO441.out
 (first | subst eo11 | (injection eo11 with f1_ f2_ f3_;have f4_ := f1_.symm;have f5_ := f3_.symm;clear f1_ f2_ f3_;subst f4_;subst f5_))
 refine hK.out _ _ ⟨bc BK435 0,bc BK435 1,bc BK435 2,bc BK436 0,bc BK436 1,bc BK436 2⟩ (fun hHeld => ?_)
 clear hK K
 refine rN (h := ?_)
 refine rO 11 16 13 4095 HT_ (h := fun K hK => ?_)
 refine goes_ Try.func27 Z310 rfl #[.slice Ao11 y439.length co11] Z311 rfl rfl Z249 ?_
 with_reducible refine (cmp_Or_int.calls k _ _ y439 t442 _ ?side1 ?side2 A5.out).mono ?_
 (case side1 => repeat (first | exact (Kd.R_reads' HO441.out).2.2 | (with_reducible refine Kd.C_alloc ?_ _) | (with_reducible refine Kd.C_drewN ?_ _) | (with_reducible refine Kd.C_drew ?_)))
 (case side2 => exact (Kd.R_reads' HO441.out).2.1)
 rintro e w' ⟨rfl,⟨nd,rfl⟩⟩
 refine ⟨_,rfl,?_⟩
 refine hK.out _ _ ⟨bc BK435 0,bc BK435 1,bc BK435 2,bc BK436 0,bc BK436 1,bc BK436 2⟩ (fun hHeld => ?_)
 clear hK K
 refine rN (h := ?_)
 refine rP 12 4 13 8191 HT_ (h := ?_)
 refine done_ (done_of HT_.out Z310) ?_
 try go_wp2
 go_ret
 exact ⟨Z265,Z207⟩

/-! ### bits_Sub64: function 57: the model stands in for it -/
def bits_Sub64.f (a0 : Int) (a1 : Int) (a2 : Int) : Option (Int × Int) := if 0 ≤ a0 ∧ 0 ≤ a1 ∧ a1 < 18446744073709551616 ∧ 0 ≤ a2 ∧ a2 ≤ 1 then some ((a0 + 18446744073709551616 - a1 - a2) % 18446744073709551616,if a0 < a1 + a2 then 1 else 0) else none
def sub64E : Array Value → Sem Value := fun args => do
 let (x,y,b) ← Extern.MathBitsCarry.three "Sub64" args
 pure (Extern.MathBitsCarry.pair ((x + Extern.MathBitsCarry.m64 - y - b) % Extern.MathBitsCarry.m64) (if x < y + b then 1 else 0))
theorem run_sub64E {P : Program} (x y b : Nat) (hb : b ≤ 1) (w : World) : (sub64E #[.int .u64 x,.int .u64 y,.int .u64 b]).run P w = .ok (.tuple #[.int .u64 (((x + 18446744073709551616 - y - b) % 18446744073709551616 : Nat) : Int),.int .u64 ((if x < y + b then 1 else 0 : Nat) : Int)]) w := by
 have : b = 0 ∨ b = 1 := by omega
 rcases this with rfl | rfl <;> rfl
theorem bits_Sub64.run (a0 a1 a2 r1 r2 : Int) (h : bits_Sub64.f a0 a1 a2 = some (r1,r2)) (w : World) : (callFunc 57 #[.int .u64 a0,.int .u64 a1,.int .u64 a2]).run Try.prog w = .ok (.value (.tuple #[.int .u64 r1,.int .u64 r2])) w := by
 unfold bits_Sub64.f at h
 split at h
 ·rename_i g
  simp only [Option.some.injEq,Prod.mk.injEq] at h
  obtain ⟨rfl,rfl⟩ := h
  obtain ⟨g0,g1,g4,g2,g3⟩ := g
  obtain ⟨x,rfl⟩ := Int.eq_ofNat_of_zero_le g0
  obtain ⟨y,rfl⟩ := Int.eq_ofNat_of_zero_le g1
  obtain ⟨b,rfl⟩ := Int.eq_ofNat_of_zero_le g2
  rw [run_callFunc_extern Try.func57 Z310 Z310 Z310 (e := sub64E) Z310,run_sub64E x y b Z523]
  have e1 : (((x + 18446744073709551616 - y - b) % 18446744073709551616 : Nat) : Int) = ((x : Int) + 18446744073709551616 - y - b) % 18446744073709551616 := by omega
  have e2 : ((if x < y + b then 1 else 0 : Nat) : Int) = if (x : Int) < y + b then 1 else 0 := by by_cases c : x < y + b <;> simp [c] <;> omega
  rw [e1,e2]
  rfl
 simp at h

/-! ### impl_AddWide: function 39 -/
def impl_AddWide.j0 : Nat → Bool → Bool → Int → Int → Bool → Int → Int → Option (Bool × Int × Int × Bool)
 | 0,_,_,_,_,_,_,_ => none
 | k + 1,x22,x444000,x444001,x444002,x445000,x445001,x445002 => if x22 = true then (some (false,0,0,false)) else (if (x444000 != x445000) = true then ((impl_compareSizes.f k x444000 x444001 x444002 x445000 x445001 x445002).bind fun t448 => (if t448 < 0 then ((bits_Sub64.f x445002 x444002 0).bind fun bt449 => ((bits_Sub64.f x445001 x444001 bt449.2).bind fun bt451 => ((impl_wideOf.f x445000 bt451.1 bt449.1).bind fun bt453 => (some (bt453.1,bt453.2.1,bt453.2.2,true))))) else ((bits_Sub64.f x444002 x445002 0).bind fun bt456 => ((bits_Sub64.f x444001 x445001 bt456.2).bind fun bt458 => ((impl_wideOf.f x444000 bt458.1 bt456.1).bind fun bt460 => (some (bt460.1,bt460.2.1,bt460.2.2,true))))))) else ((bits_Add64.f x444002 x445002 0).bind fun bt463 => ((bits_Add64.f x444001 x445001 bt463.2).bind fun bt465 => ((impl_wideOf.f x444000 bt465.1 bt463.1).bind fun bt467 => ((impl_WideOk.f bt467.1 bt467.2.1 bt467.2.2).bind fun t471 => (if t471 = true then (some (bt467.1,bt467.2.1,bt467.2.2,true)) else (some (false,0,0,false))))))))
def impl_AddWide.f (k : Nat) (a0_0 : Bool) (a0_1 : Int) (a0_2 : Int) (a1_0 : Bool) (a1_1 : Int) (a1_2 : Int) : Option (Bool × Int × Int × Bool) := (impl_WideOk.f a0_0 a0_1 a0_2).bind fun t446 => (if t446 = true then ((impl_WideOk.f a1_0 a1_1 a1_2).bind fun t447 => (impl_AddWide.j0 k (!t447) a0_0 a0_1 a0_2 a1_0 a1_1 a1_2)) else (impl_AddWide.j0 k true a0_0 a0_1 a0_2 a1_0 a1_1 a1_2))
theorem impl_AddWide.mono_l : ∀ k,(∀ y0 y1 y2 y3 y4 y5 y6,LeO (impl_AddWide.j0 k y0 y1 y2 y3 y4 y5 y6) (impl_AddWide.j0 (k + 1) y0 y1 y2 y3 y4 y5 y6))
 | 0 => fun _ _ _ _ _ _ _ r h => by simp [impl_AddWide.j0] at h
 | k + 1 => by
  have ih0 := impl_AddWide.mono_l k
  ·intro y0 y1 y2 y3 y4 y5 y6
   unfold impl_AddWide.j0
   repeat' first
   | (with_reducible exact ih0 _ _ _ _ _ _ _)
   | (with_reducible exact impl_compareSizes.mono _ _ _ _ _ _ _)
   | (with_reducible exact LeO.refl _)
   | (with_reducible exact LeO.none _)
   | (with_reducible refine LeO.ite ?_ ?_)
   | (with_reducible refine LeO.bind ?_ (fun _ => ?_))
   | exact ih0 _ _ _ _ _ _ _
   | exact impl_compareSizes.mono _ _ _ _ _ _ _
   | exact LeO.none _
   | refine LeO.ite ?_ ?_
   | refine LeO.bind ?_ (fun _ => ?_)
theorem impl_AddWide.mono : ∀ a0 a1 a2 a3 a4 a5 k,LeO (impl_AddWide.f k a0 a1 a2 a3 a4 a5) (impl_AddWide.f (k + 1) a0 a1 a2 a3 a4 a5) := by
 intro a0 a1 a2 a3 a4 a5 k
 have ih0 := impl_AddWide.mono_l k
 unfold impl_AddWide.f
 repeat' first
   | (with_reducible exact ih0 _ _ _ _ _ _ _)
   | (with_reducible exact impl_compareSizes.mono _ _ _ _ _ _ _)
   | (with_reducible exact LeO.refl _)
   | (with_reducible exact LeO.none _)
   | (with_reducible refine LeO.ite ?_ ?_)
   | (with_reducible refine LeO.bind ?_ (fun _ => ?_))
   | exact ih0 _ _ _ _ _ _ _
   | exact impl_compareSizes.mono _ _ _ _ _ _ _
   | exact LeO.none _
   | refine LeO.ite ?_ ?_
   | refine LeO.bind ?_ (fun _ => ?_)
set_option maxHeartbeats 8000000 in
set_option maxRecDepth 100000 in
theorem impl_AddWide.calls (k : Nat) (a0_0 : Bool) (a0_1 : Int) (a0_2 : Int) (a1_0 : Bool) (a1_1 : Int) (a1_2 : Int) (r1 : Bool) (r2 : Int) (r3 : Int) (r4 : Bool) (w : World) (h : impl_AddWide.f k a0_0 a0_1 a0_2 a1_0 a1_1 a1_2 = some (r1,r2,r3,r4)) :
  Calls Try.prog 39 #[.agg #[.bool a0_0,.int .u64 a0_1,.int .u64 a0_2],.agg #[.bool a1_0,.int .u64 a1_1,.int .u64 a1_2]] w fun e w' => e = .returned (.tuple #[.agg #[.bool r1,.int .u64 r2,.int .u64 r3],.bool r4]) ∧ Below w.heap.size w w' := by
 have hu39 := Try.underlying39
 have HB := Aside0.mk (Below.refl w.heap.size w)
 have H := h
 clear h
 unfold impl_AddWide.f at H
 have HC3 := Aside0.mk H
 clear H
 go_enter Try.func39,Try.ntmps39
 go_upto_region 1 with (first | ((with_reducible refine gate_dst (N := 2) rfl ?_);refine bE 2 #[.bool a0_0,.int .u64 a0_1,.int .u64 a0_2] 39 (h := ?_);intro gb443 hg w4 hbox hb;have n_ := jA (below_step Z574 hb) (jA (hbox) (jA ((Z405 : w.heap.size ≤ gb443)) (Aside0.mk ((Z405 : w.heap.size ≤ gb443)))));clear HB;obtain ⟨HB,BK443,GW443,GE443⟩ := n_;clear hb hbox hg) | ((with_reducible refine gate_dst (N := 3) rfl ?_);refine bE 3 #[.bool a1_0,.int .u64 a1_1,.int .u64 a1_2] 39 (h := ?_);intro gb444 hg w5 hbox hb;have n_ := jA (blk_below (g := gb443) (o := .cells #[.bool a0_0,.int .u64 a0_1,.int .u64 a0_2] 39 (0,0)) Z580 hb) (jA (below_step Z439 hb) (jA (hbox) (jA ((Z216 : w.heap.size ≤ gb444)) (jA ((Z216 : w.heap.size ≤ gb444)) (jA ((Z459 : gb443 ≠ gb444)) (Aside0.mk ((Z460 : gb444 ≠ gb443))))))));clear BK443 HB;obtain ⟨BK443,HB,BK444,GW444,GE444,NB443_444,NB444_443⟩ := n_;clear hb hbox hg) | ((with_reducible refine gate_dst (N := 4) rfl ?_);refine bE 4 #[.bool false,.int .u64 0,.int .u64 0] 39 (h := ?_);intro gb445 hg w6 hbox hb;have n_ := jA (blk_below (g := gb443) (o := .cells #[.bool a0_0,.int .u64 a0_1,.int .u64 a0_2] 39 (0,0)) Z580 hb) (jA (blk_below (g := gb444) (o := .cells #[.bool a1_0,.int .u64 a1_1,.int .u64 a1_2] 39 (0,0)) Z586 hb) (jA (below_step Z378 hb) (jA (hbox) (jA ((Z183 : w.heap.size ≤ gb445)) (jA ((Z183 : w.heap.size ≤ gb445)) (jA ((Z459 : gb443 ≠ gb445)) (jA ((Z460 : gb445 ≠ gb443)) (jA ((Z462 : gb444 ≠ gb445)) (Aside0.mk ((Z466 : gb445 ≠ gb444)))))))))));clear BK443 BK444 HB;obtain ⟨BK443,BK444,HB,BK445,GW445,GE445,NB443_445,NB445_443,NB444_445,NB445_444⟩ := n_;clear hb hbox hg))
 (try simp only [Act.put,List.setIfInBounds_toArray,List.set_cons_zero,List.set_cons_succ])
 go_cut [22] (fun v22 wc => ∃ (kq : Nat) (x22_2 : Bool),v22 = .bool x22_2 ∧ Aside0 (impl_AddWide.j0 kq x22_2 a0_0 a0_1 a0_2 a1_0 a1_1 a1_2 = some (r1,r2,r3,r4)) ∧ Aside0 (kq ≤ k) ∧ Aside0 (wc.heap[gb443]? = some (.cells #[.bool a0_0,.int .u64 a0_1,.int .u64 a0_2] 39 (0,0))) ∧ Aside0 (wc.heap[gb444]? = some (.cells #[.bool a1_0,.int .u64 a1_1,.int .u64 a1_2] 39 (0,0))) ∧ Aside0 (wc.heap[gb445]? = some (.cells #[.bool false,.int .u64 0,.int .u64 0] 39 (0,0))) ∧ Aside0 (Below w.heap.size w wc))
 case first =>
  have H := HC3.out
  clear HC3
  obtain ⟨t446,A70,H⟩ := Option.bind_eq_some_iff.mp H
  have A7 := Aside0.mk A70
  clear A70
  by_cases c8 : t446 = true
  rotate_left
  ·replace c8 := Bool.eq_false_iff.mpr c8
   subst c8
   rw [if_neg Bool.false_ne_true] at H
   have H' := Aside0.mk H
   clear H
   have hnb17 := NB443_444.out
   have hnc17 := NB444_443.out
   have hnb18 := NB443_445.out
   have hnc18 := NB445_443.out
   obtain ⟨hcz19_0,hcz19_1,hcz19_2,hfz19_0,hfz19_1,hfz19_2⟩ := cells3 BK443.out
   go_wp2_with (first | ((with_reducible refine gate_callee (f := 56) rfl ?_);refine goesL_ (some 16) rfl rfl Try.func56 Z310 rfl #[.agg #[.bool a0_0,.int .u64 a0_1,.int .u64 a0_2]] rfl Z249 ?_;(with_reducible refine (impl_WideOk.calls a0_0 a0_1 a0_2 false _ A7.out).mono ?_);rintro e w20 ⟨rfl,hb⟩;refine ⟨_,rfl,?_⟩;have n_ := Z90;clear BK443 BK444 BK445 HB;obtain ⟨BK443,BK444,BK445,HB⟩ := n_;(try clear hb);(try clear hb2);(try clear hk);(try clear hi)))
   go_meet
   case rel => exact ⟨_,(true),Z294,H',⟨Z296⟩,⟨Z580⟩,⟨Z586⟩,⟨Z495⟩,⟨Z535⟩⟩
  subst c8
  rw [if_pos rfl] at H
  obtain ⟨t447,A90,H⟩ := Option.bind_eq_some_iff.mp H
  have A9 := Aside0.mk A90
  clear A90
  have H' := Aside0.mk H
  clear H
  have hnb10 := NB443_444.out
  have hnc10 := NB444_443.out
  have hnb11 := NB443_445.out
  have hnc11 := NB445_443.out
  obtain ⟨hcz12_0,hcz12_1,hcz12_2,hfz12_0,hfz12_1,hfz12_2⟩ := cells3 BK443.out
  go_wp2_with (first | ((with_reducible refine gate_callee (f := 56) rfl ?_);refine goesL_ (some 16) rfl rfl Try.func56 Z310 rfl #[.agg #[.bool a0_0,.int .u64 a0_1,.int .u64 a0_2]] rfl Z249 ?_;(with_reducible refine (impl_WideOk.calls a0_0 a0_1 a0_2 true _ A7.out).mono ?_);rintro e w13 ⟨rfl,hb⟩;refine ⟨_,rfl,?_⟩;have n_ := Z90;clear BK443 BK444 BK445 HB;obtain ⟨BK443,BK444,BK445,HB⟩ := n_;(try clear hb);(try clear hb2);(try clear hk);(try clear hi);have hnb14 := NB444_445.out;have hnc14 := NB445_444.out;obtain ⟨hcz15_0,hcz15_1,hcz15_2,hfz15_0,hfz15_1,hfz15_2⟩ := cells3 BK444.out) | (go_at_call 56;(with_reducible refine (impl_WideOk.calls a1_0 a1_1 a1_2 t447 _ A9.out).mono ?_);rintro e w16 ⟨rfl,hb⟩;have n_ := Z90;clear BK443 BK444 BK445 HB;obtain ⟨BK443,BK444,BK445,HB⟩ := n_;(try clear hb);(try clear hb2);(try clear hk);(try clear hi)))
  go_meet
  case rel => exact ⟨_,(!t447),Z294,H',⟨Z296⟩,⟨Z580⟩,⟨Z586⟩,⟨Z495⟩,⟨Z535⟩⟩
 case rest =>
  clear HC3
  try clear c1
  try clear p2
  try clear c3
  try clear c5
  try clear c8
  try clear c10
  try clear c11
  try clear c14
  try clear c17
  try clear c18
  try clear hcz12_0
  try clear hcz12_1
  try clear hcz12_2
  try clear hcz15_0
  try clear hcz15_1
  try clear hcz15_2
  try clear hcz19_0
  try clear hcz19_1
  try clear hcz19_2
  try clear hfz12_0
  try clear hfz12_1
  try clear hfz12_2
  try clear hfz15_0
  try clear hfz15_1
  try clear hfz15_2
  try clear hfz19_0
  try clear hfz19_1
  try clear hfz19_2
  obtain ⟨kq,x22_2,rfl,HA,HJ2,BK443,BK444,BK445,HB⟩ := hcut
  cases kq with
  | zero => exact absurd HA.out (by simp [impl_AddWide.j0])
  | succ kj2 =>
   have H := HA.out
   clear HA
   simp only [impl_AddWide.j0] at H
   by_cases c21 : x22_2 = true
   ·subst c21
    rw [if_pos rfl] at H
    simp only [Option.some.injEq,Prod.mk.injEq] at H
    obtain ⟨rfl,rfl,rfl,rfl⟩ := H
    have hnb22 := NB445_443.out
    have hnc22 := NB443_445.out
    have hnb23 := NB445_444.out
    have hnc23 := NB444_445.out
    obtain ⟨hcz24_0,hcz24_1,hcz24_2,hfz24_0,hfz24_1,hfz24_2⟩ := cells3 BK445.out
    go_wp2
    refine bodyPost_ret (results_ct rfl _ _ gb445 39 #[.bool false,.int .u64 0,.int .u64 0] (0,0) _ rfl Z164 Try.underlying39 rfl Z310) rfl ?_
    exact ⟨Z265,Z535⟩
   replace c21 := Bool.eq_false_iff.mpr c21
   subst c21
   rw [if_neg Bool.false_ne_true] at H
   by_cases c25 : (a0_0 != a1_0) = true
   rotate_left
   ·rw [if_neg c25] at H
    have c25b0 : (a0_0 != a1_0) = false := by simpa using c25
    (try (have c25b1 : decide (a0_0 = a1_0) = true := by simpa using c25))
    (try (have c25b2 : (a0_0 == a1_0) = true := by simpa using c25))
    clear c25
    obtain ⟨⟨t463,t464⟩,A540,H⟩ := Option.bind_eq_some_iff.mp H
    try dsimp only at H
    have A54 := Aside0.mk A540
    clear A540
    obtain ⟨⟨t465,t466⟩,A550,H⟩ := Option.bind_eq_some_iff.mp H
    try dsimp only at H
    have A55 := Aside0.mk A550
    clear A550
    obtain ⟨⟨t467,t468,t469⟩,A560,H⟩ := Option.bind_eq_some_iff.mp H
    try dsimp only at H
    have A56 := Aside0.mk A560
    clear A560
    obtain ⟨t471,A570,H⟩ := Option.bind_eq_some_iff.mp H
    have A57 := Aside0.mk A570
    clear A570
    by_cases c58 : t471 = true
    rotate_left
    ·replace c58 := Bool.eq_false_iff.mpr c58
     subst c58
     rw [if_neg Bool.false_ne_true] at H
     simp only [Option.some.injEq,Prod.mk.injEq] at H
     obtain ⟨rfl,rfl,rfl,rfl⟩ := H
     have hnb73 := NB443_444.out
     have hnc73 := NB444_443.out
     have hnb74 := NB443_445.out
     have hnc74 := NB445_443.out
     obtain ⟨hcz75_0,hcz75_1,hcz75_2,hfz75_0,hfz75_1,hfz75_2⟩ := cells3 BK443.out
     have hnb76 := NB444_445.out
     have hnc76 := NB445_444.out
     obtain ⟨hcz77_0,hcz77_1,hcz77_2,hfz77_0,hfz77_1,hfz77_2⟩ := cells3 BK444.out
     go_wp2_with (first | (simp only [bits_Add64.run a0_2 a1_2 0 t463 t464 A54.out];(iterate 4 (try (rw [drewN_self wc];generalize hq_ : World.drewN wc _ = wc;have n0_ : Aside0 (wc.heap[gb443]? = some (.cells #[.bool a0_0,.int .u64 a0_1,.int .u64 a0_2] 39 (0,0))) := ⟨Z281⟩;have n1_ : Aside0 (wc.heap[gb444]? = some (.cells #[.bool a1_0,.int .u64 a1_1,.int .u64 a1_2] 39 (0,0))) := ⟨Z280⟩;have n2_ : Aside0 (wc.heap[gb445]? = some (.cells #[.bool false,.int .u64 0,.int .u64 0] 39 (0,0))) := ⟨Z279⟩;have n3_ : Aside0 (Below w.heap.size w wc) := ⟨Z174⟩;clear BK443 BK444 BK445 HB hq_;have BK443 := n0_;have BK444 := n1_;have BK445 := n2_;have HB := n3_;clear n0_ n1_ n2_ n3_)));(try (obtain ⟨hczq1_0,hczq1_1,hczq1_2,hfzq1_0,hfzq1_1,hfzq1_2⟩ := cells3 BK443.out));(try (obtain ⟨hczq2_0,hczq2_1,hczq2_2,hfzq2_0,hfzq2_1,hfzq2_2⟩ := cells3 BK444.out))) | (simp only [bits_Add64.run a0_1 a1_1 t464 t465 t466 A55.out];(iterate 4 (try (rw [drewN_self wc];generalize hq_ : World.drewN wc _ = wc;have n0_ : Aside0 (wc.heap[gb443]? = some (.cells #[.bool a0_0,.int .u64 a0_1,.int .u64 a0_2] 39 (0,0))) := ⟨Z281⟩;have n1_ : Aside0 (wc.heap[gb444]? = some (.cells #[.bool a1_0,.int .u64 a1_1,.int .u64 a1_2] 39 (0,0))) := ⟨Z280⟩;have n2_ : Aside0 (wc.heap[gb445]? = some (.cells #[.bool false,.int .u64 0,.int .u64 0] 39 (0,0))) := ⟨Z279⟩;have n3_ : Aside0 (Below w.heap.size w wc) := ⟨Z174⟩;clear BK443 BK444 BK445 HB hq_;have BK443 := n0_;have BK444 := n1_;have BK445 := n2_;have HB := n3_;clear n0_ n1_ n2_ n3_)));(try (obtain ⟨hczq1_0,hczq1_1,hczq1_2,hfzq1_0,hfzq1_1,hfzq1_2⟩ := cells3 BK443.out));(try (obtain ⟨hczq2_0,hczq2_1,hczq2_2,hfzq2_0,hfzq2_1,hfzq2_2⟩ := cells3 BK444.out))) | ((with_reducible refine gate_callee (f := 43) rfl ?_);refine goesL_ (some 78) rfl rfl Try.func43 Z310 rfl #[.bool a0_0,.int .u64 t465,.int .u64 t463] rfl Z249 ?_;(with_reducible refine (impl_wideOf.calls a0_0 t465 t463 t467 t468 t469 _ A56.out).mono ?_);rintro e wq3 ⟨rfl,hb⟩;refine ⟨_,rfl,?_⟩;have n_ := Z90;clear BK443 BK444 BK445 HB;obtain ⟨BK443,BK444,BK445,HB⟩ := n_;(try clear hb);(try clear hb2);(try clear hk);(try clear hi)) | ((with_reducible refine gate_dst (N := 14) rfl ?_);refine bE 14 #[.bool false,.int .u64 0,.int .u64 0] 39 (h := ?_);intro gb470 hg wq4 hbox hb;have n_ := Z25;clear BK443 BK444 BK445 HB;obtain ⟨BK443,BK444,BK445,HB,BK470,GW470,GE470,NB443_470,NB470_443,NB444_470,NB470_444,NB445_470,NB470_445⟩ := n_;clear hb hbox hg;have hnbq5 := NB470_443.out;have hncq5 := NB443_470.out;have hnbq6 := NB470_444.out;have hncq6 := NB444_470.out;have hnbq7 := NB470_445.out;have hncq7 := NB445_470.out;obtain ⟨hczq8_0,hczq8_1,hczq8_2,hfzq8_0,hfzq8_1,hfzq8_2⟩ := cells3 BK470.out) | ((with_reducible refine gate_callee (f := 56) rfl ?_);refine goesL_ (some 80) rfl rfl Try.func56 Z310 rfl #[.agg #[.bool t467,.int .u64 t468,.int .u64 t469]] rfl Z249 ?_;(with_reducible refine (impl_WideOk.calls t467 t468 t469 false _ A57.out).mono ?_);rintro e wq9 ⟨rfl,hb⟩;refine ⟨_,rfl,?_⟩;have n_ := Z49;clear BK443 BK444 BK445 BK470 HB;obtain ⟨BK443,BK444,BK445,BK470,HB⟩ := n_;(try clear hb);(try clear hb2);(try clear hk);(try clear hi);obtain ⟨hczq10_0,hczq10_1,hczq10_2,hfzq10_0,hfzq10_1,hfzq10_2⟩ := cells3 BK445.out))
     refine bodyPost_ret (results_ct rfl _ _ gb445 39 #[.bool false,.int .u64 0,.int .u64 0] (0,0) _ rfl Z164 Try.underlying39 rfl Z310) rfl ?_
     exact ⟨Z265,Z329⟩
    subst c58
    rw [if_pos rfl] at H
    simp only [Option.some.injEq,Prod.mk.injEq] at H
    obtain ⟨rfl,rfl,rfl,rfl⟩ := H
    have hnb59 := NB443_444.out
    have hnc59 := NB444_443.out
    have hnb60 := NB443_445.out
    have hnc60 := NB445_443.out
    obtain ⟨hcz61_0,hcz61_1,hcz61_2,hfz61_0,hfz61_1,hfz61_2⟩ := cells3 BK443.out
    have hnb62 := NB444_445.out
    have hnc62 := NB445_444.out
    obtain ⟨hcz63_0,hcz63_1,hcz63_2,hfz63_0,hfz63_1,hfz63_2⟩ := cells3 BK444.out
    go_wp2_with (first | (simp only [bits_Add64.run a0_2 a1_2 0 t463 t464 A54.out];(iterate 4 (try (rw [drewN_self wc];generalize hq_ : World.drewN wc _ = wc;have n0_ : Aside0 (wc.heap[gb443]? = some (.cells #[.bool a0_0,.int .u64 a0_1,.int .u64 a0_2] 39 (0,0))) := ⟨Z281⟩;have n1_ : Aside0 (wc.heap[gb444]? = some (.cells #[.bool a1_0,.int .u64 a1_1,.int .u64 a1_2] 39 (0,0))) := ⟨Z280⟩;have n2_ : Aside0 (wc.heap[gb445]? = some (.cells #[.bool false,.int .u64 0,.int .u64 0] 39 (0,0))) := ⟨Z279⟩;have n3_ : Aside0 (Below w.heap.size w wc) := ⟨Z174⟩;clear BK443 BK444 BK445 HB hq_;have BK443 := n0_;have BK444 := n1_;have BK445 := n2_;have HB := n3_;clear n0_ n1_ n2_ n3_)));(try (obtain ⟨hczq1_0,hczq1_1,hczq1_2,hfzq1_0,hfzq1_1,hfzq1_2⟩ := cells3 BK443.out));(try (obtain ⟨hczq2_0,hczq2_1,hczq2_2,hfzq2_0,hfzq2_1,hfzq2_2⟩ := cells3 BK444.out))) | (simp only [bits_Add64.run a0_1 a1_1 t464 t465 t466 A55.out];(iterate 4 (try (rw [drewN_self wc];generalize hq_ : World.drewN wc _ = wc;have n0_ : Aside0 (wc.heap[gb443]? = some (.cells #[.bool a0_0,.int .u64 a0_1,.int .u64 a0_2] 39 (0,0))) := ⟨Z281⟩;have n1_ : Aside0 (wc.heap[gb444]? = some (.cells #[.bool a1_0,.int .u64 a1_1,.int .u64 a1_2] 39 (0,0))) := ⟨Z280⟩;have n2_ : Aside0 (wc.heap[gb445]? = some (.cells #[.bool false,.int .u64 0,.int .u64 0] 39 (0,0))) := ⟨Z279⟩;have n3_ : Aside0 (Below w.heap.size w wc) := ⟨Z174⟩;clear BK443 BK444 BK445 HB hq_;have BK443 := n0_;have BK444 := n1_;have BK445 := n2_;have HB := n3_;clear n0_ n1_ n2_ n3_)));(try (obtain ⟨hczq1_0,hczq1_1,hczq1_2,hfzq1_0,hfzq1_1,hfzq1_2⟩ := cells3 BK443.out));(try (obtain ⟨hczq2_0,hczq2_1,hczq2_2,hfzq2_0,hfzq2_1,hfzq2_2⟩ := cells3 BK444.out))) | ((with_reducible refine gate_callee (f := 43) rfl ?_);refine goesL_ (some 78) rfl rfl Try.func43 Z310 rfl #[.bool a0_0,.int .u64 t465,.int .u64 t463] rfl Z249 ?_;(with_reducible refine (impl_wideOf.calls a0_0 t465 t463 t467 t468 t469 _ A56.out).mono ?_);rintro e wq3 ⟨rfl,hb⟩;refine ⟨_,rfl,?_⟩;have n_ := Z90;clear BK443 BK444 BK445 HB;obtain ⟨BK443,BK444,BK445,HB⟩ := n_;(try clear hb);(try clear hb2);(try clear hk);(try clear hi)) | ((with_reducible refine gate_dst (N := 14) rfl ?_);refine bE 14 #[.bool false,.int .u64 0,.int .u64 0] 39 (h := ?_);intro gb470 hg wq4 hbox hb;have n_ := Z25;clear BK443 BK444 BK445 HB;obtain ⟨BK443,BK444,BK445,HB,BK470,GW470,GE470,NB443_470,NB470_443,NB444_470,NB470_444,NB445_470,NB470_445⟩ := n_;clear hb hbox hg;have hnbq5 := NB470_443.out;have hncq5 := NB443_470.out;have hnbq6 := NB470_444.out;have hncq6 := NB444_470.out;have hnbq7 := NB470_445.out;have hncq7 := NB445_470.out;obtain ⟨hczq8_0,hczq8_1,hczq8_2,hfzq8_0,hfzq8_1,hfzq8_2⟩ := cells3 BK470.out) | ((with_reducible refine gate_callee (f := 56) rfl ?_);refine goesL_ (some 80) rfl rfl Try.func56 Z310 rfl #[.agg #[.bool t467,.int .u64 t468,.int .u64 t469]] rfl Z249 ?_;(with_reducible refine (impl_WideOk.calls t467 t468 t469 true _ A57.out).mono ?_);rintro e wq9 ⟨rfl,hb⟩;refine ⟨_,rfl,?_⟩;have n_ := Z49;clear BK443 BK444 BK445 BK470 HB;obtain ⟨BK443,BK444,BK445,BK470,HB⟩ := n_;(try clear hb);(try clear hb2);(try clear hk);(try clear hi);obtain ⟨hczq10_0,hczq10_1,hczq10_2,hfzq10_0,hfzq10_1,hfzq10_2⟩ := cells3 BK470.out;obtain ⟨hczq11_0,hczq11_1,hczq11_2,hfzq11_0,hfzq11_1,hfzq11_2⟩ := cells3 BK445.out))
    refine bodyPost_ret (results_ct rfl _ _ gb445 39 #[.bool t467,.int .u64 t468,.int .u64 t469] (0,0) _ rfl (by refine bP ?_;refine blk_put (cs := #[.bool t467,.int .u64 t468,.int .u64 0]) ?_ 2 _ rfl;refine bP ?_;refine blk_put (cs := #[.bool t467,.int .u64 0,.int .u64 0]) ?_ 1 _ rfl;refine bP ?_;refine blk_put (cs := #[.bool false,.int .u64 0,.int .u64 0]) ?_ 0 _ rfl;refine bP ?_;exact BK445.out) Try.underlying39 rfl Z310) rfl ?_
    exact ⟨Z265,Z329⟩
   rw [if_pos c25] at H
   have c25b0 : (a0_0 != a1_0) = true := c25
   (try (have c25b1 : decide (a0_0 = a1_0) = false := by simpa using c25))
   (try (have c25b2 : (a0_0 == a1_0) = false := by simpa using c25))
   (try (have c25b3 : ¬ (a0_0 = a1_0) := by simpa using c25))
   clear c25
   obtain ⟨t448,A260,H⟩ := Option.bind_eq_some_iff.mp H
   have A26 := Aside0.mk A260
   clear A260
   by_cases c27 : t448 < 0
   ·rw [if_pos c27] at H
    have c27b0 : decide (t448 < 0) = true := decide_eq_true c27
    clear c27
    obtain ⟨⟨t449,t450⟩,A280,H⟩ := Option.bind_eq_some_iff.mp H
    try dsimp only at H
    have A28 := Aside0.mk A280
    clear A280
    obtain ⟨⟨t451,t452⟩,A290,H⟩ := Option.bind_eq_some_iff.mp H
    try dsimp only at H
    have A29 := Aside0.mk A290
    clear A290
    obtain ⟨⟨t453,t454,t455⟩,A300,H⟩ := Option.bind_eq_some_iff.mp H
    try dsimp only at H
    have A30 := Aside0.mk A300
    clear A300
    simp only [Option.some.injEq,Prod.mk.injEq] at H
    obtain ⟨rfl,rfl,rfl,rfl⟩ := H
    have hnb31 := NB443_444.out
    have hnc31 := NB444_443.out
    have hnb32 := NB443_445.out
    have hnc32 := NB445_443.out
    obtain ⟨hcz33_0,hcz33_1,hcz33_2,hfz33_0,hfz33_1,hfz33_2⟩ := cells3 BK443.out
    have hnb34 := NB444_445.out
    have hnc34 := NB445_444.out
    obtain ⟨hcz35_0,hcz35_1,hcz35_2,hfz35_0,hfz35_1,hfz35_2⟩ := cells3 BK444.out
    go_wp2_with (first | ((with_reducible refine gate_callee (f := 44) rfl ?_);refine goesL_ (some 31) rfl rfl Try.func44 Z310 rfl #[.agg #[.bool a0_0,.int .u64 a0_1,.int .u64 a0_2],.agg #[.bool a1_0,.int .u64 a1_1,.int .u64 a1_2]] rfl Z249 ?_;(with_reducible refine (impl_compareSizes.calls kj2 a0_0 a0_1 a0_2 a1_0 a1_1 a1_2 t448 _ A26.out).mono ?_);rintro e wq1 ⟨rfl,hb⟩;refine ⟨_,rfl,?_⟩;have n_ := Z90;clear BK443 BK444 BK445 HB;obtain ⟨BK443,BK444,BK445,HB⟩ := n_;(try clear hb);(try clear hb2);(try clear hk);(try clear hi);obtain ⟨hczq2_0,hczq2_1,hczq2_2,hfzq2_0,hfzq2_1,hfzq2_2⟩ := cells3 BK444.out;obtain ⟨hczq3_0,hczq3_1,hczq3_2,hfzq3_0,hfzq3_1,hfzq3_2⟩ := cells3 BK443.out) | (simp only [bits_Sub64.run a1_2 a0_2 0 t449 t450 A28.out]) | (simp only [bits_Sub64.run a1_1 a0_1 t450 t451 t452 A29.out]) | ((with_reducible refine gate_callee (f := 43) rfl ?_);refine goesL_ (some 56) rfl rfl Try.func43 Z310 rfl #[.bool a1_0,.int .u64 t451,.int .u64 t449] rfl Z249 ?_;(with_reducible refine (impl_wideOf.calls a1_0 t451 t449 t453 t454 t455 _ A30.out).mono ?_);rintro e wq4 ⟨rfl,hb⟩;refine ⟨_,rfl,?_⟩;have n_ := jA (blk_below (g := gb443) (o := .cells #[.bool a1_0,.int .u64 a1_1,.int .u64 a1_2] 39 (0,0)) (by refine bP ?_;refine blk_far ?_ NB443_444.out _;refine bP ?_;refine blk_far ?_ NB443_444.out _;refine bP ?_;refine blk_far ?_ NB443_444.out _;refine bP ?_;refine blk_put (cs := #[.bool a1_0,.int .u64 a1_1,.int .u64 a0_2]) ?_ 2 _ rfl;refine bP ?_;refine blk_put (cs := #[.bool a1_0,.int .u64 a0_1,.int .u64 a0_2]) ?_ 1 _ rfl;refine bP ?_;refine blk_put (cs := #[.bool a0_0,.int .u64 a0_1,.int .u64 a0_2]) ?_ 0 _ rfl;refine bP ?_;exact BK443.out) hb) (jA (blk_below (g := gb444) (o := .cells #[.bool a0_0,.int .u64 a0_1,.int .u64 a0_2] 39 (0,0)) (by refine bP ?_;refine blk_put (cs := #[.bool a0_0,.int .u64 a0_1,.int .u64 a1_2]) ?_ 2 _ rfl;refine bP ?_;refine blk_put (cs := #[.bool a0_0,.int .u64 a1_1,.int .u64 a1_2]) ?_ 1 _ rfl;refine bP ?_;refine blk_put (cs := #[.bool a1_0,.int .u64 a1_1,.int .u64 a1_2]) ?_ 0 _ rfl;refine bP ?_;refine blk_far ?_ NB444_443.out _;refine bP ?_;refine blk_far ?_ NB444_443.out _;refine bP ?_;refine blk_far ?_ NB444_443.out _;refine bP ?_;exact BK444.out) hb) (jA (blk_below (g := gb445) (o := .cells #[.bool false,.int .u64 0,.int .u64 0] 39 (0,0)) (by refine bP ?_;refine blk_far ?_ NB445_444.out _;refine bP ?_;refine blk_far ?_ NB445_444.out _;refine bP ?_;refine blk_far ?_ NB445_444.out _;refine bP ?_;refine blk_far ?_ NB445_443.out _;refine bP ?_;refine blk_far ?_ NB445_443.out _;refine bP ?_;refine blk_far ?_ NB445_443.out _;refine bP ?_;exact BK445.out) hb) (Aside0.mk (below_step Z535 hb))));clear BK443 BK444 BK445 HB;obtain ⟨BK443,BK444,BK445,HB⟩ := n_;(try clear hb);(try clear hb2);(try clear hk);(try clear hi);obtain ⟨hczq5_0,hczq5_1,hczq5_2,hfzq5_0,hfzq5_1,hfzq5_2⟩ := cells3 BK445.out))
    refine bodyPost_ret (results_ct rfl _ _ gb445 39 #[.bool t453,.int .u64 t454,.int .u64 t455] (0,0) _ rfl (by refine bP ?_;refine blk_put (cs := #[.bool t453,.int .u64 t454,.int .u64 0]) ?_ 2 _ rfl;refine bP ?_;refine blk_put (cs := #[.bool t453,.int .u64 0,.int .u64 0]) ?_ 1 _ rfl;refine bP ?_;refine blk_put (cs := #[.bool false,.int .u64 0,.int .u64 0]) ?_ 0 _ rfl;refine bP ?_;exact BK445.out) Try.underlying39 rfl Z310) rfl ?_
    exact ⟨Z265,Z535⟩
   rw [if_neg c27] at H
   have c27b0 : decide (t448 < 0) = false := decide_eq_false c27
   clear c27
   obtain ⟨⟨t456,t457⟩,A410,H⟩ := Option.bind_eq_some_iff.mp H
   try dsimp only at H
   have A41 := Aside0.mk A410
   clear A410
   obtain ⟨⟨t458,t459⟩,A420,H⟩ := Option.bind_eq_some_iff.mp H
   try dsimp only at H
   have A42 := Aside0.mk A420
   clear A420
   obtain ⟨⟨t460,t461,t462⟩,A430,H⟩ := Option.bind_eq_some_iff.mp H
   try dsimp only at H
   have A43 := Aside0.mk A430
   clear A430
   simp only [Option.some.injEq,Prod.mk.injEq] at H
   obtain ⟨rfl,rfl,rfl,rfl⟩ := H
   have hnb44 := NB443_444.out
   have hnc44 := NB444_443.out
   have hnb45 := NB443_445.out
   have hnc45 := NB445_443.out
   obtain ⟨hcz46_0,hcz46_1,hcz46_2,hfz46_0,hfz46_1,hfz46_2⟩ := cells3 BK443.out
   have hnb47 := NB444_445.out
   have hnc47 := NB445_444.out
   obtain ⟨hcz48_0,hcz48_1,hcz48_2,hfz48_0,hfz48_1,hfz48_2⟩ := cells3 BK444.out
   go_wp2_with (first | ((with_reducible refine gate_callee (f := 44) rfl ?_);refine goesL_ (some 31) rfl rfl Try.func44 Z310 rfl #[.agg #[.bool a0_0,.int .u64 a0_1,.int .u64 a0_2],.agg #[.bool a1_0,.int .u64 a1_1,.int .u64 a1_2]] rfl Z249 ?_;(with_reducible refine (impl_compareSizes.calls kj2 a0_0 a0_1 a0_2 a1_0 a1_1 a1_2 t448 _ A26.out).mono ?_);rintro e wq1 ⟨rfl,hb⟩;refine ⟨_,rfl,?_⟩;have n_ := Z90;clear BK443 BK444 BK445 HB;obtain ⟨BK443,BK444,BK445,HB⟩ := n_;(try clear hb);(try clear hb2);(try clear hk);(try clear hi);obtain ⟨hczq2_0,hczq2_1,hczq2_2,hfzq2_0,hfzq2_1,hfzq2_2⟩ := cells3 BK443.out;obtain ⟨hczq3_0,hczq3_1,hczq3_2,hfzq3_0,hfzq3_1,hfzq3_2⟩ := cells3 BK444.out) | (simp only [bits_Sub64.run a0_2 a1_2 0 t456 t457 A41.out];(iterate 4 (try (rw [drewN_self wq1];generalize hq_ : World.drewN wq1 _ = wq1;have n0_ : Aside0 (wq1.heap[gb443]? = some (.cells #[.bool a0_0,.int .u64 a0_1,.int .u64 a0_2] 39 (0,0))) := ⟨Z281⟩;have n1_ : Aside0 (wq1.heap[gb444]? = some (.cells #[.bool a1_0,.int .u64 a1_1,.int .u64 a1_2] 39 (0,0))) := ⟨Z280⟩;have n2_ : Aside0 (wq1.heap[gb445]? = some (.cells #[.bool false,.int .u64 0,.int .u64 0] 39 (0,0))) := ⟨Z279⟩;have n3_ : Aside0 (Below w.heap.size w wq1) := ⟨Z174⟩;clear BK443 BK444 BK445 HB hq_;have BK443 := n0_;have BK444 := n1_;have BK445 := n2_;have HB := n3_;clear n0_ n1_ n2_ n3_)));(try (obtain ⟨hczq2_0,hczq2_1,hczq2_2,hfzq2_0,hfzq2_1,hfzq2_2⟩ := cells3 BK443.out));(try (obtain ⟨hczq3_0,hczq3_1,hczq3_2,hfzq3_0,hfzq3_1,hfzq3_2⟩ := cells3 BK444.out))) | (simp only [bits_Sub64.run a0_1 a1_1 t457 t458 t459 A42.out];(iterate 4 (try (rw [drewN_self wq1];generalize hq_ : World.drewN wq1 _ = wq1;have n0_ : Aside0 (wq1.heap[gb443]? = some (.cells #[.bool a0_0,.int .u64 a0_1,.int .u64 a0_2] 39 (0,0))) := ⟨Z281⟩;have n1_ : Aside0 (wq1.heap[gb444]? = some (.cells #[.bool a1_0,.int .u64 a1_1,.int .u64 a1_2] 39 (0,0))) := ⟨Z280⟩;have n2_ : Aside0 (wq1.heap[gb445]? = some (.cells #[.bool false,.int .u64 0,.int .u64 0] 39 (0,0))) := ⟨Z279⟩;have n3_ : Aside0 (Below w.heap.size w wq1) := ⟨Z174⟩;clear BK443 BK444 BK445 HB hq_;have BK443 := n0_;have BK444 := n1_;have BK445 := n2_;have HB := n3_;clear n0_ n1_ n2_ n3_)));(try (obtain ⟨hczq2_0,hczq2_1,hczq2_2,hfzq2_0,hfzq2_1,hfzq2_2⟩ := cells3 BK443.out));(try (obtain ⟨hczq3_0,hczq3_1,hczq3_2,hfzq3_0,hfzq3_1,hfzq3_2⟩ := cells3 BK444.out))) | ((with_reducible refine gate_callee (f := 43) rfl ?_);refine goesL_ (some 56) rfl rfl Try.func43 Z310 rfl #[.bool a0_0,.int .u64 t458,.int .u64 t456] rfl Z249 ?_;(with_reducible refine (impl_wideOf.calls a0_0 t458 t456 t460 t461 t462 _ A43.out).mono ?_);rintro e wq4 ⟨rfl,hb⟩;refine ⟨_,rfl,?_⟩;have n_ := Z90;clear BK443 BK444 BK445 HB;obtain ⟨BK443,BK444,BK445,HB⟩ := n_;(try clear hb);(try clear hb2);(try clear hk);(try clear hi);obtain ⟨hczq5_0,hczq5_1,hczq5_2,hfzq5_0,hfzq5_1,hfzq5_2⟩ := cells3 BK445.out))
   refine bodyPost_ret (results_ct rfl _ _ gb445 39 #[.bool t460,.int .u64 t461,.int .u64 t462] (0,0) _ rfl (by refine bP ?_;refine blk_put (cs := #[.bool t460,.int .u64 t461,.int .u64 0]) ?_ 2 _ rfl;refine bP ?_;refine blk_put (cs := #[.bool t460,.int .u64 0,.int .u64 0]) ?_ 1 _ rfl;refine bP ?_;refine blk_put (cs := #[.bool false,.int .u64 0,.int .u64 0]) ?_ 0 _ rfl;refine bP ?_;exact BK445.out) Try.underlying39 rfl Z310) rfl ?_
   exact ⟨Z265,Z535⟩

/-! ### impl_AddFrac: function 24 -/
def impl_AddFrac.f (k : Nat) (a0_0 : Bool) (a0_1 : Int) (a0_2 : Int) (a0_3 : Int) (a1_0 : Bool) (a1_1 : Int) (a1_2 : Int) (a1_3 : Int) : Option (Bool × Int × Int × Int × Bool) := (impl_crossed.f k a0_0 a0_1 a0_2 a0_3 a1_0 a1_1 a1_2 a1_3).bind fun bt475 => (if bt475.2.2.2.2.2.2 = true then ((impl_AddWide.f k bt475.1 bt475.2.1 bt475.2.2.1 bt475.2.2.2.1 bt475.2.2.2.2.1 bt475.2.2.2.2.2.1).bind fun bt484 => (if bt484.2.2.2 = true then ((impl_fracOf.f bt484.1 bt484.2.1 bt484.2.2.1 (wrap64 (a0_3 * a1_3))).bind fun bt489 => (some (bt489.1,bt489.2.1,bt489.2.2.1,bt489.2.2.2.1,bt489.2.2.2.2))) else (some (false,0,0,0,false)))) else (some (false,0,0,0,false)))
theorem impl_AddFrac.mono : ∀ a0 a1 a2 a3 a4 a5 a6 a7 k,LeO (impl_AddFrac.f k a0 a1 a2 a3 a4 a5 a6 a7) (impl_AddFrac.f (k + 1) a0 a1 a2 a3 a4 a5 a6 a7) := by
 intro a0 a1 a2 a3 a4 a5 a6 a7 k
 unfold impl_AddFrac.f
 repeat' first
   | (with_reducible exact impl_AddWide.mono _ _ _ _ _ _ _)
   | (with_reducible exact impl_crossed.mono _ _ _ _ _ _ _ _ _)
   | (with_reducible exact LeO.refl _)
   | (with_reducible exact LeO.none _)
   | (with_reducible refine LeO.ite ?_ ?_)
   | (with_reducible refine LeO.bind ?_ (fun _ => ?_))
   | exact impl_AddWide.mono _ _ _ _ _ _ _
   | exact impl_crossed.mono _ _ _ _ _ _ _ _ _
   | exact LeO.none _
   | refine LeO.ite ?_ ?_
   | refine LeO.bind ?_ (fun _ => ?_)
set_option maxHeartbeats 8000000 in
set_option maxRecDepth 100000 in
theorem impl_AddFrac.calls (k : Nat) (a0_0 : Bool) (a0_1 : Int) (a0_2 : Int) (a0_3 : Int) (a1_0 : Bool) (a1_1 : Int) (a1_2 : Int) (a1_3 : Int) (r1 : Bool) (r2 : Int) (r3 : Int) (r4 : Int) (r5 : Bool) (w : World) (h : impl_AddFrac.f k a0_0 a0_1 a0_2 a0_3 a1_0 a1_1 a1_2 a1_3 = some (r1,r2,r3,r4,r5)) :
  Calls Try.prog 24 #[.agg #[.bool a0_0,.int .u64 a0_1,.int .u64 a0_2,.int .i64 a0_3],.agg #[.bool a1_0,.int .u64 a1_1,.int .u64 a1_2,.int .i64 a1_3]] w fun e w' => e = .returned (.tuple #[.agg #[.bool r1,.int .u64 r2,.int .u64 r3,.int .i64 r4],.bool r5]) ∧ Below w.heap.size w w' := by
 have hu41 := Try.underlying41
 have hu39 := Try.underlying39
 have HB := Aside0.mk (Below.refl w.heap.size w)
 have H := h
 clear h
 unfold impl_AddFrac.f at H
 obtain ⟨⟨t475,t476,t477,t478,t479,t480,t481⟩,A30,H⟩ := Option.bind_eq_some_iff.mp H
 try dsimp only at H
 have A3 := Aside0.mk A30
 clear A30
 by_cases c4 : t481 = true
 rotate_left
 ·replace c4 := Bool.eq_false_iff.mpr c4
  subst c4
  rw [if_neg Bool.false_ne_true] at H
  simp only [Option.some.injEq,Prod.mk.injEq] at H
  obtain ⟨rfl,rfl,rfl,rfl,rfl⟩ := H
  go_enter Try.func24,Try.ntmps24
  go_wp2_with (first | ((with_reducible refine gate_dst (N := 2) rfl ?_);refine bE 2 #[.bool a0_0,.int .u64 a0_1,.int .u64 a0_2,.int .i64 a0_3] 41 (h := ?_);intro gb472 hg wq1 hbox hb;have n_ := Z108;clear HB;obtain ⟨HB,BK472,GW472,GE472⟩ := n_;clear hb hbox hg) | ((with_reducible refine gate_dst (N := 3) rfl ?_);refine bE 3 #[.bool a1_0,.int .u64 a1_1,.int .u64 a1_2,.int .i64 a1_3] 41 (h := ?_);intro gb473 hg wq2 hbox hb;have n_ := Z59;clear BK472 HB;obtain ⟨BK472,HB,BK473,GW473,GE473,NB472_473,NB473_472⟩ := n_;clear hb hbox hg) | ((with_reducible refine gate_dst (N := 4) rfl ?_);refine bE 4 #[.bool false,.int .u64 0,.int .u64 0,.int .i64 0] 41 (h := ?_);intro gb474 hg wq3 hbox hb;have n_ := Z33;clear BK472 BK473 HB;obtain ⟨BK472,BK473,HB,BK474,GW474,GE474,NB472_474,NB474_472,NB473_474,NB474_473⟩ := n_;clear hb hbox hg;have hnbq4 := NB472_473.out;have hncq4 := NB473_472.out;have hnbq5 := NB472_474.out;have hncq5 := NB474_472.out;obtain ⟨hczq6_0,hczq6_1,hczq6_2,hczq6_3,hfzq6_0,hfzq6_1,hfzq6_2,hfzq6_3⟩ := cells4 BK472.out;have hnbq7 := NB473_474.out;have hncq7 := NB474_473.out;obtain ⟨hczq8_0,hczq8_1,hczq8_2,hczq8_3,hfzq8_0,hfzq8_1,hfzq8_2,hfzq8_3⟩ := cells4 BK473.out) | ((with_reducible refine gate_callee (f := 25) rfl ?_);refine goesL_ (some 13) rfl rfl Try.func25 Z310 rfl #[.agg #[.bool a0_0,.int .u64 a0_1,.int .u64 a0_2,.int .i64 a0_3],.agg #[.bool a1_0,.int .u64 a1_1,.int .u64 a1_2,.int .i64 a1_3]] rfl Z249 ?_;(with_reducible refine (impl_crossed.calls k a0_0 a0_1 a0_2 a0_3 a1_0 a1_1 a1_2 a1_3 t475 t476 t477 t478 t479 t480 false _ A3.out).mono ?_);rintro e wq9 ⟨rfl,hb⟩;refine ⟨_,rfl,?_⟩;have n_ := Z87;clear BK472 BK473 BK474 HB;obtain ⟨BK472,BK473,BK474,HB⟩ := n_;(try clear hb);(try clear hb2);(try clear hk);(try clear hi)) | ((with_reducible refine gate_dst (N := 6) rfl ?_);refine bE 6 #[.bool false,.int .u64 0,.int .u64 0] 39 (h := ?_);intro gb482 hg wq10 hbox hb;have n_ := Z21;clear BK472 BK473 BK474 HB;obtain ⟨BK472,BK473,BK474,HB,BK482,GW482,GE482,NB472_482,NB482_472,NB473_482,NB482_473,NB474_482,NB482_474⟩ := n_;clear hb hbox hg) | ((with_reducible refine gate_dst (N := 7) rfl ?_);refine bE 7 #[.bool false,.int .u64 0,.int .u64 0] 39 (h := ?_);intro gb483 hg wq11 hbox hb;have n_ := Z8;clear BK472 BK473 BK474 BK482 HB;obtain ⟨BK472,BK473,BK474,BK482,HB,BK483,GW483,GE483,NB472_483,NB483_472,NB473_483,NB483_473,NB474_483,NB483_474,NB482_483,NB483_482⟩ := n_;clear hb hbox hg;have hnbq12 := NB482_472.out;have hncq12 := NB472_482.out;have hnbq13 := NB482_473.out;have hncq13 := NB473_482.out;have hnbq14 := NB482_474.out;have hncq14 := NB474_482.out;have hnbq15 := NB482_483.out;have hncq15 := NB483_482.out;obtain ⟨hczq16_0,hczq16_1,hczq16_2,hfzq16_0,hfzq16_1,hfzq16_2⟩ := cells3 BK482.out;have hnbq17 := NB483_472.out;have hncq17 := NB472_483.out;have hnbq18 := NB483_473.out;have hncq18 := NB473_483.out;have hnbq19 := NB483_474.out;have hncq19 := NB474_483.out;obtain ⟨hczq20_0,hczq20_1,hczq20_2,hfzq20_0,hfzq20_1,hfzq20_2⟩ := cells3 BK483.out;obtain ⟨hczq21_0,hczq21_1,hczq21_2,hczq21_3,hfzq21_0,hfzq21_1,hfzq21_2,hfzq21_3⟩ := cells4 BK474.out))
  refine bodyPost_ret (results_ct rfl _ _ gb474 41 #[.bool false,.int .u64 0,.int .u64 0,.int .i64 0] (0,0) _ rfl (by refine bP ?_;refine blk_put (cs := #[.bool false,.int .u64 0,.int .u64 0,.int .i64 0]) ?_ 3 _ rfl;refine bP ?_;refine blk_put (cs := #[.bool false,.int .u64 0,.int .u64 0,.int .i64 0]) ?_ 2 _ rfl;refine bP ?_;refine blk_put (cs := #[.bool false,.int .u64 0,.int .u64 0,.int .i64 0]) ?_ 1 _ rfl;refine bP ?_;refine blk_put (cs := #[.bool false,.int .u64 0,.int .u64 0,.int .i64 0]) ?_ 0 _ rfl;refine bP ?_;refine blk_far ?_ NB474_483.out _;refine bP ?_;refine blk_far ?_ NB474_483.out _;refine bP ?_;refine blk_far ?_ NB474_483.out _;refine bP ?_;refine blk_far ?_ NB474_482.out _;refine bP ?_;refine blk_far ?_ NB474_482.out _;refine bP ?_;refine blk_far ?_ NB474_482.out _;refine bP ?_;exact BK474.out) Try.underlying41 rfl Z310) rfl ?_
  exact ⟨Z265,Z528⟩
 subst c4
 rw [if_pos rfl] at H
 obtain ⟨⟨t484,t485,t486,t487⟩,A50,H⟩ := Option.bind_eq_some_iff.mp H
 try dsimp only at H
 have A5 := Aside0.mk A50
 clear A50
 by_cases c6 : t487 = true
 rotate_left
 ·replace c6 := Bool.eq_false_iff.mpr c6
  subst c6
  rw [if_neg Bool.false_ne_true] at H
  simp only [Option.some.injEq,Prod.mk.injEq] at H
  obtain ⟨rfl,rfl,rfl,rfl,rfl⟩ := H
  go_enter Try.func24,Try.ntmps24
  go_wp2_with (first | ((with_reducible refine gate_dst (N := 2) rfl ?_);refine bE 2 #[.bool a0_0,.int .u64 a0_1,.int .u64 a0_2,.int .i64 a0_3] 41 (h := ?_);intro gb472 hg wq1 hbox hb;have n_ := Z108;clear HB;obtain ⟨HB,BK472,GW472,GE472⟩ := n_;clear hb hbox hg) | ((with_reducible refine gate_dst (N := 3) rfl ?_);refine bE 3 #[.bool a1_0,.int .u64 a1_1,.int .u64 a1_2,.int .i64 a1_3] 41 (h := ?_);intro gb473 hg wq2 hbox hb;have n_ := Z59;clear BK472 HB;obtain ⟨BK472,HB,BK473,GW473,GE473,NB472_473,NB473_472⟩ := n_;clear hb hbox hg) | ((with_reducible refine gate_dst (N := 4) rfl ?_);refine bE 4 #[.bool false,.int .u64 0,.int .u64 0,.int .i64 0] 41 (h := ?_);intro gb474 hg wq3 hbox hb;have n_ := Z33;clear BK472 BK473 HB;obtain ⟨BK472,BK473,HB,BK474,GW474,GE474,NB472_474,NB474_472,NB473_474,NB474_473⟩ := n_;clear hb hbox hg;have hnbq4 := NB472_473.out;have hncq4 := NB473_472.out;have hnbq5 := NB472_474.out;have hncq5 := NB474_472.out;obtain ⟨hczq6_0,hczq6_1,hczq6_2,hczq6_3,hfzq6_0,hfzq6_1,hfzq6_2,hfzq6_3⟩ := cells4 BK472.out;have hnbq7 := NB473_474.out;have hncq7 := NB474_473.out;obtain ⟨hczq8_0,hczq8_1,hczq8_2,hczq8_3,hfzq8_0,hfzq8_1,hfzq8_2,hfzq8_3⟩ := cells4 BK473.out) | ((with_reducible refine gate_callee (f := 25) rfl ?_);refine goesL_ (some 13) rfl rfl Try.func25 Z310 rfl #[.agg #[.bool a0_0,.int .u64 a0_1,.int .u64 a0_2,.int .i64 a0_3],.agg #[.bool a1_0,.int .u64 a1_1,.int .u64 a1_2,.int .i64 a1_3]] rfl Z249 ?_;(with_reducible refine (impl_crossed.calls k a0_0 a0_1 a0_2 a0_3 a1_0 a1_1 a1_2 a1_3 t475 t476 t477 t478 t479 t480 true _ A3.out).mono ?_);rintro e wq9 ⟨rfl,hb⟩;refine ⟨_,rfl,?_⟩;have n_ := Z87;clear BK472 BK473 BK474 HB;obtain ⟨BK472,BK473,BK474,HB⟩ := n_;(try clear hb);(try clear hb2);(try clear hk);(try clear hi)) | ((with_reducible refine gate_dst (N := 6) rfl ?_);refine bE 6 #[.bool false,.int .u64 0,.int .u64 0] 39 (h := ?_);intro gb482 hg wq10 hbox hb;have n_ := Z21;clear BK472 BK473 BK474 HB;obtain ⟨BK472,BK473,BK474,HB,BK482,GW482,GE482,NB472_482,NB482_472,NB473_482,NB482_473,NB474_482,NB482_474⟩ := n_;clear hb hbox hg) | ((with_reducible refine gate_dst (N := 7) rfl ?_);refine bE 7 #[.bool false,.int .u64 0,.int .u64 0] 39 (h := ?_);intro gb483 hg wq11 hbox hb;have n_ := Z8;clear BK472 BK473 BK474 BK482 HB;obtain ⟨BK472,BK473,BK474,BK482,HB,BK483,GW483,GE483,NB472_483,NB483_472,NB473_483,NB483_473,NB474_483,NB483_474,NB482_483,NB483_482⟩ := n_;clear hb hbox hg;have hnbq12 := NB482_472.out;have hncq12 := NB472_482.out;have hnbq13 := NB482_473.out;have hncq13 := NB473_482.out;have hnbq14 := NB482_474.out;have hncq14 := NB474_482.out;have hnbq15 := NB482_483.out;have hncq15 := NB483_482.out;obtain ⟨hczq16_0,hczq16_1,hczq16_2,hfzq16_0,hfzq16_1,hfzq16_2⟩ := cells3 BK482.out;have hnbq17 := NB483_472.out;have hncq17 := NB472_483.out;have hnbq18 := NB483_473.out;have hncq18 := NB473_483.out;have hnbq19 := NB483_474.out;have hncq19 := NB474_483.out;obtain ⟨hczq20_0,hczq20_1,hczq20_2,hfzq20_0,hfzq20_1,hfzq20_2⟩ := cells3 BK483.out) | ((with_reducible refine gate_callee (f := 39) rfl ?_);refine goesL_ (some 23) rfl rfl Try.func39 Z310 rfl #[.agg #[.bool t475,.int .u64 t476,.int .u64 t477],.agg #[.bool t478,.int .u64 t479,.int .u64 t480]] rfl Z249 ?_;(with_reducible refine (impl_AddWide.calls k t475 t476 t477 t478 t479 t480 t484 t485 t486 false _ A5.out).mono ?_);rintro e wq21 ⟨rfl,hb⟩;refine ⟨_,rfl,?_⟩;have n_ := Z16;clear BK472 BK473 BK474 BK482 BK483 HB;obtain ⟨BK472,BK473,BK474,BK482,BK483,HB⟩ := n_;(try clear hb);(try clear hb2);(try clear hk);(try clear hi)) | ((with_reducible refine gate_dst (N := 9) rfl ?_);refine bE 9 #[.bool false,.int .u64 0,.int .u64 0] 39 (h := ?_);intro gb488 hg wq22 hbox hb;have n_ := Z3;clear BK472 BK473 BK474 BK482 BK483 HB;obtain ⟨BK472,BK473,BK474,BK482,BK483,HB,BK488,GW488,GE488,NB472_488,NB488_472,NB473_488,NB488_473,NB474_488,NB488_474,NB482_488,NB488_482,NB483_488,NB488_483⟩ := n_;clear hb hbox hg;have hnbq23 := NB488_472.out;have hncq23 := NB472_488.out;have hnbq24 := NB488_473.out;have hncq24 := NB473_488.out;have hnbq25 := NB488_474.out;have hncq25 := NB474_488.out;have hnbq26 := NB488_482.out;have hncq26 := NB482_488.out;have hnbq27 := NB488_483.out;have hncq27 := NB483_488.out;obtain ⟨hczq28_0,hczq28_1,hczq28_2,hfzq28_0,hfzq28_1,hfzq28_2⟩ := cells3 BK488.out;obtain ⟨hczq29_0,hczq29_1,hczq29_2,hczq29_3,hfzq29_0,hfzq29_1,hfzq29_2,hfzq29_3⟩ := cells4 BK474.out))
  refine bodyPost_ret (results_ct rfl _ _ gb474 41 #[.bool false,.int .u64 0,.int .u64 0,.int .i64 0] (0,0) _ rfl (by refine bP ?_;refine blk_put (cs := #[.bool false,.int .u64 0,.int .u64 0,.int .i64 0]) ?_ 3 _ rfl;refine bP ?_;refine blk_put (cs := #[.bool false,.int .u64 0,.int .u64 0,.int .i64 0]) ?_ 2 _ rfl;refine bP ?_;refine blk_put (cs := #[.bool false,.int .u64 0,.int .u64 0,.int .i64 0]) ?_ 1 _ rfl;refine bP ?_;refine blk_put (cs := #[.bool false,.int .u64 0,.int .u64 0,.int .i64 0]) ?_ 0 _ rfl;refine bP ?_;refine blk_far ?_ NB474_488.out _;refine bP ?_;refine blk_far ?_ NB474_488.out _;refine bP ?_;refine blk_far ?_ NB474_488.out _;refine bP ?_;exact BK474.out) Try.underlying41 rfl Z310) rfl ?_
  exact ⟨Z265,Z155⟩
 subst c6
 rw [if_pos rfl] at H
 obtain ⟨⟨t489,t490,t491,t492,t493⟩,A70,H⟩ := Option.bind_eq_some_iff.mp H
 try dsimp only at H
 have A7 := Aside0.mk A70
 clear A70
 simp only [Option.some.injEq,Prod.mk.injEq] at H
 obtain ⟨rfl,rfl,rfl,rfl,rfl⟩ := H
 go_enter Try.func24,Try.ntmps24
 go_wp2_with (first | ((with_reducible refine gate_dst (N := 2) rfl ?_);refine bE 2 #[.bool a0_0,.int .u64 a0_1,.int .u64 a0_2,.int .i64 a0_3] 41 (h := ?_);intro gb472 hg wq1 hbox hb;have n_ := Z108;clear HB;obtain ⟨HB,BK472,GW472,GE472⟩ := n_;clear hb hbox hg) | ((with_reducible refine gate_dst (N := 3) rfl ?_);refine bE 3 #[.bool a1_0,.int .u64 a1_1,.int .u64 a1_2,.int .i64 a1_3] 41 (h := ?_);intro gb473 hg wq2 hbox hb;have n_ := Z59;clear BK472 HB;obtain ⟨BK472,HB,BK473,GW473,GE473,NB472_473,NB473_472⟩ := n_;clear hb hbox hg) | ((with_reducible refine gate_dst (N := 4) rfl ?_);refine bE 4 #[.bool false,.int .u64 0,.int .u64 0,.int .i64 0] 41 (h := ?_);intro gb474 hg wq3 hbox hb;have n_ := Z33;clear BK472 BK473 HB;obtain ⟨BK472,BK473,HB,BK474,GW474,GE474,NB472_474,NB474_472,NB473_474,NB474_473⟩ := n_;clear hb hbox hg;have hnbq4 := NB472_473.out;have hncq4 := NB473_472.out;have hnbq5 := NB472_474.out;have hncq5 := NB474_472.out;obtain ⟨hczq6_0,hczq6_1,hczq6_2,hczq6_3,hfzq6_0,hfzq6_1,hfzq6_2,hfzq6_3⟩ := cells4 BK472.out;have hnbq7 := NB473_474.out;have hncq7 := NB474_473.out;obtain ⟨hczq8_0,hczq8_1,hczq8_2,hczq8_3,hfzq8_0,hfzq8_1,hfzq8_2,hfzq8_3⟩ := cells4 BK473.out) | ((with_reducible refine gate_callee (f := 25) rfl ?_);refine goesL_ (some 13) rfl rfl Try.func25 Z310 rfl #[.agg #[.bool a0_0,.int .u64 a0_1,.int .u64 a0_2,.int .i64 a0_3],.agg #[.bool a1_0,.int .u64 a1_1,.int .u64 a1_2,.int .i64 a1_3]] rfl Z249 ?_;(with_reducible refine (impl_crossed.calls k a0_0 a0_1 a0_2 a0_3 a1_0 a1_1 a1_2 a1_3 t475 t476 t477 t478 t479 t480 true _ A3.out).mono ?_);rintro e wq9 ⟨rfl,hb⟩;refine ⟨_,rfl,?_⟩;have n_ := Z87;clear BK472 BK473 BK474 HB;obtain ⟨BK472,BK473,BK474,HB⟩ := n_;(try clear hb);(try clear hb2);(try clear hk);(try clear hi)) | ((with_reducible refine gate_dst (N := 6) rfl ?_);refine bE 6 #[.bool false,.int .u64 0,.int .u64 0] 39 (h := ?_);intro gb482 hg wq10 hbox hb;have n_ := Z21;clear BK472 BK473 BK474 HB;obtain ⟨BK472,BK473,BK474,HB,BK482,GW482,GE482,NB472_482,NB482_472,NB473_482,NB482_473,NB474_482,NB482_474⟩ := n_;clear hb hbox hg) | ((with_reducible refine gate_dst (N := 7) rfl ?_);refine bE 7 #[.bool false,.int .u64 0,.int .u64 0] 39 (h := ?_);intro gb483 hg wq11 hbox hb;have n_ := Z8;clear BK472 BK473 BK474 BK482 HB;obtain ⟨BK472,BK473,BK474,BK482,HB,BK483,GW483,GE483,NB472_483,NB483_472,NB473_483,NB483_473,NB474_483,NB483_474,NB482_483,NB483_482⟩ := n_;clear hb hbox hg;have hnbq12 := NB482_472.out;have hncq12 := NB472_482.out;have hnbq13 := NB482_473.out;have hncq13 := NB473_482.out;have hnbq14 := NB482_474.out;have hncq14 := NB474_482.out;have hnbq15 := NB482_483.out;have hncq15 := NB483_482.out;obtain ⟨hczq16_0,hczq16_1,hczq16_2,hfzq16_0,hfzq16_1,hfzq16_2⟩ := cells3 BK482.out;have hnbq17 := NB483_472.out;have hncq17 := NB472_483.out;have hnbq18 := NB483_473.out;have hncq18 := NB473_483.out;have hnbq19 := NB483_474.out;have hncq19 := NB474_483.out;obtain ⟨hczq20_0,hczq20_1,hczq20_2,hfzq20_0,hfzq20_1,hfzq20_2⟩ := cells3 BK483.out) | ((with_reducible refine gate_callee (f := 39) rfl ?_);refine goesL_ (some 23) rfl rfl Try.func39 Z310 rfl #[.agg #[.bool t475,.int .u64 t476,.int .u64 t477],.agg #[.bool t478,.int .u64 t479,.int .u64 t480]] rfl Z249 ?_;(with_reducible refine (impl_AddWide.calls k t475 t476 t477 t478 t479 t480 t484 t485 t486 true _ A5.out).mono ?_);rintro e wq21 ⟨rfl,hb⟩;refine ⟨_,rfl,?_⟩;have n_ := Z16;clear BK472 BK473 BK474 BK482 BK483 HB;obtain ⟨BK472,BK473,BK474,BK482,BK483,HB⟩ := n_;(try clear hb);(try clear hb2);(try clear hk);(try clear hi)) | ((with_reducible refine gate_dst (N := 9) rfl ?_);refine bE 9 #[.bool false,.int .u64 0,.int .u64 0] 39 (h := ?_);intro gb488 hg wq22 hbox hb;have n_ := Z3;clear BK472 BK473 BK474 BK482 BK483 HB;obtain ⟨BK472,BK473,BK474,BK482,BK483,HB,BK488,GW488,GE488,NB472_488,NB488_472,NB473_488,NB488_473,NB474_488,NB488_474,NB482_488,NB488_482,NB483_488,NB488_483⟩ := n_;clear hb hbox hg;have hnbq23 := NB488_472.out;have hncq23 := NB472_488.out;have hnbq24 := NB488_473.out;have hncq24 := NB473_488.out;have hnbq25 := NB488_474.out;have hncq25 := NB474_488.out;have hnbq26 := NB488_482.out;have hncq26 := NB482_488.out;have hnbq27 := NB488_483.out;have hncq27 := NB483_488.out;obtain ⟨hczq28_0,hczq28_1,hczq28_2,hfzq28_0,hfzq28_1,hfzq28_2⟩ := cells3 BK488.out;obtain ⟨hczq29_0,hczq29_1,hczq29_2,hczq29_3,hfzq29_0,hfzq29_1,hfzq29_2,hfzq29_3⟩ := cells4 BK472.out;obtain ⟨hczq30_0,hczq30_1,hczq30_2,hczq30_3,hfzq30_0,hfzq30_1,hfzq30_2,hfzq30_3⟩ := cells4 BK473.out) | ((with_reducible refine gate_callee (f := 40) rfl ?_);refine goesL_ (some 35) rfl rfl Try.func40 Z310 rfl #[.agg #[.bool t484,.int .u64 t485,.int .u64 t486],.int .i64 (wrap64 (a0_3 * a1_3))] rfl Z249 ?_;(with_reducible refine (impl_fracOf.calls t484 t485 t486 (wrap64 (a0_3 * a1_3)) t489 t490 t491 t492 t493 _ A7.out).mono ?_);rintro e wq31 ⟨rfl,hb⟩;refine ⟨_,rfl,?_⟩;have n_ := jA (blk_below (g := gb472) (o := .cells #[.bool a0_0,.int .u64 a0_1,.int .u64 a0_2,.int .i64 a0_3] 41 (0,0)) (by refine bP ?_;refine blk_far ?_ NB472_488.out _;refine bP ?_;refine blk_far ?_ NB472_488.out _;refine bP ?_;refine blk_far ?_ NB472_488.out _;refine bP ?_;exact BK472.out) hb) (jA (blk_below (g := gb473) (o := .cells #[.bool a1_0,.int .u64 a1_1,.int .u64 a1_2,.int .i64 a1_3] 41 (0,0)) (by refine bP ?_;refine blk_far ?_ NB473_488.out _;refine bP ?_;refine blk_far ?_ NB473_488.out _;refine bP ?_;refine blk_far ?_ NB473_488.out _;refine bP ?_;exact BK473.out) hb) (jA (blk_below (g := gb474) (o := .cells #[.bool false,.int .u64 0,.int .u64 0,.int .i64 0] 41 (0,0)) (by refine bP ?_;refine blk_far ?_ NB474_488.out _;refine bP ?_;refine blk_far ?_ NB474_488.out _;refine bP ?_;refine blk_far ?_ NB474_488.out _;refine bP ?_;exact BK474.out) hb) (jA (blk_below (g := gb482) (o := .cells #[.bool t475,.int .u64 t476,.int .u64 t477] 39 (0,0)) (by refine bP ?_;refine blk_far ?_ NB482_488.out _;refine bP ?_;refine blk_far ?_ NB482_488.out _;refine bP ?_;refine blk_far ?_ NB482_488.out _;refine bP ?_;exact BK482.out) hb) (jA (blk_below (g := gb483) (o := .cells #[.bool t478,.int .u64 t479,.int .u64 t480] 39 (0,0)) (by refine bP ?_;refine blk_far ?_ NB483_488.out _;refine bP ?_;refine blk_far ?_ NB483_488.out _;refine bP ?_;refine blk_far ?_ NB483_488.out _;refine bP ?_;exact BK483.out) hb) (jA (blk_below (g := gb488) (o := .cells #[.bool t484,.int .u64 t485,.int .u64 t486] 39 (0,0)) (by refine bP ?_;refine blk_put (cs := #[.bool t484,.int .u64 t485,.int .u64 0]) ?_ 2 _ rfl;refine bP ?_;refine blk_put (cs := #[.bool t484,.int .u64 0,.int .u64 0]) ?_ 1 _ rfl;refine bP ?_;refine blk_put (cs := #[.bool false,.int .u64 0,.int .u64 0]) ?_ 0 _ rfl;refine bP ?_;exact BK488.out) hb) (Aside0.mk (below_step Z155 hb)))))));clear BK472 BK473 BK474 BK482 BK483 BK488 HB;obtain ⟨BK472,BK473,BK474,BK482,BK483,BK488,HB⟩ := n_;(try clear hb);(try clear hb2);(try clear hk);(try clear hi);obtain ⟨hczq32_0,hczq32_1,hczq32_2,hczq32_3,hfzq32_0,hfzq32_1,hfzq32_2,hfzq32_3⟩ := cells4 BK474.out))
 refine bodyPost_ret (results_ct rfl _ _ gb474 41 #[.bool t489,.int .u64 t490,.int .u64 t491,.int .i64 t492] (0,0) _ rfl (by refine bP ?_;refine blk_put (cs := #[.bool t489,.int .u64 t490,.int .u64 t491,.int .i64 0]) ?_ 3 _ rfl;refine bP ?_;refine blk_put (cs := #[.bool t489,.int .u64 t490,.int .u64 0,.int .i64 0]) ?_ 2 _ rfl;refine bP ?_;refine blk_put (cs := #[.bool t489,.int .u64 0,.int .u64 0,.int .i64 0]) ?_ 1 _ rfl;refine bP ?_;refine blk_put (cs := #[.bool false,.int .u64 0,.int .u64 0,.int .i64 0]) ?_ 0 _ rfl;refine bP ?_;exact BK474.out) Try.underlying41 rfl Z310) rfl ?_
 exact ⟨Z265,Z155⟩

/-! ### impl_GainOf: function 12 -/
def impl_GainOf.f (k : Nat) (a0_0 : Int) (a0_1 : Int) (a0_2 : Int) (a0_3 : Int) (a0_4 : Int) (a0_5 : Int) (a1 : Int) : Option (Bool × Int × Int × Int × Bool) := (impl_PlainGain.f a0_2 a0_3 a1).bind fun bt496 => ((impl_PlainGain.f a0_4 a0_5 a1).bind fun bt502 => (if bt496.2.2.2.2 = true then (if bt502.2.2.2.2 = true then ((impl_AddFrac.f k bt496.1 bt496.2.1 bt496.2.2.1 bt496.2.2.2.1 bt502.1 bt502.2.1 bt502.2.2.1 bt502.2.2.2.1).bind fun bt508 => (some (bt508.1,bt508.2.1,bt508.2.2.1,bt508.2.2.2.1,bt508.2.2.2.2))) else (some (false,0,0,0,false))) else (some (false,0,0,0,false))))
theorem impl_GainOf.mono : ∀ a0 a1 a2 a3 a4 a5 a6 k,LeO (impl_GainOf.f k a0 a1 a2 a3 a4 a5 a6) (impl_GainOf.f (k + 1) a0 a1 a2 a3 a4 a5 a6) := by
 intro a0 a1 a2 a3 a4 a5 a6 k
 unfold impl_GainOf.f
 repeat' first
   | (with_reducible exact impl_AddFrac.mono _ _ _ _ _ _ _ _ _)
   | (with_reducible exact LeO.refl _)
   | (with_reducible exact LeO.none _)
   | (with_reducible refine LeO.ite ?_ ?_)
   | (with_reducible refine LeO.bind ?_ (fun _ => ?_))
   | exact impl_AddFrac.mono _ _ _ _ _ _ _ _ _
   | exact LeO.none _
   | refine LeO.ite ?_ ?_
   | refine LeO.bind ?_ (fun _ => ?_)
set_option maxHeartbeats 8000000 in
set_option maxRecDepth 100000 in
theorem impl_GainOf.calls (k : Nat) (a0_0 : Int) (a0_1 : Int) (a0_2 : Int) (a0_3 : Int) (a0_4 : Int) (a0_5 : Int) (a1 : Int) (r1 : Bool) (r2 : Int) (r3 : Int) (r4 : Int) (r5 : Bool) (w : World) (h : impl_GainOf.f k a0_0 a0_1 a0_2 a0_3 a0_4 a0_5 a1 = some (r1,r2,r3,r4,r5)) :
  Calls Try.prog 12 #[.agg #[.int .i64 a0_0,.int .i64 a0_1,.int .i64 a0_2,.int .i64 a0_3,.int .i64 a0_4,.int .i64 a0_5],.int .i64 a1] w fun e w' => e = .returned (.tuple #[.agg #[.bool r1,.int .u64 r2,.int .u64 r3,.int .i64 r4],.bool r5]) ∧ Below w.heap.size w w' := by
 have hu27 := Try.underlying27
 have hu41 := Try.underlying41
 have hu25 := Try.underlying25
 have HB := Aside0.mk (Below.refl w.heap.size w)
 have H := h
 clear h
 unfold impl_GainOf.f at H
 obtain ⟨⟨t496,t497,t498,t499,t500⟩,A30,H⟩ := Option.bind_eq_some_iff.mp H
 try dsimp only at H
 have A3 := Aside0.mk A30
 clear A30
 obtain ⟨⟨t502,t503,t504,t505,t506⟩,A40,H⟩ := Option.bind_eq_some_iff.mp H
 try dsimp only at H
 have A4 := Aside0.mk A40
 clear A40
 by_cases c5 : t500 = true
 rotate_left
 ·replace c5 := Bool.eq_false_iff.mpr c5
  subst c5
  rw [if_neg Bool.false_ne_true] at H
  simp only [Option.some.injEq,Prod.mk.injEq] at H
  obtain ⟨rfl,rfl,rfl,rfl,rfl⟩ := H
  go_enter Try.func12,Try.ntmps12
  go_wp2_with (first | ((with_reducible refine gate_dst (N := 2) rfl ?_);refine bE 2 #[.int .i64 a0_0,.int .i64 a0_1,.int .i64 a0_2,.int .i64 a0_3,.int .i64 a0_4,.int .i64 a0_5] 27 (h := ?_);intro gb494 hg wq1 hbox hb;have n_ := Z107;clear HB;obtain ⟨HB,BK494,GW494,GE494⟩ := n_;clear hb hbox hg) | ((with_reducible refine gate_dst (N := 4) rfl ?_);refine bE 4 #[.bool false,.int .u64 0,.int .u64 0,.int .i64 0] 41 (h := ?_);intro gb495 hg wq2 hbox hb;have n_ := Z55;clear BK494 HB;obtain ⟨BK494,HB,BK495,GW495,GE495,NB494_495,NB495_494⟩ := n_;clear hb hbox hg;have hnbq3 := NB494_495.out;have hncq3 := NB495_494.out;obtain ⟨hczq4_0,hczq4_1,hczq4_2,hczq4_3,hczq4_4,hczq4_5,hfzq4_0,hfzq4_1,hfzq4_2,hfzq4_3,hfzq4_4,hfzq4_5⟩ := cells6 BK494.out) | ((with_reducible refine gate_callee (f := 23) rfl ?_);refine goesL_ (some 14) rfl rfl Try.func23 Z310 rfl #[.agg #[.int .i64 a0_2,.int .i64 a0_3],.int .i64 a1] rfl Z249 ?_;(with_reducible refine (impl_PlainGain.calls a0_2 a0_3 a1 t496 t497 t498 t499 false _ A3.out).mono ?_);rintro e wq5 ⟨rfl,hb⟩;refine ⟨_,rfl,?_⟩;have n_ := Z122;clear BK494 BK495 HB;obtain ⟨BK494,BK495,HB⟩ := n_;(try clear hb);(try clear hb2);(try clear hk);(try clear hi)) | ((with_reducible refine gate_dst (N := 6) rfl ?_);refine bE 6 #[.bool false,.int .u64 0,.int .u64 0,.int .i64 0] 41 (h := ?_);intro gb501 hg wq6 hbox hb;have n_ := Z29;clear BK494 BK495 HB;obtain ⟨BK494,BK495,HB,BK501,GW501,GE501,NB494_501,NB501_494,NB495_501,NB501_495⟩ := n_;clear hb hbox hg;have hnbq7 := NB501_494.out;have hncq7 := NB494_501.out;have hnbq8 := NB501_495.out;have hncq8 := NB495_501.out;obtain ⟨hczq9_0,hczq9_1,hczq9_2,hczq9_3,hfzq9_0,hfzq9_1,hfzq9_2,hfzq9_3⟩ := cells4 BK501.out;obtain ⟨hczq10_0,hczq10_1,hczq10_2,hczq10_3,hczq10_4,hczq10_5,hfzq10_0,hfzq10_1,hfzq10_2,hfzq10_3,hfzq10_4,hfzq10_5⟩ := cells6 BK494.out) | ((with_reducible refine gate_callee (f := 23) rfl ?_);refine goesL_ (some 21) rfl rfl Try.func23 Z310 rfl #[.agg #[.int .i64 a0_4,.int .i64 a0_5],.int .i64 a1] rfl Z249 ?_;(with_reducible refine (impl_PlainGain.calls a0_4 a0_5 a1 t502 t503 t504 t505 t506 _ A4.out).mono ?_);rintro e wq11 ⟨rfl,hb⟩;refine ⟨_,rfl,?_⟩;have n_ := Z48;clear BK494 BK495 BK501 HB;obtain ⟨BK494,BK495,BK501,HB⟩ := n_;(try clear hb);(try clear hb2);(try clear hk);(try clear hi)) | ((with_reducible refine gate_dst (N := 8) rfl ?_);refine bE 8 #[.bool false,.int .u64 0,.int .u64 0,.int .i64 0] 41 (h := ?_);intro gb507 hg wq12 hbox hb;have n_ := Z18;clear BK494 BK495 BK501 HB;obtain ⟨BK494,BK495,BK501,HB,BK507,GW507,GE507,NB494_507,NB507_494,NB495_507,NB507_495,NB501_507,NB507_501⟩ := n_;clear hb hbox hg;have hnbq13 := NB507_494.out;have hncq13 := NB494_507.out;have hnbq14 := NB507_495.out;have hncq14 := NB495_507.out;have hnbq15 := NB507_501.out;have hncq15 := NB501_507.out;obtain ⟨hczq16_0,hczq16_1,hczq16_2,hczq16_3,hfzq16_0,hfzq16_1,hfzq16_2,hfzq16_3⟩ := cells4 BK507.out;obtain ⟨hczq17_0,hczq17_1,hczq17_2,hczq17_3,hfzq17_0,hfzq17_1,hfzq17_2,hfzq17_3⟩ := cells4 BK495.out))
  refine bodyPost_ret (results_ct rfl _ _ gb495 41 #[.bool false,.int .u64 0,.int .u64 0,.int .i64 0] (0,0) _ rfl Z94 Try.underlying41 rfl Z310) rfl ?_
  exact ⟨Z265,Z168⟩
 subst c5
 rw [if_pos rfl] at H
 by_cases c6 : t506 = true
 rotate_left
 ·replace c6 := Bool.eq_false_iff.mpr c6
  subst c6
  rw [if_neg Bool.false_ne_true] at H
  simp only [Option.some.injEq,Prod.mk.injEq] at H
  obtain ⟨rfl,rfl,rfl,rfl,rfl⟩ := H
  go_enter Try.func12,Try.ntmps12
  go_wp2_with (first | ((with_reducible refine gate_dst (N := 2) rfl ?_);refine bE 2 #[.int .i64 a0_0,.int .i64 a0_1,.int .i64 a0_2,.int .i64 a0_3,.int .i64 a0_4,.int .i64 a0_5] 27 (h := ?_);intro gb494 hg wq1 hbox hb;have n_ := Z107;clear HB;obtain ⟨HB,BK494,GW494,GE494⟩ := n_;clear hb hbox hg) | ((with_reducible refine gate_dst (N := 4) rfl ?_);refine bE 4 #[.bool false,.int .u64 0,.int .u64 0,.int .i64 0] 41 (h := ?_);intro gb495 hg wq2 hbox hb;have n_ := Z55;clear BK494 HB;obtain ⟨BK494,HB,BK495,GW495,GE495,NB494_495,NB495_494⟩ := n_;clear hb hbox hg;have hnbq3 := NB494_495.out;have hncq3 := NB495_494.out;obtain ⟨hczq4_0,hczq4_1,hczq4_2,hczq4_3,hczq4_4,hczq4_5,hfzq4_0,hfzq4_1,hfzq4_2,hfzq4_3,hfzq4_4,hfzq4_5⟩ := cells6 BK494.out) | ((with_reducible refine gate_callee (f := 23) rfl ?_);refine goesL_ (some 14) rfl rfl Try.func23 Z310 rfl #[.agg #[.int .i64 a0_2,.int .i64 a0_3],.int .i64 a1] rfl Z249 ?_;(with_reducible refine (impl_PlainGain.calls a0_2 a0_3 a1 t496 t497 t498 t499 true _ A3.out).mono ?_);rintro e wq5 ⟨rfl,hb⟩;refine ⟨_,rfl,?_⟩;have n_ := Z122;clear BK494 BK495 HB;obtain ⟨BK494,BK495,HB⟩ := n_;(try clear hb);(try clear hb2);(try clear hk);(try clear hi)) | ((with_reducible refine gate_dst (N := 6) rfl ?_);refine bE 6 #[.bool false,.int .u64 0,.int .u64 0,.int .i64 0] 41 (h := ?_);intro gb501 hg wq6 hbox hb;have n_ := Z29;clear BK494 BK495 HB;obtain ⟨BK494,BK495,HB,BK501,GW501,GE501,NB494_501,NB501_494,NB495_501,NB501_495⟩ := n_;clear hb hbox hg;have hnbq7 := NB501_494.out;have hncq7 := NB494_501.out;have hnbq8 := NB501_495.out;have hncq8 := NB495_501.out;obtain ⟨hczq9_0,hczq9_1,hczq9_2,hczq9_3,hfzq9_0,hfzq9_1,hfzq9_2,hfzq9_3⟩ := cells4 BK501.out;obtain ⟨hczq10_0,hczq10_1,hczq10_2,hczq10_3,hczq10_4,hczq10_5,hfzq10_0,hfzq10_1,hfzq10_2,hfzq10_3,hfzq10_4,hfzq10_5⟩ := cells6 BK494.out) | ((with_reducible refine gate_callee (f := 23) rfl ?_);refine goesL_ (some 21) rfl rfl Try.func23 Z310 rfl #[.agg #[.int .i64 a0_4,.int .i64 a0_5],.int .i64 a1] rfl Z249 ?_;(with_reducible refine (impl_PlainGain.calls a0_4 a0_5 a1 t502 t503 t504 t505 false _ A4.out).mono ?_);rintro e wq11 ⟨rfl,hb⟩;refine ⟨_,rfl,?_⟩;have n_ := Z48;clear BK494 BK495 BK501 HB;obtain ⟨BK494,BK495,BK501,HB⟩ := n_;(try clear hb);(try clear hb2);(try clear hk);(try clear hi)) | ((with_reducible refine gate_dst (N := 8) rfl ?_);refine bE 8 #[.bool false,.int .u64 0,.int .u64 0,.int .i64 0] 41 (h := ?_);intro gb507 hg wq12 hbox hb;have n_ := Z18;clear BK494 BK495 BK501 HB;obtain ⟨BK494,BK495,BK501,HB,BK507,GW507,GE507,NB494_507,NB507_494,NB495_507,NB507_495,NB501_507,NB507_501⟩ := n_;clear hb hbox hg;have hnbq13 := NB507_494.out;have hncq13 := NB494_507.out;have hnbq14 := NB507_495.out;have hncq14 := NB495_507.out;have hnbq15 := NB507_501.out;have hncq15 := NB501_507.out;obtain ⟨hczq16_0,hczq16_1,hczq16_2,hczq16_3,hfzq16_0,hfzq16_1,hfzq16_2,hfzq16_3⟩ := cells4 BK507.out;obtain ⟨hczq17_0,hczq17_1,hczq17_2,hczq17_3,hfzq17_0,hfzq17_1,hfzq17_2,hfzq17_3⟩ := cells4 BK495.out))
  refine bodyPost_ret (results_ct rfl _ _ gb495 41 #[.bool false,.int .u64 0,.int .u64 0,.int .i64 0] (0,0) _ rfl Z94 Try.underlying41 rfl Z310) rfl ?_
  exact ⟨Z265,Z168⟩
 subst c6
 rw [if_pos rfl] at H
 obtain ⟨⟨t508,t509,t510,t511,t512⟩,A70,H⟩ := Option.bind_eq_some_iff.mp H
 try dsimp only at H
 have A7 := Aside0.mk A70
 clear A70
 simp only [Option.some.injEq,Prod.mk.injEq] at H
 obtain ⟨rfl,rfl,rfl,rfl,rfl⟩ := H
 go_enter Try.func12,Try.ntmps12
 go_wp2_with (first | ((with_reducible refine gate_dst (N := 2) rfl ?_);refine bE 2 #[.int .i64 a0_0,.int .i64 a0_1,.int .i64 a0_2,.int .i64 a0_3,.int .i64 a0_4,.int .i64 a0_5] 27 (h := ?_);intro gb494 hg wq1 hbox hb;have n_ := Z107;clear HB;obtain ⟨HB,BK494,GW494,GE494⟩ := n_;clear hb hbox hg) | ((with_reducible refine gate_dst (N := 4) rfl ?_);refine bE 4 #[.bool false,.int .u64 0,.int .u64 0,.int .i64 0] 41 (h := ?_);intro gb495 hg wq2 hbox hb;have n_ := Z55;clear BK494 HB;obtain ⟨BK494,HB,BK495,GW495,GE495,NB494_495,NB495_494⟩ := n_;clear hb hbox hg;have hnbq3 := NB494_495.out;have hncq3 := NB495_494.out;obtain ⟨hczq4_0,hczq4_1,hczq4_2,hczq4_3,hczq4_4,hczq4_5,hfzq4_0,hfzq4_1,hfzq4_2,hfzq4_3,hfzq4_4,hfzq4_5⟩ := cells6 BK494.out) | ((with_reducible refine gate_callee (f := 23) rfl ?_);refine goesL_ (some 14) rfl rfl Try.func23 Z310 rfl #[.agg #[.int .i64 a0_2,.int .i64 a0_3],.int .i64 a1] rfl Z249 ?_;(with_reducible refine (impl_PlainGain.calls a0_2 a0_3 a1 t496 t497 t498 t499 true _ A3.out).mono ?_);rintro e wq5 ⟨rfl,hb⟩;refine ⟨_,rfl,?_⟩;have n_ := Z122;clear BK494 BK495 HB;obtain ⟨BK494,BK495,HB⟩ := n_;(try clear hb);(try clear hb2);(try clear hk);(try clear hi)) | ((with_reducible refine gate_dst (N := 6) rfl ?_);refine bE 6 #[.bool false,.int .u64 0,.int .u64 0,.int .i64 0] 41 (h := ?_);intro gb501 hg wq6 hbox hb;have n_ := Z29;clear BK494 BK495 HB;obtain ⟨BK494,BK495,HB,BK501,GW501,GE501,NB494_501,NB501_494,NB495_501,NB501_495⟩ := n_;clear hb hbox hg;have hnbq7 := NB501_494.out;have hncq7 := NB494_501.out;have hnbq8 := NB501_495.out;have hncq8 := NB495_501.out;obtain ⟨hczq9_0,hczq9_1,hczq9_2,hczq9_3,hfzq9_0,hfzq9_1,hfzq9_2,hfzq9_3⟩ := cells4 BK501.out;obtain ⟨hczq10_0,hczq10_1,hczq10_2,hczq10_3,hczq10_4,hczq10_5,hfzq10_0,hfzq10_1,hfzq10_2,hfzq10_3,hfzq10_4,hfzq10_5⟩ := cells6 BK494.out) | ((with_reducible refine gate_callee (f := 23) rfl ?_);refine goesL_ (some 21) rfl rfl Try.func23 Z310 rfl #[.agg #[.int .i64 a0_4,.int .i64 a0_5],.int .i64 a1] rfl Z249 ?_;(with_reducible refine (impl_PlainGain.calls a0_4 a0_5 a1 t502 t503 t504 t505 true _ A4.out).mono ?_);rintro e wq11 ⟨rfl,hb⟩;refine ⟨_,rfl,?_⟩;have n_ := Z48;clear BK494 BK495 BK501 HB;obtain ⟨BK494,BK495,BK501,HB⟩ := n_;(try clear hb);(try clear hb2);(try clear hk);(try clear hi)) | ((with_reducible refine gate_dst (N := 8) rfl ?_);refine bE 8 #[.bool false,.int .u64 0,.int .u64 0,.int .i64 0] 41 (h := ?_);intro gb507 hg wq12 hbox hb;have n_ := Z18;clear BK494 BK495 BK501 HB;obtain ⟨BK494,BK495,BK501,HB,BK507,GW507,GE507,NB494_507,NB507_494,NB495_507,NB507_495,NB501_507,NB507_501⟩ := n_;clear hb hbox hg;have hnbq13 := NB507_494.out;have hncq13 := NB494_507.out;have hnbq14 := NB507_495.out;have hncq14 := NB495_507.out;have hnbq15 := NB507_501.out;have hncq15 := NB501_507.out;obtain ⟨hczq16_0,hczq16_1,hczq16_2,hczq16_3,hfzq16_0,hfzq16_1,hfzq16_2,hfzq16_3⟩ := cells4 BK507.out;obtain ⟨hczq17_0,hczq17_1,hczq17_2,hczq17_3,hfzq17_0,hfzq17_1,hfzq17_2,hfzq17_3⟩ := cells4 BK501.out) | ((with_reducible refine gate_callee (f := 24) rfl ?_);refine goesL_ (some 33) rfl rfl Try.func24 Z310 rfl #[.agg #[.bool t496,.int .u64 t497,.int .u64 t498,.int .i64 t499],.agg #[.bool t502,.int .u64 t503,.int .u64 t504,.int .i64 t505]] rfl Z249 ?_;(with_reducible refine (impl_AddFrac.calls k t496 t497 t498 t499 t502 t503 t504 t505 t508 t509 t510 t511 t512 _ A7.out).mono ?_);rintro e wq18 ⟨rfl,hb⟩;refine ⟨_,rfl,?_⟩;have n_ := jA (blk_below (g := gb494) (o := .cells #[.int .i64 a0_0,.int .i64 a0_1,.int .i64 a0_2,.int .i64 a0_3,.int .i64 a0_4,.int .i64 a0_5] 27 (0,0)) (by refine bP ?_;refine blk_far ?_ NB494_507.out _;refine bP ?_;refine blk_far ?_ NB494_507.out _;refine bP ?_;refine blk_far ?_ NB494_507.out _;refine bP ?_;refine blk_far ?_ NB494_507.out _;refine bP ?_;exact BK494.out) hb) (jA (blk_below (g := gb495) (o := .cells #[.bool false,.int .u64 0,.int .u64 0,.int .i64 0] 41 (0,0)) (by refine bP ?_;refine blk_far ?_ NB495_507.out _;refine bP ?_;refine blk_far ?_ NB495_507.out _;refine bP ?_;refine blk_far ?_ NB495_507.out _;refine bP ?_;refine blk_far ?_ NB495_507.out _;refine bP ?_;exact BK495.out) hb) (jA (blk_below (g := gb501) (o := .cells #[.bool t496,.int .u64 t497,.int .u64 t498,.int .i64 t499] 41 (0,0)) (by refine bP ?_;refine blk_far ?_ NB501_507.out _;refine bP ?_;refine blk_far ?_ NB501_507.out _;refine bP ?_;refine blk_far ?_ NB501_507.out _;refine bP ?_;refine blk_far ?_ NB501_507.out _;refine bP ?_;exact BK501.out) hb) (jA (blk_below (g := gb507) (o := .cells #[.bool t502,.int .u64 t503,.int .u64 t504,.int .i64 t505] 41 (0,0)) (by refine bP ?_;refine blk_put (cs := #[.bool t502,.int .u64 t503,.int .u64 t504,.int .i64 0]) ?_ 3 _ rfl;refine bP ?_;refine blk_put (cs := #[.bool t502,.int .u64 t503,.int .u64 0,.int .i64 0]) ?_ 2 _ rfl;refine bP ?_;refine blk_put (cs := #[.bool t502,.int .u64 0,.int .u64 0,.int .i64 0]) ?_ 1 _ rfl;refine bP ?_;refine blk_put (cs := #[.bool false,.int .u64 0,.int .u64 0,.int .i64 0]) ?_ 0 _ rfl;refine bP ?_;exact BK507.out) hb) (Aside0.mk (below_step Z168 hb)))));clear BK494 BK495 BK501 BK507 HB;obtain ⟨BK494,BK495,BK501,BK507,HB⟩ := n_;(try clear hb);(try clear hb2);(try clear hk);(try clear hi);obtain ⟨hczq19_0,hczq19_1,hczq19_2,hczq19_3,hfzq19_0,hfzq19_1,hfzq19_2,hfzq19_3⟩ := cells4 BK495.out))
 refine bodyPost_ret (results_ct rfl _ _ gb495 41 #[.bool t508,.int .u64 t509,.int .u64 t510,.int .i64 t511] (0,0) _ rfl (by refine bP ?_;refine blk_put (cs := #[.bool t508,.int .u64 t509,.int .u64 t510,.int .i64 0]) ?_ 3 _ rfl;refine bP ?_;refine blk_put (cs := #[.bool t508,.int .u64 t509,.int .u64 0,.int .i64 0]) ?_ 2 _ rfl;refine bP ?_;refine blk_put (cs := #[.bool t508,.int .u64 0,.int .u64 0,.int .i64 0]) ?_ 1 _ rfl;refine bP ?_;refine blk_put (cs := #[.bool false,.int .u64 0,.int .u64 0,.int .i64 0]) ?_ 0 _ rfl;refine bP ?_;exact BK495.out) Try.underlying41 rfl Z310) rfl ?_
 exact ⟨Z265,Z168⟩

end Go.Proofs.Ytlflcgdcegohjaa.QFnBetter
