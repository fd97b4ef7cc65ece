/- The machine side of FnExactBetter: what each Go function that it reaches comes to. Conditions: none. -/
import Derived.Test.YtjcjehnjbgklbaaQFnExactBetterx0
import Derived.Test.YtjcjehnjbgklbaaQFnExactBetterx1
import Derived.Test.YtjcjehnjbgklbaaQFnExactBetterx6
import Derived.Test.YtjcjehnjbgklbaaQFnExactBetterx7
import Derived.Test.YtjcjehnjbgklbaaQFnExactBetterx8
import Derived.Test.YtjcjehnjbgklbaaQFnExactBetterx9
namespace Go.Proofs.Ytjcjehnjbgklbaa.QFnExactBetter
open Go.RowKit Go.Proofs.YtjcjehnjbgklbaaW.PrintWords Go.Proofs.YtjcjehnjbgklbaaW.PrintLast Go.Proofs.YtjcjehnjbgklbaaW.PrintMore
attribute [local go_sem] max2_int min2_int max_two min_two max_three min_three max_four min_four   -- for this text's walks alone
set_option linter.unusedVariables false
set_option linter.unusedSimpArgs false

/-! ### impl_CandLess: function 36 -/
def impl_CandLess.f (k : Nat) (a0_0 : Int) (a0_1 : Int) (a0_2 : Int) (a0_3 : Int) (a0_4 : Int) (a0_5 : Int) (a1_0 : Int) (a1_1 : Int) (a1_2 : Int) (a1_3 : Int) (a1_4 : Int) (a1_5 : Int) : Option (Bool) := (cmp_Compare_int.f a0_0 a1_0).bind fun t429 => ((cmp_Compare_int.f a0_1 a1_1).bind fun t430 => ((cmp_Or_int.f k (([t429,t430] : List Int))).bind fun t434 => (some (decide (t434 < 0)))))
theorem impl_CandLess.mono : ∀ a0 a1 a2 a3 a4 a5 a6 a7 a8 a9 a10 a11 k,LeO (impl_CandLess.f k a0 a1 a2 a3 a4 a5 a6 a7 a8 a9 a10 a11) (impl_CandLess.f (k + 1) a0 a1 a2 a3 a4 a5 a6 a7 a8 a9 a10 a11) := by
  intro a0 a1 a2 a3 a4 a5 a6 a7 a8 a9 a10 a11 k
  unfold impl_CandLess.f
  repeat' first
      | (with_reducible exact cmp_Or_int.mono _ _)
      | (with_reducible exact LeO.refl _)
      | (with_reducible exact LeO.none _)
      | (with_reducible refine LeO.ite ?_ ?_)
      | (with_reducible refine LeO.bind ?_ (fun _ => ?_))
      | exact cmp_Or_int.mono _ _
      | exact LeO.none _
      | refine LeO.ite ?_ ?_
      | refine LeO.bind ?_ (fun _ => ?_)
def impl_CandLess.T1 : Bool × List (List Nat × List Nat) := (true,[([],[]),([0],[0]),([],[]),([2],[2]),([1,3],[1,3]),([],[]),([5],[5]),([],[]),([7],[7]),([6,8,4],[6,8]),([4,9],[4,9]),([10,9],[10]),([11],[11]),([12,11,0,1,2,3,4,5,6,7,8,9,10,11,12],[12])])
def impl_CandLess.B1 : List Nat := [0,1,0,4,15,0,32,0,128,511,1023,2047,4095,8191]
theorem impl_CandLess.tab1 : rtab .any (opsOf Try.f36 1) = impl_CandLess.T1 := by kernel_rfl
theorem impl_CandLess.bits1 : waitsOk impl_CandLess.T1.2 impl_CandLess.B1 = true := by kernel_rfl
set_option maxHeartbeats 8000000 in
set_option maxRecDepth 100000 in
theorem impl_CandLess.calls (k : Nat) (a0_0 : Int) (a0_1 : Int) (a0_2 : Int) (a0_3 : Int) (a0_4 : Int) (a0_5 : Int) (a1_0 : Int) (a1_1 : Int) (a1_2 : Int) (a1_3 : Int) (a1_4 : Int) (a1_5 : Int) (r : Bool) (w : World) (h : impl_CandLess.f k a0_0 a0_1 a0_2 a0_3 a0_4 a0_5 a1_0 a1_1 a1_2 a1_3 a1_4 a1_5 = some r) :
    Calls Try.prog 36 #[.agg #[.int .i64 a0_0,.int .i64 a0_1,.int .i64 a0_2,.int .i64 a0_3,.int .i64 a0_4,.int .i64 a0_5],.agg #[.int .i64 a1_0,.int .i64 a1_1,.int .i64 a1_2,.int .i64 a1_3,.int .i64 a1_4,.int .i64 a1_5]] w fun e w' => e = .returned (.bool r) ∧ Below w.heap.size w w' := by
  have hu35 := Try.underlying35
  have HB := Aside0.mk (Below.refl w.heap.size w)
  have H : ((cmp_Compare_int.f a0_0 a1_0).bind fun t429 => ((cmp_Compare_int.f a0_1 a1_1).bind fun t430 => ((cmp_Or_int.f k (([t429,t430] : List Int))).bind fun t434 => (some (decide (t434 < 0)))))) = some r := h
  clear h
  obtain ⟨t429,A30,H⟩ := Option.bind_eq_some_iff.mp H
  have A3 := Aside0.mk A30
  clear A30
  obtain ⟨t430,A40,H⟩ := Option.bind_eq_some_iff.mp H
  have A4 := Aside0.mk A40
  clear A40
  obtain ⟨y431,hy431⟩ : ∃ y_ : List Int,y_ = (([t429,t430] : List Int)) := ⟨_,rfl⟩
  replace H : ((cmp_Or_int.f k y431).bind fun t434 => (some (decide (t434 < 0)))) = some r := by first | (rw [hy431];with_reducible exact H) | (have H2_ := (Option.bind_some _ _).symm.trans H;rw [hy431];with_reducible exact H2_) | (have H2_ := (Option.bind_some _ _).symm.trans H;with_reducible exact H2_) | with_reducible exact H | (rw [hy431];exact H) | exact H
  have Ny431 := Aside0.mk hy431
  clear hy431
  obtain ⟨t434,A50,H⟩ := Option.bind_eq_some_iff.mp H
  have A5 := Aside0.mk A50
  clear A50
  obtain rfl := Option.some.inj H
  go_enter Try.func36,Try.ntmps36
  try go_wp2_with (first | ((with_reducible refine gate_dst (N := 2) rfl ?_);refine box_event ?hg (N := 2) ?hd (cs := #[.int .i64 a0_0,.int .i64 a0_1,.int .i64 a0_2,.int .i64 a0_3,.int .i64 a0_4,.int .i64 a0_5]) (t := 35) ?hr ?_;(case hd => rfl);(case hg => rfl);(case hr => exact Z393);intro gb427 hg w6 hbox hb;have n_ := jA (below_step Z476 hb) (jA (hbox) (jA ((Z345 : w.heap.size ≤ gb427)) (Aside0.mk ((Z345 : w.heap.size ≤ gb427)))));clear HB;obtain ⟨HB,BK427,GW427,GE427⟩ := n_;clear hb hbox hg) | ((with_reducible refine gate_dst (N := 3) rfl ?_);refine box_event ?hg (N := 3) ?hd (cs := #[.int .i64 a1_0,.int .i64 a1_1,.int .i64 a1_2,.int .i64 a1_3,.int .i64 a1_4,.int .i64 a1_5]) (t := 35) ?hr ?_;(case hd => rfl);(case hg => rfl);(case hr => exact Z393);intro gb428 hg w7 hbox hb;have n_ := jA (blk_below (g := gb427) (o := .cells #[.int .i64 a0_0,.int .i64 a0_1,.int .i64 a0_2,.int .i64 a0_3,.int .i64 a0_4,.int .i64 a0_5] 35 (0,0)) Z376 hb) (jA (below_step Z464 hb) (jA (hbox) (jA ((Z331 : w.heap.size ≤ gb428)) (jA ((Z331 : w.heap.size ≤ gb428)) (jA ((by rw [hg];exact Nat.ne_of_lt (blk_lt (g := gb427) (o := .cells #[.int .i64 a0_0,.int .i64 a0_1,.int .i64 a0_2,.int .i64 a0_3,.int .i64 a0_4,.int .i64 a0_5] 35 (0,0)) Z376) : gb427 ≠ gb428)) (Aside0.mk ((by rw [hg];exact Nat.ne_of_gt (blk_lt (g := gb427) (o := .cells #[.int .i64 a0_0,.int .i64 a0_1,.int .i64 a0_2,.int .i64 a0_3,.int .i64 a0_4,.int .i64 a0_5] 35 (0,0)) Z376) : gb428 ≠ gb427))))))));clear BK427 HB;obtain ⟨BK427,HB,BK428,GW428,GE428,NB427_428,NB428_427⟩ := n_;clear hb hbox hg))
  have n0_ := Aside0.mk (blk_drew BK427.out)
  have n1_ := Aside0.mk (blk_drew BK428.out)
  have n2_ := Aside0.mk (below_drew1 HB.out)
  clear BK427
  clear BK428
  clear HB
  have BK427 := n0_
  have BK428 := n1_
  have HB := n2_
  clear n0_ n1_ n2_
  refine start_ (n := 14) (S := fun w' => w'.cell? ⟨gb427,0,none⟩ = some (.int .i64 a0_0) ∧ w'.cell? ⟨gb427,1,none⟩ = some (.int .i64 a0_1) ∧ w'.cell? ⟨gb427,2,none⟩ = some (.int .i64 a0_2) ∧ w'.cell? ⟨gb427,3,none⟩ = some (.int .i64 a0_3) ∧ w'.cell? ⟨gb427,4,none⟩ = some (.int .i64 a0_4) ∧ w'.cell? ⟨gb427,5,none⟩ = some (.int .i64 a0_5) ∧ w'.cell? ⟨gb428,0,none⟩ = some (.int .i64 a1_0) ∧ w'.cell? ⟨gb428,1,none⟩ = some (.int .i64 a1_1) ∧ w'.cell? ⟨gb428,2,none⟩ = some (.int .i64 a1_2) ∧ w'.cell? ⟨gb428,3,none⟩ = some (.int .i64 a1_3) ∧ w'.cell? ⟨gb428,4,none⟩ = some (.int .i64 a1_4) ∧ w'.cell? ⟨gb428,5,none⟩ = some (.int .i64 a1_5)) (ds := []) #[false,false,false,false,false,false,false,false,false,false,false,false,false,false] Z396 rfl rfl ⟨(blk_cell BK427.out 0).trans rfl,(blk_cell BK427.out 1).trans rfl,(blk_cell BK427.out 2).trans rfl,(blk_cell BK427.out 3).trans rfl,(blk_cell BK427.out 4).trans rfl,(blk_cell BK427.out 5).trans rfl,(blk_cell BK428.out 0).trans rfl,(blk_cell BK428.out 1).trans rfl,(blk_cell BK428.out 2).trans rfl,(blk_cell BK428.out 3).trans rfl,(blk_cell BK428.out 4).trans rfl,(blk_cell BK428.out 5).trans rfl⟩ (fun hHeld => ?_);refine with_tabW impl_CandLess.tab1 impl_CandLess.bits1 (fun HT_ HW_ => ?_)
  generalize w7.drew = w8 at BK427 BK428 HB hHeld ⊢
  refine pure_ (i := 0) (N := some 5) (v := ?_) (a' := ?_) #[true,false,false,false,false,false,false,false,false,false,false,false,false,false] rfl rfl (any_of HT_.out Z396) (fun _ _ _ h => h) (Or.inl ⟨Z398,?_⟩) ?_ ?_
  rotate_left
  · intro w'
    go_simp
    with_reducible rfl
  rotate_left
  · simp only [Act.put,List.setIfInBounds_toArray,List.set_cons_zero,List.set_cons_succ,i64_w,i32_w]
    rfl
  refine pure_ (i := 2) (N := some 7) (v := ?_) (a' := ?_) #[true,false,true,false,false,false,false,false,false,false,false,false,false,false] rfl rfl (any_of HT_.out Z396) (fun _ _ _ h => h) (Or.inl ⟨Z398,?_⟩) ?_ ?_
  rotate_left
  · intro w'
    go_simp
    with_reducible rfl
  rotate_left
  · simp only [Act.put,List.setIfInBounds_toArray,List.set_cons_zero,List.set_cons_succ,i64_w,i32_w]
    rfl
  refine pure_ (i := 5) (N := some 10) (v := ?_) (a' := ?_) #[true,false,true,false,false,true,false,false,false,false,false,false,false,false] rfl rfl (any_of HT_.out Z396) (fun _ _ _ h => h) (Or.inl ⟨Z398,?_⟩) ?_ ?_
  rotate_left
  · intro w'
    go_simp
    with_reducible rfl
  rotate_left
  · simp only [Act.put,List.setIfInBounds_toArray,List.set_cons_zero,List.set_cons_succ,i64_w,i32_w]
    rfl
  refine pure_ (i := 7) (N := some 12) (v := ?_) (a' := ?_) #[true,false,true,false,false,true,false,true,false,false,false,false,false,false] rfl rfl (any_of HT_.out Z396) (fun _ _ _ h => h) (Or.inl ⟨Z398,?_⟩) ?_ ?_
  rotate_left
  · intro w'
    go_simp
    with_reducible rfl
  rotate_left
  · simp only [Act.put,List.setIfInBounds_toArray,List.set_cons_zero,List.set_cons_succ,i64_w,i32_w]
    rfl
  refine take_ (i := 1) (N := some 6) (v := ?_) (a' := ?_) #[true,true,true,false,false,true,false,true,false,false,false,false,false,false] rfl rfl (take_ofW HT_.out HW_.out Z396) (fun _ _ _ h => h) (Or.inl ⟨Z398,?_⟩) hHeld ?_ ?_
  rotate_left
  · rintro w' ⟨s0,s1,s2,s3,s4,s5,s6,s7,s8,s9,s10,s11⟩
    go_simp
    with_reducible rfl
  rotate_left
  · simp only [Act.put,List.setIfInBounds_toArray,List.set_cons_zero,List.set_cons_succ,i64_w,i32_w]
    rfl
  refine take_ (i := 3) (N := some 8) (v := ?_) (a' := ?_) #[true,true,true,true,false,true,false,true,false,false,false,false,false,false] rfl rfl (take_ofW HT_.out HW_.out Z396) (fun _ _ _ h => h) (Or.inl ⟨Z398,?_⟩) hHeld ?_ ?_
  rotate_left
  · rintro w' ⟨s0,s1,s2,s3,s4,s5,s6,s7,s8,s9,s10,s11⟩
    go_simp
    with_reducible rfl
  rotate_left
  · simp only [Act.put,List.setIfInBounds_toArray,List.set_cons_zero,List.set_cons_succ,i64_w,i32_w]
    rfl
  refine take_ (i := 6) (N := some 11) (v := ?_) (a' := ?_) #[true,true,true,true,false,true,true,true,false,false,false,false,false,false] rfl rfl (take_ofW HT_.out HW_.out Z396) (fun _ _ _ h => h) (Or.inl ⟨Z398,?_⟩) hHeld ?_ ?_
  rotate_left
  · rintro w' ⟨s0,s1,s2,s3,s4,s5,s6,s7,s8,s9,s10,s11⟩
    go_simp
    with_reducible rfl
  rotate_left
  · simp only [Act.put,List.setIfInBounds_toArray,List.set_cons_zero,List.set_cons_succ,i64_w,i32_w]
    rfl
  refine take_ (i := 8) (N := some 13) (v := ?_) (a' := ?_) #[true,true,true,true,false,true,true,true,true,false,false,false,false,false] rfl rfl (take_ofW HT_.out HW_.out Z396) (fun _ _ _ h => h) (Or.inl ⟨Z398,?_⟩) hHeld ?_ ?_
  rotate_left
  · rintro w' ⟨s0,s1,s2,s3,s4,s5,s6,s7,s8,s9,s10,s11⟩
    go_simp
    with_reducible rfl
  rotate_left
  · simp only [Act.put,List.setIfInBounds_toArray,List.set_cons_zero,List.set_cons_succ,i64_w,i32_w]
    rfl
  refine one_ (i := 4) (N := some 9) #[true,true,true,true,true,true,true,true,true,false,false,false,false,false] rfl rfl (one_of HT_.out Z396) Z397 (fun K hK => ?_)
  refine goes_ Try.func56 Z396 rfl #[.int .i64 a0_0,.int .i64 a1_0] Z398 rfl rfl Z353 ?_
  with_reducible refine (cmp_Compare_int.calls a0_0 a1_0 t429 _ A3.out).mono ?_
  rintro e w' ⟨rfl,⟨nd,rfl⟩⟩
  refine ⟨_,rfl,?_⟩
  refine hK.out _ _ ⟨(blk_cell BK427.out 0).trans rfl,(blk_cell BK427.out 1).trans rfl,(blk_cell BK427.out 2).trans rfl,(blk_cell BK427.out 3).trans rfl,(blk_cell BK427.out 4).trans rfl,(blk_cell BK427.out 5).trans rfl,(blk_cell BK428.out 0).trans rfl,(blk_cell BK428.out 1).trans rfl,(blk_cell BK428.out 2).trans rfl,(blk_cell BK428.out 3).trans rfl,(blk_cell BK428.out 4).trans rfl,(blk_cell BK428.out 5).trans rfl⟩ (fun hHeld => ?_)
  clear hK K
  refine norm_ (a' := ?_) ?_ ?_
  rotate_left
  · show Act.put _ (some 9) _ = _
    simp only [Act.put,List.setIfInBounds_toArray,List.set_cons_zero,List.set_cons_succ,i64_w,i32_w]
    rfl
  refine one_ (i := 9) (N := some 14) #[true,true,true,true,true,true,true,true,true,true,false,false,false,false] rfl rfl (one_of HT_.out Z396) Z397 (fun K hK => ?_)
  refine goes_ Try.func56 Z396 rfl #[.int .i64 a0_1,.int .i64 a1_1] Z398 rfl rfl Z353 ?_
  with_reducible refine (cmp_Compare_int.calls a0_1 a1_1 t430 _ A4.out).mono ?_
  rintro e w' ⟨rfl,⟨nd,rfl⟩⟩
  refine ⟨_,rfl,?_⟩
  refine hK.out _ _ ⟨(blk_cell BK427.out 0).trans rfl,(blk_cell BK427.out 1).trans rfl,(blk_cell BK427.out 2).trans rfl,(blk_cell BK427.out 3).trans rfl,(blk_cell BK427.out 4).trans rfl,(blk_cell BK427.out 5).trans rfl,(blk_cell BK428.out 0).trans rfl,(blk_cell BK428.out 1).trans rfl,(blk_cell BK428.out 2).trans rfl,(blk_cell BK428.out 3).trans rfl,(blk_cell BK428.out 4).trans rfl,(blk_cell BK428.out 5).trans rfl⟩ (fun hHeld => ?_)
  clear hK K
  refine norm_ (a' := ?_) ?_ ?_
  rotate_left
  · show Act.put _ (some 14) _ = _
    simp only [Act.put,List.setIfInBounds_toArray,List.set_cons_zero,List.set_cons_succ,i64_w,i32_w]
    rfl
  refine one_ (i := 10) (N := some 15) #[true,true,true,true,true,true,true,true,true,true,true,false,false,false] rfl rfl (one_of HT_.out Z396) Z397 (fun K hK => ?_)
  refine Kd.R_lit_step (Kd.int .i64) _ 3 ?hg (N := 15) ?hd (xs := ([t429,t430] : List Int)) (inner := [.int .i64 t429,.int .i64 t430]) (ok := fun _ => True) (okp := fun _ => True) ?hr ?hp (fun _ hk => hk) trivial (Below.refl _ _) (Nat.le_refl _) Z537 ?_;(case hd => rfl);(case hg => rfl);(case hr => exact Z393);(case hp => exact (Reps.one (show Kd.M (Kd.int .i64) _ _ _ t429 [.int .i64 t429] from rfl) (Reps.one (show Kd.M (Kd.int .i64) _ _ _ t430 [.int .i64 t430] from rfl) (Reps.none _ _))))
  intro v432 w9 ho10 hb hg_ hnew_
  clear hg_ hnew_
  (first | rw [← Ny431.out] at ho10 | (simp only [Int.reduceToNat] at ho10;rw [← Ny431.out] at ho10))
  have n0_ := Aside0.mk (Kd.R_lower ho10 (below_size Z327))
  have n1_ := Aside0.mk (blk_below (g := gb427) (o := .cells #[.int .i64 a0_0,.int .i64 a0_1,.int .i64 a0_2,.int .i64 a0_3,.int .i64 a0_4,.int .i64 a0_5] 35 (0,0)) Z376 hb)
  have n2_ := Aside0.mk (blk_below (g := gb428) (o := .cells #[.int .i64 a1_0,.int .i64 a1_1,.int .i64 a1_2,.int .i64 a1_3,.int .i64 a1_4,.int .i64 a1_5] 35 (0,0)) (by (with_reducible repeat (first | refine bA ?_ _ | refine bB ?_ | refine bC ?_ _));exact BK428.out) hb)
  have n3_ := Aside0.mk (below_step Z327 hb)
  clear BK427
  clear BK428
  clear HB
  have HO433 := n0_
  have BK427 := n1_
  have BK428 := n2_
  have HB := n3_
  clear n0_ n1_ n2_ n3_
  clear hb ho10
  obtain ⟨Ao11,co11,eo11⟩ := Kd.R_slice HO433.out
  (first | subst eo11 | (injection eo11 with f1_ f2_ f3_;have f4_ := f1_.symm;have f5_ := f3_.symm;clear f1_ f2_ f3_;subst f4_;subst f5_))
  refine hK.out _ _ ⟨(blk_cell BK427.out 0).trans rfl,(blk_cell BK427.out 1).trans rfl,(blk_cell BK427.out 2).trans rfl,(blk_cell BK427.out 3).trans rfl,(blk_cell BK427.out 4).trans rfl,(blk_cell BK427.out 5).trans rfl,(blk_cell BK428.out 0).trans rfl,(blk_cell BK428.out 1).trans rfl,(blk_cell BK428.out 2).trans rfl,(blk_cell BK428.out 3).trans rfl,(blk_cell BK428.out 4).trans rfl,(blk_cell BK428.out 5).trans rfl⟩ (fun hHeld => ?_)
  clear hK K
  refine norm_ (a' := ?_) ?_ ?_
  rotate_left
  · show Act.put _ (some 15) _ = _
    simp only [Act.put,List.setIfInBounds_toArray,List.set_cons_zero,List.set_cons_succ,i64_w,i32_w]
    rfl
  refine one_ (i := 11) (N := some 16) #[true,true,true,true,true,true,true,true,true,true,true,true,false,false] rfl rfl (one_of HT_.out Z396) Z397 (fun K hK => ?_)
  refine goes_ Try.func55 Z396 rfl #[.slice Ao11 y431.length co11] Z398 rfl rfl Z353 ?_
  with_reducible refine (cmp_Or_int.calls k _ _ y431 t434 _ ?side1 ?side2 A5.out).mono ?_
  (case side1 => repeat (first | exact (Kd.R_reads' HO433.out).2.2 | (with_reducible refine Kd.C_alloc ?_ _) | (with_reducible refine Kd.C_drewN ?_ _) | (with_reducible refine Kd.C_drew ?_)))
  (case side2 => exact (Kd.R_reads' HO433.out).2.1)
  rintro e w' ⟨rfl,⟨nd,rfl⟩⟩
  refine ⟨_,rfl,?_⟩
  refine hK.out _ _ ⟨(blk_cell BK427.out 0).trans rfl,(blk_cell BK427.out 1).trans rfl,(blk_cell BK427.out 2).trans rfl,(blk_cell BK427.out 3).trans rfl,(blk_cell BK427.out 4).trans rfl,(blk_cell BK427.out 5).trans rfl,(blk_cell BK428.out 0).trans rfl,(blk_cell BK428.out 1).trans rfl,(blk_cell BK428.out 2).trans rfl,(blk_cell BK428.out 3).trans rfl,(blk_cell BK428.out 4).trans rfl,(blk_cell BK428.out 5).trans rfl⟩ (fun hHeld => ?_)
  clear hK K
  refine norm_ (a' := ?_) ?_ ?_
  rotate_left
  · show Act.put _ (some 16) _ = _
    simp only [Act.put,List.setIfInBounds_toArray,List.set_cons_zero,List.set_cons_succ,i64_w,i32_w]
    rfl
  refine pure_ (i := 12) (N := some 17) (v := ?_) (a' := ?_) #[true,true,true,true,true,true,true,true,true,true,true,true,true,false] rfl rfl (any_of HT_.out Z396) (fun _ _ _ h => h) (Or.inl ⟨Z398,?_⟩) ?_ ?_
  rotate_left
  · intro w'
    go_simp
    with_reducible rfl
  rotate_left
  · simp only [Act.put,List.setIfInBounds_toArray,List.set_cons_zero,List.set_cons_succ,i64_w,i32_w]
    rfl
  refine pure_ (i := 13) (N := some 4) (v := ?_) (a' := ?_) #[true,true,true,true,true,true,true,true,true,true,true,true,true,true] rfl rfl (any_of HT_.out Z396) (fun _ _ _ h => h) (Or.inl ⟨Z398,?_⟩) ?_ ?_
  rotate_left
  · intro w'
    go_simp
    with_reducible rfl
  rotate_left
  · simp only [Act.put,List.setIfInBounds_toArray,List.set_cons_zero,List.set_cons_succ,i64_w,i32_w]
    rfl
  refine done_ (done_of HT_.out Z396) ?_
  try go_wp2
  go_ret
  exact ⟨Z385,Z327⟩

/-! ### impl_Better: function 17 -/
theorem impl_Better.cells4 {w : World} {g : Nat} {t : TypeId} {a0 a1 a2 a3 : Value} (h : w.heap[g]? = some (.cells #[a0,a1,a2,a3] t (0,0))) : w.cell? ⟨g,0,none⟩ = some a0 ∧ w.cell? ⟨g,1,none⟩ = some a1 ∧ w.cell? ⟨g,2,none⟩ = some a2 ∧ w.cell? ⟨g,3,none⟩ = some a3 ∧ w.frozen? ⟨g,0,none⟩ = false ∧ w.frozen? ⟨g,1,none⟩ = false ∧ w.frozen? ⟨g,2,none⟩ = false ∧ w.frozen? ⟨g,3,none⟩ = false := ⟨(blk_cell h 0).trans rfl,(blk_cell h 1).trans rfl,(blk_cell h 2).trans rfl,(blk_cell h 3).trans rfl,blk_frozen h 0,blk_frozen h 1,blk_frozen h 2,blk_frozen h 3⟩
theorem impl_Better.cells6 {w : World} {g : Nat} {t : TypeId} {a0 a1 a2 a3 a4 a5 : Value} (h : w.heap[g]? = some (.cells #[a0,a1,a2,a3,a4,a5] t (0,0))) : w.cell? ⟨g,0,none⟩ = some a0 ∧ w.cell? ⟨g,1,none⟩ = some a1 ∧ w.cell? ⟨g,2,none⟩ = some a2 ∧ w.cell? ⟨g,3,none⟩ = some a3 ∧ w.cell? ⟨g,4,none⟩ = some a4 ∧ w.cell? ⟨g,5,none⟩ = some a5 ∧ w.frozen? ⟨g,0,none⟩ = false ∧ w.frozen? ⟨g,1,none⟩ = false ∧ w.frozen? ⟨g,2,none⟩ = false ∧ w.frozen? ⟨g,3,none⟩ = false ∧ w.frozen? ⟨g,4,none⟩ = false ∧ w.frozen? ⟨g,5,none⟩ = false := ⟨(blk_cell h 0).trans rfl,(blk_cell h 1).trans rfl,(blk_cell h 2).trans rfl,(blk_cell h 3).trans rfl,(blk_cell h 4).trans rfl,(blk_cell h 5).trans rfl,blk_frozen h 0,blk_frozen h 1,blk_frozen h 2,blk_frozen h 3,blk_frozen h 4,blk_frozen h 5⟩
def impl_Better.f (k : Nat) (a0_0 : Int) (a0_1 : Int) (a0_2 : Int) (a0_3 : Int) (a0_4 : Int) (a0_5 : Int) (a1_0 : Int) (a1_1 : Int) (a1_2 : Int) (a1_3 : Int) (a1_4 : Int) (a1_5 : Int) (a2 : Int) : Option (Bool) := (impl_GainOf.f k a0_0 a0_1 a0_2 a0_3 a0_4 a0_5 a2).bind fun bt437 => ((impl_GainOf.f k a1_0 a1_1 a1_2 a1_3 a1_4 a1_5 a2).bind fun bt443 => ((impl_CompareFrac.f k bt437.1 bt437.2.1 bt437.2.2.1 bt437.2.2.2.1 bt443.1 bt443.2.1 bt443.2.2.1 bt443.2.2.2.1).bind fun bt449 => (if bt437.2.2.2.2 = true then (if bt443.2.2.2.2 = true then (if bt449.2 = true then (if bt449.1 > 0 then (some true) else (if bt449.1 = 0 then ((impl_CandLess.f k a0_0 a0_1 a0_2 a0_3 a0_4 a0_5 a1_0 a1_1 a1_2 a1_3 a1_4 a1_5).bind fun t451 => (some t451)) else (some false))) else (some false)) else (some false)) else (some false))))
theorem impl_Better.mono : ∀ a0 a1 a2 a3 a4 a5 a6 a7 a8 a9 a10 a11 a12 k,LeO (impl_Better.f k a0 a1 a2 a3 a4 a5 a6 a7 a8 a9 a10 a11 a12) (impl_Better.f (k + 1) a0 a1 a2 a3 a4 a5 a6 a7 a8 a9 a10 a11 a12) := by
  intro a0 a1 a2 a3 a4 a5 a6 a7 a8 a9 a10 a11 a12 k
  unfold impl_Better.f
  repeat' first
      | (with_reducible exact impl_CandLess.mono _ _ _ _ _ _ _ _ _ _ _ _ _)
      | (with_reducible exact impl_CompareFrac.mono _ _ _ _ _ _ _ _ _)
      | (with_reducible exact impl_GainOf.mono _ _ _ _ _ _ _ _)
      | (with_reducible exact LeO.refl _)
      | (with_reducible exact LeO.none _)
      | (with_reducible refine LeO.ite ?_ ?_)
      | (with_reducible refine LeO.bind ?_ (fun _ => ?_))
      | exact impl_CandLess.mono _ _ _ _ _ _ _ _ _ _ _ _ _
      | exact impl_CompareFrac.mono _ _ _ _ _ _ _ _ _
      | exact impl_GainOf.mono _ _ _ _ _ _ _ _
      | exact LeO.none _
      | refine LeO.ite ?_ ?_
      | refine LeO.bind ?_ (fun _ => ?_)
set_option maxHeartbeats 8000000 in
set_option maxRecDepth 100000 in
theorem impl_Better.calls (k : Nat) (a0_0 : Int) (a0_1 : Int) (a0_2 : Int) (a0_3 : Int) (a0_4 : Int) (a0_5 : Int) (a1_0 : Int) (a1_1 : Int) (a1_2 : Int) (a1_3 : Int) (a1_4 : Int) (a1_5 : Int) (a2 : Int) (r : Bool) (w : World) (h : impl_Better.f k a0_0 a0_1 a0_2 a0_3 a0_4 a0_5 a1_0 a1_1 a1_2 a1_3 a1_4 a1_5 a2 = some r) :
    Calls Try.prog 17 #[.agg #[.int .i64 a0_0,.int .i64 a0_1,.int .i64 a0_2,.int .i64 a0_3,.int .i64 a0_4,.int .i64 a0_5],.agg #[.int .i64 a1_0,.int .i64 a1_1,.int .i64 a1_2,.int .i64 a1_3,.int .i64 a1_4,.int .i64 a1_5],.int .i64 a2] w fun e w' => e = .returned (.bool r) ∧ Below w.heap.size w w' := by
  have hu35 := Try.underlying35
  have hu30 := Try.underlying30
  have HB := Aside0.mk (Below.refl w.heap.size w)
  have H : ((impl_GainOf.f k a0_0 a0_1 a0_2 a0_3 a0_4 a0_5 a2).bind fun bt437 => ((impl_GainOf.f k a1_0 a1_1 a1_2 a1_3 a1_4 a1_5 a2).bind fun bt443 => ((impl_CompareFrac.f k bt437.1 bt437.2.1 bt437.2.2.1 bt437.2.2.2.1 bt443.1 bt443.2.1 bt443.2.2.1 bt443.2.2.2.1).bind fun bt449 => (if bt437.2.2.2.2 = true then (if bt443.2.2.2.2 = true then (if bt449.2 = true then (if bt449.1 > 0 then (some true) else (if bt449.1 = 0 then ((impl_CandLess.f k a0_0 a0_1 a0_2 a0_3 a0_4 a0_5 a1_0 a1_1 a1_2 a1_3 a1_4 a1_5).bind fun t451 => (some t451)) else (some false))) else (some false)) else (some false)) else (some false))))) = some r := h
  clear h
  obtain ⟨⟨t437,t438,t439,t440,t441⟩,A40,H⟩ := Option.bind_eq_some_iff.mp H
  try dsimp only at H
  have A4 := Aside0.mk A40
  clear A40
  obtain ⟨⟨t443,t444,t445,t446,t447⟩,A50,H⟩ := Option.bind_eq_some_iff.mp H
  try dsimp only at H
  have A5 := Aside0.mk A50
  clear A50
  obtain ⟨⟨t449,t450⟩,A60,H⟩ := Option.bind_eq_some_iff.mp H
  try dsimp only at H
  have A6 := Aside0.mk A60
  clear A60
  by_cases c7 : t441 = true
  · subst c7
    have H1 : (if t447 = true then (if t450 = true then (if t449 > 0 then (some true) else (if t449 = 0 then ((impl_CandLess.f k a0_0 a0_1 a0_2 a0_3 a0_4 a0_5 a1_0 a1_1 a1_2 a1_3 a1_4 a1_5).bind fun t451 => (some t451)) else (some false))) else (some false)) else (some false)) = some r := by rw [if_pos rfl] at H;exact H
    clear H
    have H := H1
    clear H1
    by_cases c8 : t447 = true
    · subst c8
      have H1 : (if t450 = true then (if t449 > 0 then (some true) else (if t449 = 0 then ((impl_CandLess.f k a0_0 a0_1 a0_2 a0_3 a0_4 a0_5 a1_0 a1_1 a1_2 a1_3 a1_4 a1_5).bind fun t451 => (some t451)) else (some false))) else (some false)) = some r := by rw [if_pos rfl] at H;exact H
      clear H
      have H := H1
      clear H1
      by_cases c9 : t450 = true
      · subst c9
        have H1 : (if t449 > 0 then (some true) else (if t449 = 0 then ((impl_CandLess.f k a0_0 a0_1 a0_2 a0_3 a0_4 a0_5 a1_0 a1_1 a1_2 a1_3 a1_4 a1_5).bind fun t451 => (some t451)) else (some false))) = some r := by rw [if_pos rfl] at H;exact H
        clear H
        have H := H1
        clear H1
        by_cases c10 : t449 > 0
        · rw [if_pos c10] at H
          have c10b0 : decide (0 < t449) = true := decide_eq_true c10
          clear c10
          obtain rfl := Option.some.inj H
          go_enter Try.func17,Try.ntmps17
          go_wp2_with (first | ((with_reducible refine gate_dst (N := 3) rfl ?_);refine box_event ?hg (N := 3) ?hd (cs := #[.int .i64 a0_0,.int .i64 a0_1,.int .i64 a0_2,.int .i64 a0_3,.int .i64 a0_4,.int .i64 a0_5]) (t := 35) ?hr ?_;(case hd => rfl);(case hg => rfl);(case hr => exact Z393);intro gb435 hg w11 hbox hb;have n_ := jA (below_step Z476 hb) (jA (hbox) (jA ((Z345 : w.heap.size ≤ gb435)) (Aside0.mk ((Z345 : w.heap.size ≤ gb435)))));clear HB;obtain ⟨HB,BK435,GW435,GE435⟩ := n_;clear hb hbox hg) | ((with_reducible refine gate_dst (N := 4) rfl ?_);refine box_event ?hg (N := 4) ?hd (cs := #[.int .i64 a1_0,.int .i64 a1_1,.int .i64 a1_2,.int .i64 a1_3,.int .i64 a1_4,.int .i64 a1_5]) (t := 35) ?hr ?_;(case hd => rfl);(case hg => rfl);(case hr => exact Z393);intro gb436 hg w12 hbox hb;have n_ := jA (blk_below (g := gb435) (o := .cells #[.int .i64 a0_0,.int .i64 a0_1,.int .i64 a0_2,.int .i64 a0_3,.int .i64 a0_4,.int .i64 a0_5] 35 (0,0)) Z478 hb) (jA (below_step Z448 hb) (jA (hbox) (jA ((Z311 : w.heap.size ≤ gb436)) (jA ((Z311 : w.heap.size ≤ gb436)) (jA ((Z142 : gb435 ≠ gb436)) (Aside0.mk ((Z143 : gb436 ≠ gb435))))))));clear BK435 HB;obtain ⟨BK435,HB,BK436,GW436,GE436,NB435_436,NB436_435⟩ := n_;clear hb hbox hg;have hnb13 := NB435_436.out;have hnc13 := NB436_435.out;obtain ⟨hcz14_0,hcz14_1,hcz14_2,hcz14_3,hcz14_4,hcz14_5,hfz14_0,hfz14_1,hfz14_2,hfz14_3,hfz14_4,hfz14_5⟩ := impl_Better.cells6 BK435.out) | ((with_reducible refine gate_callee (f := 11) rfl ?_);refine goesL_ (some 16) rfl rfl Try.func11 Z396 rfl #[.agg #[.int .i64 a0_0,.int .i64 a0_1,.int .i64 a0_2,.int .i64 a0_3,.int .i64 a0_4,.int .i64 a0_5],.int .i64 a2] rfl Z353 ?_;(with_reducible refine (impl_GainOf.calls k a0_0 a0_1 a0_2 a0_3 a0_4 a0_5 a2 t437 t438 t439 t440 true _ A4.out).mono ?_);rintro e w15 ⟨rfl,hb⟩;refine ⟨_,rfl,?_⟩;have n_ := jA (blk_below (g := gb435) (o := .cells #[.int .i64 a0_0,.int .i64 a0_1,.int .i64 a0_2,.int .i64 a0_3,.int .i64 a0_4,.int .i64 a0_5] 35 (0,0)) Z478 hb) (jA (blk_below (g := gb436) (o := .cells #[.int .i64 a1_0,.int .i64 a1_1,.int .i64 a1_2,.int .i64 a1_3,.int .i64 a1_4,.int .i64 a1_5] 35 (0,0)) Z481 hb) (Aside0.mk (below_step Z430 hb)));clear BK435 BK436 HB;obtain ⟨BK435,BK436,HB⟩ := n_;(try clear hb);(try clear hb2);(try clear hk);(try clear hi)) | ((with_reducible refine gate_dst (N := 7) rfl ?_);refine box_event ?hg (N := 7) ?hd (cs := #[.bool false,.int .u64 0,.int .u64 0,.int .i64 0]) (t := 30) ?hr ?_;(case hd => rfl);(case hg => rfl);(case hr => exact Z393);intro gb442 hg w16 hbox hb;have n_ := jA (blk_below (g := gb435) (o := .cells #[.int .i64 a0_0,.int .i64 a0_1,.int .i64 a0_2,.int .i64 a0_3,.int .i64 a0_4,.int .i64 a0_5] 35 (0,0)) Z478 hb) (jA (blk_below (g := gb436) (o := .cells #[.int .i64 a1_0,.int .i64 a1_1,.int .i64 a1_2,.int .i64 a1_3,.int .i64 a1_4,.int .i64 a1_5] 35 (0,0)) Z481 hb) (jA (below_step Z430 hb) (jA (hbox) (jA ((Z215 : w.heap.size ≤ gb442)) (jA ((Z215 : w.heap.size ≤ gb442)) (jA ((Z142 : gb435 ≠ gb442)) (jA ((Z143 : gb442 ≠ gb435)) (jA ((Z144 : gb436 ≠ gb442)) (Aside0.mk ((Z145 : gb442 ≠ gb436)))))))))));clear BK435 BK436 HB;obtain ⟨BK435,BK436,HB,BK442,GW442,GE442,NB435_442,NB442_435,NB436_442,NB442_436⟩ := n_;clear hb hbox hg;have hnb17 := NB442_435.out;have hnc17 := NB435_442.out;have hnb18 := NB442_436.out;have hnc18 := NB436_442.out;obtain ⟨hcz19_0,hcz19_1,hcz19_2,hcz19_3,hfz19_0,hfz19_1,hfz19_2,hfz19_3⟩ := impl_Better.cells4 BK442.out;obtain ⟨hcz20_0,hcz20_1,hcz20_2,hcz20_3,hcz20_4,hcz20_5,hfz20_0,hfz20_1,hfz20_2,hfz20_3,hfz20_4,hfz20_5⟩ := impl_Better.cells6 BK436.out) | ((with_reducible refine gate_callee (f := 11) rfl ?_);refine goesL_ (some 22) rfl rfl Try.func11 Z396 rfl #[.agg #[.int .i64 a1_0,.int .i64 a1_1,.int .i64 a1_2,.int .i64 a1_3,.int .i64 a1_4,.int .i64 a1_5],.int .i64 a2] rfl Z353 ?_;(with_reducible refine (impl_GainOf.calls k a1_0 a1_1 a1_2 a1_3 a1_4 a1_5 a2 t443 t444 t445 t446 true _ A5.out).mono ?_);rintro e w21 ⟨rfl,hb⟩;refine ⟨_,rfl,?_⟩;have n_ := jA (blk_below (g := gb435) (o := .cells #[.int .i64 a0_0,.int .i64 a0_1,.int .i64 a0_2,.int .i64 a0_3,.int .i64 a0_4,.int .i64 a0_5] 35 (0,0)) Z62 hb) (jA (blk_below (g := gb436) (o := .cells #[.int .i64 a1_0,.int .i64 a1_1,.int .i64 a1_2,.int .i64 a1_3,.int .i64 a1_4,.int .i64 a1_5] 35 (0,0)) Z60 hb) (jA (blk_below (g := gb442) (o := .cells #[.bool t437,.int .u64 t438,.int .u64 t439,.int .i64 t440] 30 (0,0)) Z22 hb) (Aside0.mk (below_step Z417 hb))));clear BK435 BK436 BK442 HB;obtain ⟨BK435,BK436,BK442,HB⟩ := n_;(try clear hb);(try clear hb2);(try clear hk);(try clear hi)) | ((with_reducible refine gate_dst (N := 9) rfl ?_);refine box_event ?hg (N := 9) ?hd (cs := #[.bool false,.int .u64 0,.int .u64 0,.int .i64 0]) (t := 30) ?hr ?_;(case hd => rfl);(case hg => rfl);(case hr => exact Z393);intro gb448 hg w22 hbox hb;have n_ := jA (blk_below (g := gb435) (o := .cells #[.int .i64 a0_0,.int .i64 a0_1,.int .i64 a0_2,.int .i64 a0_3,.int .i64 a0_4,.int .i64 a0_5] 35 (0,0)) Z478 hb) (jA (blk_below (g := gb436) (o := .cells #[.int .i64 a1_0,.int .i64 a1_1,.int .i64 a1_2,.int .i64 a1_3,.int .i64 a1_4,.int .i64 a1_5] 35 (0,0)) Z481 hb) (jA (blk_below (g := gb442) (o := .cells #[.bool t437,.int .u64 t438,.int .u64 t439,.int .i64 t440] 30 (0,0)) Z512 hb) (jA (below_step Z417 hb) (jA (hbox) (jA ((Z160 : w.heap.size ≤ gb448)) (jA ((Z160 : w.heap.size ≤ gb448)) (jA ((Z142 : gb435 ≠ gb448)) (jA ((Z143 : gb448 ≠ gb435)) (jA ((Z144 : gb436 ≠ gb448)) (jA ((Z145 : gb448 ≠ gb436)) (jA ((Z195 : gb442 ≠ gb448)) (Aside0.mk ((Z200 : gb448 ≠ gb442))))))))))))));clear BK435 BK436 BK442 HB;obtain ⟨BK435,BK436,BK442,HB,BK448,GW448,GE448,NB435_448,NB448_435,NB436_448,NB448_436,NB442_448,NB448_442⟩ := n_;clear hb hbox hg;have hnb23 := NB448_435.out;have hnc23 := NB435_448.out;have hnb24 := NB448_436.out;have hnc24 := NB436_448.out;have hnb25 := NB448_442.out;have hnc25 := NB442_448.out;obtain ⟨hcz26_0,hcz26_1,hcz26_2,hcz26_3,hfz26_0,hfz26_1,hfz26_2,hfz26_3⟩ := impl_Better.cells4 BK448.out;obtain ⟨hcz27_0,hcz27_1,hcz27_2,hcz27_3,hfz27_0,hfz27_1,hfz27_2,hfz27_3⟩ := impl_Better.cells4 BK442.out) | ((with_reducible refine gate_callee (f := 35) rfl ?_);refine goesL_ (some 28) rfl rfl Try.func35 Z396 rfl #[.agg #[.bool t437,.int .u64 t438,.int .u64 t439,.int .i64 t440],.agg #[.bool t443,.int .u64 t444,.int .u64 t445,.int .i64 t446]] rfl Z353 ?_;(with_reducible refine (impl_CompareFrac.calls k t437 t438 t439 t440 t443 t444 t445 t446 t449 true _ A6.out).mono ?_);rintro e w28 ⟨rfl,hb⟩;refine ⟨_,rfl,?_⟩;have n_ := jA (blk_below (g := gb435) (o := .cells #[.int .i64 a0_0,.int .i64 a0_1,.int .i64 a0_2,.int .i64 a0_3,.int .i64 a0_4,.int .i64 a0_5] 35 (0,0)) Z61 hb) (jA (blk_below (g := gb436) (o := .cells #[.int .i64 a1_0,.int .i64 a1_1,.int .i64 a1_2,.int .i64 a1_3,.int .i64 a1_4,.int .i64 a1_5] 35 (0,0)) Z59 hb) (jA (blk_below (g := gb442) (o := .cells #[.bool t437,.int .u64 t438,.int .u64 t439,.int .i64 t440] 30 (0,0)) Z58 hb) (jA (blk_below (g := gb448) (o := .cells #[.bool t443,.int .u64 t444,.int .u64 t445,.int .i64 t446] 30 (0,0)) Z21 hb) (Aside0.mk (below_step Z158 hb)))));clear BK435 BK436 BK442 BK448 HB;obtain ⟨BK435,BK436,BK442,BK448,HB⟩ := n_;(try clear hb);(try clear hb2);(try clear hk);(try clear hi)))
          go_ret
          exact ⟨Z385,Z158⟩
        · rw [if_neg c10] at H
          have c10b0 : decide (0 < t449) = false := decide_eq_false c10
          clear c10
          by_cases c29 : t449 = 0
          · rw [if_pos c29] at H
            have c29b0 : (t449 == 0) = true := beq_iff_eq.mpr c29
            have c29b1 : (t449 != 0) = false := bne_eq_false_iff_eq.mpr c29
            clear c29
            obtain ⟨t451,A300,H⟩ := Option.bind_eq_some_iff.mp H
            have A30 := Aside0.mk A300
            clear A300
            obtain rfl := Option.some.inj H
            go_enter Try.func17,Try.ntmps17
            go_wp2_with (first | ((with_reducible refine gate_dst (N := 3) rfl ?_);refine box_event ?hg (N := 3) ?hd (cs := #[.int .i64 a0_0,.int .i64 a0_1,.int .i64 a0_2,.int .i64 a0_3,.int .i64 a0_4,.int .i64 a0_5]) (t := 35) ?hr ?_;(case hd => rfl);(case hg => rfl);(case hr => exact Z393);intro gb435 hg w31 hbox hb;have n_ := jA (below_step Z476 hb) (jA (hbox) (jA ((Z345 : w.heap.size ≤ gb435)) (Aside0.mk ((Z345 : w.heap.size ≤ gb435)))));clear HB;obtain ⟨HB,BK435,GW435,GE435⟩ := n_;clear hb hbox hg) | ((with_reducible refine gate_dst (N := 4) rfl ?_);refine box_event ?hg (N := 4) ?hd (cs := #[.int .i64 a1_0,.int .i64 a1_1,.int .i64 a1_2,.int .i64 a1_3,.int .i64 a1_4,.int .i64 a1_5]) (t := 35) ?hr ?_;(case hd => rfl);(case hg => rfl);(case hr => exact Z393);intro gb436 hg w32 hbox hb;have n_ := jA (blk_below (g := gb435) (o := .cells #[.int .i64 a0_0,.int .i64 a0_1,.int .i64 a0_2,.int .i64 a0_3,.int .i64 a0_4,.int .i64 a0_5] 35 (0,0)) Z478 hb) (jA (below_step Z448 hb) (jA (hbox) (jA ((Z311 : w.heap.size ≤ gb436)) (jA ((Z311 : w.heap.size ≤ gb436)) (jA ((Z142 : gb435 ≠ gb436)) (Aside0.mk ((Z143 : gb436 ≠ gb435))))))));clear BK435 HB;obtain ⟨BK435,HB,BK436,GW436,GE436,NB435_436,NB436_435⟩ := n_;clear hb hbox hg;have hnb33 := NB435_436.out;have hnc33 := NB436_435.out;obtain ⟨hcz34_0,hcz34_1,hcz34_2,hcz34_3,hcz34_4,hcz34_5,hfz34_0,hfz34_1,hfz34_2,hfz34_3,hfz34_4,hfz34_5⟩ := impl_Better.cells6 BK435.out) | ((with_reducible refine gate_callee (f := 11) rfl ?_);refine goesL_ (some 16) rfl rfl Try.func11 Z396 rfl #[.agg #[.int .i64 a0_0,.int .i64 a0_1,.int .i64 a0_2,.int .i64 a0_3,.int .i64 a0_4,.int .i64 a0_5],.int .i64 a2] rfl Z353 ?_;(with_reducible refine (impl_GainOf.calls k a0_0 a0_1 a0_2 a0_3 a0_4 a0_5 a2 t437 t438 t439 t440 true _ A4.out).mono ?_);rintro e w35 ⟨rfl,hb⟩;refine ⟨_,rfl,?_⟩;have n_ := jA (blk_below (g := gb435) (o := .cells #[.int .i64 a0_0,.int .i64 a0_1,.int .i64 a0_2,.int .i64 a0_3,.int .i64 a0_4,.int .i64 a0_5] 35 (0,0)) Z478 hb) (jA (blk_below (g := gb436) (o := .cells #[.int .i64 a1_0,.int .i64 a1_1,.int .i64 a1_2,.int .i64 a1_3,.int .i64 a1_4,.int .i64 a1_5] 35 (0,0)) Z481 hb) (Aside0.mk (below_step Z430 hb)));clear BK435 BK436 HB;obtain ⟨BK435,BK436,HB⟩ := n_;(try clear hb);(try clear hb2);(try clear hk);(try clear hi)) | ((with_reducible refine gate_dst (N := 7) rfl ?_);refine box_event ?hg (N := 7) ?hd (cs := #[.bool false,.int .u64 0,.int .u64 0,.int .i64 0]) (t := 30) ?hr ?_;(case hd => rfl);(case hg => rfl);(case hr => exact Z393);intro gb442 hg w36 hbox hb;have n_ := jA (blk_below (g := gb435) (o := .cells #[.int .i64 a0_0,.int .i64 a0_1,.int .i64 a0_2,.int .i64 a0_3,.int .i64 a0_4,.int .i64 a0_5] 35 (0,0)) Z478 hb) (jA (blk_below (g := gb436) (o := .cells #[.int .i64 a1_0,.int .i64 a1_1,.int .i64 a1_2,.int .i64 a1_3,.int .i64 a1_4,.int .i64 a1_5] 35 (0,0)) Z481 hb) (jA (below_step Z430 hb) (jA (hbox) (jA ((Z215 : w.heap.size ≤ gb442)) (jA ((Z215 : w.heap.size ≤ gb442)) (jA ((Z142 : gb435 ≠ gb442)) (jA ((Z143 : gb442 ≠ gb435)) (jA ((Z144 : gb436 ≠ gb442)) (Aside0.mk ((Z145 : gb442 ≠ gb436)))))))))));clear BK435 BK436 HB;obtain ⟨BK435,BK436,HB,BK442,GW442,GE442,NB435_442,NB442_435,NB436_442,NB442_436⟩ := n_;clear hb hbox hg;have hnb37 := NB442_435.out;have hnc37 := NB435_442.out;have hnb38 := NB442_436.out;have hnc38 := NB436_442.out;obtain ⟨hcz39_0,hcz39_1,hcz39_2,hcz39_3,hfz39_0,hfz39_1,hfz39_2,hfz39_3⟩ := impl_Better.cells4 BK442.out;obtain ⟨hcz40_0,hcz40_1,hcz40_2,hcz40_3,hcz40_4,hcz40_5,hfz40_0,hfz40_1,hfz40_2,hfz40_3,hfz40_4,hfz40_5⟩ := impl_Better.cells6 BK436.out) | ((with_reducible refine gate_callee (f := 11) rfl ?_);refine goesL_ (some 22) rfl rfl Try.func11 Z396 rfl #[.agg #[.int .i64 a1_0,.int .i64 a1_1,.int .i64 a1_2,.int .i64 a1_3,.int .i64 a1_4,.int .i64 a1_5],.int .i64 a2] rfl Z353 ?_;(with_reducible refine (impl_GainOf.calls k a1_0 a1_1 a1_2 a1_3 a1_4 a1_5 a2 t443 t444 t445 t446 true _ A5.out).mono ?_);rintro e w41 ⟨rfl,hb⟩;refine ⟨_,rfl,?_⟩;have n_ := jA (blk_below (g := gb435) (o := .cells #[.int .i64 a0_0,.int .i64 a0_1,.int .i64 a0_2,.int .i64 a0_3,.int .i64 a0_4,.int .i64 a0_5] 35 (0,0)) Z62 hb) (jA (blk_below (g := gb436) (o := .cells #[.int .i64 a1_0,.int .i64 a1_1,.int .i64 a1_2,.int .i64 a1_3,.int .i64 a1_4,.int .i64 a1_5] 35 (0,0)) Z60 hb) (jA (blk_below (g := gb442) (o := .cells #[.bool t437,.int .u64 t438,.int .u64 t439,.int .i64 t440] 30 (0,0)) Z22 hb) (Aside0.mk (below_step Z417 hb))));clear BK435 BK436 BK442 HB;obtain ⟨BK435,BK436,BK442,HB⟩ := n_;(try clear hb);(try clear hb2);(try clear hk);(try clear hi)) | ((with_reducible refine gate_dst (N := 9) rfl ?_);refine box_event ?hg (N := 9) ?hd (cs := #[.bool false,.int .u64 0,.int .u64 0,.int .i64 0]) (t := 30) ?hr ?_;(case hd => rfl);(case hg => rfl);(case hr => exact Z393);intro gb448 hg w42 hbox hb;have n_ := jA (blk_below (g := gb435) (o := .cells #[.int .i64 a0_0,.int .i64 a0_1,.int .i64 a0_2,.int .i64 a0_3,.int .i64 a0_4,.int .i64 a0_5] 35 (0,0)) Z478 hb) (jA (blk_below (g := gb436) (o := .cells #[.int .i64 a1_0,.int .i64 a1_1,.int .i64 a1_2,.int .i64 a1_3,.int .i64 a1_4,.int .i64 a1_5] 35 (0,0)) Z481 hb) (jA (blk_below (g := gb442) (o := .cells #[.bool t437,.int .u64 t438,.int .u64 t439,.int .i64 t440] 30 (0,0)) Z512 hb) (jA (below_step Z417 hb) (jA (hbox) (jA ((Z160 : w.heap.size ≤ gb448)) (jA ((Z160 : w.heap.size ≤ gb448)) (jA ((Z142 : gb435 ≠ gb448)) (jA ((Z143 : gb448 ≠ gb435)) (jA ((Z144 : gb436 ≠ gb448)) (jA ((Z145 : gb448 ≠ gb436)) (jA ((Z195 : gb442 ≠ gb448)) (Aside0.mk ((Z200 : gb448 ≠ gb442))))))))))))));clear BK435 BK436 BK442 HB;obtain ⟨BK435,BK436,BK442,HB,BK448,GW448,GE448,NB435_448,NB448_435,NB436_448,NB448_436,NB442_448,NB448_442⟩ := n_;clear hb hbox hg;have hnb43 := NB448_435.out;have hnc43 := NB435_448.out;have hnb44 := NB448_436.out;have hnc44 := NB436_448.out;have hnb45 := NB448_442.out;have hnc45 := NB442_448.out;obtain ⟨hcz46_0,hcz46_1,hcz46_2,hcz46_3,hfz46_0,hfz46_1,hfz46_2,hfz46_3⟩ := impl_Better.cells4 BK448.out;obtain ⟨hcz47_0,hcz47_1,hcz47_2,hcz47_3,hfz47_0,hfz47_1,hfz47_2,hfz47_3⟩ := impl_Better.cells4 BK442.out) | ((with_reducible refine gate_callee (f := 35) rfl ?_);refine goesL_ (some 28) rfl rfl Try.func35 Z396 rfl #[.agg #[.bool t437,.int .u64 t438,.int .u64 t439,.int .i64 t440],.agg #[.bool t443,.int .u64 t444,.int .u64 t445,.int .i64 t446]] rfl Z353 ?_;(with_reducible refine (impl_CompareFrac.calls k t437 t438 t439 t440 t443 t444 t445 t446 t449 true _ A6.out).mono ?_);rintro e w48 ⟨rfl,hb⟩;refine ⟨_,rfl,?_⟩;have n_ := jA (blk_below (g := gb435) (o := .cells #[.int .i64 a0_0,.int .i64 a0_1,.int .i64 a0_2,.int .i64 a0_3,.int .i64 a0_4,.int .i64 a0_5] 35 (0,0)) Z61 hb) (jA (blk_below (g := gb436) (o := .cells #[.int .i64 a1_0,.int .i64 a1_1,.int .i64 a1_2,.int .i64 a1_3,.int .i64 a1_4,.int .i64 a1_5] 35 (0,0)) Z59 hb) (jA (blk_below (g := gb442) (o := .cells #[.bool t437,.int .u64 t438,.int .u64 t439,.int .i64 t440] 30 (0,0)) Z58 hb) (jA (blk_below (g := gb448) (o := .cells #[.bool t443,.int .u64 t444,.int .u64 t445,.int .i64 t446] 30 (0,0)) Z21 hb) (Aside0.mk (below_step Z158 hb)))));clear BK435 BK436 BK442 BK448 HB;obtain ⟨BK435,BK436,BK442,BK448,HB⟩ := n_;(try clear hb);(try clear hb2);(try clear hk);(try clear hi);obtain ⟨hcz49_0,hcz49_1,hcz49_2,hcz49_3,hcz49_4,hcz49_5,hfz49_0,hfz49_1,hfz49_2,hfz49_3,hfz49_4,hfz49_5⟩ := impl_Better.cells6 BK435.out;obtain ⟨hcz50_0,hcz50_1,hcz50_2,hcz50_3,hcz50_4,hcz50_5,hfz50_0,hfz50_1,hfz50_2,hfz50_3,hfz50_4,hfz50_5⟩ := impl_Better.cells6 BK436.out) | (go_at_call 36;(with_reducible refine (impl_CandLess.calls k a0_0 a0_1 a0_2 a0_3 a0_4 a0_5 a1_0 a1_1 a1_2 a1_3 a1_4 a1_5 t451 _ A30.out).mono ?_);rintro e w51 ⟨rfl,hb⟩;have n_ := jA (blk_below (g := gb435) (o := .cells #[.int .i64 a0_0,.int .i64 a0_1,.int .i64 a0_2,.int .i64 a0_3,.int .i64 a0_4,.int .i64 a0_5] 35 (0,0)) Z478 hb) (jA (blk_below (g := gb436) (o := .cells #[.int .i64 a1_0,.int .i64 a1_1,.int .i64 a1_2,.int .i64 a1_3,.int .i64 a1_4,.int .i64 a1_5] 35 (0,0)) Z481 hb) (jA (blk_below (g := gb442) (o := .cells #[.bool t437,.int .u64 t438,.int .u64 t439,.int .i64 t440] 30 (0,0)) Z512 hb) (jA (blk_below (g := gb448) (o := .cells #[.bool t443,.int .u64 t444,.int .u64 t445,.int .i64 t446] 30 (0,0)) (by (with_reducible repeat (first | refine bA ?_ _ | refine bB ?_ | refine bC ?_ _));exact BK448.out) hb) (Aside0.mk (below_step Z158 hb)))));clear BK435 BK436 BK442 BK448 HB;obtain ⟨BK435,BK436,BK442,BK448,HB⟩ := n_;(try clear hb);(try clear hb2);(try clear hk);(try clear hi)))
            go_ret
            exact ⟨Z385,Z158⟩
          · rw [if_neg c29] at H
            have c29b0 : (t449 == 0) = false := beq_eq_false_iff_ne.mpr c29
            have c29b1 : (t449 != 0) = true := bne_iff_ne.mpr c29
            obtain rfl := Option.some.inj H
            go_enter Try.func17,Try.ntmps17
            go_wp2_with (first | ((with_reducible refine gate_dst (N := 3) rfl ?_);refine box_event ?hg (N := 3) ?hd (cs := #[.int .i64 a0_0,.int .i64 a0_1,.int .i64 a0_2,.int .i64 a0_3,.int .i64 a0_4,.int .i64 a0_5]) (t := 35) ?hr ?_;(case hd => rfl);(case hg => rfl);(case hr => exact Z393);intro gb435 hg w52 hbox hb;have n_ := jA (below_step Z476 hb) (jA (hbox) (jA ((Z345 : w.heap.size ≤ gb435)) (Aside0.mk ((Z345 : w.heap.size ≤ gb435)))));clear HB;obtain ⟨HB,BK435,GW435,GE435⟩ := n_;clear hb hbox hg) | ((with_reducible refine gate_dst (N := 4) rfl ?_);refine box_event ?hg (N := 4) ?hd (cs := #[.int .i64 a1_0,.int .i64 a1_1,.int .i64 a1_2,.int .i64 a1_3,.int .i64 a1_4,.int .i64 a1_5]) (t := 35) ?hr ?_;(case hd => rfl);(case hg => rfl);(case hr => exact Z393);intro gb436 hg w53 hbox hb;have n_ := jA (blk_below (g := gb435) (o := .cells #[.int .i64 a0_0,.int .i64 a0_1,.int .i64 a0_2,.int .i64 a0_3,.int .i64 a0_4,.int .i64 a0_5] 35 (0,0)) Z478 hb) (jA (below_step Z448 hb) (jA (hbox) (jA ((Z311 : w.heap.size ≤ gb436)) (jA ((Z311 : w.heap.size ≤ gb436)) (jA ((Z142 : gb435 ≠ gb436)) (Aside0.mk ((Z143 : gb436 ≠ gb435))))))));clear BK435 HB;obtain ⟨BK435,HB,BK436,GW436,GE436,NB435_436,NB436_435⟩ := n_;clear hb hbox hg;have hnb54 := NB435_436.out;have hnc54 := NB436_435.out;obtain ⟨hcz55_0,hcz55_1,hcz55_2,hcz55_3,hcz55_4,hcz55_5,hfz55_0,hfz55_1,hfz55_2,hfz55_3,hfz55_4,hfz55_5⟩ := impl_Better.cells6 BK435.out) | ((with_reducible refine gate_callee (f := 11) rfl ?_);refine goesL_ (some 16) rfl rfl Try.func11 Z396 rfl #[.agg #[.int .i64 a0_0,.int .i64 a0_1,.int .i64 a0_2,.int .i64 a0_3,.int .i64 a0_4,.int .i64 a0_5],.int .i64 a2] rfl Z353 ?_;(with_reducible refine (impl_GainOf.calls k a0_0 a0_1 a0_2 a0_3 a0_4 a0_5 a2 t437 t438 t439 t440 true _ A4.out).mono ?_);rintro e w56 ⟨rfl,hb⟩;refine ⟨_,rfl,?_⟩;have n_ := jA (blk_below (g := gb435) (o := .cells #[.int .i64 a0_0,.int .i64 a0_1,.int .i64 a0_2,.int .i64 a0_3,.int .i64 a0_4,.int .i64 a0_5] 35 (0,0)) Z478 hb) (jA (blk_below (g := gb436) (o := .cells #[.int .i64 a1_0,.int .i64 a1_1,.int .i64 a1_2,.int .i64 a1_3,.int .i64 a1_4,.int .i64 a1_5] 35 (0,0)) Z481 hb) (Aside0.mk (below_step Z430 hb)));clear BK435 BK436 HB;obtain ⟨BK435,BK436,HB⟩ := n_;(try clear hb);(try clear hb2);(try clear hk);(try clear hi)) | ((with_reducible refine gate_dst (N := 7) rfl ?_);refine box_event ?hg (N := 7) ?hd (cs := #[.bool false,.int .u64 0,.int .u64 0,.int .i64 0]) (t := 30) ?hr ?_;(case hd => rfl);(case hg => rfl);(case hr => exact Z393);intro gb442 hg w57 hbox hb;have n_ := jA (blk_below (g := gb435) (o := .cells #[.int .i64 a0_0,.int .i64 a0_1,.int .i64 a0_2,.int .i64 a0_3,.int .i64 a0_4,.int .i64 a0_5] 35 (0,0)) Z478 hb) (jA (blk_below (g := gb436) (o := .cells #[.int .i64 a1_0,.int .i64 a1_1,.int .i64 a1_2,.int .i64 a1_3,.int .i64 a1_4,.int .i64 a1_5] 35 (0,0)) Z481 hb) (jA (below_step Z430 hb) (jA (hbox) (jA ((Z215 : w.heap.size ≤ gb442)) (jA ((Z215 : w.heap.size ≤ gb442)) (jA ((Z142 : gb435 ≠ gb442)) (jA ((Z143 : gb442 ≠ gb435)) (jA ((Z144 : gb436 ≠ gb442)) (Aside0.mk ((Z145 : gb442 ≠ gb436)))))))))));clear BK435 BK436 HB;obtain ⟨BK435,BK436,HB,BK442,GW442,GE442,NB435_442,NB442_435,NB436_442,NB442_436⟩ := n_;clear hb hbox hg;have hnb58 := NB442_435.out;have hnc58 := NB435_442.out;have hnb59 := NB442_436.out;have hnc59 := NB436_442.out;obtain ⟨hcz60_0,hcz60_1,hcz60_2,hcz60_3,hfz60_0,hfz60_1,hfz60_2,hfz60_3⟩ := impl_Better.cells4 BK442.out;obtain ⟨hcz61_0,hcz61_1,hcz61_2,hcz61_3,hcz61_4,hcz61_5,hfz61_0,hfz61_1,hfz61_2,hfz61_3,hfz61_4,hfz61_5⟩ := impl_Better.cells6 BK436.out) | ((with_reducible refine gate_callee (f := 11) rfl ?_);refine goesL_ (some 22) rfl rfl Try.func11 Z396 rfl #[.agg #[.int .i64 a1_0,.int .i64 a1_1,.int .i64 a1_2,.int .i64 a1_3,.int .i64 a1_4,.int .i64 a1_5],.int .i64 a2] rfl Z353 ?_;(with_reducible refine (impl_GainOf.calls k a1_0 a1_1 a1_2 a1_3 a1_4 a1_5 a2 t443 t444 t445 t446 true _ A5.out).mono ?_);rintro e w62 ⟨rfl,hb⟩;refine ⟨_,rfl,?_⟩;have n_ := jA (blk_below (g := gb435) (o := .cells #[.int .i64 a0_0,.int .i64 a0_1,.int .i64 a0_2,.int .i64 a0_3,.int .i64 a0_4,.int .i64 a0_5] 35 (0,0)) Z62 hb) (jA (blk_below (g := gb436) (o := .cells #[.int .i64 a1_0,.int .i64 a1_1,.int .i64 a1_2,.int .i64 a1_3,.int .i64 a1_4,.int .i64 a1_5] 35 (0,0)) Z60 hb) (jA (blk_below (g := gb442) (o := .cells #[.bool t437,.int .u64 t438,.int .u64 t439,.int .i64 t440] 30 (0,0)) Z22 hb) (Aside0.mk (below_step Z417 hb))));clear BK435 BK436 BK442 HB;obtain ⟨BK435,BK436,BK442,HB⟩ := n_;(try clear hb);(try clear hb2);(try clear hk);(try clear hi)) | ((with_reducible refine gate_dst (N := 9) rfl ?_);refine box_event ?hg (N := 9) ?hd (cs := #[.bool false,.int .u64 0,.int .u64 0,.int .i64 0]) (t := 30) ?hr ?_;(case hd => rfl);(case hg => rfl);(case hr => exact Z393);intro gb448 hg w63 hbox hb;have n_ := jA (blk_below (g := gb435) (o := .cells #[.int .i64 a0_0,.int .i64 a0_1,.int .i64 a0_2,.int .i64 a0_3,.int .i64 a0_4,.int .i64 a0_5] 35 (0,0)) Z478 hb) (jA (blk_below (g := gb436) (o := .cells #[.int .i64 a1_0,.int .i64 a1_1,.int .i64 a1_2,.int .i64 a1_3,.int .i64 a1_4,.int .i64 a1_5] 35 (0,0)) Z481 hb) (jA (blk_below (g := gb442) (o := .cells #[.bool t437,.int .u64 t438,.int .u64 t439,.int .i64 t440] 30 (0,0)) Z512 hb) (jA (below_step Z417 hb) (jA (hbox) (jA ((Z160 : w.heap.size ≤ gb448)) (jA ((Z160 : w.heap.size ≤ gb448)) (jA ((Z142 : gb435 ≠ gb448)) (jA ((Z143 : gb448 ≠ gb435)) (jA ((Z144 : gb436 ≠ gb448)) (jA ((Z145 : gb448 ≠ gb436)) (jA ((Z195 : gb442 ≠ gb448)) (Aside0.mk ((Z200 : gb448 ≠ gb442))))))))))))));clear BK435 BK436 BK442 HB;obtain ⟨BK435,BK436,BK442,HB,BK448,GW448,GE448,NB435_448,NB448_435,NB436_448,NB448_436,NB442_448,NB448_442⟩ := n_;clear hb hbox hg;have hnb64 := NB448_435.out;have hnc64 := NB435_448.out;have hnb65 := NB448_436.out;have hnc65 := NB436_448.out;have hnb66 := NB448_442.out;have hnc66 := NB442_448.out;obtain ⟨hcz67_0,hcz67_1,hcz67_2,hcz67_3,hfz67_0,hfz67_1,hfz67_2,hfz67_3⟩ := impl_Better.cells4 BK448.out;obtain ⟨hcz68_0,hcz68_1,hcz68_2,hcz68_3,hfz68_0,hfz68_1,hfz68_2,hfz68_3⟩ := impl_Better.cells4 BK442.out) | ((with_reducible refine gate_callee (f := 35) rfl ?_);refine goesL_ (some 28) rfl rfl Try.func35 Z396 rfl #[.agg #[.bool t437,.int .u64 t438,.int .u64 t439,.int .i64 t440],.agg #[.bool t443,.int .u64 t444,.int .u64 t445,.int .i64 t446]] rfl Z353 ?_;(with_reducible refine (impl_CompareFrac.calls k t437 t438 t439 t440 t443 t444 t445 t446 t449 true _ A6.out).mono ?_);rintro e w69 ⟨rfl,hb⟩;refine ⟨_,rfl,?_⟩;have n_ := jA (blk_below (g := gb435) (o := .cells #[.int .i64 a0_0,.int .i64 a0_1,.int .i64 a0_2,.int .i64 a0_3,.int .i64 a0_4,.int .i64 a0_5] 35 (0,0)) Z61 hb) (jA (blk_below (g := gb436) (o := .cells #[.int .i64 a1_0,.int .i64 a1_1,.int .i64 a1_2,.int .i64 a1_3,.int .i64 a1_4,.int .i64 a1_5] 35 (0,0)) Z59 hb) (jA (blk_below (g := gb442) (o := .cells #[.bool t437,.int .u64 t438,.int .u64 t439,.int .i64 t440] 30 (0,0)) Z58 hb) (jA (blk_below (g := gb448) (o := .cells #[.bool t443,.int .u64 t444,.int .u64 t445,.int .i64 t446] 30 (0,0)) Z21 hb) (Aside0.mk (below_step Z158 hb)))));clear BK435 BK436 BK442 BK448 HB;obtain ⟨BK435,BK436,BK442,BK448,HB⟩ := n_;(try clear hb);(try clear hb2);(try clear hk);(try clear hi)))
            go_ret
            exact ⟨Z385,Z158⟩
      · replace c9 := Bool.eq_false_iff.mpr c9
        subst c9
        have H1 : (some false) = some r := by rw [if_neg (show ¬ (false = true) by decide)] at H;exact H
        clear H
        have H := H1
        clear H1
        obtain rfl := Option.some.inj H
        go_enter Try.func17,Try.ntmps17
        go_wp2_with (first | ((with_reducible refine gate_dst (N := 3) rfl ?_);refine box_event ?hg (N := 3) ?hd (cs := #[.int .i64 a0_0,.int .i64 a0_1,.int .i64 a0_2,.int .i64 a0_3,.int .i64 a0_4,.int .i64 a0_5]) (t := 35) ?hr ?_;(case hd => rfl);(case hg => rfl);(case hr => exact Z393);intro gb435 hg w70 hbox hb;have n_ := jA (below_step Z476 hb) (jA (hbox) (jA ((Z345 : w.heap.size ≤ gb435)) (Aside0.mk ((Z345 : w.heap.size ≤ gb435)))));clear HB;obtain ⟨HB,BK435,GW435,GE435⟩ := n_;clear hb hbox hg) | ((with_reducible refine gate_dst (N := 4) rfl ?_);refine box_event ?hg (N := 4) ?hd (cs := #[.int .i64 a1_0,.int .i64 a1_1,.int .i64 a1_2,.int .i64 a1_3,.int .i64 a1_4,.int .i64 a1_5]) (t := 35) ?hr ?_;(case hd => rfl);(case hg => rfl);(case hr => exact Z393);intro gb436 hg w71 hbox hb;have n_ := jA (blk_below (g := gb435) (o := .cells #[.int .i64 a0_0,.int .i64 a0_1,.int .i64 a0_2,.int .i64 a0_3,.int .i64 a0_4,.int .i64 a0_5] 35 (0,0)) Z478 hb) (jA (below_step Z448 hb) (jA (hbox) (jA ((Z311 : w.heap.size ≤ gb436)) (jA ((Z311 : w.heap.size ≤ gb436)) (jA ((Z142 : gb435 ≠ gb436)) (Aside0.mk ((Z143 : gb436 ≠ gb435))))))));clear BK435 HB;obtain ⟨BK435,HB,BK436,GW436,GE436,NB435_436,NB436_435⟩ := n_;clear hb hbox hg;have hnb72 := NB435_436.out;have hnc72 := NB436_435.out;obtain ⟨hcz73_0,hcz73_1,hcz73_2,hcz73_3,hcz73_4,hcz73_5,hfz73_0,hfz73_1,hfz73_2,hfz73_3,hfz73_4,hfz73_5⟩ := impl_Better.cells6 BK435.out) | ((with_reducible refine gate_callee (f := 11) rfl ?_);refine goesL_ (some 16) rfl rfl Try.func11 Z396 rfl #[.agg #[.int .i64 a0_0,.int .i64 a0_1,.int .i64 a0_2,.int .i64 a0_3,.int .i64 a0_4,.int .i64 a0_5],.int .i64 a2] rfl Z353 ?_;(with_reducible refine (impl_GainOf.calls k a0_0 a0_1 a0_2 a0_3 a0_4 a0_5 a2 t437 t438 t439 t440 true _ A4.out).mono ?_);rintro e w74 ⟨rfl,hb⟩;refine ⟨_,rfl,?_⟩;have n_ := jA (blk_below (g := gb435) (o := .cells #[.int .i64 a0_0,.int .i64 a0_1,.int .i64 a0_2,.int .i64 a0_3,.int .i64 a0_4,.int .i64 a0_5] 35 (0,0)) Z478 hb) (jA (blk_below (g := gb436) (o := .cells #[.int .i64 a1_0,.int .i64 a1_1,.int .i64 a1_2,.int .i64 a1_3,.int .i64 a1_4,.int .i64 a1_5] 35 (0,0)) Z481 hb) (Aside0.mk (below_step Z430 hb)));clear BK435 BK436 HB;obtain ⟨BK435,BK436,HB⟩ := n_;(try clear hb);(try clear hb2);(try clear hk);(try clear hi)) | ((with_reducible refine gate_dst (N := 7) rfl ?_);refine box_event ?hg (N := 7) ?hd (cs := #[.bool false,.int .u64 0,.int .u64 0,.int .i64 0]) (t := 30) ?hr ?_;(case hd => rfl);(case hg => rfl);(case hr => exact Z393);intro gb442 hg w75 hbox hb;have n_ := jA (blk_below (g := gb435) (o := .cells #[.int .i64 a0_0,.int .i64 a0_1,.int .i64 a0_2,.int .i64 a0_3,.int .i64 a0_4,.int .i64 a0_5] 35 (0,0)) Z478 hb) (jA (blk_below (g := gb436) (o := .cells #[.int .i64 a1_0,.int .i64 a1_1,.int .i64 a1_2,.int .i64 a1_3,.int .i64 a1_4,.int .i64 a1_5] 35 (0,0)) Z481 hb) (jA (below_step Z430 hb) (jA (hbox) (jA ((Z215 : w.heap.size ≤ gb442)) (jA ((Z215 : w.heap.size ≤ gb442)) (jA ((Z142 : gb435 ≠ gb442)) (jA ((Z143 : gb442 ≠ gb435)) (jA ((Z144 : gb436 ≠ gb442)) (Aside0.mk ((Z145 : gb442 ≠ gb436)))))))))));clear BK435 BK436 HB;obtain ⟨BK435,BK436,HB,BK442,GW442,GE442,NB435_442,NB442_435,NB436_442,NB442_436⟩ := n_;clear hb hbox hg;have hnb76 := NB442_435.out;have hnc76 := NB435_442.out;have hnb77 := NB442_436.out;have hnc77 := NB436_442.out;obtain ⟨hcz78_0,hcz78_1,hcz78_2,hcz78_3,hfz78_0,hfz78_1,hfz78_2,hfz78_3⟩ := impl_Better.cells4 BK442.out;obtain ⟨hcz79_0,hcz79_1,hcz79_2,hcz79_3,hcz79_4,hcz79_5,hfz79_0,hfz79_1,hfz79_2,hfz79_3,hfz79_4,hfz79_5⟩ := impl_Better.cells6 BK436.out) | ((with_reducible refine gate_callee (f := 11) rfl ?_);refine goesL_ (some 22) rfl rfl Try.func11 Z396 rfl #[.agg #[.int .i64 a1_0,.int .i64 a1_1,.int .i64 a1_2,.int .i64 a1_3,.int .i64 a1_4,.int .i64 a1_5],.int .i64 a2] rfl Z353 ?_;(with_reducible refine (impl_GainOf.calls k a1_0 a1_1 a1_2 a1_3 a1_4 a1_5 a2 t443 t444 t445 t446 true _ A5.out).mono ?_);rintro e w80 ⟨rfl,hb⟩;refine ⟨_,rfl,?_⟩;have n_ := jA (blk_below (g := gb435) (o := .cells #[.int .i64 a0_0,.int .i64 a0_1,.int .i64 a0_2,.int .i64 a0_3,.int .i64 a0_4,.int .i64 a0_5] 35 (0,0)) Z62 hb) (jA (blk_below (g := gb436) (o := .cells #[.int .i64 a1_0,.int .i64 a1_1,.int .i64 a1_2,.int .i64 a1_3,.int .i64 a1_4,.int .i64 a1_5] 35 (0,0)) Z60 hb) (jA (blk_below (g := gb442) (o := .cells #[.bool t437,.int .u64 t438,.int .u64 t439,.int .i64 t440] 30 (0,0)) Z22 hb) (Aside0.mk (below_step Z417 hb))));clear BK435 BK436 BK442 HB;obtain ⟨BK435,BK436,BK442,HB⟩ := n_;(try clear hb);(try clear hb2);(try clear hk);(try clear hi)) | ((with_reducible refine gate_dst (N := 9) rfl ?_);refine box_event ?hg (N := 9) ?hd (cs := #[.bool false,.int .u64 0,.int .u64 0,.int .i64 0]) (t := 30) ?hr ?_;(case hd => rfl);(case hg => rfl);(case hr => exact Z393);intro gb448 hg w81 hbox hb;have n_ := jA (blk_below (g := gb435) (o := .cells #[.int .i64 a0_0,.int .i64 a0_1,.int .i64 a0_2,.int .i64 a0_3,.int .i64 a0_4,.int .i64 a0_5] 35 (0,0)) Z478 hb) (jA (blk_below (g := gb436) (o := .cells #[.int .i64 a1_0,.int .i64 a1_1,.int .i64 a1_2,.int .i64 a1_3,.int .i64 a1_4,.int .i64 a1_5] 35 (0,0)) Z481 hb) (jA (blk_below (g := gb442) (o := .cells #[.bool t437,.int .u64 t438,.int .u64 t439,.int .i64 t440] 30 (0,0)) Z512 hb) (jA (below_step Z417 hb) (jA (hbox) (jA ((Z160 : w.heap.size ≤ gb448)) (jA ((Z160 : w.heap.size ≤ gb448)) (jA ((Z142 : gb435 ≠ gb448)) (jA ((Z143 : gb448 ≠ gb435)) (jA ((Z144 : gb436 ≠ gb448)) (jA ((Z145 : gb448 ≠ gb436)) (jA ((Z195 : gb442 ≠ gb448)) (Aside0.mk ((Z200 : gb448 ≠ gb442))))))))))))));clear BK435 BK436 BK442 HB;obtain ⟨BK435,BK436,BK442,HB,BK448,GW448,GE448,NB435_448,NB448_435,NB436_448,NB448_436,NB442_448,NB448_442⟩ := n_;clear hb hbox hg;have hnb82 := NB448_435.out;have hnc82 := NB435_448.out;have hnb83 := NB448_436.out;have hnc83 := NB436_448.out;have hnb84 := NB448_442.out;have hnc84 := NB442_448.out;obtain ⟨hcz85_0,hcz85_1,hcz85_2,hcz85_3,hfz85_0,hfz85_1,hfz85_2,hfz85_3⟩ := impl_Better.cells4 BK448.out;obtain ⟨hcz86_0,hcz86_1,hcz86_2,hcz86_3,hfz86_0,hfz86_1,hfz86_2,hfz86_3⟩ := impl_Better.cells4 BK442.out) | ((with_reducible refine gate_callee (f := 35) rfl ?_);refine goesL_ (some 28) rfl rfl Try.func35 Z396 rfl #[.agg #[.bool t437,.int .u64 t438,.int .u64 t439,.int .i64 t440],.agg #[.bool t443,.int .u64 t444,.int .u64 t445,.int .i64 t446]] rfl Z353 ?_;(with_reducible refine (impl_CompareFrac.calls k t437 t438 t439 t440 t443 t444 t445 t446 t449 false _ A6.out).mono ?_);rintro e w87 ⟨rfl,hb⟩;refine ⟨_,rfl,?_⟩;have n_ := jA (blk_below (g := gb435) (o := .cells #[.int .i64 a0_0,.int .i64 a0_1,.int .i64 a0_2,.int .i64 a0_3,.int .i64 a0_4,.int .i64 a0_5] 35 (0,0)) Z61 hb) (jA (blk_below (g := gb436) (o := .cells #[.int .i64 a1_0,.int .i64 a1_1,.int .i64 a1_2,.int .i64 a1_3,.int .i64 a1_4,.int .i64 a1_5] 35 (0,0)) Z59 hb) (jA (blk_below (g := gb442) (o := .cells #[.bool t437,.int .u64 t438,.int .u64 t439,.int .i64 t440] 30 (0,0)) Z58 hb) (jA (blk_below (g := gb448) (o := .cells #[.bool t443,.int .u64 t444,.int .u64 t445,.int .i64 t446] 30 (0,0)) Z21 hb) (Aside0.mk (below_step Z158 hb)))));clear BK435 BK436 BK442 BK448 HB;obtain ⟨BK435,BK436,BK442,BK448,HB⟩ := n_;(try clear hb);(try clear hb2);(try clear hk);(try clear hi)))
        go_ret
        exact ⟨Z385,Z158⟩
    · replace c8 := Bool.eq_false_iff.mpr c8
      subst c8
      have H1 : (some false) = some r := by rw [if_neg (show ¬ (false = true) by decide)] at H;exact H
      clear H
      have H := H1
      clear H1
      obtain rfl := Option.some.inj H
      go_enter Try.func17,Try.ntmps17
      go_wp2_with (first | ((with_reducible refine gate_dst (N := 3) rfl ?_);refine box_event ?hg (N := 3) ?hd (cs := #[.int .i64 a0_0,.int .i64 a0_1,.int .i64 a0_2,.int .i64 a0_3,.int .i64 a0_4,.int .i64 a0_5]) (t := 35) ?hr ?_;(case hd => rfl);(case hg => rfl);(case hr => exact Z393);intro gb435 hg w88 hbox hb;have n_ := jA (below_step Z476 hb) (jA (hbox) (jA ((Z345 : w.heap.size ≤ gb435)) (Aside0.mk ((Z345 : w.heap.size ≤ gb435)))));clear HB;obtain ⟨HB,BK435,GW435,GE435⟩ := n_;clear hb hbox hg) | ((with_reducible refine gate_dst (N := 4) rfl ?_);refine box_event ?hg (N := 4) ?hd (cs := #[.int .i64 a1_0,.int .i64 a1_1,.int .i64 a1_2,.int .i64 a1_3,.int .i64 a1_4,.int .i64 a1_5]) (t := 35) ?hr ?_;(case hd => rfl);(case hg => rfl);(case hr => exact Z393);intro gb436 hg w89 hbox hb;have n_ := jA (blk_below (g := gb435) (o := .cells #[.int .i64 a0_0,.int .i64 a0_1,.int .i64 a0_2,.int .i64 a0_3,.int .i64 a0_4,.int .i64 a0_5] 35 (0,0)) Z478 hb) (jA (below_step Z448 hb) (jA (hbox) (jA ((Z311 : w.heap.size ≤ gb436)) (jA ((Z311 : w.heap.size ≤ gb436)) (jA ((Z142 : gb435 ≠ gb436)) (Aside0.mk ((Z143 : gb436 ≠ gb435))))))));clear BK435 HB;obtain ⟨BK435,HB,BK436,GW436,GE436,NB435_436,NB436_435⟩ := n_;clear hb hbox hg;have hnb90 := NB435_436.out;have hnc90 := NB436_435.out;obtain ⟨hcz91_0,hcz91_1,hcz91_2,hcz91_3,hcz91_4,hcz91_5,hfz91_0,hfz91_1,hfz91_2,hfz91_3,hfz91_4,hfz91_5⟩ := impl_Better.cells6 BK435.out) | ((with_reducible refine gate_callee (f := 11) rfl ?_);refine goesL_ (some 16) rfl rfl Try.func11 Z396 rfl #[.agg #[.int .i64 a0_0,.int .i64 a0_1,.int .i64 a0_2,.int .i64 a0_3,.int .i64 a0_4,.int .i64 a0_5],.int .i64 a2] rfl Z353 ?_;(with_reducible refine (impl_GainOf.calls k a0_0 a0_1 a0_2 a0_3 a0_4 a0_5 a2 t437 t438 t439 t440 true _ A4.out).mono ?_);rintro e w92 ⟨rfl,hb⟩;refine ⟨_,rfl,?_⟩;have n_ := jA (blk_below (g := gb435) (o := .cells #[.int .i64 a0_0,.int .i64 a0_1,.int .i64 a0_2,.int .i64 a0_3,.int .i64 a0_4,.int .i64 a0_5] 35 (0,0)) Z478 hb) (jA (blk_below (g := gb436) (o := .cells #[.int .i64 a1_0,.int .i64 a1_1,.int .i64 a1_2,.int .i64 a1_3,.int .i64 a1_4,.int .i64 a1_5] 35 (0,0)) Z481 hb) (Aside0.mk (below_step Z430 hb)));clear BK435 BK436 HB;obtain ⟨BK435,BK436,HB⟩ := n_;(try clear hb);(try clear hb2);(try clear hk);(try clear hi)) | ((with_reducible refine gate_dst (N := 7) rfl ?_);refine box_event ?hg (N := 7) ?hd (cs := #[.bool false,.int .u64 0,.int .u64 0,.int .i64 0]) (t := 30) ?hr ?_;(case hd => rfl);(case hg => rfl);(case hr => exact Z393);intro gb442 hg w93 hbox hb;have n_ := jA (blk_below (g := gb435) (o := .cells #[.int .i64 a0_0,.int .i64 a0_1,.int .i64 a0_2,.int .i64 a0_3,.int .i64 a0_4,.int .i64 a0_5] 35 (0,0)) Z478 hb) (jA (blk_below (g := gb436) (o := .cells #[.int .i64 a1_0,.int .i64 a1_1,.int .i64 a1_2,.int .i64 a1_3,.int .i64 a1_4,.int .i64 a1_5] 35 (0,0)) Z481 hb) (jA (below_step Z430 hb) (jA (hbox) (jA ((Z215 : w.heap.size ≤ gb442)) (jA ((Z215 : w.heap.size ≤ gb442)) (jA ((Z142 : gb435 ≠ gb442)) (jA ((Z143 : gb442 ≠ gb435)) (jA ((Z144 : gb436 ≠ gb442)) (Aside0.mk ((Z145 : gb442 ≠ gb436)))))))))));clear BK435 BK436 HB;obtain ⟨BK435,BK436,HB,BK442,GW442,GE442,NB435_442,NB442_435,NB436_442,NB442_436⟩ := n_;clear hb hbox hg;have hnb94 := NB442_435.out;have hnc94 := NB435_442.out;have hnb95 := NB442_436.out;have hnc95 := NB436_442.out;obtain ⟨hcz96_0,hcz96_1,hcz96_2,hcz96_3,hfz96_0,hfz96_1,hfz96_2,hfz96_3⟩ := impl_Better.cells4 BK442.out;obtain ⟨hcz97_0,hcz97_1,hcz97_2,hcz97_3,hcz97_4,hcz97_5,hfz97_0,hfz97_1,hfz97_2,hfz97_3,hfz97_4,hfz97_5⟩ := impl_Better.cells6 BK436.out) | ((with_reducible refine gate_callee (f := 11) rfl ?_);refine goesL_ (some 22) rfl rfl Try.func11 Z396 rfl #[.agg #[.int .i64 a1_0,.int .i64 a1_1,.int .i64 a1_2,.int .i64 a1_3,.int .i64 a1_4,.int .i64 a1_5],.int .i64 a2] rfl Z353 ?_;(with_reducible refine (impl_GainOf.calls k a1_0 a1_1 a1_2 a1_3 a1_4 a1_5 a2 t443 t444 t445 t446 false _ A5.out).mono ?_);rintro e w98 ⟨rfl,hb⟩;refine ⟨_,rfl,?_⟩;have n_ := jA (blk_below (g := gb435) (o := .cells #[.int .i64 a0_0,.int .i64 a0_1,.int .i64 a0_2,.int .i64 a0_3,.int .i64 a0_4,.int .i64 a0_5] 35 (0,0)) Z62 hb) (jA (blk_below (g := gb436) (o := .cells #[.int .i64 a1_0,.int .i64 a1_1,.int .i64 a1_2,.int .i64 a1_3,.int .i64 a1_4,.int .i64 a1_5] 35 (0,0)) Z60 hb) (jA (blk_below (g := gb442) (o := .cells #[.bool t437,.int .u64 t438,.int .u64 t439,.int .i64 t440] 30 (0,0)) Z22 hb) (Aside0.mk (below_step Z417 hb))));clear BK435 BK436 BK442 HB;obtain ⟨BK435,BK436,BK442,HB⟩ := n_;(try clear hb);(try clear hb2);(try clear hk);(try clear hi)) | ((with_reducible refine gate_dst (N := 9) rfl ?_);refine box_event ?hg (N := 9) ?hd (cs := #[.bool false,.int .u64 0,.int .u64 0,.int .i64 0]) (t := 30) ?hr ?_;(case hd => rfl);(case hg => rfl);(case hr => exact Z393);intro gb448 hg w99 hbox hb;have n_ := jA (blk_below (g := gb435) (o := .cells #[.int .i64 a0_0,.int .i64 a0_1,.int .i64 a0_2,.int .i64 a0_3,.int .i64 a0_4,.int .i64 a0_5] 35 (0,0)) Z478 hb) (jA (blk_below (g := gb436) (o := .cells #[.int .i64 a1_0,.int .i64 a1_1,.int .i64 a1_2,.int .i64 a1_3,.int .i64 a1_4,.int .i64 a1_5] 35 (0,0)) Z481 hb) (jA (blk_below (g := gb442) (o := .cells #[.bool t437,.int .u64 t438,.int .u64 t439,.int .i64 t440] 30 (0,0)) Z512 hb) (jA (below_step Z417 hb) (jA (hbox) (jA ((Z160 : w.heap.size ≤ gb448)) (jA ((Z160 : w.heap.size ≤ gb448)) (jA ((Z142 : gb435 ≠ gb448)) (jA ((Z143 : gb448 ≠ gb435)) (jA ((Z144 : gb436 ≠ gb448)) (jA ((Z145 : gb448 ≠ gb436)) (jA ((Z195 : gb442 ≠ gb448)) (Aside0.mk ((Z200 : gb448 ≠ gb442))))))))))))));clear BK435 BK436 BK442 HB;obtain ⟨BK435,BK436,BK442,HB,BK448,GW448,GE448,NB435_448,NB448_435,NB436_448,NB448_436,NB442_448,NB448_442⟩ := n_;clear hb hbox hg;have hnb100 := NB448_435.out;have hnc100 := NB435_448.out;have hnb101 := NB448_436.out;have hnc101 := NB436_448.out;have hnb102 := NB448_442.out;have hnc102 := NB442_448.out;obtain ⟨hcz103_0,hcz103_1,hcz103_2,hcz103_3,hfz103_0,hfz103_1,hfz103_2,hfz103_3⟩ := impl_Better.cells4 BK448.out;obtain ⟨hcz104_0,hcz104_1,hcz104_2,hcz104_3,hfz104_0,hfz104_1,hfz104_2,hfz104_3⟩ := impl_Better.cells4 BK442.out) | ((with_reducible refine gate_callee (f := 35) rfl ?_);refine goesL_ (some 28) rfl rfl Try.func35 Z396 rfl #[.agg #[.bool t437,.int .u64 t438,.int .u64 t439,.int .i64 t440],.agg #[.bool t443,.int .u64 t444,.int .u64 t445,.int .i64 t446]] rfl Z353 ?_;(with_reducible refine (impl_CompareFrac.calls k t437 t438 t439 t440 t443 t444 t445 t446 t449 t450 _ A6.out).mono ?_);rintro e w105 ⟨rfl,hb⟩;refine ⟨_,rfl,?_⟩;have n_ := jA (blk_below (g := gb435) (o := .cells #[.int .i64 a0_0,.int .i64 a0_1,.int .i64 a0_2,.int .i64 a0_3,.int .i64 a0_4,.int .i64 a0_5] 35 (0,0)) Z61 hb) (jA (blk_below (g := gb436) (o := .cells #[.int .i64 a1_0,.int .i64 a1_1,.int .i64 a1_2,.int .i64 a1_3,.int .i64 a1_4,.int .i64 a1_5] 35 (0,0)) Z59 hb) (jA (blk_below (g := gb442) (o := .cells #[.bool t437,.int .u64 t438,.int .u64 t439,.int .i64 t440] 30 (0,0)) Z58 hb) (jA (blk_below (g := gb448) (o := .cells #[.bool t443,.int .u64 t444,.int .u64 t445,.int .i64 t446] 30 (0,0)) Z21 hb) (Aside0.mk (below_step Z158 hb)))));clear BK435 BK436 BK442 BK448 HB;obtain ⟨BK435,BK436,BK442,BK448,HB⟩ := n_;(try clear hb);(try clear hb2);(try clear hk);(try clear hi)))
      go_ret
      exact ⟨Z385,Z158⟩
  · replace c7 := Bool.eq_false_iff.mpr c7
    subst c7
    have H1 : (some false) = some r := by rw [if_neg (show ¬ (false = true) by decide)] at H;exact H
    clear H
    have H := H1
    clear H1
    obtain rfl := Option.some.inj H
    go_enter Try.func17,Try.ntmps17
    go_wp2_with (first | ((with_reducible refine gate_dst (N := 3) rfl ?_);refine box_event ?hg (N := 3) ?hd (cs := #[.int .i64 a0_0,.int .i64 a0_1,.int .i64 a0_2,.int .i64 a0_3,.int .i64 a0_4,.int .i64 a0_5]) (t := 35) ?hr ?_;(case hd => rfl);(case hg => rfl);(case hr => exact Z393);intro gb435 hg w106 hbox hb;have n_ := jA (below_step Z476 hb) (jA (hbox) (jA ((Z345 : w.heap.size ≤ gb435)) (Aside0.mk ((Z345 : w.heap.size ≤ gb435)))));clear HB;obtain ⟨HB,BK435,GW435,GE435⟩ := n_;clear hb hbox hg) | ((with_reducible refine gate_dst (N := 4) rfl ?_);refine box_event ?hg (N := 4) ?hd (cs := #[.int .i64 a1_0,.int .i64 a1_1,.int .i64 a1_2,.int .i64 a1_3,.int .i64 a1_4,.int .i64 a1_5]) (t := 35) ?hr ?_;(case hd => rfl);(case hg => rfl);(case hr => exact Z393);intro gb436 hg w107 hbox hb;have n_ := jA (blk_below (g := gb435) (o := .cells #[.int .i64 a0_0,.int .i64 a0_1,.int .i64 a0_2,.int .i64 a0_3,.int .i64 a0_4,.int .i64 a0_5] 35 (0,0)) Z478 hb) (jA (below_step Z448 hb) (jA (hbox) (jA ((Z311 : w.heap.size ≤ gb436)) (jA ((Z311 : w.heap.size ≤ gb436)) (jA ((Z142 : gb435 ≠ gb436)) (Aside0.mk ((Z143 : gb436 ≠ gb435))))))));clear BK435 HB;obtain ⟨BK435,HB,BK436,GW436,GE436,NB435_436,NB436_435⟩ := n_;clear hb hbox hg;have hnb108 := NB435_436.out;have hnc108 := NB436_435.out;obtain ⟨hcz109_0,hcz109_1,hcz109_2,hcz109_3,hcz109_4,hcz109_5,hfz109_0,hfz109_1,hfz109_2,hfz109_3,hfz109_4,hfz109_5⟩ := impl_Better.cells6 BK435.out) | ((with_reducible refine gate_callee (f := 11) rfl ?_);refine goesL_ (some 16) rfl rfl Try.func11 Z396 rfl #[.agg #[.int .i64 a0_0,.int .i64 a0_1,.int .i64 a0_2,.int .i64 a0_3,.int .i64 a0_4,.int .i64 a0_5],.int .i64 a2] rfl Z353 ?_;(with_reducible refine (impl_GainOf.calls k a0_0 a0_1 a0_2 a0_3 a0_4 a0_5 a2 t437 t438 t439 t440 false _ A4.out).mono ?_);rintro e w110 ⟨rfl,hb⟩;refine ⟨_,rfl,?_⟩;have n_ := jA (blk_below (g := gb435) (o := .cells #[.int .i64 a0_0,.int .i64 a0_1,.int .i64 a0_2,.int .i64 a0_3,.int .i64 a0_4,.int .i64 a0_5] 35 (0,0)) Z478 hb) (jA (blk_below (g := gb436) (o := .cells #[.int .i64 a1_0,.int .i64 a1_1,.int .i64 a1_2,.int .i64 a1_3,.int .i64 a1_4,.int .i64 a1_5] 35 (0,0)) Z481 hb) (Aside0.mk (below_step Z430 hb)));clear BK435 BK436 HB;obtain ⟨BK435,BK436,HB⟩ := n_;(try clear hb);(try clear hb2);(try clear hk);(try clear hi)) | ((with_reducible refine gate_dst (N := 7) rfl ?_);refine box_event ?hg (N := 7) ?hd (cs := #[.bool false,.int .u64 0,.int .u64 0,.int .i64 0]) (t := 30) ?hr ?_;(case hd => rfl);(case hg => rfl);(case hr => exact Z393);intro gb442 hg w111 hbox hb;have n_ := jA (blk_below (g := gb435) (o := .cells #[.int .i64 a0_0,.int .i64 a0_1,.int .i64 a0_2,.int .i64 a0_3,.int .i64 a0_4,.int .i64 a0_5] 35 (0,0)) Z478 hb) (jA (blk_below (g := gb436) (o := .cells #[.int .i64 a1_0,.int .i64 a1_1,.int .i64 a1_2,.int .i64 a1_3,.int .i64 a1_4,.int .i64 a1_5] 35 (0,0)) Z481 hb) (jA (below_step Z430 hb) (jA (hbox) (jA ((Z215 : w.heap.size ≤ gb442)) (jA ((Z215 : w.heap.size ≤ gb442)) (jA ((Z142 : gb435 ≠ gb442)) (jA ((Z143 : gb442 ≠ gb435)) (jA ((Z144 : gb436 ≠ gb442)) (Aside0.mk ((Z145 : gb442 ≠ gb436)))))))))));clear BK435 BK436 HB;obtain ⟨BK435,BK436,HB,BK442,GW442,GE442,NB435_442,NB442_435,NB436_442,NB442_436⟩ := n_;clear hb hbox hg;have hnb112 := NB442_435.out;have hnc112 := NB435_442.out;have hnb113 := NB442_436.out;have hnc113 := NB436_442.out;obtain ⟨hcz114_0,hcz114_1,hcz114_2,hcz114_3,hfz114_0,hfz114_1,hfz114_2,hfz114_3⟩ := impl_Better.cells4 BK442.out;obtain ⟨hcz115_0,hcz115_1,hcz115_2,hcz115_3,hcz115_4,hcz115_5,hfz115_0,hfz115_1,hfz115_2,hfz115_3,hfz115_4,hfz115_5⟩ := impl_Better.cells6 BK436.out) | ((with_reducible refine gate_callee (f := 11) rfl ?_);refine goesL_ (some 22) rfl rfl Try.func11 Z396 rfl #[.agg #[.int .i64 a1_0,.int .i64 a1_1,.int .i64 a1_2,.int .i64 a1_3,.int .i64 a1_4,.int .i64 a1_5],.int .i64 a2] rfl Z353 ?_;(with_reducible refine (impl_GainOf.calls k a1_0 a1_1 a1_2 a1_3 a1_4 a1_5 a2 t443 t444 t445 t446 t447 _ A5.out).mono ?_);rintro e w116 ⟨rfl,hb⟩;refine ⟨_,rfl,?_⟩;have n_ := jA (blk_below (g := gb435) (o := .cells #[.int .i64 a0_0,.int .i64 a0_1,.int .i64 a0_2,.int .i64 a0_3,.int .i64 a0_4,.int .i64 a0_5] 35 (0,0)) Z62 hb) (jA (blk_below (g := gb436) (o := .cells #[.int .i64 a1_0,.int .i64 a1_1,.int .i64 a1_2,.int .i64 a1_3,.int .i64 a1_4,.int .i64 a1_5] 35 (0,0)) Z60 hb) (jA (blk_below (g := gb442) (o := .cells #[.bool t437,.int .u64 t438,.int .u64 t439,.int .i64 t440] 30 (0,0)) Z22 hb) (Aside0.mk (below_step Z417 hb))));clear BK435 BK436 BK442 HB;obtain ⟨BK435,BK436,BK442,HB⟩ := n_;(try clear hb);(try clear hb2);(try clear hk);(try clear hi)) | ((with_reducible refine gate_dst (N := 9) rfl ?_);refine box_event ?hg (N := 9) ?hd (cs := #[.bool false,.int .u64 0,.int .u64 0,.int .i64 0]) (t := 30) ?hr ?_;(case hd => rfl);(case hg => rfl);(case hr => exact Z393);intro gb448 hg w117 hbox hb;have n_ := jA (blk_below (g := gb435) (o := .cells #[.int .i64 a0_0,.int .i64 a0_1,.int .i64 a0_2,.int .i64 a0_3,.int .i64 a0_4,.int .i64 a0_5] 35 (0,0)) Z478 hb) (jA (blk_below (g := gb436) (o := .cells #[.int .i64 a1_0,.int .i64 a1_1,.int .i64 a1_2,.int .i64 a1_3,.int .i64 a1_4,.int .i64 a1_5] 35 (0,0)) Z481 hb) (jA (blk_below (g := gb442) (o := .cells #[.bool t437,.int .u64 t438,.int .u64 t439,.int .i64 t440] 30 (0,0)) Z512 hb) (jA (below_step Z417 hb) (jA (hbox) (jA ((Z160 : w.heap.size ≤ gb448)) (jA ((Z160 : w.heap.size ≤ gb448)) (jA ((Z142 : gb435 ≠ gb448)) (jA ((Z143 : gb448 ≠ gb435)) (jA ((Z144 : gb436 ≠ gb448)) (jA ((Z145 : gb448 ≠ gb436)) (jA ((Z195 : gb442 ≠ gb448)) (Aside0.mk ((Z200 : gb448 ≠ gb442))))))))))))));clear BK435 BK436 BK442 HB;obtain ⟨BK435,BK436,BK442,HB,BK448,GW448,GE448,NB435_448,NB448_435,NB436_448,NB448_436,NB442_448,NB448_442⟩ := n_;clear hb hbox hg;have hnb118 := NB448_435.out;have hnc118 := NB435_448.out;have hnb119 := NB448_436.out;have hnc119 := NB436_448.out;have hnb120 := NB448_442.out;have hnc120 := NB442_448.out;obtain ⟨hcz121_0,hcz121_1,hcz121_2,hcz121_3,hfz121_0,hfz121_1,hfz121_2,hfz121_3⟩ := impl_Better.cells4 BK448.out;obtain ⟨hcz122_0,hcz122_1,hcz122_2,hcz122_3,hfz122_0,hfz122_1,hfz122_2,hfz122_3⟩ := impl_Better.cells4 BK442.out) | ((with_reducible refine gate_callee (f := 35) rfl ?_);refine goesL_ (some 28) rfl rfl Try.func35 Z396 rfl #[.agg #[.bool t437,.int .u64 t438,.int .u64 t439,.int .i64 t440],.agg #[.bool t443,.int .u64 t444,.int .u64 t445,.int .i64 t446]] rfl Z353 ?_;(with_reducible refine (impl_CompareFrac.calls k t437 t438 t439 t440 t443 t444 t445 t446 t449 t450 _ A6.out).mono ?_);rintro e w123 ⟨rfl,hb⟩;refine ⟨_,rfl,?_⟩;have n_ := jA (blk_below (g := gb435) (o := .cells #[.int .i64 a0_0,.int .i64 a0_1,.int .i64 a0_2,.int .i64 a0_3,.int .i64 a0_4,.int .i64 a0_5] 35 (0,0)) Z61 hb) (jA (blk_below (g := gb436) (o := .cells #[.int .i64 a1_0,.int .i64 a1_1,.int .i64 a1_2,.int .i64 a1_3,.int .i64 a1_4,.int .i64 a1_5] 35 (0,0)) Z59 hb) (jA (blk_below (g := gb442) (o := .cells #[.bool t437,.int .u64 t438,.int .u64 t439,.int .i64 t440] 30 (0,0)) Z58 hb) (jA (blk_below (g := gb448) (o := .cells #[.bool t443,.int .u64 t444,.int .u64 t445,.int .i64 t446] 30 (0,0)) Z21 hb) (Aside0.mk (below_step Z158 hb)))));clear BK435 BK436 BK442 BK448 HB;obtain ⟨BK435,BK436,BK442,BK448,HB⟩ := n_;(try clear hb);(try clear hb2);(try clear hk);(try clear hi)))
    go_ret
    exact ⟨Z385,Z158⟩

/-! ### laws_FnExactBetter: function 5 -/
def laws_FnExactBetter.f (k : Nat) (a0_0 : Int) (a0_1 : Int) (a0_2 : Int) (a0_3 : Int) (a0_4 : Int) (a0_5 : Int) (a1_0 : Int) (a1_1 : Int) (a1_2 : Int) (a1_3 : Int) (a1_4 : Int) (a1_5 : Int) (a2 : Int) : Option (Bool) := (laws_toCand.f a0_0 a0_1 a0_2 a0_3 a0_4 a0_5).bind fun bt454 => ((laws_toCand.f a1_0 a1_1 a1_2 a1_3 a1_4 a1_5).bind fun bt460 => ((spec_Better.f k bt454.1 bt454.2.1 bt454.2.2.1 bt454.2.2.2.1 bt454.2.2.2.2.1 bt454.2.2.2.2.2 bt460.1 bt460.2.1 bt460.2.2.1 bt460.2.2.2.1 bt460.2.2.2.2.1 bt460.2.2.2.2.2 a2).bind fun t466 => ((laws_toCand.f a0_0 a0_1 a0_2 a0_3 a0_4 a0_5).bind fun bt467 => ((laws_toCand.f a1_0 a1_1 a1_2 a1_3 a1_4 a1_5).bind fun bt473 => ((impl_Better.f k bt467.1 bt467.2.1 bt467.2.2.1 bt467.2.2.2.1 bt467.2.2.2.2.1 bt467.2.2.2.2.2 bt473.1 bt473.2.1 bt473.2.2.1 bt473.2.2.2.1 bt473.2.2.2.2.1 bt473.2.2.2.2.2 a2).bind fun t479 => (if (t479 != t466) = true then (some false) else (some true)))))))
theorem laws_FnExactBetter.mono : ∀ a0 a1 a2 a3 a4 a5 a6 a7 a8 a9 a10 a11 a12 k,LeO (laws_FnExactBetter.f k a0 a1 a2 a3 a4 a5 a6 a7 a8 a9 a10 a11 a12) (laws_FnExactBetter.f (k + 1) a0 a1 a2 a3 a4 a5 a6 a7 a8 a9 a10 a11 a12) := by
  intro a0 a1 a2 a3 a4 a5 a6 a7 a8 a9 a10 a11 a12 k
  unfold laws_FnExactBetter.f
  repeat' first
      | (with_reducible exact impl_Better.mono _ _ _ _ _ _ _ _ _ _ _ _ _ _)
      | (with_reducible exact spec_Better.mono _ _ _ _ _ _ _ _ _ _ _ _ _ _)
      | (with_reducible exact LeO.refl _)
      | (with_reducible exact LeO.none _)
      | (with_reducible refine LeO.ite ?_ ?_)
      | (with_reducible refine LeO.bind ?_ (fun _ => ?_))
      | exact impl_Better.mono _ _ _ _ _ _ _ _ _ _ _ _ _ _
      | exact spec_Better.mono _ _ _ _ _ _ _ _ _ _ _ _ _ _
      | exact LeO.none _
      | refine LeO.ite ?_ ?_
      | refine LeO.bind ?_ (fun _ => ?_)
set_option maxHeartbeats 8000000 in
set_option maxRecDepth 100000 in
theorem laws_FnExactBetter.calls (k : Nat) (a0_0 : Int) (a0_1 : Int) (a0_2 : Int) (a0_3 : Int) (a0_4 : Int) (a0_5 : Int) (a1_0 : Int) (a1_1 : Int) (a1_2 : Int) (a1_3 : Int) (a1_4 : Int) (a1_5 : Int) (a2 : Int) (r : Bool) (w : World) (h : laws_FnExactBetter.f k a0_0 a0_1 a0_2 a0_3 a0_4 a0_5 a1_0 a1_1 a1_2 a1_3 a1_4 a1_5 a2 = some r) (hr_ : r = true) :
    Calls Try.prog 5 #[.agg #[.int .i64 a0_0,.int .i64 a0_1,.int .i64 a0_2,.int .i64 a0_3,.int .i64 a0_4,.int .i64 a0_5],.agg #[.int .i64 a1_0,.int .i64 a1_1,.int .i64 a1_2,.int .i64 a1_3,.int .i64 a1_4,.int .i64 a1_5],.int .i64 a2] w fun e w' => e = .returned (.bool r) ∧ Below w.heap.size w w' := by
  have HRT := Aside0.mk hr_
  clear hr_
  have hu25 := Try.underlying25
  have HB := Aside0.mk (Below.refl w.heap.size w)
  have H : ((laws_toCand.f a0_0 a0_1 a0_2 a0_3 a0_4 a0_5).bind fun bt454 => ((laws_toCand.f a1_0 a1_1 a1_2 a1_3 a1_4 a1_5).bind fun bt460 => ((spec_Better.f k bt454.1 bt454.2.1 bt454.2.2.1 bt454.2.2.2.1 bt454.2.2.2.2.1 bt454.2.2.2.2.2 bt460.1 bt460.2.1 bt460.2.2.1 bt460.2.2.2.1 bt460.2.2.2.2.1 bt460.2.2.2.2.2 a2).bind fun t466 => ((laws_toCand.f a0_0 a0_1 a0_2 a0_3 a0_4 a0_5).bind fun bt467 => ((laws_toCand.f a1_0 a1_1 a1_2 a1_3 a1_4 a1_5).bind fun bt473 => ((impl_Better.f k bt467.1 bt467.2.1 bt467.2.2.1 bt467.2.2.2.1 bt467.2.2.2.2.1 bt467.2.2.2.2.2 bt473.1 bt473.2.1 bt473.2.2.1 bt473.2.2.2.1 bt473.2.2.2.2.1 bt473.2.2.2.2.2 a2).bind fun t479 => (if (t479 != t466) = true then (some false) else (some true)))))))) = some r := h
  clear h
  obtain ⟨⟨t454,t455,t456,t457,t458,t459⟩,A40,H⟩ := Option.bind_eq_some_iff.mp H
  try dsimp only at H
  have A4 := Aside0.mk A40
  clear A40
  obtain ⟨⟨t460,t461,t462,t463,t464,t465⟩,A50,H⟩ := Option.bind_eq_some_iff.mp H
  try dsimp only at H
  have A5 := Aside0.mk A50
  clear A50
  obtain ⟨t466,A60,H⟩ := Option.bind_eq_some_iff.mp H
  have A6 := Aside0.mk A60
  clear A60
  obtain ⟨⟨t467,t468,t469,t470,t471,t472⟩,A70,H⟩ := Option.bind_eq_some_iff.mp H
  try dsimp only at H
  have A7 := Aside0.mk A70
  clear A70
  obtain ⟨⟨t473,t474,t475,t476,t477,t478⟩,A80,H⟩ := Option.bind_eq_some_iff.mp H
  try dsimp only at H
  have A8 := Aside0.mk A80
  clear A80
  obtain ⟨t479,A90,H⟩ := Option.bind_eq_some_iff.mp H
  have A9 := Aside0.mk A90
  clear A90
  by_cases c10 : (t479 != t466) = true
  · rw [if_pos c10] at H
    have c10b0 : (t479 != t466) = true := c10
    (try (have c10b1 : decide (t479 = t466) = false := by simpa using c10))
    (try (have c10b2 : (t479 == t466) = false := by simpa using c10))
    (try (have c10b3 : ¬ (t479 = t466) := by simpa using c10))
    clear c10
    exact absurd ((Option.some.inj H).trans HRT.out) Z397
  · rw [if_neg c10] at H
    have c10b0 : (t479 != t466) = false := by simpa using c10
    (try (have c10b1 : decide (t479 = t466) = true := by simpa using c10))
    (try (have c10b2 : (t479 == t466) = true := by simpa using c10))
    clear c10
    obtain rfl := Option.some.inj H
    go_enter Try.func5,Try.ntmps5
    try go_wp2_with (first | ((with_reducible refine gate_dst (N := 3) rfl ?_);refine box_event ?hg (N := 3) ?hd (cs := #[.int .i64 a0_0,.int .i64 a0_1,.int .i64 a0_2,.int .i64 a0_3,.int .i64 a0_4,.int .i64 a0_5]) (t := 25) ?hr ?_;(case hd => rfl);(case hg => rfl);(case hr => exact Z393);intro gb452 hg w11 hbox hb;have n_ := jA (below_step Z476 hb) (jA (hbox) (jA ((Z345 : w.heap.size ≤ gb452)) (Aside0.mk ((Z345 : w.heap.size ≤ gb452)))));clear HB;obtain ⟨HB,BK452,GW452,GE452⟩ := n_;clear hb hbox hg) | ((with_reducible refine gate_dst (N := 4) rfl ?_);refine box_event ?hg (N := 4) ?hd (cs := #[.int .i64 a1_0,.int .i64 a1_1,.int .i64 a1_2,.int .i64 a1_3,.int .i64 a1_4,.int .i64 a1_5]) (t := 25) ?hr ?_;(case hd => rfl);(case hg => rfl);(case hr => exact Z393);intro gb453 hg w12 hbox hb;have n_ := jA (blk_below (g := gb452) (o := .cells #[.int .i64 a0_0,.int .i64 a0_1,.int .i64 a0_2,.int .i64 a0_3,.int .i64 a0_4,.int .i64 a0_5] 25 (0,0)) Z369 hb) (jA (below_step Z463 hb) (jA (hbox) (jA ((Z330 : w.heap.size ≤ gb453)) (jA ((Z330 : w.heap.size ≤ gb453)) (jA ((by rw [hg];exact Nat.ne_of_lt (blk_lt (g := gb452) (o := .cells #[.int .i64 a0_0,.int .i64 a0_1,.int .i64 a0_2,.int .i64 a0_3,.int .i64 a0_4,.int .i64 a0_5] 25 (0,0)) Z369) : gb452 ≠ gb453)) (Aside0.mk ((by rw [hg];exact Nat.ne_of_gt (blk_lt (g := gb452) (o := .cells #[.int .i64 a0_0,.int .i64 a0_1,.int .i64 a0_2,.int .i64 a0_3,.int .i64 a0_4,.int .i64 a0_5] 25 (0,0)) Z369) : gb453 ≠ gb452))))))));clear BK452 HB;obtain ⟨BK452,HB,BK453,GW453,GE453,NB452_453,NB453_452⟩ := n_;clear hb hbox hg))
    have n0_ := Aside0.mk (blk_drew BK452.out)
    have n1_ := Aside0.mk (blk_drew BK453.out)
    have n2_ := Aside0.mk (below_drew1 HB.out)
    clear BK452
    clear BK453
    clear HB
    have BK452 := n0_
    have BK453 := n1_
    have HB := n2_
    clear n0_ n1_ n2_
    refine start_ (n := 7) (S := fun w' => w'.cell? ⟨gb452,0,none⟩ = some (.int .i64 a0_0) ∧ w'.cell? ⟨gb452,1,none⟩ = some (.int .i64 a0_1) ∧ w'.cell? ⟨gb452,2,none⟩ = some (.int .i64 a0_2) ∧ w'.cell? ⟨gb452,3,none⟩ = some (.int .i64 a0_3) ∧ w'.cell? ⟨gb452,4,none⟩ = some (.int .i64 a0_4) ∧ w'.cell? ⟨gb452,5,none⟩ = some (.int .i64 a0_5) ∧ w'.cell? ⟨gb453,0,none⟩ = some (.int .i64 a1_0) ∧ w'.cell? ⟨gb453,1,none⟩ = some (.int .i64 a1_1) ∧ w'.cell? ⟨gb453,2,none⟩ = some (.int .i64 a1_2) ∧ w'.cell? ⟨gb453,3,none⟩ = some (.int .i64 a1_3) ∧ w'.cell? ⟨gb453,4,none⟩ = some (.int .i64 a1_4) ∧ w'.cell? ⟨gb453,5,none⟩ = some (.int .i64 a1_5)) (ds := []) #[false,false,false,false,false,false,false] Z396 rfl rfl ⟨(blk_cell BK452.out 0).trans rfl,(blk_cell BK452.out 1).trans rfl,(blk_cell BK452.out 2).trans rfl,(blk_cell BK452.out 3).trans rfl,(blk_cell BK452.out 4).trans rfl,(blk_cell BK452.out 5).trans rfl,(blk_cell BK453.out 0).trans rfl,(blk_cell BK453.out 1).trans rfl,(blk_cell BK453.out 2).trans rfl,(blk_cell BK453.out 3).trans rfl,(blk_cell BK453.out 4).trans rfl,(blk_cell BK453.out 5).trans rfl⟩ (fun hHeld => ?_)
    generalize w12.drew = w13 at BK452 BK453 HB hHeld ⊢
    refine pure_ (i := 4) (N := some 13) (v := ?_) (a' := ?_) #[false,false,false,false,true,false,false] rfl rfl Z396 (fun _ _ _ h => h) (Or.inl ⟨Z398,?_⟩) ?_ ?_
    rotate_left
    · intro w'
      go_simp
      with_reducible rfl
    rotate_left
    · simp only [Act.put,List.setIfInBounds_toArray,List.set_cons_zero,List.set_cons_succ,i64_w,i32_w]
      rfl
    refine take_ (i := 0) (N := some 9) (v := ?_) (a' := ?_) #[true,false,false,false,true,false,false] rfl rfl Z396 (fun _ _ _ h => h) (Or.inl ⟨Z398,?_⟩) hHeld ?_ ?_
    rotate_left
    · rintro w' ⟨s0,s1,s2,s3,s4,s5,s6,s7,s8,s9,s10,s11⟩
      go_simp
      with_reducible rfl
    rotate_left
    · simp only [Act.put,List.setIfInBounds_toArray,List.set_cons_zero,List.set_cons_succ,i64_w,i32_w]
      rfl
    refine take_ (i := 2) (N := some 11) (v := ?_) (a' := ?_) #[true,false,true,false,true,false,false] rfl rfl Z396 (fun _ _ _ h => h) (Or.inl ⟨Z398,?_⟩) hHeld ?_ ?_
    rotate_left
    · rintro w' ⟨s0,s1,s2,s3,s4,s5,s6,s7,s8,s9,s10,s11⟩
      go_simp
      with_reducible rfl
    rotate_left
    · simp only [Act.put,List.setIfInBounds_toArray,List.set_cons_zero,List.set_cons_succ,i64_w,i32_w]
      rfl
    refine one_ (i := 1) (N := some 10) #[true,true,true,false,true,false,false] rfl rfl Z396 Z397 (fun K hK => ?_)
    refine goes_ Try.func10 Z396 rfl #[.agg #[.int .i64 a0_0,.int .i64 a0_1,.int .i64 a0_2,.int .i64 a0_3,.int .i64 a0_4,.int .i64 a0_5]] Z398 rfl rfl Z353 ?_
    with_reducible refine (laws_toCand.calls a0_0 a0_1 a0_2 a0_3 a0_4 a0_5 t454 t455 t456 t457 t458 t459 _ A4.out).mono ?_
    rintro e w14 ⟨rfl,hb⟩
    refine ⟨_,rfl,?_⟩
    have n0_ := Aside0.mk (blk_below (g := gb452) (o := .cells #[.int .i64 a0_0,.int .i64 a0_1,.int .i64 a0_2,.int .i64 a0_3,.int .i64 a0_4,.int .i64 a0_5] 25 (0,0)) Z369 hb)
    have n1_ := Aside0.mk (blk_below (g := gb453) (o := .cells #[.int .i64 a1_0,.int .i64 a1_1,.int .i64 a1_2,.int .i64 a1_3,.int .i64 a1_4,.int .i64 a1_5] 25 (0,0)) Z372 hb)
    have n2_ := Aside0.mk (below_step Z314 hb)
    clear BK452
    clear BK453
    clear HB
    have BK452 := n0_
    have BK453 := n1_
    have HB := n2_
    clear n0_ n1_ n2_
    (try clear hb)
    (try clear hb2)
    (try clear hk)
    (try clear hi)
    refine hK.out _ _ ⟨(blk_cell BK452.out 0).trans rfl,(blk_cell BK452.out 1).trans rfl,(blk_cell BK452.out 2).trans rfl,(blk_cell BK452.out 3).trans rfl,(blk_cell BK452.out 4).trans rfl,(blk_cell BK452.out 5).trans rfl,(blk_cell BK453.out 0).trans rfl,(blk_cell BK453.out 1).trans rfl,(blk_cell BK453.out 2).trans rfl,(blk_cell BK453.out 3).trans rfl,(blk_cell BK453.out 4).trans rfl,(blk_cell BK453.out 5).trans rfl⟩ (fun hHeld => ?_)
    clear hK K
    refine norm_ (a' := ?_) ?_ ?_
    rotate_left
    · show Act.put _ (some 10) _ = _
      simp only [Act.put,List.setIfInBounds_toArray,List.set_cons_zero,List.set_cons_succ,i64_w,i32_w]
      rfl
    refine one_ (i := 3) (N := some 12) #[true,true,true,true,true,false,false] rfl rfl Z396 Z397 (fun K hK => ?_)
    refine goes_ Try.func10 Z396 rfl #[.agg #[.int .i64 a1_0,.int .i64 a1_1,.int .i64 a1_2,.int .i64 a1_3,.int .i64 a1_4,.int .i64 a1_5]] Z398 rfl rfl Z353 ?_
    with_reducible refine (laws_toCand.calls a1_0 a1_1 a1_2 a1_3 a1_4 a1_5 t460 t461 t462 t463 t464 t465 _ A5.out).mono ?_
    rintro e w15 ⟨rfl,hb⟩
    refine ⟨_,rfl,?_⟩
    have n0_ := Aside0.mk (blk_below (g := gb452) (o := .cells #[.int .i64 a0_0,.int .i64 a0_1,.int .i64 a0_2,.int .i64 a0_3,.int .i64 a0_4,.int .i64 a0_5] 25 (0,0)) Z369 hb)
    have n1_ := Aside0.mk (blk_below (g := gb453) (o := .cells #[.int .i64 a1_0,.int .i64 a1_1,.int .i64 a1_2,.int .i64 a1_3,.int .i64 a1_4,.int .i64 a1_5] 25 (0,0)) Z372 hb)
    have n2_ := Aside0.mk (below_step Z314 hb)
    clear BK452
    clear BK453
    clear HB
    have BK452 := n0_
    have BK453 := n1_
    have HB := n2_
    clear n0_ n1_ n2_
    (try clear hb)
    (try clear hb2)
    (try clear hk)
    (try clear hi)
    refine hK.out _ _ ⟨(blk_cell BK452.out 0).trans rfl,(blk_cell BK452.out 1).trans rfl,(blk_cell BK452.out 2).trans rfl,(blk_cell BK452.out 3).trans rfl,(blk_cell BK452.out 4).trans rfl,(blk_cell BK452.out 5).trans rfl,(blk_cell BK453.out 0).trans rfl,(blk_cell BK453.out 1).trans rfl,(blk_cell BK453.out 2).trans rfl,(blk_cell BK453.out 3).trans rfl,(blk_cell BK453.out 4).trans rfl,(blk_cell BK453.out 5).trans rfl⟩ (fun hHeld => ?_)
    clear hK K
    refine norm_ (a' := ?_) ?_ ?_
    rotate_left
    · show Act.put _ (some 12) _ = _
      simp only [Act.put,List.setIfInBounds_toArray,List.set_cons_zero,List.set_cons_succ,i64_w,i32_w]
      rfl
    refine one_ (i := 5) (N := some 14) #[true,true,true,true,true,true,false] rfl rfl Z396 Z397 (fun K hK => ?_)
    refine goes_ Try.func16 Z396 rfl #[.agg #[.int .i64 t454,.int .i64 t455,.int .i64 t456,.int .i64 t457,.int .i64 t458,.int .i64 t459],.agg #[.int .i64 t460,.int .i64 t461,.int .i64 t462,.int .i64 t463,.int .i64 t464,.int .i64 t465],.int .i64 a2] Z398 rfl rfl Z353 ?_
    with_reducible refine (spec_Better.calls k t454 t455 t456 t457 t458 t459 t460 t461 t462 t463 t464 t465 a2 t466 _ A6.out).mono ?_
    rintro e w16 ⟨rfl,hb⟩
    refine ⟨_,rfl,?_⟩
    have n0_ := Aside0.mk (blk_below (g := gb452) (o := .cells #[.int .i64 a0_0,.int .i64 a0_1,.int .i64 a0_2,.int .i64 a0_3,.int .i64 a0_4,.int .i64 a0_5] 25 (0,0)) Z369 hb)
    have n1_ := Aside0.mk (blk_below (g := gb453) (o := .cells #[.int .i64 a1_0,.int .i64 a1_1,.int .i64 a1_2,.int .i64 a1_3,.int .i64 a1_4,.int .i64 a1_5] 25 (0,0)) Z372 hb)
    have n2_ := Aside0.mk (below_step Z314 hb)
    clear BK452
    clear BK453
    clear HB
    have BK452 := n0_
    have BK453 := n1_
    have HB := n2_
    clear n0_ n1_ n2_
    (try clear hb)
    (try clear hb2)
    (try clear hk)
    (try clear hi)
    refine hK.out _ _ ⟨(blk_cell BK452.out 0).trans rfl,(blk_cell BK452.out 1).trans rfl,(blk_cell BK452.out 2).trans rfl,(blk_cell BK452.out 3).trans rfl,(blk_cell BK452.out 4).trans rfl,(blk_cell BK452.out 5).trans rfl,(blk_cell BK453.out 0).trans rfl,(blk_cell BK453.out 1).trans rfl,(blk_cell BK453.out 2).trans rfl,(blk_cell BK453.out 3).trans rfl,(blk_cell BK453.out 4).trans rfl,(blk_cell BK453.out 5).trans rfl⟩ (fun hHeld => ?_)
    clear hK K
    refine norm_ (a' := ?_) ?_ ?_
    rotate_left
    · show Act.put _ (some 14) _ = _
      simp only [Act.put,List.setIfInBounds_toArray,List.set_cons_zero,List.set_cons_succ,i64_w,i32_w]
      rfl
    refine pure_ (i := 6) (N := some 7) (v := ?_) (a' := ?_) #[true,true,true,true,true,true,true] rfl rfl Z396 (fun _ _ _ h => h) (Or.inl ⟨Z398,?_⟩) ?_ ?_
    rotate_left
    · intro w'
      go_simp
      with_reducible rfl
    rotate_left
    · simp only [Act.put,List.setIfInBounds_toArray,List.set_cons_zero,List.set_cons_succ,i64_w,i32_w]
      rfl
    refine done_ Z396 ?_
    try go_wp2
    have n0_ := Aside0.mk (blk_drew BK452.out)
    have n1_ := Aside0.mk (blk_drew BK453.out)
    have n2_ := Aside0.mk (below_drew1 HB.out)
    clear BK452
    clear BK453
    clear HB
    have BK452 := n0_
    have BK453 := n1_
    have HB := n2_
    clear n0_ n1_ n2_
    refine start_ (n := 7) (S := fun w' => w'.cell? ⟨gb452,0,none⟩ = some (.int .i64 a0_0) ∧ w'.cell? ⟨gb452,1,none⟩ = some (.int .i64 a0_1) ∧ w'.cell? ⟨gb452,2,none⟩ = some (.int .i64 a0_2) ∧ w'.cell? ⟨gb452,3,none⟩ = some (.int .i64 a0_3) ∧ w'.cell? ⟨gb452,4,none⟩ = some (.int .i64 a0_4) ∧ w'.cell? ⟨gb452,5,none⟩ = some (.int .i64 a0_5) ∧ w'.cell? ⟨gb453,0,none⟩ = some (.int .i64 a1_0) ∧ w'.cell? ⟨gb453,1,none⟩ = some (.int .i64 a1_1) ∧ w'.cell? ⟨gb453,2,none⟩ = some (.int .i64 a1_2) ∧ w'.cell? ⟨gb453,3,none⟩ = some (.int .i64 a1_3) ∧ w'.cell? ⟨gb453,4,none⟩ = some (.int .i64 a1_4) ∧ w'.cell? ⟨gb453,5,none⟩ = some (.int .i64 a1_5)) (ds := []) #[false,false,false,false,false,false,false] Z396 rfl rfl ⟨(blk_cell BK452.out 0).trans rfl,(blk_cell BK452.out 1).trans rfl,(blk_cell BK452.out 2).trans rfl,(blk_cell BK452.out 3).trans rfl,(blk_cell BK452.out 4).trans rfl,(blk_cell BK452.out 5).trans rfl,(blk_cell BK453.out 0).trans rfl,(blk_cell BK453.out 1).trans rfl,(blk_cell BK453.out 2).trans rfl,(blk_cell BK453.out 3).trans rfl,(blk_cell BK453.out 4).trans rfl,(blk_cell BK453.out 5).trans rfl⟩ (fun hHeld => ?_)
    generalize w16.drew = w17 at BK452 BK453 HB hHeld ⊢
    refine pure_ (i := 4) (N := some 19) (v := ?_) (a' := ?_) #[false,false,false,false,true,false,false] rfl rfl Z396 (fun _ _ _ h => h) (Or.inl ⟨Z398,?_⟩) ?_ ?_
    rotate_left
    · intro w'
      go_simp
      with_reducible rfl
    rotate_left
    · simp only [Act.put,List.setIfInBounds_toArray,List.set_cons_zero,List.set_cons_succ,i64_w,i32_w]
      rfl
    refine take_ (i := 0) (N := some 15) (v := ?_) (a' := ?_) #[true,false,false,false,true,false,false] rfl rfl Z396 (fun _ _ _ h => h) (Or.inl ⟨Z398,?_⟩) hHeld ?_ ?_
    rotate_left
    · rintro w' ⟨s0,s1,s2,s3,s4,s5,s6,s7,s8,s9,s10,s11⟩
      go_simp
      with_reducible rfl
    rotate_left
    · simp only [Act.put,List.setIfInBounds_toArray,List.set_cons_zero,List.set_cons_succ,i64_w,i32_w]
      rfl
    refine take_ (i := 2) (N := some 17) (v := ?_) (a' := ?_) #[true,false,true,false,true,false,false] rfl rfl Z396 (fun _ _ _ h => h) (Or.inl ⟨Z398,?_⟩) hHeld ?_ ?_
    rotate_left
    · rintro w' ⟨s0,s1,s2,s3,s4,s5,s6,s7,s8,s9,s10,s11⟩
      go_simp
      with_reducible rfl
    rotate_left
    · simp only [Act.put,List.setIfInBounds_toArray,List.set_cons_zero,List.set_cons_succ,i64_w,i32_w]
      rfl
    refine one_ (i := 1) (N := some 16) #[true,true,true,false,true,false,false] rfl rfl Z396 Z397 (fun K hK => ?_)
    refine goes_ Try.func10 Z396 rfl #[.agg #[.int .i64 a0_0,.int .i64 a0_1,.int .i64 a0_2,.int .i64 a0_3,.int .i64 a0_4,.int .i64 a0_5]] Z398 rfl rfl Z353 ?_
    with_reducible refine (laws_toCand.calls a0_0 a0_1 a0_2 a0_3 a0_4 a0_5 t467 t468 t469 t470 t471 t472 _ A7.out).mono ?_
    rintro e w18 ⟨rfl,hb⟩
    refine ⟨_,rfl,?_⟩
    have n0_ := Aside0.mk (blk_below (g := gb452) (o := .cells #[.int .i64 a0_0,.int .i64 a0_1,.int .i64 a0_2,.int .i64 a0_3,.int .i64 a0_4,.int .i64 a0_5] 25 (0,0)) Z369 hb)
    have n1_ := Aside0.mk (blk_below (g := gb453) (o := .cells #[.int .i64 a1_0,.int .i64 a1_1,.int .i64 a1_2,.int .i64 a1_3,.int .i64 a1_4,.int .i64 a1_5] 25 (0,0)) Z372 hb)
    have n2_ := Aside0.mk (below_step Z314 hb)
    clear BK452
    clear BK453
    clear HB
    have BK452 := n0_
    have BK453 := n1_
    have HB := n2_
    clear n0_ n1_ n2_
    (try clear hb)
    (try clear hb2)
    (try clear hk)
    (try clear hi)
    refine hK.out _ _ ⟨(blk_cell BK452.out 0).trans rfl,(blk_cell BK452.out 1).trans rfl,(blk_cell BK452.out 2).trans rfl,(blk_cell BK452.out 3).trans rfl,(blk_cell BK452.out 4).trans rfl,(blk_cell BK452.out 5).trans rfl,(blk_cell BK453.out 0).trans rfl,(blk_cell BK453.out 1).trans rfl,(blk_cell BK453.out 2).trans rfl,(blk_cell BK453.out 3).trans rfl,(blk_cell BK453.out 4).trans rfl,(blk_cell BK453.out 5).trans rfl⟩ (fun hHeld => ?_)
    clear hK K
    refine norm_ (a' := ?_) ?_ ?_
    rotate_left
    · show Act.put _ (some 16) _ = _
      simp only [Act.put,List.setIfInBounds_toArray,List.set_cons_zero,List.set_cons_succ,i64_w,i32_w]
      rfl
    refine one_ (i := 3) (N := some 18) #[true,true,true,true,true,false,false] rfl rfl Z396 Z397 (fun K hK => ?_)
    refine goes_ Try.func10 Z396 rfl #[.agg #[.int .i64 a1_0,.int .i64 a1_1,.int .i64 a1_2,.int .i64 a1_3,.int .i64 a1_4,.int .i64 a1_5]] Z398 rfl rfl Z353 ?_
    with_reducible refine (laws_toCand.calls a1_0 a1_1 a1_2 a1_3 a1_4 a1_5 t473 t474 t475 t476 t477 t478 _ A8.out).mono ?_
    rintro e w19 ⟨rfl,hb⟩
    refine ⟨_,rfl,?_⟩
    have n0_ := Aside0.mk (blk_below (g := gb452) (o := .cells #[.int .i64 a0_0,.int .i64 a0_1,.int .i64 a0_2,.int .i64 a0_3,.int .i64 a0_4,.int .i64 a0_5] 25 (0,0)) Z369 hb)
    have n1_ := Aside0.mk (blk_below (g := gb453) (o := .cells #[.int .i64 a1_0,.int .i64 a1_1,.int .i64 a1_2,.int .i64 a1_3,.int .i64 a1_4,.int .i64 a1_5] 25 (0,0)) Z372 hb)
    have n2_ := Aside0.mk (below_step Z314 hb)
    clear BK452
    clear BK453
    clear HB
    have BK452 := n0_
    have BK453 := n1_
    have HB := n2_
    clear n0_ n1_ n2_
    (try clear hb)
    (try clear hb2)
    (try clear hk)
    (try clear hi)
    refine hK.out _ _ ⟨(blk_cell BK452.out 0).trans rfl,(blk_cell BK452.out 1).trans rfl,(blk_cell BK452.out 2).trans rfl,(blk_cell BK452.out 3).trans rfl,(blk_cell BK452.out 4).trans rfl,(blk_cell BK452.out 5).trans rfl,(blk_cell BK453.out 0).trans rfl,(blk_cell BK453.out 1).trans rfl,(blk_cell BK453.out 2).trans rfl,(blk_cell BK453.out 3).trans rfl,(blk_cell BK453.out 4).trans rfl,(blk_cell BK453.out 5).trans rfl⟩ (fun hHeld => ?_)
    clear hK K
    refine norm_ (a' := ?_) ?_ ?_
    rotate_left
    · show Act.put _ (some 18) _ = _
      simp only [Act.put,List.setIfInBounds_toArray,List.set_cons_zero,List.set_cons_succ,i64_w,i32_w]
      rfl
    refine one_ (i := 5) (N := some 20) #[true,true,true,true,true,true,false] rfl rfl Z396 Z397 (fun K hK => ?_)
    refine goes_ Try.func17 Z396 rfl #[.agg #[.int .i64 t467,.int .i64 t468,.int .i64 t469,.int .i64 t470,.int .i64 t471,.int .i64 t472],.agg #[.int .i64 t473,.int .i64 t474,.int .i64 t475,.int .i64 t476,.int .i64 t477,.int .i64 t478],.int .i64 a2] Z398 rfl rfl Z353 ?_
    with_reducible refine (impl_Better.calls k t467 t468 t469 t470 t471 t472 t473 t474 t475 t476 t477 t478 a2 t479 _ A9.out).mono ?_
    rintro e w20 ⟨rfl,hb⟩
    refine ⟨_,rfl,?_⟩
    have n0_ := Aside0.mk (blk_below (g := gb452) (o := .cells #[.int .i64 a0_0,.int .i64 a0_1,.int .i64 a0_2,.int .i64 a0_3,.int .i64 a0_4,.int .i64 a0_5] 25 (0,0)) Z369 hb)
    have n1_ := Aside0.mk (blk_below (g := gb453) (o := .cells #[.int .i64 a1_0,.int .i64 a1_1,.int .i64 a1_2,.int .i64 a1_3,.int .i64 a1_4,.int .i64 a1_5] 25 (0,0)) Z372 hb)
    have n2_ := Aside0.mk (below_step Z314 hb)
    clear BK452
    clear BK453
    clear HB
    have BK452 := n0_
    have BK453 := n1_
    have HB := n2_
    clear n0_ n1_ n2_
    (try clear hb)
    (try clear hb2)
    (try clear hk)
    (try clear hi)
    refine hK.out _ _ ⟨(blk_cell BK452.out 0).trans rfl,(blk_cell BK452.out 1).trans rfl,(blk_cell BK452.out 2).trans rfl,(blk_cell BK452.out 3).trans rfl,(blk_cell BK452.out 4).trans rfl,(blk_cell BK452.out 5).trans rfl,(blk_cell BK453.out 0).trans rfl,(blk_cell BK453.out 1).trans rfl,(blk_cell BK453.out 2).trans rfl,(blk_cell BK453.out 3).trans rfl,(blk_cell BK453.out 4).trans rfl,(blk_cell BK453.out 5).trans rfl⟩ (fun hHeld => ?_)
    clear hK K
    refine norm_ (a' := ?_) ?_ ?_
    rotate_left
    · show Act.put _ (some 20) _ = _
      simp only [Act.put,List.setIfInBounds_toArray,List.set_cons_zero,List.set_cons_succ,i64_w,i32_w]
      rfl
    refine pure_ (i := 6) (N := some 8) (v := ?_) (a' := ?_) #[true,true,true,true,true,true,true] rfl rfl Z396 (fun _ _ _ h => h) (Or.inl ⟨Z398,?_⟩) ?_ ?_
    rotate_left
    · intro w'
      go_simp
      with_reducible rfl
    rotate_left
    · simp only [Act.put,List.setIfInBounds_toArray,List.set_cons_zero,List.set_cons_succ,i64_w,i32_w]
      rfl
    refine done_ Z396 ?_
    try go_wp2
    go_ret
    exact ⟨Z385,Z314⟩

end Go.Proofs.Ytjcjehnjbgklbaa.QFnExactBetter
