/- The machine side of FnExactImproves: what each Go function that it reaches comes to. Conditions: none. -/
import Derived.Test.YtjcjehnjbgklbaaQFnExactImprovesx0
import Derived.Test.YtjcjehnjbgklbaaQFnExactImprovesx6
import Derived.Test.YtjcjehnjbgklbaaQFnExactImprovesx7
namespace Go.Proofs.Ytjcjehnjbgklbaa.QFnExactImproves
open Go.RowKit Go.Proofs.YtjcjehnjbgklbaaW.PrintWords Go.Proofs.YtjcjehnjbgklbaaW.PrintLast Go.Proofs.YtjcjehnjbgklbaaW.PrintMore
attribute [local go_sem] max2_int min2_int max_two min_two max_three min_three max_four min_four   -- for this text's walks alone
set_option linter.unusedVariables false
set_option linter.unusedSimpArgs false

/-! ### impl_compareSizes: function 69 -/
def impl_compareSizes.f (k : Nat) (a0_0 : Bool) (a0_1 : Int) (a0_2 : Int) (a1_0 : Bool) (a1_1 : Int) (a1_2 : Int) : Option (Int) := (cmp_Compare_uint64.f a0_1 a1_1).bind fun t339 => ((cmp_Compare_uint64.f a0_2 a1_2).bind fun t340 => ((cmp_Or_int.f k (([t339,t340] : List Int))).bind fun t344 => (some t344)))
theorem impl_compareSizes.mono : ∀ a0 a1 a2 a3 a4 a5 k,LeO (impl_compareSizes.f k a0 a1 a2 a3 a4 a5) (impl_compareSizes.f (k + 1) a0 a1 a2 a3 a4 a5) := by
  intro a0 a1 a2 a3 a4 a5 k
  unfold impl_compareSizes.f
  repeat' first
      | (with_reducible exact cmp_Or_int.mono _ _)
      | (with_reducible exact LeO.refl _)
      | (with_reducible exact LeO.none _)
      | (with_reducible refine LeO.ite ?_ ?_)
      | (with_reducible refine LeO.bind ?_ (fun _ => ?_))
      | exact cmp_Or_int.mono _ _
      | exact LeO.none _
      | refine LeO.ite ?_ ?_
      | refine LeO.bind ?_ (fun _ => ?_)
def impl_compareSizes.T1 : Bool × List (List Nat × List Nat) := (true,[([],[]),([0],[0]),([],[]),([2],[2]),([1,3],[1,3]),([],[]),([5],[5]),([],[]),([7],[7]),([6,8,4],[6,8]),([4,9],[4,9]),([10,9],[10]),([11,11,0,1,2,3,4,5,6,7,8,9,10,11],[11])])
def impl_compareSizes.B1 : List Nat := [0,1,0,4,15,0,32,0,128,511,1023,2047,4095]
theorem impl_compareSizes.tab1 : rtab .any (opsOf Try.f69 1) = impl_compareSizes.T1 := by kernel_rfl
theorem impl_compareSizes.bits1 : waitsOk impl_compareSizes.T1.2 impl_compareSizes.B1 = true := by kernel_rfl
set_option maxHeartbeats 8000000 in
set_option maxRecDepth 100000 in
theorem impl_compareSizes.calls (k : Nat) (a0_0 : Bool) (a0_1 : Int) (a0_2 : Int) (a1_0 : Bool) (a1_1 : Int) (a1_2 : Int) (r : Int) (w : World) (h : impl_compareSizes.f k a0_0 a0_1 a0_2 a1_0 a1_1 a1_2 = some r) :
    Calls Try.prog 69 #[.agg #[.bool a0_0,.int .u64 a0_1,.int .u64 a0_2],.agg #[.bool a1_0,.int .u64 a1_1,.int .u64 a1_2]] w fun e w' => e = .returned (.int .i64 r) ∧ Below w.heap.size w w' := by
  have hu28 := Try.underlying28
  have HB := Aside0.mk (Below.refl w.heap.size w)
  have H : ((cmp_Compare_uint64.f a0_1 a1_1).bind fun t339 => ((cmp_Compare_uint64.f a0_2 a1_2).bind fun t340 => ((cmp_Or_int.f k (([t339,t340] : List Int))).bind fun t344 => (some t344)))) = some r := h
  clear h
  obtain ⟨t339,A30,H⟩ := Option.bind_eq_some_iff.mp H
  have A3 := Aside0.mk A30
  clear A30
  obtain ⟨t340,A40,H⟩ := Option.bind_eq_some_iff.mp H
  have A4 := Aside0.mk A40
  clear A40
  obtain ⟨y341,hy341⟩ : ∃ y_ : List Int,y_ = (([t339,t340] : List Int)) := ⟨_,rfl⟩
  replace H : ((cmp_Or_int.f k y341).bind fun t344 => (some t344)) = some r := by first | (rw [hy341];with_reducible exact H) | (have H2_ := (Option.bind_some _ _).symm.trans H;rw [hy341];with_reducible exact H2_) | (have H2_ := (Option.bind_some _ _).symm.trans H;with_reducible exact H2_) | with_reducible exact H | (rw [hy341];exact H) | exact H
  have Ny341 := Aside0.mk hy341
  clear hy341
  obtain ⟨t344,A50,H⟩ := Option.bind_eq_some_iff.mp H
  have A5 := Aside0.mk A50
  clear A50
  obtain rfl := Option.some.inj H
  go_enter Try.func69,Try.ntmps69
  try go_wp2_with (first | ((with_reducible refine gate_dst (N := 2) rfl ?_);refine box_event ?hg (N := 2) ?hd (cs := #[.bool a0_0,.int .u64 a0_1,.int .u64 a0_2]) (t := 28) ?hr ?_;(case hd => rfl);(case hg => rfl);(case hr => exact Z566);intro gb337 hg w6 hbox hb;have n_ := jA (below_step Z483 hb) (jA (hbox) (jA ((Z366 : w.heap.size ≤ gb337)) (Aside0.mk ((Z366 : w.heap.size ≤ gb337)))));clear HB;obtain ⟨HB,BK337,GW337,GE337⟩ := n_;clear hb hbox hg) | ((with_reducible refine gate_dst (N := 3) rfl ?_);refine box_event ?hg (N := 3) ?hd (cs := #[.bool a1_0,.int .u64 a1_1,.int .u64 a1_2]) (t := 28) ?hr ?_;(case hd => rfl);(case hg => rfl);(case hr => exact Z566);intro gb338 hg w7 hbox hb;have n_ := jA (blk_below (g := gb337) (o := .cells #[.bool a0_0,.int .u64 a0_1,.int .u64 a0_2] 28 (0,0)) Z540 hb) (jA (below_step Z474 hb) (jA (hbox) (jA ((Z355 : w.heap.size ≤ gb338)) (jA ((Z355 : w.heap.size ≤ gb338)) (jA ((by rw [hg];exact Nat.ne_of_lt (blk_lt (g := gb337) (o := .cells #[.bool a0_0,.int .u64 a0_1,.int .u64 a0_2] 28 (0,0)) Z540) : gb337 ≠ gb338)) (Aside0.mk ((by rw [hg];exact Nat.ne_of_gt (blk_lt (g := gb337) (o := .cells #[.bool a0_0,.int .u64 a0_1,.int .u64 a0_2] 28 (0,0)) Z540) : gb338 ≠ gb337))))))));clear BK337 HB;obtain ⟨BK337,HB,BK338,GW338,GE338,NB337_338,NB338_337⟩ := n_;clear hb hbox hg))
  have n0_ := Aside0.mk (blk_drew BK337.out)
  have n1_ := Aside0.mk (blk_drew BK338.out)
  have n2_ := Aside0.mk (below_drew1 HB.out)
  clear BK337
  clear BK338
  clear HB
  have BK337 := n0_
  have BK338 := n1_
  have HB := n2_
  clear n0_ n1_ n2_
  refine start_ (n := 13) (S := fun w' => w'.cell? ⟨gb337,0,none⟩ = some (.bool a0_0) ∧ w'.cell? ⟨gb337,1,none⟩ = some (.int .u64 a0_1) ∧ w'.cell? ⟨gb337,2,none⟩ = some (.int .u64 a0_2) ∧ w'.cell? ⟨gb338,0,none⟩ = some (.bool a1_0) ∧ w'.cell? ⟨gb338,1,none⟩ = some (.int .u64 a1_1) ∧ w'.cell? ⟨gb338,2,none⟩ = some (.int .u64 a1_2)) (ds := []) #[false,false,false,false,false,false,false,false,false,false,false,false,false] Z569 rfl rfl ⟨(blk_cell BK337.out 0).trans rfl,(blk_cell BK337.out 1).trans rfl,(blk_cell BK337.out 2).trans rfl,(blk_cell BK338.out 0).trans rfl,(blk_cell BK338.out 1).trans rfl,(blk_cell BK338.out 2).trans rfl⟩ (fun hHeld => ?_);refine with_tabW impl_compareSizes.tab1 impl_compareSizes.bits1 (fun HT_ HW_ => ?_)
  generalize w7.drew = w8 at BK337 BK338 HB hHeld ⊢
  refine pure_ (i := 0) (N := some 5) (v := ?_) (a' := ?_) #[true,false,false,false,false,false,false,false,false,false,false,false,false] rfl rfl (any_of HT_.out Z569) (fun _ _ _ h => h) (Or.inl ⟨Z571,?_⟩) ?_ ?_
  rotate_left
  · intro w'
    go_simp
    with_reducible rfl
  rotate_left
  · simp only [Act.put,List.setIfInBounds_toArray,List.set_cons_zero,List.set_cons_succ,i64_w,i32_w]
    rfl
  refine pure_ (i := 2) (N := some 7) (v := ?_) (a' := ?_) #[true,false,true,false,false,false,false,false,false,false,false,false,false] rfl rfl (any_of HT_.out Z569) (fun _ _ _ h => h) (Or.inl ⟨Z571,?_⟩) ?_ ?_
  rotate_left
  · intro w'
    go_simp
    with_reducible rfl
  rotate_left
  · simp only [Act.put,List.setIfInBounds_toArray,List.set_cons_zero,List.set_cons_succ,i64_w,i32_w]
    rfl
  refine pure_ (i := 5) (N := some 10) (v := ?_) (a' := ?_) #[true,false,true,false,false,true,false,false,false,false,false,false,false] rfl rfl (any_of HT_.out Z569) (fun _ _ _ h => h) (Or.inl ⟨Z571,?_⟩) ?_ ?_
  rotate_left
  · intro w'
    go_simp
    with_reducible rfl
  rotate_left
  · simp only [Act.put,List.setIfInBounds_toArray,List.set_cons_zero,List.set_cons_succ,i64_w,i32_w]
    rfl
  refine pure_ (i := 7) (N := some 12) (v := ?_) (a' := ?_) #[true,false,true,false,false,true,false,true,false,false,false,false,false] rfl rfl (any_of HT_.out Z569) (fun _ _ _ h => h) (Or.inl ⟨Z571,?_⟩) ?_ ?_
  rotate_left
  · intro w'
    go_simp
    with_reducible rfl
  rotate_left
  · simp only [Act.put,List.setIfInBounds_toArray,List.set_cons_zero,List.set_cons_succ,i64_w,i32_w]
    rfl
  refine take_ (i := 1) (N := some 6) (v := ?_) (a' := ?_) #[true,true,true,false,false,true,false,true,false,false,false,false,false] rfl rfl (take_ofW HT_.out HW_.out Z569) (fun _ _ _ h => h) (Or.inl ⟨Z571,?_⟩) hHeld ?_ ?_
  rotate_left
  · rintro w' ⟨s0,s1,s2,s3,s4,s5⟩
    go_simp
    with_reducible rfl
  rotate_left
  · simp only [Act.put,List.setIfInBounds_toArray,List.set_cons_zero,List.set_cons_succ,i64_w,i32_w]
    rfl
  refine take_ (i := 3) (N := some 8) (v := ?_) (a' := ?_) #[true,true,true,true,false,true,false,true,false,false,false,false,false] rfl rfl (take_ofW HT_.out HW_.out Z569) (fun _ _ _ h => h) (Or.inl ⟨Z571,?_⟩) hHeld ?_ ?_
  rotate_left
  · rintro w' ⟨s0,s1,s2,s3,s4,s5⟩
    go_simp
    with_reducible rfl
  rotate_left
  · simp only [Act.put,List.setIfInBounds_toArray,List.set_cons_zero,List.set_cons_succ,i64_w,i32_w]
    rfl
  refine take_ (i := 6) (N := some 11) (v := ?_) (a' := ?_) #[true,true,true,true,false,true,true,true,false,false,false,false,false] rfl rfl (take_ofW HT_.out HW_.out Z569) (fun _ _ _ h => h) (Or.inl ⟨Z571,?_⟩) hHeld ?_ ?_
  rotate_left
  · rintro w' ⟨s0,s1,s2,s3,s4,s5⟩
    go_simp
    with_reducible rfl
  rotate_left
  · simp only [Act.put,List.setIfInBounds_toArray,List.set_cons_zero,List.set_cons_succ,i64_w,i32_w]
    rfl
  refine take_ (i := 8) (N := some 13) (v := ?_) (a' := ?_) #[true,true,true,true,false,true,true,true,true,false,false,false,false] rfl rfl (take_ofW HT_.out HW_.out Z569) (fun _ _ _ h => h) (Or.inl ⟨Z571,?_⟩) hHeld ?_ ?_
  rotate_left
  · rintro w' ⟨s0,s1,s2,s3,s4,s5⟩
    go_simp
    with_reducible rfl
  rotate_left
  · simp only [Act.put,List.setIfInBounds_toArray,List.set_cons_zero,List.set_cons_succ,i64_w,i32_w]
    rfl
  refine one_ (i := 4) (N := some 9) #[true,true,true,true,true,true,true,true,true,false,false,false,false] rfl rfl (one_of HT_.out Z569) Z570 (fun K hK => ?_)
  refine goes_ Try.func83 Z569 rfl #[.int .u64 a0_1,.int .u64 a1_1] Z571 rfl rfl Z375 ?_
  with_reducible refine (cmp_Compare_uint64.calls a0_1 a1_1 t339 _ A3.out).mono ?_
  rintro e w' ⟨rfl,⟨nd,rfl⟩⟩
  refine ⟨_,rfl,?_⟩
  refine hK.out _ _ ⟨(blk_cell BK337.out 0).trans rfl,(blk_cell BK337.out 1).trans rfl,(blk_cell BK337.out 2).trans rfl,(blk_cell BK338.out 0).trans rfl,(blk_cell BK338.out 1).trans rfl,(blk_cell BK338.out 2).trans rfl⟩ (fun hHeld => ?_)
  clear hK K
  refine norm_ (a' := ?_) ?_ ?_
  rotate_left
  · show Act.put _ (some 9) _ = _
    simp only [Act.put,List.setIfInBounds_toArray,List.set_cons_zero,List.set_cons_succ,i64_w,i32_w]
    rfl
  refine one_ (i := 9) (N := some 14) #[true,true,true,true,true,true,true,true,true,true,false,false,false] rfl rfl (one_of HT_.out Z569) Z570 (fun K hK => ?_)
  refine goes_ Try.func83 Z569 rfl #[.int .u64 a0_2,.int .u64 a1_2] Z571 rfl rfl Z375 ?_
  with_reducible refine (cmp_Compare_uint64.calls a0_2 a1_2 t340 _ A4.out).mono ?_
  rintro e w' ⟨rfl,⟨nd,rfl⟩⟩
  refine ⟨_,rfl,?_⟩
  refine hK.out _ _ ⟨(blk_cell BK337.out 0).trans rfl,(blk_cell BK337.out 1).trans rfl,(blk_cell BK337.out 2).trans rfl,(blk_cell BK338.out 0).trans rfl,(blk_cell BK338.out 1).trans rfl,(blk_cell BK338.out 2).trans rfl⟩ (fun hHeld => ?_)
  clear hK K
  refine norm_ (a' := ?_) ?_ ?_
  rotate_left
  · show Act.put _ (some 14) _ = _
    simp only [Act.put,List.setIfInBounds_toArray,List.set_cons_zero,List.set_cons_succ,i64_w,i32_w]
    rfl
  refine one_ (i := 10) (N := some 15) #[true,true,true,true,true,true,true,true,true,true,true,false,false] rfl rfl (one_of HT_.out Z569) Z570 (fun K hK => ?_)
  refine Kd.R_lit_step (Kd.int .i64) _ 3 ?hg (N := 15) ?hd (xs := ([t339,t340] : List Int)) (inner := [.int .i64 t339,.int .i64 t340]) (ok := fun _ => True) (okp := fun _ => True) ?hr ?hp (fun _ hk => hk) trivial (Below.refl _ _) (Nat.le_refl _) (by simp) ?_;(case hd => rfl);(case hg => rfl);(case hr => exact Z566);(case hp => exact (Reps.one (show Kd.M (Kd.int .i64) _ _ _ t339 [.int .i64 t339] from rfl) (Reps.one (show Kd.M (Kd.int .i64) _ _ _ t340 [.int .i64 t340] from rfl) (Reps.none _ _))))
  intro v342 w9 ho10 hb hg_ hnew_
  clear hg_ hnew_
  (first | rw [← Ny341.out] at ho10 | (simp only [Int.reduceToNat] at ho10;rw [← Ny341.out] at ho10))
  have n0_ := Aside0.mk (Kd.R_lower ho10 (below_size Z349))
  have n1_ := Aside0.mk (blk_below (g := gb337) (o := .cells #[.bool a0_0,.int .u64 a0_1,.int .u64 a0_2] 28 (0,0)) Z540 hb)
  have n2_ := Aside0.mk (blk_below (g := gb338) (o := .cells #[.bool a1_0,.int .u64 a1_1,.int .u64 a1_2] 28 (0,0)) (by (with_reducible repeat (first | refine bA ?_ _ | refine bB ?_ | refine bC ?_ _));exact BK338.out) hb)
  have n3_ := Aside0.mk (below_step Z349 hb)
  clear BK337
  clear BK338
  clear HB
  have HO343 := n0_
  have BK337 := n1_
  have BK338 := n2_
  have HB := n3_
  clear n0_ n1_ n2_ n3_
  clear hb ho10
  obtain ⟨Ao11,co11,eo11⟩ := Kd.R_slice HO343.out
  (first | subst eo11 | (injection eo11 with f1_ f2_ f3_;have f4_ := f1_.symm;have f5_ := f3_.symm;clear f1_ f2_ f3_;subst f4_;subst f5_))
  refine hK.out _ _ ⟨(blk_cell BK337.out 0).trans rfl,(blk_cell BK337.out 1).trans rfl,(blk_cell BK337.out 2).trans rfl,(blk_cell BK338.out 0).trans rfl,(blk_cell BK338.out 1).trans rfl,(blk_cell BK338.out 2).trans rfl⟩ (fun hHeld => ?_)
  clear hK K
  refine norm_ (a' := ?_) ?_ ?_
  rotate_left
  · show Act.put _ (some 15) _ = _
    simp only [Act.put,List.setIfInBounds_toArray,List.set_cons_zero,List.set_cons_succ,i64_w,i32_w]
    rfl
  refine one_ (i := 11) (N := some 16) #[true,true,true,true,true,true,true,true,true,true,true,true,false] rfl rfl (one_of HT_.out Z569) Z570 (fun K hK => ?_)
  refine goes_ Try.func55 Z569 rfl #[.slice Ao11 y341.length co11] Z571 rfl rfl Z375 ?_
  with_reducible refine (cmp_Or_int.calls k _ _ y341 t344 _ ?side1 ?side2 A5.out).mono ?_
  (case side1 => repeat (first | exact (Kd.R_reads' HO343.out).2.2 | (with_reducible refine Kd.C_alloc ?_ _) | (with_reducible refine Kd.C_drewN ?_ _) | (with_reducible refine Kd.C_drew ?_)))
  (case side2 => exact (Kd.R_reads' HO343.out).2.1)
  rintro e w' ⟨rfl,⟨nd,rfl⟩⟩
  refine ⟨_,rfl,?_⟩
  refine hK.out _ _ ⟨(blk_cell BK337.out 0).trans rfl,(blk_cell BK337.out 1).trans rfl,(blk_cell BK337.out 2).trans rfl,(blk_cell BK338.out 0).trans rfl,(blk_cell BK338.out 1).trans rfl,(blk_cell BK338.out 2).trans rfl⟩ (fun hHeld => ?_)
  clear hK K
  refine norm_ (a' := ?_) ?_ ?_
  rotate_left
  · show Act.put _ (some 16) _ = _
    simp only [Act.put,List.setIfInBounds_toArray,List.set_cons_zero,List.set_cons_succ,i64_w,i32_w]
    rfl
  refine pure_ (i := 12) (N := some 4) (v := ?_) (a' := ?_) #[true,true,true,true,true,true,true,true,true,true,true,true,true] rfl rfl (any_of HT_.out Z569) (fun _ _ _ h => h) (Or.inl ⟨Z571,?_⟩) ?_ ?_
  rotate_left
  · intro w'
    go_simp
    with_reducible rfl
  rotate_left
  · simp only [Act.put,List.setIfInBounds_toArray,List.set_cons_zero,List.set_cons_succ,i64_w,i32_w]
    rfl
  refine done_ (done_of HT_.out Z569) ?_
  try go_wp2
  go_ret
  exact ⟨Z558,Z349⟩

/-! ### bits_Sub64: function 70: the model stands in for it -/
def bits_Sub64.f (a0 : Int) (a1 : Int) (a2 : Int) : Option (Int × Int) := if 0 ≤ a0 ∧ 0 ≤ a1 ∧ a1 < 18446744073709551616 ∧ 0 ≤ a2 ∧ a2 ≤ 1 then some ((a0 + 18446744073709551616 - a1 - a2) % 18446744073709551616,if a0 < a1 + a2 then 1 else 0) else none
def sub64E : Array Value → Sem Value := fun args => do
  let (x,y,b) ← Extern.MathBitsCarry.three "Sub64" args
  pure (Extern.MathBitsCarry.pair ((x + Extern.MathBitsCarry.m64 - y - b) % Extern.MathBitsCarry.m64) (if x < y + b then 1 else 0))
theorem run_sub64E {P : Program} (x y b : Nat) (hb : b ≤ 1) (w : World) : (sub64E #[.int .u64 x,.int .u64 y,.int .u64 b]).run P w = .ok (.tuple #[.int .u64 (((x + 18446744073709551616 - y - b) % 18446744073709551616 : Nat) : Int),.int .u64 ((if x < y + b then 1 else 0 : Nat) : Int)]) w := by
  have : b = 0 ∨ b = 1 := by omega
  rcases this with rfl | rfl <;> rfl
theorem bits_Sub64.run (a0 a1 a2 r1 r2 : Int) (h : bits_Sub64.f a0 a1 a2 = some (r1,r2)) (w : World) : (callFunc 70 #[.int .u64 a0,.int .u64 a1,.int .u64 a2]).run Try.prog w = .ok (.value (.tuple #[.int .u64 r1,.int .u64 r2])) w := by
  unfold bits_Sub64.f at h
  split at h
  · rename_i g
    simp only [Option.some.injEq,Prod.mk.injEq] at h
    obtain ⟨rfl,rfl⟩ := h
    obtain ⟨g0,g1,g4,g2,g3⟩ := g
    obtain ⟨x,rfl⟩ := Int.eq_ofNat_of_zero_le g0
    obtain ⟨y,rfl⟩ := Int.eq_ofNat_of_zero_le g1
    obtain ⟨b,rfl⟩ := Int.eq_ofNat_of_zero_le g2
    rw [run_callFunc_extern Try.func70 Z569 Z569 Z569 (e := sub64E) Z569,run_sub64E x y b (by omega)]
    have e1 : (((x + 18446744073709551616 - y - b) % 18446744073709551616 : Nat) : Int) = ((x : Int) + 18446744073709551616 - y - b) % 18446744073709551616 := by omega
    have e2 : ((if x < y + b then 1 else 0 : Nat) : Int) = if (x : Int) < y + b then 1 else 0 := by by_cases c : x < y + b <;> simp [c] <;> omega
    rw [e1,e2]
    rfl
  · simp at h

/-! ### impl_AddWide: function 49 -/
theorem impl_AddWide.cells3 {w : World} {g : Nat} {t : TypeId} {a0 a1 a2 : Value} (h : w.heap[g]? = some (.cells #[a0,a1,a2] t (0,0))) : w.cell? ⟨g,0,none⟩ = some a0 ∧ w.cell? ⟨g,1,none⟩ = some a1 ∧ w.cell? ⟨g,2,none⟩ = some a2 ∧ w.frozen? ⟨g,0,none⟩ = false ∧ w.frozen? ⟨g,1,none⟩ = false ∧ w.frozen? ⟨g,2,none⟩ = false := ⟨(blk_cell h 0).trans rfl,(blk_cell h 1).trans rfl,(blk_cell h 2).trans rfl,blk_frozen h 0,blk_frozen h 1,blk_frozen h 2⟩
def impl_AddWide.j0 : Nat → Bool → Bool → Int → Int → Bool → Int → Int → Option (Bool × Int × Int × Bool)
  | 0,_,_,_,_,_,_,_ => none
  | k + 1,x22,x346000,x346001,x346002,x347000,x347001,x347002 => if x22 = true then (some (false,0,0,false)) else (if (x346000 != x347000) = true then ((impl_compareSizes.f k x346000 x346001 x346002 x347000 x347001 x347002).bind fun t350 => (if t350 < 0 then ((bits_Sub64.f x347002 x346002 0).bind fun bt351 => ((bits_Sub64.f x347001 x346001 bt351.2).bind fun bt353 => ((impl_wideOf.f x347000 bt353.1 bt351.1).bind fun bt355 => (some (bt355.1,bt355.2.1,bt355.2.2,true))))) else ((bits_Sub64.f x346002 x347002 0).bind fun bt358 => ((bits_Sub64.f x346001 x347001 bt358.2).bind fun bt360 => ((impl_wideOf.f x346000 bt360.1 bt358.1).bind fun bt362 => (some (bt362.1,bt362.2.1,bt362.2.2,true))))))) else ((bits_Add64.f x346002 x347002 0).bind fun bt365 => ((bits_Add64.f x346001 x347001 bt365.2).bind fun bt367 => ((impl_wideOf.f x346000 bt367.1 bt365.1).bind fun bt369 => ((impl_WideOk.f bt369.1 bt369.2.1 bt369.2.2).bind fun t373 => (if t373 = true then (some (bt369.1,bt369.2.1,bt369.2.2,true)) else (some (false,0,0,false))))))))
def impl_AddWide.f (k : Nat) (a0_0 : Bool) (a0_1 : Int) (a0_2 : Int) (a1_0 : Bool) (a1_1 : Int) (a1_2 : Int) : Option (Bool × Int × Int × Bool) := (impl_WideOk.f a0_0 a0_1 a0_2).bind fun t348 => (if t348 = true then ((impl_WideOk.f a1_0 a1_1 a1_2).bind fun t349 => (impl_AddWide.j0 k (!t349) a0_0 a0_1 a0_2 a1_0 a1_1 a1_2)) else (impl_AddWide.j0 k true a0_0 a0_1 a0_2 a1_0 a1_1 a1_2))
theorem impl_AddWide.mono_l : ∀ k,(∀ y0 y1 y2 y3 y4 y5 y6,LeO (impl_AddWide.j0 k y0 y1 y2 y3 y4 y5 y6) (impl_AddWide.j0 (k + 1) y0 y1 y2 y3 y4 y5 y6))
  | 0 => fun _ _ _ _ _ _ _ r h => by simp [impl_AddWide.j0] at h
  | k + 1 => by
    have ih0 := impl_AddWide.mono_l k
    · intro y0 y1 y2 y3 y4 y5 y6
      unfold impl_AddWide.j0
      repeat' first
      | (with_reducible exact ih0 _ _ _ _ _ _ _)
      | (with_reducible exact impl_compareSizes.mono _ _ _ _ _ _ _)
      | (with_reducible exact LeO.refl _)
      | (with_reducible exact LeO.none _)
      | (with_reducible refine LeO.ite ?_ ?_)
      | (with_reducible refine LeO.bind ?_ (fun _ => ?_))
      | exact ih0 _ _ _ _ _ _ _
      | exact impl_compareSizes.mono _ _ _ _ _ _ _
      | exact LeO.none _
      | refine LeO.ite ?_ ?_
      | refine LeO.bind ?_ (fun _ => ?_)
theorem impl_AddWide.mono : ∀ a0 a1 a2 a3 a4 a5 k,LeO (impl_AddWide.f k a0 a1 a2 a3 a4 a5) (impl_AddWide.f (k + 1) a0 a1 a2 a3 a4 a5) := by
  intro a0 a1 a2 a3 a4 a5 k
  have ih0 := impl_AddWide.mono_l k
  unfold impl_AddWide.f
  repeat' first
      | (with_reducible exact ih0 _ _ _ _ _ _ _)
      | (with_reducible exact impl_compareSizes.mono _ _ _ _ _ _ _)
      | (with_reducible exact LeO.refl _)
      | (with_reducible exact LeO.none _)
      | (with_reducible refine LeO.ite ?_ ?_)
      | (with_reducible refine LeO.bind ?_ (fun _ => ?_))
      | exact ih0 _ _ _ _ _ _ _
      | exact impl_compareSizes.mono _ _ _ _ _ _ _
      | exact LeO.none _
      | refine LeO.ite ?_ ?_
      | refine LeO.bind ?_ (fun _ => ?_)
set_option maxHeartbeats 8000000 in
set_option maxRecDepth 100000 in
theorem impl_AddWide.calls (k : Nat) (a0_0 : Bool) (a0_1 : Int) (a0_2 : Int) (a1_0 : Bool) (a1_1 : Int) (a1_2 : Int) (r1 : Bool) (r2 : Int) (r3 : Int) (r4 : Bool) (w : World) (h : impl_AddWide.f k a0_0 a0_1 a0_2 a1_0 a1_1 a1_2 = some (r1,r2,r3,r4)) :
    Calls Try.prog 49 #[.agg #[.bool a0_0,.int .u64 a0_1,.int .u64 a0_2],.agg #[.bool a1_0,.int .u64 a1_1,.int .u64 a1_2]] w fun e w' => e = .returned (.tuple #[.agg #[.bool r1,.int .u64 r2,.int .u64 r3],.bool r4]) ∧ Below w.heap.size w w' := by
  have hu28 := Try.underlying28
  have HB := Aside0.mk (Below.refl w.heap.size w)
  have H : ((impl_WideOk.f a0_0 a0_1 a0_2).bind fun t348 => (if t348 = true then ((impl_WideOk.f a1_0 a1_1 a1_2).bind fun t349 => (impl_AddWide.j0 k (!t349) a0_0 a0_1 a0_2 a1_0 a1_1 a1_2)) else (impl_AddWide.j0 k true a0_0 a0_1 a0_2 a1_0 a1_1 a1_2))) = some (r1,r2,r3,r4) := h
  clear h
  have HC3 := Aside0.mk H
  clear H
  go_enter Try.func49,Try.ntmps49
  go_upto_region 1 with (first | ((with_reducible refine gate_dst (N := 2) rfl ?_);refine box_event ?hg (N := 2) ?hd (cs := #[.bool a0_0,.int .u64 a0_1,.int .u64 a0_2]) (t := 28) ?hr ?_;(case hd => rfl);(case hg => rfl);(case hr => exact Z566);intro gb345 hg w4 hbox hb;have n_ := jA (below_step Z483 hb) (jA (hbox) (jA ((Z366 : w.heap.size ≤ gb345)) (Aside0.mk ((Z366 : w.heap.size ≤ gb345)))));clear HB;obtain ⟨HB,BK345,GW345,GE345⟩ := n_;clear hb hbox hg) | ((with_reducible refine gate_dst (N := 3) rfl ?_);refine box_event ?hg (N := 3) ?hd (cs := #[.bool a1_0,.int .u64 a1_1,.int .u64 a1_2]) (t := 28) ?hr ?_;(case hd => rfl);(case hg => rfl);(case hr => exact Z566);intro gb346 hg w5 hbox hb;have n_ := jA (blk_below (g := gb345) (o := .cells #[.bool a0_0,.int .u64 a0_1,.int .u64 a0_2] 28 (0,0)) Z495 hb) (jA (below_step Z473 hb) (jA (hbox) (jA ((Z354 : w.heap.size ≤ gb346)) (jA ((Z354 : w.heap.size ≤ gb346)) (jA ((Z267 : gb345 ≠ gb346)) (Aside0.mk ((Z269 : gb346 ≠ gb345))))))));clear BK345 HB;obtain ⟨BK345,HB,BK346,GW346,GE346,NB345_346,NB346_345⟩ := n_;clear hb hbox hg) | ((with_reducible refine gate_dst (N := 4) rfl ?_);refine box_event ?hg (N := 4) ?hd (cs := #[.bool false,.int .u64 0,.int .u64 0]) (t := 28) ?hr ?_;(case hd => rfl);(case hg => rfl);(case hr => exact Z566);intro gb347 hg w6 hbox hb;have n_ := jA (blk_below (g := gb345) (o := .cells #[.bool a0_0,.int .u64 a0_1,.int .u64 a0_2] 28 (0,0)) Z495 hb) (jA (blk_below (g := gb346) (o := .cells #[.bool a1_0,.int .u64 a1_1,.int .u64 a1_2] 28 (0,0)) Z499 hb) (jA (below_step Z447 hb) (jA (hbox) (jA ((Z237 : w.heap.size ≤ gb347)) (jA ((Z237 : w.heap.size ≤ gb347)) (jA ((Z267 : gb345 ≠ gb347)) (jA ((Z269 : gb347 ≠ gb345)) (jA ((Z271 : gb346 ≠ gb347)) (Aside0.mk ((Z274 : gb347 ≠ gb346)))))))))));clear BK345 BK346 HB;obtain ⟨BK345,BK346,HB,BK347,GW347,GE347,NB345_347,NB347_345,NB346_347,NB347_346⟩ := n_;clear hb hbox hg))
  (try simp only [Act.put,List.setIfInBounds_toArray,List.set_cons_zero,List.set_cons_succ])
  go_cut [22] (fun v22 wc => ∃ (kq : Nat) (x22_2 : Bool),v22 = .bool x22_2 ∧ Aside0 (impl_AddWide.j0 kq x22_2 a0_0 a0_1 a0_2 a1_0 a1_1 a1_2 = some (r1,r2,r3,r4)) ∧ Aside0 (kq ≤ k) ∧ Aside0 (wc.heap[gb345]? = some (.cells #[.bool a0_0,.int .u64 a0_1,.int .u64 a0_2] 28 (0,0))) ∧ Aside0 (wc.heap[gb346]? = some (.cells #[.bool a1_0,.int .u64 a1_1,.int .u64 a1_2] 28 (0,0))) ∧ Aside0 (wc.heap[gb347]? = some (.cells #[.bool false,.int .u64 0,.int .u64 0] 28 (0,0))) ∧ Aside0 (Below w.heap.size w wc))
  case first =>
    have H := HC3.out
    clear HC3
    obtain ⟨t348,A70,H⟩ := Option.bind_eq_some_iff.mp H
    have A7 := Aside0.mk A70
    clear A70
    by_cases c8 : t348 = true
    · subst c8
      have H1 : ((impl_WideOk.f a1_0 a1_1 a1_2).bind fun t349 => (impl_AddWide.j0 k (!t349) a0_0 a0_1 a0_2 a1_0 a1_1 a1_2)) = some (r1,r2,r3,r4) := by rw [if_pos rfl] at H;exact H
      clear H
      have H := H1
      clear H1
      obtain ⟨t349,A90,H⟩ := Option.bind_eq_some_iff.mp H
      have A9 := Aside0.mk A90
      clear A90
      have H' := Aside0.mk H
      clear H
      have hnb10 := NB345_346.out
      have hnc10 := NB346_345.out
      have hnb11 := NB345_347.out
      have hnc11 := NB347_345.out
      obtain ⟨hcz12_0,hcz12_1,hcz12_2,hfz12_0,hfz12_1,hfz12_2⟩ := impl_AddWide.cells3 BK345.out
      go_wp2_with (first | ((with_reducible refine gate_callee (f := 31) rfl ?_);refine goesL_ (some 16) rfl rfl Try.func31 Z569 rfl #[.agg #[.bool a0_0,.int .u64 a0_1,.int .u64 a0_2]] rfl Z375 ?_;(with_reducible refine (impl_WideOk.calls a0_0 a0_1 a0_2 true _ A7.out).mono ?_);rintro e w13 ⟨rfl,hb⟩;refine ⟨_,rfl,?_⟩;have n_ := jA (blk_below (g := gb345) (o := .cells #[.bool a0_0,.int .u64 a0_1,.int .u64 a0_2] 28 (0,0)) Z495 hb) (jA (blk_below (g := gb346) (o := .cells #[.bool a1_0,.int .u64 a1_1,.int .u64 a1_2] 28 (0,0)) Z499 hb) (jA (blk_below (g := gb347) (o := .cells #[.bool false,.int .u64 0,.int .u64 0] 28 (0,0)) Z502 hb) (Aside0.mk (below_step Z418 hb))));clear BK345 BK346 BK347 HB;obtain ⟨BK345,BK346,BK347,HB⟩ := n_;(try clear hb);(try clear hb2);(try clear hk);(try clear hi);have hnb14 := NB346_347.out;have hnc14 := NB347_346.out;obtain ⟨hcz15_0,hcz15_1,hcz15_2,hfz15_0,hfz15_1,hfz15_2⟩ := impl_AddWide.cells3 BK346.out) | (go_at_call 31;(with_reducible refine (impl_WideOk.calls a1_0 a1_1 a1_2 t349 _ A9.out).mono ?_);rintro e w16 ⟨rfl,hb⟩;have n_ := jA (blk_below (g := gb345) (o := .cells #[.bool a0_0,.int .u64 a0_1,.int .u64 a0_2] 28 (0,0)) Z495 hb) (jA (blk_below (g := gb346) (o := .cells #[.bool a1_0,.int .u64 a1_1,.int .u64 a1_2] 28 (0,0)) Z499 hb) (jA (blk_below (g := gb347) (o := .cells #[.bool false,.int .u64 0,.int .u64 0] 28 (0,0)) Z502 hb) (Aside0.mk (below_step Z418 hb))));clear BK345 BK346 BK347 HB;obtain ⟨BK345,BK346,BK347,HB⟩ := n_;(try clear hb);(try clear hb2);(try clear hk);(try clear hi)))
      go_meet
      case rel => exact ⟨_,(!t349),Z565,H',⟨Z567⟩,⟨Z495⟩,⟨Z499⟩,⟨Z502⟩,⟨Z418⟩⟩
    · replace c8 := Bool.eq_false_iff.mpr c8
      subst c8
      have H1 : (impl_AddWide.j0 k true a0_0 a0_1 a0_2 a1_0 a1_1 a1_2) = some (r1,r2,r3,r4) := by rw [if_neg (show ¬ (false = true) by decide)] at H;exact H
      clear H
      have H := H1
      clear H1
      have H' := Aside0.mk H
      clear H
      have hnb17 := NB345_346.out
      have hnc17 := NB346_345.out
      have hnb18 := NB345_347.out
      have hnc18 := NB347_345.out
      obtain ⟨hcz19_0,hcz19_1,hcz19_2,hfz19_0,hfz19_1,hfz19_2⟩ := impl_AddWide.cells3 BK345.out
      go_wp2_with (first | ((with_reducible refine gate_callee (f := 31) rfl ?_);refine goesL_ (some 16) rfl rfl Try.func31 Z569 rfl #[.agg #[.bool a0_0,.int .u64 a0_1,.int .u64 a0_2]] rfl Z375 ?_;(with_reducible refine (impl_WideOk.calls a0_0 a0_1 a0_2 false _ A7.out).mono ?_);rintro e w20 ⟨rfl,hb⟩;refine ⟨_,rfl,?_⟩;have n_ := jA (blk_below (g := gb345) (o := .cells #[.bool a0_0,.int .u64 a0_1,.int .u64 a0_2] 28 (0,0)) Z495 hb) (jA (blk_below (g := gb346) (o := .cells #[.bool a1_0,.int .u64 a1_1,.int .u64 a1_2] 28 (0,0)) Z499 hb) (jA (blk_below (g := gb347) (o := .cells #[.bool false,.int .u64 0,.int .u64 0] 28 (0,0)) Z502 hb) (Aside0.mk (below_step Z418 hb))));clear BK345 BK346 BK347 HB;obtain ⟨BK345,BK346,BK347,HB⟩ := n_;(try clear hb);(try clear hb2);(try clear hk);(try clear hi)))
      go_meet
      case rel => exact ⟨_,(true),Z565,H',⟨Z567⟩,⟨Z495⟩,⟨Z499⟩,⟨Z502⟩,⟨Z418⟩⟩
  case rest =>
    clear HC3
    try clear c1
    try clear p2
    try clear c3
    try clear c4
    try clear c8
    try clear c10
    try clear c11
    try clear c14
    try clear c17
    try clear c18
    try clear hcz12_0
    try clear hcz12_1
    try clear hcz12_2
    try clear hcz15_0
    try clear hcz15_1
    try clear hcz15_2
    try clear hcz19_0
    try clear hcz19_1
    try clear hcz19_2
    try clear hfz12_0
    try clear hfz12_1
    try clear hfz12_2
    try clear hfz15_0
    try clear hfz15_1
    try clear hfz15_2
    try clear hfz19_0
    try clear hfz19_1
    try clear hfz19_2
    obtain ⟨kq,x22_2,rfl,HA,HJ2,BK345,BK346,BK347,HB⟩ := hcut
    cases kq with
    | zero => exact absurd HA.out (by simp [impl_AddWide.j0])
    | succ kj2 =>
      have H := HA.out
      clear HA
      simp only [impl_AddWide.j0] at H
      by_cases c21 : x22_2 = true
      · subst c21
        have H1 : (some (false,0,0,false)) = some (r1,r2,r3,r4) := by rw [if_pos rfl] at H;exact H
        clear H
        have H := H1
        clear H1
        simp only [Option.some.injEq,Prod.mk.injEq] at H
        obtain ⟨rfl,rfl,rfl,rfl⟩ := H
        have hnb22 := NB347_345.out
        have hnc22 := NB345_347.out
        have hnb23 := NB347_346.out
        have hnc23 := NB346_347.out
        obtain ⟨hcz24_0,hcz24_1,hcz24_2,hfz24_0,hfz24_1,hfz24_2⟩ := impl_AddWide.cells3 BK347.out
        go_wp2
        refine bodyPost_ret (results_ct rfl _ _ gb347 28 #[.bool false,.int .u64 0,.int .u64 0] (0,0) _ rfl Z57 Try.underlying28 rfl Z569) rfl ?_
        exact ⟨Z558,Z418⟩
      · replace c21 := Bool.eq_false_iff.mpr c21
        subst c21
        have H1 : (if (a0_0 != a1_0) = true then ((impl_compareSizes.f kj2 a0_0 a0_1 a0_2 a1_0 a1_1 a1_2).bind fun t350 => (if t350 < 0 then ((bits_Sub64.f a1_2 a0_2 0).bind fun bt351 => ((bits_Sub64.f a1_1 a0_1 bt351.2).bind fun bt353 => ((impl_wideOf.f a1_0 bt353.1 bt351.1).bind fun bt355 => (some (bt355.1,bt355.2.1,bt355.2.2,true))))) else ((bits_Sub64.f a0_2 a1_2 0).bind fun bt358 => ((bits_Sub64.f a0_1 a1_1 bt358.2).bind fun bt360 => ((impl_wideOf.f a0_0 bt360.1 bt358.1).bind fun bt362 => (some (bt362.1,bt362.2.1,bt362.2.2,true))))))) else ((bits_Add64.f a0_2 a1_2 0).bind fun bt365 => ((bits_Add64.f a0_1 a1_1 bt365.2).bind fun bt367 => ((impl_wideOf.f a0_0 bt367.1 bt365.1).bind fun bt369 => ((impl_WideOk.f bt369.1 bt369.2.1 bt369.2.2).bind fun t373 => (if t373 = true then (some (bt369.1,bt369.2.1,bt369.2.2,true)) else (some (false,0,0,false)))))))) = some (r1,r2,r3,r4) := by rw [if_neg (show ¬ (false = true) by decide)] at H;exact H
        clear H
        have H := H1
        clear H1
        by_cases c25 : (a0_0 != a1_0) = true
        · rw [if_pos c25] at H
          have c25b0 : (a0_0 != a1_0) = true := c25
          (try (have c25b1 : decide (a0_0 = a1_0) = false := by simpa using c25))
          (try (have c25b2 : (a0_0 == a1_0) = false := by simpa using c25))
          (try (have c25b3 : ¬ (a0_0 = a1_0) := by simpa using c25))
          clear c25
          obtain ⟨t350,A260,H⟩ := Option.bind_eq_some_iff.mp H
          have A26 := Aside0.mk A260
          clear A260
          by_cases c27 : t350 < 0
          · rw [if_pos c27] at H
            have c27b0 : decide (t350 < 0) = true := decide_eq_true c27
            clear c27
            obtain ⟨⟨t351,t352⟩,A280,H⟩ := Option.bind_eq_some_iff.mp H
            try dsimp only at H
            have A28 := Aside0.mk A280
            clear A280
            obtain ⟨⟨t353,t354⟩,A290,H⟩ := Option.bind_eq_some_iff.mp H
            try dsimp only at H
            have A29 := Aside0.mk A290
            clear A290
            obtain ⟨⟨t355,t356,t357⟩,A300,H⟩ := Option.bind_eq_some_iff.mp H
            try dsimp only at H
            have A30 := Aside0.mk A300
            clear A300
            simp only [Option.some.injEq,Prod.mk.injEq] at H
            obtain ⟨rfl,rfl,rfl,rfl⟩ := H
            have hnb31 := NB345_346.out
            have hnc31 := NB346_345.out
            have hnb32 := NB345_347.out
            have hnc32 := NB347_345.out
            obtain ⟨hcz33_0,hcz33_1,hcz33_2,hfz33_0,hfz33_1,hfz33_2⟩ := impl_AddWide.cells3 BK345.out
            have hnb34 := NB346_347.out
            have hnc34 := NB347_346.out
            obtain ⟨hcz35_0,hcz35_1,hcz35_2,hfz35_0,hfz35_1,hfz35_2⟩ := impl_AddWide.cells3 BK346.out
            go_wp2_with (first | ((with_reducible refine gate_callee (f := 69) rfl ?_);refine goesL_ (some 31) rfl rfl Try.func69 Z569 rfl #[.agg #[.bool a0_0,.int .u64 a0_1,.int .u64 a0_2],.agg #[.bool a1_0,.int .u64 a1_1,.int .u64 a1_2]] rfl Z375 ?_;(with_reducible refine (impl_compareSizes.calls kj2 a0_0 a0_1 a0_2 a1_0 a1_1 a1_2 t350 _ A26.out).mono ?_);rintro e w36 ⟨rfl,hb⟩;refine ⟨_,rfl,?_⟩;have n_ := jA (blk_below (g := gb345) (o := .cells #[.bool a0_0,.int .u64 a0_1,.int .u64 a0_2] 28 (0,0)) Z495 hb) (jA (blk_below (g := gb346) (o := .cells #[.bool a1_0,.int .u64 a1_1,.int .u64 a1_2] 28 (0,0)) Z499 hb) (jA (blk_below (g := gb347) (o := .cells #[.bool false,.int .u64 0,.int .u64 0] 28 (0,0)) Z502 hb) (Aside0.mk (below_step Z418 hb))));clear BK345 BK346 BK347 HB;obtain ⟨BK345,BK346,BK347,HB⟩ := n_;(try clear hb);(try clear hb2);(try clear hk);(try clear hi);obtain ⟨hcz37_0,hcz37_1,hcz37_2,hfz37_0,hfz37_1,hfz37_2⟩ := impl_AddWide.cells3 BK346.out;obtain ⟨hcz38_0,hcz38_1,hcz38_2,hfz38_0,hfz38_1,hfz38_2⟩ := impl_AddWide.cells3 BK345.out) | (simp only [bits_Sub64.run a1_2 a0_2 0 t351 t352 A28.out]) | (simp only [bits_Sub64.run a1_1 a0_1 t352 t353 t354 A29.out]) | ((with_reducible refine gate_callee (f := 71) rfl ?_);refine goesL_ (some 56) rfl rfl Try.func71 Z569 rfl #[.bool a1_0,.int .u64 t353,.int .u64 t351] rfl Z375 ?_;(with_reducible refine (impl_wideOf.calls a1_0 t353 t351 t355 t356 t357 _ A30.out).mono ?_);rintro e w39 ⟨rfl,hb⟩;refine ⟨_,rfl,?_⟩;have n_ := jA (blk_below (g := gb345) (o := .cells #[.bool a1_0,.int .u64 a1_1,.int .u64 a1_2] 28 (0,0)) (by (with_reducible repeat (first | refine bA ?_ _ | refine bB ?_ | refine bC ?_ _));refine blk_far ?_ NB345_346.out _;(with_reducible repeat (first | refine bA ?_ _ | refine bB ?_ | refine bC ?_ _));refine blk_far ?_ NB345_346.out _;(with_reducible repeat (first | refine bA ?_ _ | refine bB ?_ | refine bC ?_ _));refine blk_far ?_ NB345_346.out _;(with_reducible repeat (first | refine bA ?_ _ | refine bB ?_ | refine bC ?_ _));refine blk_put (cs := #[.bool a1_0,.int .u64 a1_1,.int .u64 a0_2]) ?_ 2 _ rfl;(with_reducible repeat (first | refine bA ?_ _ | refine bB ?_ | refine bC ?_ _));refine blk_put (cs := #[.bool a1_0,.int .u64 a0_1,.int .u64 a0_2]) ?_ 1 _ rfl;(with_reducible repeat (first | refine bA ?_ _ | refine bB ?_ | refine bC ?_ _));refine blk_put (cs := #[.bool a0_0,.int .u64 a0_1,.int .u64 a0_2]) ?_ 0 _ rfl;(with_reducible repeat (first | refine bA ?_ _ | refine bB ?_ | refine bC ?_ _));exact BK345.out) hb) (jA (blk_below (g := gb346) (o := .cells #[.bool a0_0,.int .u64 a0_1,.int .u64 a0_2] 28 (0,0)) (by (with_reducible repeat (first | refine bA ?_ _ | refine bB ?_ | refine bC ?_ _));refine blk_put (cs := #[.bool a0_0,.int .u64 a0_1,.int .u64 a1_2]) ?_ 2 _ rfl;(with_reducible repeat (first | refine bA ?_ _ | refine bB ?_ | refine bC ?_ _));refine blk_put (cs := #[.bool a0_0,.int .u64 a1_1,.int .u64 a1_2]) ?_ 1 _ rfl;(with_reducible repeat (first | refine bA ?_ _ | refine bB ?_ | refine bC ?_ _));refine blk_put (cs := #[.bool a1_0,.int .u64 a1_1,.int .u64 a1_2]) ?_ 0 _ rfl;(with_reducible repeat (first | refine bA ?_ _ | refine bB ?_ | refine bC ?_ _));refine blk_far ?_ NB346_345.out _;(with_reducible repeat (first | refine bA ?_ _ | refine bB ?_ | refine bC ?_ _));refine blk_far ?_ NB346_345.out _;(with_reducible repeat (first | refine bA ?_ _ | refine bB ?_ | refine bC ?_ _));refine blk_far ?_ NB346_345.out _;(with_reducible repeat (first | refine bA ?_ _ | refine bB ?_ | refine bC ?_ _));exact BK346.out) hb) (jA (blk_below (g := gb347) (o := .cells #[.bool false,.int .u64 0,.int .u64 0] 28 (0,0)) (by (with_reducible repeat (first | refine bA ?_ _ | refine bB ?_ | refine bC ?_ _));refine blk_far ?_ NB347_346.out _;(with_reducible repeat (first | refine bA ?_ _ | refine bB ?_ | refine bC ?_ _));refine blk_far ?_ NB347_346.out _;(with_reducible repeat (first | refine bA ?_ _ | refine bB ?_ | refine bC ?_ _));refine blk_far ?_ NB347_346.out _;(with_reducible repeat (first | refine bA ?_ _ | refine bB ?_ | refine bC ?_ _));refine blk_far ?_ NB347_345.out _;(with_reducible repeat (first | refine bA ?_ _ | refine bB ?_ | refine bC ?_ _));refine blk_far ?_ NB347_345.out _;(with_reducible repeat (first | refine bA ?_ _ | refine bB ?_ | refine bC ?_ _));refine blk_far ?_ NB347_345.out _;(with_reducible repeat (first | refine bA ?_ _ | refine bB ?_ | refine bC ?_ _));exact BK347.out) hb) (Aside0.mk (below_step Z418 hb))));clear BK345 BK346 BK347 HB;obtain ⟨BK345,BK346,BK347,HB⟩ := n_;(try clear hb);(try clear hb2);(try clear hk);(try clear hi);obtain ⟨hcz40_0,hcz40_1,hcz40_2,hfz40_0,hfz40_1,hfz40_2⟩ := impl_AddWide.cells3 BK347.out))
            refine bodyPost_ret (results_ct rfl _ _ gb347 28 #[.bool t355,.int .u64 t356,.int .u64 t357] (0,0) _ rfl (by (with_reducible repeat (first | refine bA ?_ _ | refine bB ?_ | refine bC ?_ _));refine blk_put (cs := #[.bool t355,.int .u64 t356,.int .u64 0]) ?_ 2 _ rfl;(with_reducible repeat (first | refine bA ?_ _ | refine bB ?_ | refine bC ?_ _));refine blk_put (cs := #[.bool t355,.int .u64 0,.int .u64 0]) ?_ 1 _ rfl;(with_reducible repeat (first | refine bA ?_ _ | refine bB ?_ | refine bC ?_ _));refine blk_put (cs := #[.bool false,.int .u64 0,.int .u64 0]) ?_ 0 _ rfl;(with_reducible repeat (first | refine bA ?_ _ | refine bB ?_ | refine bC ?_ _));exact BK347.out) Try.underlying28 rfl Z569) rfl ?_
            exact ⟨Z558,Z418⟩
          · rw [if_neg c27] at H
            have c27b0 : decide (t350 < 0) = false := decide_eq_false c27
            clear c27
            obtain ⟨⟨t358,t359⟩,A410,H⟩ := Option.bind_eq_some_iff.mp H
            try dsimp only at H
            have A41 := Aside0.mk A410
            clear A410
            obtain ⟨⟨t360,t361⟩,A420,H⟩ := Option.bind_eq_some_iff.mp H
            try dsimp only at H
            have A42 := Aside0.mk A420
            clear A420
            obtain ⟨⟨t362,t363,t364⟩,A430,H⟩ := Option.bind_eq_some_iff.mp H
            try dsimp only at H
            have A43 := Aside0.mk A430
            clear A430
            simp only [Option.some.injEq,Prod.mk.injEq] at H
            obtain ⟨rfl,rfl,rfl,rfl⟩ := H
            have hnb44 := NB345_346.out
            have hnc44 := NB346_345.out
            have hnb45 := NB345_347.out
            have hnc45 := NB347_345.out
            obtain ⟨hcz46_0,hcz46_1,hcz46_2,hfz46_0,hfz46_1,hfz46_2⟩ := impl_AddWide.cells3 BK345.out
            have hnb47 := NB346_347.out
            have hnc47 := NB347_346.out
            obtain ⟨hcz48_0,hcz48_1,hcz48_2,hfz48_0,hfz48_1,hfz48_2⟩ := impl_AddWide.cells3 BK346.out
            go_wp2_with (first | ((with_reducible refine gate_callee (f := 69) rfl ?_);refine goesL_ (some 31) rfl rfl Try.func69 Z569 rfl #[.agg #[.bool a0_0,.int .u64 a0_1,.int .u64 a0_2],.agg #[.bool a1_0,.int .u64 a1_1,.int .u64 a1_2]] rfl Z375 ?_;(with_reducible refine (impl_compareSizes.calls kj2 a0_0 a0_1 a0_2 a1_0 a1_1 a1_2 t350 _ A26.out).mono ?_);rintro e w49 ⟨rfl,hb⟩;refine ⟨_,rfl,?_⟩;have n_ := jA (blk_below (g := gb345) (o := .cells #[.bool a0_0,.int .u64 a0_1,.int .u64 a0_2] 28 (0,0)) Z495 hb) (jA (blk_below (g := gb346) (o := .cells #[.bool a1_0,.int .u64 a1_1,.int .u64 a1_2] 28 (0,0)) Z499 hb) (jA (blk_below (g := gb347) (o := .cells #[.bool false,.int .u64 0,.int .u64 0] 28 (0,0)) Z502 hb) (Aside0.mk (below_step Z418 hb))));clear BK345 BK346 BK347 HB;obtain ⟨BK345,BK346,BK347,HB⟩ := n_;(try clear hb);(try clear hb2);(try clear hk);(try clear hi);obtain ⟨hcz50_0,hcz50_1,hcz50_2,hfz50_0,hfz50_1,hfz50_2⟩ := impl_AddWide.cells3 BK345.out;obtain ⟨hcz51_0,hcz51_1,hcz51_2,hfz51_0,hfz51_1,hfz51_2⟩ := impl_AddWide.cells3 BK346.out) | (simp only [bits_Sub64.run a0_2 a1_2 0 t358 t359 A41.out];(iterate 4 (try (rw [drewN_self w49];generalize hq_ : World.drewN w49 _ = w49;have n0_ : Aside0 (w49.heap[gb345]? = some (.cells #[.bool a0_0,.int .u64 a0_1,.int .u64 a0_2] 28 (0,0))) := ⟨Z386⟩;have n1_ : Aside0 (w49.heap[gb346]? = some (.cells #[.bool a1_0,.int .u64 a1_1,.int .u64 a1_2] 28 (0,0))) := ⟨Z385⟩;have n2_ : Aside0 (w49.heap[gb347]? = some (.cells #[.bool false,.int .u64 0,.int .u64 0] 28 (0,0))) := ⟨Z384⟩;have n3_ : Aside0 (Below w.heap.size w w49) := ⟨Z182⟩;clear BK345 BK346 BK347 HB hq_;have BK345 := n0_;have BK346 := n1_;have BK347 := n2_;have HB := n3_;clear n0_ n1_ n2_ n3_)));(try (obtain ⟨hcz50_0,hcz50_1,hcz50_2,hfz50_0,hfz50_1,hfz50_2⟩ := impl_AddWide.cells3 BK345.out));(try (obtain ⟨hcz51_0,hcz51_1,hcz51_2,hfz51_0,hfz51_1,hfz51_2⟩ := impl_AddWide.cells3 BK346.out))) | (simp only [bits_Sub64.run a0_1 a1_1 t359 t360 t361 A42.out];(iterate 4 (try (rw [drewN_self w49];generalize hq_ : World.drewN w49 _ = w49;have n0_ : Aside0 (w49.heap[gb345]? = some (.cells #[.bool a0_0,.int .u64 a0_1,.int .u64 a0_2] 28 (0,0))) := ⟨Z386⟩;have n1_ : Aside0 (w49.heap[gb346]? = some (.cells #[.bool a1_0,.int .u64 a1_1,.int .u64 a1_2] 28 (0,0))) := ⟨Z385⟩;have n2_ : Aside0 (w49.heap[gb347]? = some (.cells #[.bool false,.int .u64 0,.int .u64 0] 28 (0,0))) := ⟨Z384⟩;have n3_ : Aside0 (Below w.heap.size w w49) := ⟨Z182⟩;clear BK345 BK346 BK347 HB hq_;have BK345 := n0_;have BK346 := n1_;have BK347 := n2_;have HB := n3_;clear n0_ n1_ n2_ n3_)));(try (obtain ⟨hcz50_0,hcz50_1,hcz50_2,hfz50_0,hfz50_1,hfz50_2⟩ := impl_AddWide.cells3 BK345.out));(try (obtain ⟨hcz51_0,hcz51_1,hcz51_2,hfz51_0,hfz51_1,hfz51_2⟩ := impl_AddWide.cells3 BK346.out))) | ((with_reducible refine gate_callee (f := 71) rfl ?_);refine goesL_ (some 56) rfl rfl Try.func71 Z569 rfl #[.bool a0_0,.int .u64 t360,.int .u64 t358] rfl Z375 ?_;(with_reducible refine (impl_wideOf.calls a0_0 t360 t358 t362 t363 t364 _ A43.out).mono ?_);rintro e w52 ⟨rfl,hb⟩;refine ⟨_,rfl,?_⟩;have n_ := jA (blk_below (g := gb345) (o := .cells #[.bool a0_0,.int .u64 a0_1,.int .u64 a0_2] 28 (0,0)) Z495 hb) (jA (blk_below (g := gb346) (o := .cells #[.bool a1_0,.int .u64 a1_1,.int .u64 a1_2] 28 (0,0)) Z499 hb) (jA (blk_below (g := gb347) (o := .cells #[.bool false,.int .u64 0,.int .u64 0] 28 (0,0)) Z502 hb) (Aside0.mk (below_step Z418 hb))));clear BK345 BK346 BK347 HB;obtain ⟨BK345,BK346,BK347,HB⟩ := n_;(try clear hb);(try clear hb2);(try clear hk);(try clear hi);obtain ⟨hcz53_0,hcz53_1,hcz53_2,hfz53_0,hfz53_1,hfz53_2⟩ := impl_AddWide.cells3 BK347.out))
            refine bodyPost_ret (results_ct rfl _ _ gb347 28 #[.bool t362,.int .u64 t363,.int .u64 t364] (0,0) _ rfl (by (with_reducible repeat (first | refine bA ?_ _ | refine bB ?_ | refine bC ?_ _));refine blk_put (cs := #[.bool t362,.int .u64 t363,.int .u64 0]) ?_ 2 _ rfl;(with_reducible repeat (first | refine bA ?_ _ | refine bB ?_ | refine bC ?_ _));refine blk_put (cs := #[.bool t362,.int .u64 0,.int .u64 0]) ?_ 1 _ rfl;(with_reducible repeat (first | refine bA ?_ _ | refine bB ?_ | refine bC ?_ _));refine blk_put (cs := #[.bool false,.int .u64 0,.int .u64 0]) ?_ 0 _ rfl;(with_reducible repeat (first | refine bA ?_ _ | refine bB ?_ | refine bC ?_ _));exact BK347.out) Try.underlying28 rfl Z569) rfl ?_
            exact ⟨Z558,Z418⟩
        · rw [if_neg c25] at H
          have c25b0 : (a0_0 != a1_0) = false := by simpa using c25
          (try (have c25b1 : decide (a0_0 = a1_0) = true := by simpa using c25))
          (try (have c25b2 : (a0_0 == a1_0) = true := by simpa using c25))
          clear c25
          obtain ⟨⟨t365,t366⟩,A540,H⟩ := Option.bind_eq_some_iff.mp H
          try dsimp only at H
          have A54 := Aside0.mk A540
          clear A540
          obtain ⟨⟨t367,t368⟩,A550,H⟩ := Option.bind_eq_some_iff.mp H
          try dsimp only at H
          have A55 := Aside0.mk A550
          clear A550
          obtain ⟨⟨t369,t370,t371⟩,A560,H⟩ := Option.bind_eq_some_iff.mp H
          try dsimp only at H
          have A56 := Aside0.mk A560
          clear A560
          obtain ⟨t373,A570,H⟩ := Option.bind_eq_some_iff.mp H
          have A57 := Aside0.mk A570
          clear A570
          by_cases c58 : t373 = true
          · subst c58
            have H1 : (some (t369,t370,t371,true)) = some (r1,r2,r3,r4) := by rw [if_pos rfl] at H;exact H
            clear H
            have H := H1
            clear H1
            simp only [Option.some.injEq,Prod.mk.injEq] at H
            obtain ⟨rfl,rfl,rfl,rfl⟩ := H
            have hnb59 := NB345_346.out
            have hnc59 := NB346_345.out
            have hnb60 := NB345_347.out
            have hnc60 := NB347_345.out
            obtain ⟨hcz61_0,hcz61_1,hcz61_2,hfz61_0,hfz61_1,hfz61_2⟩ := impl_AddWide.cells3 BK345.out
            have hnb62 := NB346_347.out
            have hnc62 := NB347_346.out
            obtain ⟨hcz63_0,hcz63_1,hcz63_2,hfz63_0,hfz63_1,hfz63_2⟩ := impl_AddWide.cells3 BK346.out
            go_wp2_with (first | (simp only [bits_Add64.run a0_2 a1_2 0 t365 t366 A54.out];(iterate 4 (try (rw [drewN_self wc];generalize hq_ : World.drewN wc _ = wc;have n0_ : Aside0 (wc.heap[gb345]? = some (.cells #[.bool a0_0,.int .u64 a0_1,.int .u64 a0_2] 28 (0,0))) := ⟨Z386⟩;have n1_ : Aside0 (wc.heap[gb346]? = some (.cells #[.bool a1_0,.int .u64 a1_1,.int .u64 a1_2] 28 (0,0))) := ⟨Z385⟩;have n2_ : Aside0 (wc.heap[gb347]? = some (.cells #[.bool false,.int .u64 0,.int .u64 0] 28 (0,0))) := ⟨Z384⟩;have n3_ : Aside0 (Below w.heap.size w wc) := ⟨Z182⟩;clear BK345 BK346 BK347 HB hq_;have BK345 := n0_;have BK346 := n1_;have BK347 := n2_;have HB := n3_;clear n0_ n1_ n2_ n3_)));(try (obtain ⟨hcz61_0,hcz61_1,hcz61_2,hfz61_0,hfz61_1,hfz61_2⟩ := impl_AddWide.cells3 BK345.out));(try (obtain ⟨hcz63_0,hcz63_1,hcz63_2,hfz63_0,hfz63_1,hfz63_2⟩ := impl_AddWide.cells3 BK346.out))) | (simp only [bits_Add64.run a0_1 a1_1 t366 t367 t368 A55.out];(iterate 4 (try (rw [drewN_self wc];generalize hq_ : World.drewN wc _ = wc;have n0_ : Aside0 (wc.heap[gb345]? = some (.cells #[.bool a0_0,.int .u64 a0_1,.int .u64 a0_2] 28 (0,0))) := ⟨Z386⟩;have n1_ : Aside0 (wc.heap[gb346]? = some (.cells #[.bool a1_0,.int .u64 a1_1,.int .u64 a1_2] 28 (0,0))) := ⟨Z385⟩;have n2_ : Aside0 (wc.heap[gb347]? = some (.cells #[.bool false,.int .u64 0,.int .u64 0] 28 (0,0))) := ⟨Z384⟩;have n3_ : Aside0 (Below w.heap.size w wc) := ⟨Z182⟩;clear BK345 BK346 BK347 HB hq_;have BK345 := n0_;have BK346 := n1_;have BK347 := n2_;have HB := n3_;clear n0_ n1_ n2_ n3_)));(try (obtain ⟨hcz61_0,hcz61_1,hcz61_2,hfz61_0,hfz61_1,hfz61_2⟩ := impl_AddWide.cells3 BK345.out));(try (obtain ⟨hcz63_0,hcz63_1,hcz63_2,hfz63_0,hfz63_1,hfz63_2⟩ := impl_AddWide.cells3 BK346.out))) | ((with_reducible refine gate_callee (f := 71) rfl ?_);refine goesL_ (some 78) rfl rfl Try.func71 Z569 rfl #[.bool a0_0,.int .u64 t367,.int .u64 t365] rfl Z375 ?_;(with_reducible refine (impl_wideOf.calls a0_0 t367 t365 t369 t370 t371 _ A56.out).mono ?_);rintro e w64 ⟨rfl,hb⟩;refine ⟨_,rfl,?_⟩;have n_ := jA (blk_below (g := gb345) (o := .cells #[.bool a0_0,.int .u64 a0_1,.int .u64 a0_2] 28 (0,0)) Z495 hb) (jA (blk_below (g := gb346) (o := .cells #[.bool a1_0,.int .u64 a1_1,.int .u64 a1_2] 28 (0,0)) Z499 hb) (jA (blk_below (g := gb347) (o := .cells #[.bool false,.int .u64 0,.int .u64 0] 28 (0,0)) Z502 hb) (Aside0.mk (below_step Z418 hb))));clear BK345 BK346 BK347 HB;obtain ⟨BK345,BK346,BK347,HB⟩ := n_;(try clear hb);(try clear hb2);(try clear hk);(try clear hi)) | ((with_reducible refine gate_dst (N := 14) rfl ?_);refine box_event ?hg (N := 14) ?hd (cs := #[.bool false,.int .u64 0,.int .u64 0]) (t := 28) ?hr ?_;(case hd => rfl);(case hg => rfl);(case hr => exact Z566);intro gb372 hg w65 hbox hb;have n_ := jA (blk_below (g := gb345) (o := .cells #[.bool a0_0,.int .u64 a0_1,.int .u64 a0_2] 28 (0,0)) Z495 hb) (jA (blk_below (g := gb346) (o := .cells #[.bool a1_0,.int .u64 a1_1,.int .u64 a1_2] 28 (0,0)) Z499 hb) (jA (blk_below (g := gb347) (o := .cells #[.bool false,.int .u64 0,.int .u64 0] 28 (0,0)) Z502 hb) (jA (below_step Z418 hb) (jA (hbox) (jA ((Z175 : w.heap.size ≤ gb372)) (jA ((Z175 : w.heap.size ≤ gb372)) (jA ((Z267 : gb345 ≠ gb372)) (jA ((Z269 : gb372 ≠ gb345)) (jA ((Z271 : gb346 ≠ gb372)) (jA ((Z274 : gb372 ≠ gb346)) (jA ((Z304 : gb347 ≠ gb372)) (Aside0.mk ((Z307 : gb372 ≠ gb347))))))))))))));clear BK345 BK346 BK347 HB;obtain ⟨BK345,BK346,BK347,HB,BK372,GW372,GE372,NB345_372,NB372_345,NB346_372,NB372_346,NB347_372,NB372_347⟩ := n_;clear hb hbox hg;have hnb66 := NB372_345.out;have hnc66 := NB345_372.out;have hnb67 := NB372_346.out;have hnc67 := NB346_372.out;have hnb68 := NB372_347.out;have hnc68 := NB347_372.out;obtain ⟨hcz69_0,hcz69_1,hcz69_2,hfz69_0,hfz69_1,hfz69_2⟩ := impl_AddWide.cells3 BK372.out) | ((with_reducible refine gate_callee (f := 31) rfl ?_);refine goesL_ (some 80) rfl rfl Try.func31 Z569 rfl #[.agg #[.bool t369,.int .u64 t370,.int .u64 t371]] rfl Z375 ?_;(with_reducible refine (impl_WideOk.calls t369 t370 t371 true _ A57.out).mono ?_);rintro e w70 ⟨rfl,hb⟩;refine ⟨_,rfl,?_⟩;have n_ := jA (blk_below (g := gb345) (o := .cells #[.bool a0_0,.int .u64 a0_1,.int .u64 a0_2] 28 (0,0)) Z96 hb) (jA (blk_below (g := gb346) (o := .cells #[.bool a1_0,.int .u64 a1_1,.int .u64 a1_2] 28 (0,0)) Z95 hb) (jA (blk_below (g := gb347) (o := .cells #[.bool false,.int .u64 0,.int .u64 0] 28 (0,0)) Z94 hb) (jA (blk_below (g := gb372) (o := .cells #[.bool t369,.int .u64 t370,.int .u64 t371] 28 (0,0)) Z49 hb) (Aside0.mk (below_step Z171 hb)))));clear BK345 BK346 BK347 BK372 HB;obtain ⟨BK345,BK346,BK347,BK372,HB⟩ := n_;(try clear hb);(try clear hb2);(try clear hk);(try clear hi);obtain ⟨hcz71_0,hcz71_1,hcz71_2,hfz71_0,hfz71_1,hfz71_2⟩ := impl_AddWide.cells3 BK372.out;obtain ⟨hcz72_0,hcz72_1,hcz72_2,hfz72_0,hfz72_1,hfz72_2⟩ := impl_AddWide.cells3 BK347.out))
            refine bodyPost_ret (results_ct rfl _ _ gb347 28 #[.bool t369,.int .u64 t370,.int .u64 t371] (0,0) _ rfl (by (with_reducible repeat (first | refine bA ?_ _ | refine bB ?_ | refine bC ?_ _));refine blk_put (cs := #[.bool t369,.int .u64 t370,.int .u64 0]) ?_ 2 _ rfl;(with_reducible repeat (first | refine bA ?_ _ | refine bB ?_ | refine bC ?_ _));refine blk_put (cs := #[.bool t369,.int .u64 0,.int .u64 0]) ?_ 1 _ rfl;(with_reducible repeat (first | refine bA ?_ _ | refine bB ?_ | refine bC ?_ _));refine blk_put (cs := #[.bool false,.int .u64 0,.int .u64 0]) ?_ 0 _ rfl;(with_reducible repeat (first | refine bA ?_ _ | refine bB ?_ | refine bC ?_ _));exact BK347.out) Try.underlying28 rfl Z569) rfl ?_
            exact ⟨Z558,Z171⟩
          · replace c58 := Bool.eq_false_iff.mpr c58
            subst c58
            have H1 : (some (false,0,0,false)) = some (r1,r2,r3,r4) := by rw [if_neg (show ¬ (false = true) by decide)] at H;exact H
            clear H
            have H := H1
            clear H1
            simp only [Option.some.injEq,Prod.mk.injEq] at H
            obtain ⟨rfl,rfl,rfl,rfl⟩ := H
            have hnb73 := NB345_346.out
            have hnc73 := NB346_345.out
            have hnb74 := NB345_347.out
            have hnc74 := NB347_345.out
            obtain ⟨hcz75_0,hcz75_1,hcz75_2,hfz75_0,hfz75_1,hfz75_2⟩ := impl_AddWide.cells3 BK345.out
            have hnb76 := NB346_347.out
            have hnc76 := NB347_346.out
            obtain ⟨hcz77_0,hcz77_1,hcz77_2,hfz77_0,hfz77_1,hfz77_2⟩ := impl_AddWide.cells3 BK346.out
            go_wp2_with (first | (simp only [bits_Add64.run a0_2 a1_2 0 t365 t366 A54.out];(iterate 4 (try (rw [drewN_self wc];generalize hq_ : World.drewN wc _ = wc;have n0_ : Aside0 (wc.heap[gb345]? = some (.cells #[.bool a0_0,.int .u64 a0_1,.int .u64 a0_2] 28 (0,0))) := ⟨Z386⟩;have n1_ : Aside0 (wc.heap[gb346]? = some (.cells #[.bool a1_0,.int .u64 a1_1,.int .u64 a1_2] 28 (0,0))) := ⟨Z385⟩;have n2_ : Aside0 (wc.heap[gb347]? = some (.cells #[.bool false,.int .u64 0,.int .u64 0] 28 (0,0))) := ⟨Z384⟩;have n3_ : Aside0 (Below w.heap.size w wc) := ⟨Z182⟩;clear BK345 BK346 BK347 HB hq_;have BK345 := n0_;have BK346 := n1_;have BK347 := n2_;have HB := n3_;clear n0_ n1_ n2_ n3_)));(try (obtain ⟨hcz75_0,hcz75_1,hcz75_2,hfz75_0,hfz75_1,hfz75_2⟩ := impl_AddWide.cells3 BK345.out));(try (obtain ⟨hcz77_0,hcz77_1,hcz77_2,hfz77_0,hfz77_1,hfz77_2⟩ := impl_AddWide.cells3 BK346.out))) | (simp only [bits_Add64.run a0_1 a1_1 t366 t367 t368 A55.out];(iterate 4 (try (rw [drewN_self wc];generalize hq_ : World.drewN wc _ = wc;have n0_ : Aside0 (wc.heap[gb345]? = some (.cells #[.bool a0_0,.int .u64 a0_1,.int .u64 a0_2] 28 (0,0))) := ⟨Z386⟩;have n1_ : Aside0 (wc.heap[gb346]? = some (.cells #[.bool a1_0,.int .u64 a1_1,.int .u64 a1_2] 28 (0,0))) := ⟨Z385⟩;have n2_ : Aside0 (wc.heap[gb347]? = some (.cells #[.bool false,.int .u64 0,.int .u64 0] 28 (0,0))) := ⟨Z384⟩;have n3_ : Aside0 (Below w.heap.size w wc) := ⟨Z182⟩;clear BK345 BK346 BK347 HB hq_;have BK345 := n0_;have BK346 := n1_;have BK347 := n2_;have HB := n3_;clear n0_ n1_ n2_ n3_)));(try (obtain ⟨hcz75_0,hcz75_1,hcz75_2,hfz75_0,hfz75_1,hfz75_2⟩ := impl_AddWide.cells3 BK345.out));(try (obtain ⟨hcz77_0,hcz77_1,hcz77_2,hfz77_0,hfz77_1,hfz77_2⟩ := impl_AddWide.cells3 BK346.out))) | ((with_reducible refine gate_callee (f := 71) rfl ?_);refine goesL_ (some 78) rfl rfl Try.func71 Z569 rfl #[.bool a0_0,.int .u64 t367,.int .u64 t365] rfl Z375 ?_;(with_reducible refine (impl_wideOf.calls a0_0 t367 t365 t369 t370 t371 _ A56.out).mono ?_);rintro e w78 ⟨rfl,hb⟩;refine ⟨_,rfl,?_⟩;have n_ := jA (blk_below (g := gb345) (o := .cells #[.bool a0_0,.int .u64 a0_1,.int .u64 a0_2] 28 (0,0)) Z495 hb) (jA (blk_below (g := gb346) (o := .cells #[.bool a1_0,.int .u64 a1_1,.int .u64 a1_2] 28 (0,0)) Z499 hb) (jA (blk_below (g := gb347) (o := .cells #[.bool false,.int .u64 0,.int .u64 0] 28 (0,0)) Z502 hb) (Aside0.mk (below_step Z418 hb))));clear BK345 BK346 BK347 HB;obtain ⟨BK345,BK346,BK347,HB⟩ := n_;(try clear hb);(try clear hb2);(try clear hk);(try clear hi)) | ((with_reducible refine gate_dst (N := 14) rfl ?_);refine box_event ?hg (N := 14) ?hd (cs := #[.bool false,.int .u64 0,.int .u64 0]) (t := 28) ?hr ?_;(case hd => rfl);(case hg => rfl);(case hr => exact Z566);intro gb372 hg w79 hbox hb;have n_ := jA (blk_below (g := gb345) (o := .cells #[.bool a0_0,.int .u64 a0_1,.int .u64 a0_2] 28 (0,0)) Z495 hb) (jA (blk_below (g := gb346) (o := .cells #[.bool a1_0,.int .u64 a1_1,.int .u64 a1_2] 28 (0,0)) Z499 hb) (jA (blk_below (g := gb347) (o := .cells #[.bool false,.int .u64 0,.int .u64 0] 28 (0,0)) Z502 hb) (jA (below_step Z418 hb) (jA (hbox) (jA ((Z175 : w.heap.size ≤ gb372)) (jA ((Z175 : w.heap.size ≤ gb372)) (jA ((Z267 : gb345 ≠ gb372)) (jA ((Z269 : gb372 ≠ gb345)) (jA ((Z271 : gb346 ≠ gb372)) (jA ((Z274 : gb372 ≠ gb346)) (jA ((Z304 : gb347 ≠ gb372)) (Aside0.mk ((Z307 : gb372 ≠ gb347))))))))))))));clear BK345 BK346 BK347 HB;obtain ⟨BK345,BK346,BK347,HB,BK372,GW372,GE372,NB345_372,NB372_345,NB346_372,NB372_346,NB347_372,NB372_347⟩ := n_;clear hb hbox hg;have hnb80 := NB372_345.out;have hnc80 := NB345_372.out;have hnb81 := NB372_346.out;have hnc81 := NB346_372.out;have hnb82 := NB372_347.out;have hnc82 := NB347_372.out;obtain ⟨hcz83_0,hcz83_1,hcz83_2,hfz83_0,hfz83_1,hfz83_2⟩ := impl_AddWide.cells3 BK372.out) | ((with_reducible refine gate_callee (f := 31) rfl ?_);refine goesL_ (some 80) rfl rfl Try.func31 Z569 rfl #[.agg #[.bool t369,.int .u64 t370,.int .u64 t371]] rfl Z375 ?_;(with_reducible refine (impl_WideOk.calls t369 t370 t371 false _ A57.out).mono ?_);rintro e w84 ⟨rfl,hb⟩;refine ⟨_,rfl,?_⟩;have n_ := jA (blk_below (g := gb345) (o := .cells #[.bool a0_0,.int .u64 a0_1,.int .u64 a0_2] 28 (0,0)) Z96 hb) (jA (blk_below (g := gb346) (o := .cells #[.bool a1_0,.int .u64 a1_1,.int .u64 a1_2] 28 (0,0)) Z95 hb) (jA (blk_below (g := gb347) (o := .cells #[.bool false,.int .u64 0,.int .u64 0] 28 (0,0)) Z94 hb) (jA (blk_below (g := gb372) (o := .cells #[.bool t369,.int .u64 t370,.int .u64 t371] 28 (0,0)) Z49 hb) (Aside0.mk (below_step Z171 hb)))));clear BK345 BK346 BK347 BK372 HB;obtain ⟨BK345,BK346,BK347,BK372,HB⟩ := n_;(try clear hb);(try clear hb2);(try clear hk);(try clear hi);obtain ⟨hcz85_0,hcz85_1,hcz85_2,hfz85_0,hfz85_1,hfz85_2⟩ := impl_AddWide.cells3 BK347.out))
            refine bodyPost_ret (results_ct rfl _ _ gb347 28 #[.bool false,.int .u64 0,.int .u64 0] (0,0) _ rfl Z57 Try.underlying28 rfl Z569) rfl ?_
            exact ⟨Z558,Z171⟩

/-! ### impl_AddFrac: function 26 -/
theorem impl_AddFrac.cells3 {w : World} {g : Nat} {t : TypeId} {a0 a1 a2 : Value} (h : w.heap[g]? = some (.cells #[a0,a1,a2] t (0,0))) : w.cell? ⟨g,0,none⟩ = some a0 ∧ w.cell? ⟨g,1,none⟩ = some a1 ∧ w.cell? ⟨g,2,none⟩ = some a2 ∧ w.frozen? ⟨g,0,none⟩ = false ∧ w.frozen? ⟨g,1,none⟩ = false ∧ w.frozen? ⟨g,2,none⟩ = false := ⟨(blk_cell h 0).trans rfl,(blk_cell h 1).trans rfl,(blk_cell h 2).trans rfl,blk_frozen h 0,blk_frozen h 1,blk_frozen h 2⟩
theorem impl_AddFrac.cells4 {w : World} {g : Nat} {t : TypeId} {a0 a1 a2 a3 : Value} (h : w.heap[g]? = some (.cells #[a0,a1,a2,a3] t (0,0))) : w.cell? ⟨g,0,none⟩ = some a0 ∧ w.cell? ⟨g,1,none⟩ = some a1 ∧ w.cell? ⟨g,2,none⟩ = some a2 ∧ w.cell? ⟨g,3,none⟩ = some a3 ∧ w.frozen? ⟨g,0,none⟩ = false ∧ w.frozen? ⟨g,1,none⟩ = false ∧ w.frozen? ⟨g,2,none⟩ = false ∧ w.frozen? ⟨g,3,none⟩ = false := ⟨(blk_cell h 0).trans rfl,(blk_cell h 1).trans rfl,(blk_cell h 2).trans rfl,(blk_cell h 3).trans rfl,blk_frozen h 0,blk_frozen h 1,blk_frozen h 2,blk_frozen h 3⟩
def impl_AddFrac.f (k : Nat) (a0_0 : Bool) (a0_1 : Int) (a0_2 : Int) (a0_3 : Int) (a1_0 : Bool) (a1_1 : Int) (a1_2 : Int) (a1_3 : Int) : Option (Bool × Int × Int × Int × Bool) := (impl_crossed.f k a0_0 a0_1 a0_2 a0_3 a1_0 a1_1 a1_2 a1_3).bind fun bt377 => (if bt377.2.2.2.2.2.2 = true then ((impl_AddWide.f k bt377.1 bt377.2.1 bt377.2.2.1 bt377.2.2.2.1 bt377.2.2.2.2.1 bt377.2.2.2.2.2.1).bind fun bt386 => (if bt386.2.2.2 = true then ((impl_fracOf.f bt386.1 bt386.2.1 bt386.2.2.1 (wrap64 (a0_3 * a1_3))).bind fun bt391 => (some (bt391.1,bt391.2.1,bt391.2.2.1,bt391.2.2.2.1,bt391.2.2.2.2))) else (some (false,0,0,0,false)))) else (some (false,0,0,0,false)))
theorem impl_AddFrac.mono : ∀ a0 a1 a2 a3 a4 a5 a6 a7 k,LeO (impl_AddFrac.f k a0 a1 a2 a3 a4 a5 a6 a7) (impl_AddFrac.f (k + 1) a0 a1 a2 a3 a4 a5 a6 a7) := by
  intro a0 a1 a2 a3 a4 a5 a6 a7 k
  unfold impl_AddFrac.f
  repeat' first
      | (with_reducible exact impl_AddWide.mono _ _ _ _ _ _ _)
      | (with_reducible exact impl_crossed.mono _ _ _ _ _ _ _ _ _)
      | (with_reducible exact LeO.refl _)
      | (with_reducible exact LeO.none _)
      | (with_reducible refine LeO.ite ?_ ?_)
      | (with_reducible refine LeO.bind ?_ (fun _ => ?_))
      | exact impl_AddWide.mono _ _ _ _ _ _ _
      | exact impl_crossed.mono _ _ _ _ _ _ _ _ _
      | exact LeO.none _
      | refine LeO.ite ?_ ?_
      | refine LeO.bind ?_ (fun _ => ?_)
set_option maxHeartbeats 8000000 in
set_option maxRecDepth 100000 in
theorem impl_AddFrac.calls (k : Nat) (a0_0 : Bool) (a0_1 : Int) (a0_2 : Int) (a0_3 : Int) (a1_0 : Bool) (a1_1 : Int) (a1_2 : Int) (a1_3 : Int) (r1 : Bool) (r2 : Int) (r3 : Int) (r4 : Int) (r5 : Bool) (w : World) (h : impl_AddFrac.f k a0_0 a0_1 a0_2 a0_3 a1_0 a1_1 a1_2 a1_3 = some (r1,r2,r3,r4,r5)) :
    Calls Try.prog 26 #[.agg #[.bool a0_0,.int .u64 a0_1,.int .u64 a0_2,.int .i64 a0_3],.agg #[.bool a1_0,.int .u64 a1_1,.int .u64 a1_2,.int .i64 a1_3]] w fun e w' => e = .returned (.tuple #[.agg #[.bool r1,.int .u64 r2,.int .u64 r3,.int .i64 r4],.bool r5]) ∧ Below w.heap.size w w' := by
  have hu30 := Try.underlying30
  have hu28 := Try.underlying28
  have HB := Aside0.mk (Below.refl w.heap.size w)
  have H : ((impl_crossed.f k a0_0 a0_1 a0_2 a0_3 a1_0 a1_1 a1_2 a1_3).bind fun bt377 => (if bt377.2.2.2.2.2.2 = true then ((impl_AddWide.f k bt377.1 bt377.2.1 bt377.2.2.1 bt377.2.2.2.1 bt377.2.2.2.2.1 bt377.2.2.2.2.2.1).bind fun bt386 => (if bt386.2.2.2 = true then ((impl_fracOf.f bt386.1 bt386.2.1 bt386.2.2.1 (wrap64 (a0_3 * a1_3))).bind fun bt391 => (some (bt391.1,bt391.2.1,bt391.2.2.1,bt391.2.2.2.1,bt391.2.2.2.2))) else (some (false,0,0,0,false)))) else (some (false,0,0,0,false)))) = some (r1,r2,r3,r4,r5) := h
  clear h
  obtain ⟨⟨t377,t378,t379,t380,t381,t382,t383⟩,A30,H⟩ := Option.bind_eq_some_iff.mp H
  try dsimp only at H
  have A3 := Aside0.mk A30
  clear A30
  by_cases c4 : t383 = true
  · subst c4
    have H1 : ((impl_AddWide.f k t377 t378 t379 t380 t381 t382).bind fun bt386 => (if bt386.2.2.2 = true then ((impl_fracOf.f bt386.1 bt386.2.1 bt386.2.2.1 (wrap64 (a0_3 * a1_3))).bind fun bt391 => (some (bt391.1,bt391.2.1,bt391.2.2.1,bt391.2.2.2.1,bt391.2.2.2.2))) else (some (false,0,0,0,false)))) = some (r1,r2,r3,r4,r5) := by rw [if_pos rfl] at H;exact H
    clear H
    have H := H1
    clear H1
    obtain ⟨⟨t386,t387,t388,t389⟩,A50,H⟩ := Option.bind_eq_some_iff.mp H
    try dsimp only at H
    have A5 := Aside0.mk A50
    clear A50
    by_cases c6 : t389 = true
    · subst c6
      have H1 : ((impl_fracOf.f t386 t387 t388 (wrap64 (a0_3 * a1_3))).bind fun bt391 => (some (bt391.1,bt391.2.1,bt391.2.2.1,bt391.2.2.2.1,bt391.2.2.2.2))) = some (r1,r2,r3,r4,r5) := by rw [if_pos rfl] at H;exact H
      clear H
      have H := H1
      clear H1
      obtain ⟨⟨t391,t392,t393,t394,t395⟩,A70,H⟩ := Option.bind_eq_some_iff.mp H
      try dsimp only at H
      have A7 := Aside0.mk A70
      clear A70
      simp only [Option.some.injEq,Prod.mk.injEq] at H
      obtain ⟨rfl,rfl,rfl,rfl,rfl⟩ := H
      go_enter Try.func26,Try.ntmps26
      go_wp2_with (first | ((with_reducible refine gate_dst (N := 2) rfl ?_);refine box_event ?hg (N := 2) ?hd (cs := #[.bool a0_0,.int .u64 a0_1,.int .u64 a0_2,.int .i64 a0_3]) (t := 30) ?hr ?_;(case hd => rfl);(case hg => rfl);(case hr => exact Z566);intro gb374 hg w8 hbox hb;have n_ := jA (below_step Z483 hb) (jA (hbox) (jA ((Z366 : w.heap.size ≤ gb374)) (Aside0.mk ((Z366 : w.heap.size ≤ gb374)))));clear HB;obtain ⟨HB,BK374,GW374,GE374⟩ := n_;clear hb hbox hg) | ((with_reducible refine gate_dst (N := 3) rfl ?_);refine box_event ?hg (N := 3) ?hd (cs := #[.bool a1_0,.int .u64 a1_1,.int .u64 a1_2,.int .i64 a1_3]) (t := 30) ?hr ?_;(case hd => rfl);(case hg => rfl);(case hr => exact Z566);intro gb375 hg w9 hbox hb;have n_ := jA (blk_below (g := gb374) (o := .cells #[.bool a0_0,.int .u64 a0_1,.int .u64 a0_2,.int .i64 a0_3] 30 (0,0)) Z491 hb) (jA (below_step Z461 hb) (jA (hbox) (jA ((Z339 : w.heap.size ≤ gb375)) (jA ((Z339 : w.heap.size ≤ gb375)) (jA ((Z192 : gb374 ≠ gb375)) (Aside0.mk ((Z193 : gb375 ≠ gb374))))))));clear BK374 HB;obtain ⟨BK374,HB,BK375,GW375,GE375,NB374_375,NB375_374⟩ := n_;clear hb hbox hg) | ((with_reducible refine gate_dst (N := 4) rfl ?_);refine box_event ?hg (N := 4) ?hd (cs := #[.bool false,.int .u64 0,.int .u64 0,.int .i64 0]) (t := 30) ?hr ?_;(case hd => rfl);(case hg => rfl);(case hr => exact Z566);intro gb376 hg w10 hbox hb;have n_ := jA (blk_below (g := gb374) (o := .cells #[.bool a0_0,.int .u64 a0_1,.int .u64 a0_2,.int .i64 a0_3] 30 (0,0)) Z491 hb) (jA (blk_below (g := gb375) (o := .cells #[.bool a1_0,.int .u64 a1_1,.int .u64 a1_2,.int .i64 a1_3] 30 (0,0)) Z497 hb) (jA (below_step Z443 hb) (jA (hbox) (jA ((Z229 : w.heap.size ≤ gb376)) (jA ((Z229 : w.heap.size ≤ gb376)) (jA ((Z192 : gb374 ≠ gb376)) (jA ((Z193 : gb376 ≠ gb374)) (jA ((Z194 : gb375 ≠ gb376)) (Aside0.mk ((Z195 : gb376 ≠ gb375)))))))))));clear BK374 BK375 HB;obtain ⟨BK374,BK375,HB,BK376,GW376,GE376,NB374_376,NB376_374,NB375_376,NB376_375⟩ := n_;clear hb hbox hg;have hnb11 := NB374_375.out;have hnc11 := NB375_374.out;have hnb12 := NB374_376.out;have hnc12 := NB376_374.out;obtain ⟨hcz13_0,hcz13_1,hcz13_2,hcz13_3,hfz13_0,hfz13_1,hfz13_2,hfz13_3⟩ := impl_AddFrac.cells4 BK374.out;have hnb14 := NB375_376.out;have hnc14 := NB376_375.out;obtain ⟨hcz15_0,hcz15_1,hcz15_2,hcz15_3,hfz15_0,hfz15_1,hfz15_2,hfz15_3⟩ := impl_AddFrac.cells4 BK375.out) | ((with_reducible refine gate_callee (f := 48) rfl ?_);refine goesL_ (some 13) rfl rfl Try.func48 Z569 rfl #[.agg #[.bool a0_0,.int .u64 a0_1,.int .u64 a0_2,.int .i64 a0_3],.agg #[.bool a1_0,.int .u64 a1_1,.int .u64 a1_2,.int .i64 a1_3]] rfl Z375 ?_;(with_reducible refine (impl_crossed.calls k a0_0 a0_1 a0_2 a0_3 a1_0 a1_1 a1_2 a1_3 t377 t378 t379 t380 t381 t382 true _ A3.out).mono ?_);rintro e w16 ⟨rfl,hb⟩;refine ⟨_,rfl,?_⟩;have n_ := jA (blk_below (g := gb374) (o := .cells #[.bool a0_0,.int .u64 a0_1,.int .u64 a0_2,.int .i64 a0_3] 30 (0,0)) Z491 hb) (jA (blk_below (g := gb375) (o := .cells #[.bool a1_0,.int .u64 a1_1,.int .u64 a1_2,.int .i64 a1_3] 30 (0,0)) Z497 hb) (jA (blk_below (g := gb376) (o := .cells #[.bool false,.int .u64 0,.int .u64 0,.int .i64 0] 30 (0,0)) Z509 hb) (Aside0.mk (below_step Z424 hb))));clear BK374 BK375 BK376 HB;obtain ⟨BK374,BK375,BK376,HB⟩ := n_;(try clear hb);(try clear hb2);(try clear hk);(try clear hi)) | ((with_reducible refine gate_dst (N := 6) rfl ?_);refine box_event ?hg (N := 6) ?hd (cs := #[.bool false,.int .u64 0,.int .u64 0]) (t := 28) ?hr ?_;(case hd => rfl);(case hg => rfl);(case hr => exact Z566);intro gb384 hg w17 hbox hb;have n_ := jA (blk_below (g := gb374) (o := .cells #[.bool a0_0,.int .u64 a0_1,.int .u64 a0_2,.int .i64 a0_3] 30 (0,0)) Z491 hb) (jA (blk_below (g := gb375) (o := .cells #[.bool a1_0,.int .u64 a1_1,.int .u64 a1_2,.int .i64 a1_3] 30 (0,0)) Z497 hb) (jA (blk_below (g := gb376) (o := .cells #[.bool false,.int .u64 0,.int .u64 0,.int .i64 0] 30 (0,0)) Z509 hb) (jA (below_step Z424 hb) (jA (hbox) (jA ((Z169 : w.heap.size ≤ gb384)) (jA ((Z169 : w.heap.size ≤ gb384)) (jA ((Z192 : gb374 ≠ gb384)) (jA ((Z193 : gb384 ≠ gb374)) (jA ((Z194 : gb375 ≠ gb384)) (jA ((Z195 : gb384 ≠ gb375)) (jA ((Z245 : gb376 ≠ gb384)) (Aside0.mk ((Z246 : gb384 ≠ gb376))))))))))))));clear BK374 BK375 BK376 HB;obtain ⟨BK374,BK375,BK376,HB,BK384,GW384,GE384,NB374_384,NB384_374,NB375_384,NB384_375,NB376_384,NB384_376⟩ := n_;clear hb hbox hg) | ((with_reducible refine gate_dst (N := 7) rfl ?_);refine box_event ?hg (N := 7) ?hd (cs := #[.bool false,.int .u64 0,.int .u64 0]) (t := 28) ?hr ?_;(case hd => rfl);(case hg => rfl);(case hr => exact Z566);intro gb385 hg w18 hbox hb;have n_ := jA (blk_below (g := gb374) (o := .cells #[.bool a0_0,.int .u64 a0_1,.int .u64 a0_2,.int .i64 a0_3] 30 (0,0)) Z491 hb) (jA (blk_below (g := gb375) (o := .cells #[.bool a1_0,.int .u64 a1_1,.int .u64 a1_2,.int .i64 a1_3] 30 (0,0)) Z497 hb) (jA (blk_below (g := gb376) (o := .cells #[.bool false,.int .u64 0,.int .u64 0,.int .i64 0] 30 (0,0)) Z509 hb) (jA (blk_below (g := gb384) (o := .cells #[.bool false,.int .u64 0,.int .u64 0] 28 (0,0)) Z520 hb) (jA (below_step Z416 hb) (jA (hbox) (jA ((Z147 : w.heap.size ≤ gb385)) (jA ((Z147 : w.heap.size ≤ gb385)) (jA ((Z192 : gb374 ≠ gb385)) (jA ((Z193 : gb385 ≠ gb374)) (jA ((Z194 : gb375 ≠ gb385)) (jA ((Z195 : gb385 ≠ gb375)) (jA ((Z245 : gb376 ≠ gb385)) (jA ((Z246 : gb385 ≠ gb376)) (jA ((Z301 : gb384 ≠ gb385)) (Aside0.mk ((Z302 : gb385 ≠ gb384)))))))))))))))));clear BK374 BK375 BK376 BK384 HB;obtain ⟨BK374,BK375,BK376,BK384,HB,BK385,GW385,GE385,NB374_385,NB385_374,NB375_385,NB385_375,NB376_385,NB385_376,NB384_385,NB385_384⟩ := n_;clear hb hbox hg;have hnb19 := NB384_374.out;have hnc19 := NB374_384.out;have hnb20 := NB384_375.out;have hnc20 := NB375_384.out;have hnb21 := NB384_376.out;have hnc21 := NB376_384.out;have hnb22 := NB384_385.out;have hnc22 := NB385_384.out;obtain ⟨hcz23_0,hcz23_1,hcz23_2,hfz23_0,hfz23_1,hfz23_2⟩ := impl_AddFrac.cells3 BK384.out;have hnb24 := NB385_374.out;have hnc24 := NB374_385.out;have hnb25 := NB385_375.out;have hnc25 := NB375_385.out;have hnb26 := NB385_376.out;have hnc26 := NB376_385.out;obtain ⟨hcz27_0,hcz27_1,hcz27_2,hfz27_0,hfz27_1,hfz27_2⟩ := impl_AddFrac.cells3 BK385.out) | ((with_reducible refine gate_callee (f := 49) rfl ?_);refine goesL_ (some 23) rfl rfl Try.func49 Z569 rfl #[.agg #[.bool t377,.int .u64 t378,.int .u64 t379],.agg #[.bool t380,.int .u64 t381,.int .u64 t382]] rfl Z375 ?_;(with_reducible refine (impl_AddWide.calls k t377 t378 t379 t380 t381 t382 t386 t387 t388 true _ A5.out).mono ?_);rintro e w28 ⟨rfl,hb⟩;refine ⟨_,rfl,?_⟩;have n_ := jA (blk_below (g := gb374) (o := .cells #[.bool a0_0,.int .u64 a0_1,.int .u64 a0_2,.int .i64 a0_3] 30 (0,0)) Z20 hb) (jA (blk_below (g := gb375) (o := .cells #[.bool a1_0,.int .u64 a1_1,.int .u64 a1_2,.int .i64 a1_3] 30 (0,0)) Z19 hb) (jA (blk_below (g := gb376) (o := .cells #[.bool false,.int .u64 0,.int .u64 0,.int .i64 0] 30 (0,0)) Z18 hb) (jA (blk_below (g := gb384) (o := .cells #[.bool t377,.int .u64 t378,.int .u64 t379] 28 (0,0)) Z9 hb) (jA (blk_below (g := gb385) (o := .cells #[.bool t380,.int .u64 t381,.int .u64 t382] 28 (0,0)) Z6 hb) (Aside0.mk (below_step Z410 hb))))));clear BK374 BK375 BK376 BK384 BK385 HB;obtain ⟨BK374,BK375,BK376,BK384,BK385,HB⟩ := n_;(try clear hb);(try clear hb2);(try clear hk);(try clear hi)) | ((with_reducible refine gate_dst (N := 9) rfl ?_);refine box_event ?hg (N := 9) ?hd (cs := #[.bool false,.int .u64 0,.int .u64 0]) (t := 28) ?hr ?_;(case hd => rfl);(case hg => rfl);(case hr => exact Z566);intro gb390 hg w29 hbox hb;have n_ := jA (blk_below (g := gb374) (o := .cells #[.bool a0_0,.int .u64 a0_1,.int .u64 a0_2,.int .i64 a0_3] 30 (0,0)) Z491 hb) (jA (blk_below (g := gb375) (o := .cells #[.bool a1_0,.int .u64 a1_1,.int .u64 a1_2,.int .i64 a1_3] 30 (0,0)) Z497 hb) (jA (blk_below (g := gb376) (o := .cells #[.bool false,.int .u64 0,.int .u64 0,.int .i64 0] 30 (0,0)) Z509 hb) (jA (blk_below (g := gb384) (o := .cells #[.bool t377,.int .u64 t378,.int .u64 t379] 28 (0,0)) Z520 hb) (jA (blk_below (g := gb385) (o := .cells #[.bool t380,.int .u64 t381,.int .u64 t382] 28 (0,0)) Z539 hb) (jA (below_step Z410 hb) (jA (hbox) (jA ((Z139 : w.heap.size ≤ gb390)) (jA ((Z139 : w.heap.size ≤ gb390)) (jA ((Z192 : gb374 ≠ gb390)) (jA ((Z193 : gb390 ≠ gb374)) (jA ((Z194 : gb375 ≠ gb390)) (jA ((Z195 : gb390 ≠ gb375)) (jA ((Z245 : gb376 ≠ gb390)) (jA ((Z246 : gb390 ≠ gb376)) (jA ((Z278 : gb384 ≠ gb390)) (jA ((Z282 : gb390 ≠ gb384)) (jA ((Z277 : gb385 ≠ gb390)) (Aside0.mk ((Z281 : gb390 ≠ gb385))))))))))))))))))));clear BK374 BK375 BK376 BK384 BK385 HB;obtain ⟨BK374,BK375,BK376,BK384,BK385,HB,BK390,GW390,GE390,NB374_390,NB390_374,NB375_390,NB390_375,NB376_390,NB390_376,NB384_390,NB390_384,NB385_390,NB390_385⟩ := n_;clear hb hbox hg;have hnb30 := NB390_374.out;have hnc30 := NB374_390.out;have hnb31 := NB390_375.out;have hnc31 := NB375_390.out;have hnb32 := NB390_376.out;have hnc32 := NB376_390.out;have hnb33 := NB390_384.out;have hnc33 := NB384_390.out;have hnb34 := NB390_385.out;have hnc34 := NB385_390.out;obtain ⟨hcz35_0,hcz35_1,hcz35_2,hfz35_0,hfz35_1,hfz35_2⟩ := impl_AddFrac.cells3 BK390.out;obtain ⟨hcz36_0,hcz36_1,hcz36_2,hcz36_3,hfz36_0,hfz36_1,hfz36_2,hfz36_3⟩ := impl_AddFrac.cells4 BK374.out;obtain ⟨hcz37_0,hcz37_1,hcz37_2,hcz37_3,hfz37_0,hfz37_1,hfz37_2,hfz37_3⟩ := impl_AddFrac.cells4 BK375.out) | ((with_reducible refine gate_callee (f := 50) rfl ?_);refine goesL_ (some 35) rfl rfl Try.func50 Z569 rfl #[.agg #[.bool t386,.int .u64 t387,.int .u64 t388],.int .i64 (wrap64 (a0_3 * a1_3))] rfl Z375 ?_;(with_reducible refine (impl_fracOf.calls t386 t387 t388 (wrap64 (a0_3 * a1_3)) t391 t392 t393 t394 t395 _ A7.out).mono ?_);rintro e w38 ⟨rfl,hb⟩;refine ⟨_,rfl,?_⟩;have n_ := jA (blk_below (g := gb374) (o := .cells #[.bool a0_0,.int .u64 a0_1,.int .u64 a0_2,.int .i64 a0_3] 30 (0,0)) (by (with_reducible repeat (first | refine bA ?_ _ | refine bB ?_ | refine bC ?_ _));refine blk_far ?_ NB374_390.out _;(with_reducible repeat (first | refine bA ?_ _ | refine bB ?_ | refine bC ?_ _));refine blk_far ?_ NB374_390.out _;(with_reducible repeat (first | refine bA ?_ _ | refine bB ?_ | refine bC ?_ _));refine blk_far ?_ NB374_390.out _;(with_reducible repeat (first | refine bA ?_ _ | refine bB ?_ | refine bC ?_ _));exact BK374.out) hb) (jA (blk_below (g := gb375) (o := .cells #[.bool a1_0,.int .u64 a1_1,.int .u64 a1_2,.int .i64 a1_3] 30 (0,0)) (by (with_reducible repeat (first | refine bA ?_ _ | refine bB ?_ | refine bC ?_ _));refine blk_far ?_ NB375_390.out _;(with_reducible repeat (first | refine bA ?_ _ | refine bB ?_ | refine bC ?_ _));refine blk_far ?_ NB375_390.out _;(with_reducible repeat (first | refine bA ?_ _ | refine bB ?_ | refine bC ?_ _));refine blk_far ?_ NB375_390.out _;(with_reducible repeat (first | refine bA ?_ _ | refine bB ?_ | refine bC ?_ _));exact BK375.out) hb) (jA (blk_below (g := gb376) (o := .cells #[.bool false,.int .u64 0,.int .u64 0,.int .i64 0] 30 (0,0)) (by (with_reducible repeat (first | refine bA ?_ _ | refine bB ?_ | refine bC ?_ _));refine blk_far ?_ NB376_390.out _;(with_reducible repeat (first | refine bA ?_ _ | refine bB ?_ | refine bC ?_ _));refine blk_far ?_ NB376_390.out _;(with_reducible repeat (first | refine bA ?_ _ | refine bB ?_ | refine bC ?_ _));refine blk_far ?_ NB376_390.out _;(with_reducible repeat (first | refine bA ?_ _ | refine bB ?_ | refine bC ?_ _));exact BK376.out) hb) (jA (blk_below (g := gb384) (o := .cells #[.bool t377,.int .u64 t378,.int .u64 t379] 28 (0,0)) (by (with_reducible repeat (first | refine bA ?_ _ | refine bB ?_ | refine bC ?_ _));refine blk_far ?_ NB384_390.out _;(with_reducible repeat (first | refine bA ?_ _ | refine bB ?_ | refine bC ?_ _));refine blk_far ?_ NB384_390.out _;(with_reducible repeat (first | refine bA ?_ _ | refine bB ?_ | refine bC ?_ _));refine blk_far ?_ NB384_390.out _;(with_reducible repeat (first | refine bA ?_ _ | refine bB ?_ | refine bC ?_ _));exact BK384.out) hb) (jA (blk_below (g := gb385) (o := .cells #[.bool t380,.int .u64 t381,.int .u64 t382] 28 (0,0)) (by (with_reducible repeat (first | refine bA ?_ _ | refine bB ?_ | refine bC ?_ _));refine blk_far ?_ NB385_390.out _;(with_reducible repeat (first | refine bA ?_ _ | refine bB ?_ | refine bC ?_ _));refine blk_far ?_ NB385_390.out _;(with_reducible repeat (first | refine bA ?_ _ | refine bB ?_ | refine bC ?_ _));refine blk_far ?_ NB385_390.out _;(with_reducible repeat (first | refine bA ?_ _ | refine bB ?_ | refine bC ?_ _));exact BK385.out) hb) (jA (blk_below (g := gb390) (o := .cells #[.bool t386,.int .u64 t387,.int .u64 t388] 28 (0,0)) (by (with_reducible repeat (first | refine bA ?_ _ | refine bB ?_ | refine bC ?_ _));refine blk_put (cs := #[.bool t386,.int .u64 t387,.int .u64 0]) ?_ 2 _ rfl;(with_reducible repeat (first | refine bA ?_ _ | refine bB ?_ | refine bC ?_ _));refine blk_put (cs := #[.bool t386,.int .u64 0,.int .u64 0]) ?_ 1 _ rfl;(with_reducible repeat (first | refine bA ?_ _ | refine bB ?_ | refine bC ?_ _));refine blk_put (cs := #[.bool false,.int .u64 0,.int .u64 0]) ?_ 0 _ rfl;(with_reducible repeat (first | refine bA ?_ _ | refine bB ?_ | refine bC ?_ _));exact BK390.out) hb) (Aside0.mk (below_step Z144 hb)))))));clear BK374 BK375 BK376 BK384 BK385 BK390 HB;obtain ⟨BK374,BK375,BK376,BK384,BK385,BK390,HB⟩ := n_;(try clear hb);(try clear hb2);(try clear hk);(try clear hi);obtain ⟨hcz39_0,hcz39_1,hcz39_2,hcz39_3,hfz39_0,hfz39_1,hfz39_2,hfz39_3⟩ := impl_AddFrac.cells4 BK376.out))
      refine bodyPost_ret (results_ct rfl _ _ gb376 30 #[.bool t391,.int .u64 t392,.int .u64 t393,.int .i64 t394] (0,0) _ rfl (by (with_reducible repeat (first | refine bA ?_ _ | refine bB ?_ | refine bC ?_ _));refine blk_put (cs := #[.bool t391,.int .u64 t392,.int .u64 t393,.int .i64 0]) ?_ 3 _ rfl;(with_reducible repeat (first | refine bA ?_ _ | refine bB ?_ | refine bC ?_ _));refine blk_put (cs := #[.bool t391,.int .u64 t392,.int .u64 0,.int .i64 0]) ?_ 2 _ rfl;(with_reducible repeat (first | refine bA ?_ _ | refine bB ?_ | refine bC ?_ _));refine blk_put (cs := #[.bool t391,.int .u64 0,.int .u64 0,.int .i64 0]) ?_ 1 _ rfl;(with_reducible repeat (first | refine bA ?_ _ | refine bB ?_ | refine bC ?_ _));refine blk_put (cs := #[.bool false,.int .u64 0,.int .u64 0,.int .i64 0]) ?_ 0 _ rfl;(with_reducible repeat (first | refine bA ?_ _ | refine bB ?_ | refine bC ?_ _));exact BK376.out) Try.underlying30 rfl Z569) rfl ?_
      exact ⟨Z558,Z144⟩
    · replace c6 := Bool.eq_false_iff.mpr c6
      subst c6
      have H1 : (some (false,0,0,0,false)) = some (r1,r2,r3,r4,r5) := by rw [if_neg (show ¬ (false = true) by decide)] at H;exact H
      clear H
      have H := H1
      clear H1
      simp only [Option.some.injEq,Prod.mk.injEq] at H
      obtain ⟨rfl,rfl,rfl,rfl,rfl⟩ := H
      go_enter Try.func26,Try.ntmps26
      go_wp2_with (first | ((with_reducible refine gate_dst (N := 2) rfl ?_);refine box_event ?hg (N := 2) ?hd (cs := #[.bool a0_0,.int .u64 a0_1,.int .u64 a0_2,.int .i64 a0_3]) (t := 30) ?hr ?_;(case hd => rfl);(case hg => rfl);(case hr => exact Z566);intro gb374 hg w40 hbox hb;have n_ := jA (below_step Z483 hb) (jA (hbox) (jA ((Z366 : w.heap.size ≤ gb374)) (Aside0.mk ((Z366 : w.heap.size ≤ gb374)))));clear HB;obtain ⟨HB,BK374,GW374,GE374⟩ := n_;clear hb hbox hg) | ((with_reducible refine gate_dst (N := 3) rfl ?_);refine box_event ?hg (N := 3) ?hd (cs := #[.bool a1_0,.int .u64 a1_1,.int .u64 a1_2,.int .i64 a1_3]) (t := 30) ?hr ?_;(case hd => rfl);(case hg => rfl);(case hr => exact Z566);intro gb375 hg w41 hbox hb;have n_ := jA (blk_below (g := gb374) (o := .cells #[.bool a0_0,.int .u64 a0_1,.int .u64 a0_2,.int .i64 a0_3] 30 (0,0)) Z491 hb) (jA (below_step Z461 hb) (jA (hbox) (jA ((Z339 : w.heap.size ≤ gb375)) (jA ((Z339 : w.heap.size ≤ gb375)) (jA ((Z192 : gb374 ≠ gb375)) (Aside0.mk ((Z193 : gb375 ≠ gb374))))))));clear BK374 HB;obtain ⟨BK374,HB,BK375,GW375,GE375,NB374_375,NB375_374⟩ := n_;clear hb hbox hg) | ((with_reducible refine gate_dst (N := 4) rfl ?_);refine box_event ?hg (N := 4) ?hd (cs := #[.bool false,.int .u64 0,.int .u64 0,.int .i64 0]) (t := 30) ?hr ?_;(case hd => rfl);(case hg => rfl);(case hr => exact Z566);intro gb376 hg w42 hbox hb;have n_ := jA (blk_below (g := gb374) (o := .cells #[.bool a0_0,.int .u64 a0_1,.int .u64 a0_2,.int .i64 a0_3] 30 (0,0)) Z491 hb) (jA (blk_below (g := gb375) (o := .cells #[.bool a1_0,.int .u64 a1_1,.int .u64 a1_2,.int .i64 a1_3] 30 (0,0)) Z497 hb) (jA (below_step Z443 hb) (jA (hbox) (jA ((Z229 : w.heap.size ≤ gb376)) (jA ((Z229 : w.heap.size ≤ gb376)) (jA ((Z192 : gb374 ≠ gb376)) (jA ((Z193 : gb376 ≠ gb374)) (jA ((Z194 : gb375 ≠ gb376)) (Aside0.mk ((Z195 : gb376 ≠ gb375)))))))))));clear BK374 BK375 HB;obtain ⟨BK374,BK375,HB,BK376,GW376,GE376,NB374_376,NB376_374,NB375_376,NB376_375⟩ := n_;clear hb hbox hg;have hnb43 := NB374_375.out;have hnc43 := NB375_374.out;have hnb44 := NB374_376.out;have hnc44 := NB376_374.out;obtain ⟨hcz45_0,hcz45_1,hcz45_2,hcz45_3,hfz45_0,hfz45_1,hfz45_2,hfz45_3⟩ := impl_AddFrac.cells4 BK374.out;have hnb46 := NB375_376.out;have hnc46 := NB376_375.out;obtain ⟨hcz47_0,hcz47_1,hcz47_2,hcz47_3,hfz47_0,hfz47_1,hfz47_2,hfz47_3⟩ := impl_AddFrac.cells4 BK375.out) | ((with_reducible refine gate_callee (f := 48) rfl ?_);refine goesL_ (some 13) rfl rfl Try.func48 Z569 rfl #[.agg #[.bool a0_0,.int .u64 a0_1,.int .u64 a0_2,.int .i64 a0_3],.agg #[.bool a1_0,.int .u64 a1_1,.int .u64 a1_2,.int .i64 a1_3]] rfl Z375 ?_;(with_reducible refine (impl_crossed.calls k a0_0 a0_1 a0_2 a0_3 a1_0 a1_1 a1_2 a1_3 t377 t378 t379 t380 t381 t382 true _ A3.out).mono ?_);rintro e w48 ⟨rfl,hb⟩;refine ⟨_,rfl,?_⟩;have n_ := jA (blk_below (g := gb374) (o := .cells #[.bool a0_0,.int .u64 a0_1,.int .u64 a0_2,.int .i64 a0_3] 30 (0,0)) Z491 hb) (jA (blk_below (g := gb375) (o := .cells #[.bool a1_0,.int .u64 a1_1,.int .u64 a1_2,.int .i64 a1_3] 30 (0,0)) Z497 hb) (jA (blk_below (g := gb376) (o := .cells #[.bool false,.int .u64 0,.int .u64 0,.int .i64 0] 30 (0,0)) Z509 hb) (Aside0.mk (below_step Z424 hb))));clear BK374 BK375 BK376 HB;obtain ⟨BK374,BK375,BK376,HB⟩ := n_;(try clear hb);(try clear hb2);(try clear hk);(try clear hi)) | ((with_reducible refine gate_dst (N := 6) rfl ?_);refine box_event ?hg (N := 6) ?hd (cs := #[.bool false,.int .u64 0,.int .u64 0]) (t := 28) ?hr ?_;(case hd => rfl);(case hg => rfl);(case hr => exact Z566);intro gb384 hg w49 hbox hb;have n_ := jA (blk_below (g := gb374) (o := .cells #[.bool a0_0,.int .u64 a0_1,.int .u64 a0_2,.int .i64 a0_3] 30 (0,0)) Z491 hb) (jA (blk_below (g := gb375) (o := .cells #[.bool a1_0,.int .u64 a1_1,.int .u64 a1_2,.int .i64 a1_3] 30 (0,0)) Z497 hb) (jA (blk_below (g := gb376) (o := .cells #[.bool false,.int .u64 0,.int .u64 0,.int .i64 0] 30 (0,0)) Z509 hb) (jA (below_step Z424 hb) (jA (hbox) (jA ((Z169 : w.heap.size ≤ gb384)) (jA ((Z169 : w.heap.size ≤ gb384)) (jA ((Z192 : gb374 ≠ gb384)) (jA ((Z193 : gb384 ≠ gb374)) (jA ((Z194 : gb375 ≠ gb384)) (jA ((Z195 : gb384 ≠ gb375)) (jA ((Z245 : gb376 ≠ gb384)) (Aside0.mk ((Z246 : gb384 ≠ gb376))))))))))))));clear BK374 BK375 BK376 HB;obtain ⟨BK374,BK375,BK376,HB,BK384,GW384,GE384,NB374_384,NB384_374,NB375_384,NB384_375,NB376_384,NB384_376⟩ := n_;clear hb hbox hg) | ((with_reducible refine gate_dst (N := 7) rfl ?_);refine box_event ?hg (N := 7) ?hd (cs := #[.bool false,.int .u64 0,.int .u64 0]) (t := 28) ?hr ?_;(case hd => rfl);(case hg => rfl);(case hr => exact Z566);intro gb385 hg w50 hbox hb;have n_ := jA (blk_below (g := gb374) (o := .cells #[.bool a0_0,.int .u64 a0_1,.int .u64 a0_2,.int .i64 a0_3] 30 (0,0)) Z491 hb) (jA (blk_below (g := gb375) (o := .cells #[.bool a1_0,.int .u64 a1_1,.int .u64 a1_2,.int .i64 a1_3] 30 (0,0)) Z497 hb) (jA (blk_below (g := gb376) (o := .cells #[.bool false,.int .u64 0,.int .u64 0,.int .i64 0] 30 (0,0)) Z509 hb) (jA (blk_below (g := gb384) (o := .cells #[.bool false,.int .u64 0,.int .u64 0] 28 (0,0)) Z520 hb) (jA (below_step Z416 hb) (jA (hbox) (jA ((Z147 : w.heap.size ≤ gb385)) (jA ((Z147 : w.heap.size ≤ gb385)) (jA ((Z192 : gb374 ≠ gb385)) (jA ((Z193 : gb385 ≠ gb374)) (jA ((Z194 : gb375 ≠ gb385)) (jA ((Z195 : gb385 ≠ gb375)) (jA ((Z245 : gb376 ≠ gb385)) (jA ((Z246 : gb385 ≠ gb376)) (jA ((Z301 : gb384 ≠ gb385)) (Aside0.mk ((Z302 : gb385 ≠ gb384)))))))))))))))));clear BK374 BK375 BK376 BK384 HB;obtain ⟨BK374,BK375,BK376,BK384,HB,BK385,GW385,GE385,NB374_385,NB385_374,NB375_385,NB385_375,NB376_385,NB385_376,NB384_385,NB385_384⟩ := n_;clear hb hbox hg;have hnb51 := NB384_374.out;have hnc51 := NB374_384.out;have hnb52 := NB384_375.out;have hnc52 := NB375_384.out;have hnb53 := NB384_376.out;have hnc53 := NB376_384.out;have hnb54 := NB384_385.out;have hnc54 := NB385_384.out;obtain ⟨hcz55_0,hcz55_1,hcz55_2,hfz55_0,hfz55_1,hfz55_2⟩ := impl_AddFrac.cells3 BK384.out;have hnb56 := NB385_374.out;have hnc56 := NB374_385.out;have hnb57 := NB385_375.out;have hnc57 := NB375_385.out;have hnb58 := NB385_376.out;have hnc58 := NB376_385.out;obtain ⟨hcz59_0,hcz59_1,hcz59_2,hfz59_0,hfz59_1,hfz59_2⟩ := impl_AddFrac.cells3 BK385.out) | ((with_reducible refine gate_callee (f := 49) rfl ?_);refine goesL_ (some 23) rfl rfl Try.func49 Z569 rfl #[.agg #[.bool t377,.int .u64 t378,.int .u64 t379],.agg #[.bool t380,.int .u64 t381,.int .u64 t382]] rfl Z375 ?_;(with_reducible refine (impl_AddWide.calls k t377 t378 t379 t380 t381 t382 t386 t387 t388 false _ A5.out).mono ?_);rintro e w60 ⟨rfl,hb⟩;refine ⟨_,rfl,?_⟩;have n_ := jA (blk_below (g := gb374) (o := .cells #[.bool a0_0,.int .u64 a0_1,.int .u64 a0_2,.int .i64 a0_3] 30 (0,0)) Z20 hb) (jA (blk_below (g := gb375) (o := .cells #[.bool a1_0,.int .u64 a1_1,.int .u64 a1_2,.int .i64 a1_3] 30 (0,0)) Z19 hb) (jA (blk_below (g := gb376) (o := .cells #[.bool false,.int .u64 0,.int .u64 0,.int .i64 0] 30 (0,0)) Z18 hb) (jA (blk_below (g := gb384) (o := .cells #[.bool t377,.int .u64 t378,.int .u64 t379] 28 (0,0)) Z9 hb) (jA (blk_below (g := gb385) (o := .cells #[.bool t380,.int .u64 t381,.int .u64 t382] 28 (0,0)) Z6 hb) (Aside0.mk (below_step Z410 hb))))));clear BK374 BK375 BK376 BK384 BK385 HB;obtain ⟨BK374,BK375,BK376,BK384,BK385,HB⟩ := n_;(try clear hb);(try clear hb2);(try clear hk);(try clear hi)) | ((with_reducible refine gate_dst (N := 9) rfl ?_);refine box_event ?hg (N := 9) ?hd (cs := #[.bool false,.int .u64 0,.int .u64 0]) (t := 28) ?hr ?_;(case hd => rfl);(case hg => rfl);(case hr => exact Z566);intro gb390 hg w61 hbox hb;have n_ := jA (blk_below (g := gb374) (o := .cells #[.bool a0_0,.int .u64 a0_1,.int .u64 a0_2,.int .i64 a0_3] 30 (0,0)) Z491 hb) (jA (blk_below (g := gb375) (o := .cells #[.bool a1_0,.int .u64 a1_1,.int .u64 a1_2,.int .i64 a1_3] 30 (0,0)) Z497 hb) (jA (blk_below (g := gb376) (o := .cells #[.bool false,.int .u64 0,.int .u64 0,.int .i64 0] 30 (0,0)) Z509 hb) (jA (blk_below (g := gb384) (o := .cells #[.bool t377,.int .u64 t378,.int .u64 t379] 28 (0,0)) Z520 hb) (jA (blk_below (g := gb385) (o := .cells #[.bool t380,.int .u64 t381,.int .u64 t382] 28 (0,0)) Z539 hb) (jA (below_step Z410 hb) (jA (hbox) (jA ((Z139 : w.heap.size ≤ gb390)) (jA ((Z139 : w.heap.size ≤ gb390)) (jA ((Z192 : gb374 ≠ gb390)) (jA ((Z193 : gb390 ≠ gb374)) (jA ((Z194 : gb375 ≠ gb390)) (jA ((Z195 : gb390 ≠ gb375)) (jA ((Z245 : gb376 ≠ gb390)) (jA ((Z246 : gb390 ≠ gb376)) (jA ((Z278 : gb384 ≠ gb390)) (jA ((Z282 : gb390 ≠ gb384)) (jA ((Z277 : gb385 ≠ gb390)) (Aside0.mk ((Z281 : gb390 ≠ gb385))))))))))))))))))));clear BK374 BK375 BK376 BK384 BK385 HB;obtain ⟨BK374,BK375,BK376,BK384,BK385,HB,BK390,GW390,GE390,NB374_390,NB390_374,NB375_390,NB390_375,NB376_390,NB390_376,NB384_390,NB390_384,NB385_390,NB390_385⟩ := n_;clear hb hbox hg;have hnb62 := NB390_374.out;have hnc62 := NB374_390.out;have hnb63 := NB390_375.out;have hnc63 := NB375_390.out;have hnb64 := NB390_376.out;have hnc64 := NB376_390.out;have hnb65 := NB390_384.out;have hnc65 := NB384_390.out;have hnb66 := NB390_385.out;have hnc66 := NB385_390.out;obtain ⟨hcz67_0,hcz67_1,hcz67_2,hfz67_0,hfz67_1,hfz67_2⟩ := impl_AddFrac.cells3 BK390.out;obtain ⟨hcz68_0,hcz68_1,hcz68_2,hcz68_3,hfz68_0,hfz68_1,hfz68_2,hfz68_3⟩ := impl_AddFrac.cells4 BK376.out))
      refine bodyPost_ret (results_ct rfl _ _ gb376 30 #[.bool false,.int .u64 0,.int .u64 0,.int .i64 0] (0,0) _ rfl (by (with_reducible repeat (first | refine bA ?_ _ | refine bB ?_ | refine bC ?_ _));refine blk_put (cs := #[.bool false,.int .u64 0,.int .u64 0,.int .i64 0]) ?_ 3 _ rfl;(with_reducible repeat (first | refine bA ?_ _ | refine bB ?_ | refine bC ?_ _));refine blk_put (cs := #[.bool false,.int .u64 0,.int .u64 0,.int .i64 0]) ?_ 2 _ rfl;(with_reducible repeat (first | refine bA ?_ _ | refine bB ?_ | refine bC ?_ _));refine blk_put (cs := #[.bool false,.int .u64 0,.int .u64 0,.int .i64 0]) ?_ 1 _ rfl;(with_reducible repeat (first | refine bA ?_ _ | refine bB ?_ | refine bC ?_ _));refine blk_put (cs := #[.bool false,.int .u64 0,.int .u64 0,.int .i64 0]) ?_ 0 _ rfl;(with_reducible repeat (first | refine bA ?_ _ | refine bB ?_ | refine bC ?_ _));refine blk_far ?_ NB376_390.out _;(with_reducible repeat (first | refine bA ?_ _ | refine bB ?_ | refine bC ?_ _));refine blk_far ?_ NB376_390.out _;(with_reducible repeat (first | refine bA ?_ _ | refine bB ?_ | refine bC ?_ _));refine blk_far ?_ NB376_390.out _;(with_reducible repeat (first | refine bA ?_ _ | refine bB ?_ | refine bC ?_ _));exact BK376.out) Try.underlying30 rfl Z569) rfl ?_
      exact ⟨Z558,Z144⟩
  · replace c4 := Bool.eq_false_iff.mpr c4
    subst c4
    have H1 : (some (false,0,0,0,false)) = some (r1,r2,r3,r4,r5) := by rw [if_neg (show ¬ (false = true) by decide)] at H;exact H
    clear H
    have H := H1
    clear H1
    simp only [Option.some.injEq,Prod.mk.injEq] at H
    obtain ⟨rfl,rfl,rfl,rfl,rfl⟩ := H
    go_enter Try.func26,Try.ntmps26
    go_wp2_with (first | ((with_reducible refine gate_dst (N := 2) rfl ?_);refine box_event ?hg (N := 2) ?hd (cs := #[.bool a0_0,.int .u64 a0_1,.int .u64 a0_2,.int .i64 a0_3]) (t := 30) ?hr ?_;(case hd => rfl);(case hg => rfl);(case hr => exact Z566);intro gb374 hg w69 hbox hb;have n_ := jA (below_step Z483 hb) (jA (hbox) (jA ((Z366 : w.heap.size ≤ gb374)) (Aside0.mk ((Z366 : w.heap.size ≤ gb374)))));clear HB;obtain ⟨HB,BK374,GW374,GE374⟩ := n_;clear hb hbox hg) | ((with_reducible refine gate_dst (N := 3) rfl ?_);refine box_event ?hg (N := 3) ?hd (cs := #[.bool a1_0,.int .u64 a1_1,.int .u64 a1_2,.int .i64 a1_3]) (t := 30) ?hr ?_;(case hd => rfl);(case hg => rfl);(case hr => exact Z566);intro gb375 hg w70 hbox hb;have n_ := jA (blk_below (g := gb374) (o := .cells #[.bool a0_0,.int .u64 a0_1,.int .u64 a0_2,.int .i64 a0_3] 30 (0,0)) Z491 hb) (jA (below_step Z461 hb) (jA (hbox) (jA ((Z339 : w.heap.size ≤ gb375)) (jA ((Z339 : w.heap.size ≤ gb375)) (jA ((Z192 : gb374 ≠ gb375)) (Aside0.mk ((Z193 : gb375 ≠ gb374))))))));clear BK374 HB;obtain ⟨BK374,HB,BK375,GW375,GE375,NB374_375,NB375_374⟩ := n_;clear hb hbox hg) | ((with_reducible refine gate_dst (N := 4) rfl ?_);refine box_event ?hg (N := 4) ?hd (cs := #[.bool false,.int .u64 0,.int .u64 0,.int .i64 0]) (t := 30) ?hr ?_;(case hd => rfl);(case hg => rfl);(case hr => exact Z566);intro gb376 hg w71 hbox hb;have n_ := jA (blk_below (g := gb374) (o := .cells #[.bool a0_0,.int .u64 a0_1,.int .u64 a0_2,.int .i64 a0_3] 30 (0,0)) Z491 hb) (jA (blk_below (g := gb375) (o := .cells #[.bool a1_0,.int .u64 a1_1,.int .u64 a1_2,.int .i64 a1_3] 30 (0,0)) Z497 hb) (jA (below_step Z443 hb) (jA (hbox) (jA ((Z229 : w.heap.size ≤ gb376)) (jA ((Z229 : w.heap.size ≤ gb376)) (jA ((Z192 : gb374 ≠ gb376)) (jA ((Z193 : gb376 ≠ gb374)) (jA ((Z194 : gb375 ≠ gb376)) (Aside0.mk ((Z195 : gb376 ≠ gb375)))))))))));clear BK374 BK375 HB;obtain ⟨BK374,BK375,HB,BK376,GW376,GE376,NB374_376,NB376_374,NB375_376,NB376_375⟩ := n_;clear hb hbox hg;have hnb72 := NB374_375.out;have hnc72 := NB375_374.out;have hnb73 := NB374_376.out;have hnc73 := NB376_374.out;obtain ⟨hcz74_0,hcz74_1,hcz74_2,hcz74_3,hfz74_0,hfz74_1,hfz74_2,hfz74_3⟩ := impl_AddFrac.cells4 BK374.out;have hnb75 := NB375_376.out;have hnc75 := NB376_375.out;obtain ⟨hcz76_0,hcz76_1,hcz76_2,hcz76_3,hfz76_0,hfz76_1,hfz76_2,hfz76_3⟩ := impl_AddFrac.cells4 BK375.out) | ((with_reducible refine gate_callee (f := 48) rfl ?_);refine goesL_ (some 13) rfl rfl Try.func48 Z569 rfl #[.agg #[.bool a0_0,.int .u64 a0_1,.int .u64 a0_2,.int .i64 a0_3],.agg #[.bool a1_0,.int .u64 a1_1,.int .u64 a1_2,.int .i64 a1_3]] rfl Z375 ?_;(with_reducible refine (impl_crossed.calls k a0_0 a0_1 a0_2 a0_3 a1_0 a1_1 a1_2 a1_3 t377 t378 t379 t380 t381 t382 false _ A3.out).mono ?_);rintro e w77 ⟨rfl,hb⟩;refine ⟨_,rfl,?_⟩;have n_ := jA (blk_below (g := gb374) (o := .cells #[.bool a0_0,.int .u64 a0_1,.int .u64 a0_2,.int .i64 a0_3] 30 (0,0)) Z491 hb) (jA (blk_below (g := gb375) (o := .cells #[.bool a1_0,.int .u64 a1_1,.int .u64 a1_2,.int .i64 a1_3] 30 (0,0)) Z497 hb) (jA (blk_below (g := gb376) (o := .cells #[.bool false,.int .u64 0,.int .u64 0,.int .i64 0] 30 (0,0)) Z509 hb) (Aside0.mk (below_step Z424 hb))));clear BK374 BK375 BK376 HB;obtain ⟨BK374,BK375,BK376,HB⟩ := n_;(try clear hb);(try clear hb2);(try clear hk);(try clear hi)) | ((with_reducible refine gate_dst (N := 6) rfl ?_);refine box_event ?hg (N := 6) ?hd (cs := #[.bool false,.int .u64 0,.int .u64 0]) (t := 28) ?hr ?_;(case hd => rfl);(case hg => rfl);(case hr => exact Z566);intro gb384 hg w78 hbox hb;have n_ := jA (blk_below (g := gb374) (o := .cells #[.bool a0_0,.int .u64 a0_1,.int .u64 a0_2,.int .i64 a0_3] 30 (0,0)) Z491 hb) (jA (blk_below (g := gb375) (o := .cells #[.bool a1_0,.int .u64 a1_1,.int .u64 a1_2,.int .i64 a1_3] 30 (0,0)) Z497 hb) (jA (blk_below (g := gb376) (o := .cells #[.bool false,.int .u64 0,.int .u64 0,.int .i64 0] 30 (0,0)) Z509 hb) (jA (below_step Z424 hb) (jA (hbox) (jA ((Z169 : w.heap.size ≤ gb384)) (jA ((Z169 : w.heap.size ≤ gb384)) (jA ((Z192 : gb374 ≠ gb384)) (jA ((Z193 : gb384 ≠ gb374)) (jA ((Z194 : gb375 ≠ gb384)) (jA ((Z195 : gb384 ≠ gb375)) (jA ((Z245 : gb376 ≠ gb384)) (Aside0.mk ((Z246 : gb384 ≠ gb376))))))))))))));clear BK374 BK375 BK376 HB;obtain ⟨BK374,BK375,BK376,HB,BK384,GW384,GE384,NB374_384,NB384_374,NB375_384,NB384_375,NB376_384,NB384_376⟩ := n_;clear hb hbox hg) | ((with_reducible refine gate_dst (N := 7) rfl ?_);refine box_event ?hg (N := 7) ?hd (cs := #[.bool false,.int .u64 0,.int .u64 0]) (t := 28) ?hr ?_;(case hd => rfl);(case hg => rfl);(case hr => exact Z566);intro gb385 hg w79 hbox hb;have n_ := jA (blk_below (g := gb374) (o := .cells #[.bool a0_0,.int .u64 a0_1,.int .u64 a0_2,.int .i64 a0_3] 30 (0,0)) Z491 hb) (jA (blk_below (g := gb375) (o := .cells #[.bool a1_0,.int .u64 a1_1,.int .u64 a1_2,.int .i64 a1_3] 30 (0,0)) Z497 hb) (jA (blk_below (g := gb376) (o := .cells #[.bool false,.int .u64 0,.int .u64 0,.int .i64 0] 30 (0,0)) Z509 hb) (jA (blk_below (g := gb384) (o := .cells #[.bool false,.int .u64 0,.int .u64 0] 28 (0,0)) Z520 hb) (jA (below_step Z416 hb) (jA (hbox) (jA ((Z147 : w.heap.size ≤ gb385)) (jA ((Z147 : w.heap.size ≤ gb385)) (jA ((Z192 : gb374 ≠ gb385)) (jA ((Z193 : gb385 ≠ gb374)) (jA ((Z194 : gb375 ≠ gb385)) (jA ((Z195 : gb385 ≠ gb375)) (jA ((Z245 : gb376 ≠ gb385)) (jA ((Z246 : gb385 ≠ gb376)) (jA ((Z301 : gb384 ≠ gb385)) (Aside0.mk ((Z302 : gb385 ≠ gb384)))))))))))))))));clear BK374 BK375 BK376 BK384 HB;obtain ⟨BK374,BK375,BK376,BK384,HB,BK385,GW385,GE385,NB374_385,NB385_374,NB375_385,NB385_375,NB376_385,NB385_376,NB384_385,NB385_384⟩ := n_;clear hb hbox hg;have hnb80 := NB384_374.out;have hnc80 := NB374_384.out;have hnb81 := NB384_375.out;have hnc81 := NB375_384.out;have hnb82 := NB384_376.out;have hnc82 := NB376_384.out;have hnb83 := NB384_385.out;have hnc83 := NB385_384.out;obtain ⟨hcz84_0,hcz84_1,hcz84_2,hfz84_0,hfz84_1,hfz84_2⟩ := impl_AddFrac.cells3 BK384.out;have hnb85 := NB385_374.out;have hnc85 := NB374_385.out;have hnb86 := NB385_375.out;have hnc86 := NB375_385.out;have hnb87 := NB385_376.out;have hnc87 := NB376_385.out;obtain ⟨hcz88_0,hcz88_1,hcz88_2,hfz88_0,hfz88_1,hfz88_2⟩ := impl_AddFrac.cells3 BK385.out;obtain ⟨hcz89_0,hcz89_1,hcz89_2,hcz89_3,hfz89_0,hfz89_1,hfz89_2,hfz89_3⟩ := impl_AddFrac.cells4 BK376.out))
    refine bodyPost_ret (results_ct rfl _ _ gb376 30 #[.bool false,.int .u64 0,.int .u64 0,.int .i64 0] (0,0) _ rfl (by (with_reducible repeat (first | refine bA ?_ _ | refine bB ?_ | refine bC ?_ _));refine blk_put (cs := #[.bool false,.int .u64 0,.int .u64 0,.int .i64 0]) ?_ 3 _ rfl;(with_reducible repeat (first | refine bA ?_ _ | refine bB ?_ | refine bC ?_ _));refine blk_put (cs := #[.bool false,.int .u64 0,.int .u64 0,.int .i64 0]) ?_ 2 _ rfl;(with_reducible repeat (first | refine bA ?_ _ | refine bB ?_ | refine bC ?_ _));refine blk_put (cs := #[.bool false,.int .u64 0,.int .u64 0,.int .i64 0]) ?_ 1 _ rfl;(with_reducible repeat (first | refine bA ?_ _ | refine bB ?_ | refine bC ?_ _));refine blk_put (cs := #[.bool false,.int .u64 0,.int .u64 0,.int .i64 0]) ?_ 0 _ rfl;(with_reducible repeat (first | refine bA ?_ _ | refine bB ?_ | refine bC ?_ _));refine blk_far ?_ NB376_385.out _;(with_reducible repeat (first | refine bA ?_ _ | refine bB ?_ | refine bC ?_ _));refine blk_far ?_ NB376_385.out _;(with_reducible repeat (first | refine bA ?_ _ | refine bB ?_ | refine bC ?_ _));refine blk_far ?_ NB376_385.out _;(with_reducible repeat (first | refine bA ?_ _ | refine bB ?_ | refine bC ?_ _));refine blk_far ?_ NB376_384.out _;(with_reducible repeat (first | refine bA ?_ _ | refine bB ?_ | refine bC ?_ _));refine blk_far ?_ NB376_384.out _;(with_reducible repeat (first | refine bA ?_ _ | refine bB ?_ | refine bC ?_ _));refine blk_far ?_ NB376_384.out _;(with_reducible repeat (first | refine bA ?_ _ | refine bB ?_ | refine bC ?_ _));exact BK376.out) Try.underlying30 rfl Z569) rfl ?_
    exact ⟨Z558,Z410⟩

/-! ### impl_GainOf: function 11 -/
theorem impl_GainOf.cells4 {w : World} {g : Nat} {t : TypeId} {a0 a1 a2 a3 : Value} (h : w.heap[g]? = some (.cells #[a0,a1,a2,a3] t (0,0))) : w.cell? ⟨g,0,none⟩ = some a0 ∧ w.cell? ⟨g,1,none⟩ = some a1 ∧ w.cell? ⟨g,2,none⟩ = some a2 ∧ w.cell? ⟨g,3,none⟩ = some a3 ∧ w.frozen? ⟨g,0,none⟩ = false ∧ w.frozen? ⟨g,1,none⟩ = false ∧ w.frozen? ⟨g,2,none⟩ = false ∧ w.frozen? ⟨g,3,none⟩ = false := ⟨(blk_cell h 0).trans rfl,(blk_cell h 1).trans rfl,(blk_cell h 2).trans rfl,(blk_cell h 3).trans rfl,blk_frozen h 0,blk_frozen h 1,blk_frozen h 2,blk_frozen h 3⟩
theorem impl_GainOf.cells6 {w : World} {g : Nat} {t : TypeId} {a0 a1 a2 a3 a4 a5 : Value} (h : w.heap[g]? = some (.cells #[a0,a1,a2,a3,a4,a5] t (0,0))) : w.cell? ⟨g,0,none⟩ = some a0 ∧ w.cell? ⟨g,1,none⟩ = some a1 ∧ w.cell? ⟨g,2,none⟩ = some a2 ∧ w.cell? ⟨g,3,none⟩ = some a3 ∧ w.cell? ⟨g,4,none⟩ = some a4 ∧ w.cell? ⟨g,5,none⟩ = some a5 ∧ w.frozen? ⟨g,0,none⟩ = false ∧ w.frozen? ⟨g,1,none⟩ = false ∧ w.frozen? ⟨g,2,none⟩ = false ∧ w.frozen? ⟨g,3,none⟩ = false ∧ w.frozen? ⟨g,4,none⟩ = false ∧ w.frozen? ⟨g,5,none⟩ = false := ⟨(blk_cell h 0).trans rfl,(blk_cell h 1).trans rfl,(blk_cell h 2).trans rfl,(blk_cell h 3).trans rfl,(blk_cell h 4).trans rfl,(blk_cell h 5).trans rfl,blk_frozen h 0,blk_frozen h 1,blk_frozen h 2,blk_frozen h 3,blk_frozen h 4,blk_frozen h 5⟩
def impl_GainOf.f (k : Nat) (a0_0 : Int) (a0_1 : Int) (a0_2 : Int) (a0_3 : Int) (a0_4 : Int) (a0_5 : Int) (a1 : Int) : Option (Bool × Int × Int × Int × Bool) := (impl_PlainGain.f a0_2 a0_3 a1).bind fun bt398 => ((impl_PlainGain.f a0_4 a0_5 a1).bind fun bt404 => (if bt398.2.2.2.2 = true then (if bt404.2.2.2.2 = true then ((impl_AddFrac.f k bt398.1 bt398.2.1 bt398.2.2.1 bt398.2.2.2.1 bt404.1 bt404.2.1 bt404.2.2.1 bt404.2.2.2.1).bind fun bt410 => (some (bt410.1,bt410.2.1,bt410.2.2.1,bt410.2.2.2.1,bt410.2.2.2.2))) else (some (false,0,0,0,false))) else (some (false,0,0,0,false))))
theorem impl_GainOf.mono : ∀ a0 a1 a2 a3 a4 a5 a6 k,LeO (impl_GainOf.f k a0 a1 a2 a3 a4 a5 a6) (impl_GainOf.f (k + 1) a0 a1 a2 a3 a4 a5 a6) := by
  intro a0 a1 a2 a3 a4 a5 a6 k
  unfold impl_GainOf.f
  repeat' first
      | (with_reducible exact impl_AddFrac.mono _ _ _ _ _ _ _ _ _)
      | (with_reducible exact LeO.refl _)
      | (with_reducible exact LeO.none _)
      | (with_reducible refine LeO.ite ?_ ?_)
      | (with_reducible refine LeO.bind ?_ (fun _ => ?_))
      | exact impl_AddFrac.mono _ _ _ _ _ _ _ _ _
      | exact LeO.none _
      | refine LeO.ite ?_ ?_
      | refine LeO.bind ?_ (fun _ => ?_)
set_option maxHeartbeats 8000000 in
set_option maxRecDepth 100000 in
theorem impl_GainOf.calls (k : Nat) (a0_0 : Int) (a0_1 : Int) (a0_2 : Int) (a0_3 : Int) (a0_4 : Int) (a0_5 : Int) (a1 : Int) (r1 : Bool) (r2 : Int) (r3 : Int) (r4 : Int) (r5 : Bool) (w : World) (h : impl_GainOf.f k a0_0 a0_1 a0_2 a0_3 a0_4 a0_5 a1 = some (r1,r2,r3,r4,r5)) :
    Calls Try.prog 11 #[.agg #[.int .i64 a0_0,.int .i64 a0_1,.int .i64 a0_2,.int .i64 a0_3,.int .i64 a0_4,.int .i64 a0_5],.int .i64 a1] w fun e w' => e = .returned (.tuple #[.agg #[.bool r1,.int .u64 r2,.int .u64 r3,.int .i64 r4],.bool r5]) ∧ Below w.heap.size w w' := by
  have hu35 := Try.underlying35
  have hu30 := Try.underlying30
  have hu33 := Try.underlying33
  have HB := Aside0.mk (Below.refl w.heap.size w)
  have H : ((impl_PlainGain.f a0_2 a0_3 a1).bind fun bt398 => ((impl_PlainGain.f a0_4 a0_5 a1).bind fun bt404 => (if bt398.2.2.2.2 = true then (if bt404.2.2.2.2 = true then ((impl_AddFrac.f k bt398.1 bt398.2.1 bt398.2.2.1 bt398.2.2.2.1 bt404.1 bt404.2.1 bt404.2.2.1 bt404.2.2.2.1).bind fun bt410 => (some (bt410.1,bt410.2.1,bt410.2.2.1,bt410.2.2.2.1,bt410.2.2.2.2))) else (some (false,0,0,0,false))) else (some (false,0,0,0,false))))) = some (r1,r2,r3,r4,r5) := h
  clear h
  obtain ⟨⟨t398,t399,t400,t401,t402⟩,A30,H⟩ := Option.bind_eq_some_iff.mp H
  try dsimp only at H
  have A3 := Aside0.mk A30
  clear A30
  obtain ⟨⟨t404,t405,t406,t407,t408⟩,A40,H⟩ := Option.bind_eq_some_iff.mp H
  try dsimp only at H
  have A4 := Aside0.mk A40
  clear A40
  by_cases c5 : t402 = true
  · subst c5
    have H1 : (if t408 = true then ((impl_AddFrac.f k t398 t399 t400 t401 t404 t405 t406 t407).bind fun bt410 => (some (bt410.1,bt410.2.1,bt410.2.2.1,bt410.2.2.2.1,bt410.2.2.2.2))) else (some (false,0,0,0,false))) = some (r1,r2,r3,r4,r5) := by rw [if_pos rfl] at H;exact H
    clear H
    have H := H1
    clear H1
    by_cases c6 : t408 = true
    · subst c6
      have H1 : ((impl_AddFrac.f k t398 t399 t400 t401 t404 t405 t406 t407).bind fun bt410 => (some (bt410.1,bt410.2.1,bt410.2.2.1,bt410.2.2.2.1,bt410.2.2.2.2))) = some (r1,r2,r3,r4,r5) := by rw [if_pos rfl] at H;exact H
      clear H
      have H := H1
      clear H1
      obtain ⟨⟨t410,t411,t412,t413,t414⟩,A70,H⟩ := Option.bind_eq_some_iff.mp H
      try dsimp only at H
      have A7 := Aside0.mk A70
      clear A70
      simp only [Option.some.injEq,Prod.mk.injEq] at H
      obtain ⟨rfl,rfl,rfl,rfl,rfl⟩ := H
      go_enter Try.func11,Try.ntmps11
      go_wp2_with (first | ((with_reducible refine gate_dst (N := 2) rfl ?_);refine box_event ?hg (N := 2) ?hd (cs := #[.int .i64 a0_0,.int .i64 a0_1,.int .i64 a0_2,.int .i64 a0_3,.int .i64 a0_4,.int .i64 a0_5]) (t := 35) ?hr ?_;(case hd => rfl);(case hg => rfl);(case hr => exact Z566);intro gb396 hg w8 hbox hb;have n_ := jA (below_step Z483 hb) (jA (hbox) (jA ((Z366 : w.heap.size ≤ gb396)) (Aside0.mk ((Z366 : w.heap.size ≤ gb396)))));clear HB;obtain ⟨HB,BK396,GW396,GE396⟩ := n_;clear hb hbox hg) | ((with_reducible refine gate_dst (N := 4) rfl ?_);refine box_event ?hg (N := 4) ?hd (cs := #[.bool false,.int .u64 0,.int .u64 0,.int .i64 0]) (t := 30) ?hr ?_;(case hd => rfl);(case hg => rfl);(case hr => exact Z566);intro gb397 hg w9 hbox hb;have n_ := jA (blk_below (g := gb396) (o := .cells #[.int .i64 a0_0,.int .i64 a0_1,.int .i64 a0_2,.int .i64 a0_3,.int .i64 a0_4,.int .i64 a0_5] 35 (0,0)) Z505 hb) (jA (below_step Z460 hb) (jA (hbox) (jA ((Z338 : w.heap.size ≤ gb397)) (jA ((Z338 : w.heap.size ≤ gb397)) (jA ((Z155 : gb396 ≠ gb397)) (Aside0.mk ((Z157 : gb397 ≠ gb396))))))));clear BK396 HB;obtain ⟨BK396,HB,BK397,GW397,GE397,NB396_397,NB397_396⟩ := n_;clear hb hbox hg;have hnb10 := NB396_397.out;have hnc10 := NB397_396.out;obtain ⟨hcz11_0,hcz11_1,hcz11_2,hcz11_3,hcz11_4,hcz11_5,hfz11_0,hfz11_1,hfz11_2,hfz11_3,hfz11_4,hfz11_5⟩ := impl_GainOf.cells6 BK396.out) | ((with_reducible refine gate_callee (f := 21) rfl ?_);refine goesL_ (some 14) rfl rfl Try.func21 Z569 rfl #[.agg #[.int .i64 a0_2,.int .i64 a0_3],.int .i64 a1] rfl Z375 ?_;(with_reducible refine (impl_PlainGain.calls a0_2 a0_3 a1 t398 t399 t400 t401 true _ A3.out).mono ?_);rintro e w12 ⟨rfl,hb⟩;refine ⟨_,rfl,?_⟩;have n_ := jA (blk_below (g := gb396) (o := .cells #[.int .i64 a0_0,.int .i64 a0_1,.int .i64 a0_2,.int .i64 a0_3,.int .i64 a0_4,.int .i64 a0_5] 35 (0,0)) Z505 hb) (jA (blk_below (g := gb397) (o := .cells #[.bool false,.int .u64 0,.int .u64 0,.int .i64 0] 30 (0,0)) Z514 hb) (Aside0.mk (below_step Z436 hb)));clear BK396 BK397 HB;obtain ⟨BK396,BK397,HB⟩ := n_;(try clear hb);(try clear hb2);(try clear hk);(try clear hi)) | ((with_reducible refine gate_dst (N := 6) rfl ?_);refine box_event ?hg (N := 6) ?hd (cs := #[.bool false,.int .u64 0,.int .u64 0,.int .i64 0]) (t := 30) ?hr ?_;(case hd => rfl);(case hg => rfl);(case hr => exact Z566);intro gb403 hg w13 hbox hb;have n_ := jA (blk_below (g := gb396) (o := .cells #[.int .i64 a0_0,.int .i64 a0_1,.int .i64 a0_2,.int .i64 a0_3,.int .i64 a0_4,.int .i64 a0_5] 35 (0,0)) Z505 hb) (jA (blk_below (g := gb397) (o := .cells #[.bool false,.int .u64 0,.int .u64 0,.int .i64 0] 30 (0,0)) Z514 hb) (jA (below_step Z436 hb) (jA (hbox) (jA ((Z228 : w.heap.size ≤ gb403)) (jA ((Z228 : w.heap.size ≤ gb403)) (jA ((Z155 : gb396 ≠ gb403)) (jA ((Z157 : gb403 ≠ gb396)) (jA ((Z247 : gb397 ≠ gb403)) (Aside0.mk ((Z249 : gb403 ≠ gb397)))))))))));clear BK396 BK397 HB;obtain ⟨BK396,BK397,HB,BK403,GW403,GE403,NB396_403,NB403_396,NB397_403,NB403_397⟩ := n_;clear hb hbox hg;have hnb14 := NB403_396.out;have hnc14 := NB396_403.out;have hnb15 := NB403_397.out;have hnc15 := NB397_403.out;obtain ⟨hcz16_0,hcz16_1,hcz16_2,hcz16_3,hfz16_0,hfz16_1,hfz16_2,hfz16_3⟩ := impl_GainOf.cells4 BK403.out;obtain ⟨hcz17_0,hcz17_1,hcz17_2,hcz17_3,hcz17_4,hcz17_5,hfz17_0,hfz17_1,hfz17_2,hfz17_3,hfz17_4,hfz17_5⟩ := impl_GainOf.cells6 BK396.out) | ((with_reducible refine gate_callee (f := 21) rfl ?_);refine goesL_ (some 21) rfl rfl Try.func21 Z569 rfl #[.agg #[.int .i64 a0_4,.int .i64 a0_5],.int .i64 a1] rfl Z375 ?_;(with_reducible refine (impl_PlainGain.calls a0_4 a0_5 a1 t404 t405 t406 t407 true _ A4.out).mono ?_);rintro e w18 ⟨rfl,hb⟩;refine ⟨_,rfl,?_⟩;have n_ := jA (blk_below (g := gb396) (o := .cells #[.int .i64 a0_0,.int .i64 a0_1,.int .i64 a0_2,.int .i64 a0_3,.int .i64 a0_4,.int .i64 a0_5] 35 (0,0)) Z66 hb) (jA (blk_below (g := gb397) (o := .cells #[.bool false,.int .u64 0,.int .u64 0,.int .i64 0] 30 (0,0)) Z65 hb) (jA (blk_below (g := gb403) (o := .cells #[.bool t398,.int .u64 t399,.int .u64 t400,.int .i64 t401] 30 (0,0)) Z24 hb) (Aside0.mk (below_step Z423 hb))));clear BK396 BK397 BK403 HB;obtain ⟨BK396,BK397,BK403,HB⟩ := n_;(try clear hb);(try clear hb2);(try clear hk);(try clear hi)) | ((with_reducible refine gate_dst (N := 8) rfl ?_);refine box_event ?hg (N := 8) ?hd (cs := #[.bool false,.int .u64 0,.int .u64 0,.int .i64 0]) (t := 30) ?hr ?_;(case hd => rfl);(case hg => rfl);(case hr => exact Z566);intro gb409 hg w19 hbox hb;have n_ := jA (blk_below (g := gb396) (o := .cells #[.int .i64 a0_0,.int .i64 a0_1,.int .i64 a0_2,.int .i64 a0_3,.int .i64 a0_4,.int .i64 a0_5] 35 (0,0)) Z505 hb) (jA (blk_below (g := gb397) (o := .cells #[.bool false,.int .u64 0,.int .u64 0,.int .i64 0] 30 (0,0)) Z514 hb) (jA (blk_below (g := gb403) (o := .cells #[.bool t398,.int .u64 t399,.int .u64 t400,.int .i64 t401] 30 (0,0)) Z534 hb) (jA (below_step Z423 hb) (jA (hbox) (jA ((Z168 : w.heap.size ≤ gb409)) (jA ((Z168 : w.heap.size ≤ gb409)) (jA ((Z155 : gb396 ≠ gb409)) (jA ((Z157 : gb409 ≠ gb396)) (jA ((Z247 : gb397 ≠ gb409)) (jA ((Z249 : gb409 ≠ gb397)) (jA ((Z216 : gb403 ≠ gb409)) (Aside0.mk ((Z218 : gb409 ≠ gb403))))))))))))));clear BK396 BK397 BK403 HB;obtain ⟨BK396,BK397,BK403,HB,BK409,GW409,GE409,NB396_409,NB409_396,NB397_409,NB409_397,NB403_409,NB409_403⟩ := n_;clear hb hbox hg;have hnb20 := NB409_396.out;have hnc20 := NB396_409.out;have hnb21 := NB409_397.out;have hnc21 := NB397_409.out;have hnb22 := NB409_403.out;have hnc22 := NB403_409.out;obtain ⟨hcz23_0,hcz23_1,hcz23_2,hcz23_3,hfz23_0,hfz23_1,hfz23_2,hfz23_3⟩ := impl_GainOf.cells4 BK409.out;obtain ⟨hcz24_0,hcz24_1,hcz24_2,hcz24_3,hfz24_0,hfz24_1,hfz24_2,hfz24_3⟩ := impl_GainOf.cells4 BK403.out) | ((with_reducible refine gate_callee (f := 26) rfl ?_);refine goesL_ (some 33) rfl rfl Try.func26 Z569 rfl #[.agg #[.bool t398,.int .u64 t399,.int .u64 t400,.int .i64 t401],.agg #[.bool t404,.int .u64 t405,.int .u64 t406,.int .i64 t407]] rfl Z375 ?_;(with_reducible refine (impl_AddFrac.calls k t398 t399 t400 t401 t404 t405 t406 t407 t410 t411 t412 t413 t414 _ A7.out).mono ?_);rintro e w25 ⟨rfl,hb⟩;refine ⟨_,rfl,?_⟩;have n_ := jA (blk_below (g := gb396) (o := .cells #[.int .i64 a0_0,.int .i64 a0_1,.int .i64 a0_2,.int .i64 a0_3,.int .i64 a0_4,.int .i64 a0_5] 35 (0,0)) (by (with_reducible repeat (first | refine bA ?_ _ | refine bB ?_ | refine bC ?_ _));refine blk_far ?_ NB396_409.out _;(with_reducible repeat (first | refine bA ?_ _ | refine bB ?_ | refine bC ?_ _));refine blk_far ?_ NB396_409.out _;(with_reducible repeat (first | refine bA ?_ _ | refine bB ?_ | refine bC ?_ _));refine blk_far ?_ NB396_409.out _;(with_reducible repeat (first | refine bA ?_ _ | refine bB ?_ | refine bC ?_ _));refine blk_far ?_ NB396_409.out _;(with_reducible repeat (first | refine bA ?_ _ | refine bB ?_ | refine bC ?_ _));exact BK396.out) hb) (jA (blk_below (g := gb397) (o := .cells #[.bool false,.int .u64 0,.int .u64 0,.int .i64 0] 30 (0,0)) (by (with_reducible repeat (first | refine bA ?_ _ | refine bB ?_ | refine bC ?_ _));refine blk_far ?_ NB397_409.out _;(with_reducible repeat (first | refine bA ?_ _ | refine bB ?_ | refine bC ?_ _));refine blk_far ?_ NB397_409.out _;(with_reducible repeat (first | refine bA ?_ _ | refine bB ?_ | refine bC ?_ _));refine blk_far ?_ NB397_409.out _;(with_reducible repeat (first | refine bA ?_ _ | refine bB ?_ | refine bC ?_ _));refine blk_far ?_ NB397_409.out _;(with_reducible repeat (first | refine bA ?_ _ | refine bB ?_ | refine bC ?_ _));exact BK397.out) hb) (jA (blk_below (g := gb403) (o := .cells #[.bool t398,.int .u64 t399,.int .u64 t400,.int .i64 t401] 30 (0,0)) (by (with_reducible repeat (first | refine bA ?_ _ | refine bB ?_ | refine bC ?_ _));refine blk_far ?_ NB403_409.out _;(with_reducible repeat (first | refine bA ?_ _ | refine bB ?_ | refine bC ?_ _));refine blk_far ?_ NB403_409.out _;(with_reducible repeat (first | refine bA ?_ _ | refine bB ?_ | refine bC ?_ _));refine blk_far ?_ NB403_409.out _;(with_reducible repeat (first | refine bA ?_ _ | refine bB ?_ | refine bC ?_ _));refine blk_far ?_ NB403_409.out _;(with_reducible repeat (first | refine bA ?_ _ | refine bB ?_ | refine bC ?_ _));exact BK403.out) hb) (jA (blk_below (g := gb409) (o := .cells #[.bool t404,.int .u64 t405,.int .u64 t406,.int .i64 t407] 30 (0,0)) (by (with_reducible repeat (first | refine bA ?_ _ | refine bB ?_ | refine bC ?_ _));refine blk_put (cs := #[.bool t404,.int .u64 t405,.int .u64 t406,.int .i64 0]) ?_ 3 _ rfl;(with_reducible repeat (first | refine bA ?_ _ | refine bB ?_ | refine bC ?_ _));refine blk_put (cs := #[.bool t404,.int .u64 t405,.int .u64 0,.int .i64 0]) ?_ 2 _ rfl;(with_reducible repeat (first | refine bA ?_ _ | refine bB ?_ | refine bC ?_ _));refine blk_put (cs := #[.bool t404,.int .u64 0,.int .u64 0,.int .i64 0]) ?_ 1 _ rfl;(with_reducible repeat (first | refine bA ?_ _ | refine bB ?_ | refine bC ?_ _));refine blk_put (cs := #[.bool false,.int .u64 0,.int .u64 0,.int .i64 0]) ?_ 0 _ rfl;(with_reducible repeat (first | refine bA ?_ _ | refine bB ?_ | refine bC ?_ _));exact BK409.out) hb) (Aside0.mk (below_step Z172 hb)))));clear BK396 BK397 BK403 BK409 HB;obtain ⟨BK396,BK397,BK403,BK409,HB⟩ := n_;(try clear hb);(try clear hb2);(try clear hk);(try clear hi);obtain ⟨hcz26_0,hcz26_1,hcz26_2,hcz26_3,hfz26_0,hfz26_1,hfz26_2,hfz26_3⟩ := impl_GainOf.cells4 BK397.out))
      refine bodyPost_ret (results_ct rfl _ _ gb397 30 #[.bool t410,.int .u64 t411,.int .u64 t412,.int .i64 t413] (0,0) _ rfl (by (with_reducible repeat (first | refine bA ?_ _ | refine bB ?_ | refine bC ?_ _));refine blk_put (cs := #[.bool t410,.int .u64 t411,.int .u64 t412,.int .i64 0]) ?_ 3 _ rfl;(with_reducible repeat (first | refine bA ?_ _ | refine bB ?_ | refine bC ?_ _));refine blk_put (cs := #[.bool t410,.int .u64 t411,.int .u64 0,.int .i64 0]) ?_ 2 _ rfl;(with_reducible repeat (first | refine bA ?_ _ | refine bB ?_ | refine bC ?_ _));refine blk_put (cs := #[.bool t410,.int .u64 0,.int .u64 0,.int .i64 0]) ?_ 1 _ rfl;(with_reducible repeat (first | refine bA ?_ _ | refine bB ?_ | refine bC ?_ _));refine blk_put (cs := #[.bool false,.int .u64 0,.int .u64 0,.int .i64 0]) ?_ 0 _ rfl;(with_reducible repeat (first | refine bA ?_ _ | refine bB ?_ | refine bC ?_ _));exact BK397.out) Try.underlying30 rfl Z569) rfl ?_
      exact ⟨Z558,Z172⟩
    · replace c6 := Bool.eq_false_iff.mpr c6
      subst c6
      have H1 : (some (false,0,0,0,false)) = some (r1,r2,r3,r4,r5) := by rw [if_neg (show ¬ (false = true) by decide)] at H;exact H
      clear H
      have H := H1
      clear H1
      simp only [Option.some.injEq,Prod.mk.injEq] at H
      obtain ⟨rfl,rfl,rfl,rfl,rfl⟩ := H
      go_enter Try.func11,Try.ntmps11
      go_wp2_with (first | ((with_reducible refine gate_dst (N := 2) rfl ?_);refine box_event ?hg (N := 2) ?hd (cs := #[.int .i64 a0_0,.int .i64 a0_1,.int .i64 a0_2,.int .i64 a0_3,.int .i64 a0_4,.int .i64 a0_5]) (t := 35) ?hr ?_;(case hd => rfl);(case hg => rfl);(case hr => exact Z566);intro gb396 hg w27 hbox hb;have n_ := jA (below_step Z483 hb) (jA (hbox) (jA ((Z366 : w.heap.size ≤ gb396)) (Aside0.mk ((Z366 : w.heap.size ≤ gb396)))));clear HB;obtain ⟨HB,BK396,GW396,GE396⟩ := n_;clear hb hbox hg) | ((with_reducible refine gate_dst (N := 4) rfl ?_);refine box_event ?hg (N := 4) ?hd (cs := #[.bool false,.int .u64 0,.int .u64 0,.int .i64 0]) (t := 30) ?hr ?_;(case hd => rfl);(case hg => rfl);(case hr => exact Z566);intro gb397 hg w28 hbox hb;have n_ := jA (blk_below (g := gb396) (o := .cells #[.int .i64 a0_0,.int .i64 a0_1,.int .i64 a0_2,.int .i64 a0_3,.int .i64 a0_4,.int .i64 a0_5] 35 (0,0)) Z505 hb) (jA (below_step Z460 hb) (jA (hbox) (jA ((Z338 : w.heap.size ≤ gb397)) (jA ((Z338 : w.heap.size ≤ gb397)) (jA ((Z155 : gb396 ≠ gb397)) (Aside0.mk ((Z157 : gb397 ≠ gb396))))))));clear BK396 HB;obtain ⟨BK396,HB,BK397,GW397,GE397,NB396_397,NB397_396⟩ := n_;clear hb hbox hg;have hnb29 := NB396_397.out;have hnc29 := NB397_396.out;obtain ⟨hcz30_0,hcz30_1,hcz30_2,hcz30_3,hcz30_4,hcz30_5,hfz30_0,hfz30_1,hfz30_2,hfz30_3,hfz30_4,hfz30_5⟩ := impl_GainOf.cells6 BK396.out) | ((with_reducible refine gate_callee (f := 21) rfl ?_);refine goesL_ (some 14) rfl rfl Try.func21 Z569 rfl #[.agg #[.int .i64 a0_2,.int .i64 a0_3],.int .i64 a1] rfl Z375 ?_;(with_reducible refine (impl_PlainGain.calls a0_2 a0_3 a1 t398 t399 t400 t401 true _ A3.out).mono ?_);rintro e w31 ⟨rfl,hb⟩;refine ⟨_,rfl,?_⟩;have n_ := jA (blk_below (g := gb396) (o := .cells #[.int .i64 a0_0,.int .i64 a0_1,.int .i64 a0_2,.int .i64 a0_3,.int .i64 a0_4,.int .i64 a0_5] 35 (0,0)) Z505 hb) (jA (blk_below (g := gb397) (o := .cells #[.bool false,.int .u64 0,.int .u64 0,.int .i64 0] 30 (0,0)) Z514 hb) (Aside0.mk (below_step Z436 hb)));clear BK396 BK397 HB;obtain ⟨BK396,BK397,HB⟩ := n_;(try clear hb);(try clear hb2);(try clear hk);(try clear hi)) | ((with_reducible refine gate_dst (N := 6) rfl ?_);refine box_event ?hg (N := 6) ?hd (cs := #[.bool false,.int .u64 0,.int .u64 0,.int .i64 0]) (t := 30) ?hr ?_;(case hd => rfl);(case hg => rfl);(case hr => exact Z566);intro gb403 hg w32 hbox hb;have n_ := jA (blk_below (g := gb396) (o := .cells #[.int .i64 a0_0,.int .i64 a0_1,.int .i64 a0_2,.int .i64 a0_3,.int .i64 a0_4,.int .i64 a0_5] 35 (0,0)) Z505 hb) (jA (blk_below (g := gb397) (o := .cells #[.bool false,.int .u64 0,.int .u64 0,.int .i64 0] 30 (0,0)) Z514 hb) (jA (below_step Z436 hb) (jA (hbox) (jA ((Z228 : w.heap.size ≤ gb403)) (jA ((Z228 : w.heap.size ≤ gb403)) (jA ((Z155 : gb396 ≠ gb403)) (jA ((Z157 : gb403 ≠ gb396)) (jA ((Z247 : gb397 ≠ gb403)) (Aside0.mk ((Z249 : gb403 ≠ gb397)))))))))));clear BK396 BK397 HB;obtain ⟨BK396,BK397,HB,BK403,GW403,GE403,NB396_403,NB403_396,NB397_403,NB403_397⟩ := n_;clear hb hbox hg;have hnb33 := NB403_396.out;have hnc33 := NB396_403.out;have hnb34 := NB403_397.out;have hnc34 := NB397_403.out;obtain ⟨hcz35_0,hcz35_1,hcz35_2,hcz35_3,hfz35_0,hfz35_1,hfz35_2,hfz35_3⟩ := impl_GainOf.cells4 BK403.out;obtain ⟨hcz36_0,hcz36_1,hcz36_2,hcz36_3,hcz36_4,hcz36_5,hfz36_0,hfz36_1,hfz36_2,hfz36_3,hfz36_4,hfz36_5⟩ := impl_GainOf.cells6 BK396.out) | ((with_reducible refine gate_callee (f := 21) rfl ?_);refine goesL_ (some 21) rfl rfl Try.func21 Z569 rfl #[.agg #[.int .i64 a0_4,.int .i64 a0_5],.int .i64 a1] rfl Z375 ?_;(with_reducible refine (impl_PlainGain.calls a0_4 a0_5 a1 t404 t405 t406 t407 false _ A4.out).mono ?_);rintro e w37 ⟨rfl,hb⟩;refine ⟨_,rfl,?_⟩;have n_ := jA (blk_below (g := gb396) (o := .cells #[.int .i64 a0_0,.int .i64 a0_1,.int .i64 a0_2,.int .i64 a0_3,.int .i64 a0_4,.int .i64 a0_5] 35 (0,0)) Z66 hb) (jA (blk_below (g := gb397) (o := .cells #[.bool false,.int .u64 0,.int .u64 0,.int .i64 0] 30 (0,0)) Z65 hb) (jA (blk_below (g := gb403) (o := .cells #[.bool t398,.int .u64 t399,.int .u64 t400,.int .i64 t401] 30 (0,0)) Z24 hb) (Aside0.mk (below_step Z423 hb))));clear BK396 BK397 BK403 HB;obtain ⟨BK396,BK397,BK403,HB⟩ := n_;(try clear hb);(try clear hb2);(try clear hk);(try clear hi)) | ((with_reducible refine gate_dst (N := 8) rfl ?_);refine box_event ?hg (N := 8) ?hd (cs := #[.bool false,.int .u64 0,.int .u64 0,.int .i64 0]) (t := 30) ?hr ?_;(case hd => rfl);(case hg => rfl);(case hr => exact Z566);intro gb409 hg w38 hbox hb;have n_ := jA (blk_below (g := gb396) (o := .cells #[.int .i64 a0_0,.int .i64 a0_1,.int .i64 a0_2,.int .i64 a0_3,.int .i64 a0_4,.int .i64 a0_5] 35 (0,0)) Z505 hb) (jA (blk_below (g := gb397) (o := .cells #[.bool false,.int .u64 0,.int .u64 0,.int .i64 0] 30 (0,0)) Z514 hb) (jA (blk_below (g := gb403) (o := .cells #[.bool t398,.int .u64 t399,.int .u64 t400,.int .i64 t401] 30 (0,0)) Z534 hb) (jA (below_step Z423 hb) (jA (hbox) (jA ((Z168 : w.heap.size ≤ gb409)) (jA ((Z168 : w.heap.size ≤ gb409)) (jA ((Z155 : gb396 ≠ gb409)) (jA ((Z157 : gb409 ≠ gb396)) (jA ((Z247 : gb397 ≠ gb409)) (jA ((Z249 : gb409 ≠ gb397)) (jA ((Z216 : gb403 ≠ gb409)) (Aside0.mk ((Z218 : gb409 ≠ gb403))))))))))))));clear BK396 BK397 BK403 HB;obtain ⟨BK396,BK397,BK403,HB,BK409,GW409,GE409,NB396_409,NB409_396,NB397_409,NB409_397,NB403_409,NB409_403⟩ := n_;clear hb hbox hg;have hnb39 := NB409_396.out;have hnc39 := NB396_409.out;have hnb40 := NB409_397.out;have hnc40 := NB397_409.out;have hnb41 := NB409_403.out;have hnc41 := NB403_409.out;obtain ⟨hcz42_0,hcz42_1,hcz42_2,hcz42_3,hfz42_0,hfz42_1,hfz42_2,hfz42_3⟩ := impl_GainOf.cells4 BK409.out;obtain ⟨hcz43_0,hcz43_1,hcz43_2,hcz43_3,hfz43_0,hfz43_1,hfz43_2,hfz43_3⟩ := impl_GainOf.cells4 BK397.out))
      refine bodyPost_ret (results_ct rfl _ _ gb397 30 #[.bool false,.int .u64 0,.int .u64 0,.int .i64 0] (0,0) _ rfl Z1 Try.underlying30 rfl Z569) rfl ?_
      exact ⟨Z558,Z172⟩
  · replace c5 := Bool.eq_false_iff.mpr c5
    subst c5
    have H1 : (some (false,0,0,0,false)) = some (r1,r2,r3,r4,r5) := by rw [if_neg (show ¬ (false = true) by decide)] at H;exact H
    clear H
    have H := H1
    clear H1
    simp only [Option.some.injEq,Prod.mk.injEq] at H
    obtain ⟨rfl,rfl,rfl,rfl,rfl⟩ := H
    go_enter Try.func11,Try.ntmps11
    go_wp2_with (first | ((with_reducible refine gate_dst (N := 2) rfl ?_);refine box_event ?hg (N := 2) ?hd (cs := #[.int .i64 a0_0,.int .i64 a0_1,.int .i64 a0_2,.int .i64 a0_3,.int .i64 a0_4,.int .i64 a0_5]) (t := 35) ?hr ?_;(case hd => rfl);(case hg => rfl);(case hr => exact Z566);intro gb396 hg w44 hbox hb;have n_ := jA (below_step Z483 hb) (jA (hbox) (jA ((Z366 : w.heap.size ≤ gb396)) (Aside0.mk ((Z366 : w.heap.size ≤ gb396)))));clear HB;obtain ⟨HB,BK396,GW396,GE396⟩ := n_;clear hb hbox hg) | ((with_reducible refine gate_dst (N := 4) rfl ?_);refine box_event ?hg (N := 4) ?hd (cs := #[.bool false,.int .u64 0,.int .u64 0,.int .i64 0]) (t := 30) ?hr ?_;(case hd => rfl);(case hg => rfl);(case hr => exact Z566);intro gb397 hg w45 hbox hb;have n_ := jA (blk_below (g := gb396) (o := .cells #[.int .i64 a0_0,.int .i64 a0_1,.int .i64 a0_2,.int .i64 a0_3,.int .i64 a0_4,.int .i64 a0_5] 35 (0,0)) Z505 hb) (jA (below_step Z460 hb) (jA (hbox) (jA ((Z338 : w.heap.size ≤ gb397)) (jA ((Z338 : w.heap.size ≤ gb397)) (jA ((Z155 : gb396 ≠ gb397)) (Aside0.mk ((Z157 : gb397 ≠ gb396))))))));clear BK396 HB;obtain ⟨BK396,HB,BK397,GW397,GE397,NB396_397,NB397_396⟩ := n_;clear hb hbox hg;have hnb46 := NB396_397.out;have hnc46 := NB397_396.out;obtain ⟨hcz47_0,hcz47_1,hcz47_2,hcz47_3,hcz47_4,hcz47_5,hfz47_0,hfz47_1,hfz47_2,hfz47_3,hfz47_4,hfz47_5⟩ := impl_GainOf.cells6 BK396.out) | ((with_reducible refine gate_callee (f := 21) rfl ?_);refine goesL_ (some 14) rfl rfl Try.func21 Z569 rfl #[.agg #[.int .i64 a0_2,.int .i64 a0_3],.int .i64 a1] rfl Z375 ?_;(with_reducible refine (impl_PlainGain.calls a0_2 a0_3 a1 t398 t399 t400 t401 false _ A3.out).mono ?_);rintro e w48 ⟨rfl,hb⟩;refine ⟨_,rfl,?_⟩;have n_ := jA (blk_below (g := gb396) (o := .cells #[.int .i64 a0_0,.int .i64 a0_1,.int .i64 a0_2,.int .i64 a0_3,.int .i64 a0_4,.int .i64 a0_5] 35 (0,0)) Z505 hb) (jA (blk_below (g := gb397) (o := .cells #[.bool false,.int .u64 0,.int .u64 0,.int .i64 0] 30 (0,0)) Z514 hb) (Aside0.mk (below_step Z436 hb)));clear BK396 BK397 HB;obtain ⟨BK396,BK397,HB⟩ := n_;(try clear hb);(try clear hb2);(try clear hk);(try clear hi)) | ((with_reducible refine gate_dst (N := 6) rfl ?_);refine box_event ?hg (N := 6) ?hd (cs := #[.bool false,.int .u64 0,.int .u64 0,.int .i64 0]) (t := 30) ?hr ?_;(case hd => rfl);(case hg => rfl);(case hr => exact Z566);intro gb403 hg w49 hbox hb;have n_ := jA (blk_below (g := gb396) (o := .cells #[.int .i64 a0_0,.int .i64 a0_1,.int .i64 a0_2,.int .i64 a0_3,.int .i64 a0_4,.int .i64 a0_5] 35 (0,0)) Z505 hb) (jA (blk_below (g := gb397) (o := .cells #[.bool false,.int .u64 0,.int .u64 0,.int .i64 0] 30 (0,0)) Z514 hb) (jA (below_step Z436 hb) (jA (hbox) (jA ((Z228 : w.heap.size ≤ gb403)) (jA ((Z228 : w.heap.size ≤ gb403)) (jA ((Z155 : gb396 ≠ gb403)) (jA ((Z157 : gb403 ≠ gb396)) (jA ((Z247 : gb397 ≠ gb403)) (Aside0.mk ((Z249 : gb403 ≠ gb397)))))))))));clear BK396 BK397 HB;obtain ⟨BK396,BK397,HB,BK403,GW403,GE403,NB396_403,NB403_396,NB397_403,NB403_397⟩ := n_;clear hb hbox hg;have hnb50 := NB403_396.out;have hnc50 := NB396_403.out;have hnb51 := NB403_397.out;have hnc51 := NB397_403.out;obtain ⟨hcz52_0,hcz52_1,hcz52_2,hcz52_3,hfz52_0,hfz52_1,hfz52_2,hfz52_3⟩ := impl_GainOf.cells4 BK403.out;obtain ⟨hcz53_0,hcz53_1,hcz53_2,hcz53_3,hcz53_4,hcz53_5,hfz53_0,hfz53_1,hfz53_2,hfz53_3,hfz53_4,hfz53_5⟩ := impl_GainOf.cells6 BK396.out) | ((with_reducible refine gate_callee (f := 21) rfl ?_);refine goesL_ (some 21) rfl rfl Try.func21 Z569 rfl #[.agg #[.int .i64 a0_4,.int .i64 a0_5],.int .i64 a1] rfl Z375 ?_;(with_reducible refine (impl_PlainGain.calls a0_4 a0_5 a1 t404 t405 t406 t407 t408 _ A4.out).mono ?_);rintro e w54 ⟨rfl,hb⟩;refine ⟨_,rfl,?_⟩;have n_ := jA (blk_below (g := gb396) (o := .cells #[.int .i64 a0_0,.int .i64 a0_1,.int .i64 a0_2,.int .i64 a0_3,.int .i64 a0_4,.int .i64 a0_5] 35 (0,0)) Z66 hb) (jA (blk_below (g := gb397) (o := .cells #[.bool false,.int .u64 0,.int .u64 0,.int .i64 0] 30 (0,0)) Z65 hb) (jA (blk_below (g := gb403) (o := .cells #[.bool t398,.int .u64 t399,.int .u64 t400,.int .i64 t401] 30 (0,0)) Z24 hb) (Aside0.mk (below_step Z423 hb))));clear BK396 BK397 BK403 HB;obtain ⟨BK396,BK397,BK403,HB⟩ := n_;(try clear hb);(try clear hb2);(try clear hk);(try clear hi)) | ((with_reducible refine gate_dst (N := 8) rfl ?_);refine box_event ?hg (N := 8) ?hd (cs := #[.bool false,.int .u64 0,.int .u64 0,.int .i64 0]) (t := 30) ?hr ?_;(case hd => rfl);(case hg => rfl);(case hr => exact Z566);intro gb409 hg w55 hbox hb;have n_ := jA (blk_below (g := gb396) (o := .cells #[.int .i64 a0_0,.int .i64 a0_1,.int .i64 a0_2,.int .i64 a0_3,.int .i64 a0_4,.int .i64 a0_5] 35 (0,0)) Z505 hb) (jA (blk_below (g := gb397) (o := .cells #[.bool false,.int .u64 0,.int .u64 0,.int .i64 0] 30 (0,0)) Z514 hb) (jA (blk_below (g := gb403) (o := .cells #[.bool t398,.int .u64 t399,.int .u64 t400,.int .i64 t401] 30 (0,0)) Z534 hb) (jA (below_step Z423 hb) (jA (hbox) (jA ((Z168 : w.heap.size ≤ gb409)) (jA ((Z168 : w.heap.size ≤ gb409)) (jA ((Z155 : gb396 ≠ gb409)) (jA ((Z157 : gb409 ≠ gb396)) (jA ((Z247 : gb397 ≠ gb409)) (jA ((Z249 : gb409 ≠ gb397)) (jA ((Z216 : gb403 ≠ gb409)) (Aside0.mk ((Z218 : gb409 ≠ gb403))))))))))))));clear BK396 BK397 BK403 HB;obtain ⟨BK396,BK397,BK403,HB,BK409,GW409,GE409,NB396_409,NB409_396,NB397_409,NB409_397,NB403_409,NB409_403⟩ := n_;clear hb hbox hg;have hnb56 := NB409_396.out;have hnc56 := NB396_409.out;have hnb57 := NB409_397.out;have hnc57 := NB397_409.out;have hnb58 := NB409_403.out;have hnc58 := NB403_409.out;obtain ⟨hcz59_0,hcz59_1,hcz59_2,hcz59_3,hfz59_0,hfz59_1,hfz59_2,hfz59_3⟩ := impl_GainOf.cells4 BK409.out;obtain ⟨hcz60_0,hcz60_1,hcz60_2,hcz60_3,hfz60_0,hfz60_1,hfz60_2,hfz60_3⟩ := impl_GainOf.cells4 BK397.out))
    refine bodyPost_ret (results_ct rfl _ _ gb397 30 #[.bool false,.int .u64 0,.int .u64 0,.int .i64 0] (0,0) _ rfl Z1 Try.underlying30 rfl Z569) rfl ?_
    exact ⟨Z558,Z172⟩

end Go.Proofs.Ytjcjehnjbgklbaa.QFnExactImproves
