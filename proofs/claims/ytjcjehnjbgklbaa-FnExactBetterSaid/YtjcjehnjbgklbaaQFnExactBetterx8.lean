/- The machine side of FnExactBetter: what each Go function that it reaches comes to. Conditions: none. -/
import Derived.Test.YtjcjehnjbgklbaaQFnExactBetterx0
import Derived.Test.YtjcjehnjbgklbaaQFnExactBetterx6
import Derived.Test.YtjcjehnjbgklbaaQFnExactBetterx7
namespace Go.Proofs.Ytjcjehnjbgklbaa.QFnExactBetter
open Go.RowKit Go.Proofs.YtjcjehnjbgklbaaW.PrintWords Go.Proofs.YtjcjehnjbgklbaaW.PrintLast Go.Proofs.YtjcjehnjbgklbaaW.PrintMore
attribute [local go_sem] max2_int min2_int max_two min_two max_three min_three max_four min_four   -- for this text's walks alone
set_option linter.unusedVariables false
set_option linter.unusedSimpArgs false

/-! ### impl_compareSizes: function 69 -/
def impl_compareSizes.f (k : Nat) (a0_0 : Bool) (a0_1 : Int) (a0_2 : Int) (a1_0 : Bool) (a1_1 : Int) (a1_2 : Int) : Option (Int) := (cmp_Compare_uint64.f a0_1 a1_1).bind fun t327 => ((cmp_Compare_uint64.f a0_2 a1_2).bind fun t328 => ((cmp_Or_int.f k (([t327,t328] : List Int))).bind fun t332 => (some t332)))
theorem impl_compareSizes.mono : ∀ a0 a1 a2 a3 a4 a5 k,LeO (impl_compareSizes.f k a0 a1 a2 a3 a4 a5) (impl_compareSizes.f (k + 1) a0 a1 a2 a3 a4 a5) := by
  intro a0 a1 a2 a3 a4 a5 k
  unfold impl_compareSizes.f
  repeat' first
      | (with_reducible exact cmp_Or_int.mono _ _)
      | (with_reducible exact LeO.refl _)
      | (with_reducible exact LeO.none _)
      | (with_reducible refine LeO.ite ?_ ?_)
      | (with_reducible refine LeO.bind ?_ (fun _ => ?_))
      | exact cmp_Or_int.mono _ _
      | exact LeO.none _
      | refine LeO.ite ?_ ?_
      | refine LeO.bind ?_ (fun _ => ?_)
def impl_compareSizes.T1 : Bool × List (List Nat × List Nat) := (true,[([],[]),([0],[0]),([],[]),([2],[2]),([1,3],[1,3]),([],[]),([5],[5]),([],[]),([7],[7]),([6,8,4],[6,8]),([4,9],[4,9]),([10,9],[10]),([11,11,0,1,2,3,4,5,6,7,8,9,10,11],[11])])
def impl_compareSizes.B1 : List Nat := [0,1,0,4,15,0,32,0,128,511,1023,2047,4095]
theorem impl_compareSizes.tab1 : rtab .any (opsOf Try.f69 1) = impl_compareSizes.T1 := by kernel_rfl
theorem impl_compareSizes.bits1 : waitsOk impl_compareSizes.T1.2 impl_compareSizes.B1 = true := by kernel_rfl
set_option maxHeartbeats 8000000 in
set_option maxRecDepth 100000 in
theorem impl_compareSizes.calls (k : Nat) (a0_0 : Bool) (a0_1 : Int) (a0_2 : Int) (a1_0 : Bool) (a1_1 : Int) (a1_2 : Int) (r : Int) (w : World) (h : impl_compareSizes.f k a0_0 a0_1 a0_2 a1_0 a1_1 a1_2 = some r) :
    Calls Try.prog 69 #[.agg #[.bool a0_0,.int .u64 a0_1,.int .u64 a0_2],.agg #[.bool a1_0,.int .u64 a1_1,.int .u64 a1_2]] w fun e w' => e = .returned (.int .i64 r) ∧ Below w.heap.size w w' := by
  have hu28 := Try.underlying28
  have HB := Aside0.mk (Below.refl w.heap.size w)
  have H : ((cmp_Compare_uint64.f a0_1 a1_1).bind fun t327 => ((cmp_Compare_uint64.f a0_2 a1_2).bind fun t328 => ((cmp_Or_int.f k (([t327,t328] : List Int))).bind fun t332 => (some t332)))) = some r := h
  clear h
  obtain ⟨t327,A30,H⟩ := Option.bind_eq_some_iff.mp H
  have A3 := Aside0.mk A30
  clear A30
  obtain ⟨t328,A40,H⟩ := Option.bind_eq_some_iff.mp H
  have A4 := Aside0.mk A40
  clear A40
  obtain ⟨y329,hy329⟩ : ∃ y_ : List Int,y_ = (([t327,t328] : List Int)) := ⟨_,rfl⟩
  replace H : ((cmp_Or_int.f k y329).bind fun t332 => (some t332)) = some r := by first | (rw [hy329];with_reducible exact H) | (have H2_ := (Option.bind_some _ _).symm.trans H;rw [hy329];with_reducible exact H2_) | (have H2_ := (Option.bind_some _ _).symm.trans H;with_reducible exact H2_) | with_reducible exact H | (rw [hy329];exact H) | exact H
  have Ny329 := Aside0.mk hy329
  clear hy329
  obtain ⟨t332,A50,H⟩ := Option.bind_eq_some_iff.mp H
  have A5 := Aside0.mk A50
  clear A50
  obtain rfl := Option.some.inj H
  go_enter Try.func69,Try.ntmps69
  try go_wp2_with (first | ((with_reducible refine gate_dst (N := 2) rfl ?_);refine box_event ?hg (N := 2) ?hd (cs := #[.bool a0_0,.int .u64 a0_1,.int .u64 a0_2]) (t := 28) ?hr ?_;(case hd => rfl);(case hg => rfl);(case hr => exact Z393);intro gb325 hg w6 hbox hb;have n_ := jA (below_step Z476 hb) (jA (hbox) (jA ((Z345 : w.heap.size ≤ gb325)) (Aside0.mk ((Z345 : w.heap.size ≤ gb325)))));clear HB;obtain ⟨HB,BK325,GW325,GE325⟩ := n_;clear hb hbox hg) | ((with_reducible refine gate_dst (N := 3) rfl ?_);refine box_event ?hg (N := 3) ?hd (cs := #[.bool a1_0,.int .u64 a1_1,.int .u64 a1_2]) (t := 28) ?hr ?_;(case hd => rfl);(case hg => rfl);(case hr => exact Z393);intro gb326 hg w7 hbox hb;have n_ := jA (blk_below (g := gb325) (o := .cells #[.bool a0_0,.int .u64 a0_1,.int .u64 a0_2] 28 (0,0)) Z377 hb) (jA (below_step Z467 hb) (jA (hbox) (jA ((Z334 : w.heap.size ≤ gb326)) (jA ((Z334 : w.heap.size ≤ gb326)) (jA ((by rw [hg];exact Nat.ne_of_lt (blk_lt (g := gb325) (o := .cells #[.bool a0_0,.int .u64 a0_1,.int .u64 a0_2] 28 (0,0)) Z377) : gb325 ≠ gb326)) (Aside0.mk ((by rw [hg];exact Nat.ne_of_gt (blk_lt (g := gb325) (o := .cells #[.bool a0_0,.int .u64 a0_1,.int .u64 a0_2] 28 (0,0)) Z377) : gb326 ≠ gb325))))))));clear BK325 HB;obtain ⟨BK325,HB,BK326,GW326,GE326,NB325_326,NB326_325⟩ := n_;clear hb hbox hg))
  have n0_ := Aside0.mk (blk_drew BK325.out)
  have n1_ := Aside0.mk (blk_drew BK326.out)
  have n2_ := Aside0.mk (below_drew1 HB.out)
  clear BK325
  clear BK326
  clear HB
  have BK325 := n0_
  have BK326 := n1_
  have HB := n2_
  clear n0_ n1_ n2_
  refine start_ (n := 13) (S := fun w' => w'.cell? ⟨gb325,0,none⟩ = some (.bool a0_0) ∧ w'.cell? ⟨gb325,1,none⟩ = some (.int .u64 a0_1) ∧ w'.cell? ⟨gb325,2,none⟩ = some (.int .u64 a0_2) ∧ w'.cell? ⟨gb326,0,none⟩ = some (.bool a1_0) ∧ w'.cell? ⟨gb326,1,none⟩ = some (.int .u64 a1_1) ∧ w'.cell? ⟨gb326,2,none⟩ = some (.int .u64 a1_2)) (ds := []) #[false,false,false,false,false,false,false,false,false,false,false,false,false] Z396 rfl rfl ⟨(blk_cell BK325.out 0).trans rfl,(blk_cell BK325.out 1).trans rfl,(blk_cell BK325.out 2).trans rfl,(blk_cell BK326.out 0).trans rfl,(blk_cell BK326.out 1).trans rfl,(blk_cell BK326.out 2).trans rfl⟩ (fun hHeld => ?_);refine with_tabW impl_compareSizes.tab1 impl_compareSizes.bits1 (fun HT_ HW_ => ?_)
  generalize w7.drew = w8 at BK325 BK326 HB hHeld ⊢
  refine pure_ (i := 0) (N := some 5) (v := ?_) (a' := ?_) #[true,false,false,false,false,false,false,false,false,false,false,false,false] rfl rfl (any_of HT_.out Z396) (fun _ _ _ h => h) (Or.inl ⟨Z398,?_⟩) ?_ ?_
  rotate_left
  · intro w'
    go_simp
    with_reducible rfl
  rotate_left
  · simp only [Act.put,List.setIfInBounds_toArray,List.set_cons_zero,List.set_cons_succ,i64_w,i32_w]
    rfl
  refine pure_ (i := 2) (N := some 7) (v := ?_) (a' := ?_) #[true,false,true,false,false,false,false,false,false,false,false,false,false] rfl rfl (any_of HT_.out Z396) (fun _ _ _ h => h) (Or.inl ⟨Z398,?_⟩) ?_ ?_
  rotate_left
  · intro w'
    go_simp
    with_reducible rfl
  rotate_left
  · simp only [Act.put,List.setIfInBounds_toArray,List.set_cons_zero,List.set_cons_succ,i64_w,i32_w]
    rfl
  refine pure_ (i := 5) (N := some 10) (v := ?_) (a' := ?_) #[true,false,true,false,false,true,false,false,false,false,false,false,false] rfl rfl (any_of HT_.out Z396) (fun _ _ _ h => h) (Or.inl ⟨Z398,?_⟩) ?_ ?_
  rotate_left
  · intro w'
    go_simp
    with_reducible rfl
  rotate_left
  · simp only [Act.put,List.setIfInBounds_toArray,List.set_cons_zero,List.set_cons_succ,i64_w,i32_w]
    rfl
  refine pure_ (i := 7) (N := some 12) (v := ?_) (a' := ?_) #[true,false,true,false,false,true,false,true,false,false,false,false,false] rfl rfl (any_of HT_.out Z396) (fun _ _ _ h => h) (Or.inl ⟨Z398,?_⟩) ?_ ?_
  rotate_left
  · intro w'
    go_simp
    with_reducible rfl
  rotate_left
  · simp only [Act.put,List.setIfInBounds_toArray,List.set_cons_zero,List.set_cons_succ,i64_w,i32_w]
    rfl
  refine take_ (i := 1) (N := some 6) (v := ?_) (a' := ?_) #[true,true,true,false,false,true,false,true,false,false,false,false,false] rfl rfl (take_ofW HT_.out HW_.out Z396) (fun _ _ _ h => h) (Or.inl ⟨Z398,?_⟩) hHeld ?_ ?_
  rotate_left
  · rintro w' ⟨s0,s1,s2,s3,s4,s5⟩
    go_simp
    with_reducible rfl
  rotate_left
  · simp only [Act.put,List.setIfInBounds_toArray,List.set_cons_zero,List.set_cons_succ,i64_w,i32_w]
    rfl
  refine take_ (i := 3) (N := some 8) (v := ?_) (a' := ?_) #[true,true,true,true,false,true,false,true,false,false,false,false,false] rfl rfl (take_ofW HT_.out HW_.out Z396) (fun _ _ _ h => h) (Or.inl ⟨Z398,?_⟩) hHeld ?_ ?_
  rotate_left
  · rintro w' ⟨s0,s1,s2,s3,s4,s5⟩
    go_simp
    with_reducible rfl
  rotate_left
  · simp only [Act.put,List.setIfInBounds_toArray,List.set_cons_zero,List.set_cons_succ,i64_w,i32_w]
    rfl
  refine take_ (i := 6) (N := some 11) (v := ?_) (a' := ?_) #[true,true,true,true,false,true,true,true,false,false,false,false,false] rfl rfl (take_ofW HT_.out HW_.out Z396) (fun _ _ _ h => h) (Or.inl ⟨Z398,?_⟩) hHeld ?_ ?_
  rotate_left
  · rintro w' ⟨s0,s1,s2,s3,s4,s5⟩
    go_simp
    with_reducible rfl
  rotate_left
  · simp only [Act.put,List.setIfInBounds_toArray,List.set_cons_zero,List.set_cons_succ,i64_w,i32_w]
    rfl
  refine take_ (i := 8) (N := some 13) (v := ?_) (a' := ?_) #[true,true,true,true,false,true,true,true,true,false,false,false,false] rfl rfl (take_ofW HT_.out HW_.out Z396) (fun _ _ _ h => h) (Or.inl ⟨Z398,?_⟩) hHeld ?_ ?_
  rotate_left
  · rintro w' ⟨s0,s1,s2,s3,s4,s5⟩
    go_simp
    with_reducible rfl
  rotate_left
  · simp only [Act.put,List.setIfInBounds_toArray,List.set_cons_zero,List.set_cons_succ,i64_w,i32_w]
    rfl
  refine one_ (i := 4) (N := some 9) #[true,true,true,true,true,true,true,true,true,false,false,false,false] rfl rfl (one_of HT_.out Z396) Z397 (fun K hK => ?_)
  refine goes_ Try.func83 Z396 rfl #[.int .u64 a0_1,.int .u64 a1_1] Z398 rfl rfl Z353 ?_
  with_reducible refine (cmp_Compare_uint64.calls a0_1 a1_1 t327 _ A3.out).mono ?_
  rintro e w' ⟨rfl,⟨nd,rfl⟩⟩
  refine ⟨_,rfl,?_⟩
  refine hK.out _ _ ⟨(blk_cell BK325.out 0).trans rfl,(blk_cell BK325.out 1).trans rfl,(blk_cell BK325.out 2).trans rfl,(blk_cell BK326.out 0).trans rfl,(blk_cell BK326.out 1).trans rfl,(blk_cell BK326.out 2).trans rfl⟩ (fun hHeld => ?_)
  clear hK K
  refine norm_ (a' := ?_) ?_ ?_
  rotate_left
  · show Act.put _ (some 9) _ = _
    simp only [Act.put,List.setIfInBounds_toArray,List.set_cons_zero,List.set_cons_succ,i64_w,i32_w]
    rfl
  refine one_ (i := 9) (N := some 14) #[true,true,true,true,true,true,true,true,true,true,false,false,false] rfl rfl (one_of HT_.out Z396) Z397 (fun K hK => ?_)
  refine goes_ Try.func83 Z396 rfl #[.int .u64 a0_2,.int .u64 a1_2] Z398 rfl rfl Z353 ?_
  with_reducible refine (cmp_Compare_uint64.calls a0_2 a1_2 t328 _ A4.out).mono ?_
  rintro e w' ⟨rfl,⟨nd,rfl⟩⟩
  refine ⟨_,rfl,?_⟩
  refine hK.out _ _ ⟨(blk_cell BK325.out 0).trans rfl,(blk_cell BK325.out 1).trans rfl,(blk_cell BK325.out 2).trans rfl,(blk_cell BK326.out 0).trans rfl,(blk_cell BK326.out 1).trans rfl,(blk_cell BK326.out 2).trans rfl⟩ (fun hHeld => ?_)
  clear hK K
  refine norm_ (a' := ?_) ?_ ?_
  rotate_left
  · show Act.put _ (some 14) _ = _
    simp only [Act.put,List.setIfInBounds_toArray,List.set_cons_zero,List.set_cons_succ,i64_w,i32_w]
    rfl
  refine one_ (i := 10) (N := some 15) #[true,true,true,true,true,true,true,true,true,true,true,false,false] rfl rfl (one_of HT_.out Z396) Z397 (fun K hK => ?_)
  refine Kd.R_lit_step (Kd.int .i64) _ 3 ?hg (N := 15) ?hd (xs := ([t327,t328] : List Int)) (inner := [.int .i64 t327,.int .i64 t328]) (ok := fun _ => True) (okp := fun _ => True) ?hr ?hp (fun _ hk => hk) trivial (Below.refl _ _) (Nat.le_refl _) Z537 ?_;(case hd => rfl);(case hg => rfl);(case hr => exact Z393);(case hp => exact (Reps.one (show Kd.M (Kd.int .i64) _ _ _ t327 [.int .i64 t327] from rfl) (Reps.one (show Kd.M (Kd.int .i64) _ _ _ t328 [.int .i64 t328] from rfl) (Reps.none _ _))))
  intro v330 w9 ho10 hb hg_ hnew_
  clear hg_ hnew_
  (first | rw [← Ny329.out] at ho10 | (simp only [Int.reduceToNat] at ho10;rw [← Ny329.out] at ho10))
  have n0_ := Aside0.mk (Kd.R_lower ho10 (below_size Z328))
  have n1_ := Aside0.mk (blk_below (g := gb325) (o := .cells #[.bool a0_0,.int .u64 a0_1,.int .u64 a0_2] 28 (0,0)) Z377 hb)
  have n2_ := Aside0.mk (blk_below (g := gb326) (o := .cells #[.bool a1_0,.int .u64 a1_1,.int .u64 a1_2] 28 (0,0)) (by (with_reducible repeat (first | refine bA ?_ _ | refine bB ?_ | refine bC ?_ _));exact BK326.out) hb)
  have n3_ := Aside0.mk (below_step Z328 hb)
  clear BK325
  clear BK326
  clear HB
  have HO331 := n0_
  have BK325 := n1_
  have BK326 := n2_
  have HB := n3_
  clear n0_ n1_ n2_ n3_
  clear hb ho10
  obtain ⟨Ao11,co11,eo11⟩ := Kd.R_slice HO331.out
  (first | subst eo11 | (injection eo11 with f1_ f2_ f3_;have f4_ := f1_.symm;have f5_ := f3_.symm;clear f1_ f2_ f3_;subst f4_;subst f5_))
  refine hK.out _ _ ⟨(blk_cell BK325.out 0).trans rfl,(blk_cell BK325.out 1).trans rfl,(blk_cell BK325.out 2).trans rfl,(blk_cell BK326.out 0).trans rfl,(blk_cell BK326.out 1).trans rfl,(blk_cell BK326.out 2).trans rfl⟩ (fun hHeld => ?_)
  clear hK K
  refine norm_ (a' := ?_) ?_ ?_
  rotate_left
  · show Act.put _ (some 15) _ = _
    simp only [Act.put,List.setIfInBounds_toArray,List.set_cons_zero,List.set_cons_succ,i64_w,i32_w]
    rfl
  refine one_ (i := 11) (N := some 16) #[true,true,true,true,true,true,true,true,true,true,true,true,false] rfl rfl (one_of HT_.out Z396) Z397 (fun K hK => ?_)
  refine goes_ Try.func55 Z396 rfl #[.slice Ao11 y329.length co11] Z398 rfl rfl Z353 ?_
  with_reducible refine (cmp_Or_int.calls k _ _ y329 t332 _ ?side1 ?side2 A5.out).mono ?_
  (case side1 => repeat (first | exact (Kd.R_reads' HO331.out).2.2 | (with_reducible refine Kd.C_alloc ?_ _) | (with_reducible refine Kd.C_drewN ?_ _) | (with_reducible refine Kd.C_drew ?_)))
  (case side2 => exact (Kd.R_reads' HO331.out).2.1)
  rintro e w' ⟨rfl,⟨nd,rfl⟩⟩
  refine ⟨_,rfl,?_⟩
  refine hK.out _ _ ⟨(blk_cell BK325.out 0).trans rfl,(blk_cell BK325.out 1).trans rfl,(blk_cell BK325.out 2).trans rfl,(blk_cell BK326.out 0).trans rfl,(blk_cell BK326.out 1).trans rfl,(blk_cell BK326.out 2).trans rfl⟩ (fun hHeld => ?_)
  clear hK K
  refine norm_ (a' := ?_) ?_ ?_
  rotate_left
  · show Act.put _ (some 16) _ = _
    simp only [Act.put,List.setIfInBounds_toArray,List.set_cons_zero,List.set_cons_succ,i64_w,i32_w]
    rfl
  refine pure_ (i := 12) (N := some 4) (v := ?_) (a' := ?_) #[true,true,true,true,true,true,true,true,true,true,true,true,true] rfl rfl (any_of HT_.out Z396) (fun _ _ _ h => h) (Or.inl ⟨Z398,?_⟩) ?_ ?_
  rotate_left
  · intro w'
    go_simp
    with_reducible rfl
  rotate_left
  · simp only [Act.put,List.setIfInBounds_toArray,List.set_cons_zero,List.set_cons_succ,i64_w,i32_w]
    rfl
  refine done_ (done_of HT_.out Z396) ?_
  try go_wp2
  go_ret
  exact ⟨Z385,Z328⟩

/-! ### bits_Sub64: function 70: the model stands in for it -/
def bits_Sub64.f (a0 : Int) (a1 : Int) (a2 : Int) : Option (Int × Int) := if 0 ≤ a0 ∧ 0 ≤ a1 ∧ a1 < 18446744073709551616 ∧ 0 ≤ a2 ∧ a2 ≤ 1 then some ((a0 + 18446744073709551616 - a1 - a2) % 18446744073709551616,if a0 < a1 + a2 then 1 else 0) else none
def sub64E : Array Value → Sem Value := fun args => do
  let (x,y,b) ← Extern.MathBitsCarry.three "Sub64" args
  pure (Extern.MathBitsCarry.pair ((x + Extern.MathBitsCarry.m64 - y - b) % Extern.MathBitsCarry.m64) (if x < y + b then 1 else 0))
theorem run_sub64E {P : Program} (x y b : Nat) (hb : b ≤ 1) (w : World) : (sub64E #[.int .u64 x,.int .u64 y,.int .u64 b]).run P w = .ok (.tuple #[.int .u64 (((x + 18446744073709551616 - y - b) % 18446744073709551616 : Nat) : Int),.int .u64 ((if x < y + b then 1 else 0 : Nat) : Int)]) w := by
  have : b = 0 ∨ b = 1 := by omega
  rcases this with rfl | rfl <;> rfl
theorem bits_Sub64.run (a0 a1 a2 r1 r2 : Int) (h : bits_Sub64.f a0 a1 a2 = some (r1,r2)) (w : World) : (callFunc 70 #[.int .u64 a0,.int .u64 a1,.int .u64 a2]).run Try.prog w = .ok (.value (.tuple #[.int .u64 r1,.int .u64 r2])) w := by
  unfold bits_Sub64.f at h
  split at h
  · rename_i g
    simp only [Option.some.injEq,Prod.mk.injEq] at h
    obtain ⟨rfl,rfl⟩ := h
    obtain ⟨g0,g1,g4,g2,g3⟩ := g
    obtain ⟨x,rfl⟩ := Int.eq_ofNat_of_zero_le g0
    obtain ⟨y,rfl⟩ := Int.eq_ofNat_of_zero_le g1
    obtain ⟨b,rfl⟩ := Int.eq_ofNat_of_zero_le g2
    rw [run_callFunc_extern Try.func70 Z396 Z396 Z396 (e := sub64E) Z396,run_sub64E x y b (by omega)]
    have e1 : (((x + 18446744073709551616 - y - b) % 18446744073709551616 : Nat) : Int) = ((x : Int) + 18446744073709551616 - y - b) % 18446744073709551616 := by omega
    have e2 : ((if x < y + b then 1 else 0 : Nat) : Int) = if (x : Int) < y + b then 1 else 0 := by by_cases c : x < y + b <;> simp [c] <;> omega
    rw [e1,e2]
    rfl
  · simp at h

/-! ### impl_AddWide: function 49 -/
theorem impl_AddWide.cells3 {w : World} {g : Nat} {t : TypeId} {a0 a1 a2 : Value} (h : w.heap[g]? = some (.cells #[a0,a1,a2] t (0,0))) : w.cell? ⟨g,0,none⟩ = some a0 ∧ w.cell? ⟨g,1,none⟩ = some a1 ∧ w.cell? ⟨g,2,none⟩ = some a2 ∧ w.frozen? ⟨g,0,none⟩ = false ∧ w.frozen? ⟨g,1,none⟩ = false ∧ w.frozen? ⟨g,2,none⟩ = false := ⟨(blk_cell h 0).trans rfl,(blk_cell h 1).trans rfl,(blk_cell h 2).trans rfl,blk_frozen h 0,blk_frozen h 1,blk_frozen h 2⟩
def impl_AddWide.j0 : Nat → Bool → Bool → Int → Int → Bool → Int → Int → Option (Bool × Int × Int × Bool)
  | 0,_,_,_,_,_,_,_ => none
  | k + 1,x22,x334000,x334001,x334002,x335000,x335001,x335002 => if x22 = true then (some (false,0,0,false)) else (if (x334000 != x335000) = true then ((impl_compareSizes.f k x334000 x334001 x334002 x335000 x335001 x335002).bind fun t338 => (if t338 < 0 then ((bits_Sub64.f x335002 x334002 0).bind fun bt339 => ((bits_Sub64.f x335001 x334001 bt339.2).bind fun bt341 => ((impl_wideOf.f x335000 bt341.1 bt339.1).bind fun bt343 => (some (bt343.1,bt343.2.1,bt343.2.2,true))))) else ((bits_Sub64.f x334002 x335002 0).bind fun bt346 => ((bits_Sub64.f x334001 x335001 bt346.2).bind fun bt348 => ((impl_wideOf.f x334000 bt348.1 bt346.1).bind fun bt350 => (some (bt350.1,bt350.2.1,bt350.2.2,true))))))) else ((bits_Add64.f x334002 x335002 0).bind fun bt353 => ((bits_Add64.f x334001 x335001 bt353.2).bind fun bt355 => ((impl_wideOf.f x334000 bt355.1 bt353.1).bind fun bt357 => ((impl_WideOk.f bt357.1 bt357.2.1 bt357.2.2).bind fun t361 => (if t361 = true then (some (bt357.1,bt357.2.1,bt357.2.2,true)) else (some (false,0,0,false))))))))
def impl_AddWide.f (k : Nat) (a0_0 : Bool) (a0_1 : Int) (a0_2 : Int) (a1_0 : Bool) (a1_1 : Int) (a1_2 : Int) : Option (Bool × Int × Int × Bool) := (impl_WideOk.f a0_0 a0_1 a0_2).bind fun t336 => (if t336 = true then ((impl_WideOk.f a1_0 a1_1 a1_2).bind fun t337 => (impl_AddWide.j0 k (!t337) a0_0 a0_1 a0_2 a1_0 a1_1 a1_2)) else (impl_AddWide.j0 k true a0_0 a0_1 a0_2 a1_0 a1_1 a1_2))
theorem impl_AddWide.mono_l : ∀ k,(∀ y0 y1 y2 y3 y4 y5 y6,LeO (impl_AddWide.j0 k y0 y1 y2 y3 y4 y5 y6) (impl_AddWide.j0 (k + 1) y0 y1 y2 y3 y4 y5 y6))
  | 0 => fun _ _ _ _ _ _ _ r h => by simp [impl_AddWide.j0] at h
  | k + 1 => by
    have ih0 := impl_AddWide.mono_l k
    · intro y0 y1 y2 y3 y4 y5 y6
      unfold impl_AddWide.j0
      repeat' first
      | (with_reducible exact ih0 _ _ _ _ _ _ _)
      | (with_reducible exact impl_compareSizes.mono _ _ _ _ _ _ _)
      | (with_reducible exact LeO.refl _)
      | (with_reducible exact LeO.none _)
      | (with_reducible refine LeO.ite ?_ ?_)
      | (with_reducible refine LeO.bind ?_ (fun _ => ?_))
      | exact ih0 _ _ _ _ _ _ _
      | exact impl_compareSizes.mono _ _ _ _ _ _ _
      | exact LeO.none _
      | refine LeO.ite ?_ ?_
      | refine LeO.bind ?_ (fun _ => ?_)
theorem impl_AddWide.mono : ∀ a0 a1 a2 a3 a4 a5 k,LeO (impl_AddWide.f k a0 a1 a2 a3 a4 a5) (impl_AddWide.f (k + 1) a0 a1 a2 a3 a4 a5) := by
  intro a0 a1 a2 a3 a4 a5 k
  have ih0 := impl_AddWide.mono_l k
  unfold impl_AddWide.f
  repeat' first
      | (with_reducible exact ih0 _ _ _ _ _ _ _)
      | (with_reducible exact impl_compareSizes.mono _ _ _ _ _ _ _)
      | (with_reducible exact LeO.refl _)
      | (with_reducible exact LeO.none _)
      | (with_reducible refine LeO.ite ?_ ?_)
      | (with_reducible refine LeO.bind ?_ (fun _ => ?_))
      | exact ih0 _ _ _ _ _ _ _
      | exact impl_compareSizes.mono _ _ _ _ _ _ _
      | exact LeO.none _
      | refine LeO.ite ?_ ?_
      | refine LeO.bind ?_ (fun _ => ?_)
set_option maxHeartbeats 8000000 in
set_option maxRecDepth 100000 in
theorem impl_AddWide.calls (k : Nat) (a0_0 : Bool) (a0_1 : Int) (a0_2 : Int) (a1_0 : Bool) (a1_1 : Int) (a1_2 : Int) (r1 : Bool) (r2 : Int) (r3 : Int) (r4 : Bool) (w : World) (h : impl_AddWide.f k a0_0 a0_1 a0_2 a1_0 a1_1 a1_2 = some (r1,r2,r3,r4)) :
    Calls Try.prog 49 #[.agg #[.bool a0_0,.int .u64 a0_1,.int .u64 a0_2],.agg #[.bool a1_0,.int .u64 a1_1,.int .u64 a1_2]] w fun e w' => e = .returned (.tuple #[.agg #[.bool r1,.int .u64 r2,.int .u64 r3],.bool r4]) ∧ Below w.heap.size w w' := by
  have hu28 := Try.underlying28
  have HB := Aside0.mk (Below.refl w.heap.size w)
  have H : ((impl_WideOk.f a0_0 a0_1 a0_2).bind fun t336 => (if t336 = true then ((impl_WideOk.f a1_0 a1_1 a1_2).bind fun t337 => (impl_AddWide.j0 k (!t337) a0_0 a0_1 a0_2 a1_0 a1_1 a1_2)) else (impl_AddWide.j0 k true a0_0 a0_1 a0_2 a1_0 a1_1 a1_2))) = some (r1,r2,r3,r4) := h
  clear h
  have HC3 := Aside0.mk H
  clear H
  go_enter Try.func49,Try.ntmps49
  go_upto_region 1 with (first | ((with_reducible refine gate_dst (N := 2) rfl ?_);refine box_event ?hg (N := 2) ?hd (cs := #[.bool a0_0,.int .u64 a0_1,.int .u64 a0_2]) (t := 28) ?hr ?_;(case hd => rfl);(case hg => rfl);(case hr => exact Z393);intro gb333 hg w4 hbox hb;have n_ := jA (below_step Z476 hb) (jA (hbox) (jA ((Z345 : w.heap.size ≤ gb333)) (Aside0.mk ((Z345 : w.heap.size ≤ gb333)))));clear HB;obtain ⟨HB,BK333,GW333,GE333⟩ := n_;clear hb hbox hg) | ((with_reducible refine gate_dst (N := 3) rfl ?_);refine box_event ?hg (N := 3) ?hd (cs := #[.bool a1_0,.int .u64 a1_1,.int .u64 a1_2]) (t := 28) ?hr ?_;(case hd => rfl);(case hg => rfl);(case hr => exact Z393);intro gb334 hg w5 hbox hb;have n_ := jA (blk_below (g := gb333) (o := .cells #[.bool a0_0,.int .u64 a0_1,.int .u64 a0_2] 28 (0,0)) Z488 hb) (jA (below_step Z466 hb) (jA (hbox) (jA ((Z333 : w.heap.size ≤ gb334)) (jA ((Z333 : w.heap.size ≤ gb334)) (jA ((Z258 : gb333 ≠ gb334)) (Aside0.mk ((Z260 : gb334 ≠ gb333))))))));clear BK333 HB;obtain ⟨BK333,HB,BK334,GW334,GE334,NB333_334,NB334_333⟩ := n_;clear hb hbox hg) | ((with_reducible refine gate_dst (N := 4) rfl ?_);refine box_event ?hg (N := 4) ?hd (cs := #[.bool false,.int .u64 0,.int .u64 0]) (t := 28) ?hr ?_;(case hd => rfl);(case hg => rfl);(case hr => exact Z393);intro gb335 hg w6 hbox hb;have n_ := jA (blk_below (g := gb333) (o := .cells #[.bool a0_0,.int .u64 a0_1,.int .u64 a0_2] 28 (0,0)) Z488 hb) (jA (blk_below (g := gb334) (o := .cells #[.bool a1_0,.int .u64 a1_1,.int .u64 a1_2] 28 (0,0)) Z492 hb) (jA (below_step Z441 hb) (jA (hbox) (jA ((Z227 : w.heap.size ≤ gb335)) (jA ((Z227 : w.heap.size ≤ gb335)) (jA ((Z258 : gb333 ≠ gb335)) (jA ((Z260 : gb335 ≠ gb333)) (jA ((Z262 : gb334 ≠ gb335)) (Aside0.mk ((Z265 : gb335 ≠ gb334)))))))))));clear BK333 BK334 HB;obtain ⟨BK333,BK334,HB,BK335,GW335,GE335,NB333_335,NB335_333,NB334_335,NB335_334⟩ := n_;clear hb hbox hg))
  (try simp only [Act.put,List.setIfInBounds_toArray,List.set_cons_zero,List.set_cons_succ])
  go_cut [22] (fun v22 wc => ∃ (kq : Nat) (x22_2 : Bool),v22 = .bool x22_2 ∧ Aside0 (impl_AddWide.j0 kq x22_2 a0_0 a0_1 a0_2 a1_0 a1_1 a1_2 = some (r1,r2,r3,r4)) ∧ Aside0 (kq ≤ k) ∧ Aside0 (wc.heap[gb333]? = some (.cells #[.bool a0_0,.int .u64 a0_1,.int .u64 a0_2] 28 (0,0))) ∧ Aside0 (wc.heap[gb334]? = some (.cells #[.bool a1_0,.int .u64 a1_1,.int .u64 a1_2] 28 (0,0))) ∧ Aside0 (wc.heap[gb335]? = some (.cells #[.bool false,.int .u64 0,.int .u64 0] 28 (0,0))) ∧ Aside0 (Below w.heap.size w wc))
  case first =>
    have H := HC3.out
    clear HC3
    obtain ⟨t336,A70,H⟩ := Option.bind_eq_some_iff.mp H
    have A7 := Aside0.mk A70
    clear A70
    by_cases c8 : t336 = true
    · subst c8
      have H1 : ((impl_WideOk.f a1_0 a1_1 a1_2).bind fun t337 => (impl_AddWide.j0 k (!t337) a0_0 a0_1 a0_2 a1_0 a1_1 a1_2)) = some (r1,r2,r3,r4) := by rw [if_pos rfl] at H;exact H
      clear H
      have H := H1
      clear H1
      obtain ⟨t337,A90,H⟩ := Option.bind_eq_some_iff.mp H
      have A9 := Aside0.mk A90
      clear A90
      have H' := Aside0.mk H
      clear H
      have hnb10 := NB333_334.out
      have hnc10 := NB334_333.out
      have hnb11 := NB333_335.out
      have hnc11 := NB335_333.out
      obtain ⟨hcz12_0,hcz12_1,hcz12_2,hfz12_0,hfz12_1,hfz12_2⟩ := impl_AddWide.cells3 BK333.out
      go_wp2_with (first | ((with_reducible refine gate_callee (f := 31) rfl ?_);refine goesL_ (some 16) rfl rfl Try.func31 Z396 rfl #[.agg #[.bool a0_0,.int .u64 a0_1,.int .u64 a0_2]] rfl Z353 ?_;(with_reducible refine (impl_WideOk.calls a0_0 a0_1 a0_2 true _ A7.out).mono ?_);rintro e w13 ⟨rfl,hb⟩;refine ⟨_,rfl,?_⟩;have n_ := jA (blk_below (g := gb333) (o := .cells #[.bool a0_0,.int .u64 a0_1,.int .u64 a0_2] 28 (0,0)) Z488 hb) (jA (blk_below (g := gb334) (o := .cells #[.bool a1_0,.int .u64 a1_1,.int .u64 a1_2] 28 (0,0)) Z492 hb) (jA (blk_below (g := gb335) (o := .cells #[.bool false,.int .u64 0,.int .u64 0] 28 (0,0)) Z495 hb) (Aside0.mk (below_step Z416 hb))));clear BK333 BK334 BK335 HB;obtain ⟨BK333,BK334,BK335,HB⟩ := n_;(try clear hb);(try clear hb2);(try clear hk);(try clear hi);have hnb14 := NB334_335.out;have hnc14 := NB335_334.out;obtain ⟨hcz15_0,hcz15_1,hcz15_2,hfz15_0,hfz15_1,hfz15_2⟩ := impl_AddWide.cells3 BK334.out) | (go_at_call 31;(with_reducible refine (impl_WideOk.calls a1_0 a1_1 a1_2 t337 _ A9.out).mono ?_);rintro e w16 ⟨rfl,hb⟩;have n_ := jA (blk_below (g := gb333) (o := .cells #[.bool a0_0,.int .u64 a0_1,.int .u64 a0_2] 28 (0,0)) Z488 hb) (jA (blk_below (g := gb334) (o := .cells #[.bool a1_0,.int .u64 a1_1,.int .u64 a1_2] 28 (0,0)) Z492 hb) (jA (blk_below (g := gb335) (o := .cells #[.bool false,.int .u64 0,.int .u64 0] 28 (0,0)) Z495 hb) (Aside0.mk (below_step Z416 hb))));clear BK333 BK334 BK335 HB;obtain ⟨BK333,BK334,BK335,HB⟩ := n_;(try clear hb);(try clear hb2);(try clear hk);(try clear hi)))
      go_meet
      case rel => exact ⟨_,(!t337),Z392,H',⟨Z394⟩,⟨Z488⟩,⟨Z492⟩,⟨Z495⟩,⟨Z416⟩⟩
    · replace c8 := Bool.eq_false_iff.mpr c8
      subst c8
      have H1 : (impl_AddWide.j0 k true a0_0 a0_1 a0_2 a1_0 a1_1 a1_2) = some (r1,r2,r3,r4) := by rw [if_neg (show ¬ (false = true) by decide)] at H;exact H
      clear H
      have H := H1
      clear H1
      have H' := Aside0.mk H
      clear H
      have hnb17 := NB333_334.out
      have hnc17 := NB334_333.out
      have hnb18 := NB333_335.out
      have hnc18 := NB335_333.out
      obtain ⟨hcz19_0,hcz19_1,hcz19_2,hfz19_0,hfz19_1,hfz19_2⟩ := impl_AddWide.cells3 BK333.out
      go_wp2_with (first | ((with_reducible refine gate_callee (f := 31) rfl ?_);refine goesL_ (some 16) rfl rfl Try.func31 Z396 rfl #[.agg #[.bool a0_0,.int .u64 a0_1,.int .u64 a0_2]] rfl Z353 ?_;(with_reducible refine (impl_WideOk.calls a0_0 a0_1 a0_2 false _ A7.out).mono ?_);rintro e w20 ⟨rfl,hb⟩;refine ⟨_,rfl,?_⟩;have n_ := jA (blk_below (g := gb333) (o := .cells #[.bool a0_0,.int .u64 a0_1,.int .u64 a0_2] 28 (0,0)) Z488 hb) (jA (blk_below (g := gb334) (o := .cells #[.bool a1_0,.int .u64 a1_1,.int .u64 a1_2] 28 (0,0)) Z492 hb) (jA (blk_below (g := gb335) (o := .cells #[.bool false,.int .u64 0,.int .u64 0] 28 (0,0)) Z495 hb) (Aside0.mk (below_step Z416 hb))));clear BK333 BK334 BK335 HB;obtain ⟨BK333,BK334,BK335,HB⟩ := n_;(try clear hb);(try clear hb2);(try clear hk);(try clear hi)))
      go_meet
      case rel => exact ⟨_,(true),Z392,H',⟨Z394⟩,⟨Z488⟩,⟨Z492⟩,⟨Z495⟩,⟨Z416⟩⟩
  case rest =>
    clear HC3
    try clear c1
    try clear p2
    try clear c3
    try clear c4
    try clear c8
    try clear c10
    try clear c11
    try clear c14
    try clear c17
    try clear c18
    try clear hcz12_0
    try clear hcz12_1
    try clear hcz12_2
    try clear hcz15_0
    try clear hcz15_1
    try clear hcz15_2
    try clear hcz19_0
    try clear hcz19_1
    try clear hcz19_2
    try clear hfz12_0
    try clear hfz12_1
    try clear hfz12_2
    try clear hfz15_0
    try clear hfz15_1
    try clear hfz15_2
    try clear hfz19_0
    try clear hfz19_1
    try clear hfz19_2
    obtain ⟨kq,x22_2,rfl,HA,HJ2,BK333,BK334,BK335,HB⟩ := hcut
    cases kq with
    | zero => exact absurd HA.out (by simp [impl_AddWide.j0])
    | succ kj2 =>
      have H := HA.out
      clear HA
      simp only [impl_AddWide.j0] at H
      by_cases c21 : x22_2 = true
      · subst c21
        have H1 : (some (false,0,0,false)) = some (r1,r2,r3,r4) := by rw [if_pos rfl] at H;exact H
        clear H
        have H := H1
        clear H1
        simp only [Option.some.injEq,Prod.mk.injEq] at H
        obtain ⟨rfl,rfl,rfl,rfl⟩ := H
        have hnb22 := NB335_333.out
        have hnc22 := NB333_335.out
        have hnb23 := NB335_334.out
        have hnc23 := NB334_335.out
        obtain ⟨hcz24_0,hcz24_1,hcz24_2,hfz24_0,hfz24_1,hfz24_2⟩ := impl_AddWide.cells3 BK335.out
        go_wp2
        refine bodyPost_ret (results_ct rfl _ _ gb335 28 #[.bool false,.int .u64 0,.int .u64 0] (0,0) _ rfl Z56 Try.underlying28 rfl Z396) rfl ?_
        exact ⟨Z385,Z416⟩
      · replace c21 := Bool.eq_false_iff.mpr c21
        subst c21
        have H1 : (if (a0_0 != a1_0) = true then ((impl_compareSizes.f kj2 a0_0 a0_1 a0_2 a1_0 a1_1 a1_2).bind fun t338 => (if t338 < 0 then ((bits_Sub64.f a1_2 a0_2 0).bind fun bt339 => ((bits_Sub64.f a1_1 a0_1 bt339.2).bind fun bt341 => ((impl_wideOf.f a1_0 bt341.1 bt339.1).bind fun bt343 => (some (bt343.1,bt343.2.1,bt343.2.2,true))))) else ((bits_Sub64.f a0_2 a1_2 0).bind fun bt346 => ((bits_Sub64.f a0_1 a1_1 bt346.2).bind fun bt348 => ((impl_wideOf.f a0_0 bt348.1 bt346.1).bind fun bt350 => (some (bt350.1,bt350.2.1,bt350.2.2,true))))))) else ((bits_Add64.f a0_2 a1_2 0).bind fun bt353 => ((bits_Add64.f a0_1 a1_1 bt353.2).bind fun bt355 => ((impl_wideOf.f a0_0 bt355.1 bt353.1).bind fun bt357 => ((impl_WideOk.f bt357.1 bt357.2.1 bt357.2.2).bind fun t361 => (if t361 = true then (some (bt357.1,bt357.2.1,bt357.2.2,true)) else (some (false,0,0,false)))))))) = some (r1,r2,r3,r4) := by rw [if_neg (show ¬ (false = true) by decide)] at H;exact H
        clear H
        have H := H1
        clear H1
        by_cases c25 : (a0_0 != a1_0) = true
        · rw [if_pos c25] at H
          have c25b0 : (a0_0 != a1_0) = true := c25
          (try (have c25b1 : decide (a0_0 = a1_0) = false := by simpa using c25))
          (try (have c25b2 : (a0_0 == a1_0) = false := by simpa using c25))
          (try (have c25b3 : ¬ (a0_0 = a1_0) := by simpa using c25))
          clear c25
          obtain ⟨t338,A260,H⟩ := Option.bind_eq_some_iff.mp H
          have A26 := Aside0.mk A260
          clear A260
          by_cases c27 : t338 < 0
          · rw [if_pos c27] at H
            have c27b0 : decide (t338 < 0) = true := decide_eq_true c27
            clear c27
            obtain ⟨⟨t339,t340⟩,A280,H⟩ := Option.bind_eq_some_iff.mp H
            try dsimp only at H
            have A28 := Aside0.mk A280
            clear A280
            obtain ⟨⟨t341,t342⟩,A290,H⟩ := Option.bind_eq_some_iff.mp H
            try dsimp only at H
            have A29 := Aside0.mk A290
            clear A290
            obtain ⟨⟨t343,t344,t345⟩,A300,H⟩ := Option.bind_eq_some_iff.mp H
            try dsimp only at H
            have A30 := Aside0.mk A300
            clear A300
            simp only [Option.some.injEq,Prod.mk.injEq] at H
            obtain ⟨rfl,rfl,rfl,rfl⟩ := H
            have hnb31 := NB333_334.out
            have hnc31 := NB334_333.out
            have hnb32 := NB333_335.out
            have hnc32 := NB335_333.out
            obtain ⟨hcz33_0,hcz33_1,hcz33_2,hfz33_0,hfz33_1,hfz33_2⟩ := impl_AddWide.cells3 BK333.out
            have hnb34 := NB334_335.out
            have hnc34 := NB335_334.out
            obtain ⟨hcz35_0,hcz35_1,hcz35_2,hfz35_0,hfz35_1,hfz35_2⟩ := impl_AddWide.cells3 BK334.out
            go_wp2_with (first | ((with_reducible refine gate_callee (f := 69) rfl ?_);refine goesL_ (some 31) rfl rfl Try.func69 Z396 rfl #[.agg #[.bool a0_0,.int .u64 a0_1,.int .u64 a0_2],.agg #[.bool a1_0,.int .u64 a1_1,.int .u64 a1_2]] rfl Z353 ?_;(with_reducible refine (impl_compareSizes.calls kj2 a0_0 a0_1 a0_2 a1_0 a1_1 a1_2 t338 _ A26.out).mono ?_);rintro e w36 ⟨rfl,hb⟩;refine ⟨_,rfl,?_⟩;have n_ := jA (blk_below (g := gb333) (o := .cells #[.bool a0_0,.int .u64 a0_1,.int .u64 a0_2] 28 (0,0)) Z488 hb) (jA (blk_below (g := gb334) (o := .cells #[.bool a1_0,.int .u64 a1_1,.int .u64 a1_2] 28 (0,0)) Z492 hb) (jA (blk_below (g := gb335) (o := .cells #[.bool false,.int .u64 0,.int .u64 0] 28 (0,0)) Z495 hb) (Aside0.mk (below_step Z416 hb))));clear BK333 BK334 BK335 HB;obtain ⟨BK333,BK334,BK335,HB⟩ := n_;(try clear hb);(try clear hb2);(try clear hk);(try clear hi);obtain ⟨hcz37_0,hcz37_1,hcz37_2,hfz37_0,hfz37_1,hfz37_2⟩ := impl_AddWide.cells3 BK334.out;obtain ⟨hcz38_0,hcz38_1,hcz38_2,hfz38_0,hfz38_1,hfz38_2⟩ := impl_AddWide.cells3 BK333.out) | (simp only [bits_Sub64.run a1_2 a0_2 0 t339 t340 A28.out]) | (simp only [bits_Sub64.run a1_1 a0_1 t340 t341 t342 A29.out]) | ((with_reducible refine gate_callee (f := 71) rfl ?_);refine goesL_ (some 56) rfl rfl Try.func71 Z396 rfl #[.bool a1_0,.int .u64 t341,.int .u64 t339] rfl Z353 ?_;(with_reducible refine (impl_wideOf.calls a1_0 t341 t339 t343 t344 t345 _ A30.out).mono ?_);rintro e w39 ⟨rfl,hb⟩;refine ⟨_,rfl,?_⟩;have n_ := jA (blk_below (g := gb333) (o := .cells #[.bool a1_0,.int .u64 a1_1,.int .u64 a1_2] 28 (0,0)) (by (with_reducible repeat (first | refine bA ?_ _ | refine bB ?_ | refine bC ?_ _));refine blk_far ?_ NB333_334.out _;(with_reducible repeat (first | refine bA ?_ _ | refine bB ?_ | refine bC ?_ _));refine blk_far ?_ NB333_334.out _;(with_reducible repeat (first | refine bA ?_ _ | refine bB ?_ | refine bC ?_ _));refine blk_far ?_ NB333_334.out _;(with_reducible repeat (first | refine bA ?_ _ | refine bB ?_ | refine bC ?_ _));refine blk_put (cs := #[.bool a1_0,.int .u64 a1_1,.int .u64 a0_2]) ?_ 2 _ rfl;(with_reducible repeat (first | refine bA ?_ _ | refine bB ?_ | refine bC ?_ _));refine blk_put (cs := #[.bool a1_0,.int .u64 a0_1,.int .u64 a0_2]) ?_ 1 _ rfl;(with_reducible repeat (first | refine bA ?_ _ | refine bB ?_ | refine bC ?_ _));refine blk_put (cs := #[.bool a0_0,.int .u64 a0_1,.int .u64 a0_2]) ?_ 0 _ rfl;(with_reducible repeat (first | refine bA ?_ _ | refine bB ?_ | refine bC ?_ _));exact BK333.out) hb) (jA (blk_below (g := gb334) (o := .cells #[.bool a0_0,.int .u64 a0_1,.int .u64 a0_2] 28 (0,0)) (by (with_reducible repeat (first | refine bA ?_ _ | refine bB ?_ | refine bC ?_ _));refine blk_put (cs := #[.bool a0_0,.int .u64 a0_1,.int .u64 a1_2]) ?_ 2 _ rfl;(with_reducible repeat (first | refine bA ?_ _ | refine bB ?_ | refine bC ?_ _));refine blk_put (cs := #[.bool a0_0,.int .u64 a1_1,.int .u64 a1_2]) ?_ 1 _ rfl;(with_reducible repeat (first | refine bA ?_ _ | refine bB ?_ | refine bC ?_ _));refine blk_put (cs := #[.bool a1_0,.int .u64 a1_1,.int .u64 a1_2]) ?_ 0 _ rfl;(with_reducible repeat (first | refine bA ?_ _ | refine bB ?_ | refine bC ?_ _));refine blk_far ?_ NB334_333.out _;(with_reducible repeat (first | refine bA ?_ _ | refine bB ?_ | refine bC ?_ _));refine blk_far ?_ NB334_333.out _;(with_reducible repeat (first | refine bA ?_ _ | refine bB ?_ | refine bC ?_ _));refine blk_far ?_ NB334_333.out _;(with_reducible repeat (first | refine bA ?_ _ | refine bB ?_ | refine bC ?_ _));exact BK334.out) hb) (jA (blk_below (g := gb335) (o := .cells #[.bool false,.int .u64 0,.int .u64 0] 28 (0,0)) (by (with_reducible repeat (first | refine bA ?_ _ | refine bB ?_ | refine bC ?_ _));refine blk_far ?_ NB335_334.out _;(with_reducible repeat (first | refine bA ?_ _ | refine bB ?_ | refine bC ?_ _));refine blk_far ?_ NB335_334.out _;(with_reducible repeat (first | refine bA ?_ _ | refine bB ?_ | refine bC ?_ _));refine blk_far ?_ NB335_334.out _;(with_reducible repeat (first | refine bA ?_ _ | refine bB ?_ | refine bC ?_ _));refine blk_far ?_ NB335_333.out _;(with_reducible repeat (first | refine bA ?_ _ | refine bB ?_ | refine bC ?_ _));refine blk_far ?_ NB335_333.out _;(with_reducible repeat (first | refine bA ?_ _ | refine bB ?_ | refine bC ?_ _));refine blk_far ?_ NB335_333.out _;(with_reducible repeat (first | refine bA ?_ _ | refine bB ?_ | refine bC ?_ _));exact BK335.out) hb) (Aside0.mk (below_step Z416 hb))));clear BK333 BK334 BK335 HB;obtain ⟨BK333,BK334,BK335,HB⟩ := n_;(try clear hb);(try clear hb2);(try clear hk);(try clear hi);obtain ⟨hcz40_0,hcz40_1,hcz40_2,hfz40_0,hfz40_1,hfz40_2⟩ := impl_AddWide.cells3 BK335.out))
            refine bodyPost_ret (results_ct rfl _ _ gb335 28 #[.bool t343,.int .u64 t344,.int .u64 t345] (0,0) _ rfl (by (with_reducible repeat (first | refine bA ?_ _ | refine bB ?_ | refine bC ?_ _));refine blk_put (cs := #[.bool t343,.int .u64 t344,.int .u64 0]) ?_ 2 _ rfl;(with_reducible repeat (first | refine bA ?_ _ | refine bB ?_ | refine bC ?_ _));refine blk_put (cs := #[.bool t343,.int .u64 0,.int .u64 0]) ?_ 1 _ rfl;(with_reducible repeat (first | refine bA ?_ _ | refine bB ?_ | refine bC ?_ _));refine blk_put (cs := #[.bool false,.int .u64 0,.int .u64 0]) ?_ 0 _ rfl;(with_reducible repeat (first | refine bA ?_ _ | refine bB ?_ | refine bC ?_ _));exact BK335.out) Try.underlying28 rfl Z396) rfl ?_
            exact ⟨Z385,Z416⟩
          · rw [if_neg c27] at H
            have c27b0 : decide (t338 < 0) = false := decide_eq_false c27
            clear c27
            obtain ⟨⟨t346,t347⟩,A410,H⟩ := Option.bind_eq_some_iff.mp H
            try dsimp only at H
            have A41 := Aside0.mk A410
            clear A410
            obtain ⟨⟨t348,t349⟩,A420,H⟩ := Option.bind_eq_some_iff.mp H
            try dsimp only at H
            have A42 := Aside0.mk A420
            clear A420
            obtain ⟨⟨t350,t351,t352⟩,A430,H⟩ := Option.bind_eq_some_iff.mp H
            try dsimp only at H
            have A43 := Aside0.mk A430
            clear A430
            simp only [Option.some.injEq,Prod.mk.injEq] at H
            obtain ⟨rfl,rfl,rfl,rfl⟩ := H
            have hnb44 := NB333_334.out
            have hnc44 := NB334_333.out
            have hnb45 := NB333_335.out
            have hnc45 := NB335_333.out
            obtain ⟨hcz46_0,hcz46_1,hcz46_2,hfz46_0,hfz46_1,hfz46_2⟩ := impl_AddWide.cells3 BK333.out
            have hnb47 := NB334_335.out
            have hnc47 := NB335_334.out
            obtain ⟨hcz48_0,hcz48_1,hcz48_2,hfz48_0,hfz48_1,hfz48_2⟩ := impl_AddWide.cells3 BK334.out
            go_wp2_with (first | ((with_reducible refine gate_callee (f := 69) rfl ?_);refine goesL_ (some 31) rfl rfl Try.func69 Z396 rfl #[.agg #[.bool a0_0,.int .u64 a0_1,.int .u64 a0_2],.agg #[.bool a1_0,.int .u64 a1_1,.int .u64 a1_2]] rfl Z353 ?_;(with_reducible refine (impl_compareSizes.calls kj2 a0_0 a0_1 a0_2 a1_0 a1_1 a1_2 t338 _ A26.out).mono ?_);rintro e w49 ⟨rfl,hb⟩;refine ⟨_,rfl,?_⟩;have n_ := jA (blk_below (g := gb333) (o := .cells #[.bool a0_0,.int .u64 a0_1,.int .u64 a0_2] 28 (0,0)) Z488 hb) (jA (blk_below (g := gb334) (o := .cells #[.bool a1_0,.int .u64 a1_1,.int .u64 a1_2] 28 (0,0)) Z492 hb) (jA (blk_below (g := gb335) (o := .cells #[.bool false,.int .u64 0,.int .u64 0] 28 (0,0)) Z495 hb) (Aside0.mk (below_step Z416 hb))));clear BK333 BK334 BK335 HB;obtain ⟨BK333,BK334,BK335,HB⟩ := n_;(try clear hb);(try clear hb2);(try clear hk);(try clear hi);obtain ⟨hcz50_0,hcz50_1,hcz50_2,hfz50_0,hfz50_1,hfz50_2⟩ := impl_AddWide.cells3 BK333.out;obtain ⟨hcz51_0,hcz51_1,hcz51_2,hfz51_0,hfz51_1,hfz51_2⟩ := impl_AddWide.cells3 BK334.out) | (simp only [bits_Sub64.run a0_2 a1_2 0 t346 t347 A41.out];(iterate 4 (try (rw [drewN_self w49];generalize hq_ : World.drewN w49 _ = w49;have n0_ : Aside0 (w49.heap[gb333]? = some (.cells #[.bool a0_0,.int .u64 a0_1,.int .u64 a0_2] 28 (0,0))) := ⟨Z361⟩;have n1_ : Aside0 (w49.heap[gb334]? = some (.cells #[.bool a1_0,.int .u64 a1_1,.int .u64 a1_2] 28 (0,0))) := ⟨Z360⟩;have n2_ : Aside0 (w49.heap[gb335]? = some (.cells #[.bool false,.int .u64 0,.int .u64 0] 28 (0,0))) := ⟨Z359⟩;have n3_ : Aside0 (Below w.heap.size w w49) := ⟨Z178⟩;clear BK333 BK334 BK335 HB hq_;have BK333 := n0_;have BK334 := n1_;have BK335 := n2_;have HB := n3_;clear n0_ n1_ n2_ n3_)));(try (obtain ⟨hcz50_0,hcz50_1,hcz50_2,hfz50_0,hfz50_1,hfz50_2⟩ := impl_AddWide.cells3 BK333.out));(try (obtain ⟨hcz51_0,hcz51_1,hcz51_2,hfz51_0,hfz51_1,hfz51_2⟩ := impl_AddWide.cells3 BK334.out))) | (simp only [bits_Sub64.run a0_1 a1_1 t347 t348 t349 A42.out];(iterate 4 (try (rw [drewN_self w49];generalize hq_ : World.drewN w49 _ = w49;have n0_ : Aside0 (w49.heap[gb333]? = some (.cells #[.bool a0_0,.int .u64 a0_1,.int .u64 a0_2] 28 (0,0))) := ⟨Z361⟩;have n1_ : Aside0 (w49.heap[gb334]? = some (.cells #[.bool a1_0,.int .u64 a1_1,.int .u64 a1_2] 28 (0,0))) := ⟨Z360⟩;have n2_ : Aside0 (w49.heap[gb335]? = some (.cells #[.bool false,.int .u64 0,.int .u64 0] 28 (0,0))) := ⟨Z359⟩;have n3_ : Aside0 (Below w.heap.size w w49) := ⟨Z178⟩;clear BK333 BK334 BK335 HB hq_;have BK333 := n0_;have BK334 := n1_;have BK335 := n2_;have HB := n3_;clear n0_ n1_ n2_ n3_)));(try (obtain ⟨hcz50_0,hcz50_1,hcz50_2,hfz50_0,hfz50_1,hfz50_2⟩ := impl_AddWide.cells3 BK333.out));(try (obtain ⟨hcz51_0,hcz51_1,hcz51_2,hfz51_0,hfz51_1,hfz51_2⟩ := impl_AddWide.cells3 BK334.out))) | ((with_reducible refine gate_callee (f := 71) rfl ?_);refine goesL_ (some 56) rfl rfl Try.func71 Z396 rfl #[.bool a0_0,.int .u64 t348,.int .u64 t346] rfl Z353 ?_;(with_reducible refine (impl_wideOf.calls a0_0 t348 t346 t350 t351 t352 _ A43.out).mono ?_);rintro e w52 ⟨rfl,hb⟩;refine ⟨_,rfl,?_⟩;have n_ := jA (blk_below (g := gb333) (o := .cells #[.bool a0_0,.int .u64 a0_1,.int .u64 a0_2] 28 (0,0)) Z488 hb) (jA (blk_below (g := gb334) (o := .cells #[.bool a1_0,.int .u64 a1_1,.int .u64 a1_2] 28 (0,0)) Z492 hb) (jA (blk_below (g := gb335) (o := .cells #[.bool false,.int .u64 0,.int .u64 0] 28 (0,0)) Z495 hb) (Aside0.mk (below_step Z416 hb))));clear BK333 BK334 BK335 HB;obtain ⟨BK333,BK334,BK335,HB⟩ := n_;(try clear hb);(try clear hb2);(try clear hk);(try clear hi);obtain ⟨hcz53_0,hcz53_1,hcz53_2,hfz53_0,hfz53_1,hfz53_2⟩ := impl_AddWide.cells3 BK335.out))
            refine bodyPost_ret (results_ct rfl _ _ gb335 28 #[.bool t350,.int .u64 t351,.int .u64 t352] (0,0) _ rfl (by (with_reducible repeat (first | refine bA ?_ _ | refine bB ?_ | refine bC ?_ _));refine blk_put (cs := #[.bool t350,.int .u64 t351,.int .u64 0]) ?_ 2 _ rfl;(with_reducible repeat (first | refine bA ?_ _ | refine bB ?_ | refine bC ?_ _));refine blk_put (cs := #[.bool t350,.int .u64 0,.int .u64 0]) ?_ 1 _ rfl;(with_reducible repeat (first | refine bA ?_ _ | refine bB ?_ | refine bC ?_ _));refine blk_put (cs := #[.bool false,.int .u64 0,.int .u64 0]) ?_ 0 _ rfl;(with_reducible repeat (first | refine bA ?_ _ | refine bB ?_ | refine bC ?_ _));exact BK335.out) Try.underlying28 rfl Z396) rfl ?_
            exact ⟨Z385,Z416⟩
        · rw [if_neg c25] at H
          have c25b0 : (a0_0 != a1_0) = false := by simpa using c25
          (try (have c25b1 : decide (a0_0 = a1_0) = true := by simpa using c25))
          (try (have c25b2 : (a0_0 == a1_0) = true := by simpa using c25))
          clear c25
          obtain ⟨⟨t353,t354⟩,A540,H⟩ := Option.bind_eq_some_iff.mp H
          try dsimp only at H
          have A54 := Aside0.mk A540
          clear A540
          obtain ⟨⟨t355,t356⟩,A550,H⟩ := Option.bind_eq_some_iff.mp H
          try dsimp only at H
          have A55 := Aside0.mk A550
          clear A550
          obtain ⟨⟨t357,t358,t359⟩,A560,H⟩ := Option.bind_eq_some_iff.mp H
          try dsimp only at H
          have A56 := Aside0.mk A560
          clear A560
          obtain ⟨t361,A570,H⟩ := Option.bind_eq_some_iff.mp H
          have A57 := Aside0.mk A570
          clear A570
          by_cases c58 : t361 = true
          · subst c58
            have H1 : (some (t357,t358,t359,true)) = some (r1,r2,r3,r4) := by rw [if_pos rfl] at H;exact H
            clear H
            have H := H1
            clear H1
            simp only [Option.some.injEq,Prod.mk.injEq] at H
            obtain ⟨rfl,rfl,rfl,rfl⟩ := H
            have hnb59 := NB333_334.out
            have hnc59 := NB334_333.out
            have hnb60 := NB333_335.out
            have hnc60 := NB335_333.out
            obtain ⟨hcz61_0,hcz61_1,hcz61_2,hfz61_0,hfz61_1,hfz61_2⟩ := impl_AddWide.cells3 BK333.out
            have hnb62 := NB334_335.out
            have hnc62 := NB335_334.out
            obtain ⟨hcz63_0,hcz63_1,hcz63_2,hfz63_0,hfz63_1,hfz63_2⟩ := impl_AddWide.cells3 BK334.out
            go_wp2_with (first | (simp only [bits_Add64.run a0_2 a1_2 0 t353 t354 A54.out];(iterate 4 (try (rw [drewN_self wc];generalize hq_ : World.drewN wc _ = wc;have n0_ : Aside0 (wc.heap[gb333]? = some (.cells #[.bool a0_0,.int .u64 a0_1,.int .u64 a0_2] 28 (0,0))) := ⟨Z361⟩;have n1_ : Aside0 (wc.heap[gb334]? = some (.cells #[.bool a1_0,.int .u64 a1_1,.int .u64 a1_2] 28 (0,0))) := ⟨Z360⟩;have n2_ : Aside0 (wc.heap[gb335]? = some (.cells #[.bool false,.int .u64 0,.int .u64 0] 28 (0,0))) := ⟨Z359⟩;have n3_ : Aside0 (Below w.heap.size w wc) := ⟨Z178⟩;clear BK333 BK334 BK335 HB hq_;have BK333 := n0_;have BK334 := n1_;have BK335 := n2_;have HB := n3_;clear n0_ n1_ n2_ n3_)));(try (obtain ⟨hcz61_0,hcz61_1,hcz61_2,hfz61_0,hfz61_1,hfz61_2⟩ := impl_AddWide.cells3 BK333.out));(try (obtain ⟨hcz63_0,hcz63_1,hcz63_2,hfz63_0,hfz63_1,hfz63_2⟩ := impl_AddWide.cells3 BK334.out))) | (simp only [bits_Add64.run a0_1 a1_1 t354 t355 t356 A55.out];(iterate 4 (try (rw [drewN_self wc];generalize hq_ : World.drewN wc _ = wc;have n0_ : Aside0 (wc.heap[gb333]? = some (.cells #[.bool a0_0,.int .u64 a0_1,.int .u64 a0_2] 28 (0,0))) := ⟨Z361⟩;have n1_ : Aside0 (wc.heap[gb334]? = some (.cells #[.bool a1_0,.int .u64 a1_1,.int .u64 a1_2] 28 (0,0))) := ⟨Z360⟩;have n2_ : Aside0 (wc.heap[gb335]? = some (.cells #[.bool false,.int .u64 0,.int .u64 0] 28 (0,0))) := ⟨Z359⟩;have n3_ : Aside0 (Below w.heap.size w wc) := ⟨Z178⟩;clear BK333 BK334 BK335 HB hq_;have BK333 := n0_;have BK334 := n1_;have BK335 := n2_;have HB := n3_;clear n0_ n1_ n2_ n3_)));(try (obtain ⟨hcz61_0,hcz61_1,hcz61_2,hfz61_0,hfz61_1,hfz61_2⟩ := impl_AddWide.cells3 BK333.out));(try (obtain ⟨hcz63_0,hcz63_1,hcz63_2,hfz63_0,hfz63_1,hfz63_2⟩ := impl_AddWide.cells3 BK334.out))) | ((with_reducible refine gate_callee (f := 71) rfl ?_);refine goesL_ (some 78) rfl rfl Try.func71 Z396 rfl #[.bool a0_0,.int .u64 t355,.int .u64 t353] rfl Z353 ?_;(with_reducible refine (impl_wideOf.calls a0_0 t355 t353 t357 t358 t359 _ A56.out).mono ?_);rintro e w64 ⟨rfl,hb⟩;refine ⟨_,rfl,?_⟩;have n_ := jA (blk_below (g := gb333) (o := .cells #[.bool a0_0,.int .u64 a0_1,.int .u64 a0_2] 28 (0,0)) Z488 hb) (jA (blk_below (g := gb334) (o := .cells #[.bool a1_0,.int .u64 a1_1,.int .u64 a1_2] 28 (0,0)) Z492 hb) (jA (blk_below (g := gb335) (o := .cells #[.bool false,.int .u64 0,.int .u64 0] 28 (0,0)) Z495 hb) (Aside0.mk (below_step Z416 hb))));clear BK333 BK334 BK335 HB;obtain ⟨BK333,BK334,BK335,HB⟩ := n_;(try clear hb);(try clear hb2);(try clear hk);(try clear hi)) | ((with_reducible refine gate_dst (N := 14) rfl ?_);refine box_event ?hg (N := 14) ?hd (cs := #[.bool false,.int .u64 0,.int .u64 0]) (t := 28) ?hr ?_;(case hd => rfl);(case hg => rfl);(case hr => exact Z393);intro gb360 hg w65 hbox hb;have n_ := jA (blk_below (g := gb333) (o := .cells #[.bool a0_0,.int .u64 a0_1,.int .u64 a0_2] 28 (0,0)) Z488 hb) (jA (blk_below (g := gb334) (o := .cells #[.bool a1_0,.int .u64 a1_1,.int .u64 a1_2] 28 (0,0)) Z492 hb) (jA (blk_below (g := gb335) (o := .cells #[.bool false,.int .u64 0,.int .u64 0] 28 (0,0)) Z495 hb) (jA (below_step Z416 hb) (jA (hbox) (jA ((Z171 : w.heap.size ≤ gb360)) (jA ((Z171 : w.heap.size ≤ gb360)) (jA ((Z258 : gb333 ≠ gb360)) (jA ((Z260 : gb360 ≠ gb333)) (jA ((Z262 : gb334 ≠ gb360)) (jA ((Z265 : gb360 ≠ gb334)) (jA ((Z295 : gb335 ≠ gb360)) (Aside0.mk ((Z298 : gb360 ≠ gb335))))))))))))));clear BK333 BK334 BK335 HB;obtain ⟨BK333,BK334,BK335,HB,BK360,GW360,GE360,NB333_360,NB360_333,NB334_360,NB360_334,NB335_360,NB360_335⟩ := n_;clear hb hbox hg;have hnb66 := NB360_333.out;have hnc66 := NB333_360.out;have hnb67 := NB360_334.out;have hnc67 := NB334_360.out;have hnb68 := NB360_335.out;have hnc68 := NB335_360.out;obtain ⟨hcz69_0,hcz69_1,hcz69_2,hfz69_0,hfz69_1,hfz69_2⟩ := impl_AddWide.cells3 BK360.out) | ((with_reducible refine gate_callee (f := 31) rfl ?_);refine goesL_ (some 80) rfl rfl Try.func31 Z396 rfl #[.agg #[.bool t357,.int .u64 t358,.int .u64 t359]] rfl Z353 ?_;(with_reducible refine (impl_WideOk.calls t357 t358 t359 true _ A57.out).mono ?_);rintro e w70 ⟨rfl,hb⟩;refine ⟨_,rfl,?_⟩;have n_ := jA (blk_below (g := gb333) (o := .cells #[.bool a0_0,.int .u64 a0_1,.int .u64 a0_2] 28 (0,0)) Z94 hb) (jA (blk_below (g := gb334) (o := .cells #[.bool a1_0,.int .u64 a1_1,.int .u64 a1_2] 28 (0,0)) Z93 hb) (jA (blk_below (g := gb335) (o := .cells #[.bool false,.int .u64 0,.int .u64 0] 28 (0,0)) Z92 hb) (jA (blk_below (g := gb360) (o := .cells #[.bool t357,.int .u64 t358,.int .u64 t359] 28 (0,0)) Z48 hb) (Aside0.mk (below_step Z167 hb)))));clear BK333 BK334 BK335 BK360 HB;obtain ⟨BK333,BK334,BK335,BK360,HB⟩ := n_;(try clear hb);(try clear hb2);(try clear hk);(try clear hi);obtain ⟨hcz71_0,hcz71_1,hcz71_2,hfz71_0,hfz71_1,hfz71_2⟩ := impl_AddWide.cells3 BK360.out;obtain ⟨hcz72_0,hcz72_1,hcz72_2,hfz72_0,hfz72_1,hfz72_2⟩ := impl_AddWide.cells3 BK335.out))
            refine bodyPost_ret (results_ct rfl _ _ gb335 28 #[.bool t357,.int .u64 t358,.int .u64 t359] (0,0) _ rfl (by (with_reducible repeat (first | refine bA ?_ _ | refine bB ?_ | refine bC ?_ _));refine blk_put (cs := #[.bool t357,.int .u64 t358,.int .u64 0]) ?_ 2 _ rfl;(with_reducible repeat (first | refine bA ?_ _ | refine bB ?_ | refine bC ?_ _));refine blk_put (cs := #[.bool t357,.int .u64 0,.int .u64 0]) ?_ 1 _ rfl;(with_reducible repeat (first | refine bA ?_ _ | refine bB ?_ | refine bC ?_ _));refine blk_put (cs := #[.bool false,.int .u64 0,.int .u64 0]) ?_ 0 _ rfl;(with_reducible repeat (first | refine bA ?_ _ | refine bB ?_ | refine bC ?_ _));exact BK335.out) Try.underlying28 rfl Z396) rfl ?_
            exact ⟨Z385,Z167⟩
          · replace c58 := Bool.eq_false_iff.mpr c58
            subst c58
            have H1 : (some (false,0,0,false)) = some (r1,r2,r3,r4) := by rw [if_neg (show ¬ (false = true) by decide)] at H;exact H
            clear H
            have H := H1
            clear H1
            simp only [Option.some.injEq,Prod.mk.injEq] at H
            obtain ⟨rfl,rfl,rfl,rfl⟩ := H
            have hnb73 := NB333_334.out
            have hnc73 := NB334_333.out
            have hnb74 := NB333_335.out
            have hnc74 := NB335_333.out
            obtain ⟨hcz75_0,hcz75_1,hcz75_2,hfz75_0,hfz75_1,hfz75_2⟩ := impl_AddWide.cells3 BK333.out
            have hnb76 := NB334_335.out
            have hnc76 := NB335_334.out
            obtain ⟨hcz77_0,hcz77_1,hcz77_2,hfz77_0,hfz77_1,hfz77_2⟩ := impl_AddWide.cells3 BK334.out
            go_wp2_with (first | (simp only [bits_Add64.run a0_2 a1_2 0 t353 t354 A54.out];(iterate 4 (try (rw [drewN_self wc];generalize hq_ : World.drewN wc _ = wc;have n0_ : Aside0 (wc.heap[gb333]? = some (.cells #[.bool a0_0,.int .u64 a0_1,.int .u64 a0_2] 28 (0,0))) := ⟨Z361⟩;have n1_ : Aside0 (wc.heap[gb334]? = some (.cells #[.bool a1_0,.int .u64 a1_1,.int .u64 a1_2] 28 (0,0))) := ⟨Z360⟩;have n2_ : Aside0 (wc.heap[gb335]? = some (.cells #[.bool false,.int .u64 0,.int .u64 0] 28 (0,0))) := ⟨Z359⟩;have n3_ : Aside0 (Below w.heap.size w wc) := ⟨Z178⟩;clear BK333 BK334 BK335 HB hq_;have BK333 := n0_;have BK334 := n1_;have BK335 := n2_;have HB := n3_;clear n0_ n1_ n2_ n3_)));(try (obtain ⟨hcz75_0,hcz75_1,hcz75_2,hfz75_0,hfz75_1,hfz75_2⟩ := impl_AddWide.cells3 BK333.out));(try (obtain ⟨hcz77_0,hcz77_1,hcz77_2,hfz77_0,hfz77_1,hfz77_2⟩ := impl_AddWide.cells3 BK334.out))) | (simp only [bits_Add64.run a0_1 a1_1 t354 t355 t356 A55.out];(iterate 4 (try (rw [drewN_self wc];generalize hq_ : World.drewN wc _ = wc;have n0_ : Aside0 (wc.heap[gb333]? = some (.cells #[.bool a0_0,.int .u64 a0_1,.int .u64 a0_2] 28 (0,0))) := ⟨Z361⟩;have n1_ : Aside0 (wc.heap[gb334]? = some (.cells #[.bool a1_0,.int .u64 a1_1,.int .u64 a1_2] 28 (0,0))) := ⟨Z360⟩;have n2_ : Aside0 (wc.heap[gb335]? = some (.cells #[.bool false,.int .u64 0,.int .u64 0] 28 (0,0))) := ⟨Z359⟩;have n3_ : Aside0 (Below w.heap.size w wc) := ⟨Z178⟩;clear BK333 BK334 BK335 HB hq_;have BK333 := n0_;have BK334 := n1_;have BK335 := n2_;have HB := n3_;clear n0_ n1_ n2_ n3_)));(try (obtain ⟨hcz75_0,hcz75_1,hcz75_2,hfz75_0,hfz75_1,hfz75_2⟩ := impl_AddWide.cells3 BK333.out));(try (obtain ⟨hcz77_0,hcz77_1,hcz77_2,hfz77_0,hfz77_1,hfz77_2⟩ := impl_AddWide.cells3 BK334.out))) | ((with_reducible refine gate_callee (f := 71) rfl ?_);refine goesL_ (some 78) rfl rfl Try.func71 Z396 rfl #[.bool a0_0,.int .u64 t355,.int .u64 t353] rfl Z353 ?_;(with_reducible refine (impl_wideOf.calls a0_0 t355 t353 t357 t358 t359 _ A56.out).mono ?_);rintro e w78 ⟨rfl,hb⟩;refine ⟨_,rfl,?_⟩;have n_ := jA (blk_below (g := gb333) (o := .cells #[.bool a0_0,.int .u64 a0_1,.int .u64 a0_2] 28 (0,0)) Z488 hb) (jA (blk_below (g := gb334) (o := .cells #[.bool a1_0,.int .u64 a1_1,.int .u64 a1_2] 28 (0,0)) Z492 hb) (jA (blk_below (g := gb335) (o := .cells #[.bool false,.int .u64 0,.int .u64 0] 28 (0,0)) Z495 hb) (Aside0.mk (below_step Z416 hb))));clear BK333 BK334 BK335 HB;obtain ⟨BK333,BK334,BK335,HB⟩ := n_;(try clear hb);(try clear hb2);(try clear hk);(try clear hi)) | ((with_reducible refine gate_dst (N := 14) rfl ?_);refine box_event ?hg (N := 14) ?hd (cs := #[.bool false,.int .u64 0,.int .u64 0]) (t := 28) ?hr ?_;(case hd => rfl);(case hg => rfl);(case hr => exact Z393);intro gb360 hg w79 hbox hb;have n_ := jA (blk_below (g := gb333) (o := .cells #[.bool a0_0,.int .u64 a0_1,.int .u64 a0_2] 28 (0,0)) Z488 hb) (jA (blk_below (g := gb334) (o := .cells #[.bool a1_0,.int .u64 a1_1,.int .u64 a1_2] 28 (0,0)) Z492 hb) (jA (blk_below (g := gb335) (o := .cells #[.bool false,.int .u64 0,.int .u64 0] 28 (0,0)) Z495 hb) (jA (below_step Z416 hb) (jA (hbox) (jA ((Z171 : w.heap.size ≤ gb360)) (jA ((Z171 : w.heap.size ≤ gb360)) (jA ((Z258 : gb333 ≠ gb360)) (jA ((Z260 : gb360 ≠ gb333)) (jA ((Z262 : gb334 ≠ gb360)) (jA ((Z265 : gb360 ≠ gb334)) (jA ((Z295 : gb335 ≠ gb360)) (Aside0.mk ((Z298 : gb360 ≠ gb335))))))))))))));clear BK333 BK334 BK335 HB;obtain ⟨BK333,BK334,BK335,HB,BK360,GW360,GE360,NB333_360,NB360_333,NB334_360,NB360_334,NB335_360,NB360_335⟩ := n_;clear hb hbox hg;have hnb80 := NB360_333.out;have hnc80 := NB333_360.out;have hnb81 := NB360_334.out;have hnc81 := NB334_360.out;have hnb82 := NB360_335.out;have hnc82 := NB335_360.out;obtain ⟨hcz83_0,hcz83_1,hcz83_2,hfz83_0,hfz83_1,hfz83_2⟩ := impl_AddWide.cells3 BK360.out) | ((with_reducible refine gate_callee (f := 31) rfl ?_);refine goesL_ (some 80) rfl rfl Try.func31 Z396 rfl #[.agg #[.bool t357,.int .u64 t358,.int .u64 t359]] rfl Z353 ?_;(with_reducible refine (impl_WideOk.calls t357 t358 t359 false _ A57.out).mono ?_);rintro e w84 ⟨rfl,hb⟩;refine ⟨_,rfl,?_⟩;have n_ := jA (blk_below (g := gb333) (o := .cells #[.bool a0_0,.int .u64 a0_1,.int .u64 a0_2] 28 (0,0)) Z94 hb) (jA (blk_below (g := gb334) (o := .cells #[.bool a1_0,.int .u64 a1_1,.int .u64 a1_2] 28 (0,0)) Z93 hb) (jA (blk_below (g := gb335) (o := .cells #[.bool false,.int .u64 0,.int .u64 0] 28 (0,0)) Z92 hb) (jA (blk_below (g := gb360) (o := .cells #[.bool t357,.int .u64 t358,.int .u64 t359] 28 (0,0)) Z48 hb) (Aside0.mk (below_step Z167 hb)))));clear BK333 BK334 BK335 BK360 HB;obtain ⟨BK333,BK334,BK335,BK360,HB⟩ := n_;(try clear hb);(try clear hb2);(try clear hk);(try clear hi);obtain ⟨hcz85_0,hcz85_1,hcz85_2,hfz85_0,hfz85_1,hfz85_2⟩ := impl_AddWide.cells3 BK335.out))
            refine bodyPost_ret (results_ct rfl _ _ gb335 28 #[.bool false,.int .u64 0,.int .u64 0] (0,0) _ rfl Z56 Try.underlying28 rfl Z396) rfl ?_
            exact ⟨Z385,Z167⟩

/-! ### impl_AddFrac: function 26 -/
theorem impl_AddFrac.cells3 {w : World} {g : Nat} {t : TypeId} {a0 a1 a2 : Value} (h : w.heap[g]? = some (.cells #[a0,a1,a2] t (0,0))) : w.cell? ⟨g,0,none⟩ = some a0 ∧ w.cell? ⟨g,1,none⟩ = some a1 ∧ w.cell? ⟨g,2,none⟩ = some a2 ∧ w.frozen? ⟨g,0,none⟩ = false ∧ w.frozen? ⟨g,1,none⟩ = false ∧ w.frozen? ⟨g,2,none⟩ = false := ⟨(blk_cell h 0).trans rfl,(blk_cell h 1).trans rfl,(blk_cell h 2).trans rfl,blk_frozen h 0,blk_frozen h 1,blk_frozen h 2⟩
theorem impl_AddFrac.cells4 {w : World} {g : Nat} {t : TypeId} {a0 a1 a2 a3 : Value} (h : w.heap[g]? = some (.cells #[a0,a1,a2,a3] t (0,0))) : w.cell? ⟨g,0,none⟩ = some a0 ∧ w.cell? ⟨g,1,none⟩ = some a1 ∧ w.cell? ⟨g,2,none⟩ = some a2 ∧ w.cell? ⟨g,3,none⟩ = some a3 ∧ w.frozen? ⟨g,0,none⟩ = false ∧ w.frozen? ⟨g,1,none⟩ = false ∧ w.frozen? ⟨g,2,none⟩ = false ∧ w.frozen? ⟨g,3,none⟩ = false := ⟨(blk_cell h 0).trans rfl,(blk_cell h 1).trans rfl,(blk_cell h 2).trans rfl,(blk_cell h 3).trans rfl,blk_frozen h 0,blk_frozen h 1,blk_frozen h 2,blk_frozen h 3⟩
def impl_AddFrac.f (k : Nat) (a0_0 : Bool) (a0_1 : Int) (a0_2 : Int) (a0_3 : Int) (a1_0 : Bool) (a1_1 : Int) (a1_2 : Int) (a1_3 : Int) : Option (Bool × Int × Int × Int × Bool) := (impl_crossed.f k a0_0 a0_1 a0_2 a0_3 a1_0 a1_1 a1_2 a1_3).bind fun bt365 => (if bt365.2.2.2.2.2.2 = true then ((impl_AddWide.f k bt365.1 bt365.2.1 bt365.2.2.1 bt365.2.2.2.1 bt365.2.2.2.2.1 bt365.2.2.2.2.2.1).bind fun bt374 => (if bt374.2.2.2 = true then ((impl_fracOf.f bt374.1 bt374.2.1 bt374.2.2.1 (wrap64 (a0_3 * a1_3))).bind fun bt379 => (some (bt379.1,bt379.2.1,bt379.2.2.1,bt379.2.2.2.1,bt379.2.2.2.2))) else (some (false,0,0,0,false)))) else (some (false,0,0,0,false)))
theorem impl_AddFrac.mono : ∀ a0 a1 a2 a3 a4 a5 a6 a7 k,LeO (impl_AddFrac.f k a0 a1 a2 a3 a4 a5 a6 a7) (impl_AddFrac.f (k + 1) a0 a1 a2 a3 a4 a5 a6 a7) := by
  intro a0 a1 a2 a3 a4 a5 a6 a7 k
  unfold impl_AddFrac.f
  repeat' first
      | (with_reducible exact impl_AddWide.mono _ _ _ _ _ _ _)
      | (with_reducible exact impl_crossed.mono _ _ _ _ _ _ _ _ _)
      | (with_reducible exact LeO.refl _)
      | (with_reducible exact LeO.none _)
      | (with_reducible refine LeO.ite ?_ ?_)
      | (with_reducible refine LeO.bind ?_ (fun _ => ?_))
      | exact impl_AddWide.mono _ _ _ _ _ _ _
      | exact impl_crossed.mono _ _ _ _ _ _ _ _ _
      | exact LeO.none _
      | refine LeO.ite ?_ ?_
      | refine LeO.bind ?_ (fun _ => ?_)
set_option maxHeartbeats 8000000 in
set_option maxRecDepth 100000 in
theorem impl_AddFrac.calls (k : Nat) (a0_0 : Bool) (a0_1 : Int) (a0_2 : Int) (a0_3 : Int) (a1_0 : Bool) (a1_1 : Int) (a1_2 : Int) (a1_3 : Int) (r1 : Bool) (r2 : Int) (r3 : Int) (r4 : Int) (r5 : Bool) (w : World) (h : impl_AddFrac.f k a0_0 a0_1 a0_2 a0_3 a1_0 a1_1 a1_2 a1_3 = some (r1,r2,r3,r4,r5)) :
    Calls Try.prog 26 #[.agg #[.bool a0_0,.int .u64 a0_1,.int .u64 a0_2,.int .i64 a0_3],.agg #[.bool a1_0,.int .u64 a1_1,.int .u64 a1_2,.int .i64 a1_3]] w fun e w' => e = .returned (.tuple #[.agg #[.bool r1,.int .u64 r2,.int .u64 r3,.int .i64 r4],.bool r5]) ∧ Below w.heap.size w w' := by
  have hu30 := Try.underlying30
  have hu28 := Try.underlying28
  have HB := Aside0.mk (Below.refl w.heap.size w)
  have H : ((impl_crossed.f k a0_0 a0_1 a0_2 a0_3 a1_0 a1_1 a1_2 a1_3).bind fun bt365 => (if bt365.2.2.2.2.2.2 = true then ((impl_AddWide.f k bt365.1 bt365.2.1 bt365.2.2.1 bt365.2.2.2.1 bt365.2.2.2.2.1 bt365.2.2.2.2.2.1).bind fun bt374 => (if bt374.2.2.2 = true then ((impl_fracOf.f bt374.1 bt374.2.1 bt374.2.2.1 (wrap64 (a0_3 * a1_3))).bind fun bt379 => (some (bt379.1,bt379.2.1,bt379.2.2.1,bt379.2.2.2.1,bt379.2.2.2.2))) else (some (false,0,0,0,false)))) else (some (false,0,0,0,false)))) = some (r1,r2,r3,r4,r5) := h
  clear h
  obtain ⟨⟨t365,t366,t367,t368,t369,t370,t371⟩,A30,H⟩ := Option.bind_eq_some_iff.mp H
  try dsimp only at H
  have A3 := Aside0.mk A30
  clear A30
  by_cases c4 : t371 = true
  · subst c4
    have H1 : ((impl_AddWide.f k t365 t366 t367 t368 t369 t370).bind fun bt374 => (if bt374.2.2.2 = true then ((impl_fracOf.f bt374.1 bt374.2.1 bt374.2.2.1 (wrap64 (a0_3 * a1_3))).bind fun bt379 => (some (bt379.1,bt379.2.1,bt379.2.2.1,bt379.2.2.2.1,bt379.2.2.2.2))) else (some (false,0,0,0,false)))) = some (r1,r2,r3,r4,r5) := by rw [if_pos rfl] at H;exact H
    clear H
    have H := H1
    clear H1
    obtain ⟨⟨t374,t375,t376,t377⟩,A50,H⟩ := Option.bind_eq_some_iff.mp H
    try dsimp only at H
    have A5 := Aside0.mk A50
    clear A50
    by_cases c6 : t377 = true
    · subst c6
      have H1 : ((impl_fracOf.f t374 t375 t376 (wrap64 (a0_3 * a1_3))).bind fun bt379 => (some (bt379.1,bt379.2.1,bt379.2.2.1,bt379.2.2.2.1,bt379.2.2.2.2))) = some (r1,r2,r3,r4,r5) := by rw [if_pos rfl] at H;exact H
      clear H
      have H := H1
      clear H1
      obtain ⟨⟨t379,t380,t381,t382,t383⟩,A70,H⟩ := Option.bind_eq_some_iff.mp H
      try dsimp only at H
      have A7 := Aside0.mk A70
      clear A70
      simp only [Option.some.injEq,Prod.mk.injEq] at H
      obtain ⟨rfl,rfl,rfl,rfl,rfl⟩ := H
      go_enter Try.func26,Try.ntmps26
      go_wp2_with (first | ((with_reducible refine gate_dst (N := 2) rfl ?_);refine box_event ?hg (N := 2) ?hd (cs := #[.bool a0_0,.int .u64 a0_1,.int .u64 a0_2,.int .i64 a0_3]) (t := 30) ?hr ?_;(case hd => rfl);(case hg => rfl);(case hr => exact Z393);intro gb362 hg w8 hbox hb;have n_ := jA (below_step Z476 hb) (jA (hbox) (jA ((Z345 : w.heap.size ≤ gb362)) (Aside0.mk ((Z345 : w.heap.size ≤ gb362)))));clear HB;obtain ⟨HB,BK362,GW362,GE362⟩ := n_;clear hb hbox hg) | ((with_reducible refine gate_dst (N := 3) rfl ?_);refine box_event ?hg (N := 3) ?hd (cs := #[.bool a1_0,.int .u64 a1_1,.int .u64 a1_2,.int .i64 a1_3]) (t := 30) ?hr ?_;(case hd => rfl);(case hg => rfl);(case hr => exact Z393);intro gb363 hg w9 hbox hb;have n_ := jA (blk_below (g := gb362) (o := .cells #[.bool a0_0,.int .u64 a0_1,.int .u64 a0_2,.int .i64 a0_3] 30 (0,0)) Z484 hb) (jA (below_step Z453 hb) (jA (hbox) (jA ((Z317 : w.heap.size ≤ gb363)) (jA ((Z317 : w.heap.size ≤ gb363)) (jA ((Z187 : gb362 ≠ gb363)) (Aside0.mk ((Z188 : gb363 ≠ gb362))))))));clear BK362 HB;obtain ⟨BK362,HB,BK363,GW363,GE363,NB362_363,NB363_362⟩ := n_;clear hb hbox hg) | ((with_reducible refine gate_dst (N := 4) rfl ?_);refine box_event ?hg (N := 4) ?hd (cs := #[.bool false,.int .u64 0,.int .u64 0,.int .i64 0]) (t := 30) ?hr ?_;(case hd => rfl);(case hg => rfl);(case hr => exact Z393);intro gb364 hg w10 hbox hb;have n_ := jA (blk_below (g := gb362) (o := .cells #[.bool a0_0,.int .u64 a0_1,.int .u64 a0_2,.int .i64 a0_3] 30 (0,0)) Z484 hb) (jA (blk_below (g := gb363) (o := .cells #[.bool a1_0,.int .u64 a1_1,.int .u64 a1_2,.int .i64 a1_3] 30 (0,0)) Z490 hb) (jA (below_step Z437 hb) (jA (hbox) (jA ((Z220 : w.heap.size ≤ gb364)) (jA ((Z220 : w.heap.size ≤ gb364)) (jA ((Z187 : gb362 ≠ gb364)) (jA ((Z188 : gb364 ≠ gb362)) (jA ((Z189 : gb363 ≠ gb364)) (Aside0.mk ((Z190 : gb364 ≠ gb363)))))))))));clear BK362 BK363 HB;obtain ⟨BK362,BK363,HB,BK364,GW364,GE364,NB362_364,NB364_362,NB363_364,NB364_363⟩ := n_;clear hb hbox hg;have hnb11 := NB362_363.out;have hnc11 := NB363_362.out;have hnb12 := NB362_364.out;have hnc12 := NB364_362.out;obtain ⟨hcz13_0,hcz13_1,hcz13_2,hcz13_3,hfz13_0,hfz13_1,hfz13_2,hfz13_3⟩ := impl_AddFrac.cells4 BK362.out;have hnb14 := NB363_364.out;have hnc14 := NB364_363.out;obtain ⟨hcz15_0,hcz15_1,hcz15_2,hcz15_3,hfz15_0,hfz15_1,hfz15_2,hfz15_3⟩ := impl_AddFrac.cells4 BK363.out) | ((with_reducible refine gate_callee (f := 48) rfl ?_);refine goesL_ (some 13) rfl rfl Try.func48 Z396 rfl #[.agg #[.bool a0_0,.int .u64 a0_1,.int .u64 a0_2,.int .i64 a0_3],.agg #[.bool a1_0,.int .u64 a1_1,.int .u64 a1_2,.int .i64 a1_3]] rfl Z353 ?_;(with_reducible refine (impl_crossed.calls k a0_0 a0_1 a0_2 a0_3 a1_0 a1_1 a1_2 a1_3 t365 t366 t367 t368 t369 t370 true _ A3.out).mono ?_);rintro e w16 ⟨rfl,hb⟩;refine ⟨_,rfl,?_⟩;have n_ := jA (blk_below (g := gb362) (o := .cells #[.bool a0_0,.int .u64 a0_1,.int .u64 a0_2,.int .i64 a0_3] 30 (0,0)) Z484 hb) (jA (blk_below (g := gb363) (o := .cells #[.bool a1_0,.int .u64 a1_1,.int .u64 a1_2,.int .i64 a1_3] 30 (0,0)) Z490 hb) (jA (blk_below (g := gb364) (o := .cells #[.bool false,.int .u64 0,.int .u64 0,.int .i64 0] 30 (0,0)) Z502 hb) (Aside0.mk (below_step Z421 hb))));clear BK362 BK363 BK364 HB;obtain ⟨BK362,BK363,BK364,HB⟩ := n_;(try clear hb);(try clear hb2);(try clear hk);(try clear hi)) | ((with_reducible refine gate_dst (N := 6) rfl ?_);refine box_event ?hg (N := 6) ?hd (cs := #[.bool false,.int .u64 0,.int .u64 0]) (t := 28) ?hr ?_;(case hd => rfl);(case hg => rfl);(case hr => exact Z393);intro gb372 hg w17 hbox hb;have n_ := jA (blk_below (g := gb362) (o := .cells #[.bool a0_0,.int .u64 a0_1,.int .u64 a0_2,.int .i64 a0_3] 30 (0,0)) Z484 hb) (jA (blk_below (g := gb363) (o := .cells #[.bool a1_0,.int .u64 a1_1,.int .u64 a1_2,.int .i64 a1_3] 30 (0,0)) Z490 hb) (jA (blk_below (g := gb364) (o := .cells #[.bool false,.int .u64 0,.int .u64 0,.int .i64 0] 30 (0,0)) Z502 hb) (jA (below_step Z421 hb) (jA (hbox) (jA ((Z165 : w.heap.size ≤ gb372)) (jA ((Z165 : w.heap.size ≤ gb372)) (jA ((Z187 : gb362 ≠ gb372)) (jA ((Z188 : gb372 ≠ gb362)) (jA ((Z189 : gb363 ≠ gb372)) (jA ((Z190 : gb372 ≠ gb363)) (jA ((Z236 : gb364 ≠ gb372)) (Aside0.mk ((Z237 : gb372 ≠ gb364))))))))))))));clear BK362 BK363 BK364 HB;obtain ⟨BK362,BK363,BK364,HB,BK372,GW372,GE372,NB362_372,NB372_362,NB363_372,NB372_363,NB364_372,NB372_364⟩ := n_;clear hb hbox hg) | ((with_reducible refine gate_dst (N := 7) rfl ?_);refine box_event ?hg (N := 7) ?hd (cs := #[.bool false,.int .u64 0,.int .u64 0]) (t := 28) ?hr ?_;(case hd => rfl);(case hg => rfl);(case hr => exact Z393);intro gb373 hg w18 hbox hb;have n_ := jA (blk_below (g := gb362) (o := .cells #[.bool a0_0,.int .u64 a0_1,.int .u64 a0_2,.int .i64 a0_3] 30 (0,0)) Z484 hb) (jA (blk_below (g := gb363) (o := .cells #[.bool a1_0,.int .u64 a1_1,.int .u64 a1_2,.int .i64 a1_3] 30 (0,0)) Z490 hb) (jA (blk_below (g := gb364) (o := .cells #[.bool false,.int .u64 0,.int .u64 0,.int .i64 0] 30 (0,0)) Z502 hb) (jA (blk_below (g := gb372) (o := .cells #[.bool false,.int .u64 0,.int .u64 0] 28 (0,0)) Z513 hb) (jA (below_step Z414 hb) (jA (hbox) (jA ((Z138 : w.heap.size ≤ gb373)) (jA ((Z138 : w.heap.size ≤ gb373)) (jA ((Z187 : gb362 ≠ gb373)) (jA ((Z188 : gb373 ≠ gb362)) (jA ((Z189 : gb363 ≠ gb373)) (jA ((Z190 : gb373 ≠ gb363)) (jA ((Z236 : gb364 ≠ gb373)) (jA ((Z237 : gb373 ≠ gb364)) (jA ((Z292 : gb372 ≠ gb373)) (Aside0.mk ((Z293 : gb373 ≠ gb372)))))))))))))))));clear BK362 BK363 BK364 BK372 HB;obtain ⟨BK362,BK363,BK364,BK372,HB,BK373,GW373,GE373,NB362_373,NB373_362,NB363_373,NB373_363,NB364_373,NB373_364,NB372_373,NB373_372⟩ := n_;clear hb hbox hg;have hnb19 := NB372_362.out;have hnc19 := NB362_372.out;have hnb20 := NB372_363.out;have hnc20 := NB363_372.out;have hnb21 := NB372_364.out;have hnc21 := NB364_372.out;have hnb22 := NB372_373.out;have hnc22 := NB373_372.out;obtain ⟨hcz23_0,hcz23_1,hcz23_2,hfz23_0,hfz23_1,hfz23_2⟩ := impl_AddFrac.cells3 BK372.out;have hnb24 := NB373_362.out;have hnc24 := NB362_373.out;have hnb25 := NB373_363.out;have hnc25 := NB363_373.out;have hnb26 := NB373_364.out;have hnc26 := NB364_373.out;obtain ⟨hcz27_0,hcz27_1,hcz27_2,hfz27_0,hfz27_1,hfz27_2⟩ := impl_AddFrac.cells3 BK373.out) | ((with_reducible refine gate_callee (f := 49) rfl ?_);refine goesL_ (some 23) rfl rfl Try.func49 Z396 rfl #[.agg #[.bool t365,.int .u64 t366,.int .u64 t367],.agg #[.bool t368,.int .u64 t369,.int .u64 t370]] rfl Z353 ?_;(with_reducible refine (impl_AddWide.calls k t365 t366 t367 t368 t369 t370 t374 t375 t376 true _ A5.out).mono ?_);rintro e w28 ⟨rfl,hb⟩;refine ⟨_,rfl,?_⟩;have n_ := jA (blk_below (g := gb362) (o := .cells #[.bool a0_0,.int .u64 a0_1,.int .u64 a0_2,.int .i64 a0_3] 30 (0,0)) Z20 hb) (jA (blk_below (g := gb363) (o := .cells #[.bool a1_0,.int .u64 a1_1,.int .u64 a1_2,.int .i64 a1_3] 30 (0,0)) Z19 hb) (jA (blk_below (g := gb364) (o := .cells #[.bool false,.int .u64 0,.int .u64 0,.int .i64 0] 30 (0,0)) Z18 hb) (jA (blk_below (g := gb372) (o := .cells #[.bool t365,.int .u64 t366,.int .u64 t367] 28 (0,0)) Z9 hb) (jA (blk_below (g := gb373) (o := .cells #[.bool t368,.int .u64 t369,.int .u64 t370] 28 (0,0)) Z6 hb) (Aside0.mk (below_step Z408 hb))))));clear BK362 BK363 BK364 BK372 BK373 HB;obtain ⟨BK362,BK363,BK364,BK372,BK373,HB⟩ := n_;(try clear hb);(try clear hb2);(try clear hk);(try clear hi)) | ((with_reducible refine gate_dst (N := 9) rfl ?_);refine box_event ?hg (N := 9) ?hd (cs := #[.bool false,.int .u64 0,.int .u64 0]) (t := 28) ?hr ?_;(case hd => rfl);(case hg => rfl);(case hr => exact Z393);intro gb378 hg w29 hbox hb;have n_ := jA (blk_below (g := gb362) (o := .cells #[.bool a0_0,.int .u64 a0_1,.int .u64 a0_2,.int .i64 a0_3] 30 (0,0)) Z484 hb) (jA (blk_below (g := gb363) (o := .cells #[.bool a1_0,.int .u64 a1_1,.int .u64 a1_2,.int .i64 a1_3] 30 (0,0)) Z490 hb) (jA (blk_below (g := gb364) (o := .cells #[.bool false,.int .u64 0,.int .u64 0,.int .i64 0] 30 (0,0)) Z502 hb) (jA (blk_below (g := gb372) (o := .cells #[.bool t365,.int .u64 t366,.int .u64 t367] 28 (0,0)) Z513 hb) (jA (blk_below (g := gb373) (o := .cells #[.bool t368,.int .u64 t369,.int .u64 t370] 28 (0,0)) Z527 hb) (jA (below_step Z408 hb) (jA (hbox) (jA ((Z130 : w.heap.size ≤ gb378)) (jA ((Z130 : w.heap.size ≤ gb378)) (jA ((Z187 : gb362 ≠ gb378)) (jA ((Z188 : gb378 ≠ gb362)) (jA ((Z189 : gb363 ≠ gb378)) (jA ((Z190 : gb378 ≠ gb363)) (jA ((Z236 : gb364 ≠ gb378)) (jA ((Z237 : gb378 ≠ gb364)) (jA ((Z269 : gb372 ≠ gb378)) (jA ((Z273 : gb378 ≠ gb372)) (jA ((Z268 : gb373 ≠ gb378)) (Aside0.mk ((Z272 : gb378 ≠ gb373))))))))))))))))))));clear BK362 BK363 BK364 BK372 BK373 HB;obtain ⟨BK362,BK363,BK364,BK372,BK373,HB,BK378,GW378,GE378,NB362_378,NB378_362,NB363_378,NB378_363,NB364_378,NB378_364,NB372_378,NB378_372,NB373_378,NB378_373⟩ := n_;clear hb hbox hg;have hnb30 := NB378_362.out;have hnc30 := NB362_378.out;have hnb31 := NB378_363.out;have hnc31 := NB363_378.out;have hnb32 := NB378_364.out;have hnc32 := NB364_378.out;have hnb33 := NB378_372.out;have hnc33 := NB372_378.out;have hnb34 := NB378_373.out;have hnc34 := NB373_378.out;obtain ⟨hcz35_0,hcz35_1,hcz35_2,hfz35_0,hfz35_1,hfz35_2⟩ := impl_AddFrac.cells3 BK378.out;obtain ⟨hcz36_0,hcz36_1,hcz36_2,hcz36_3,hfz36_0,hfz36_1,hfz36_2,hfz36_3⟩ := impl_AddFrac.cells4 BK362.out;obtain ⟨hcz37_0,hcz37_1,hcz37_2,hcz37_3,hfz37_0,hfz37_1,hfz37_2,hfz37_3⟩ := impl_AddFrac.cells4 BK363.out) | ((with_reducible refine gate_callee (f := 50) rfl ?_);refine goesL_ (some 35) rfl rfl Try.func50 Z396 rfl #[.agg #[.bool t374,.int .u64 t375,.int .u64 t376],.int .i64 (wrap64 (a0_3 * a1_3))] rfl Z353 ?_;(with_reducible refine (impl_fracOf.calls t374 t375 t376 (wrap64 (a0_3 * a1_3)) t379 t380 t381 t382 t383 _ A7.out).mono ?_);rintro e w38 ⟨rfl,hb⟩;refine ⟨_,rfl,?_⟩;have n_ := jA (blk_below (g := gb362) (o := .cells #[.bool a0_0,.int .u64 a0_1,.int .u64 a0_2,.int .i64 a0_3] 30 (0,0)) (by (with_reducible repeat (first | refine bA ?_ _ | refine bB ?_ | refine bC ?_ _));refine blk_far ?_ NB362_378.out _;(with_reducible repeat (first | refine bA ?_ _ | refine bB ?_ | refine bC ?_ _));refine blk_far ?_ NB362_378.out _;(with_reducible repeat (first | refine bA ?_ _ | refine bB ?_ | refine bC ?_ _));refine blk_far ?_ NB362_378.out _;(with_reducible repeat (first | refine bA ?_ _ | refine bB ?_ | refine bC ?_ _));exact BK362.out) hb) (jA (blk_below (g := gb363) (o := .cells #[.bool a1_0,.int .u64 a1_1,.int .u64 a1_2,.int .i64 a1_3] 30 (0,0)) (by (with_reducible repeat (first | refine bA ?_ _ | refine bB ?_ | refine bC ?_ _));refine blk_far ?_ NB363_378.out _;(with_reducible repeat (first | refine bA ?_ _ | refine bB ?_ | refine bC ?_ _));refine blk_far ?_ NB363_378.out _;(with_reducible repeat (first | refine bA ?_ _ | refine bB ?_ | refine bC ?_ _));refine blk_far ?_ NB363_378.out _;(with_reducible repeat (first | refine bA ?_ _ | refine bB ?_ | refine bC ?_ _));exact BK363.out) hb) (jA (blk_below (g := gb364) (o := .cells #[.bool false,.int .u64 0,.int .u64 0,.int .i64 0] 30 (0,0)) (by (with_reducible repeat (first | refine bA ?_ _ | refine bB ?_ | refine bC ?_ _));refine blk_far ?_ NB364_378.out _;(with_reducible repeat (first | refine bA ?_ _ | refine bB ?_ | refine bC ?_ _));refine blk_far ?_ NB364_378.out _;(with_reducible repeat (first | refine bA ?_ _ | refine bB ?_ | refine bC ?_ _));refine blk_far ?_ NB364_378.out _;(with_reducible repeat (first | refine bA ?_ _ | refine bB ?_ | refine bC ?_ _));exact BK364.out) hb) (jA (blk_below (g := gb372) (o := .cells #[.bool t365,.int .u64 t366,.int .u64 t367] 28 (0,0)) (by (with_reducible repeat (first | refine bA ?_ _ | refine bB ?_ | refine bC ?_ _));refine blk_far ?_ NB372_378.out _;(with_reducible repeat (first | refine bA ?_ _ | refine bB ?_ | refine bC ?_ _));refine blk_far ?_ NB372_378.out _;(with_reducible repeat (first | refine bA ?_ _ | refine bB ?_ | refine bC ?_ _));refine blk_far ?_ NB372_378.out _;(with_reducible repeat (first | refine bA ?_ _ | refine bB ?_ | refine bC ?_ _));exact BK372.out) hb) (jA (blk_below (g := gb373) (o := .cells #[.bool t368,.int .u64 t369,.int .u64 t370] 28 (0,0)) (by (with_reducible repeat (first | refine bA ?_ _ | refine bB ?_ | refine bC ?_ _));refine blk_far ?_ NB373_378.out _;(with_reducible repeat (first | refine bA ?_ _ | refine bB ?_ | refine bC ?_ _));refine blk_far ?_ NB373_378.out _;(with_reducible repeat (first | refine bA ?_ _ | refine bB ?_ | refine bC ?_ _));refine blk_far ?_ NB373_378.out _;(with_reducible repeat (first | refine bA ?_ _ | refine bB ?_ | refine bC ?_ _));exact BK373.out) hb) (jA (blk_below (g := gb378) (o := .cells #[.bool t374,.int .u64 t375,.int .u64 t376] 28 (0,0)) (by (with_reducible repeat (first | refine bA ?_ _ | refine bB ?_ | refine bC ?_ _));refine blk_put (cs := #[.bool t374,.int .u64 t375,.int .u64 0]) ?_ 2 _ rfl;(with_reducible repeat (first | refine bA ?_ _ | refine bB ?_ | refine bC ?_ _));refine blk_put (cs := #[.bool t374,.int .u64 0,.int .u64 0]) ?_ 1 _ rfl;(with_reducible repeat (first | refine bA ?_ _ | refine bB ?_ | refine bC ?_ _));refine blk_put (cs := #[.bool false,.int .u64 0,.int .u64 0]) ?_ 0 _ rfl;(with_reducible repeat (first | refine bA ?_ _ | refine bB ?_ | refine bC ?_ _));exact BK378.out) hb) (Aside0.mk (below_step Z135 hb)))))));clear BK362 BK363 BK364 BK372 BK373 BK378 HB;obtain ⟨BK362,BK363,BK364,BK372,BK373,BK378,HB⟩ := n_;(try clear hb);(try clear hb2);(try clear hk);(try clear hi);obtain ⟨hcz39_0,hcz39_1,hcz39_2,hcz39_3,hfz39_0,hfz39_1,hfz39_2,hfz39_3⟩ := impl_AddFrac.cells4 BK364.out))
      refine bodyPost_ret (results_ct rfl _ _ gb364 30 #[.bool t379,.int .u64 t380,.int .u64 t381,.int .i64 t382] (0,0) _ rfl (by (with_reducible repeat (first | refine bA ?_ _ | refine bB ?_ | refine bC ?_ _));refine blk_put (cs := #[.bool t379,.int .u64 t380,.int .u64 t381,.int .i64 0]) ?_ 3 _ rfl;(with_reducible repeat (first | refine bA ?_ _ | refine bB ?_ | refine bC ?_ _));refine blk_put (cs := #[.bool t379,.int .u64 t380,.int .u64 0,.int .i64 0]) ?_ 2 _ rfl;(with_reducible repeat (first | refine bA ?_ _ | refine bB ?_ | refine bC ?_ _));refine blk_put (cs := #[.bool t379,.int .u64 0,.int .u64 0,.int .i64 0]) ?_ 1 _ rfl;(with_reducible repeat (first | refine bA ?_ _ | refine bB ?_ | refine bC ?_ _));refine blk_put (cs := #[.bool false,.int .u64 0,.int .u64 0,.int .i64 0]) ?_ 0 _ rfl;(with_reducible repeat (first | refine bA ?_ _ | refine bB ?_ | refine bC ?_ _));exact BK364.out) Try.underlying30 rfl Z396) rfl ?_
      exact ⟨Z385,Z135⟩
    · replace c6 := Bool.eq_false_iff.mpr c6
      subst c6
      have H1 : (some (false,0,0,0,false)) = some (r1,r2,r3,r4,r5) := by rw [if_neg (show ¬ (false = true) by decide)] at H;exact H
      clear H
      have H := H1
      clear H1
      simp only [Option.some.injEq,Prod.mk.injEq] at H
      obtain ⟨rfl,rfl,rfl,rfl,rfl⟩ := H
      go_enter Try.func26,Try.ntmps26
      go_wp2_with (first | ((with_reducible refine gate_dst (N := 2) rfl ?_);refine box_event ?hg (N := 2) ?hd (cs := #[.bool a0_0,.int .u64 a0_1,.int .u64 a0_2,.int .i64 a0_3]) (t := 30) ?hr ?_;(case hd => rfl);(case hg => rfl);(case hr => exact Z393);intro gb362 hg w40 hbox hb;have n_ := jA (below_step Z476 hb) (jA (hbox) (jA ((Z345 : w.heap.size ≤ gb362)) (Aside0.mk ((Z345 : w.heap.size ≤ gb362)))));clear HB;obtain ⟨HB,BK362,GW362,GE362⟩ := n_;clear hb hbox hg) | ((with_reducible refine gate_dst (N := 3) rfl ?_);refine box_event ?hg (N := 3) ?hd (cs := #[.bool a1_0,.int .u64 a1_1,.int .u64 a1_2,.int .i64 a1_3]) (t := 30) ?hr ?_;(case hd => rfl);(case hg => rfl);(case hr => exact Z393);intro gb363 hg w41 hbox hb;have n_ := jA (blk_below (g := gb362) (o := .cells #[.bool a0_0,.int .u64 a0_1,.int .u64 a0_2,.int .i64 a0_3] 30 (0,0)) Z484 hb) (jA (below_step Z453 hb) (jA (hbox) (jA ((Z317 : w.heap.size ≤ gb363)) (jA ((Z317 : w.heap.size ≤ gb363)) (jA ((Z187 : gb362 ≠ gb363)) (Aside0.mk ((Z188 : gb363 ≠ gb362))))))));clear BK362 HB;obtain ⟨BK362,HB,BK363,GW363,GE363,NB362_363,NB363_362⟩ := n_;clear hb hbox hg) | ((with_reducible refine gate_dst (N := 4) rfl ?_);refine box_event ?hg (N := 4) ?hd (cs := #[.bool false,.int .u64 0,.int .u64 0,.int .i64 0]) (t := 30) ?hr ?_;(case hd => rfl);(case hg => rfl);(case hr => exact Z393);intro gb364 hg w42 hbox hb;have n_ := jA (blk_below (g := gb362) (o := .cells #[.bool a0_0,.int .u64 a0_1,.int .u64 a0_2,.int .i64 a0_3] 30 (0,0)) Z484 hb) (jA (blk_below (g := gb363) (o := .cells #[.bool a1_0,.int .u64 a1_1,.int .u64 a1_2,.int .i64 a1_3] 30 (0,0)) Z490 hb) (jA (below_step Z437 hb) (jA (hbox) (jA ((Z220 : w.heap.size ≤ gb364)) (jA ((Z220 : w.heap.size ≤ gb364)) (jA ((Z187 : gb362 ≠ gb364)) (jA ((Z188 : gb364 ≠ gb362)) (jA ((Z189 : gb363 ≠ gb364)) (Aside0.mk ((Z190 : gb364 ≠ gb363)))))))))));clear BK362 BK363 HB;obtain ⟨BK362,BK363,HB,BK364,GW364,GE364,NB362_364,NB364_362,NB363_364,NB364_363⟩ := n_;clear hb hbox hg;have hnb43 := NB362_363.out;have hnc43 := NB363_362.out;have hnb44 := NB362_364.out;have hnc44 := NB364_362.out;obtain ⟨hcz45_0,hcz45_1,hcz45_2,hcz45_3,hfz45_0,hfz45_1,hfz45_2,hfz45_3⟩ := impl_AddFrac.cells4 BK362.out;have hnb46 := NB363_364.out;have hnc46 := NB364_363.out;obtain ⟨hcz47_0,hcz47_1,hcz47_2,hcz47_3,hfz47_0,hfz47_1,hfz47_2,hfz47_3⟩ := impl_AddFrac.cells4 BK363.out) | ((with_reducible refine gate_callee (f := 48) rfl ?_);refine goesL_ (some 13) rfl rfl Try.func48 Z396 rfl #[.agg #[.bool a0_0,.int .u64 a0_1,.int .u64 a0_2,.int .i64 a0_3],.agg #[.bool a1_0,.int .u64 a1_1,.int .u64 a1_2,.int .i64 a1_3]] rfl Z353 ?_;(with_reducible refine (impl_crossed.calls k a0_0 a0_1 a0_2 a0_3 a1_0 a1_1 a1_2 a1_3 t365 t366 t367 t368 t369 t370 true _ A3.out).mono ?_);rintro e w48 ⟨rfl,hb⟩;refine ⟨_,rfl,?_⟩;have n_ := jA (blk_below (g := gb362) (o := .cells #[.bool a0_0,.int .u64 a0_1,.int .u64 a0_2,.int .i64 a0_3] 30 (0,0)) Z484 hb) (jA (blk_below (g := gb363) (o := .cells #[.bool a1_0,.int .u64 a1_1,.int .u64 a1_2,.int .i64 a1_3] 30 (0,0)) Z490 hb) (jA (blk_below (g := gb364) (o := .cells #[.bool false,.int .u64 0,.int .u64 0,.int .i64 0] 30 (0,0)) Z502 hb) (Aside0.mk (below_step Z421 hb))));clear BK362 BK363 BK364 HB;obtain ⟨BK362,BK363,BK364,HB⟩ := n_;(try clear hb);(try clear hb2);(try clear hk);(try clear hi)) | ((with_reducible refine gate_dst (N := 6) rfl ?_);refine box_event ?hg (N := 6) ?hd (cs := #[.bool false,.int .u64 0,.int .u64 0]) (t := 28) ?hr ?_;(case hd => rfl);(case hg => rfl);(case hr => exact Z393);intro gb372 hg w49 hbox hb;have n_ := jA (blk_below (g := gb362) (o := .cells #[.bool a0_0,.int .u64 a0_1,.int .u64 a0_2,.int .i64 a0_3] 30 (0,0)) Z484 hb) (jA (blk_below (g := gb363) (o := .cells #[.bool a1_0,.int .u64 a1_1,.int .u64 a1_2,.int .i64 a1_3] 30 (0,0)) Z490 hb) (jA (blk_below (g := gb364) (o := .cells #[.bool false,.int .u64 0,.int .u64 0,.int .i64 0] 30 (0,0)) Z502 hb) (jA (below_step Z421 hb) (jA (hbox) (jA ((Z165 : w.heap.size ≤ gb372)) (jA ((Z165 : w.heap.size ≤ gb372)) (jA ((Z187 : gb362 ≠ gb372)) (jA ((Z188 : gb372 ≠ gb362)) (jA ((Z189 : gb363 ≠ gb372)) (jA ((Z190 : gb372 ≠ gb363)) (jA ((Z236 : gb364 ≠ gb372)) (Aside0.mk ((Z237 : gb372 ≠ gb364))))))))))))));clear BK362 BK363 BK364 HB;obtain ⟨BK362,BK363,BK364,HB,BK372,GW372,GE372,NB362_372,NB372_362,NB363_372,NB372_363,NB364_372,NB372_364⟩ := n_;clear hb hbox hg) | ((with_reducible refine gate_dst (N := 7) rfl ?_);refine box_event ?hg (N := 7) ?hd (cs := #[.bool false,.int .u64 0,.int .u64 0]) (t := 28) ?hr ?_;(case hd => rfl);(case hg => rfl);(case hr => exact Z393);intro gb373 hg w50 hbox hb;have n_ := jA (blk_below (g := gb362) (o := .cells #[.bool a0_0,.int .u64 a0_1,.int .u64 a0_2,.int .i64 a0_3] 30 (0,0)) Z484 hb) (jA (blk_below (g := gb363) (o := .cells #[.bool a1_0,.int .u64 a1_1,.int .u64 a1_2,.int .i64 a1_3] 30 (0,0)) Z490 hb) (jA (blk_below (g := gb364) (o := .cells #[.bool false,.int .u64 0,.int .u64 0,.int .i64 0] 30 (0,0)) Z502 hb) (jA (blk_below (g := gb372) (o := .cells #[.bool false,.int .u64 0,.int .u64 0] 28 (0,0)) Z513 hb) (jA (below_step Z414 hb) (jA (hbox) (jA ((Z138 : w.heap.size ≤ gb373)) (jA ((Z138 : w.heap.size ≤ gb373)) (jA ((Z187 : gb362 ≠ gb373)) (jA ((Z188 : gb373 ≠ gb362)) (jA ((Z189 : gb363 ≠ gb373)) (jA ((Z190 : gb373 ≠ gb363)) (jA ((Z236 : gb364 ≠ gb373)) (jA ((Z237 : gb373 ≠ gb364)) (jA ((Z292 : gb372 ≠ gb373)) (Aside0.mk ((Z293 : gb373 ≠ gb372)))))))))))))))));clear BK362 BK363 BK364 BK372 HB;obtain ⟨BK362,BK363,BK364,BK372,HB,BK373,GW373,GE373,NB362_373,NB373_362,NB363_373,NB373_363,NB364_373,NB373_364,NB372_373,NB373_372⟩ := n_;clear hb hbox hg;have hnb51 := NB372_362.out;have hnc51 := NB362_372.out;have hnb52 := NB372_363.out;have hnc52 := NB363_372.out;have hnb53 := NB372_364.out;have hnc53 := NB364_372.out;have hnb54 := NB372_373.out;have hnc54 := NB373_372.out;obtain ⟨hcz55_0,hcz55_1,hcz55_2,hfz55_0,hfz55_1,hfz55_2⟩ := impl_AddFrac.cells3 BK372.out;have hnb56 := NB373_362.out;have hnc56 := NB362_373.out;have hnb57 := NB373_363.out;have hnc57 := NB363_373.out;have hnb58 := NB373_364.out;have hnc58 := NB364_373.out;obtain ⟨hcz59_0,hcz59_1,hcz59_2,hfz59_0,hfz59_1,hfz59_2⟩ := impl_AddFrac.cells3 BK373.out) | ((with_reducible refine gate_callee (f := 49) rfl ?_);refine goesL_ (some 23) rfl rfl Try.func49 Z396 rfl #[.agg #[.bool t365,.int .u64 t366,.int .u64 t367],.agg #[.bool t368,.int .u64 t369,.int .u64 t370]] rfl Z353 ?_;(with_reducible refine (impl_AddWide.calls k t365 t366 t367 t368 t369 t370 t374 t375 t376 false _ A5.out).mono ?_);rintro e w60 ⟨rfl,hb⟩;refine ⟨_,rfl,?_⟩;have n_ := jA (blk_below (g := gb362) (o := .cells #[.bool a0_0,.int .u64 a0_1,.int .u64 a0_2,.int .i64 a0_3] 30 (0,0)) Z20 hb) (jA (blk_below (g := gb363) (o := .cells #[.bool a1_0,.int .u64 a1_1,.int .u64 a1_2,.int .i64 a1_3] 30 (0,0)) Z19 hb) (jA (blk_below (g := gb364) (o := .cells #[.bool false,.int .u64 0,.int .u64 0,.int .i64 0] 30 (0,0)) Z18 hb) (jA (blk_below (g := gb372) (o := .cells #[.bool t365,.int .u64 t366,.int .u64 t367] 28 (0,0)) Z9 hb) (jA (blk_below (g := gb373) (o := .cells #[.bool t368,.int .u64 t369,.int .u64 t370] 28 (0,0)) Z6 hb) (Aside0.mk (below_step Z408 hb))))));clear BK362 BK363 BK364 BK372 BK373 HB;obtain ⟨BK362,BK363,BK364,BK372,BK373,HB⟩ := n_;(try clear hb);(try clear hb2);(try clear hk);(try clear hi)) | ((with_reducible refine gate_dst (N := 9) rfl ?_);refine box_event ?hg (N := 9) ?hd (cs := #[.bool false,.int .u64 0,.int .u64 0]) (t := 28) ?hr ?_;(case hd => rfl);(case hg => rfl);(case hr => exact Z393);intro gb378 hg w61 hbox hb;have n_ := jA (blk_below (g := gb362) (o := .cells #[.bool a0_0,.int .u64 a0_1,.int .u64 a0_2,.int .i64 a0_3] 30 (0,0)) Z484 hb) (jA (blk_below (g := gb363) (o := .cells #[.bool a1_0,.int .u64 a1_1,.int .u64 a1_2,.int .i64 a1_3] 30 (0,0)) Z490 hb) (jA (blk_below (g := gb364) (o := .cells #[.bool false,.int .u64 0,.int .u64 0,.int .i64 0] 30 (0,0)) Z502 hb) (jA (blk_below (g := gb372) (o := .cells #[.bool t365,.int .u64 t366,.int .u64 t367] 28 (0,0)) Z513 hb) (jA (blk_below (g := gb373) (o := .cells #[.bool t368,.int .u64 t369,.int .u64 t370] 28 (0,0)) Z527 hb) (jA (below_step Z408 hb) (jA (hbox) (jA ((Z130 : w.heap.size ≤ gb378)) (jA ((Z130 : w.heap.size ≤ gb378)) (jA ((Z187 : gb362 ≠ gb378)) (jA ((Z188 : gb378 ≠ gb362)) (jA ((Z189 : gb363 ≠ gb378)) (jA ((Z190 : gb378 ≠ gb363)) (jA ((Z236 : gb364 ≠ gb378)) (jA ((Z237 : gb378 ≠ gb364)) (jA ((Z269 : gb372 ≠ gb378)) (jA ((Z273 : gb378 ≠ gb372)) (jA ((Z268 : gb373 ≠ gb378)) (Aside0.mk ((Z272 : gb378 ≠ gb373))))))))))))))))))));clear BK362 BK363 BK364 BK372 BK373 HB;obtain ⟨BK362,BK363,BK364,BK372,BK373,HB,BK378,GW378,GE378,NB362_378,NB378_362,NB363_378,NB378_363,NB364_378,NB378_364,NB372_378,NB378_372,NB373_378,NB378_373⟩ := n_;clear hb hbox hg;have hnb62 := NB378_362.out;have hnc62 := NB362_378.out;have hnb63 := NB378_363.out;have hnc63 := NB363_378.out;have hnb64 := NB378_364.out;have hnc64 := NB364_378.out;have hnb65 := NB378_372.out;have hnc65 := NB372_378.out;have hnb66 := NB378_373.out;have hnc66 := NB373_378.out;obtain ⟨hcz67_0,hcz67_1,hcz67_2,hfz67_0,hfz67_1,hfz67_2⟩ := impl_AddFrac.cells3 BK378.out;obtain ⟨hcz68_0,hcz68_1,hcz68_2,hcz68_3,hfz68_0,hfz68_1,hfz68_2,hfz68_3⟩ := impl_AddFrac.cells4 BK364.out))
      refine bodyPost_ret (results_ct rfl _ _ gb364 30 #[.bool false,.int .u64 0,.int .u64 0,.int .i64 0] (0,0) _ rfl (by (with_reducible repeat (first | refine bA ?_ _ | refine bB ?_ | refine bC ?_ _));refine blk_put (cs := #[.bool false,.int .u64 0,.int .u64 0,.int .i64 0]) ?_ 3 _ rfl;(with_reducible repeat (first | refine bA ?_ _ | refine bB ?_ | refine bC ?_ _));refine blk_put (cs := #[.bool false,.int .u64 0,.int .u64 0,.int .i64 0]) ?_ 2 _ rfl;(with_reducible repeat (first | refine bA ?_ _ | refine bB ?_ | refine bC ?_ _));refine blk_put (cs := #[.bool false,.int .u64 0,.int .u64 0,.int .i64 0]) ?_ 1 _ rfl;(with_reducible repeat (first | refine bA ?_ _ | refine bB ?_ | refine bC ?_ _));refine blk_put (cs := #[.bool false,.int .u64 0,.int .u64 0,.int .i64 0]) ?_ 0 _ rfl;(with_reducible repeat (first | refine bA ?_ _ | refine bB ?_ | refine bC ?_ _));refine blk_far ?_ NB364_378.out _;(with_reducible repeat (first | refine bA ?_ _ | refine bB ?_ | refine bC ?_ _));refine blk_far ?_ NB364_378.out _;(with_reducible repeat (first | refine bA ?_ _ | refine bB ?_ | refine bC ?_ _));refine blk_far ?_ NB364_378.out _;(with_reducible repeat (first | refine bA ?_ _ | refine bB ?_ | refine bC ?_ _));exact BK364.out) Try.underlying30 rfl Z396) rfl ?_
      exact ⟨Z385,Z135⟩
  · replace c4 := Bool.eq_false_iff.mpr c4
    subst c4
    have H1 : (some (false,0,0,0,false)) = some (r1,r2,r3,r4,r5) := by rw [if_neg (show ¬ (false = true) by decide)] at H;exact H
    clear H
    have H := H1
    clear H1
    simp only [Option.some.injEq,Prod.mk.injEq] at H
    obtain ⟨rfl,rfl,rfl,rfl,rfl⟩ := H
    go_enter Try.func26,Try.ntmps26
    go_wp2_with (first | ((with_reducible refine gate_dst (N := 2) rfl ?_);refine box_event ?hg (N := 2) ?hd (cs := #[.bool a0_0,.int .u64 a0_1,.int .u64 a0_2,.int .i64 a0_3]) (t := 30) ?hr ?_;(case hd => rfl);(case hg => rfl);(case hr => exact Z393);intro gb362 hg w69 hbox hb;have n_ := jA (below_step Z476 hb) (jA (hbox) (jA ((Z345 : w.heap.size ≤ gb362)) (Aside0.mk ((Z345 : w.heap.size ≤ gb362)))));clear HB;obtain ⟨HB,BK362,GW362,GE362⟩ := n_;clear hb hbox hg) | ((with_reducible refine gate_dst (N := 3) rfl ?_);refine box_event ?hg (N := 3) ?hd (cs := #[.bool a1_0,.int .u64 a1_1,.int .u64 a1_2,.int .i64 a1_3]) (t := 30) ?hr ?_;(case hd => rfl);(case hg => rfl);(case hr => exact Z393);intro gb363 hg w70 hbox hb;have n_ := jA (blk_below (g := gb362) (o := .cells #[.bool a0_0,.int .u64 a0_1,.int .u64 a0_2,.int .i64 a0_3] 30 (0,0)) Z484 hb) (jA (below_step Z453 hb) (jA (hbox) (jA ((Z317 : w.heap.size ≤ gb363)) (jA ((Z317 : w.heap.size ≤ gb363)) (jA ((Z187 : gb362 ≠ gb363)) (Aside0.mk ((Z188 : gb363 ≠ gb362))))))));clear BK362 HB;obtain ⟨BK362,HB,BK363,GW363,GE363,NB362_363,NB363_362⟩ := n_;clear hb hbox hg) | ((with_reducible refine gate_dst (N := 4) rfl ?_);refine box_event ?hg (N := 4) ?hd (cs := #[.bool false,.int .u64 0,.int .u64 0,.int .i64 0]) (t := 30) ?hr ?_;(case hd => rfl);(case hg => rfl);(case hr => exact Z393);intro gb364 hg w71 hbox hb;have n_ := jA (blk_below (g := gb362) (o := .cells #[.bool a0_0,.int .u64 a0_1,.int .u64 a0_2,.int .i64 a0_3] 30 (0,0)) Z484 hb) (jA (blk_below (g := gb363) (o := .cells #[.bool a1_0,.int .u64 a1_1,.int .u64 a1_2,.int .i64 a1_3] 30 (0,0)) Z490 hb) (jA (below_step Z437 hb) (jA (hbox) (jA ((Z220 : w.heap.size ≤ gb364)) (jA ((Z220 : w.heap.size ≤ gb364)) (jA ((Z187 : gb362 ≠ gb364)) (jA ((Z188 : gb364 ≠ gb362)) (jA ((Z189 : gb363 ≠ gb364)) (Aside0.mk ((Z190 : gb364 ≠ gb363)))))))))));clear BK362 BK363 HB;obtain ⟨BK362,BK363,HB,BK364,GW364,GE364,NB362_364,NB364_362,NB363_364,NB364_363⟩ := n_;clear hb hbox hg;have hnb72 := NB362_363.out;have hnc72 := NB363_362.out;have hnb73 := NB362_364.out;have hnc73 := NB364_362.out;obtain ⟨hcz74_0,hcz74_1,hcz74_2,hcz74_3,hfz74_0,hfz74_1,hfz74_2,hfz74_3⟩ := impl_AddFrac.cells4 BK362.out;have hnb75 := NB363_364.out;have hnc75 := NB364_363.out;obtain ⟨hcz76_0,hcz76_1,hcz76_2,hcz76_3,hfz76_0,hfz76_1,hfz76_2,hfz76_3⟩ := impl_AddFrac.cells4 BK363.out) | ((with_reducible refine gate_callee (f := 48) rfl ?_);refine goesL_ (some 13) rfl rfl Try.func48 Z396 rfl #[.agg #[.bool a0_0,.int .u64 a0_1,.int .u64 a0_2,.int .i64 a0_3],.agg #[.bool a1_0,.int .u64 a1_1,.int .u64 a1_2,.int .i64 a1_3]] rfl Z353 ?_;(with_reducible refine (impl_crossed.calls k a0_0 a0_1 a0_2 a0_3 a1_0 a1_1 a1_2 a1_3 t365 t366 t367 t368 t369 t370 false _ A3.out).mono ?_);rintro e w77 ⟨rfl,hb⟩;refine ⟨_,rfl,?_⟩;have n_ := jA (blk_below (g := gb362) (o := .cells #[.bool a0_0,.int .u64 a0_1,.int .u64 a0_2,.int .i64 a0_3] 30 (0,0)) Z484 hb) (jA (blk_below (g := gb363) (o := .cells #[.bool a1_0,.int .u64 a1_1,.int .u64 a1_2,.int .i64 a1_3] 30 (0,0)) Z490 hb) (jA (blk_below (g := gb364) (o := .cells #[.bool false,.int .u64 0,.int .u64 0,.int .i64 0] 30 (0,0)) Z502 hb) (Aside0.mk (below_step Z421 hb))));clear BK362 BK363 BK364 HB;obtain ⟨BK362,BK363,BK364,HB⟩ := n_;(try clear hb);(try clear hb2);(try clear hk);(try clear hi)) | ((with_reducible refine gate_dst (N := 6) rfl ?_);refine box_event ?hg (N := 6) ?hd (cs := #[.bool false,.int .u64 0,.int .u64 0]) (t := 28) ?hr ?_;(case hd => rfl);(case hg => rfl);(case hr => exact Z393);intro gb372 hg w78 hbox hb;have n_ := jA (blk_below (g := gb362) (o := .cells #[.bool a0_0,.int .u64 a0_1,.int .u64 a0_2,.int .i64 a0_3] 30 (0,0)) Z484 hb) (jA (blk_below (g := gb363) (o := .cells #[.bool a1_0,.int .u64 a1_1,.int .u64 a1_2,.int .i64 a1_3] 30 (0,0)) Z490 hb) (jA (blk_below (g := gb364) (o := .cells #[.bool false,.int .u64 0,.int .u64 0,.int .i64 0] 30 (0,0)) Z502 hb) (jA (below_step Z421 hb) (jA (hbox) (jA ((Z165 : w.heap.size ≤ gb372)) (jA ((Z165 : w.heap.size ≤ gb372)) (jA ((Z187 : gb362 ≠ gb372)) (jA ((Z188 : gb372 ≠ gb362)) (jA ((Z189 : gb363 ≠ gb372)) (jA ((Z190 : gb372 ≠ gb363)) (jA ((Z236 : gb364 ≠ gb372)) (Aside0.mk ((Z237 : gb372 ≠ gb364))))))))))))));clear BK362 BK363 BK364 HB;obtain ⟨BK362,BK363,BK364,HB,BK372,GW372,GE372,NB362_372,NB372_362,NB363_372,NB372_363,NB364_372,NB372_364⟩ := n_;clear hb hbox hg) | ((with_reducible refine gate_dst (N := 7) rfl ?_);refine box_event ?hg (N := 7) ?hd (cs := #[.bool false,.int .u64 0,.int .u64 0]) (t := 28) ?hr ?_;(case hd => rfl);(case hg => rfl);(case hr => exact Z393);intro gb373 hg w79 hbox hb;have n_ := jA (blk_below (g := gb362) (o := .cells #[.bool a0_0,.int .u64 a0_1,.int .u64 a0_2,.int .i64 a0_3] 30 (0,0)) Z484 hb) (jA (blk_below (g := gb363) (o := .cells #[.bool a1_0,.int .u64 a1_1,.int .u64 a1_2,.int .i64 a1_3] 30 (0,0)) Z490 hb) (jA (blk_below (g := gb364) (o := .cells #[.bool false,.int .u64 0,.int .u64 0,.int .i64 0] 30 (0,0)) Z502 hb) (jA (blk_below (g := gb372) (o := .cells #[.bool false,.int .u64 0,.int .u64 0] 28 (0,0)) Z513 hb) (jA (below_step Z414 hb) (jA (hbox) (jA ((Z138 : w.heap.size ≤ gb373)) (jA ((Z138 : w.heap.size ≤ gb373)) (jA ((Z187 : gb362 ≠ gb373)) (jA ((Z188 : gb373 ≠ gb362)) (jA ((Z189 : gb363 ≠ gb373)) (jA ((Z190 : gb373 ≠ gb363)) (jA ((Z236 : gb364 ≠ gb373)) (jA ((Z237 : gb373 ≠ gb364)) (jA ((Z292 : gb372 ≠ gb373)) (Aside0.mk ((Z293 : gb373 ≠ gb372)))))))))))))))));clear BK362 BK363 BK364 BK372 HB;obtain ⟨BK362,BK363,BK364,BK372,HB,BK373,GW373,GE373,NB362_373,NB373_362,NB363_373,NB373_363,NB364_373,NB373_364,NB372_373,NB373_372⟩ := n_;clear hb hbox hg;have hnb80 := NB372_362.out;have hnc80 := NB362_372.out;have hnb81 := NB372_363.out;have hnc81 := NB363_372.out;have hnb82 := NB372_364.out;have hnc82 := NB364_372.out;have hnb83 := NB372_373.out;have hnc83 := NB373_372.out;obtain ⟨hcz84_0,hcz84_1,hcz84_2,hfz84_0,hfz84_1,hfz84_2⟩ := impl_AddFrac.cells3 BK372.out;have hnb85 := NB373_362.out;have hnc85 := NB362_373.out;have hnb86 := NB373_363.out;have hnc86 := NB363_373.out;have hnb87 := NB373_364.out;have hnc87 := NB364_373.out;obtain ⟨hcz88_0,hcz88_1,hcz88_2,hfz88_0,hfz88_1,hfz88_2⟩ := impl_AddFrac.cells3 BK373.out;obtain ⟨hcz89_0,hcz89_1,hcz89_2,hcz89_3,hfz89_0,hfz89_1,hfz89_2,hfz89_3⟩ := impl_AddFrac.cells4 BK364.out))
    refine bodyPost_ret (results_ct rfl _ _ gb364 30 #[.bool false,.int .u64 0,.int .u64 0,.int .i64 0] (0,0) _ rfl (by (with_reducible repeat (first | refine bA ?_ _ | refine bB ?_ | refine bC ?_ _));refine blk_put (cs := #[.bool false,.int .u64 0,.int .u64 0,.int .i64 0]) ?_ 3 _ rfl;(with_reducible repeat (first | refine bA ?_ _ | refine bB ?_ | refine bC ?_ _));refine blk_put (cs := #[.bool false,.int .u64 0,.int .u64 0,.int .i64 0]) ?_ 2 _ rfl;(with_reducible repeat (first | refine bA ?_ _ | refine bB ?_ | refine bC ?_ _));refine blk_put (cs := #[.bool false,.int .u64 0,.int .u64 0,.int .i64 0]) ?_ 1 _ rfl;(with_reducible repeat (first | refine bA ?_ _ | refine bB ?_ | refine bC ?_ _));refine blk_put (cs := #[.bool false,.int .u64 0,.int .u64 0,.int .i64 0]) ?_ 0 _ rfl;(with_reducible repeat (first | refine bA ?_ _ | refine bB ?_ | refine bC ?_ _));refine blk_far ?_ NB364_373.out _;(with_reducible repeat (first | refine bA ?_ _ | refine bB ?_ | refine bC ?_ _));refine blk_far ?_ NB364_373.out _;(with_reducible repeat (first | refine bA ?_ _ | refine bB ?_ | refine bC ?_ _));refine blk_far ?_ NB364_373.out _;(with_reducible repeat (first | refine bA ?_ _ | refine bB ?_ | refine bC ?_ _));refine blk_far ?_ NB364_372.out _;(with_reducible repeat (first | refine bA ?_ _ | refine bB ?_ | refine bC ?_ _));refine blk_far ?_ NB364_372.out _;(with_reducible repeat (first | refine bA ?_ _ | refine bB ?_ | refine bC ?_ _));refine blk_far ?_ NB364_372.out _;(with_reducible repeat (first | refine bA ?_ _ | refine bB ?_ | refine bC ?_ _));exact BK364.out) Try.underlying30 rfl Z396) rfl ?_
    exact ⟨Z385,Z408⟩

/-! ### impl_GainOf: function 11 -/
theorem impl_GainOf.cells4 {w : World} {g : Nat} {t : TypeId} {a0 a1 a2 a3 : Value} (h : w.heap[g]? = some (.cells #[a0,a1,a2,a3] t (0,0))) : w.cell? ⟨g,0,none⟩ = some a0 ∧ w.cell? ⟨g,1,none⟩ = some a1 ∧ w.cell? ⟨g,2,none⟩ = some a2 ∧ w.cell? ⟨g,3,none⟩ = some a3 ∧ w.frozen? ⟨g,0,none⟩ = false ∧ w.frozen? ⟨g,1,none⟩ = false ∧ w.frozen? ⟨g,2,none⟩ = false ∧ w.frozen? ⟨g,3,none⟩ = false := ⟨(blk_cell h 0).trans rfl,(blk_cell h 1).trans rfl,(blk_cell h 2).trans rfl,(blk_cell h 3).trans rfl,blk_frozen h 0,blk_frozen h 1,blk_frozen h 2,blk_frozen h 3⟩
theorem impl_GainOf.cells6 {w : World} {g : Nat} {t : TypeId} {a0 a1 a2 a3 a4 a5 : Value} (h : w.heap[g]? = some (.cells #[a0,a1,a2,a3,a4,a5] t (0,0))) : w.cell? ⟨g,0,none⟩ = some a0 ∧ w.cell? ⟨g,1,none⟩ = some a1 ∧ w.cell? ⟨g,2,none⟩ = some a2 ∧ w.cell? ⟨g,3,none⟩ = some a3 ∧ w.cell? ⟨g,4,none⟩ = some a4 ∧ w.cell? ⟨g,5,none⟩ = some a5 ∧ w.frozen? ⟨g,0,none⟩ = false ∧ w.frozen? ⟨g,1,none⟩ = false ∧ w.frozen? ⟨g,2,none⟩ = false ∧ w.frozen? ⟨g,3,none⟩ = false ∧ w.frozen? ⟨g,4,none⟩ = false ∧ w.frozen? ⟨g,5,none⟩ = false := ⟨(blk_cell h 0).trans rfl,(blk_cell h 1).trans rfl,(blk_cell h 2).trans rfl,(blk_cell h 3).trans rfl,(blk_cell h 4).trans rfl,(blk_cell h 5).trans rfl,blk_frozen h 0,blk_frozen h 1,blk_frozen h 2,blk_frozen h 3,blk_frozen h 4,blk_frozen h 5⟩
def impl_GainOf.f (k : Nat) (a0_0 : Int) (a0_1 : Int) (a0_2 : Int) (a0_3 : Int) (a0_4 : Int) (a0_5 : Int) (a1 : Int) : Option (Bool × Int × Int × Int × Bool) := (impl_PlainGain.f a0_2 a0_3 a1).bind fun bt386 => ((impl_PlainGain.f a0_4 a0_5 a1).bind fun bt392 => (if bt386.2.2.2.2 = true then (if bt392.2.2.2.2 = true then ((impl_AddFrac.f k bt386.1 bt386.2.1 bt386.2.2.1 bt386.2.2.2.1 bt392.1 bt392.2.1 bt392.2.2.1 bt392.2.2.2.1).bind fun bt398 => (some (bt398.1,bt398.2.1,bt398.2.2.1,bt398.2.2.2.1,bt398.2.2.2.2))) else (some (false,0,0,0,false))) else (some (false,0,0,0,false))))
theorem impl_GainOf.mono : ∀ a0 a1 a2 a3 a4 a5 a6 k,LeO (impl_GainOf.f k a0 a1 a2 a3 a4 a5 a6) (impl_GainOf.f (k + 1) a0 a1 a2 a3 a4 a5 a6) := by
  intro a0 a1 a2 a3 a4 a5 a6 k
  unfold impl_GainOf.f
  repeat' first
      | (with_reducible exact impl_AddFrac.mono _ _ _ _ _ _ _ _ _)
      | (with_reducible exact LeO.refl _)
      | (with_reducible exact LeO.none _)
      | (with_reducible refine LeO.ite ?_ ?_)
      | (with_reducible refine LeO.bind ?_ (fun _ => ?_))
      | exact impl_AddFrac.mono _ _ _ _ _ _ _ _ _
      | exact LeO.none _
      | refine LeO.ite ?_ ?_
      | refine LeO.bind ?_ (fun _ => ?_)
set_option maxHeartbeats 8000000 in
set_option maxRecDepth 100000 in
theorem impl_GainOf.calls (k : Nat) (a0_0 : Int) (a0_1 : Int) (a0_2 : Int) (a0_3 : Int) (a0_4 : Int) (a0_5 : Int) (a1 : Int) (r1 : Bool) (r2 : Int) (r3 : Int) (r4 : Int) (r5 : Bool) (w : World) (h : impl_GainOf.f k a0_0 a0_1 a0_2 a0_3 a0_4 a0_5 a1 = some (r1,r2,r3,r4,r5)) :
    Calls Try.prog 11 #[.agg #[.int .i64 a0_0,.int .i64 a0_1,.int .i64 a0_2,.int .i64 a0_3,.int .i64 a0_4,.int .i64 a0_5],.int .i64 a1] w fun e w' => e = .returned (.tuple #[.agg #[.bool r1,.int .u64 r2,.int .u64 r3,.int .i64 r4],.bool r5]) ∧ Below w.heap.size w w' := by
  have hu35 := Try.underlying35
  have hu30 := Try.underlying30
  have hu33 := Try.underlying33
  have HB := Aside0.mk (Below.refl w.heap.size w)
  have H : ((impl_PlainGain.f a0_2 a0_3 a1).bind fun bt386 => ((impl_PlainGain.f a0_4 a0_5 a1).bind fun bt392 => (if bt386.2.2.2.2 = true then (if bt392.2.2.2.2 = true then ((impl_AddFrac.f k bt386.1 bt386.2.1 bt386.2.2.1 bt386.2.2.2.1 bt392.1 bt392.2.1 bt392.2.2.1 bt392.2.2.2.1).bind fun bt398 => (some (bt398.1,bt398.2.1,bt398.2.2.1,bt398.2.2.2.1,bt398.2.2.2.2))) else (some (false,0,0,0,false))) else (some (false,0,0,0,false))))) = some (r1,r2,r3,r4,r5) := h
  clear h
  obtain ⟨⟨t386,t387,t388,t389,t390⟩,A30,H⟩ := Option.bind_eq_some_iff.mp H
  try dsimp only at H
  have A3 := Aside0.mk A30
  clear A30
  obtain ⟨⟨t392,t393,t394,t395,t396⟩,A40,H⟩ := Option.bind_eq_some_iff.mp H
  try dsimp only at H
  have A4 := Aside0.mk A40
  clear A40
  by_cases c5 : t390 = true
  · subst c5
    have H1 : (if t396 = true then ((impl_AddFrac.f k t386 t387 t388 t389 t392 t393 t394 t395).bind fun bt398 => (some (bt398.1,bt398.2.1,bt398.2.2.1,bt398.2.2.2.1,bt398.2.2.2.2))) else (some (false,0,0,0,false))) = some (r1,r2,r3,r4,r5) := by rw [if_pos rfl] at H;exact H
    clear H
    have H := H1
    clear H1
    by_cases c6 : t396 = true
    · subst c6
      have H1 : ((impl_AddFrac.f k t386 t387 t388 t389 t392 t393 t394 t395).bind fun bt398 => (some (bt398.1,bt398.2.1,bt398.2.2.1,bt398.2.2.2.1,bt398.2.2.2.2))) = some (r1,r2,r3,r4,r5) := by rw [if_pos rfl] at H;exact H
      clear H
      have H := H1
      clear H1
      obtain ⟨⟨t398,t399,t400,t401,t402⟩,A70,H⟩ := Option.bind_eq_some_iff.mp H
      try dsimp only at H
      have A7 := Aside0.mk A70
      clear A70
      simp only [Option.some.injEq,Prod.mk.injEq] at H
      obtain ⟨rfl,rfl,rfl,rfl,rfl⟩ := H
      go_enter Try.func11,Try.ntmps11
      go_wp2_with (first | ((with_reducible refine gate_dst (N := 2) rfl ?_);refine box_event ?hg (N := 2) ?hd (cs := #[.int .i64 a0_0,.int .i64 a0_1,.int .i64 a0_2,.int .i64 a0_3,.int .i64 a0_4,.int .i64 a0_5]) (t := 35) ?hr ?_;(case hd => rfl);(case hg => rfl);(case hr => exact Z393);intro gb384 hg w8 hbox hb;have n_ := jA (below_step Z476 hb) (jA (hbox) (jA ((Z345 : w.heap.size ≤ gb384)) (Aside0.mk ((Z345 : w.heap.size ≤ gb384)))));clear HB;obtain ⟨HB,BK384,GW384,GE384⟩ := n_;clear hb hbox hg) | ((with_reducible refine gate_dst (N := 4) rfl ?_);refine box_event ?hg (N := 4) ?hd (cs := #[.bool false,.int .u64 0,.int .u64 0,.int .i64 0]) (t := 30) ?hr ?_;(case hd => rfl);(case hg => rfl);(case hr => exact Z393);intro gb385 hg w9 hbox hb;have n_ := jA (blk_below (g := gb384) (o := .cells #[.int .i64 a0_0,.int .i64 a0_1,.int .i64 a0_2,.int .i64 a0_3,.int .i64 a0_4,.int .i64 a0_5] 35 (0,0)) Z498 hb) (jA (below_step Z452 hb) (jA (hbox) (jA ((Z316 : w.heap.size ≤ gb385)) (jA ((Z316 : w.heap.size ≤ gb385)) (jA ((Z146 : gb384 ≠ gb385)) (Aside0.mk ((Z148 : gb385 ≠ gb384))))))));clear BK384 HB;obtain ⟨BK384,HB,BK385,GW385,GE385,NB384_385,NB385_384⟩ := n_;clear hb hbox hg;have hnb10 := NB384_385.out;have hnc10 := NB385_384.out;obtain ⟨hcz11_0,hcz11_1,hcz11_2,hcz11_3,hcz11_4,hcz11_5,hfz11_0,hfz11_1,hfz11_2,hfz11_3,hfz11_4,hfz11_5⟩ := impl_GainOf.cells6 BK384.out) | ((with_reducible refine gate_callee (f := 21) rfl ?_);refine goesL_ (some 14) rfl rfl Try.func21 Z396 rfl #[.agg #[.int .i64 a0_2,.int .i64 a0_3],.int .i64 a1] rfl Z353 ?_;(with_reducible refine (impl_PlainGain.calls a0_2 a0_3 a1 t386 t387 t388 t389 true _ A3.out).mono ?_);rintro e w12 ⟨rfl,hb⟩;refine ⟨_,rfl,?_⟩;have n_ := jA (blk_below (g := gb384) (o := .cells #[.int .i64 a0_0,.int .i64 a0_1,.int .i64 a0_2,.int .i64 a0_3,.int .i64 a0_4,.int .i64 a0_5] 35 (0,0)) Z498 hb) (jA (blk_below (g := gb385) (o := .cells #[.bool false,.int .u64 0,.int .u64 0,.int .i64 0] 30 (0,0)) Z505 hb) (Aside0.mk (below_step Z431 hb)));clear BK384 BK385 HB;obtain ⟨BK384,BK385,HB⟩ := n_;(try clear hb);(try clear hb2);(try clear hk);(try clear hi)) | ((with_reducible refine gate_dst (N := 6) rfl ?_);refine box_event ?hg (N := 6) ?hd (cs := #[.bool false,.int .u64 0,.int .u64 0,.int .i64 0]) (t := 30) ?hr ?_;(case hd => rfl);(case hg => rfl);(case hr => exact Z393);intro gb391 hg w13 hbox hb;have n_ := jA (blk_below (g := gb384) (o := .cells #[.int .i64 a0_0,.int .i64 a0_1,.int .i64 a0_2,.int .i64 a0_3,.int .i64 a0_4,.int .i64 a0_5] 35 (0,0)) Z498 hb) (jA (blk_below (g := gb385) (o := .cells #[.bool false,.int .u64 0,.int .u64 0,.int .i64 0] 30 (0,0)) Z505 hb) (jA (below_step Z431 hb) (jA (hbox) (jA ((Z219 : w.heap.size ≤ gb391)) (jA ((Z219 : w.heap.size ≤ gb391)) (jA ((Z146 : gb384 ≠ gb391)) (jA ((Z148 : gb391 ≠ gb384)) (jA ((Z238 : gb385 ≠ gb391)) (Aside0.mk ((Z240 : gb391 ≠ gb385)))))))))));clear BK384 BK385 HB;obtain ⟨BK384,BK385,HB,BK391,GW391,GE391,NB384_391,NB391_384,NB385_391,NB391_385⟩ := n_;clear hb hbox hg;have hnb14 := NB391_384.out;have hnc14 := NB384_391.out;have hnb15 := NB391_385.out;have hnc15 := NB385_391.out;obtain ⟨hcz16_0,hcz16_1,hcz16_2,hcz16_3,hfz16_0,hfz16_1,hfz16_2,hfz16_3⟩ := impl_GainOf.cells4 BK391.out;obtain ⟨hcz17_0,hcz17_1,hcz17_2,hcz17_3,hcz17_4,hcz17_5,hfz17_0,hfz17_1,hfz17_2,hfz17_3,hfz17_4,hfz17_5⟩ := impl_GainOf.cells6 BK384.out) | ((with_reducible refine gate_callee (f := 21) rfl ?_);refine goesL_ (some 21) rfl rfl Try.func21 Z396 rfl #[.agg #[.int .i64 a0_4,.int .i64 a0_5],.int .i64 a1] rfl Z353 ?_;(with_reducible refine (impl_PlainGain.calls a0_4 a0_5 a1 t392 t393 t394 t395 true _ A4.out).mono ?_);rintro e w18 ⟨rfl,hb⟩;refine ⟨_,rfl,?_⟩;have n_ := jA (blk_below (g := gb384) (o := .cells #[.int .i64 a0_0,.int .i64 a0_1,.int .i64 a0_2,.int .i64 a0_3,.int .i64 a0_4,.int .i64 a0_5] 35 (0,0)) Z64 hb) (jA (blk_below (g := gb385) (o := .cells #[.bool false,.int .u64 0,.int .u64 0,.int .i64 0] 30 (0,0)) Z63 hb) (jA (blk_below (g := gb391) (o := .cells #[.bool t386,.int .u64 t387,.int .u64 t388,.int .i64 t389] 30 (0,0)) Z23 hb) (Aside0.mk (below_step Z420 hb))));clear BK384 BK385 BK391 HB;obtain ⟨BK384,BK385,BK391,HB⟩ := n_;(try clear hb);(try clear hb2);(try clear hk);(try clear hi)) | ((with_reducible refine gate_dst (N := 8) rfl ?_);refine box_event ?hg (N := 8) ?hd (cs := #[.bool false,.int .u64 0,.int .u64 0,.int .i64 0]) (t := 30) ?hr ?_;(case hd => rfl);(case hg => rfl);(case hr => exact Z393);intro gb397 hg w19 hbox hb;have n_ := jA (blk_below (g := gb384) (o := .cells #[.int .i64 a0_0,.int .i64 a0_1,.int .i64 a0_2,.int .i64 a0_3,.int .i64 a0_4,.int .i64 a0_5] 35 (0,0)) Z498 hb) (jA (blk_below (g := gb385) (o := .cells #[.bool false,.int .u64 0,.int .u64 0,.int .i64 0] 30 (0,0)) Z505 hb) (jA (blk_below (g := gb391) (o := .cells #[.bool t386,.int .u64 t387,.int .u64 t388,.int .i64 t389] 30 (0,0)) Z522 hb) (jA (below_step Z420 hb) (jA (hbox) (jA ((Z164 : w.heap.size ≤ gb397)) (jA ((Z164 : w.heap.size ≤ gb397)) (jA ((Z146 : gb384 ≠ gb397)) (jA ((Z148 : gb397 ≠ gb384)) (jA ((Z238 : gb385 ≠ gb397)) (jA ((Z240 : gb397 ≠ gb385)) (jA ((Z209 : gb391 ≠ gb397)) (Aside0.mk ((Z211 : gb397 ≠ gb391))))))))))))));clear BK384 BK385 BK391 HB;obtain ⟨BK384,BK385,BK391,HB,BK397,GW397,GE397,NB384_397,NB397_384,NB385_397,NB397_385,NB391_397,NB397_391⟩ := n_;clear hb hbox hg;have hnb20 := NB397_384.out;have hnc20 := NB384_397.out;have hnb21 := NB397_385.out;have hnc21 := NB385_397.out;have hnb22 := NB397_391.out;have hnc22 := NB391_397.out;obtain ⟨hcz23_0,hcz23_1,hcz23_2,hcz23_3,hfz23_0,hfz23_1,hfz23_2,hfz23_3⟩ := impl_GainOf.cells4 BK397.out;obtain ⟨hcz24_0,hcz24_1,hcz24_2,hcz24_3,hfz24_0,hfz24_1,hfz24_2,hfz24_3⟩ := impl_GainOf.cells4 BK391.out) | ((with_reducible refine gate_callee (f := 26) rfl ?_);refine goesL_ (some 33) rfl rfl Try.func26 Z396 rfl #[.agg #[.bool t386,.int .u64 t387,.int .u64 t388,.int .i64 t389],.agg #[.bool t392,.int .u64 t393,.int .u64 t394,.int .i64 t395]] rfl Z353 ?_;(with_reducible refine (impl_AddFrac.calls k t386 t387 t388 t389 t392 t393 t394 t395 t398 t399 t400 t401 t402 _ A7.out).mono ?_);rintro e w25 ⟨rfl,hb⟩;refine ⟨_,rfl,?_⟩;have n_ := jA (blk_below (g := gb384) (o := .cells #[.int .i64 a0_0,.int .i64 a0_1,.int .i64 a0_2,.int .i64 a0_3,.int .i64 a0_4,.int .i64 a0_5] 35 (0,0)) (by (with_reducible repeat (first | refine bA ?_ _ | refine bB ?_ | refine bC ?_ _));refine blk_far ?_ NB384_397.out _;(with_reducible repeat (first | refine bA ?_ _ | refine bB ?_ | refine bC ?_ _));refine blk_far ?_ NB384_397.out _;(with_reducible repeat (first | refine bA ?_ _ | refine bB ?_ | refine bC ?_ _));refine blk_far ?_ NB384_397.out _;(with_reducible repeat (first | refine bA ?_ _ | refine bB ?_ | refine bC ?_ _));refine blk_far ?_ NB384_397.out _;(with_reducible repeat (first | refine bA ?_ _ | refine bB ?_ | refine bC ?_ _));exact BK384.out) hb) (jA (blk_below (g := gb385) (o := .cells #[.bool false,.int .u64 0,.int .u64 0,.int .i64 0] 30 (0,0)) (by (with_reducible repeat (first | refine bA ?_ _ | refine bB ?_ | refine bC ?_ _));refine blk_far ?_ NB385_397.out _;(with_reducible repeat (first | refine bA ?_ _ | refine bB ?_ | refine bC ?_ _));refine blk_far ?_ NB385_397.out _;(with_reducible repeat (first | refine bA ?_ _ | refine bB ?_ | refine bC ?_ _));refine blk_far ?_ NB385_397.out _;(with_reducible repeat (first | refine bA ?_ _ | refine bB ?_ | refine bC ?_ _));refine blk_far ?_ NB385_397.out _;(with_reducible repeat (first | refine bA ?_ _ | refine bB ?_ | refine bC ?_ _));exact BK385.out) hb) (jA (blk_below (g := gb391) (o := .cells #[.bool t386,.int .u64 t387,.int .u64 t388,.int .i64 t389] 30 (0,0)) (by (with_reducible repeat (first | refine bA ?_ _ | refine bB ?_ | refine bC ?_ _));refine blk_far ?_ NB391_397.out _;(with_reducible repeat (first | refine bA ?_ _ | refine bB ?_ | refine bC ?_ _));refine blk_far ?_ NB391_397.out _;(with_reducible repeat (first | refine bA ?_ _ | refine bB ?_ | refine bC ?_ _));refine blk_far ?_ NB391_397.out _;(with_reducible repeat (first | refine bA ?_ _ | refine bB ?_ | refine bC ?_ _));refine blk_far ?_ NB391_397.out _;(with_reducible repeat (first | refine bA ?_ _ | refine bB ?_ | refine bC ?_ _));exact BK391.out) hb) (jA (blk_below (g := gb397) (o := .cells #[.bool t392,.int .u64 t393,.int .u64 t394,.int .i64 t395] 30 (0,0)) (by (with_reducible repeat (first | refine bA ?_ _ | refine bB ?_ | refine bC ?_ _));refine blk_put (cs := #[.bool t392,.int .u64 t393,.int .u64 t394,.int .i64 0]) ?_ 3 _ rfl;(with_reducible repeat (first | refine bA ?_ _ | refine bB ?_ | refine bC ?_ _));refine blk_put (cs := #[.bool t392,.int .u64 t393,.int .u64 0,.int .i64 0]) ?_ 2 _ rfl;(with_reducible repeat (first | refine bA ?_ _ | refine bB ?_ | refine bC ?_ _));refine blk_put (cs := #[.bool t392,.int .u64 0,.int .u64 0,.int .i64 0]) ?_ 1 _ rfl;(with_reducible repeat (first | refine bA ?_ _ | refine bB ?_ | refine bC ?_ _));refine blk_put (cs := #[.bool false,.int .u64 0,.int .u64 0,.int .i64 0]) ?_ 0 _ rfl;(with_reducible repeat (first | refine bA ?_ _ | refine bB ?_ | refine bC ?_ _));exact BK397.out) hb) (Aside0.mk (below_step Z168 hb)))));clear BK384 BK385 BK391 BK397 HB;obtain ⟨BK384,BK385,BK391,BK397,HB⟩ := n_;(try clear hb);(try clear hb2);(try clear hk);(try clear hi);obtain ⟨hcz26_0,hcz26_1,hcz26_2,hcz26_3,hfz26_0,hfz26_1,hfz26_2,hfz26_3⟩ := impl_GainOf.cells4 BK385.out))
      refine bodyPost_ret (results_ct rfl _ _ gb385 30 #[.bool t398,.int .u64 t399,.int .u64 t400,.int .i64 t401] (0,0) _ rfl (by (with_reducible repeat (first | refine bA ?_ _ | refine bB ?_ | refine bC ?_ _));refine blk_put (cs := #[.bool t398,.int .u64 t399,.int .u64 t400,.int .i64 0]) ?_ 3 _ rfl;(with_reducible repeat (first | refine bA ?_ _ | refine bB ?_ | refine bC ?_ _));refine blk_put (cs := #[.bool t398,.int .u64 t399,.int .u64 0,.int .i64 0]) ?_ 2 _ rfl;(with_reducible repeat (first | refine bA ?_ _ | refine bB ?_ | refine bC ?_ _));refine blk_put (cs := #[.bool t398,.int .u64 0,.int .u64 0,.int .i64 0]) ?_ 1 _ rfl;(with_reducible repeat (first | refine bA ?_ _ | refine bB ?_ | refine bC ?_ _));refine blk_put (cs := #[.bool false,.int .u64 0,.int .u64 0,.int .i64 0]) ?_ 0 _ rfl;(with_reducible repeat (first | refine bA ?_ _ | refine bB ?_ | refine bC ?_ _));exact BK385.out) Try.underlying30 rfl Z396) rfl ?_
      exact ⟨Z385,Z168⟩
    · replace c6 := Bool.eq_false_iff.mpr c6
      subst c6
      have H1 : (some (false,0,0,0,false)) = some (r1,r2,r3,r4,r5) := by rw [if_neg (show ¬ (false = true) by decide)] at H;exact H
      clear H
      have H := H1
      clear H1
      simp only [Option.some.injEq,Prod.mk.injEq] at H
      obtain ⟨rfl,rfl,rfl,rfl,rfl⟩ := H
      go_enter Try.func11,Try.ntmps11
      go_wp2_with (first | ((with_reducible refine gate_dst (N := 2) rfl ?_);refine box_event ?hg (N := 2) ?hd (cs := #[.int .i64 a0_0,.int .i64 a0_1,.int .i64 a0_2,.int .i64 a0_3,.int .i64 a0_4,.int .i64 a0_5]) (t := 35) ?hr ?_;(case hd => rfl);(case hg => rfl);(case hr => exact Z393);intro gb384 hg w27 hbox hb;have n_ := jA (below_step Z476 hb) (jA (hbox) (jA ((Z345 : w.heap.size ≤ gb384)) (Aside0.mk ((Z345 : w.heap.size ≤ gb384)))));clear HB;obtain ⟨HB,BK384,GW384,GE384⟩ := n_;clear hb hbox hg) | ((with_reducible refine gate_dst (N := 4) rfl ?_);refine box_event ?hg (N := 4) ?hd (cs := #[.bool false,.int .u64 0,.int .u64 0,.int .i64 0]) (t := 30) ?hr ?_;(case hd => rfl);(case hg => rfl);(case hr => exact Z393);intro gb385 hg w28 hbox hb;have n_ := jA (blk_below (g := gb384) (o := .cells #[.int .i64 a0_0,.int .i64 a0_1,.int .i64 a0_2,.int .i64 a0_3,.int .i64 a0_4,.int .i64 a0_5] 35 (0,0)) Z498 hb) (jA (below_step Z452 hb) (jA (hbox) (jA ((Z316 : w.heap.size ≤ gb385)) (jA ((Z316 : w.heap.size ≤ gb385)) (jA ((Z146 : gb384 ≠ gb385)) (Aside0.mk ((Z148 : gb385 ≠ gb384))))))));clear BK384 HB;obtain ⟨BK384,HB,BK385,GW385,GE385,NB384_385,NB385_384⟩ := n_;clear hb hbox hg;have hnb29 := NB384_385.out;have hnc29 := NB385_384.out;obtain ⟨hcz30_0,hcz30_1,hcz30_2,hcz30_3,hcz30_4,hcz30_5,hfz30_0,hfz30_1,hfz30_2,hfz30_3,hfz30_4,hfz30_5⟩ := impl_GainOf.cells6 BK384.out) | ((with_reducible refine gate_callee (f := 21) rfl ?_);refine goesL_ (some 14) rfl rfl Try.func21 Z396 rfl #[.agg #[.int .i64 a0_2,.int .i64 a0_3],.int .i64 a1] rfl Z353 ?_;(with_reducible refine (impl_PlainGain.calls a0_2 a0_3 a1 t386 t387 t388 t389 true _ A3.out).mono ?_);rintro e w31 ⟨rfl,hb⟩;refine ⟨_,rfl,?_⟩;have n_ := jA (blk_below (g := gb384) (o := .cells #[.int .i64 a0_0,.int .i64 a0_1,.int .i64 a0_2,.int .i64 a0_3,.int .i64 a0_4,.int .i64 a0_5] 35 (0,0)) Z498 hb) (jA (blk_below (g := gb385) (o := .cells #[.bool false,.int .u64 0,.int .u64 0,.int .i64 0] 30 (0,0)) Z505 hb) (Aside0.mk (below_step Z431 hb)));clear BK384 BK385 HB;obtain ⟨BK384,BK385,HB⟩ := n_;(try clear hb);(try clear hb2);(try clear hk);(try clear hi)) | ((with_reducible refine gate_dst (N := 6) rfl ?_);refine box_event ?hg (N := 6) ?hd (cs := #[.bool false,.int .u64 0,.int .u64 0,.int .i64 0]) (t := 30) ?hr ?_;(case hd => rfl);(case hg => rfl);(case hr => exact Z393);intro gb391 hg w32 hbox hb;have n_ := jA (blk_below (g := gb384) (o := .cells #[.int .i64 a0_0,.int .i64 a0_1,.int .i64 a0_2,.int .i64 a0_3,.int .i64 a0_4,.int .i64 a0_5] 35 (0,0)) Z498 hb) (jA (blk_below (g := gb385) (o := .cells #[.bool false,.int .u64 0,.int .u64 0,.int .i64 0] 30 (0,0)) Z505 hb) (jA (below_step Z431 hb) (jA (hbox) (jA ((Z219 : w.heap.size ≤ gb391)) (jA ((Z219 : w.heap.size ≤ gb391)) (jA ((Z146 : gb384 ≠ gb391)) (jA ((Z148 : gb391 ≠ gb384)) (jA ((Z238 : gb385 ≠ gb391)) (Aside0.mk ((Z240 : gb391 ≠ gb385)))))))))));clear BK384 BK385 HB;obtain ⟨BK384,BK385,HB,BK391,GW391,GE391,NB384_391,NB391_384,NB385_391,NB391_385⟩ := n_;clear hb hbox hg;have hnb33 := NB391_384.out;have hnc33 := NB384_391.out;have hnb34 := NB391_385.out;have hnc34 := NB385_391.out;obtain ⟨hcz35_0,hcz35_1,hcz35_2,hcz35_3,hfz35_0,hfz35_1,hfz35_2,hfz35_3⟩ := impl_GainOf.cells4 BK391.out;obtain ⟨hcz36_0,hcz36_1,hcz36_2,hcz36_3,hcz36_4,hcz36_5,hfz36_0,hfz36_1,hfz36_2,hfz36_3,hfz36_4,hfz36_5⟩ := impl_GainOf.cells6 BK384.out) | ((with_reducible refine gate_callee (f := 21) rfl ?_);refine goesL_ (some 21) rfl rfl Try.func21 Z396 rfl #[.agg #[.int .i64 a0_4,.int .i64 a0_5],.int .i64 a1] rfl Z353 ?_;(with_reducible refine (impl_PlainGain.calls a0_4 a0_5 a1 t392 t393 t394 t395 false _ A4.out).mono ?_);rintro e w37 ⟨rfl,hb⟩;refine ⟨_,rfl,?_⟩;have n_ := jA (blk_below (g := gb384) (o := .cells #[.int .i64 a0_0,.int .i64 a0_1,.int .i64 a0_2,.int .i64 a0_3,.int .i64 a0_4,.int .i64 a0_5] 35 (0,0)) Z64 hb) (jA (blk_below (g := gb385) (o := .cells #[.bool false,.int .u64 0,.int .u64 0,.int .i64 0] 30 (0,0)) Z63 hb) (jA (blk_below (g := gb391) (o := .cells #[.bool t386,.int .u64 t387,.int .u64 t388,.int .i64 t389] 30 (0,0)) Z23 hb) (Aside0.mk (below_step Z420 hb))));clear BK384 BK385 BK391 HB;obtain ⟨BK384,BK385,BK391,HB⟩ := n_;(try clear hb);(try clear hb2);(try clear hk);(try clear hi)) | ((with_reducible refine gate_dst (N := 8) rfl ?_);refine box_event ?hg (N := 8) ?hd (cs := #[.bool false,.int .u64 0,.int .u64 0,.int .i64 0]) (t := 30) ?hr ?_;(case hd => rfl);(case hg => rfl);(case hr => exact Z393);intro gb397 hg w38 hbox hb;have n_ := jA (blk_below (g := gb384) (o := .cells #[.int .i64 a0_0,.int .i64 a0_1,.int .i64 a0_2,.int .i64 a0_3,.int .i64 a0_4,.int .i64 a0_5] 35 (0,0)) Z498 hb) (jA (blk_below (g := gb385) (o := .cells #[.bool false,.int .u64 0,.int .u64 0,.int .i64 0] 30 (0,0)) Z505 hb) (jA (blk_below (g := gb391) (o := .cells #[.bool t386,.int .u64 t387,.int .u64 t388,.int .i64 t389] 30 (0,0)) Z522 hb) (jA (below_step Z420 hb) (jA (hbox) (jA ((Z164 : w.heap.size ≤ gb397)) (jA ((Z164 : w.heap.size ≤ gb397)) (jA ((Z146 : gb384 ≠ gb397)) (jA ((Z148 : gb397 ≠ gb384)) (jA ((Z238 : gb385 ≠ gb397)) (jA ((Z240 : gb397 ≠ gb385)) (jA ((Z209 : gb391 ≠ gb397)) (Aside0.mk ((Z211 : gb397 ≠ gb391))))))))))))));clear BK384 BK385 BK391 HB;obtain ⟨BK384,BK385,BK391,HB,BK397,GW397,GE397,NB384_397,NB397_384,NB385_397,NB397_385,NB391_397,NB397_391⟩ := n_;clear hb hbox hg;have hnb39 := NB397_384.out;have hnc39 := NB384_397.out;have hnb40 := NB397_385.out;have hnc40 := NB385_397.out;have hnb41 := NB397_391.out;have hnc41 := NB391_397.out;obtain ⟨hcz42_0,hcz42_1,hcz42_2,hcz42_3,hfz42_0,hfz42_1,hfz42_2,hfz42_3⟩ := impl_GainOf.cells4 BK397.out;obtain ⟨hcz43_0,hcz43_1,hcz43_2,hcz43_3,hfz43_0,hfz43_1,hfz43_2,hfz43_3⟩ := impl_GainOf.cells4 BK385.out))
      refine bodyPost_ret (results_ct rfl _ _ gb385 30 #[.bool false,.int .u64 0,.int .u64 0,.int .i64 0] (0,0) _ rfl Z1 Try.underlying30 rfl Z396) rfl ?_
      exact ⟨Z385,Z168⟩
  · replace c5 := Bool.eq_false_iff.mpr c5
    subst c5
    have H1 : (some (false,0,0,0,false)) = some (r1,r2,r3,r4,r5) := by rw [if_neg (show ¬ (false = true) by decide)] at H;exact H
    clear H
    have H := H1
    clear H1
    simp only [Option.some.injEq,Prod.mk.injEq] at H
    obtain ⟨rfl,rfl,rfl,rfl,rfl⟩ := H
    go_enter Try.func11,Try.ntmps11
    go_wp2_with (first | ((with_reducible refine gate_dst (N := 2) rfl ?_);refine box_event ?hg (N := 2) ?hd (cs := #[.int .i64 a0_0,.int .i64 a0_1,.int .i64 a0_2,.int .i64 a0_3,.int .i64 a0_4,.int .i64 a0_5]) (t := 35) ?hr ?_;(case hd => rfl);(case hg => rfl);(case hr => exact Z393);intro gb384 hg w44 hbox hb;have n_ := jA (below_step Z476 hb) (jA (hbox) (jA ((Z345 : w.heap.size ≤ gb384)) (Aside0.mk ((Z345 : w.heap.size ≤ gb384)))));clear HB;obtain ⟨HB,BK384,GW384,GE384⟩ := n_;clear hb hbox hg) | ((with_reducible refine gate_dst (N := 4) rfl ?_);refine box_event ?hg (N := 4) ?hd (cs := #[.bool false,.int .u64 0,.int .u64 0,.int .i64 0]) (t := 30) ?hr ?_;(case hd => rfl);(case hg => rfl);(case hr => exact Z393);intro gb385 hg w45 hbox hb;have n_ := jA (blk_below (g := gb384) (o := .cells #[.int .i64 a0_0,.int .i64 a0_1,.int .i64 a0_2,.int .i64 a0_3,.int .i64 a0_4,.int .i64 a0_5] 35 (0,0)) Z498 hb) (jA (below_step Z452 hb) (jA (hbox) (jA ((Z316 : w.heap.size ≤ gb385)) (jA ((Z316 : w.heap.size ≤ gb385)) (jA ((Z146 : gb384 ≠ gb385)) (Aside0.mk ((Z148 : gb385 ≠ gb384))))))));clear BK384 HB;obtain ⟨BK384,HB,BK385,GW385,GE385,NB384_385,NB385_384⟩ := n_;clear hb hbox hg;have hnb46 := NB384_385.out;have hnc46 := NB385_384.out;obtain ⟨hcz47_0,hcz47_1,hcz47_2,hcz47_3,hcz47_4,hcz47_5,hfz47_0,hfz47_1,hfz47_2,hfz47_3,hfz47_4,hfz47_5⟩ := impl_GainOf.cells6 BK384.out) | ((with_reducible refine gate_callee (f := 21) rfl ?_);refine goesL_ (some 14) rfl rfl Try.func21 Z396 rfl #[.agg #[.int .i64 a0_2,.int .i64 a0_3],.int .i64 a1] rfl Z353 ?_;(with_reducible refine (impl_PlainGain.calls a0_2 a0_3 a1 t386 t387 t388 t389 false _ A3.out).mono ?_);rintro e w48 ⟨rfl,hb⟩;refine ⟨_,rfl,?_⟩;have n_ := jA (blk_below (g := gb384) (o := .cells #[.int .i64 a0_0,.int .i64 a0_1,.int .i64 a0_2,.int .i64 a0_3,.int .i64 a0_4,.int .i64 a0_5] 35 (0,0)) Z498 hb) (jA (blk_below (g := gb385) (o := .cells #[.bool false,.int .u64 0,.int .u64 0,.int .i64 0] 30 (0,0)) Z505 hb) (Aside0.mk (below_step Z431 hb)));clear BK384 BK385 HB;obtain ⟨BK384,BK385,HB⟩ := n_;(try clear hb);(try clear hb2);(try clear hk);(try clear hi)) | ((with_reducible refine gate_dst (N := 6) rfl ?_);refine box_event ?hg (N := 6) ?hd (cs := #[.bool false,.int .u64 0,.int .u64 0,.int .i64 0]) (t := 30) ?hr ?_;(case hd => rfl);(case hg => rfl);(case hr => exact Z393);intro gb391 hg w49 hbox hb;have n_ := jA (blk_below (g := gb384) (o := .cells #[.int .i64 a0_0,.int .i64 a0_1,.int .i64 a0_2,.int .i64 a0_3,.int .i64 a0_4,.int .i64 a0_5] 35 (0,0)) Z498 hb) (jA (blk_below (g := gb385) (o := .cells #[.bool false,.int .u64 0,.int .u64 0,.int .i64 0] 30 (0,0)) Z505 hb) (jA (below_step Z431 hb) (jA (hbox) (jA ((Z219 : w.heap.size ≤ gb391)) (jA ((Z219 : w.heap.size ≤ gb391)) (jA ((Z146 : gb384 ≠ gb391)) (jA ((Z148 : gb391 ≠ gb384)) (jA ((Z238 : gb385 ≠ gb391)) (Aside0.mk ((Z240 : gb391 ≠ gb385)))))))))));clear BK384 BK385 HB;obtain ⟨BK384,BK385,HB,BK391,GW391,GE391,NB384_391,NB391_384,NB385_391,NB391_385⟩ := n_;clear hb hbox hg;have hnb50 := NB391_384.out;have hnc50 := NB384_391.out;have hnb51 := NB391_385.out;have hnc51 := NB385_391.out;obtain ⟨hcz52_0,hcz52_1,hcz52_2,hcz52_3,hfz52_0,hfz52_1,hfz52_2,hfz52_3⟩ := impl_GainOf.cells4 BK391.out;obtain ⟨hcz53_0,hcz53_1,hcz53_2,hcz53_3,hcz53_4,hcz53_5,hfz53_0,hfz53_1,hfz53_2,hfz53_3,hfz53_4,hfz53_5⟩ := impl_GainOf.cells6 BK384.out) | ((with_reducible refine gate_callee (f := 21) rfl ?_);refine goesL_ (some 21) rfl rfl Try.func21 Z396 rfl #[.agg #[.int .i64 a0_4,.int .i64 a0_5],.int .i64 a1] rfl Z353 ?_;(with_reducible refine (impl_PlainGain.calls a0_4 a0_5 a1 t392 t393 t394 t395 t396 _ A4.out).mono ?_);rintro e w54 ⟨rfl,hb⟩;refine ⟨_,rfl,?_⟩;have n_ := jA (blk_below (g := gb384) (o := .cells #[.int .i64 a0_0,.int .i64 a0_1,.int .i64 a0_2,.int .i64 a0_3,.int .i64 a0_4,.int .i64 a0_5] 35 (0,0)) Z64 hb) (jA (blk_below (g := gb385) (o := .cells #[.bool false,.int .u64 0,.int .u64 0,.int .i64 0] 30 (0,0)) Z63 hb) (jA (blk_below (g := gb391) (o := .cells #[.bool t386,.int .u64 t387,.int .u64 t388,.int .i64 t389] 30 (0,0)) Z23 hb) (Aside0.mk (below_step Z420 hb))));clear BK384 BK385 BK391 HB;obtain ⟨BK384,BK385,BK391,HB⟩ := n_;(try clear hb);(try clear hb2);(try clear hk);(try clear hi)) | ((with_reducible refine gate_dst (N := 8) rfl ?_);refine box_event ?hg (N := 8) ?hd (cs := #[.bool false,.int .u64 0,.int .u64 0,.int .i64 0]) (t := 30) ?hr ?_;(case hd => rfl);(case hg => rfl);(case hr => exact Z393);intro gb397 hg w55 hbox hb;have n_ := jA (blk_below (g := gb384) (o := .cells #[.int .i64 a0_0,.int .i64 a0_1,.int .i64 a0_2,.int .i64 a0_3,.int .i64 a0_4,.int .i64 a0_5] 35 (0,0)) Z498 hb) (jA (blk_below (g := gb385) (o := .cells #[.bool false,.int .u64 0,.int .u64 0,.int .i64 0] 30 (0,0)) Z505 hb) (jA (blk_below (g := gb391) (o := .cells #[.bool t386,.int .u64 t387,.int .u64 t388,.int .i64 t389] 30 (0,0)) Z522 hb) (jA (below_step Z420 hb) (jA (hbox) (jA ((Z164 : w.heap.size ≤ gb397)) (jA ((Z164 : w.heap.size ≤ gb397)) (jA ((Z146 : gb384 ≠ gb397)) (jA ((Z148 : gb397 ≠ gb384)) (jA ((Z238 : gb385 ≠ gb397)) (jA ((Z240 : gb397 ≠ gb385)) (jA ((Z209 : gb391 ≠ gb397)) (Aside0.mk ((Z211 : gb397 ≠ gb391))))))))))))));clear BK384 BK385 BK391 HB;obtain ⟨BK384,BK385,BK391,HB,BK397,GW397,GE397,NB384_397,NB397_384,NB385_397,NB397_385,NB391_397,NB397_391⟩ := n_;clear hb hbox hg;have hnb56 := NB397_384.out;have hnc56 := NB384_397.out;have hnb57 := NB397_385.out;have hnc57 := NB385_397.out;have hnb58 := NB397_391.out;have hnc58 := NB391_397.out;obtain ⟨hcz59_0,hcz59_1,hcz59_2,hcz59_3,hfz59_0,hfz59_1,hfz59_2,hfz59_3⟩ := impl_GainOf.cells4 BK397.out;obtain ⟨hcz60_0,hcz60_1,hcz60_2,hcz60_3,hfz60_0,hfz60_1,hfz60_2,hfz60_3⟩ := impl_GainOf.cells4 BK385.out))
    refine bodyPost_ret (results_ct rfl _ _ gb385 30 #[.bool false,.int .u64 0,.int .u64 0,.int .i64 0] (0,0) _ rfl Z1 Try.underlying30 rfl Z396) rfl ?_
    exact ⟨Z385,Z168⟩

end Go.Proofs.Ytjcjehnjbgklbaa.QFnExactBetter
