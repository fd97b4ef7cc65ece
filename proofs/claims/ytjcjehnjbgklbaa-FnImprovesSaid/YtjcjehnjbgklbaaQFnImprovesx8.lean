/- The machine side of FnImproves: what each Go function that it reaches comes to. Conditions: none. -/
import Derived.Test.YtjcjehnjbgklbaaQFnImprovesx0
import Derived.Test.YtjcjehnjbgklbaaQFnImprovesx1
import Derived.Test.YtjcjehnjbgklbaaQFnImprovesx6
import Derived.Test.YtjcjehnjbgklbaaQFnImprovesx7
namespace Go.Proofs.Ytjcjehnjbgklbaa.QFnImproves
open Go.RowKit Go.Proofs.YtjcjehnjbgklbaaW.PrintWords Go.Proofs.YtjcjehnjbgklbaaW.PrintLast Go.Proofs.YtjcjehnjbgklbaaW.PrintMore
attribute [local go_sem] max2_int min2_int max_two min_two max_three min_three max_four min_four   -- for this text's walks alone
set_option linter.unusedVariables false
set_option linter.unusedSimpArgs false

/-! ### impl_compareSizes: function 69 -/
def impl_compareSizes.f (k : Nat) (a0_0 : Bool) (a0_1 : Int) (a0_2 : Int) (a1_0 : Bool) (a1_1 : Int) (a1_2 : Int) : Option (Int) := (cmp_Compare_uint64.f a0_1 a1_1).bind fun t329 => ((cmp_Compare_uint64.f a0_2 a1_2).bind fun t330 => ((cmp_Or_int.f k (([t329,t330] : List Int))).bind fun t334 => (some t334)))
theorem impl_compareSizes.mono : ∀ a0 a1 a2 a3 a4 a5 k,LeO (impl_compareSizes.f k a0 a1 a2 a3 a4 a5) (impl_compareSizes.f (k + 1) a0 a1 a2 a3 a4 a5) := by
  intro a0 a1 a2 a3 a4 a5 k
  unfold impl_compareSizes.f
  repeat' first
      | (with_reducible exact cmp_Or_int.mono _ _)
      | (with_reducible exact LeO.refl _)
      | (with_reducible exact LeO.none _)
      | (with_reducible refine LeO.ite ?_ ?_)
      | (with_reducible refine LeO.bind ?_ (fun _ => ?_))
      | exact cmp_Or_int.mono _ _
      | exact LeO.none _
      | refine LeO.ite ?_ ?_
      | refine LeO.bind ?_ (fun _ => ?_)
def impl_compareSizes.T1 : Bool × List (List Nat × List Nat) := (true,[([],[]),([0],[0]),([],[]),([2],[2]),([1,3],[1,3]),([],[]),([5],[5]),([],[]),([7],[7]),([6,8,4],[6,8]),([4,9],[4,9]),([10,9],[10]),([11,11,0,1,2,3,4,5,6,7,8,9,10,11],[11])])
def impl_compareSizes.B1 : List Nat := [0,1,0,4,15,0,32,0,128,511,1023,2047,4095]
theorem impl_compareSizes.tab1 : rtab .any (opsOf Try.f69 1) = impl_compareSizes.T1 := by kernel_rfl
theorem impl_compareSizes.bits1 : waitsOk impl_compareSizes.T1.2 impl_compareSizes.B1 = true := by kernel_rfl
set_option maxHeartbeats 8000000 in
set_option maxRecDepth 100000 in
theorem impl_compareSizes.calls (k : Nat) (a0_0 : Bool) (a0_1 : Int) (a0_2 : Int) (a1_0 : Bool) (a1_1 : Int) (a1_2 : Int) (r : Int) (w : World) (h : impl_compareSizes.f k a0_0 a0_1 a0_2 a1_0 a1_1 a1_2 = some r) :
    Calls Try.prog 69 #[.agg #[.bool a0_0,.int .u64 a0_1,.int .u64 a0_2],.agg #[.bool a1_0,.int .u64 a1_1,.int .u64 a1_2]] w fun e w' => e = .returned (.int .i64 r) ∧ Below w.heap.size w w' := by
  have hu28 := Try.underlying28
  have HB := Aside0.mk (Below.refl w.heap.size w)
  have H : ((cmp_Compare_uint64.f a0_1 a1_1).bind fun t329 => ((cmp_Compare_uint64.f a0_2 a1_2).bind fun t330 => ((cmp_Or_int.f k (([t329,t330] : List Int))).bind fun t334 => (some t334)))) = some r := h
  clear h
  obtain ⟨t329,A30,H⟩ := Option.bind_eq_some_iff.mp H
  have A3 := Aside0.mk A30
  clear A30
  obtain ⟨t330,A40,H⟩ := Option.bind_eq_some_iff.mp H
  have A4 := Aside0.mk A40
  clear A40
  obtain ⟨y331,hy331⟩ : ∃ y_ : List Int,y_ = (([t329,t330] : List Int)) := ⟨_,rfl⟩
  replace H : ((cmp_Or_int.f k y331).bind fun t334 => (some t334)) = some r := by first | (rw [hy331];with_reducible exact H) | (have H2_ := (Option.bind_some _ _).symm.trans H;rw [hy331];with_reducible exact H2_) | (have H2_ := (Option.bind_some _ _).symm.trans H;with_reducible exact H2_) | with_reducible exact H | (rw [hy331];exact H) | exact H
  have Ny331 := Aside0.mk hy331
  clear hy331
  obtain ⟨t334,A50,H⟩ := Option.bind_eq_some_iff.mp H
  have A5 := Aside0.mk A50
  clear A50
  obtain rfl := Option.some.inj H
  go_enter Try.func69,Try.ntmps69
  try go_wp2_with (first | ((with_reducible refine gate_dst (N := 2) rfl ?_);refine box_event ?hg (N := 2) ?hd (cs := #[.bool a0_0,.int .u64 a0_1,.int .u64 a0_2]) (t := 28) ?hr ?_;(case hd => rfl);(case hg => rfl);(case hr => exact Z515);intro gb327 hg w6 hbox hb;have n_ := jA (below_step Z486 hb) (jA (hbox) (jA ((Z271 : w.heap.size ≤ gb327)) (Aside0.mk ((Z271 : w.heap.size ≤ gb327)))));clear HB;obtain ⟨HB,BK327,GW327,GE327⟩ := n_;clear hb hbox hg) | ((with_reducible refine gate_dst (N := 3) rfl ?_);refine box_event ?hg (N := 3) ?hd (cs := #[.bool a1_0,.int .u64 a1_1,.int .u64 a1_2]) (t := 28) ?hr ?_;(case hd => rfl);(case hg => rfl);(case hr => exact Z515);intro gb328 hg w7 hbox hb;have n_ := jA (blk_below (g := gb327) (o := .cells #[.bool a0_0,.int .u64 a0_1,.int .u64 a0_2] 28 (0,0)) Z572 hb) (jA (below_step Z477 hb) (jA (hbox) (jA ((Z211 : w.heap.size ≤ gb328)) (jA ((Z211 : w.heap.size ≤ gb328)) (jA ((by rw [hg];exact Nat.ne_of_lt (blk_lt (g := gb327) (o := .cells #[.bool a0_0,.int .u64 a0_1,.int .u64 a0_2] 28 (0,0)) Z572) : gb327 ≠ gb328)) (Aside0.mk ((by rw [hg];exact Nat.ne_of_gt (blk_lt (g := gb327) (o := .cells #[.bool a0_0,.int .u64 a0_1,.int .u64 a0_2] 28 (0,0)) Z572) : gb328 ≠ gb327))))))));clear BK327 HB;obtain ⟨BK327,HB,BK328,GW328,GE328,NB327_328,NB328_327⟩ := n_;clear hb hbox hg))
  have n0_ := Aside0.mk (blk_drew BK327.out)
  have n1_ := Aside0.mk (blk_drew BK328.out)
  have n2_ := Aside0.mk (below_drew1 HB.out)
  clear BK327
  clear BK328
  clear HB
  have BK327 := n0_
  have BK328 := n1_
  have HB := n2_
  clear n0_ n1_ n2_
  refine start_ (n := 13) (S := fun w' => w'.cell? ⟨gb327,0,none⟩ = some (.bool a0_0) ∧ w'.cell? ⟨gb327,1,none⟩ = some (.int .u64 a0_1) ∧ w'.cell? ⟨gb327,2,none⟩ = some (.int .u64 a0_2) ∧ w'.cell? ⟨gb328,0,none⟩ = some (.bool a1_0) ∧ w'.cell? ⟨gb328,1,none⟩ = some (.int .u64 a1_1) ∧ w'.cell? ⟨gb328,2,none⟩ = some (.int .u64 a1_2)) (ds := []) #[false,false,false,false,false,false,false,false,false,false,false,false,false] Z580 rfl rfl ⟨(blk_cell BK327.out 0).trans rfl,(blk_cell BK327.out 1).trans rfl,(blk_cell BK327.out 2).trans rfl,(blk_cell BK328.out 0).trans rfl,(blk_cell BK328.out 1).trans rfl,(blk_cell BK328.out 2).trans rfl⟩ (fun hHeld => ?_);refine with_tabW impl_compareSizes.tab1 impl_compareSizes.bits1 (fun HT_ HW_ => ?_)
  generalize w7.drew = w8 at BK327 BK328 HB hHeld ⊢
  refine pure_ (i := 0) (N := some 5) (v := ?_) (a' := ?_) #[true,false,false,false,false,false,false,false,false,false,false,false,false] rfl rfl (any_of HT_.out Z580) (fun _ _ _ h => h) (Or.inl ⟨Z582,?_⟩) ?_ ?_
  rotate_left
  · intro w'
    go_simp
    with_reducible rfl
  rotate_left
  · simp only [Act.put,List.setIfInBounds_toArray,List.set_cons_zero,List.set_cons_succ,i64_w,i32_w]
    rfl
  refine pure_ (i := 2) (N := some 7) (v := ?_) (a' := ?_) #[true,false,true,false,false,false,false,false,false,false,false,false,false] rfl rfl (any_of HT_.out Z580) (fun _ _ _ h => h) (Or.inl ⟨Z582,?_⟩) ?_ ?_
  rotate_left
  · intro w'
    go_simp
    with_reducible rfl
  rotate_left
  · simp only [Act.put,List.setIfInBounds_toArray,List.set_cons_zero,List.set_cons_succ,i64_w,i32_w]
    rfl
  refine pure_ (i := 5) (N := some 10) (v := ?_) (a' := ?_) #[true,false,true,false,false,true,false,false,false,false,false,false,false] rfl rfl (any_of HT_.out Z580) (fun _ _ _ h => h) (Or.inl ⟨Z582,?_⟩) ?_ ?_
  rotate_left
  · intro w'
    go_simp
    with_reducible rfl
  rotate_left
  · simp only [Act.put,List.setIfInBounds_toArray,List.set_cons_zero,List.set_cons_succ,i64_w,i32_w]
    rfl
  refine pure_ (i := 7) (N := some 12) (v := ?_) (a' := ?_) #[true,false,true,false,false,true,false,true,false,false,false,false,false] rfl rfl (any_of HT_.out Z580) (fun _ _ _ h => h) (Or.inl ⟨Z582,?_⟩) ?_ ?_
  rotate_left
  · intro w'
    go_simp
    with_reducible rfl
  rotate_left
  · simp only [Act.put,List.setIfInBounds_toArray,List.set_cons_zero,List.set_cons_succ,i64_w,i32_w]
    rfl
  refine take_ (i := 1) (N := some 6) (v := ?_) (a' := ?_) #[true,true,true,false,false,true,false,true,false,false,false,false,false] rfl rfl (take_ofW HT_.out HW_.out Z580) (fun _ _ _ h => h) (Or.inl ⟨Z582,?_⟩) hHeld ?_ ?_
  rotate_left
  · rintro w' ⟨s0,s1,s2,s3,s4,s5⟩
    go_simp
    with_reducible rfl
  rotate_left
  · simp only [Act.put,List.setIfInBounds_toArray,List.set_cons_zero,List.set_cons_succ,i64_w,i32_w]
    rfl
  refine take_ (i := 3) (N := some 8) (v := ?_) (a' := ?_) #[true,true,true,true,false,true,false,true,false,false,false,false,false] rfl rfl (take_ofW HT_.out HW_.out Z580) (fun _ _ _ h => h) (Or.inl ⟨Z582,?_⟩) hHeld ?_ ?_
  rotate_left
  · rintro w' ⟨s0,s1,s2,s3,s4,s5⟩
    go_simp
    with_reducible rfl
  rotate_left
  · simp only [Act.put,List.setIfInBounds_toArray,List.set_cons_zero,List.set_cons_succ,i64_w,i32_w]
    rfl
  refine take_ (i := 6) (N := some 11) (v := ?_) (a' := ?_) #[true,true,true,true,false,true,true,true,false,false,false,false,false] rfl rfl (take_ofW HT_.out HW_.out Z580) (fun _ _ _ h => h) (Or.inl ⟨Z582,?_⟩) hHeld ?_ ?_
  rotate_left
  · rintro w' ⟨s0,s1,s2,s3,s4,s5⟩
    go_simp
    with_reducible rfl
  rotate_left
  · simp only [Act.put,List.setIfInBounds_toArray,List.set_cons_zero,List.set_cons_succ,i64_w,i32_w]
    rfl
  refine take_ (i := 8) (N := some 13) (v := ?_) (a' := ?_) #[true,true,true,true,false,true,true,true,true,false,false,false,false] rfl rfl (take_ofW HT_.out HW_.out Z580) (fun _ _ _ h => h) (Or.inl ⟨Z582,?_⟩) hHeld ?_ ?_
  rotate_left
  · rintro w' ⟨s0,s1,s2,s3,s4,s5⟩
    go_simp
    with_reducible rfl
  rotate_left
  · simp only [Act.put,List.setIfInBounds_toArray,List.set_cons_zero,List.set_cons_succ,i64_w,i32_w]
    rfl
  refine one_ (i := 4) (N := some 9) #[true,true,true,true,true,true,true,true,true,false,false,false,false] rfl rfl (one_of HT_.out Z580) Z581 (fun K hK => ?_)
  refine goes_ Try.func83 Z580 rfl #[.int .u64 a0_1,.int .u64 a1_1] Z582 rfl rfl Z395 ?_
  with_reducible refine (cmp_Compare_uint64.calls a0_1 a1_1 t329 _ A3.out).mono ?_
  rintro e w' ⟨rfl,⟨nd,rfl⟩⟩
  refine ⟨_,rfl,?_⟩
  refine hK.out _ _ ⟨(blk_cell BK327.out 0).trans rfl,(blk_cell BK327.out 1).trans rfl,(blk_cell BK327.out 2).trans rfl,(blk_cell BK328.out 0).trans rfl,(blk_cell BK328.out 1).trans rfl,(blk_cell BK328.out 2).trans rfl⟩ (fun hHeld => ?_)
  clear hK K
  refine norm_ (a' := ?_) ?_ ?_
  rotate_left
  · show Act.put _ (some 9) _ = _
    simp only [Act.put,List.setIfInBounds_toArray,List.set_cons_zero,List.set_cons_succ,i64_w,i32_w]
    rfl
  refine one_ (i := 9) (N := some 14) #[true,true,true,true,true,true,true,true,true,true,false,false,false] rfl rfl (one_of HT_.out Z580) Z581 (fun K hK => ?_)
  refine goes_ Try.func83 Z580 rfl #[.int .u64 a0_2,.int .u64 a1_2] Z582 rfl rfl Z395 ?_
  with_reducible refine (cmp_Compare_uint64.calls a0_2 a1_2 t330 _ A4.out).mono ?_
  rintro e w' ⟨rfl,⟨nd,rfl⟩⟩
  refine ⟨_,rfl,?_⟩
  refine hK.out _ _ ⟨(blk_cell BK327.out 0).trans rfl,(blk_cell BK327.out 1).trans rfl,(blk_cell BK327.out 2).trans rfl,(blk_cell BK328.out 0).trans rfl,(blk_cell BK328.out 1).trans rfl,(blk_cell BK328.out 2).trans rfl⟩ (fun hHeld => ?_)
  clear hK K
  refine norm_ (a' := ?_) ?_ ?_
  rotate_left
  · show Act.put _ (some 14) _ = _
    simp only [Act.put,List.setIfInBounds_toArray,List.set_cons_zero,List.set_cons_succ,i64_w,i32_w]
    rfl
  refine one_ (i := 10) (N := some 15) #[true,true,true,true,true,true,true,true,true,true,true,false,false] rfl rfl (one_of HT_.out Z580) Z581 (fun K hK => ?_)
  refine Kd.R_lit_step (Kd.int .i64) _ 3 ?hg (N := 15) ?hd (xs := ([t329,t330] : List Int)) (inner := [.int .i64 t329,.int .i64 t330]) (ok := fun _ => True) (okp := fun _ => True) ?hr ?hp (fun _ hk => hk) trivial (Below.refl _ _) (Nat.le_refl _) Z596 ?_;(case hd => rfl);(case hg => rfl);(case hr => exact Z515);(case hp => exact (Reps.one (show Kd.M (Kd.int .i64) _ _ _ t329 [.int .i64 t329] from rfl) (Reps.one (show Kd.M (Kd.int .i64) _ _ _ t330 [.int .i64 t330] from rfl) (Reps.none _ _))))
  intro v332 w9 ho10 hb hg_ hnew_
  clear hg_ hnew_
  (first | rw [← Ny331.out] at ho10 | (simp only [Int.reduceToNat] at ho10;rw [← Ny331.out] at ho10))
  have n0_ := Aside0.mk (Kd.R_lower ho10 (below_size Z204))
  have n1_ := Aside0.mk (blk_below (g := gb327) (o := .cells #[.bool a0_0,.int .u64 a0_1,.int .u64 a0_2] 28 (0,0)) Z572 hb)
  have n2_ := Aside0.mk (blk_below (g := gb328) (o := .cells #[.bool a1_0,.int .u64 a1_1,.int .u64 a1_2] 28 (0,0)) (by refine bP ?_;exact BK328.out) hb)
  have n3_ := Aside0.mk (below_step Z204 hb)
  clear BK327
  clear BK328
  clear HB
  have HO333 := n0_
  have BK327 := n1_
  have BK328 := n2_
  have HB := n3_
  clear n0_ n1_ n2_ n3_
  clear hb ho10
  obtain ⟨Ao11,co11,eo11⟩ := Kd.R_slice HO333.out
  (first | subst eo11 | (injection eo11 with f1_ f2_ f3_;have f4_ := f1_.symm;have f5_ := f3_.symm;clear f1_ f2_ f3_;subst f4_;subst f5_))
  refine hK.out _ _ ⟨(blk_cell BK327.out 0).trans rfl,(blk_cell BK327.out 1).trans rfl,(blk_cell BK327.out 2).trans rfl,(blk_cell BK328.out 0).trans rfl,(blk_cell BK328.out 1).trans rfl,(blk_cell BK328.out 2).trans rfl⟩ (fun hHeld => ?_)
  clear hK K
  refine norm_ (a' := ?_) ?_ ?_
  rotate_left
  · show Act.put _ (some 15) _ = _
    simp only [Act.put,List.setIfInBounds_toArray,List.set_cons_zero,List.set_cons_succ,i64_w,i32_w]
    rfl
  refine one_ (i := 11) (N := some 16) #[true,true,true,true,true,true,true,true,true,true,true,true,false] rfl rfl (one_of HT_.out Z580) Z581 (fun K hK => ?_)
  refine goes_ Try.func55 Z580 rfl #[.slice Ao11 y331.length co11] Z582 rfl rfl Z395 ?_
  with_reducible refine (cmp_Or_int.calls k _ _ y331 t334 _ ?side1 ?side2 A5.out).mono ?_
  (case side1 => repeat (first | exact (Kd.R_reads' HO333.out).2.2 | (with_reducible refine Kd.C_alloc ?_ _) | (with_reducible refine Kd.C_drewN ?_ _) | (with_reducible refine Kd.C_drew ?_)))
  (case side2 => exact (Kd.R_reads' HO333.out).2.1)
  rintro e w' ⟨rfl,⟨nd,rfl⟩⟩
  refine ⟨_,rfl,?_⟩
  refine hK.out _ _ ⟨(blk_cell BK327.out 0).trans rfl,(blk_cell BK327.out 1).trans rfl,(blk_cell BK327.out 2).trans rfl,(blk_cell BK328.out 0).trans rfl,(blk_cell BK328.out 1).trans rfl,(blk_cell BK328.out 2).trans rfl⟩ (fun hHeld => ?_)
  clear hK K
  refine norm_ (a' := ?_) ?_ ?_
  rotate_left
  · show Act.put _ (some 16) _ = _
    simp only [Act.put,List.setIfInBounds_toArray,List.set_cons_zero,List.set_cons_succ,i64_w,i32_w]
    rfl
  refine pure_ (i := 12) (N := some 4) (v := ?_) (a' := ?_) #[true,true,true,true,true,true,true,true,true,true,true,true,true] rfl rfl (any_of HT_.out Z580) (fun _ _ _ h => h) (Or.inl ⟨Z582,?_⟩) ?_ ?_
  rotate_left
  · intro w'
    go_simp
    with_reducible rfl
  rotate_left
  · simp only [Act.put,List.setIfInBounds_toArray,List.set_cons_zero,List.set_cons_succ,i64_w,i32_w]
    rfl
  refine done_ (done_of HT_.out Z580) ?_
  try go_wp2
  go_ret
  exact ⟨Z400,Z204⟩

/-! ### bits_Sub64: function 70: the model stands in for it -/
def bits_Sub64.f (a0 : Int) (a1 : Int) (a2 : Int) : Option (Int × Int) := if 0 ≤ a0 ∧ 0 ≤ a1 ∧ a1 < 18446744073709551616 ∧ 0 ≤ a2 ∧ a2 ≤ 1 then some ((a0 + 18446744073709551616 - a1 - a2) % 18446744073709551616,if a0 < a1 + a2 then 1 else 0) else none
def sub64E : Array Value → Sem Value := fun args => do
  let (x,y,b) ← Extern.MathBitsCarry.three "Sub64" args
  pure (Extern.MathBitsCarry.pair ((x + Extern.MathBitsCarry.m64 - y - b) % Extern.MathBitsCarry.m64) (if x < y + b then 1 else 0))
theorem run_sub64E {P : Program} (x y b : Nat) (hb : b ≤ 1) (w : World) : (sub64E #[.int .u64 x,.int .u64 y,.int .u64 b]).run P w = .ok (.tuple #[.int .u64 (((x + 18446744073709551616 - y - b) % 18446744073709551616 : Nat) : Int),.int .u64 ((if x < y + b then 1 else 0 : Nat) : Int)]) w := by
  have : b = 0 ∨ b = 1 := by omega
  rcases this with rfl | rfl <;> rfl
theorem bits_Sub64.run (a0 a1 a2 r1 r2 : Int) (h : bits_Sub64.f a0 a1 a2 = some (r1,r2)) (w : World) : (callFunc 70 #[.int .u64 a0,.int .u64 a1,.int .u64 a2]).run Try.prog w = .ok (.value (.tuple #[.int .u64 r1,.int .u64 r2])) w := by
  unfold bits_Sub64.f at h
  split at h
  · rename_i g
    simp only [Option.some.injEq,Prod.mk.injEq] at h
    obtain ⟨rfl,rfl⟩ := h
    obtain ⟨g0,g1,g4,g2,g3⟩ := g
    obtain ⟨x,rfl⟩ := Int.eq_ofNat_of_zero_le g0
    obtain ⟨y,rfl⟩ := Int.eq_ofNat_of_zero_le g1
    obtain ⟨b,rfl⟩ := Int.eq_ofNat_of_zero_le g2
    rw [run_callFunc_extern Try.func70 Z580 Z580 Z580 (e := sub64E) Z580,run_sub64E x y b (by omega)]
    have e1 : (((x + 18446744073709551616 - y - b) % 18446744073709551616 : Nat) : Int) = ((x : Int) + 18446744073709551616 - y - b) % 18446744073709551616 := by omega
    have e2 : ((if x < y + b then 1 else 0 : Nat) : Int) = if (x : Int) < y + b then 1 else 0 := by by_cases c : x < y + b <;> simp [c] <;> omega
    rw [e1,e2]
    rfl
  · simp at h

/-! ### impl_AddWide: function 49 -/
theorem impl_AddWide.cells3 {w : World} {g : Nat} {t : TypeId} {a0 a1 a2 : Value} (h : w.heap[g]? = some (.cells #[a0,a1,a2] t (0,0))) : w.cell? ⟨g,0,none⟩ = some a0 ∧ w.cell? ⟨g,1,none⟩ = some a1 ∧ w.cell? ⟨g,2,none⟩ = some a2 ∧ w.frozen? ⟨g,0,none⟩ = false ∧ w.frozen? ⟨g,1,none⟩ = false ∧ w.frozen? ⟨g,2,none⟩ = false := ⟨(blk_cell h 0).trans rfl,(blk_cell h 1).trans rfl,(blk_cell h 2).trans rfl,blk_frozen h 0,blk_frozen h 1,blk_frozen h 2⟩
def impl_AddWide.j0 : Nat → Bool → Bool → Int → Int → Bool → Int → Int → Option (Bool × Int × Int × Bool)
  | 0,_,_,_,_,_,_,_ => none
  | k + 1,x22,x336000,x336001,x336002,x337000,x337001,x337002 => if x22 = true then (some (false,0,0,false)) else (if (x336000 != x337000) = true then ((impl_compareSizes.f k x336000 x336001 x336002 x337000 x337001 x337002).bind fun t340 => (if t340 < 0 then ((bits_Sub64.f x337002 x336002 0).bind fun bt341 => ((bits_Sub64.f x337001 x336001 bt341.2).bind fun bt343 => ((impl_wideOf.f x337000 bt343.1 bt341.1).bind fun bt345 => (some (bt345.1,bt345.2.1,bt345.2.2,true))))) else ((bits_Sub64.f x336002 x337002 0).bind fun bt348 => ((bits_Sub64.f x336001 x337001 bt348.2).bind fun bt350 => ((impl_wideOf.f x336000 bt350.1 bt348.1).bind fun bt352 => (some (bt352.1,bt352.2.1,bt352.2.2,true))))))) else ((bits_Add64.f x336002 x337002 0).bind fun bt355 => ((bits_Add64.f x336001 x337001 bt355.2).bind fun bt357 => ((impl_wideOf.f x336000 bt357.1 bt355.1).bind fun bt359 => ((impl_WideOk.f bt359.1 bt359.2.1 bt359.2.2).bind fun t363 => (if t363 = true then (some (bt359.1,bt359.2.1,bt359.2.2,true)) else (some (false,0,0,false))))))))
def impl_AddWide.f (k : Nat) (a0_0 : Bool) (a0_1 : Int) (a0_2 : Int) (a1_0 : Bool) (a1_1 : Int) (a1_2 : Int) : Option (Bool × Int × Int × Bool) := (impl_WideOk.f a0_0 a0_1 a0_2).bind fun t338 => (if t338 = true then ((impl_WideOk.f a1_0 a1_1 a1_2).bind fun t339 => (impl_AddWide.j0 k (!t339) a0_0 a0_1 a0_2 a1_0 a1_1 a1_2)) else (impl_AddWide.j0 k true a0_0 a0_1 a0_2 a1_0 a1_1 a1_2))
theorem impl_AddWide.mono_l : ∀ k,(∀ y0 y1 y2 y3 y4 y5 y6,LeO (impl_AddWide.j0 k y0 y1 y2 y3 y4 y5 y6) (impl_AddWide.j0 (k + 1) y0 y1 y2 y3 y4 y5 y6))
  | 0 => fun _ _ _ _ _ _ _ r h => by simp [impl_AddWide.j0] at h
  | k + 1 => by
    have ih0 := impl_AddWide.mono_l k
    · intro y0 y1 y2 y3 y4 y5 y6
      unfold impl_AddWide.j0
      repeat' first
      | (with_reducible exact ih0 _ _ _ _ _ _ _)
      | (with_reducible exact impl_compareSizes.mono _ _ _ _ _ _ _)
      | (with_reducible exact LeO.refl _)
      | (with_reducible exact LeO.none _)
      | (with_reducible refine LeO.ite ?_ ?_)
      | (with_reducible refine LeO.bind ?_ (fun _ => ?_))
      | exact ih0 _ _ _ _ _ _ _
      | exact impl_compareSizes.mono _ _ _ _ _ _ _
      | exact LeO.none _
      | refine LeO.ite ?_ ?_
      | refine LeO.bind ?_ (fun _ => ?_)
theorem impl_AddWide.mono : ∀ a0 a1 a2 a3 a4 a5 k,LeO (impl_AddWide.f k a0 a1 a2 a3 a4 a5) (impl_AddWide.f (k + 1) a0 a1 a2 a3 a4 a5) := by
  intro a0 a1 a2 a3 a4 a5 k
  have ih0 := impl_AddWide.mono_l k
  unfold impl_AddWide.f
  repeat' first
      | (with_reducible exact ih0 _ _ _ _ _ _ _)
      | (with_reducible exact impl_compareSizes.mono _ _ _ _ _ _ _)
      | (with_reducible exact LeO.refl _)
      | (with_reducible exact LeO.none _)
      | (with_reducible refine LeO.ite ?_ ?_)
      | (with_reducible refine LeO.bind ?_ (fun _ => ?_))
      | exact ih0 _ _ _ _ _ _ _
      | exact impl_compareSizes.mono _ _ _ _ _ _ _
      | exact LeO.none _
      | refine LeO.ite ?_ ?_
      | refine LeO.bind ?_ (fun _ => ?_)
set_option maxHeartbeats 8000000 in
set_option maxRecDepth 100000 in
theorem impl_AddWide.calls (k : Nat) (a0_0 : Bool) (a0_1 : Int) (a0_2 : Int) (a1_0 : Bool) (a1_1 : Int) (a1_2 : Int) (r1 : Bool) (r2 : Int) (r3 : Int) (r4 : Bool) (w : World) (h : impl_AddWide.f k a0_0 a0_1 a0_2 a1_0 a1_1 a1_2 = some (r1,r2,r3,r4)) :
    Calls Try.prog 49 #[.agg #[.bool a0_0,.int .u64 a0_1,.int .u64 a0_2],.agg #[.bool a1_0,.int .u64 a1_1,.int .u64 a1_2]] w fun e w' => e = .returned (.tuple #[.agg #[.bool r1,.int .u64 r2,.int .u64 r3],.bool r4]) ∧ Below w.heap.size w w' := by
  have hu28 := Try.underlying28
  have HB := Aside0.mk (Below.refl w.heap.size w)
  have H : ((impl_WideOk.f a0_0 a0_1 a0_2).bind fun t338 => (if t338 = true then ((impl_WideOk.f a1_0 a1_1 a1_2).bind fun t339 => (impl_AddWide.j0 k (!t339) a0_0 a0_1 a0_2 a1_0 a1_1 a1_2)) else (impl_AddWide.j0 k true a0_0 a0_1 a0_2 a1_0 a1_1 a1_2))) = some (r1,r2,r3,r4) := h
  clear h
  have HC3 := Aside0.mk H
  clear H
  go_enter Try.func49,Try.ntmps49
  go_upto_region 1 with (first | ((with_reducible refine gate_dst (N := 2) rfl ?_);refine box_event ?hg (N := 2) ?hd (cs := #[.bool a0_0,.int .u64 a0_1,.int .u64 a0_2]) (t := 28) ?hr ?_;(case hd => rfl);(case hg => rfl);(case hr => exact Z515);intro gb335 hg w4 hbox hb;have n_ := jA (below_step Z486 hb) (jA (hbox) (jA ((Z271 : w.heap.size ≤ gb335)) (Aside0.mk ((Z271 : w.heap.size ≤ gb335)))));clear HB;obtain ⟨HB,BK335,GW335,GE335⟩ := n_;clear hb hbox hg) | ((with_reducible refine gate_dst (N := 3) rfl ?_);refine box_event ?hg (N := 3) ?hd (cs := #[.bool a1_0,.int .u64 a1_1,.int .u64 a1_2]) (t := 28) ?hr ?_;(case hd => rfl);(case hg => rfl);(case hr => exact Z515);intro gb336 hg w5 hbox hb;have n_ := jA (blk_below (g := gb335) (o := .cells #[.bool a0_0,.int .u64 a0_1,.int .u64 a0_2] 28 (0,0)) Z586 hb) (jA (below_step Z476 hb) (jA (hbox) (jA ((Z210 : w.heap.size ≤ gb336)) (jA ((Z210 : w.heap.size ≤ gb336)) (jA ((Z335 : gb335 ≠ gb336)) (Aside0.mk ((Z337 : gb336 ≠ gb335))))))));clear BK335 HB;obtain ⟨BK335,HB,BK336,GW336,GE336,NB335_336,NB336_335⟩ := n_;clear hb hbox hg) | ((with_reducible refine gate_dst (N := 4) rfl ?_);refine box_event ?hg (N := 4) ?hd (cs := #[.bool false,.int .u64 0,.int .u64 0]) (t := 28) ?hr ?_;(case hd => rfl);(case hg => rfl);(case hr => exact Z515);intro gb337 hg w6 hbox hb;have n_ := jA (blk_below (g := gb335) (o := .cells #[.bool a0_0,.int .u64 a0_1,.int .u64 a0_2] 28 (0,0)) Z586 hb) (jA (blk_below (g := gb336) (o := .cells #[.bool a1_0,.int .u64 a1_1,.int .u64 a1_2] 28 (0,0)) Z588 hb) (jA (below_step Z445 hb) (jA (hbox) (jA ((Z125 : w.heap.size ≤ gb337)) (jA ((Z125 : w.heap.size ≤ gb337)) (jA ((Z335 : gb335 ≠ gb337)) (jA ((Z337 : gb337 ≠ gb335)) (jA ((Z339 : gb336 ≠ gb337)) (Aside0.mk ((Z342 : gb337 ≠ gb336)))))))))));clear BK335 BK336 HB;obtain ⟨BK335,BK336,HB,BK337,GW337,GE337,NB335_337,NB337_335,NB336_337,NB337_336⟩ := n_;clear hb hbox hg))
  (try simp only [Act.put,List.setIfInBounds_toArray,List.set_cons_zero,List.set_cons_succ])
  go_cut [22] (fun v22 wc => ∃ (kq : Nat) (x22_2 : Bool),v22 = .bool x22_2 ∧ Aside0 (impl_AddWide.j0 kq x22_2 a0_0 a0_1 a0_2 a1_0 a1_1 a1_2 = some (r1,r2,r3,r4)) ∧ Aside0 (kq ≤ k) ∧ Aside0 (wc.heap[gb335]? = some (.cells #[.bool a0_0,.int .u64 a0_1,.int .u64 a0_2] 28 (0,0))) ∧ Aside0 (wc.heap[gb336]? = some (.cells #[.bool a1_0,.int .u64 a1_1,.int .u64 a1_2] 28 (0,0))) ∧ Aside0 (wc.heap[gb337]? = some (.cells #[.bool false,.int .u64 0,.int .u64 0] 28 (0,0))) ∧ Aside0 (Below w.heap.size w wc))
  case first =>
    have H := HC3.out
    clear HC3
    obtain ⟨t338,A70,H⟩ := Option.bind_eq_some_iff.mp H
    have A7 := Aside0.mk A70
    clear A70
    by_cases c8 : t338 = true
    · subst c8
      have H1 : ((impl_WideOk.f a1_0 a1_1 a1_2).bind fun t339 => (impl_AddWide.j0 k (!t339) a0_0 a0_1 a0_2 a1_0 a1_1 a1_2)) = some (r1,r2,r3,r4) := by rw [if_pos rfl] at H;exact H
      clear H
      have H := H1
      clear H1
      obtain ⟨t339,A90,H⟩ := Option.bind_eq_some_iff.mp H
      have A9 := Aside0.mk A90
      clear A90
      have H' := Aside0.mk H
      clear H
      have hnb10 := NB335_336.out
      have hnc10 := NB336_335.out
      have hnb11 := NB335_337.out
      have hnc11 := NB337_335.out
      obtain ⟨hcz12_0,hcz12_1,hcz12_2,hfz12_0,hfz12_1,hfz12_2⟩ := impl_AddWide.cells3 BK335.out
      go_wp2_with (first | ((with_reducible refine gate_callee (f := 31) rfl ?_);refine goesL_ (some 16) rfl rfl Try.func31 Z580 rfl #[.agg #[.bool a0_0,.int .u64 a0_1,.int .u64 a0_2]] rfl Z395 ?_;(with_reducible refine (impl_WideOk.calls a0_0 a0_1 a0_2 true _ A7.out).mono ?_);rintro e w13 ⟨rfl,hb⟩;refine ⟨_,rfl,?_⟩;have n_ := jA (blk_below (g := gb335) (o := .cells #[.bool a0_0,.int .u64 a0_1,.int .u64 a0_2] 28 (0,0)) Z586 hb) (jA (blk_below (g := gb336) (o := .cells #[.bool a1_0,.int .u64 a1_1,.int .u64 a1_2] 28 (0,0)) Z588 hb) (jA (blk_below (g := gb337) (o := .cells #[.bool false,.int .u64 0,.int .u64 0] 28 (0,0)) Z589 hb) (Aside0.mk (below_step Z414 hb))));clear BK335 BK336 BK337 HB;obtain ⟨BK335,BK336,BK337,HB⟩ := n_;(try clear hb);(try clear hb2);(try clear hk);(try clear hi);have hnb14 := NB336_337.out;have hnc14 := NB337_336.out;obtain ⟨hcz15_0,hcz15_1,hcz15_2,hfz15_0,hfz15_1,hfz15_2⟩ := impl_AddWide.cells3 BK336.out) | (go_at_call 31;(with_reducible refine (impl_WideOk.calls a1_0 a1_1 a1_2 t339 _ A9.out).mono ?_);rintro e w16 ⟨rfl,hb⟩;have n_ := jA (blk_below (g := gb335) (o := .cells #[.bool a0_0,.int .u64 a0_1,.int .u64 a0_2] 28 (0,0)) Z586 hb) (jA (blk_below (g := gb336) (o := .cells #[.bool a1_0,.int .u64 a1_1,.int .u64 a1_2] 28 (0,0)) Z588 hb) (jA (blk_below (g := gb337) (o := .cells #[.bool false,.int .u64 0,.int .u64 0] 28 (0,0)) Z589 hb) (Aside0.mk (below_step Z414 hb))));clear BK335 BK336 BK337 HB;obtain ⟨BK335,BK336,BK337,HB⟩ := n_;(try clear hb);(try clear hb2);(try clear hk);(try clear hi)))
      go_meet
      case rel => exact ⟨_,(!t339),Z514,H',⟨Z516⟩,⟨Z586⟩,⟨Z588⟩,⟨Z589⟩,⟨Z414⟩⟩
    · replace c8 := Bool.eq_false_iff.mpr c8
      subst c8
      have H1 : (impl_AddWide.j0 k true a0_0 a0_1 a0_2 a1_0 a1_1 a1_2) = some (r1,r2,r3,r4) := by rw [if_neg (show ¬ (false = true) by decide)] at H;exact H
      clear H
      have H := H1
      clear H1
      have H' := Aside0.mk H
      clear H
      have hnb17 := NB335_336.out
      have hnc17 := NB336_335.out
      have hnb18 := NB335_337.out
      have hnc18 := NB337_335.out
      obtain ⟨hcz19_0,hcz19_1,hcz19_2,hfz19_0,hfz19_1,hfz19_2⟩ := impl_AddWide.cells3 BK335.out
      go_wp2_with (first | ((with_reducible refine gate_callee (f := 31) rfl ?_);refine goesL_ (some 16) rfl rfl Try.func31 Z580 rfl #[.agg #[.bool a0_0,.int .u64 a0_1,.int .u64 a0_2]] rfl Z395 ?_;(with_reducible refine (impl_WideOk.calls a0_0 a0_1 a0_2 false _ A7.out).mono ?_);rintro e w20 ⟨rfl,hb⟩;refine ⟨_,rfl,?_⟩;have n_ := jA (blk_below (g := gb335) (o := .cells #[.bool a0_0,.int .u64 a0_1,.int .u64 a0_2] 28 (0,0)) Z586 hb) (jA (blk_below (g := gb336) (o := .cells #[.bool a1_0,.int .u64 a1_1,.int .u64 a1_2] 28 (0,0)) Z588 hb) (jA (blk_below (g := gb337) (o := .cells #[.bool false,.int .u64 0,.int .u64 0] 28 (0,0)) Z589 hb) (Aside0.mk (below_step Z414 hb))));clear BK335 BK336 BK337 HB;obtain ⟨BK335,BK336,BK337,HB⟩ := n_;(try clear hb);(try clear hb2);(try clear hk);(try clear hi)))
      go_meet
      case rel => exact ⟨_,(true),Z514,H',⟨Z516⟩,⟨Z586⟩,⟨Z588⟩,⟨Z589⟩,⟨Z414⟩⟩
  case rest =>
    clear HC3
    try clear c1
    try clear p2
    try clear c3
    try clear c4
    try clear c8
    try clear c10
    try clear c11
    try clear c14
    try clear c17
    try clear c18
    try clear hcz12_0
    try clear hcz12_1
    try clear hcz12_2
    try clear hcz15_0
    try clear hcz15_1
    try clear hcz15_2
    try clear hcz19_0
    try clear hcz19_1
    try clear hcz19_2
    try clear hfz12_0
    try clear hfz12_1
    try clear hfz12_2
    try clear hfz15_0
    try clear hfz15_1
    try clear hfz15_2
    try clear hfz19_0
    try clear hfz19_1
    try clear hfz19_2
    obtain ⟨kq,x22_2,rfl,HA,HJ2,BK335,BK336,BK337,HB⟩ := hcut
    cases kq with
    | zero => exact absurd HA.out (by simp [impl_AddWide.j0])
    | succ kj2 =>
      have H := HA.out
      clear HA
      simp only [impl_AddWide.j0] at H
      by_cases c21 : x22_2 = true
      · subst c21
        have H1 : (some (false,0,0,false)) = some (r1,r2,r3,r4) := by rw [if_pos rfl] at H;exact H
        clear H
        have H := H1
        clear H1
        simp only [Option.some.injEq,Prod.mk.injEq] at H
        obtain ⟨rfl,rfl,rfl,rfl⟩ := H
        have hnb22 := NB337_335.out
        have hnc22 := NB335_337.out
        have hnb23 := NB337_336.out
        have hnc23 := NB336_337.out
        obtain ⟨hcz24_0,hcz24_1,hcz24_2,hfz24_0,hfz24_1,hfz24_2⟩ := impl_AddWide.cells3 BK337.out
        go_wp2
        refine bodyPost_ret (results_ct rfl _ _ gb337 28 #[.bool false,.int .u64 0,.int .u64 0] (0,0) _ rfl Z79 Try.underlying28 rfl Z580) rfl ?_
        exact ⟨Z400,Z414⟩
      · replace c21 := Bool.eq_false_iff.mpr c21
        subst c21
        have H1 : (if (a0_0 != a1_0) = true then ((impl_compareSizes.f kj2 a0_0 a0_1 a0_2 a1_0 a1_1 a1_2).bind fun t340 => (if t340 < 0 then ((bits_Sub64.f a1_2 a0_2 0).bind fun bt341 => ((bits_Sub64.f a1_1 a0_1 bt341.2).bind fun bt343 => ((impl_wideOf.f a1_0 bt343.1 bt341.1).bind fun bt345 => (some (bt345.1,bt345.2.1,bt345.2.2,true))))) else ((bits_Sub64.f a0_2 a1_2 0).bind fun bt348 => ((bits_Sub64.f a0_1 a1_1 bt348.2).bind fun bt350 => ((impl_wideOf.f a0_0 bt350.1 bt348.1).bind fun bt352 => (some (bt352.1,bt352.2.1,bt352.2.2,true))))))) else ((bits_Add64.f a0_2 a1_2 0).bind fun bt355 => ((bits_Add64.f a0_1 a1_1 bt355.2).bind fun bt357 => ((impl_wideOf.f a0_0 bt357.1 bt355.1).bind fun bt359 => ((impl_WideOk.f bt359.1 bt359.2.1 bt359.2.2).bind fun t363 => (if t363 = true then (some (bt359.1,bt359.2.1,bt359.2.2,true)) else (some (false,0,0,false)))))))) = some (r1,r2,r3,r4) := by rw [if_neg (show ¬ (false = true) by decide)] at H;exact H
        clear H
        have H := H1
        clear H1
        by_cases c25 : (a0_0 != a1_0) = true
        · rw [if_pos c25] at H
          have c25b0 : (a0_0 != a1_0) = true := c25
          (try (have c25b1 : decide (a0_0 = a1_0) = false := by simpa using c25))
          (try (have c25b2 : (a0_0 == a1_0) = false := by simpa using c25))
          (try (have c25b3 : ¬ (a0_0 = a1_0) := by simpa using c25))
          clear c25
          obtain ⟨t340,A260,H⟩ := Option.bind_eq_some_iff.mp H
          have A26 := Aside0.mk A260
          clear A260
          by_cases c27 : t340 < 0
          · rw [if_pos c27] at H
            have c27b0 : decide (t340 < 0) = true := decide_eq_true c27
            clear c27
            obtain ⟨⟨t341,t342⟩,A280,H⟩ := Option.bind_eq_some_iff.mp H
            try dsimp only at H
            have A28 := Aside0.mk A280
            clear A280
            obtain ⟨⟨t343,t344⟩,A290,H⟩ := Option.bind_eq_some_iff.mp H
            try dsimp only at H
            have A29 := Aside0.mk A290
            clear A290
            obtain ⟨⟨t345,t346,t347⟩,A300,H⟩ := Option.bind_eq_some_iff.mp H
            try dsimp only at H
            have A30 := Aside0.mk A300
            clear A300
            simp only [Option.some.injEq,Prod.mk.injEq] at H
            obtain ⟨rfl,rfl,rfl,rfl⟩ := H
            have hnb31 := NB335_336.out
            have hnc31 := NB336_335.out
            have hnb32 := NB335_337.out
            have hnc32 := NB337_335.out
            obtain ⟨hcz33_0,hcz33_1,hcz33_2,hfz33_0,hfz33_1,hfz33_2⟩ := impl_AddWide.cells3 BK335.out
            have hnb34 := NB336_337.out
            have hnc34 := NB337_336.out
            obtain ⟨hcz35_0,hcz35_1,hcz35_2,hfz35_0,hfz35_1,hfz35_2⟩ := impl_AddWide.cells3 BK336.out
            go_wp2_with (first | ((with_reducible refine gate_callee (f := 69) rfl ?_);refine goesL_ (some 31) rfl rfl Try.func69 Z580 rfl #[.agg #[.bool a0_0,.int .u64 a0_1,.int .u64 a0_2],.agg #[.bool a1_0,.int .u64 a1_1,.int .u64 a1_2]] rfl Z395 ?_;(with_reducible refine (impl_compareSizes.calls kj2 a0_0 a0_1 a0_2 a1_0 a1_1 a1_2 t340 _ A26.out).mono ?_);rintro e w36 ⟨rfl,hb⟩;refine ⟨_,rfl,?_⟩;have n_ := jA (blk_below (g := gb335) (o := .cells #[.bool a0_0,.int .u64 a0_1,.int .u64 a0_2] 28 (0,0)) Z586 hb) (jA (blk_below (g := gb336) (o := .cells #[.bool a1_0,.int .u64 a1_1,.int .u64 a1_2] 28 (0,0)) Z588 hb) (jA (blk_below (g := gb337) (o := .cells #[.bool false,.int .u64 0,.int .u64 0] 28 (0,0)) Z589 hb) (Aside0.mk (below_step Z414 hb))));clear BK335 BK336 BK337 HB;obtain ⟨BK335,BK336,BK337,HB⟩ := n_;(try clear hb);(try clear hb2);(try clear hk);(try clear hi);obtain ⟨hcz37_0,hcz37_1,hcz37_2,hfz37_0,hfz37_1,hfz37_2⟩ := impl_AddWide.cells3 BK336.out;obtain ⟨hcz38_0,hcz38_1,hcz38_2,hfz38_0,hfz38_1,hfz38_2⟩ := impl_AddWide.cells3 BK335.out) | (simp only [bits_Sub64.run a1_2 a0_2 0 t341 t342 A28.out]) | (simp only [bits_Sub64.run a1_1 a0_1 t342 t343 t344 A29.out]) | ((with_reducible refine gate_callee (f := 71) rfl ?_);refine goesL_ (some 56) rfl rfl Try.func71 Z580 rfl #[.bool a1_0,.int .u64 t343,.int .u64 t341] rfl Z395 ?_;(with_reducible refine (impl_wideOf.calls a1_0 t343 t341 t345 t346 t347 _ A30.out).mono ?_);rintro e w39 ⟨rfl,hb⟩;refine ⟨_,rfl,?_⟩;have n_ := jA (blk_below (g := gb335) (o := .cells #[.bool a1_0,.int .u64 a1_1,.int .u64 a1_2] 28 (0,0)) (by refine bP ?_;refine blk_far ?_ NB335_336.out _;refine bP ?_;refine blk_far ?_ NB335_336.out _;refine bP ?_;refine blk_far ?_ NB335_336.out _;refine bP ?_;refine blk_put (cs := #[.bool a1_0,.int .u64 a1_1,.int .u64 a0_2]) ?_ 2 _ rfl;refine bP ?_;refine blk_put (cs := #[.bool a1_0,.int .u64 a0_1,.int .u64 a0_2]) ?_ 1 _ rfl;refine bP ?_;refine blk_put (cs := #[.bool a0_0,.int .u64 a0_1,.int .u64 a0_2]) ?_ 0 _ rfl;refine bP ?_;exact BK335.out) hb) (jA (blk_below (g := gb336) (o := .cells #[.bool a0_0,.int .u64 a0_1,.int .u64 a0_2] 28 (0,0)) (by refine bP ?_;refine blk_put (cs := #[.bool a0_0,.int .u64 a0_1,.int .u64 a1_2]) ?_ 2 _ rfl;refine bP ?_;refine blk_put (cs := #[.bool a0_0,.int .u64 a1_1,.int .u64 a1_2]) ?_ 1 _ rfl;refine bP ?_;refine blk_put (cs := #[.bool a1_0,.int .u64 a1_1,.int .u64 a1_2]) ?_ 0 _ rfl;refine bP ?_;refine blk_far ?_ NB336_335.out _;refine bP ?_;refine blk_far ?_ NB336_335.out _;refine bP ?_;refine blk_far ?_ NB336_335.out _;refine bP ?_;exact BK336.out) hb) (jA (blk_below (g := gb337) (o := .cells #[.bool false,.int .u64 0,.int .u64 0] 28 (0,0)) (by refine bP ?_;refine blk_far ?_ NB337_336.out _;refine bP ?_;refine blk_far ?_ NB337_336.out _;refine bP ?_;refine blk_far ?_ NB337_336.out _;refine bP ?_;refine blk_far ?_ NB337_335.out _;refine bP ?_;refine blk_far ?_ NB337_335.out _;refine bP ?_;refine blk_far ?_ NB337_335.out _;refine bP ?_;exact BK337.out) hb) (Aside0.mk (below_step Z414 hb))));clear BK335 BK336 BK337 HB;obtain ⟨BK335,BK336,BK337,HB⟩ := n_;(try clear hb);(try clear hb2);(try clear hk);(try clear hi);obtain ⟨hcz40_0,hcz40_1,hcz40_2,hfz40_0,hfz40_1,hfz40_2⟩ := impl_AddWide.cells3 BK337.out))
            refine bodyPost_ret (results_ct rfl _ _ gb337 28 #[.bool t345,.int .u64 t346,.int .u64 t347] (0,0) _ rfl (by refine bP ?_;refine blk_put (cs := #[.bool t345,.int .u64 t346,.int .u64 0]) ?_ 2 _ rfl;refine bP ?_;refine blk_put (cs := #[.bool t345,.int .u64 0,.int .u64 0]) ?_ 1 _ rfl;refine bP ?_;refine blk_put (cs := #[.bool false,.int .u64 0,.int .u64 0]) ?_ 0 _ rfl;refine bP ?_;exact BK337.out) Try.underlying28 rfl Z580) rfl ?_
            exact ⟨Z400,Z414⟩
          · rw [if_neg c27] at H
            have c27b0 : decide (t340 < 0) = false := decide_eq_false c27
            clear c27
            obtain ⟨⟨t348,t349⟩,A410,H⟩ := Option.bind_eq_some_iff.mp H
            try dsimp only at H
            have A41 := Aside0.mk A410
            clear A410
            obtain ⟨⟨t350,t351⟩,A420,H⟩ := Option.bind_eq_some_iff.mp H
            try dsimp only at H
            have A42 := Aside0.mk A420
            clear A420
            obtain ⟨⟨t352,t353,t354⟩,A430,H⟩ := Option.bind_eq_some_iff.mp H
            try dsimp only at H
            have A43 := Aside0.mk A430
            clear A430
            simp only [Option.some.injEq,Prod.mk.injEq] at H
            obtain ⟨rfl,rfl,rfl,rfl⟩ := H
            have hnb44 := NB335_336.out
            have hnc44 := NB336_335.out
            have hnb45 := NB335_337.out
            have hnc45 := NB337_335.out
            obtain ⟨hcz46_0,hcz46_1,hcz46_2,hfz46_0,hfz46_1,hfz46_2⟩ := impl_AddWide.cells3 BK335.out
            have hnb47 := NB336_337.out
            have hnc47 := NB337_336.out
            obtain ⟨hcz48_0,hcz48_1,hcz48_2,hfz48_0,hfz48_1,hfz48_2⟩ := impl_AddWide.cells3 BK336.out
            go_wp2_with (first | ((with_reducible refine gate_callee (f := 69) rfl ?_);refine goesL_ (some 31) rfl rfl Try.func69 Z580 rfl #[.agg #[.bool a0_0,.int .u64 a0_1,.int .u64 a0_2],.agg #[.bool a1_0,.int .u64 a1_1,.int .u64 a1_2]] rfl Z395 ?_;(with_reducible refine (impl_compareSizes.calls kj2 a0_0 a0_1 a0_2 a1_0 a1_1 a1_2 t340 _ A26.out).mono ?_);rintro e w49 ⟨rfl,hb⟩;refine ⟨_,rfl,?_⟩;have n_ := jA (blk_below (g := gb335) (o := .cells #[.bool a0_0,.int .u64 a0_1,.int .u64 a0_2] 28 (0,0)) Z586 hb) (jA (blk_below (g := gb336) (o := .cells #[.bool a1_0,.int .u64 a1_1,.int .u64 a1_2] 28 (0,0)) Z588 hb) (jA (blk_below (g := gb337) (o := .cells #[.bool false,.int .u64 0,.int .u64 0] 28 (0,0)) Z589 hb) (Aside0.mk (below_step Z414 hb))));clear BK335 BK336 BK337 HB;obtain ⟨BK335,BK336,BK337,HB⟩ := n_;(try clear hb);(try clear hb2);(try clear hk);(try clear hi);obtain ⟨hcz50_0,hcz50_1,hcz50_2,hfz50_0,hfz50_1,hfz50_2⟩ := impl_AddWide.cells3 BK335.out;obtain ⟨hcz51_0,hcz51_1,hcz51_2,hfz51_0,hfz51_1,hfz51_2⟩ := impl_AddWide.cells3 BK336.out) | (simp only [bits_Sub64.run a0_2 a1_2 0 t348 t349 A41.out];(iterate 4 (try (rw [drewN_self w49];generalize hq_ : World.drewN w49 _ = w49;have n0_ : Aside0 (w49.heap[gb335]? = some (.cells #[.bool a0_0,.int .u64 a0_1,.int .u64 a0_2] 28 (0,0))) := ⟨Z502⟩;have n1_ : Aside0 (w49.heap[gb336]? = some (.cells #[.bool a1_0,.int .u64 a1_1,.int .u64 a1_2] 28 (0,0))) := ⟨Z501⟩;have n2_ : Aside0 (w49.heap[gb337]? = some (.cells #[.bool false,.int .u64 0,.int .u64 0] 28 (0,0))) := ⟨Z500⟩;have n3_ : Aside0 (Below w.heap.size w w49) := ⟨Z103⟩;clear BK335 BK336 BK337 HB hq_;have BK335 := n0_;have BK336 := n1_;have BK337 := n2_;have HB := n3_;clear n0_ n1_ n2_ n3_)));(try (obtain ⟨hcz50_0,hcz50_1,hcz50_2,hfz50_0,hfz50_1,hfz50_2⟩ := impl_AddWide.cells3 BK335.out));(try (obtain ⟨hcz51_0,hcz51_1,hcz51_2,hfz51_0,hfz51_1,hfz51_2⟩ := impl_AddWide.cells3 BK336.out))) | (simp only [bits_Sub64.run a0_1 a1_1 t349 t350 t351 A42.out];(iterate 4 (try (rw [drewN_self w49];generalize hq_ : World.drewN w49 _ = w49;have n0_ : Aside0 (w49.heap[gb335]? = some (.cells #[.bool a0_0,.int .u64 a0_1,.int .u64 a0_2] 28 (0,0))) := ⟨Z502⟩;have n1_ : Aside0 (w49.heap[gb336]? = some (.cells #[.bool a1_0,.int .u64 a1_1,.int .u64 a1_2] 28 (0,0))) := ⟨Z501⟩;have n2_ : Aside0 (w49.heap[gb337]? = some (.cells #[.bool false,.int .u64 0,.int .u64 0] 28 (0,0))) := ⟨Z500⟩;have n3_ : Aside0 (Below w.heap.size w w49) := ⟨Z103⟩;clear BK335 BK336 BK337 HB hq_;have BK335 := n0_;have BK336 := n1_;have BK337 := n2_;have HB := n3_;clear n0_ n1_ n2_ n3_)));(try (obtain ⟨hcz50_0,hcz50_1,hcz50_2,hfz50_0,hfz50_1,hfz50_2⟩ := impl_AddWide.cells3 BK335.out));(try (obtain ⟨hcz51_0,hcz51_1,hcz51_2,hfz51_0,hfz51_1,hfz51_2⟩ := impl_AddWide.cells3 BK336.out))) | ((with_reducible refine gate_callee (f := 71) rfl ?_);refine goesL_ (some 56) rfl rfl Try.func71 Z580 rfl #[.bool a0_0,.int .u64 t350,.int .u64 t348] rfl Z395 ?_;(with_reducible refine (impl_wideOf.calls a0_0 t350 t348 t352 t353 t354 _ A43.out).mono ?_);rintro e w52 ⟨rfl,hb⟩;refine ⟨_,rfl,?_⟩;have n_ := jA (blk_below (g := gb335) (o := .cells #[.bool a0_0,.int .u64 a0_1,.int .u64 a0_2] 28 (0,0)) Z586 hb) (jA (blk_below (g := gb336) (o := .cells #[.bool a1_0,.int .u64 a1_1,.int .u64 a1_2] 28 (0,0)) Z588 hb) (jA (blk_below (g := gb337) (o := .cells #[.bool false,.int .u64 0,.int .u64 0] 28 (0,0)) Z589 hb) (Aside0.mk (below_step Z414 hb))));clear BK335 BK336 BK337 HB;obtain ⟨BK335,BK336,BK337,HB⟩ := n_;(try clear hb);(try clear hb2);(try clear hk);(try clear hi);obtain ⟨hcz53_0,hcz53_1,hcz53_2,hfz53_0,hfz53_1,hfz53_2⟩ := impl_AddWide.cells3 BK337.out))
            refine bodyPost_ret (results_ct rfl _ _ gb337 28 #[.bool t352,.int .u64 t353,.int .u64 t354] (0,0) _ rfl (by refine bP ?_;refine blk_put (cs := #[.bool t352,.int .u64 t353,.int .u64 0]) ?_ 2 _ rfl;refine bP ?_;refine blk_put (cs := #[.bool t352,.int .u64 0,.int .u64 0]) ?_ 1 _ rfl;refine bP ?_;refine blk_put (cs := #[.bool false,.int .u64 0,.int .u64 0]) ?_ 0 _ rfl;refine bP ?_;exact BK337.out) Try.underlying28 rfl Z580) rfl ?_
            exact ⟨Z400,Z414⟩
        · rw [if_neg c25] at H
          have c25b0 : (a0_0 != a1_0) = false := by simpa using c25
          (try (have c25b1 : decide (a0_0 = a1_0) = true := by simpa using c25))
          (try (have c25b2 : (a0_0 == a1_0) = true := by simpa using c25))
          clear c25
          obtain ⟨⟨t355,t356⟩,A540,H⟩ := Option.bind_eq_some_iff.mp H
          try dsimp only at H
          have A54 := Aside0.mk A540
          clear A540
          obtain ⟨⟨t357,t358⟩,A550,H⟩ := Option.bind_eq_some_iff.mp H
          try dsimp only at H
          have A55 := Aside0.mk A550
          clear A550
          obtain ⟨⟨t359,t360,t361⟩,A560,H⟩ := Option.bind_eq_some_iff.mp H
          try dsimp only at H
          have A56 := Aside0.mk A560
          clear A560
          obtain ⟨t363,A570,H⟩ := Option.bind_eq_some_iff.mp H
          have A57 := Aside0.mk A570
          clear A570
          by_cases c58 : t363 = true
          · subst c58
            have H1 : (some (t359,t360,t361,true)) = some (r1,r2,r3,r4) := by rw [if_pos rfl] at H;exact H
            clear H
            have H := H1
            clear H1
            simp only [Option.some.injEq,Prod.mk.injEq] at H
            obtain ⟨rfl,rfl,rfl,rfl⟩ := H
            have hnb59 := NB335_336.out
            have hnc59 := NB336_335.out
            have hnb60 := NB335_337.out
            have hnc60 := NB337_335.out
            obtain ⟨hcz61_0,hcz61_1,hcz61_2,hfz61_0,hfz61_1,hfz61_2⟩ := impl_AddWide.cells3 BK335.out
            have hnb62 := NB336_337.out
            have hnc62 := NB337_336.out
            obtain ⟨hcz63_0,hcz63_1,hcz63_2,hfz63_0,hfz63_1,hfz63_2⟩ := impl_AddWide.cells3 BK336.out
            go_wp2_with (first | (simp only [bits_Add64.run a0_2 a1_2 0 t355 t356 A54.out];(iterate 4 (try (rw [drewN_self wc];generalize hq_ : World.drewN wc _ = wc;have n0_ : Aside0 (wc.heap[gb335]? = some (.cells #[.bool a0_0,.int .u64 a0_1,.int .u64 a0_2] 28 (0,0))) := ⟨Z502⟩;have n1_ : Aside0 (wc.heap[gb336]? = some (.cells #[.bool a1_0,.int .u64 a1_1,.int .u64 a1_2] 28 (0,0))) := ⟨Z501⟩;have n2_ : Aside0 (wc.heap[gb337]? = some (.cells #[.bool false,.int .u64 0,.int .u64 0] 28 (0,0))) := ⟨Z500⟩;have n3_ : Aside0 (Below w.heap.size w wc) := ⟨Z103⟩;clear BK335 BK336 BK337 HB hq_;have BK335 := n0_;have BK336 := n1_;have BK337 := n2_;have HB := n3_;clear n0_ n1_ n2_ n3_)));(try (obtain ⟨hcz61_0,hcz61_1,hcz61_2,hfz61_0,hfz61_1,hfz61_2⟩ := impl_AddWide.cells3 BK335.out));(try (obtain ⟨hcz63_0,hcz63_1,hcz63_2,hfz63_0,hfz63_1,hfz63_2⟩ := impl_AddWide.cells3 BK336.out))) | (simp only [bits_Add64.run a0_1 a1_1 t356 t357 t358 A55.out];(iterate 4 (try (rw [drewN_self wc];generalize hq_ : World.drewN wc _ = wc;have n0_ : Aside0 (wc.heap[gb335]? = some (.cells #[.bool a0_0,.int .u64 a0_1,.int .u64 a0_2] 28 (0,0))) := ⟨Z502⟩;have n1_ : Aside0 (wc.heap[gb336]? = some (.cells #[.bool a1_0,.int .u64 a1_1,.int .u64 a1_2] 28 (0,0))) := ⟨Z501⟩;have n2_ : Aside0 (wc.heap[gb337]? = some (.cells #[.bool false,.int .u64 0,.int .u64 0] 28 (0,0))) := ⟨Z500⟩;have n3_ : Aside0 (Below w.heap.size w wc) := ⟨Z103⟩;clear BK335 BK336 BK337 HB hq_;have BK335 := n0_;have BK336 := n1_;have BK337 := n2_;have HB := n3_;clear n0_ n1_ n2_ n3_)));(try (obtain ⟨hcz61_0,hcz61_1,hcz61_2,hfz61_0,hfz61_1,hfz61_2⟩ := impl_AddWide.cells3 BK335.out));(try (obtain ⟨hcz63_0,hcz63_1,hcz63_2,hfz63_0,hfz63_1,hfz63_2⟩ := impl_AddWide.cells3 BK336.out))) | ((with_reducible refine gate_callee (f := 71) rfl ?_);refine goesL_ (some 78) rfl rfl Try.func71 Z580 rfl #[.bool a0_0,.int .u64 t357,.int .u64 t355] rfl Z395 ?_;(with_reducible refine (impl_wideOf.calls a0_0 t357 t355 t359 t360 t361 _ A56.out).mono ?_);rintro e w64 ⟨rfl,hb⟩;refine ⟨_,rfl,?_⟩;have n_ := jA (blk_below (g := gb335) (o := .cells #[.bool a0_0,.int .u64 a0_1,.int .u64 a0_2] 28 (0,0)) Z586 hb) (jA (blk_below (g := gb336) (o := .cells #[.bool a1_0,.int .u64 a1_1,.int .u64 a1_2] 28 (0,0)) Z588 hb) (jA (blk_below (g := gb337) (o := .cells #[.bool false,.int .u64 0,.int .u64 0] 28 (0,0)) Z589 hb) (Aside0.mk (below_step Z414 hb))));clear BK335 BK336 BK337 HB;obtain ⟨BK335,BK336,BK337,HB⟩ := n_;(try clear hb);(try clear hb2);(try clear hk);(try clear hi)) | ((with_reducible refine gate_dst (N := 14) rfl ?_);refine box_event ?hg (N := 14) ?hd (cs := #[.bool false,.int .u64 0,.int .u64 0]) (t := 28) ?hr ?_;(case hd => rfl);(case hg => rfl);(case hr => exact Z515);intro gb362 hg w65 hbox hb;have n_ := jA (blk_below (g := gb335) (o := .cells #[.bool a0_0,.int .u64 a0_1,.int .u64 a0_2] 28 (0,0)) Z586 hb) (jA (blk_below (g := gb336) (o := .cells #[.bool a1_0,.int .u64 a1_1,.int .u64 a1_2] 28 (0,0)) Z588 hb) (jA (blk_below (g := gb337) (o := .cells #[.bool false,.int .u64 0,.int .u64 0] 28 (0,0)) Z589 hb) (jA (below_step Z414 hb) (jA (hbox) (jA ((Z95 : w.heap.size ≤ gb362)) (jA ((Z95 : w.heap.size ≤ gb362)) (jA ((Z335 : gb335 ≠ gb362)) (jA ((Z337 : gb362 ≠ gb335)) (jA ((Z339 : gb336 ≠ gb362)) (jA ((Z342 : gb362 ≠ gb336)) (jA ((Z372 : gb337 ≠ gb362)) (Aside0.mk ((Z375 : gb362 ≠ gb337))))))))))))));clear BK335 BK336 BK337 HB;obtain ⟨BK335,BK336,BK337,HB,BK362,GW362,GE362,NB335_362,NB362_335,NB336_362,NB362_336,NB337_362,NB362_337⟩ := n_;clear hb hbox hg;have hnb66 := NB362_335.out;have hnc66 := NB335_362.out;have hnb67 := NB362_336.out;have hnc67 := NB336_362.out;have hnb68 := NB362_337.out;have hnc68 := NB337_362.out;obtain ⟨hcz69_0,hcz69_1,hcz69_2,hfz69_0,hfz69_1,hfz69_2⟩ := impl_AddWide.cells3 BK362.out) | ((with_reducible refine gate_callee (f := 31) rfl ?_);refine goesL_ (some 80) rfl rfl Try.func31 Z580 rfl #[.agg #[.bool t359,.int .u64 t360,.int .u64 t361]] rfl Z395 ?_;(with_reducible refine (impl_WideOk.calls t359 t360 t361 true _ A57.out).mono ?_);rintro e w70 ⟨rfl,hb⟩;refine ⟨_,rfl,?_⟩;have n_ := jA (blk_below (g := gb335) (o := .cells #[.bool a0_0,.int .u64 a0_1,.int .u64 a0_2] 28 (0,0)) Z237 hb) (jA (blk_below (g := gb336) (o := .cells #[.bool a1_0,.int .u64 a1_1,.int .u64 a1_2] 28 (0,0)) Z236 hb) (jA (blk_below (g := gb337) (o := .cells #[.bool false,.int .u64 0,.int .u64 0] 28 (0,0)) Z235 hb) (jA (blk_below (g := gb362) (o := .cells #[.bool t359,.int .u64 t360,.int .u64 t361] 28 (0,0)) Z71 hb) (Aside0.mk (below_step Z91 hb)))));clear BK335 BK336 BK337 BK362 HB;obtain ⟨BK335,BK336,BK337,BK362,HB⟩ := n_;(try clear hb);(try clear hb2);(try clear hk);(try clear hi);obtain ⟨hcz71_0,hcz71_1,hcz71_2,hfz71_0,hfz71_1,hfz71_2⟩ := impl_AddWide.cells3 BK362.out;obtain ⟨hcz72_0,hcz72_1,hcz72_2,hfz72_0,hfz72_1,hfz72_2⟩ := impl_AddWide.cells3 BK337.out))
            refine bodyPost_ret (results_ct rfl _ _ gb337 28 #[.bool t359,.int .u64 t360,.int .u64 t361] (0,0) _ rfl (by refine bP ?_;refine blk_put (cs := #[.bool t359,.int .u64 t360,.int .u64 0]) ?_ 2 _ rfl;refine bP ?_;refine blk_put (cs := #[.bool t359,.int .u64 0,.int .u64 0]) ?_ 1 _ rfl;refine bP ?_;refine blk_put (cs := #[.bool false,.int .u64 0,.int .u64 0]) ?_ 0 _ rfl;refine bP ?_;exact BK337.out) Try.underlying28 rfl Z580) rfl ?_
            exact ⟨Z400,Z91⟩
          · replace c58 := Bool.eq_false_iff.mpr c58
            subst c58
            have H1 : (some (false,0,0,false)) = some (r1,r2,r3,r4) := by rw [if_neg (show ¬ (false = true) by decide)] at H;exact H
            clear H
            have H := H1
            clear H1
            simp only [Option.some.injEq,Prod.mk.injEq] at H
            obtain ⟨rfl,rfl,rfl,rfl⟩ := H
            have hnb73 := NB335_336.out
            have hnc73 := NB336_335.out
            have hnb74 := NB335_337.out
            have hnc74 := NB337_335.out
            obtain ⟨hcz75_0,hcz75_1,hcz75_2,hfz75_0,hfz75_1,hfz75_2⟩ := impl_AddWide.cells3 BK335.out
            have hnb76 := NB336_337.out
            have hnc76 := NB337_336.out
            obtain ⟨hcz77_0,hcz77_1,hcz77_2,hfz77_0,hfz77_1,hfz77_2⟩ := impl_AddWide.cells3 BK336.out
            go_wp2_with (first | (simp only [bits_Add64.run a0_2 a1_2 0 t355 t356 A54.out];(iterate 4 (try (rw [drewN_self wc];generalize hq_ : World.drewN wc _ = wc;have n0_ : Aside0 (wc.heap[gb335]? = some (.cells #[.bool a0_0,.int .u64 a0_1,.int .u64 a0_2] 28 (0,0))) := ⟨Z502⟩;have n1_ : Aside0 (wc.heap[gb336]? = some (.cells #[.bool a1_0,.int .u64 a1_1,.int .u64 a1_2] 28 (0,0))) := ⟨Z501⟩;have n2_ : Aside0 (wc.heap[gb337]? = some (.cells #[.bool false,.int .u64 0,.int .u64 0] 28 (0,0))) := ⟨Z500⟩;have n3_ : Aside0 (Below w.heap.size w wc) := ⟨Z103⟩;clear BK335 BK336 BK337 HB hq_;have BK335 := n0_;have BK336 := n1_;have BK337 := n2_;have HB := n3_;clear n0_ n1_ n2_ n3_)));(try (obtain ⟨hcz75_0,hcz75_1,hcz75_2,hfz75_0,hfz75_1,hfz75_2⟩ := impl_AddWide.cells3 BK335.out));(try (obtain ⟨hcz77_0,hcz77_1,hcz77_2,hfz77_0,hfz77_1,hfz77_2⟩ := impl_AddWide.cells3 BK336.out))) | (simp only [bits_Add64.run a0_1 a1_1 t356 t357 t358 A55.out];(iterate 4 (try (rw [drewN_self wc];generalize hq_ : World.drewN wc _ = wc;have n0_ : Aside0 (wc.heap[gb335]? = some (.cells #[.bool a0_0,.int .u64 a0_1,.int .u64 a0_2] 28 (0,0))) := ⟨Z502⟩;have n1_ : Aside0 (wc.heap[gb336]? = some (.cells #[.bool a1_0,.int .u64 a1_1,.int .u64 a1_2] 28 (0,0))) := ⟨Z501⟩;have n2_ : Aside0 (wc.heap[gb337]? = some (.cells #[.bool false,.int .u64 0,.int .u64 0] 28 (0,0))) := ⟨Z500⟩;have n3_ : Aside0 (Below w.heap.size w wc) := ⟨Z103⟩;clear BK335 BK336 BK337 HB hq_;have BK335 := n0_;have BK336 := n1_;have BK337 := n2_;have HB := n3_;clear n0_ n1_ n2_ n3_)));(try (obtain ⟨hcz75_0,hcz75_1,hcz75_2,hfz75_0,hfz75_1,hfz75_2⟩ := impl_AddWide.cells3 BK335.out));(try (obtain ⟨hcz77_0,hcz77_1,hcz77_2,hfz77_0,hfz77_1,hfz77_2⟩ := impl_AddWide.cells3 BK336.out))) | ((with_reducible refine gate_callee (f := 71) rfl ?_);refine goesL_ (some 78) rfl rfl Try.func71 Z580 rfl #[.bool a0_0,.int .u64 t357,.int .u64 t355] rfl Z395 ?_;(with_reducible refine (impl_wideOf.calls a0_0 t357 t355 t359 t360 t361 _ A56.out).mono ?_);rintro e w78 ⟨rfl,hb⟩;refine ⟨_,rfl,?_⟩;have n_ := jA (blk_below (g := gb335) (o := .cells #[.bool a0_0,.int .u64 a0_1,.int .u64 a0_2] 28 (0,0)) Z586 hb) (jA (blk_below (g := gb336) (o := .cells #[.bool a1_0,.int .u64 a1_1,.int .u64 a1_2] 28 (0,0)) Z588 hb) (jA (blk_below (g := gb337) (o := .cells #[.bool false,.int .u64 0,.int .u64 0] 28 (0,0)) Z589 hb) (Aside0.mk (below_step Z414 hb))));clear BK335 BK336 BK337 HB;obtain ⟨BK335,BK336,BK337,HB⟩ := n_;(try clear hb);(try clear hb2);(try clear hk);(try clear hi)) | ((with_reducible refine gate_dst (N := 14) rfl ?_);refine box_event ?hg (N := 14) ?hd (cs := #[.bool false,.int .u64 0,.int .u64 0]) (t := 28) ?hr ?_;(case hd => rfl);(case hg => rfl);(case hr => exact Z515);intro gb362 hg w79 hbox hb;have n_ := jA (blk_below (g := gb335) (o := .cells #[.bool a0_0,.int .u64 a0_1,.int .u64 a0_2] 28 (0,0)) Z586 hb) (jA (blk_below (g := gb336) (o := .cells #[.bool a1_0,.int .u64 a1_1,.int .u64 a1_2] 28 (0,0)) Z588 hb) (jA (blk_below (g := gb337) (o := .cells #[.bool false,.int .u64 0,.int .u64 0] 28 (0,0)) Z589 hb) (jA (below_step Z414 hb) (jA (hbox) (jA ((Z95 : w.heap.size ≤ gb362)) (jA ((Z95 : w.heap.size ≤ gb362)) (jA ((Z335 : gb335 ≠ gb362)) (jA ((Z337 : gb362 ≠ gb335)) (jA ((Z339 : gb336 ≠ gb362)) (jA ((Z342 : gb362 ≠ gb336)) (jA ((Z372 : gb337 ≠ gb362)) (Aside0.mk ((Z375 : gb362 ≠ gb337))))))))))))));clear BK335 BK336 BK337 HB;obtain ⟨BK335,BK336,BK337,HB,BK362,GW362,GE362,NB335_362,NB362_335,NB336_362,NB362_336,NB337_362,NB362_337⟩ := n_;clear hb hbox hg;have hnb80 := NB362_335.out;have hnc80 := NB335_362.out;have hnb81 := NB362_336.out;have hnc81 := NB336_362.out;have hnb82 := NB362_337.out;have hnc82 := NB337_362.out;obtain ⟨hcz83_0,hcz83_1,hcz83_2,hfz83_0,hfz83_1,hfz83_2⟩ := impl_AddWide.cells3 BK362.out) | ((with_reducible refine gate_callee (f := 31) rfl ?_);refine goesL_ (some 80) rfl rfl Try.func31 Z580 rfl #[.agg #[.bool t359,.int .u64 t360,.int .u64 t361]] rfl Z395 ?_;(with_reducible refine (impl_WideOk.calls t359 t360 t361 false _ A57.out).mono ?_);rintro e w84 ⟨rfl,hb⟩;refine ⟨_,rfl,?_⟩;have n_ := jA (blk_below (g := gb335) (o := .cells #[.bool a0_0,.int .u64 a0_1,.int .u64 a0_2] 28 (0,0)) Z237 hb) (jA (blk_below (g := gb336) (o := .cells #[.bool a1_0,.int .u64 a1_1,.int .u64 a1_2] 28 (0,0)) Z236 hb) (jA (blk_below (g := gb337) (o := .cells #[.bool false,.int .u64 0,.int .u64 0] 28 (0,0)) Z235 hb) (jA (blk_below (g := gb362) (o := .cells #[.bool t359,.int .u64 t360,.int .u64 t361] 28 (0,0)) Z71 hb) (Aside0.mk (below_step Z91 hb)))));clear BK335 BK336 BK337 BK362 HB;obtain ⟨BK335,BK336,BK337,BK362,HB⟩ := n_;(try clear hb);(try clear hb2);(try clear hk);(try clear hi);obtain ⟨hcz85_0,hcz85_1,hcz85_2,hfz85_0,hfz85_1,hfz85_2⟩ := impl_AddWide.cells3 BK337.out))
            refine bodyPost_ret (results_ct rfl _ _ gb337 28 #[.bool false,.int .u64 0,.int .u64 0] (0,0) _ rfl Z79 Try.underlying28 rfl Z580) rfl ?_
            exact ⟨Z400,Z91⟩

/-! ### impl_AddFrac: function 26 -/
theorem impl_AddFrac.cells3 {w : World} {g : Nat} {t : TypeId} {a0 a1 a2 : Value} (h : w.heap[g]? = some (.cells #[a0,a1,a2] t (0,0))) : w.cell? ⟨g,0,none⟩ = some a0 ∧ w.cell? ⟨g,1,none⟩ = some a1 ∧ w.cell? ⟨g,2,none⟩ = some a2 ∧ w.frozen? ⟨g,0,none⟩ = false ∧ w.frozen? ⟨g,1,none⟩ = false ∧ w.frozen? ⟨g,2,none⟩ = false := ⟨(blk_cell h 0).trans rfl,(blk_cell h 1).trans rfl,(blk_cell h 2).trans rfl,blk_frozen h 0,blk_frozen h 1,blk_frozen h 2⟩
theorem impl_AddFrac.cells4 {w : World} {g : Nat} {t : TypeId} {a0 a1 a2 a3 : Value} (h : w.heap[g]? = some (.cells #[a0,a1,a2,a3] t (0,0))) : w.cell? ⟨g,0,none⟩ = some a0 ∧ w.cell? ⟨g,1,none⟩ = some a1 ∧ w.cell? ⟨g,2,none⟩ = some a2 ∧ w.cell? ⟨g,3,none⟩ = some a3 ∧ w.frozen? ⟨g,0,none⟩ = false ∧ w.frozen? ⟨g,1,none⟩ = false ∧ w.frozen? ⟨g,2,none⟩ = false ∧ w.frozen? ⟨g,3,none⟩ = false := ⟨(blk_cell h 0).trans rfl,(blk_cell h 1).trans rfl,(blk_cell h 2).trans rfl,(blk_cell h 3).trans rfl,blk_frozen h 0,blk_frozen h 1,blk_frozen h 2,blk_frozen h 3⟩
def impl_AddFrac.f (k : Nat) (a0_0 : Bool) (a0_1 : Int) (a0_2 : Int) (a0_3 : Int) (a1_0 : Bool) (a1_1 : Int) (a1_2 : Int) (a1_3 : Int) : Option (Bool × Int × Int × Int × Bool) := (impl_crossed.f k a0_0 a0_1 a0_2 a0_3 a1_0 a1_1 a1_2 a1_3).bind fun bt367 => (if bt367.2.2.2.2.2.2 = true then ((impl_AddWide.f k bt367.1 bt367.2.1 bt367.2.2.1 bt367.2.2.2.1 bt367.2.2.2.2.1 bt367.2.2.2.2.2.1).bind fun bt376 => (if bt376.2.2.2 = true then ((impl_fracOf.f bt376.1 bt376.2.1 bt376.2.2.1 (wrap64 (a0_3 * a1_3))).bind fun bt381 => (some (bt381.1,bt381.2.1,bt381.2.2.1,bt381.2.2.2.1,bt381.2.2.2.2))) else (some (false,0,0,0,false)))) else (some (false,0,0,0,false)))
theorem impl_AddFrac.mono : ∀ a0 a1 a2 a3 a4 a5 a6 a7 k,LeO (impl_AddFrac.f k a0 a1 a2 a3 a4 a5 a6 a7) (impl_AddFrac.f (k + 1) a0 a1 a2 a3 a4 a5 a6 a7) := by
  intro a0 a1 a2 a3 a4 a5 a6 a7 k
  unfold impl_AddFrac.f
  repeat' first
      | (with_reducible exact impl_AddWide.mono _ _ _ _ _ _ _)
      | (with_reducible exact impl_crossed.mono _ _ _ _ _ _ _ _ _)
      | (with_reducible exact LeO.refl _)
      | (with_reducible exact LeO.none _)
      | (with_reducible refine LeO.ite ?_ ?_)
      | (with_reducible refine LeO.bind ?_ (fun _ => ?_))
      | exact impl_AddWide.mono _ _ _ _ _ _ _
      | exact impl_crossed.mono _ _ _ _ _ _ _ _ _
      | exact LeO.none _
      | refine LeO.ite ?_ ?_
      | refine LeO.bind ?_ (fun _ => ?_)
set_option maxHeartbeats 8000000 in
set_option maxRecDepth 100000 in
theorem impl_AddFrac.calls (k : Nat) (a0_0 : Bool) (a0_1 : Int) (a0_2 : Int) (a0_3 : Int) (a1_0 : Bool) (a1_1 : Int) (a1_2 : Int) (a1_3 : Int) (r1 : Bool) (r2 : Int) (r3 : Int) (r4 : Int) (r5 : Bool) (w : World) (h : impl_AddFrac.f k a0_0 a0_1 a0_2 a0_3 a1_0 a1_1 a1_2 a1_3 = some (r1,r2,r3,r4,r5)) :
    Calls Try.prog 26 #[.agg #[.bool a0_0,.int .u64 a0_1,.int .u64 a0_2,.int .i64 a0_3],.agg #[.bool a1_0,.int .u64 a1_1,.int .u64 a1_2,.int .i64 a1_3]] w fun e w' => e = .returned (.tuple #[.agg #[.bool r1,.int .u64 r2,.int .u64 r3,.int .i64 r4],.bool r5]) ∧ Below w.heap.size w w' := by
  have hu30 := Try.underlying30
  have hu28 := Try.underlying28
  have HB := Aside0.mk (Below.refl w.heap.size w)
  have H : ((impl_crossed.f k a0_0 a0_1 a0_2 a0_3 a1_0 a1_1 a1_2 a1_3).bind fun bt367 => (if bt367.2.2.2.2.2.2 = true then ((impl_AddWide.f k bt367.1 bt367.2.1 bt367.2.2.1 bt367.2.2.2.1 bt367.2.2.2.2.1 bt367.2.2.2.2.2.1).bind fun bt376 => (if bt376.2.2.2 = true then ((impl_fracOf.f bt376.1 bt376.2.1 bt376.2.2.1 (wrap64 (a0_3 * a1_3))).bind fun bt381 => (some (bt381.1,bt381.2.1,bt381.2.2.1,bt381.2.2.2.1,bt381.2.2.2.2))) else (some (false,0,0,0,false)))) else (some (false,0,0,0,false)))) = some (r1,r2,r3,r4,r5) := h
  clear h
  obtain ⟨⟨t367,t368,t369,t370,t371,t372,t373⟩,A30,H⟩ := Option.bind_eq_some_iff.mp H
  try dsimp only at H
  have A3 := Aside0.mk A30
  clear A30
  by_cases c4 : t373 = true
  · subst c4
    have H1 : ((impl_AddWide.f k t367 t368 t369 t370 t371 t372).bind fun bt376 => (if bt376.2.2.2 = true then ((impl_fracOf.f bt376.1 bt376.2.1 bt376.2.2.1 (wrap64 (a0_3 * a1_3))).bind fun bt381 => (some (bt381.1,bt381.2.1,bt381.2.2.1,bt381.2.2.2.1,bt381.2.2.2.2))) else (some (false,0,0,0,false)))) = some (r1,r2,r3,r4,r5) := by rw [if_pos rfl] at H;exact H
    clear H
    have H := H1
    clear H1
    obtain ⟨⟨t376,t377,t378,t379⟩,A50,H⟩ := Option.bind_eq_some_iff.mp H
    try dsimp only at H
    have A5 := Aside0.mk A50
    clear A50
    by_cases c6 : t379 = true
    · subst c6
      have H1 : ((impl_fracOf.f t376 t377 t378 (wrap64 (a0_3 * a1_3))).bind fun bt381 => (some (bt381.1,bt381.2.1,bt381.2.2.1,bt381.2.2.2.1,bt381.2.2.2.2))) = some (r1,r2,r3,r4,r5) := by rw [if_pos rfl] at H;exact H
      clear H
      have H := H1
      clear H1
      obtain ⟨⟨t381,t382,t383,t384,t385⟩,A70,H⟩ := Option.bind_eq_some_iff.mp H
      try dsimp only at H
      have A7 := Aside0.mk A70
      clear A70
      simp only [Option.some.injEq,Prod.mk.injEq] at H
      obtain ⟨rfl,rfl,rfl,rfl,rfl⟩ := H
      go_enter Try.func26,Try.ntmps26
      go_wp2_with (first | ((with_reducible refine gate_dst (N := 2) rfl ?_);refine box_event ?hg (N := 2) ?hd (cs := #[.bool a0_0,.int .u64 a0_1,.int .u64 a0_2,.int .i64 a0_3]) (t := 30) ?hr ?_;(case hd => rfl);(case hg => rfl);(case hr => exact Z515);intro gb364 hg w8 hbox hb;have n_ := jA (below_step Z486 hb) (jA (hbox) (jA ((Z271 : w.heap.size ≤ gb364)) (Aside0.mk ((Z271 : w.heap.size ≤ gb364)))));clear HB;obtain ⟨HB,BK364,GW364,GE364⟩ := n_;clear hb hbox hg) | ((with_reducible refine gate_dst (N := 3) rfl ?_);refine box_event ?hg (N := 3) ?hd (cs := #[.bool a1_0,.int .u64 a1_1,.int .u64 a1_2,.int .i64 a1_3]) (t := 30) ?hr ?_;(case hd => rfl);(case hg => rfl);(case hr => exact Z515);intro gb365 hg w9 hbox hb;have n_ := jA (blk_below (g := gb364) (o := .cells #[.bool a0_0,.int .u64 a0_1,.int .u64 a0_2,.int .i64 a0_3] 30 (0,0)) Z522 hb) (jA (below_step Z464 hb) (jA (hbox) (jA ((Z194 : w.heap.size ≤ gb365)) (jA ((Z194 : w.heap.size ≤ gb365)) (jA ((Z276 : gb364 ≠ gb365)) (Aside0.mk ((Z277 : gb365 ≠ gb364))))))));clear BK364 HB;obtain ⟨BK364,HB,BK365,GW365,GE365,NB364_365,NB365_364⟩ := n_;clear hb hbox hg) | ((with_reducible refine gate_dst (N := 4) rfl ?_);refine box_event ?hg (N := 4) ?hd (cs := #[.bool false,.int .u64 0,.int .u64 0,.int .i64 0]) (t := 30) ?hr ?_;(case hd => rfl);(case hg => rfl);(case hr => exact Z515);intro gb366 hg w10 hbox hb;have n_ := jA (blk_below (g := gb364) (o := .cells #[.bool a0_0,.int .u64 a0_1,.int .u64 a0_2,.int .i64 a0_3] 30 (0,0)) Z522 hb) (jA (blk_below (g := gb365) (o := .cells #[.bool a1_0,.int .u64 a1_1,.int .u64 a1_2,.int .i64 a1_3] 30 (0,0)) Z527 hb) (jA (below_step Z440 hb) (jA (hbox) (jA ((Z117 : w.heap.size ≤ gb366)) (jA ((Z117 : w.heap.size ≤ gb366)) (jA ((Z276 : gb364 ≠ gb366)) (jA ((Z277 : gb366 ≠ gb364)) (jA ((Z278 : gb365 ≠ gb366)) (Aside0.mk ((Z279 : gb366 ≠ gb365)))))))))));clear BK364 BK365 HB;obtain ⟨BK364,BK365,HB,BK366,GW366,GE366,NB364_366,NB366_364,NB365_366,NB366_365⟩ := n_;clear hb hbox hg;have hnb11 := NB364_365.out;have hnc11 := NB365_364.out;have hnb12 := NB364_366.out;have hnc12 := NB366_364.out;obtain ⟨hcz13_0,hcz13_1,hcz13_2,hcz13_3,hfz13_0,hfz13_1,hfz13_2,hfz13_3⟩ := impl_AddFrac.cells4 BK364.out;have hnb14 := NB365_366.out;have hnc14 := NB366_365.out;obtain ⟨hcz15_0,hcz15_1,hcz15_2,hcz15_3,hfz15_0,hfz15_1,hfz15_2,hfz15_3⟩ := impl_AddFrac.cells4 BK365.out) | ((with_reducible refine gate_callee (f := 48) rfl ?_);refine goesL_ (some 13) rfl rfl Try.func48 Z580 rfl #[.agg #[.bool a0_0,.int .u64 a0_1,.int .u64 a0_2,.int .i64 a0_3],.agg #[.bool a1_0,.int .u64 a1_1,.int .u64 a1_2,.int .i64 a1_3]] rfl Z395 ?_;(with_reducible refine (impl_crossed.calls k a0_0 a0_1 a0_2 a0_3 a1_0 a1_1 a1_2 a1_3 t367 t368 t369 t370 t371 t372 true _ A3.out).mono ?_);rintro e w16 ⟨rfl,hb⟩;refine ⟨_,rfl,?_⟩;have n_ := jA (blk_below (g := gb364) (o := .cells #[.bool a0_0,.int .u64 a0_1,.int .u64 a0_2,.int .i64 a0_3] 30 (0,0)) Z522 hb) (jA (blk_below (g := gb365) (o := .cells #[.bool a1_0,.int .u64 a1_1,.int .u64 a1_2,.int .i64 a1_3] 30 (0,0)) Z527 hb) (jA (blk_below (g := gb366) (o := .cells #[.bool false,.int .u64 0,.int .u64 0,.int .i64 0] 30 (0,0)) Z537 hb) (Aside0.mk (below_step Z420 hb))));clear BK364 BK365 BK366 HB;obtain ⟨BK364,BK365,BK366,HB⟩ := n_;(try clear hb);(try clear hb2);(try clear hk);(try clear hi)) | ((with_reducible refine gate_dst (N := 6) rfl ?_);refine box_event ?hg (N := 6) ?hd (cs := #[.bool false,.int .u64 0,.int .u64 0]) (t := 28) ?hr ?_;(case hd => rfl);(case hg => rfl);(case hr => exact Z515);intro gb374 hg w17 hbox hb;have n_ := jA (blk_below (g := gb364) (o := .cells #[.bool a0_0,.int .u64 a0_1,.int .u64 a0_2,.int .i64 a0_3] 30 (0,0)) Z522 hb) (jA (blk_below (g := gb365) (o := .cells #[.bool a1_0,.int .u64 a1_1,.int .u64 a1_2,.int .i64 a1_3] 30 (0,0)) Z527 hb) (jA (blk_below (g := gb366) (o := .cells #[.bool false,.int .u64 0,.int .u64 0,.int .i64 0] 30 (0,0)) Z537 hb) (jA (below_step Z420 hb) (jA (hbox) (jA ((Z89 : w.heap.size ≤ gb374)) (jA ((Z89 : w.heap.size ≤ gb374)) (jA ((Z276 : gb364 ≠ gb374)) (jA ((Z277 : gb374 ≠ gb364)) (jA ((Z278 : gb365 ≠ gb374)) (jA ((Z279 : gb374 ≠ gb365)) (jA ((Z316 : gb366 ≠ gb374)) (Aside0.mk ((Z317 : gb374 ≠ gb366))))))))))))));clear BK364 BK365 BK366 HB;obtain ⟨BK364,BK365,BK366,HB,BK374,GW374,GE374,NB364_374,NB374_364,NB365_374,NB374_365,NB366_374,NB374_366⟩ := n_;clear hb hbox hg) | ((with_reducible refine gate_dst (N := 7) rfl ?_);refine box_event ?hg (N := 7) ?hd (cs := #[.bool false,.int .u64 0,.int .u64 0]) (t := 28) ?hr ?_;(case hd => rfl);(case hg => rfl);(case hr => exact Z515);intro gb375 hg w18 hbox hb;have n_ := jA (blk_below (g := gb364) (o := .cells #[.bool a0_0,.int .u64 a0_1,.int .u64 a0_2,.int .i64 a0_3] 30 (0,0)) Z522 hb) (jA (blk_below (g := gb365) (o := .cells #[.bool a1_0,.int .u64 a1_1,.int .u64 a1_2,.int .i64 a1_3] 30 (0,0)) Z527 hb) (jA (blk_below (g := gb366) (o := .cells #[.bool false,.int .u64 0,.int .u64 0,.int .i64 0] 30 (0,0)) Z537 hb) (jA (blk_below (g := gb374) (o := .cells #[.bool false,.int .u64 0,.int .u64 0] 28 (0,0)) Z548 hb) (jA (below_step Z412 hb) (jA (hbox) (jA ((Z59 : w.heap.size ≤ gb375)) (jA ((Z59 : w.heap.size ≤ gb375)) (jA ((Z276 : gb364 ≠ gb375)) (jA ((Z277 : gb375 ≠ gb364)) (jA ((Z278 : gb365 ≠ gb375)) (jA ((Z279 : gb375 ≠ gb365)) (jA ((Z316 : gb366 ≠ gb375)) (jA ((Z317 : gb375 ≠ gb366)) (jA ((Z369 : gb374 ≠ gb375)) (Aside0.mk ((Z370 : gb375 ≠ gb374)))))))))))))))));clear BK364 BK365 BK366 BK374 HB;obtain ⟨BK364,BK365,BK366,BK374,HB,BK375,GW375,GE375,NB364_375,NB375_364,NB365_375,NB375_365,NB366_375,NB375_366,NB374_375,NB375_374⟩ := n_;clear hb hbox hg;have hnb19 := NB374_364.out;have hnc19 := NB364_374.out;have hnb20 := NB374_365.out;have hnc20 := NB365_374.out;have hnb21 := NB374_366.out;have hnc21 := NB366_374.out;have hnb22 := NB374_375.out;have hnc22 := NB375_374.out;obtain ⟨hcz23_0,hcz23_1,hcz23_2,hfz23_0,hfz23_1,hfz23_2⟩ := impl_AddFrac.cells3 BK374.out;have hnb24 := NB375_364.out;have hnc24 := NB364_375.out;have hnb25 := NB375_365.out;have hnc25 := NB365_375.out;have hnb26 := NB375_366.out;have hnc26 := NB366_375.out;obtain ⟨hcz27_0,hcz27_1,hcz27_2,hfz27_0,hfz27_1,hfz27_2⟩ := impl_AddFrac.cells3 BK375.out) | ((with_reducible refine gate_callee (f := 49) rfl ?_);refine goesL_ (some 23) rfl rfl Try.func49 Z580 rfl #[.agg #[.bool t367,.int .u64 t368,.int .u64 t369],.agg #[.bool t370,.int .u64 t371,.int .u64 t372]] rfl Z395 ?_;(with_reducible refine (impl_AddWide.calls k t367 t368 t369 t370 t371 t372 t376 t377 t378 true _ A5.out).mono ?_);rintro e w28 ⟨rfl,hb⟩;refine ⟨_,rfl,?_⟩;have n_ := jA (blk_below (g := gb364) (o := .cells #[.bool a0_0,.int .u64 a0_1,.int .u64 a0_2,.int .i64 a0_3] 30 (0,0)) Z51 hb) (jA (blk_below (g := gb365) (o := .cells #[.bool a1_0,.int .u64 a1_1,.int .u64 a1_2,.int .i64 a1_3] 30 (0,0)) Z50 hb) (jA (blk_below (g := gb366) (o := .cells #[.bool false,.int .u64 0,.int .u64 0,.int .i64 0] 30 (0,0)) Z49 hb) (jA (blk_below (g := gb374) (o := .cells #[.bool t367,.int .u64 t368,.int .u64 t369] 28 (0,0)) Z13 hb) (jA (blk_below (g := gb375) (o := .cells #[.bool t370,.int .u64 t371,.int .u64 t372] 28 (0,0)) Z10 hb) (Aside0.mk (below_step Z404 hb))))));clear BK364 BK365 BK366 BK374 BK375 HB;obtain ⟨BK364,BK365,BK366,BK374,BK375,HB⟩ := n_;(try clear hb);(try clear hb2);(try clear hk);(try clear hi)) | ((with_reducible refine gate_dst (N := 9) rfl ?_);refine box_event ?hg (N := 9) ?hd (cs := #[.bool false,.int .u64 0,.int .u64 0]) (t := 28) ?hr ?_;(case hd => rfl);(case hg => rfl);(case hr => exact Z515);intro gb380 hg w29 hbox hb;have n_ := jA (blk_below (g := gb364) (o := .cells #[.bool a0_0,.int .u64 a0_1,.int .u64 a0_2,.int .i64 a0_3] 30 (0,0)) Z522 hb) (jA (blk_below (g := gb365) (o := .cells #[.bool a1_0,.int .u64 a1_1,.int .u64 a1_2,.int .i64 a1_3] 30 (0,0)) Z527 hb) (jA (blk_below (g := gb366) (o := .cells #[.bool false,.int .u64 0,.int .u64 0,.int .i64 0] 30 (0,0)) Z537 hb) (jA (blk_below (g := gb374) (o := .cells #[.bool t367,.int .u64 t368,.int .u64 t369] 28 (0,0)) Z548 hb) (jA (blk_below (g := gb375) (o := .cells #[.bool t370,.int .u64 t371,.int .u64 t372] 28 (0,0)) Z571 hb) (jA (below_step Z404 hb) (jA (hbox) (jA ((Z38 : w.heap.size ≤ gb380)) (jA ((Z38 : w.heap.size ≤ gb380)) (jA ((Z276 : gb364 ≠ gb380)) (jA ((Z277 : gb380 ≠ gb364)) (jA ((Z278 : gb365 ≠ gb380)) (jA ((Z279 : gb380 ≠ gb365)) (jA ((Z316 : gb366 ≠ gb380)) (jA ((Z317 : gb380 ≠ gb366)) (jA ((Z346 : gb374 ≠ gb380)) (jA ((Z350 : gb380 ≠ gb374)) (jA ((Z345 : gb375 ≠ gb380)) (Aside0.mk ((Z349 : gb380 ≠ gb375))))))))))))))))))));clear BK364 BK365 BK366 BK374 BK375 HB;obtain ⟨BK364,BK365,BK366,BK374,BK375,HB,BK380,GW380,GE380,NB364_380,NB380_364,NB365_380,NB380_365,NB366_380,NB380_366,NB374_380,NB380_374,NB375_380,NB380_375⟩ := n_;clear hb hbox hg;have hnb30 := NB380_364.out;have hnc30 := NB364_380.out;have hnb31 := NB380_365.out;have hnc31 := NB365_380.out;have hnb32 := NB380_366.out;have hnc32 := NB366_380.out;have hnb33 := NB380_374.out;have hnc33 := NB374_380.out;have hnb34 := NB380_375.out;have hnc34 := NB375_380.out;obtain ⟨hcz35_0,hcz35_1,hcz35_2,hfz35_0,hfz35_1,hfz35_2⟩ := impl_AddFrac.cells3 BK380.out;obtain ⟨hcz36_0,hcz36_1,hcz36_2,hcz36_3,hfz36_0,hfz36_1,hfz36_2,hfz36_3⟩ := impl_AddFrac.cells4 BK364.out;obtain ⟨hcz37_0,hcz37_1,hcz37_2,hcz37_3,hfz37_0,hfz37_1,hfz37_2,hfz37_3⟩ := impl_AddFrac.cells4 BK365.out) | ((with_reducible refine gate_callee (f := 50) rfl ?_);refine goesL_ (some 35) rfl rfl Try.func50 Z580 rfl #[.agg #[.bool t376,.int .u64 t377,.int .u64 t378],.int .i64 (wrap64 (a0_3 * a1_3))] rfl Z395 ?_;(with_reducible refine (impl_fracOf.calls t376 t377 t378 (wrap64 (a0_3 * a1_3)) t381 t382 t383 t384 t385 _ A7.out).mono ?_);rintro e w38 ⟨rfl,hb⟩;refine ⟨_,rfl,?_⟩;have n_ := jA (blk_below (g := gb364) (o := .cells #[.bool a0_0,.int .u64 a0_1,.int .u64 a0_2,.int .i64 a0_3] 30 (0,0)) (by refine bP ?_;refine blk_far ?_ NB364_380.out _;refine bP ?_;refine blk_far ?_ NB364_380.out _;refine bP ?_;refine blk_far ?_ NB364_380.out _;refine bP ?_;exact BK364.out) hb) (jA (blk_below (g := gb365) (o := .cells #[.bool a1_0,.int .u64 a1_1,.int .u64 a1_2,.int .i64 a1_3] 30 (0,0)) (by refine bP ?_;refine blk_far ?_ NB365_380.out _;refine bP ?_;refine blk_far ?_ NB365_380.out _;refine bP ?_;refine blk_far ?_ NB365_380.out _;refine bP ?_;exact BK365.out) hb) (jA (blk_below (g := gb366) (o := .cells #[.bool false,.int .u64 0,.int .u64 0,.int .i64 0] 30 (0,0)) (by refine bP ?_;refine blk_far ?_ NB366_380.out _;refine bP ?_;refine blk_far ?_ NB366_380.out _;refine bP ?_;refine blk_far ?_ NB366_380.out _;refine bP ?_;exact BK366.out) hb) (jA (blk_below (g := gb374) (o := .cells #[.bool t367,.int .u64 t368,.int .u64 t369] 28 (0,0)) (by refine bP ?_;refine blk_far ?_ NB374_380.out _;refine bP ?_;refine blk_far ?_ NB374_380.out _;refine bP ?_;refine blk_far ?_ NB374_380.out _;refine bP ?_;exact BK374.out) hb) (jA (blk_below (g := gb375) (o := .cells #[.bool t370,.int .u64 t371,.int .u64 t372] 28 (0,0)) (by refine bP ?_;refine blk_far ?_ NB375_380.out _;refine bP ?_;refine blk_far ?_ NB375_380.out _;refine bP ?_;refine blk_far ?_ NB375_380.out _;refine bP ?_;exact BK375.out) hb) (jA (blk_below (g := gb380) (o := .cells #[.bool t376,.int .u64 t377,.int .u64 t378] 28 (0,0)) (by refine bP ?_;refine blk_put (cs := #[.bool t376,.int .u64 t377,.int .u64 0]) ?_ 2 _ rfl;refine bP ?_;refine blk_put (cs := #[.bool t376,.int .u64 0,.int .u64 0]) ?_ 1 _ rfl;refine bP ?_;refine blk_put (cs := #[.bool false,.int .u64 0,.int .u64 0]) ?_ 0 _ rfl;refine bP ?_;exact BK380.out) hb) (Aside0.mk (below_step Z43 hb)))))));clear BK364 BK365 BK366 BK374 BK375 BK380 HB;obtain ⟨BK364,BK365,BK366,BK374,BK375,BK380,HB⟩ := n_;(try clear hb);(try clear hb2);(try clear hk);(try clear hi);obtain ⟨hcz39_0,hcz39_1,hcz39_2,hcz39_3,hfz39_0,hfz39_1,hfz39_2,hfz39_3⟩ := impl_AddFrac.cells4 BK366.out))
      refine bodyPost_ret (results_ct rfl _ _ gb366 30 #[.bool t381,.int .u64 t382,.int .u64 t383,.int .i64 t384] (0,0) _ rfl (by refine bP ?_;refine blk_put (cs := #[.bool t381,.int .u64 t382,.int .u64 t383,.int .i64 0]) ?_ 3 _ rfl;refine bP ?_;refine blk_put (cs := #[.bool t381,.int .u64 t382,.int .u64 0,.int .i64 0]) ?_ 2 _ rfl;refine bP ?_;refine blk_put (cs := #[.bool t381,.int .u64 0,.int .u64 0,.int .i64 0]) ?_ 1 _ rfl;refine bP ?_;refine blk_put (cs := #[.bool false,.int .u64 0,.int .u64 0,.int .i64 0]) ?_ 0 _ rfl;refine bP ?_;exact BK366.out) Try.underlying30 rfl Z580) rfl ?_
      exact ⟨Z400,Z43⟩
    · replace c6 := Bool.eq_false_iff.mpr c6
      subst c6
      have H1 : (some (false,0,0,0,false)) = some (r1,r2,r3,r4,r5) := by rw [if_neg (show ¬ (false = true) by decide)] at H;exact H
      clear H
      have H := H1
      clear H1
      simp only [Option.some.injEq,Prod.mk.injEq] at H
      obtain ⟨rfl,rfl,rfl,rfl,rfl⟩ := H
      go_enter Try.func26,Try.ntmps26
      go_wp2_with (first | ((with_reducible refine gate_dst (N := 2) rfl ?_);refine box_event ?hg (N := 2) ?hd (cs := #[.bool a0_0,.int .u64 a0_1,.int .u64 a0_2,.int .i64 a0_3]) (t := 30) ?hr ?_;(case hd => rfl);(case hg => rfl);(case hr => exact Z515);intro gb364 hg w40 hbox hb;have n_ := jA (below_step Z486 hb) (jA (hbox) (jA ((Z271 : w.heap.size ≤ gb364)) (Aside0.mk ((Z271 : w.heap.size ≤ gb364)))));clear HB;obtain ⟨HB,BK364,GW364,GE364⟩ := n_;clear hb hbox hg) | ((with_reducible refine gate_dst (N := 3) rfl ?_);refine box_event ?hg (N := 3) ?hd (cs := #[.bool a1_0,.int .u64 a1_1,.int .u64 a1_2,.int .i64 a1_3]) (t := 30) ?hr ?_;(case hd => rfl);(case hg => rfl);(case hr => exact Z515);intro gb365 hg w41 hbox hb;have n_ := jA (blk_below (g := gb364) (o := .cells #[.bool a0_0,.int .u64 a0_1,.int .u64 a0_2,.int .i64 a0_3] 30 (0,0)) Z522 hb) (jA (below_step Z464 hb) (jA (hbox) (jA ((Z194 : w.heap.size ≤ gb365)) (jA ((Z194 : w.heap.size ≤ gb365)) (jA ((Z276 : gb364 ≠ gb365)) (Aside0.mk ((Z277 : gb365 ≠ gb364))))))));clear BK364 HB;obtain ⟨BK364,HB,BK365,GW365,GE365,NB364_365,NB365_364⟩ := n_;clear hb hbox hg) | ((with_reducible refine gate_dst (N := 4) rfl ?_);refine box_event ?hg (N := 4) ?hd (cs := #[.bool false,.int .u64 0,.int .u64 0,.int .i64 0]) (t := 30) ?hr ?_;(case hd => rfl);(case hg => rfl);(case hr => exact Z515);intro gb366 hg w42 hbox hb;have n_ := jA (blk_below (g := gb364) (o := .cells #[.bool a0_0,.int .u64 a0_1,.int .u64 a0_2,.int .i64 a0_3] 30 (0,0)) Z522 hb) (jA (blk_below (g := gb365) (o := .cells #[.bool a1_0,.int .u64 a1_1,.int .u64 a1_2,.int .i64 a1_3] 30 (0,0)) Z527 hb) (jA (below_step Z440 hb) (jA (hbox) (jA ((Z117 : w.heap.size ≤ gb366)) (jA ((Z117 : w.heap.size ≤ gb366)) (jA ((Z276 : gb364 ≠ gb366)) (jA ((Z277 : gb366 ≠ gb364)) (jA ((Z278 : gb365 ≠ gb366)) (Aside0.mk ((Z279 : gb366 ≠ gb365)))))))))));clear BK364 BK365 HB;obtain ⟨BK364,BK365,HB,BK366,GW366,GE366,NB364_366,NB366_364,NB365_366,NB366_365⟩ := n_;clear hb hbox hg;have hnb43 := NB364_365.out;have hnc43 := NB365_364.out;have hnb44 := NB364_366.out;have hnc44 := NB366_364.out;obtain ⟨hcz45_0,hcz45_1,hcz45_2,hcz45_3,hfz45_0,hfz45_1,hfz45_2,hfz45_3⟩ := impl_AddFrac.cells4 BK364.out;have hnb46 := NB365_366.out;have hnc46 := NB366_365.out;obtain ⟨hcz47_0,hcz47_1,hcz47_2,hcz47_3,hfz47_0,hfz47_1,hfz47_2,hfz47_3⟩ := impl_AddFrac.cells4 BK365.out) | ((with_reducible refine gate_callee (f := 48) rfl ?_);refine goesL_ (some 13) rfl rfl Try.func48 Z580 rfl #[.agg #[.bool a0_0,.int .u64 a0_1,.int .u64 a0_2,.int .i64 a0_3],.agg #[.bool a1_0,.int .u64 a1_1,.int .u64 a1_2,.int .i64 a1_3]] rfl Z395 ?_;(with_reducible refine (impl_crossed.calls k a0_0 a0_1 a0_2 a0_3 a1_0 a1_1 a1_2 a1_3 t367 t368 t369 t370 t371 t372 true _ A3.out).mono ?_);rintro e w48 ⟨rfl,hb⟩;refine ⟨_,rfl,?_⟩;have n_ := jA (blk_below (g := gb364) (o := .cells #[.bool a0_0,.int .u64 a0_1,.int .u64 a0_2,.int .i64 a0_3] 30 (0,0)) Z522 hb) (jA (blk_below (g := gb365) (o := .cells #[.bool a1_0,.int .u64 a1_1,.int .u64 a1_2,.int .i64 a1_3] 30 (0,0)) Z527 hb) (jA (blk_below (g := gb366) (o := .cells #[.bool false,.int .u64 0,.int .u64 0,.int .i64 0] 30 (0,0)) Z537 hb) (Aside0.mk (below_step Z420 hb))));clear BK364 BK365 BK366 HB;obtain ⟨BK364,BK365,BK366,HB⟩ := n_;(try clear hb);(try clear hb2);(try clear hk);(try clear hi)) | ((with_reducible refine gate_dst (N := 6) rfl ?_);refine box_event ?hg (N := 6) ?hd (cs := #[.bool false,.int .u64 0,.int .u64 0]) (t := 28) ?hr ?_;(case hd => rfl);(case hg => rfl);(case hr => exact Z515);intro gb374 hg w49 hbox hb;have n_ := jA (blk_below (g := gb364) (o := .cells #[.bool a0_0,.int .u64 a0_1,.int .u64 a0_2,.int .i64 a0_3] 30 (0,0)) Z522 hb) (jA (blk_below (g := gb365) (o := .cells #[.bool a1_0,.int .u64 a1_1,.int .u64 a1_2,.int .i64 a1_3] 30 (0,0)) Z527 hb) (jA (blk_below (g := gb366) (o := .cells #[.bool false,.int .u64 0,.int .u64 0,.int .i64 0] 30 (0,0)) Z537 hb) (jA (below_step Z420 hb) (jA (hbox) (jA ((Z89 : w.heap.size ≤ gb374)) (jA ((Z89 : w.heap.size ≤ gb374)) (jA ((Z276 : gb364 ≠ gb374)) (jA ((Z277 : gb374 ≠ gb364)) (jA ((Z278 : gb365 ≠ gb374)) (jA ((Z279 : gb374 ≠ gb365)) (jA ((Z316 : gb366 ≠ gb374)) (Aside0.mk ((Z317 : gb374 ≠ gb366))))))))))))));clear BK364 BK365 BK366 HB;obtain ⟨BK364,BK365,BK366,HB,BK374,GW374,GE374,NB364_374,NB374_364,NB365_374,NB374_365,NB366_374,NB374_366⟩ := n_;clear hb hbox hg) | ((with_reducible refine gate_dst (N := 7) rfl ?_);refine box_event ?hg (N := 7) ?hd (cs := #[.bool false,.int .u64 0,.int .u64 0]) (t := 28) ?hr ?_;(case hd => rfl);(case hg => rfl);(case hr => exact Z515);intro gb375 hg w50 hbox hb;have n_ := jA (blk_below (g := gb364) (o := .cells #[.bool a0_0,.int .u64 a0_1,.int .u64 a0_2,.int .i64 a0_3] 30 (0,0)) Z522 hb) (jA (blk_below (g := gb365) (o := .cells #[.bool a1_0,.int .u64 a1_1,.int .u64 a1_2,.int .i64 a1_3] 30 (0,0)) Z527 hb) (jA (blk_below (g := gb366) (o := .cells #[.bool false,.int .u64 0,.int .u64 0,.int .i64 0] 30 (0,0)) Z537 hb) (jA (blk_below (g := gb374) (o := .cells #[.bool false,.int .u64 0,.int .u64 0] 28 (0,0)) Z548 hb) (jA (below_step Z412 hb) (jA (hbox) (jA ((Z59 : w.heap.size ≤ gb375)) (jA ((Z59 : w.heap.size ≤ gb375)) (jA ((Z276 : gb364 ≠ gb375)) (jA ((Z277 : gb375 ≠ gb364)) (jA ((Z278 : gb365 ≠ gb375)) (jA ((Z279 : gb375 ≠ gb365)) (jA ((Z316 : gb366 ≠ gb375)) (jA ((Z317 : gb375 ≠ gb366)) (jA ((Z369 : gb374 ≠ gb375)) (Aside0.mk ((Z370 : gb375 ≠ gb374)))))))))))))))));clear BK364 BK365 BK366 BK374 HB;obtain ⟨BK364,BK365,BK366,BK374,HB,BK375,GW375,GE375,NB364_375,NB375_364,NB365_375,NB375_365,NB366_375,NB375_366,NB374_375,NB375_374⟩ := n_;clear hb hbox hg;have hnb51 := NB374_364.out;have hnc51 := NB364_374.out;have hnb52 := NB374_365.out;have hnc52 := NB365_374.out;have hnb53 := NB374_366.out;have hnc53 := NB366_374.out;have hnb54 := NB374_375.out;have hnc54 := NB375_374.out;obtain ⟨hcz55_0,hcz55_1,hcz55_2,hfz55_0,hfz55_1,hfz55_2⟩ := impl_AddFrac.cells3 BK374.out;have hnb56 := NB375_364.out;have hnc56 := NB364_375.out;have hnb57 := NB375_365.out;have hnc57 := NB365_375.out;have hnb58 := NB375_366.out;have hnc58 := NB366_375.out;obtain ⟨hcz59_0,hcz59_1,hcz59_2,hfz59_0,hfz59_1,hfz59_2⟩ := impl_AddFrac.cells3 BK375.out) | ((with_reducible refine gate_callee (f := 49) rfl ?_);refine goesL_ (some 23) rfl rfl Try.func49 Z580 rfl #[.agg #[.bool t367,.int .u64 t368,.int .u64 t369],.agg #[.bool t370,.int .u64 t371,.int .u64 t372]] rfl Z395 ?_;(with_reducible refine (impl_AddWide.calls k t367 t368 t369 t370 t371 t372 t376 t377 t378 false _ A5.out).mono ?_);rintro e w60 ⟨rfl,hb⟩;refine ⟨_,rfl,?_⟩;have n_ := jA (blk_below (g := gb364) (o := .cells #[.bool a0_0,.int .u64 a0_1,.int .u64 a0_2,.int .i64 a0_3] 30 (0,0)) Z51 hb) (jA (blk_below (g := gb365) (o := .cells #[.bool a1_0,.int .u64 a1_1,.int .u64 a1_2,.int .i64 a1_3] 30 (0,0)) Z50 hb) (jA (blk_below (g := gb366) (o := .cells #[.bool false,.int .u64 0,.int .u64 0,.int .i64 0] 30 (0,0)) Z49 hb) (jA (blk_below (g := gb374) (o := .cells #[.bool t367,.int .u64 t368,.int .u64 t369] 28 (0,0)) Z13 hb) (jA (blk_below (g := gb375) (o := .cells #[.bool t370,.int .u64 t371,.int .u64 t372] 28 (0,0)) Z10 hb) (Aside0.mk (below_step Z404 hb))))));clear BK364 BK365 BK366 BK374 BK375 HB;obtain ⟨BK364,BK365,BK366,BK374,BK375,HB⟩ := n_;(try clear hb);(try clear hb2);(try clear hk);(try clear hi)) | ((with_reducible refine gate_dst (N := 9) rfl ?_);refine box_event ?hg (N := 9) ?hd (cs := #[.bool false,.int .u64 0,.int .u64 0]) (t := 28) ?hr ?_;(case hd => rfl);(case hg => rfl);(case hr => exact Z515);intro gb380 hg w61 hbox hb;have n_ := jA (blk_below (g := gb364) (o := .cells #[.bool a0_0,.int .u64 a0_1,.int .u64 a0_2,.int .i64 a0_3] 30 (0,0)) Z522 hb) (jA (blk_below (g := gb365) (o := .cells #[.bool a1_0,.int .u64 a1_1,.int .u64 a1_2,.int .i64 a1_3] 30 (0,0)) Z527 hb) (jA (blk_below (g := gb366) (o := .cells #[.bool false,.int .u64 0,.int .u64 0,.int .i64 0] 30 (0,0)) Z537 hb) (jA (blk_below (g := gb374) (o := .cells #[.bool t367,.int .u64 t368,.int .u64 t369] 28 (0,0)) Z548 hb) (jA (blk_below (g := gb375) (o := .cells #[.bool t370,.int .u64 t371,.int .u64 t372] 28 (0,0)) Z571 hb) (jA (below_step Z404 hb) (jA (hbox) (jA ((Z38 : w.heap.size ≤ gb380)) (jA ((Z38 : w.heap.size ≤ gb380)) (jA ((Z276 : gb364 ≠ gb380)) (jA ((Z277 : gb380 ≠ gb364)) (jA ((Z278 : gb365 ≠ gb380)) (jA ((Z279 : gb380 ≠ gb365)) (jA ((Z316 : gb366 ≠ gb380)) (jA ((Z317 : gb380 ≠ gb366)) (jA ((Z346 : gb374 ≠ gb380)) (jA ((Z350 : gb380 ≠ gb374)) (jA ((Z345 : gb375 ≠ gb380)) (Aside0.mk ((Z349 : gb380 ≠ gb375))))))))))))))))))));clear BK364 BK365 BK366 BK374 BK375 HB;obtain ⟨BK364,BK365,BK366,BK374,BK375,HB,BK380,GW380,GE380,NB364_380,NB380_364,NB365_380,NB380_365,NB366_380,NB380_366,NB374_380,NB380_374,NB375_380,NB380_375⟩ := n_;clear hb hbox hg;have hnb62 := NB380_364.out;have hnc62 := NB364_380.out;have hnb63 := NB380_365.out;have hnc63 := NB365_380.out;have hnb64 := NB380_366.out;have hnc64 := NB366_380.out;have hnb65 := NB380_374.out;have hnc65 := NB374_380.out;have hnb66 := NB380_375.out;have hnc66 := NB375_380.out;obtain ⟨hcz67_0,hcz67_1,hcz67_2,hfz67_0,hfz67_1,hfz67_2⟩ := impl_AddFrac.cells3 BK380.out;obtain ⟨hcz68_0,hcz68_1,hcz68_2,hcz68_3,hfz68_0,hfz68_1,hfz68_2,hfz68_3⟩ := impl_AddFrac.cells4 BK366.out))
      refine bodyPost_ret (results_ct rfl _ _ gb366 30 #[.bool false,.int .u64 0,.int .u64 0,.int .i64 0] (0,0) _ rfl (by refine bP ?_;refine blk_put (cs := #[.bool false,.int .u64 0,.int .u64 0,.int .i64 0]) ?_ 3 _ rfl;refine bP ?_;refine blk_put (cs := #[.bool false,.int .u64 0,.int .u64 0,.int .i64 0]) ?_ 2 _ rfl;refine bP ?_;refine blk_put (cs := #[.bool false,.int .u64 0,.int .u64 0,.int .i64 0]) ?_ 1 _ rfl;refine bP ?_;refine blk_put (cs := #[.bool false,.int .u64 0,.int .u64 0,.int .i64 0]) ?_ 0 _ rfl;refine bP ?_;refine blk_far ?_ NB366_380.out _;refine bP ?_;refine blk_far ?_ NB366_380.out _;refine bP ?_;refine blk_far ?_ NB366_380.out _;refine bP ?_;exact BK366.out) Try.underlying30 rfl Z580) rfl ?_
      exact ⟨Z400,Z43⟩
  · replace c4 := Bool.eq_false_iff.mpr c4
    subst c4
    have H1 : (some (false,0,0,0,false)) = some (r1,r2,r3,r4,r5) := by rw [if_neg (show ¬ (false = true) by decide)] at H;exact H
    clear H
    have H := H1
    clear H1
    simp only [Option.some.injEq,Prod.mk.injEq] at H
    obtain ⟨rfl,rfl,rfl,rfl,rfl⟩ := H
    go_enter Try.func26,Try.ntmps26
    go_wp2_with (first | ((with_reducible refine gate_dst (N := 2) rfl ?_);refine box_event ?hg (N := 2) ?hd (cs := #[.bool a0_0,.int .u64 a0_1,.int .u64 a0_2,.int .i64 a0_3]) (t := 30) ?hr ?_;(case hd => rfl);(case hg => rfl);(case hr => exact Z515);intro gb364 hg w69 hbox hb;have n_ := jA (below_step Z486 hb) (jA (hbox) (jA ((Z271 : w.heap.size ≤ gb364)) (Aside0.mk ((Z271 : w.heap.size ≤ gb364)))));clear HB;obtain ⟨HB,BK364,GW364,GE364⟩ := n_;clear hb hbox hg) | ((with_reducible refine gate_dst (N := 3) rfl ?_);refine box_event ?hg (N := 3) ?hd (cs := #[.bool a1_0,.int .u64 a1_1,.int .u64 a1_2,.int .i64 a1_3]) (t := 30) ?hr ?_;(case hd => rfl);(case hg => rfl);(case hr => exact Z515);intro gb365 hg w70 hbox hb;have n_ := jA (blk_below (g := gb364) (o := .cells #[.bool a0_0,.int .u64 a0_1,.int .u64 a0_2,.int .i64 a0_3] 30 (0,0)) Z522 hb) (jA (below_step Z464 hb) (jA (hbox) (jA ((Z194 : w.heap.size ≤ gb365)) (jA ((Z194 : w.heap.size ≤ gb365)) (jA ((Z276 : gb364 ≠ gb365)) (Aside0.mk ((Z277 : gb365 ≠ gb364))))))));clear BK364 HB;obtain ⟨BK364,HB,BK365,GW365,GE365,NB364_365,NB365_364⟩ := n_;clear hb hbox hg) | ((with_reducible refine gate_dst (N := 4) rfl ?_);refine box_event ?hg (N := 4) ?hd (cs := #[.bool false,.int .u64 0,.int .u64 0,.int .i64 0]) (t := 30) ?hr ?_;(case hd => rfl);(case hg => rfl);(case hr => exact Z515);intro gb366 hg w71 hbox hb;have n_ := jA (blk_below (g := gb364) (o := .cells #[.bool a0_0,.int .u64 a0_1,.int .u64 a0_2,.int .i64 a0_3] 30 (0,0)) Z522 hb) (jA (blk_below (g := gb365) (o := .cells #[.bool a1_0,.int .u64 a1_1,.int .u64 a1_2,.int .i64 a1_3] 30 (0,0)) Z527 hb) (jA (below_step Z440 hb) (jA (hbox) (jA ((Z117 : w.heap.size ≤ gb366)) (jA ((Z117 : w.heap.size ≤ gb366)) (jA ((Z276 : gb364 ≠ gb366)) (jA ((Z277 : gb366 ≠ gb364)) (jA ((Z278 : gb365 ≠ gb366)) (Aside0.mk ((Z279 : gb366 ≠ gb365)))))))))));clear BK364 BK365 HB;obtain ⟨BK364,BK365,HB,BK366,GW366,GE366,NB364_366,NB366_364,NB365_366,NB366_365⟩ := n_;clear hb hbox hg;have hnb72 := NB364_365.out;have hnc72 := NB365_364.out;have hnb73 := NB364_366.out;have hnc73 := NB366_364.out;obtain ⟨hcz74_0,hcz74_1,hcz74_2,hcz74_3,hfz74_0,hfz74_1,hfz74_2,hfz74_3⟩ := impl_AddFrac.cells4 BK364.out;have hnb75 := NB365_366.out;have hnc75 := NB366_365.out;obtain ⟨hcz76_0,hcz76_1,hcz76_2,hcz76_3,hfz76_0,hfz76_1,hfz76_2,hfz76_3⟩ := impl_AddFrac.cells4 BK365.out) | ((with_reducible refine gate_callee (f := 48) rfl ?_);refine goesL_ (some 13) rfl rfl Try.func48 Z580 rfl #[.agg #[.bool a0_0,.int .u64 a0_1,.int .u64 a0_2,.int .i64 a0_3],.agg #[.bool a1_0,.int .u64 a1_1,.int .u64 a1_2,.int .i64 a1_3]] rfl Z395 ?_;(with_reducible refine (impl_crossed.calls k a0_0 a0_1 a0_2 a0_3 a1_0 a1_1 a1_2 a1_3 t367 t368 t369 t370 t371 t372 false _ A3.out).mono ?_);rintro e w77 ⟨rfl,hb⟩;refine ⟨_,rfl,?_⟩;have n_ := jA (blk_below (g := gb364) (o := .cells #[.bool a0_0,.int .u64 a0_1,.int .u64 a0_2,.int .i64 a0_3] 30 (0,0)) Z522 hb) (jA (blk_below (g := gb365) (o := .cells #[.bool a1_0,.int .u64 a1_1,.int .u64 a1_2,.int .i64 a1_3] 30 (0,0)) Z527 hb) (jA (blk_below (g := gb366) (o := .cells #[.bool false,.int .u64 0,.int .u64 0,.int .i64 0] 30 (0,0)) Z537 hb) (Aside0.mk (below_step Z420 hb))));clear BK364 BK365 BK366 HB;obtain ⟨BK364,BK365,BK366,HB⟩ := n_;(try clear hb);(try clear hb2);(try clear hk);(try clear hi)) | ((with_reducible refine gate_dst (N := 6) rfl ?_);refine box_event ?hg (N := 6) ?hd (cs := #[.bool false,.int .u64 0,.int .u64 0]) (t := 28) ?hr ?_;(case hd => rfl);(case hg => rfl);(case hr => exact Z515);intro gb374 hg w78 hbox hb;have n_ := jA (blk_below (g := gb364) (o := .cells #[.bool a0_0,.int .u64 a0_1,.int .u64 a0_2,.int .i64 a0_3] 30 (0,0)) Z522 hb) (jA (blk_below (g := gb365) (o := .cells #[.bool a1_0,.int .u64 a1_1,.int .u64 a1_2,.int .i64 a1_3] 30 (0,0)) Z527 hb) (jA (blk_below (g := gb366) (o := .cells #[.bool false,.int .u64 0,.int .u64 0,.int .i64 0] 30 (0,0)) Z537 hb) (jA (below_step Z420 hb) (jA (hbox) (jA ((Z89 : w.heap.size ≤ gb374)) (jA ((Z89 : w.heap.size ≤ gb374)) (jA ((Z276 : gb364 ≠ gb374)) (jA ((Z277 : gb374 ≠ gb364)) (jA ((Z278 : gb365 ≠ gb374)) (jA ((Z279 : gb374 ≠ gb365)) (jA ((Z316 : gb366 ≠ gb374)) (Aside0.mk ((Z317 : gb374 ≠ gb366))))))))))))));clear BK364 BK365 BK366 HB;obtain ⟨BK364,BK365,BK366,HB,BK374,GW374,GE374,NB364_374,NB374_364,NB365_374,NB374_365,NB366_374,NB374_366⟩ := n_;clear hb hbox hg) | ((with_reducible refine gate_dst (N := 7) rfl ?_);refine box_event ?hg (N := 7) ?hd (cs := #[.bool false,.int .u64 0,.int .u64 0]) (t := 28) ?hr ?_;(case hd => rfl);(case hg => rfl);(case hr => exact Z515);intro gb375 hg w79 hbox hb;have n_ := jA (blk_below (g := gb364) (o := .cells #[.bool a0_0,.int .u64 a0_1,.int .u64 a0_2,.int .i64 a0_3] 30 (0,0)) Z522 hb) (jA (blk_below (g := gb365) (o := .cells #[.bool a1_0,.int .u64 a1_1,.int .u64 a1_2,.int .i64 a1_3] 30 (0,0)) Z527 hb) (jA (blk_below (g := gb366) (o := .cells #[.bool false,.int .u64 0,.int .u64 0,.int .i64 0] 30 (0,0)) Z537 hb) (jA (blk_below (g := gb374) (o := .cells #[.bool false,.int .u64 0,.int .u64 0] 28 (0,0)) Z548 hb) (jA (below_step Z412 hb) (jA (hbox) (jA ((Z59 : w.heap.size ≤ gb375)) (jA ((Z59 : w.heap.size ≤ gb375)) (jA ((Z276 : gb364 ≠ gb375)) (jA ((Z277 : gb375 ≠ gb364)) (jA ((Z278 : gb365 ≠ gb375)) (jA ((Z279 : gb375 ≠ gb365)) (jA ((Z316 : gb366 ≠ gb375)) (jA ((Z317 : gb375 ≠ gb366)) (jA ((Z369 : gb374 ≠ gb375)) (Aside0.mk ((Z370 : gb375 ≠ gb374)))))))))))))))));clear BK364 BK365 BK366 BK374 HB;obtain ⟨BK364,BK365,BK366,BK374,HB,BK375,GW375,GE375,NB364_375,NB375_364,NB365_375,NB375_365,NB366_375,NB375_366,NB374_375,NB375_374⟩ := n_;clear hb hbox hg;have hnb80 := NB374_364.out;have hnc80 := NB364_374.out;have hnb81 := NB374_365.out;have hnc81 := NB365_374.out;have hnb82 := NB374_366.out;have hnc82 := NB366_374.out;have hnb83 := NB374_375.out;have hnc83 := NB375_374.out;obtain ⟨hcz84_0,hcz84_1,hcz84_2,hfz84_0,hfz84_1,hfz84_2⟩ := impl_AddFrac.cells3 BK374.out;have hnb85 := NB375_364.out;have hnc85 := NB364_375.out;have hnb86 := NB375_365.out;have hnc86 := NB365_375.out;have hnb87 := NB375_366.out;have hnc87 := NB366_375.out;obtain ⟨hcz88_0,hcz88_1,hcz88_2,hfz88_0,hfz88_1,hfz88_2⟩ := impl_AddFrac.cells3 BK375.out;obtain ⟨hcz89_0,hcz89_1,hcz89_2,hcz89_3,hfz89_0,hfz89_1,hfz89_2,hfz89_3⟩ := impl_AddFrac.cells4 BK366.out))
    refine bodyPost_ret (results_ct rfl _ _ gb366 30 #[.bool false,.int .u64 0,.int .u64 0,.int .i64 0] (0,0) _ rfl (by refine bP ?_;refine blk_put (cs := #[.bool false,.int .u64 0,.int .u64 0,.int .i64 0]) ?_ 3 _ rfl;refine bP ?_;refine blk_put (cs := #[.bool false,.int .u64 0,.int .u64 0,.int .i64 0]) ?_ 2 _ rfl;refine bP ?_;refine blk_put (cs := #[.bool false,.int .u64 0,.int .u64 0,.int .i64 0]) ?_ 1 _ rfl;refine bP ?_;refine blk_put (cs := #[.bool false,.int .u64 0,.int .u64 0,.int .i64 0]) ?_ 0 _ rfl;refine bP ?_;refine blk_far ?_ NB366_375.out _;refine bP ?_;refine blk_far ?_ NB366_375.out _;refine bP ?_;refine blk_far ?_ NB366_375.out _;refine bP ?_;refine blk_far ?_ NB366_374.out _;refine bP ?_;refine blk_far ?_ NB366_374.out _;refine bP ?_;refine blk_far ?_ NB366_374.out _;refine bP ?_;exact BK366.out) Try.underlying30 rfl Z580) rfl ?_
    exact ⟨Z400,Z404⟩

/-! ### impl_GainOf: function 11 -/
theorem impl_GainOf.cells4 {w : World} {g : Nat} {t : TypeId} {a0 a1 a2 a3 : Value} (h : w.heap[g]? = some (.cells #[a0,a1,a2,a3] t (0,0))) : w.cell? ⟨g,0,none⟩ = some a0 ∧ w.cell? ⟨g,1,none⟩ = some a1 ∧ w.cell? ⟨g,2,none⟩ = some a2 ∧ w.cell? ⟨g,3,none⟩ = some a3 ∧ w.frozen? ⟨g,0,none⟩ = false ∧ w.frozen? ⟨g,1,none⟩ = false ∧ w.frozen? ⟨g,2,none⟩ = false ∧ w.frozen? ⟨g,3,none⟩ = false := ⟨(blk_cell h 0).trans rfl,(blk_cell h 1).trans rfl,(blk_cell h 2).trans rfl,(blk_cell h 3).trans rfl,blk_frozen h 0,blk_frozen h 1,blk_frozen h 2,blk_frozen h 3⟩
theorem impl_GainOf.cells6 {w : World} {g : Nat} {t : TypeId} {a0 a1 a2 a3 a4 a5 : Value} (h : w.heap[g]? = some (.cells #[a0,a1,a2,a3,a4,a5] t (0,0))) : w.cell? ⟨g,0,none⟩ = some a0 ∧ w.cell? ⟨g,1,none⟩ = some a1 ∧ w.cell? ⟨g,2,none⟩ = some a2 ∧ w.cell? ⟨g,3,none⟩ = some a3 ∧ w.cell? ⟨g,4,none⟩ = some a4 ∧ w.cell? ⟨g,5,none⟩ = some a5 ∧ w.frozen? ⟨g,0,none⟩ = false ∧ w.frozen? ⟨g,1,none⟩ = false ∧ w.frozen? ⟨g,2,none⟩ = false ∧ w.frozen? ⟨g,3,none⟩ = false ∧ w.frozen? ⟨g,4,none⟩ = false ∧ w.frozen? ⟨g,5,none⟩ = false := ⟨(blk_cell h 0).trans rfl,(blk_cell h 1).trans rfl,(blk_cell h 2).trans rfl,(blk_cell h 3).trans rfl,(blk_cell h 4).trans rfl,(blk_cell h 5).trans rfl,blk_frozen h 0,blk_frozen h 1,blk_frozen h 2,blk_frozen h 3,blk_frozen h 4,blk_frozen h 5⟩
def impl_GainOf.f (k : Nat) (a0_0 : Int) (a0_1 : Int) (a0_2 : Int) (a0_3 : Int) (a0_4 : Int) (a0_5 : Int) (a1 : Int) : Option (Bool × Int × Int × Int × Bool) := (impl_PlainGain.f a0_2 a0_3 a1).bind fun bt388 => ((impl_PlainGain.f a0_4 a0_5 a1).bind fun bt394 => (if bt388.2.2.2.2 = true then (if bt394.2.2.2.2 = true then ((impl_AddFrac.f k bt388.1 bt388.2.1 bt388.2.2.1 bt388.2.2.2.1 bt394.1 bt394.2.1 bt394.2.2.1 bt394.2.2.2.1).bind fun bt400 => (some (bt400.1,bt400.2.1,bt400.2.2.1,bt400.2.2.2.1,bt400.2.2.2.2))) else (some (false,0,0,0,false))) else (some (false,0,0,0,false))))
theorem impl_GainOf.mono : ∀ a0 a1 a2 a3 a4 a5 a6 k,LeO (impl_GainOf.f k a0 a1 a2 a3 a4 a5 a6) (impl_GainOf.f (k + 1) a0 a1 a2 a3 a4 a5 a6) := by
  intro a0 a1 a2 a3 a4 a5 a6 k
  unfold impl_GainOf.f
  repeat' first
      | (with_reducible exact impl_AddFrac.mono _ _ _ _ _ _ _ _ _)
      | (with_reducible exact LeO.refl _)
      | (with_reducible exact LeO.none _)
      | (with_reducible refine LeO.ite ?_ ?_)
      | (with_reducible refine LeO.bind ?_ (fun _ => ?_))
      | exact impl_AddFrac.mono _ _ _ _ _ _ _ _ _
      | exact LeO.none _
      | refine LeO.ite ?_ ?_
      | refine LeO.bind ?_ (fun _ => ?_)
set_option maxHeartbeats 8000000 in
set_option maxRecDepth 100000 in
theorem impl_GainOf.calls (k : Nat) (a0_0 : Int) (a0_1 : Int) (a0_2 : Int) (a0_3 : Int) (a0_4 : Int) (a0_5 : Int) (a1 : Int) (r1 : Bool) (r2 : Int) (r3 : Int) (r4 : Int) (r5 : Bool) (w : World) (h : impl_GainOf.f k a0_0 a0_1 a0_2 a0_3 a0_4 a0_5 a1 = some (r1,r2,r3,r4,r5)) :
    Calls Try.prog 11 #[.agg #[.int .i64 a0_0,.int .i64 a0_1,.int .i64 a0_2,.int .i64 a0_3,.int .i64 a0_4,.int .i64 a0_5],.int .i64 a1] w fun e w' => e = .returned (.tuple #[.agg #[.bool r1,.int .u64 r2,.int .u64 r3,.int .i64 r4],.bool r5]) ∧ Below w.heap.size w w' := by
  have hu35 := Try.underlying35
  have hu30 := Try.underlying30
  have hu33 := Try.underlying33
  have HB := Aside0.mk (Below.refl w.heap.size w)
  have H : ((impl_PlainGain.f a0_2 a0_3 a1).bind fun bt388 => ((impl_PlainGain.f a0_4 a0_5 a1).bind fun bt394 => (if bt388.2.2.2.2 = true then (if bt394.2.2.2.2 = true then ((impl_AddFrac.f k bt388.1 bt388.2.1 bt388.2.2.1 bt388.2.2.2.1 bt394.1 bt394.2.1 bt394.2.2.1 bt394.2.2.2.1).bind fun bt400 => (some (bt400.1,bt400.2.1,bt400.2.2.1,bt400.2.2.2.1,bt400.2.2.2.2))) else (some (false,0,0,0,false))) else (some (false,0,0,0,false))))) = some (r1,r2,r3,r4,r5) := h
  clear h
  obtain ⟨⟨t388,t389,t390,t391,t392⟩,A30,H⟩ := Option.bind_eq_some_iff.mp H
  try dsimp only at H
  have A3 := Aside0.mk A30
  clear A30
  obtain ⟨⟨t394,t395,t396,t397,t398⟩,A40,H⟩ := Option.bind_eq_some_iff.mp H
  try dsimp only at H
  have A4 := Aside0.mk A40
  clear A40
  by_cases c5 : t392 = true
  · subst c5
    have H1 : (if t398 = true then ((impl_AddFrac.f k t388 t389 t390 t391 t394 t395 t396 t397).bind fun bt400 => (some (bt400.1,bt400.2.1,bt400.2.2.1,bt400.2.2.2.1,bt400.2.2.2.2))) else (some (false,0,0,0,false))) = some (r1,r2,r3,r4,r5) := by rw [if_pos rfl] at H;exact H
    clear H
    have H := H1
    clear H1
    by_cases c6 : t398 = true
    · subst c6
      have H1 : ((impl_AddFrac.f k t388 t389 t390 t391 t394 t395 t396 t397).bind fun bt400 => (some (bt400.1,bt400.2.1,bt400.2.2.1,bt400.2.2.2.1,bt400.2.2.2.2))) = some (r1,r2,r3,r4,r5) := by rw [if_pos rfl] at H;exact H
      clear H
      have H := H1
      clear H1
      obtain ⟨⟨t400,t401,t402,t403,t404⟩,A70,H⟩ := Option.bind_eq_some_iff.mp H
      try dsimp only at H
      have A7 := Aside0.mk A70
      clear A70
      simp only [Option.some.injEq,Prod.mk.injEq] at H
      obtain ⟨rfl,rfl,rfl,rfl,rfl⟩ := H
      go_enter Try.func11,Try.ntmps11
      go_wp2_with (first | ((with_reducible refine gate_dst (N := 2) rfl ?_);refine box_event ?hg (N := 2) ?hd (cs := #[.int .i64 a0_0,.int .i64 a0_1,.int .i64 a0_2,.int .i64 a0_3,.int .i64 a0_4,.int .i64 a0_5]) (t := 35) ?hr ?_;(case hd => rfl);(case hg => rfl);(case hr => exact Z515);intro gb386 hg w8 hbox hb;have n_ := jA (below_step Z486 hb) (jA (hbox) (jA ((Z271 : w.heap.size ≤ gb386)) (Aside0.mk ((Z271 : w.heap.size ≤ gb386)))));clear HB;obtain ⟨HB,BK386,GW386,GE386⟩ := n_;clear hb hbox hg) | ((with_reducible refine gate_dst (N := 4) rfl ?_);refine box_event ?hg (N := 4) ?hd (cs := #[.bool false,.int .u64 0,.int .u64 0,.int .i64 0]) (t := 30) ?hr ?_;(case hd => rfl);(case hg => rfl);(case hr => exact Z515);intro gb387 hg w9 hbox hb;have n_ := jA (blk_below (g := gb386) (o := .cells #[.int .i64 a0_0,.int .i64 a0_1,.int .i64 a0_2,.int .i64 a0_3,.int .i64 a0_4,.int .i64 a0_5] 35 (0,0)) Z533 hb) (jA (below_step Z463 hb) (jA (hbox) (jA ((Z193 : w.heap.size ≤ gb387)) (jA ((Z193 : w.heap.size ≤ gb387)) (jA ((Z178 : gb386 ≠ gb387)) (Aside0.mk ((Z180 : gb387 ≠ gb386))))))));clear BK386 HB;obtain ⟨BK386,HB,BK387,GW387,GE387,NB386_387,NB387_386⟩ := n_;clear hb hbox hg;have hnb10 := NB386_387.out;have hnc10 := NB387_386.out;obtain ⟨hcz11_0,hcz11_1,hcz11_2,hcz11_3,hcz11_4,hcz11_5,hfz11_0,hfz11_1,hfz11_2,hfz11_3,hfz11_4,hfz11_5⟩ := impl_GainOf.cells6 BK386.out) | ((with_reducible refine gate_callee (f := 21) rfl ?_);refine goesL_ (some 14) rfl rfl Try.func21 Z580 rfl #[.agg #[.int .i64 a0_2,.int .i64 a0_3],.int .i64 a1] rfl Z395 ?_;(with_reducible refine (impl_PlainGain.calls a0_2 a0_3 a1 t388 t389 t390 t391 true _ A3.out).mono ?_);rintro e w12 ⟨rfl,hb⟩;refine ⟨_,rfl,?_⟩;have n_ := jA (blk_below (g := gb386) (o := .cells #[.int .i64 a0_0,.int .i64 a0_1,.int .i64 a0_2,.int .i64 a0_3,.int .i64 a0_4,.int .i64 a0_5] 35 (0,0)) Z533 hb) (jA (blk_below (g := gb387) (o := .cells #[.bool false,.int .u64 0,.int .u64 0,.int .i64 0] 30 (0,0)) Z543 hb) (Aside0.mk (below_step Z433 hb)));clear BK386 BK387 HB;obtain ⟨BK386,BK387,HB⟩ := n_;(try clear hb);(try clear hb2);(try clear hk);(try clear hi)) | ((with_reducible refine gate_dst (N := 6) rfl ?_);refine box_event ?hg (N := 6) ?hd (cs := #[.bool false,.int .u64 0,.int .u64 0,.int .i64 0]) (t := 30) ?hr ?_;(case hd => rfl);(case hg => rfl);(case hr => exact Z515);intro gb393 hg w13 hbox hb;have n_ := jA (blk_below (g := gb386) (o := .cells #[.int .i64 a0_0,.int .i64 a0_1,.int .i64 a0_2,.int .i64 a0_3,.int .i64 a0_4,.int .i64 a0_5] 35 (0,0)) Z533 hb) (jA (blk_below (g := gb387) (o := .cells #[.bool false,.int .u64 0,.int .u64 0,.int .i64 0] 30 (0,0)) Z543 hb) (jA (below_step Z433 hb) (jA (hbox) (jA ((Z116 : w.heap.size ≤ gb393)) (jA ((Z116 : w.heap.size ≤ gb393)) (jA ((Z178 : gb386 ≠ gb393)) (jA ((Z180 : gb393 ≠ gb386)) (jA ((Z318 : gb387 ≠ gb393)) (Aside0.mk ((Z320 : gb393 ≠ gb387)))))))))));clear BK386 BK387 HB;obtain ⟨BK386,BK387,HB,BK393,GW393,GE393,NB386_393,NB393_386,NB387_393,NB393_387⟩ := n_;clear hb hbox hg;have hnb14 := NB393_386.out;have hnc14 := NB386_393.out;have hnb15 := NB393_387.out;have hnc15 := NB387_393.out;obtain ⟨hcz16_0,hcz16_1,hcz16_2,hcz16_3,hfz16_0,hfz16_1,hfz16_2,hfz16_3⟩ := impl_GainOf.cells4 BK393.out;obtain ⟨hcz17_0,hcz17_1,hcz17_2,hcz17_3,hcz17_4,hcz17_5,hfz17_0,hfz17_1,hfz17_2,hfz17_3,hfz17_4,hfz17_5⟩ := impl_GainOf.cells6 BK386.out) | ((with_reducible refine gate_callee (f := 21) rfl ?_);refine goesL_ (some 21) rfl rfl Try.func21 Z580 rfl #[.agg #[.int .i64 a0_4,.int .i64 a0_5],.int .i64 a1] rfl Z395 ?_;(with_reducible refine (impl_PlainGain.calls a0_4 a0_5 a1 t394 t395 t396 t397 true _ A4.out).mono ?_);rintro e w18 ⟨rfl,hb⟩;refine ⟨_,rfl,?_⟩;have n_ := jA (blk_below (g := gb386) (o := .cells #[.int .i64 a0_0,.int .i64 a0_1,.int .i64 a0_2,.int .i64 a0_3,.int .i64 a0_4,.int .i64 a0_5] 35 (0,0)) Z140 hb) (jA (blk_below (g := gb387) (o := .cells #[.bool false,.int .u64 0,.int .u64 0,.int .i64 0] 30 (0,0)) Z139 hb) (jA (blk_below (g := gb393) (o := .cells #[.bool t388,.int .u64 t389,.int .u64 t390,.int .i64 t391] 30 (0,0)) Z20 hb) (Aside0.mk (below_step Z419 hb))));clear BK386 BK387 BK393 HB;obtain ⟨BK386,BK387,BK393,HB⟩ := n_;(try clear hb);(try clear hb2);(try clear hk);(try clear hi)) | ((with_reducible refine gate_dst (N := 8) rfl ?_);refine box_event ?hg (N := 8) ?hd (cs := #[.bool false,.int .u64 0,.int .u64 0,.int .i64 0]) (t := 30) ?hr ?_;(case hd => rfl);(case hg => rfl);(case hr => exact Z515);intro gb399 hg w19 hbox hb;have n_ := jA (blk_below (g := gb386) (o := .cells #[.int .i64 a0_0,.int .i64 a0_1,.int .i64 a0_2,.int .i64 a0_3,.int .i64 a0_4,.int .i64 a0_5] 35 (0,0)) Z533 hb) (jA (blk_below (g := gb387) (o := .cells #[.bool false,.int .u64 0,.int .u64 0,.int .i64 0] 30 (0,0)) Z543 hb) (jA (blk_below (g := gb393) (o := .cells #[.bool t388,.int .u64 t389,.int .u64 t390,.int .i64 t391] 30 (0,0)) Z565 hb) (jA (below_step Z419 hb) (jA (hbox) (jA ((Z88 : w.heap.size ≤ gb399)) (jA ((Z88 : w.heap.size ≤ gb399)) (jA ((Z178 : gb386 ≠ gb399)) (jA ((Z180 : gb399 ≠ gb386)) (jA ((Z318 : gb387 ≠ gb399)) (jA ((Z320 : gb399 ≠ gb387)) (jA ((Z305 : gb393 ≠ gb399)) (Aside0.mk ((Z307 : gb399 ≠ gb393))))))))))))));clear BK386 BK387 BK393 HB;obtain ⟨BK386,BK387,BK393,HB,BK399,GW399,GE399,NB386_399,NB399_386,NB387_399,NB399_387,NB393_399,NB399_393⟩ := n_;clear hb hbox hg;have hnb20 := NB399_386.out;have hnc20 := NB386_399.out;have hnb21 := NB399_387.out;have hnc21 := NB387_399.out;have hnb22 := NB399_393.out;have hnc22 := NB393_399.out;obtain ⟨hcz23_0,hcz23_1,hcz23_2,hcz23_3,hfz23_0,hfz23_1,hfz23_2,hfz23_3⟩ := impl_GainOf.cells4 BK399.out;obtain ⟨hcz24_0,hcz24_1,hcz24_2,hcz24_3,hfz24_0,hfz24_1,hfz24_2,hfz24_3⟩ := impl_GainOf.cells4 BK393.out) | ((with_reducible refine gate_callee (f := 26) rfl ?_);refine goesL_ (some 33) rfl rfl Try.func26 Z580 rfl #[.agg #[.bool t388,.int .u64 t389,.int .u64 t390,.int .i64 t391],.agg #[.bool t394,.int .u64 t395,.int .u64 t396,.int .i64 t397]] rfl Z395 ?_;(with_reducible refine (impl_AddFrac.calls k t388 t389 t390 t391 t394 t395 t396 t397 t400 t401 t402 t403 t404 _ A7.out).mono ?_);rintro e w25 ⟨rfl,hb⟩;refine ⟨_,rfl,?_⟩;have n_ := jA (blk_below (g := gb386) (o := .cells #[.int .i64 a0_0,.int .i64 a0_1,.int .i64 a0_2,.int .i64 a0_3,.int .i64 a0_4,.int .i64 a0_5] 35 (0,0)) (by refine bP ?_;refine blk_far ?_ NB386_399.out _;refine bP ?_;refine blk_far ?_ NB386_399.out _;refine bP ?_;refine blk_far ?_ NB386_399.out _;refine bP ?_;refine blk_far ?_ NB386_399.out _;refine bP ?_;exact BK386.out) hb) (jA (blk_below (g := gb387) (o := .cells #[.bool false,.int .u64 0,.int .u64 0,.int .i64 0] 30 (0,0)) (by refine bP ?_;refine blk_far ?_ NB387_399.out _;refine bP ?_;refine blk_far ?_ NB387_399.out _;refine bP ?_;refine blk_far ?_ NB387_399.out _;refine bP ?_;refine blk_far ?_ NB387_399.out _;refine bP ?_;exact BK387.out) hb) (jA (blk_below (g := gb393) (o := .cells #[.bool t388,.int .u64 t389,.int .u64 t390,.int .i64 t391] 30 (0,0)) (by refine bP ?_;refine blk_far ?_ NB393_399.out _;refine bP ?_;refine blk_far ?_ NB393_399.out _;refine bP ?_;refine blk_far ?_ NB393_399.out _;refine bP ?_;refine blk_far ?_ NB393_399.out _;refine bP ?_;exact BK393.out) hb) (jA (blk_below (g := gb399) (o := .cells #[.bool t394,.int .u64 t395,.int .u64 t396,.int .i64 t397] 30 (0,0)) (by refine bP ?_;refine blk_put (cs := #[.bool t394,.int .u64 t395,.int .u64 t396,.int .i64 0]) ?_ 3 _ rfl;refine bP ?_;refine blk_put (cs := #[.bool t394,.int .u64 t395,.int .u64 0,.int .i64 0]) ?_ 2 _ rfl;refine bP ?_;refine blk_put (cs := #[.bool t394,.int .u64 0,.int .u64 0,.int .i64 0]) ?_ 1 _ rfl;refine bP ?_;refine blk_put (cs := #[.bool false,.int .u64 0,.int .u64 0,.int .i64 0]) ?_ 0 _ rfl;refine bP ?_;exact BK399.out) hb) (Aside0.mk (below_step Z92 hb)))));clear BK386 BK387 BK393 BK399 HB;obtain ⟨BK386,BK387,BK393,BK399,HB⟩ := n_;(try clear hb);(try clear hb2);(try clear hk);(try clear hi);obtain ⟨hcz26_0,hcz26_1,hcz26_2,hcz26_3,hfz26_0,hfz26_1,hfz26_2,hfz26_3⟩ := impl_GainOf.cells4 BK387.out))
      refine bodyPost_ret (results_ct rfl _ _ gb387 30 #[.bool t400,.int .u64 t401,.int .u64 t402,.int .i64 t403] (0,0) _ rfl (by refine bP ?_;refine blk_put (cs := #[.bool t400,.int .u64 t401,.int .u64 t402,.int .i64 0]) ?_ 3 _ rfl;refine bP ?_;refine blk_put (cs := #[.bool t400,.int .u64 t401,.int .u64 0,.int .i64 0]) ?_ 2 _ rfl;refine bP ?_;refine blk_put (cs := #[.bool t400,.int .u64 0,.int .u64 0,.int .i64 0]) ?_ 1 _ rfl;refine bP ?_;refine blk_put (cs := #[.bool false,.int .u64 0,.int .u64 0,.int .i64 0]) ?_ 0 _ rfl;refine bP ?_;exact BK387.out) Try.underlying30 rfl Z580) rfl ?_
      exact ⟨Z400,Z92⟩
    · replace c6 := Bool.eq_false_iff.mpr c6
      subst c6
      have H1 : (some (false,0,0,0,false)) = some (r1,r2,r3,r4,r5) := by rw [if_neg (show ¬ (false = true) by decide)] at H;exact H
      clear H
      have H := H1
      clear H1
      simp only [Option.some.injEq,Prod.mk.injEq] at H
      obtain ⟨rfl,rfl,rfl,rfl,rfl⟩ := H
      go_enter Try.func11,Try.ntmps11
      go_wp2_with (first | ((with_reducible refine gate_dst (N := 2) rfl ?_);refine box_event ?hg (N := 2) ?hd (cs := #[.int .i64 a0_0,.int .i64 a0_1,.int .i64 a0_2,.int .i64 a0_3,.int .i64 a0_4,.int .i64 a0_5]) (t := 35) ?hr ?_;(case hd => rfl);(case hg => rfl);(case hr => exact Z515);intro gb386 hg w27 hbox hb;have n_ := jA (below_step Z486 hb) (jA (hbox) (jA ((Z271 : w.heap.size ≤ gb386)) (Aside0.mk ((Z271 : w.heap.size ≤ gb386)))));clear HB;obtain ⟨HB,BK386,GW386,GE386⟩ := n_;clear hb hbox hg) | ((with_reducible refine gate_dst (N := 4) rfl ?_);refine box_event ?hg (N := 4) ?hd (cs := #[.bool false,.int .u64 0,.int .u64 0,.int .i64 0]) (t := 30) ?hr ?_;(case hd => rfl);(case hg => rfl);(case hr => exact Z515);intro gb387 hg w28 hbox hb;have n_ := jA (blk_below (g := gb386) (o := .cells #[.int .i64 a0_0,.int .i64 a0_1,.int .i64 a0_2,.int .i64 a0_3,.int .i64 a0_4,.int .i64 a0_5] 35 (0,0)) Z533 hb) (jA (below_step Z463 hb) (jA (hbox) (jA ((Z193 : w.heap.size ≤ gb387)) (jA ((Z193 : w.heap.size ≤ gb387)) (jA ((Z178 : gb386 ≠ gb387)) (Aside0.mk ((Z180 : gb387 ≠ gb386))))))));clear BK386 HB;obtain ⟨BK386,HB,BK387,GW387,GE387,NB386_387,NB387_386⟩ := n_;clear hb hbox hg;have hnb29 := NB386_387.out;have hnc29 := NB387_386.out;obtain ⟨hcz30_0,hcz30_1,hcz30_2,hcz30_3,hcz30_4,hcz30_5,hfz30_0,hfz30_1,hfz30_2,hfz30_3,hfz30_4,hfz30_5⟩ := impl_GainOf.cells6 BK386.out) | ((with_reducible refine gate_callee (f := 21) rfl ?_);refine goesL_ (some 14) rfl rfl Try.func21 Z580 rfl #[.agg #[.int .i64 a0_2,.int .i64 a0_3],.int .i64 a1] rfl Z395 ?_;(with_reducible refine (impl_PlainGain.calls a0_2 a0_3 a1 t388 t389 t390 t391 true _ A3.out).mono ?_);rintro e w31 ⟨rfl,hb⟩;refine ⟨_,rfl,?_⟩;have n_ := jA (blk_below (g := gb386) (o := .cells #[.int .i64 a0_0,.int .i64 a0_1,.int .i64 a0_2,.int .i64 a0_3,.int .i64 a0_4,.int .i64 a0_5] 35 (0,0)) Z533 hb) (jA (blk_below (g := gb387) (o := .cells #[.bool false,.int .u64 0,.int .u64 0,.int .i64 0] 30 (0,0)) Z543 hb) (Aside0.mk (below_step Z433 hb)));clear BK386 BK387 HB;obtain ⟨BK386,BK387,HB⟩ := n_;(try clear hb);(try clear hb2);(try clear hk);(try clear hi)) | ((with_reducible refine gate_dst (N := 6) rfl ?_);refine box_event ?hg (N := 6) ?hd (cs := #[.bool false,.int .u64 0,.int .u64 0,.int .i64 0]) (t := 30) ?hr ?_;(case hd => rfl);(case hg => rfl);(case hr => exact Z515);intro gb393 hg w32 hbox hb;have n_ := jA (blk_below (g := gb386) (o := .cells #[.int .i64 a0_0,.int .i64 a0_1,.int .i64 a0_2,.int .i64 a0_3,.int .i64 a0_4,.int .i64 a0_5] 35 (0,0)) Z533 hb) (jA (blk_below (g := gb387) (o := .cells #[.bool false,.int .u64 0,.int .u64 0,.int .i64 0] 30 (0,0)) Z543 hb) (jA (below_step Z433 hb) (jA (hbox) (jA ((Z116 : w.heap.size ≤ gb393)) (jA ((Z116 : w.heap.size ≤ gb393)) (jA ((Z178 : gb386 ≠ gb393)) (jA ((Z180 : gb393 ≠ gb386)) (jA ((Z318 : gb387 ≠ gb393)) (Aside0.mk ((Z320 : gb393 ≠ gb387)))))))))));clear BK386 BK387 HB;obtain ⟨BK386,BK387,HB,BK393,GW393,GE393,NB386_393,NB393_386,NB387_393,NB393_387⟩ := n_;clear hb hbox hg;have hnb33 := NB393_386.out;have hnc33 := NB386_393.out;have hnb34 := NB393_387.out;have hnc34 := NB387_393.out;obtain ⟨hcz35_0,hcz35_1,hcz35_2,hcz35_3,hfz35_0,hfz35_1,hfz35_2,hfz35_3⟩ := impl_GainOf.cells4 BK393.out;obtain ⟨hcz36_0,hcz36_1,hcz36_2,hcz36_3,hcz36_4,hcz36_5,hfz36_0,hfz36_1,hfz36_2,hfz36_3,hfz36_4,hfz36_5⟩ := impl_GainOf.cells6 BK386.out) | ((with_reducible refine gate_callee (f := 21) rfl ?_);refine goesL_ (some 21) rfl rfl Try.func21 Z580 rfl #[.agg #[.int .i64 a0_4,.int .i64 a0_5],.int .i64 a1] rfl Z395 ?_;(with_reducible refine (impl_PlainGain.calls a0_4 a0_5 a1 t394 t395 t396 t397 false _ A4.out).mono ?_);rintro e w37 ⟨rfl,hb⟩;refine ⟨_,rfl,?_⟩;have n_ := jA (blk_below (g := gb386) (o := .cells #[.int .i64 a0_0,.int .i64 a0_1,.int .i64 a0_2,.int .i64 a0_3,.int .i64 a0_4,.int .i64 a0_5] 35 (0,0)) Z140 hb) (jA (blk_below (g := gb387) (o := .cells #[.bool false,.int .u64 0,.int .u64 0,.int .i64 0] 30 (0,0)) Z139 hb) (jA (blk_below (g := gb393) (o := .cells #[.bool t388,.int .u64 t389,.int .u64 t390,.int .i64 t391] 30 (0,0)) Z20 hb) (Aside0.mk (below_step Z419 hb))));clear BK386 BK387 BK393 HB;obtain ⟨BK386,BK387,BK393,HB⟩ := n_;(try clear hb);(try clear hb2);(try clear hk);(try clear hi)) | ((with_reducible refine gate_dst (N := 8) rfl ?_);refine box_event ?hg (N := 8) ?hd (cs := #[.bool false,.int .u64 0,.int .u64 0,.int .i64 0]) (t := 30) ?hr ?_;(case hd => rfl);(case hg => rfl);(case hr => exact Z515);intro gb399 hg w38 hbox hb;have n_ := jA (blk_below (g := gb386) (o := .cells #[.int .i64 a0_0,.int .i64 a0_1,.int .i64 a0_2,.int .i64 a0_3,.int .i64 a0_4,.int .i64 a0_5] 35 (0,0)) Z533 hb) (jA (blk_below (g := gb387) (o := .cells #[.bool false,.int .u64 0,.int .u64 0,.int .i64 0] 30 (0,0)) Z543 hb) (jA (blk_below (g := gb393) (o := .cells #[.bool t388,.int .u64 t389,.int .u64 t390,.int .i64 t391] 30 (0,0)) Z565 hb) (jA (below_step Z419 hb) (jA (hbox) (jA ((Z88 : w.heap.size ≤ gb399)) (jA ((Z88 : w.heap.size ≤ gb399)) (jA ((Z178 : gb386 ≠ gb399)) (jA ((Z180 : gb399 ≠ gb386)) (jA ((Z318 : gb387 ≠ gb399)) (jA ((Z320 : gb399 ≠ gb387)) (jA ((Z305 : gb393 ≠ gb399)) (Aside0.mk ((Z307 : gb399 ≠ gb393))))))))))))));clear BK386 BK387 BK393 HB;obtain ⟨BK386,BK387,BK393,HB,BK399,GW399,GE399,NB386_399,NB399_386,NB387_399,NB399_387,NB393_399,NB399_393⟩ := n_;clear hb hbox hg;have hnb39 := NB399_386.out;have hnc39 := NB386_399.out;have hnb40 := NB399_387.out;have hnc40 := NB387_399.out;have hnb41 := NB399_393.out;have hnc41 := NB393_399.out;obtain ⟨hcz42_0,hcz42_1,hcz42_2,hcz42_3,hfz42_0,hfz42_1,hfz42_2,hfz42_3⟩ := impl_GainOf.cells4 BK399.out;obtain ⟨hcz43_0,hcz43_1,hcz43_2,hcz43_3,hfz43_0,hfz43_1,hfz43_2,hfz43_3⟩ := impl_GainOf.cells4 BK387.out))
      refine bodyPost_ret (results_ct rfl _ _ gb387 30 #[.bool false,.int .u64 0,.int .u64 0,.int .i64 0] (0,0) _ rfl Z3 Try.underlying30 rfl Z580) rfl ?_
      exact ⟨Z400,Z92⟩
  · replace c5 := Bool.eq_false_iff.mpr c5
    subst c5
    have H1 : (some (false,0,0,0,false)) = some (r1,r2,r3,r4,r5) := by rw [if_neg (show ¬ (false = true) by decide)] at H;exact H
    clear H
    have H := H1
    clear H1
    simp only [Option.some.injEq,Prod.mk.injEq] at H
    obtain ⟨rfl,rfl,rfl,rfl,rfl⟩ := H
    go_enter Try.func11,Try.ntmps11
    go_wp2_with (first | ((with_reducible refine gate_dst (N := 2) rfl ?_);refine box_event ?hg (N := 2) ?hd (cs := #[.int .i64 a0_0,.int .i64 a0_1,.int .i64 a0_2,.int .i64 a0_3,.int .i64 a0_4,.int .i64 a0_5]) (t := 35) ?hr ?_;(case hd => rfl);(case hg => rfl);(case hr => exact Z515);intro gb386 hg w44 hbox hb;have n_ := jA (below_step Z486 hb) (jA (hbox) (jA ((Z271 : w.heap.size ≤ gb386)) (Aside0.mk ((Z271 : w.heap.size ≤ gb386)))));clear HB;obtain ⟨HB,BK386,GW386,GE386⟩ := n_;clear hb hbox hg) | ((with_reducible refine gate_dst (N := 4) rfl ?_);refine box_event ?hg (N := 4) ?hd (cs := #[.bool false,.int .u64 0,.int .u64 0,.int .i64 0]) (t := 30) ?hr ?_;(case hd => rfl);(case hg => rfl);(case hr => exact Z515);intro gb387 hg w45 hbox hb;have n_ := jA (blk_below (g := gb386) (o := .cells #[.int .i64 a0_0,.int .i64 a0_1,.int .i64 a0_2,.int .i64 a0_3,.int .i64 a0_4,.int .i64 a0_5] 35 (0,0)) Z533 hb) (jA (below_step Z463 hb) (jA (hbox) (jA ((Z193 : w.heap.size ≤ gb387)) (jA ((Z193 : w.heap.size ≤ gb387)) (jA ((Z178 : gb386 ≠ gb387)) (Aside0.mk ((Z180 : gb387 ≠ gb386))))))));clear BK386 HB;obtain ⟨BK386,HB,BK387,GW387,GE387,NB386_387,NB387_386⟩ := n_;clear hb hbox hg;have hnb46 := NB386_387.out;have hnc46 := NB387_386.out;obtain ⟨hcz47_0,hcz47_1,hcz47_2,hcz47_3,hcz47_4,hcz47_5,hfz47_0,hfz47_1,hfz47_2,hfz47_3,hfz47_4,hfz47_5⟩ := impl_GainOf.cells6 BK386.out) | ((with_reducible refine gate_callee (f := 21) rfl ?_);refine goesL_ (some 14) rfl rfl Try.func21 Z580 rfl #[.agg #[.int .i64 a0_2,.int .i64 a0_3],.int .i64 a1] rfl Z395 ?_;(with_reducible refine (impl_PlainGain.calls a0_2 a0_3 a1 t388 t389 t390 t391 false _ A3.out).mono ?_);rintro e w48 ⟨rfl,hb⟩;refine ⟨_,rfl,?_⟩;have n_ := jA (blk_below (g := gb386) (o := .cells #[.int .i64 a0_0,.int .i64 a0_1,.int .i64 a0_2,.int .i64 a0_3,.int .i64 a0_4,.int .i64 a0_5] 35 (0,0)) Z533 hb) (jA (blk_below (g := gb387) (o := .cells #[.bool false,.int .u64 0,.int .u64 0,.int .i64 0] 30 (0,0)) Z543 hb) (Aside0.mk (below_step Z433 hb)));clear BK386 BK387 HB;obtain ⟨BK386,BK387,HB⟩ := n_;(try clear hb);(try clear hb2);(try clear hk);(try clear hi)) | ((with_reducible refine gate_dst (N := 6) rfl ?_);refine box_event ?hg (N := 6) ?hd (cs := #[.bool false,.int .u64 0,.int .u64 0,.int .i64 0]) (t := 30) ?hr ?_;(case hd => rfl);(case hg => rfl);(case hr => exact Z515);intro gb393 hg w49 hbox hb;have n_ := jA (blk_below (g := gb386) (o := .cells #[.int .i64 a0_0,.int .i64 a0_1,.int .i64 a0_2,.int .i64 a0_3,.int .i64 a0_4,.int .i64 a0_5] 35 (0,0)) Z533 hb) (jA (blk_below (g := gb387) (o := .cells #[.bool false,.int .u64 0,.int .u64 0,.int .i64 0] 30 (0,0)) Z543 hb) (jA (below_step Z433 hb) (jA (hbox) (jA ((Z116 : w.heap.size ≤ gb393)) (jA ((Z116 : w.heap.size ≤ gb393)) (jA ((Z178 : gb386 ≠ gb393)) (jA ((Z180 : gb393 ≠ gb386)) (jA ((Z318 : gb387 ≠ gb393)) (Aside0.mk ((Z320 : gb393 ≠ gb387)))))))))));clear BK386 BK387 HB;obtain ⟨BK386,BK387,HB,BK393,GW393,GE393,NB386_393,NB393_386,NB387_393,NB393_387⟩ := n_;clear hb hbox hg;have hnb50 := NB393_386.out;have hnc50 := NB386_393.out;have hnb51 := NB393_387.out;have hnc51 := NB387_393.out;obtain ⟨hcz52_0,hcz52_1,hcz52_2,hcz52_3,hfz52_0,hfz52_1,hfz52_2,hfz52_3⟩ := impl_GainOf.cells4 BK393.out;obtain ⟨hcz53_0,hcz53_1,hcz53_2,hcz53_3,hcz53_4,hcz53_5,hfz53_0,hfz53_1,hfz53_2,hfz53_3,hfz53_4,hfz53_5⟩ := impl_GainOf.cells6 BK386.out) | ((with_reducible refine gate_callee (f := 21) rfl ?_);refine goesL_ (some 21) rfl rfl Try.func21 Z580 rfl #[.agg #[.int .i64 a0_4,.int .i64 a0_5],.int .i64 a1] rfl Z395 ?_;(with_reducible refine (impl_PlainGain.calls a0_4 a0_5 a1 t394 t395 t396 t397 t398 _ A4.out).mono ?_);rintro e w54 ⟨rfl,hb⟩;refine ⟨_,rfl,?_⟩;have n_ := jA (blk_below (g := gb386) (o := .cells #[.int .i64 a0_0,.int .i64 a0_1,.int .i64 a0_2,.int .i64 a0_3,.int .i64 a0_4,.int .i64 a0_5] 35 (0,0)) Z140 hb) (jA (blk_below (g := gb387) (o := .cells #[.bool false,.int .u64 0,.int .u64 0,.int .i64 0] 30 (0,0)) Z139 hb) (jA (blk_below (g := gb393) (o := .cells #[.bool t388,.int .u64 t389,.int .u64 t390,.int .i64 t391] 30 (0,0)) Z20 hb) (Aside0.mk (below_step Z419 hb))));clear BK386 BK387 BK393 HB;obtain ⟨BK386,BK387,BK393,HB⟩ := n_;(try clear hb);(try clear hb2);(try clear hk);(try clear hi)) | ((with_reducible refine gate_dst (N := 8) rfl ?_);refine box_event ?hg (N := 8) ?hd (cs := #[.bool false,.int .u64 0,.int .u64 0,.int .i64 0]) (t := 30) ?hr ?_;(case hd => rfl);(case hg => rfl);(case hr => exact Z515);intro gb399 hg w55 hbox hb;have n_ := jA (blk_below (g := gb386) (o := .cells #[.int .i64 a0_0,.int .i64 a0_1,.int .i64 a0_2,.int .i64 a0_3,.int .i64 a0_4,.int .i64 a0_5] 35 (0,0)) Z533 hb) (jA (blk_below (g := gb387) (o := .cells #[.bool false,.int .u64 0,.int .u64 0,.int .i64 0] 30 (0,0)) Z543 hb) (jA (blk_below (g := gb393) (o := .cells #[.bool t388,.int .u64 t389,.int .u64 t390,.int .i64 t391] 30 (0,0)) Z565 hb) (jA (below_step Z419 hb) (jA (hbox) (jA ((Z88 : w.heap.size ≤ gb399)) (jA ((Z88 : w.heap.size ≤ gb399)) (jA ((Z178 : gb386 ≠ gb399)) (jA ((Z180 : gb399 ≠ gb386)) (jA ((Z318 : gb387 ≠ gb399)) (jA ((Z320 : gb399 ≠ gb387)) (jA ((Z305 : gb393 ≠ gb399)) (Aside0.mk ((Z307 : gb399 ≠ gb393))))))))))))));clear BK386 BK387 BK393 HB;obtain ⟨BK386,BK387,BK393,HB,BK399,GW399,GE399,NB386_399,NB399_386,NB387_399,NB399_387,NB393_399,NB399_393⟩ := n_;clear hb hbox hg;have hnb56 := NB399_386.out;have hnc56 := NB386_399.out;have hnb57 := NB399_387.out;have hnc57 := NB387_399.out;have hnb58 := NB399_393.out;have hnc58 := NB393_399.out;obtain ⟨hcz59_0,hcz59_1,hcz59_2,hcz59_3,hfz59_0,hfz59_1,hfz59_2,hfz59_3⟩ := impl_GainOf.cells4 BK399.out;obtain ⟨hcz60_0,hcz60_1,hcz60_2,hcz60_3,hfz60_0,hfz60_1,hfz60_2,hfz60_3⟩ := impl_GainOf.cells4 BK387.out))
    refine bodyPost_ret (results_ct rfl _ _ gb387 30 #[.bool false,.int .u64 0,.int .u64 0,.int .i64 0] (0,0) _ rfl Z3 Try.underlying30 rfl Z580) rfl ?_
    exact ⟨Z400,Z92⟩

end Go.Proofs.Ytjcjehnjbgklbaa.QFnImproves
