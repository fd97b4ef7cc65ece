/- The machine side of FnExactBetter: what each Go function that it reaches comes to. Conditions: none. -/
import Derived.Test.YtjcjehnjbgklbaaQFnExactBetterx0
import Derived.Test.YtjcjehnjbgklbaaQFnExactBetterx6
import Derived.Test.YtjcjehnjbgklbaaQFnExactBetterx7
import Derived.Test.YtjcjehnjbgklbaaQFnExactBetterx8
namespace Go.Proofs.Ytjcjehnjbgklbaa.QFnExactBetter
open Go.RowKit Go.Proofs.YtjcjehnjbgklbaaW.PrintWords Go.Proofs.YtjcjehnjbgklbaaW.PrintLast Go.Proofs.YtjcjehnjbgklbaaW.PrintMore
attribute [local go_sem] max2_int min2_int max_two min_two max_three min_three max_four min_four   -- for this text's walks alone
set_option linter.unusedVariables false
set_option linter.unusedSimpArgs false

/-! ### impl_CompareWide: function 54 -/
theorem impl_CompareWide.cells3 {w : World} {g : Nat} {t : TypeId} {a0 a1 a2 : Value} (h : w.heap[g]? = some (.cells #[a0,a1,a2] t (0,0))) : w.cell? ⟨g,0,none⟩ = some a0 ∧ w.cell? ⟨g,1,none⟩ = some a1 ∧ w.cell? ⟨g,2,none⟩ = some a2 ∧ w.frozen? ⟨g,0,none⟩ = false ∧ w.frozen? ⟨g,1,none⟩ = false ∧ w.frozen? ⟨g,2,none⟩ = false := ⟨(blk_cell h 0).trans rfl,(blk_cell h 1).trans rfl,(blk_cell h 2).trans rfl,blk_frozen h 0,blk_frozen h 1,blk_frozen h 2⟩
mutual
def impl_CompareWide.j0 : Nat → Bool → Bool → Int → Int → Bool → Int → Int → Option (Int)
  | 0,_,_,_,_,_,_,_ => none
  | k + 1,x19,x404000,x404001,x404002,x405000,x405001,x405002 => if x19 = true then (some (-1)) else (if x405000 = true then (impl_CompareWide.j1 k (!x404000) x404000 x404001 x404002 x405000 x405001 x405002) else (impl_CompareWide.j1 k false x404000 x404001 x404002 x405000 x405001 x405002))
def impl_CompareWide.j1 : Nat → Bool → Bool → Int → Int → Bool → Int → Int → Option (Int)
  | 0,_,_,_,_,_,_,_ => none
  | k + 1,x27,x404000,x404001,x404002,x405000,x405001,x405002 => if x27 = true then (some 1) else (if x404000 = true then ((impl_compareSizes.f k x405000 x405001 x405002 x404000 x404001 x404002).bind fun t411 => (some t411)) else ((impl_compareSizes.f k x404000 x404001 x404002 x405000 x405001 x405002).bind fun t412 => (some t412)))
end
def impl_CompareWide.f (k : Nat) (a0_0 : Bool) (a0_1 : Int) (a0_2 : Int) (a1_0 : Bool) (a1_1 : Int) (a1_2 : Int) : Option (Int) := (impl_wideOf.f a0_0 a0_1 a0_2).bind fun bt405 => ((impl_wideOf.f a1_0 a1_1 a1_2).bind fun bt408 => (if bt405.1 = true then (impl_CompareWide.j0 k (!bt408.1) bt405.1 bt405.2.1 bt405.2.2 bt408.1 bt408.2.1 bt408.2.2) else (impl_CompareWide.j0 k false bt405.1 bt405.2.1 bt405.2.2 bt408.1 bt408.2.1 bt408.2.2)))
theorem impl_CompareWide.mono_l : ∀ k,(∀ y0 y1 y2 y3 y4 y5 y6,LeO (impl_CompareWide.j0 k y0 y1 y2 y3 y4 y5 y6) (impl_CompareWide.j0 (k + 1) y0 y1 y2 y3 y4 y5 y6)) ∧ (∀ y0 y1 y2 y3 y4 y5 y6,LeO (impl_CompareWide.j1 k y0 y1 y2 y3 y4 y5 y6) (impl_CompareWide.j1 (k + 1) y0 y1 y2 y3 y4 y5 y6))
  | 0 => ⟨fun _ _ _ _ _ _ _ r h => by simp [impl_CompareWide.j0] at h,fun _ _ _ _ _ _ _ r h => by simp [impl_CompareWide.j1] at h⟩
  | k + 1 => by
    obtain ⟨ih0,ih1⟩ := impl_CompareWide.mono_l k
    refine ⟨?_,?_⟩
    · intro y0 y1 y2 y3 y4 y5 y6
      unfold impl_CompareWide.j0
      repeat' first
      | (with_reducible exact ih0 _ _ _ _ _ _ _)
      | (with_reducible exact ih1 _ _ _ _ _ _ _)
      | (with_reducible exact impl_compareSizes.mono _ _ _ _ _ _ _)
      | (with_reducible exact LeO.refl _)
      | (with_reducible exact LeO.none _)
      | (with_reducible refine LeO.ite ?_ ?_)
      | (with_reducible refine LeO.bind ?_ (fun _ => ?_))
      | exact ih0 _ _ _ _ _ _ _
      | exact ih1 _ _ _ _ _ _ _
      | exact impl_compareSizes.mono _ _ _ _ _ _ _
      | exact LeO.none _
      | refine LeO.ite ?_ ?_
      | refine LeO.bind ?_ (fun _ => ?_)
    · intro y0 y1 y2 y3 y4 y5 y6
      unfold impl_CompareWide.j1
      repeat' first
      | (with_reducible exact ih0 _ _ _ _ _ _ _)
      | (with_reducible exact ih1 _ _ _ _ _ _ _)
      | (with_reducible exact impl_compareSizes.mono _ _ _ _ _ _ _)
      | (with_reducible exact LeO.refl _)
      | (with_reducible exact LeO.none _)
      | (with_reducible refine LeO.ite ?_ ?_)
      | (with_reducible refine LeO.bind ?_ (fun _ => ?_))
      | exact ih0 _ _ _ _ _ _ _
      | exact ih1 _ _ _ _ _ _ _
      | exact impl_compareSizes.mono _ _ _ _ _ _ _
      | exact LeO.none _
      | refine LeO.ite ?_ ?_
      | refine LeO.bind ?_ (fun _ => ?_)
theorem impl_CompareWide.mono : ∀ a0 a1 a2 a3 a4 a5 k,LeO (impl_CompareWide.f k a0 a1 a2 a3 a4 a5) (impl_CompareWide.f (k + 1) a0 a1 a2 a3 a4 a5) := by
  intro a0 a1 a2 a3 a4 a5 k
  obtain ⟨ih0,ih1⟩ := impl_CompareWide.mono_l k
  unfold impl_CompareWide.f
  repeat' first
      | (with_reducible exact ih0 _ _ _ _ _ _ _)
      | (with_reducible exact ih1 _ _ _ _ _ _ _)
      | (with_reducible exact impl_compareSizes.mono _ _ _ _ _ _ _)
      | (with_reducible exact LeO.refl _)
      | (with_reducible exact LeO.none _)
      | (with_reducible refine LeO.ite ?_ ?_)
      | (with_reducible refine LeO.bind ?_ (fun _ => ?_))
      | exact ih0 _ _ _ _ _ _ _
      | exact ih1 _ _ _ _ _ _ _
      | exact impl_compareSizes.mono _ _ _ _ _ _ _
      | exact LeO.none _
      | refine LeO.ite ?_ ?_
      | refine LeO.bind ?_ (fun _ => ?_)
def impl_CompareWide.T1 : Bool × List (List Nat × List Nat) := (true,[([],[]),([0],[0]),([],[]),([2],[2]),([],[]),([4],[4]),([1,3,5],[1,3,5]),([],[]),([7],[7]),([],[]),([9],[9]),([],[]),([11],[11]),([8,10,12,6],[8,10,12]),([6,13,0,1,2,3,4,5,6],[6]),([13,14,0,1,2,3,4,5,6,7,8,9,10,11,12,13,14],[13])])
def impl_CompareWide.B1 : List Nat := [0,1,0,4,0,16,63,0,128,0,512,0,2048,8191,16383,32767]
theorem impl_CompareWide.tab1 : rtab .any (opsOf Try.f54 1) = impl_CompareWide.T1 := by kernel_rfl
theorem impl_CompareWide.bits1 : waitsOk impl_CompareWide.T1.2 impl_CompareWide.B1 = true := by kernel_rfl
set_option maxHeartbeats 8000000 in
set_option maxRecDepth 100000 in
theorem impl_CompareWide.calls (k : Nat) (a0_0 : Bool) (a0_1 : Int) (a0_2 : Int) (a1_0 : Bool) (a1_1 : Int) (a1_2 : Int) (r : Int) (w : World) (h : impl_CompareWide.f k a0_0 a0_1 a0_2 a1_0 a1_1 a1_2 = some r) :
    Calls Try.prog 54 #[.agg #[.bool a0_0,.int .u64 a0_1,.int .u64 a0_2],.agg #[.bool a1_0,.int .u64 a1_1,.int .u64 a1_2]] w fun e w' => e = .returned (.int .i64 r) ∧ Below w.heap.size w w' := by
  have hu28 := Try.underlying28
  have HB := Aside0.mk (Below.refl w.heap.size w)
  have H : ((impl_wideOf.f a0_0 a0_1 a0_2).bind fun bt405 => ((impl_wideOf.f a1_0 a1_1 a1_2).bind fun bt408 => (if bt405.1 = true then (impl_CompareWide.j0 k (!bt408.1) bt405.1 bt405.2.1 bt405.2.2 bt408.1 bt408.2.1 bt408.2.2) else (impl_CompareWide.j0 k false bt405.1 bt405.2.1 bt405.2.2 bt408.1 bt408.2.1 bt408.2.2)))) = some r := h
  clear h
  obtain ⟨⟨t405,t406,t407⟩,A30,H⟩ := Option.bind_eq_some_iff.mp H
  try dsimp only at H
  have A3 := Aside0.mk A30
  clear A30
  obtain ⟨⟨t408,t409,t410⟩,A40,H⟩ := Option.bind_eq_some_iff.mp H
  try dsimp only at H
  have A4 := Aside0.mk A40
  clear A40
  have HC5 := Aside0.mk H
  clear H
  go_enter Try.func54,Try.ntmps54
  try go_wp2_with (first | ((with_reducible refine gate_dst (N := 2) rfl ?_);refine box_event ?hg (N := 2) ?hd (cs := #[.bool a0_0,.int .u64 a0_1,.int .u64 a0_2]) (t := 28) ?hr ?_;(case hd => rfl);(case hg => rfl);(case hr => exact Z393);intro gb403 hg w6 hbox hb;have n_ := jA (below_step Z476 hb) (jA (hbox) (jA ((Z345 : w.heap.size ≤ gb403)) (Aside0.mk ((Z345 : w.heap.size ≤ gb403)))));clear HB;obtain ⟨HB,BK403,GW403,GE403⟩ := n_;clear hb hbox hg) | ((with_reducible refine gate_dst (N := 3) rfl ?_);refine box_event ?hg (N := 3) ?hd (cs := #[.bool a1_0,.int .u64 a1_1,.int .u64 a1_2]) (t := 28) ?hr ?_;(case hd => rfl);(case hg => rfl);(case hr => exact Z393);intro gb404 hg w7 hbox hb;have n_ := jA (blk_below (g := gb403) (o := .cells #[.bool a0_0,.int .u64 a0_1,.int .u64 a0_2] 28 (0,0)) Z370 hb) (jA (below_step Z465 hb) (jA (hbox) (jA ((Z332 : w.heap.size ≤ gb404)) (jA ((Z332 : w.heap.size ≤ gb404)) (jA ((by rw [hg];exact Nat.ne_of_lt (blk_lt (g := gb403) (o := .cells #[.bool a0_0,.int .u64 a0_1,.int .u64 a0_2] 28 (0,0)) Z370) : gb403 ≠ gb404)) (Aside0.mk ((by rw [hg];exact Nat.ne_of_gt (blk_lt (g := gb403) (o := .cells #[.bool a0_0,.int .u64 a0_1,.int .u64 a0_2] 28 (0,0)) Z370) : gb404 ≠ gb403))))))));clear BK403 HB;obtain ⟨BK403,HB,BK404,GW404,GE404,NB403_404,NB404_403⟩ := n_;clear hb hbox hg))
  have n0_ := Aside0.mk (blk_drew BK403.out)
  have n1_ := Aside0.mk (blk_drew BK404.out)
  have n2_ := Aside0.mk (below_drew1 HB.out)
  clear BK403
  clear BK404
  clear HB
  have BK403 := n0_
  have BK404 := n1_
  have HB := n2_
  clear n0_ n1_ n2_
  refine start_ (n := 16) (S := fun w' => w'.cell? ⟨gb403,0,none⟩ = some (.bool a0_0) ∧ w'.cell? ⟨gb403,1,none⟩ = some (.int .u64 a0_1) ∧ w'.cell? ⟨gb403,2,none⟩ = some (.int .u64 a0_2) ∧ w'.cell? ⟨gb404,0,none⟩ = some (.bool a1_0) ∧ w'.cell? ⟨gb404,1,none⟩ = some (.int .u64 a1_1) ∧ w'.cell? ⟨gb404,2,none⟩ = some (.int .u64 a1_2)) (ds := [14,15]) #[false,false,false,false,false,false,false,false,false,false,false,false,false,false,false,false] Z396 rfl rfl ⟨(blk_cell BK403.out 0).trans rfl,(blk_cell BK403.out 1).trans rfl,(blk_cell BK403.out 2).trans rfl,(blk_cell BK404.out 0).trans rfl,(blk_cell BK404.out 1).trans rfl,(blk_cell BK404.out 2).trans rfl⟩ (fun hHeld => ?_);refine with_tabW impl_CompareWide.tab1 impl_CompareWide.bits1 (fun HT_ HW_ => ?_)
  generalize w7.drew = w8 at BK403 BK404 HB hHeld ⊢
  refine pure_ (i := 0) (N := some 5) (v := ?_) (a' := ?_) #[true,false,false,false,false,false,false,false,false,false,false,false,false,false,false,false] rfl rfl (any_of HT_.out Z396) (fun _ _ _ h => h) (Or.inl ⟨Z398,?_⟩) ?_ ?_
  rotate_left
  · intro w'
    go_simp
    with_reducible rfl
  rotate_left
  · simp only [Act.put,List.setIfInBounds_toArray,List.set_cons_zero,List.set_cons_succ,i64_w,i32_w]
    rfl
  refine pure_ (i := 2) (N := some 7) (v := ?_) (a' := ?_) #[true,false,true,false,false,false,false,false,false,false,false,false,false,false,false,false] rfl rfl (any_of HT_.out Z396) (fun _ _ _ h => h) (Or.inl ⟨Z398,?_⟩) ?_ ?_
  rotate_left
  · intro w'
    go_simp
    with_reducible rfl
  rotate_left
  · simp only [Act.put,List.setIfInBounds_toArray,List.set_cons_zero,List.set_cons_succ,i64_w,i32_w]
    rfl
  refine pure_ (i := 4) (N := some 9) (v := ?_) (a' := ?_) #[true,false,true,false,true,false,false,false,false,false,false,false,false,false,false,false] rfl rfl (any_of HT_.out Z396) (fun _ _ _ h => h) (Or.inl ⟨Z398,?_⟩) ?_ ?_
  rotate_left
  · intro w'
    go_simp
    with_reducible rfl
  rotate_left
  · simp only [Act.put,List.setIfInBounds_toArray,List.set_cons_zero,List.set_cons_succ,i64_w,i32_w]
    rfl
  refine pure_ (i := 7) (N := some 12) (v := ?_) (a' := ?_) #[true,false,true,false,true,false,false,true,false,false,false,false,false,false,false,false] rfl rfl (any_of HT_.out Z396) (fun _ _ _ h => h) (Or.inl ⟨Z398,?_⟩) ?_ ?_
  rotate_left
  · intro w'
    go_simp
    with_reducible rfl
  rotate_left
  · simp only [Act.put,List.setIfInBounds_toArray,List.set_cons_zero,List.set_cons_succ,i64_w,i32_w]
    rfl
  refine pure_ (i := 9) (N := some 14) (v := ?_) (a' := ?_) #[true,false,true,false,true,false,false,true,false,true,false,false,false,false,false,false] rfl rfl (any_of HT_.out Z396) (fun _ _ _ h => h) (Or.inl ⟨Z398,?_⟩) ?_ ?_
  rotate_left
  · intro w'
    go_simp
    with_reducible rfl
  rotate_left
  · simp only [Act.put,List.setIfInBounds_toArray,List.set_cons_zero,List.set_cons_succ,i64_w,i32_w]
    rfl
  refine pure_ (i := 11) (N := some 16) (v := ?_) (a' := ?_) #[true,false,true,false,true,false,false,true,false,true,false,true,false,false,false,false] rfl rfl (any_of HT_.out Z396) (fun _ _ _ h => h) (Or.inl ⟨Z398,?_⟩) ?_ ?_
  rotate_left
  · intro w'
    go_simp
    with_reducible rfl
  rotate_left
  · simp only [Act.put,List.setIfInBounds_toArray,List.set_cons_zero,List.set_cons_succ,i64_w,i32_w]
    rfl
  refine take_ (i := 1) (N := some 6) (v := ?_) (a' := ?_) #[true,true,true,false,true,false,false,true,false,true,false,true,false,false,false,false] rfl rfl (take_ofW HT_.out HW_.out Z396) (fun _ _ _ h => h) (Or.inl ⟨Z398,?_⟩) hHeld ?_ ?_
  rotate_left
  · rintro w' ⟨s0,s1,s2,s3,s4,s5⟩
    go_simp
    with_reducible rfl
  rotate_left
  · simp only [Act.put,List.setIfInBounds_toArray,List.set_cons_zero,List.set_cons_succ,i64_w,i32_w]
    rfl
  refine take_ (i := 3) (N := some 8) (v := ?_) (a' := ?_) #[true,true,true,true,true,false,false,true,false,true,false,true,false,false,false,false] rfl rfl (take_ofW HT_.out HW_.out Z396) (fun _ _ _ h => h) (Or.inl ⟨Z398,?_⟩) hHeld ?_ ?_
  rotate_left
  · rintro w' ⟨s0,s1,s2,s3,s4,s5⟩
    go_simp
    with_reducible rfl
  rotate_left
  · simp only [Act.put,List.setIfInBounds_toArray,List.set_cons_zero,List.set_cons_succ,i64_w,i32_w]
    rfl
  refine take_ (i := 5) (N := some 10) (v := ?_) (a' := ?_) #[true,true,true,true,true,true,false,true,false,true,false,true,false,false,false,false] rfl rfl (take_ofW HT_.out HW_.out Z396) (fun _ _ _ h => h) (Or.inl ⟨Z398,?_⟩) hHeld ?_ ?_
  rotate_left
  · rintro w' ⟨s0,s1,s2,s3,s4,s5⟩
    go_simp
    with_reducible rfl
  rotate_left
  · simp only [Act.put,List.setIfInBounds_toArray,List.set_cons_zero,List.set_cons_succ,i64_w,i32_w]
    rfl
  refine take_ (i := 8) (N := some 13) (v := ?_) (a' := ?_) #[true,true,true,true,true,true,false,true,true,true,false,true,false,false,false,false] rfl rfl (take_ofW HT_.out HW_.out Z396) (fun _ _ _ h => h) (Or.inl ⟨Z398,?_⟩) hHeld ?_ ?_
  rotate_left
  · rintro w' ⟨s0,s1,s2,s3,s4,s5⟩
    go_simp
    with_reducible rfl
  rotate_left
  · simp only [Act.put,List.setIfInBounds_toArray,List.set_cons_zero,List.set_cons_succ,i64_w,i32_w]
    rfl
  refine take_ (i := 10) (N := some 15) (v := ?_) (a' := ?_) #[true,true,true,true,true,true,false,true,true,true,true,true,false,false,false,false] rfl rfl (take_ofW HT_.out HW_.out Z396) (fun _ _ _ h => h) (Or.inl ⟨Z398,?_⟩) hHeld ?_ ?_
  rotate_left
  · rintro w' ⟨s0,s1,s2,s3,s4,s5⟩
    go_simp
    with_reducible rfl
  rotate_left
  · simp only [Act.put,List.setIfInBounds_toArray,List.set_cons_zero,List.set_cons_succ,i64_w,i32_w]
    rfl
  refine take_ (i := 12) (N := some 17) (v := ?_) (a' := ?_) #[true,true,true,true,true,true,false,true,true,true,true,true,true,false,false,false] rfl rfl (take_ofW HT_.out HW_.out Z396) (fun _ _ _ h => h) (Or.inl ⟨Z398,?_⟩) hHeld ?_ ?_
  rotate_left
  · rintro w' ⟨s0,s1,s2,s3,s4,s5⟩
    go_simp
    with_reducible rfl
  rotate_left
  · simp only [Act.put,List.setIfInBounds_toArray,List.set_cons_zero,List.set_cons_succ,i64_w,i32_w]
    rfl
  refine one_ (i := 6) (N := some 11) #[true,true,true,true,true,true,true,true,true,true,true,true,true,false,false,false] rfl rfl (one_of HT_.out Z396) Z397 (fun K hK => ?_)
  refine goes_ Try.func71 Z396 rfl #[.bool a0_0,.int .u64 a0_1,.int .u64 a0_2] Z398 rfl rfl Z353 ?_
  with_reducible refine (impl_wideOf.calls a0_0 a0_1 a0_2 t405 t406 t407 _ A3.out).mono ?_
  rintro e w9 ⟨rfl,hb⟩
  refine ⟨_,rfl,?_⟩
  have n0_ := Aside0.mk (blk_below (g := gb403) (o := .cells #[.bool a0_0,.int .u64 a0_1,.int .u64 a0_2] 28 (0,0)) Z370 hb)
  have n1_ := Aside0.mk (blk_below (g := gb404) (o := .cells #[.bool a1_0,.int .u64 a1_1,.int .u64 a1_2] 28 (0,0)) Z373 hb)
  have n2_ := Aside0.mk (below_step Z310 hb)
  clear BK403
  clear BK404
  clear HB
  have BK403 := n0_
  have BK404 := n1_
  have HB := n2_
  clear n0_ n1_ n2_
  (try clear hb)
  (try clear hb2)
  (try clear hk)
  (try clear hi)
  refine hK.out _ _ ⟨(blk_cell BK403.out 0).trans rfl,(blk_cell BK403.out 1).trans rfl,(blk_cell BK403.out 2).trans rfl,(blk_cell BK404.out 0).trans rfl,(blk_cell BK404.out 1).trans rfl,(blk_cell BK404.out 2).trans rfl⟩ (fun hHeld => ?_)
  clear hK K
  refine norm_ (a' := ?_) ?_ ?_
  rotate_left
  · show Act.put _ (some 11) _ = _
    simp only [Act.put,List.setIfInBounds_toArray,List.set_cons_zero,List.set_cons_succ,i64_w,i32_w]
    rfl
  refine one_ (i := 13) (N := some 18) #[true,true,true,true,true,true,true,true,true,true,true,true,true,true,false,false] rfl rfl (one_of HT_.out Z396) Z397 (fun K hK => ?_)
  refine goes_ Try.func71 Z396 rfl #[.bool a1_0,.int .u64 a1_1,.int .u64 a1_2] Z398 rfl rfl Z353 ?_
  with_reducible refine (impl_wideOf.calls a1_0 a1_1 a1_2 t408 t409 t410 _ A4.out).mono ?_
  rintro e w10 ⟨rfl,hb⟩
  refine ⟨_,rfl,?_⟩
  have n0_ := Aside0.mk (blk_below (g := gb403) (o := .cells #[.bool a0_0,.int .u64 a0_1,.int .u64 a0_2] 28 (0,0)) Z370 hb)
  have n1_ := Aside0.mk (blk_below (g := gb404) (o := .cells #[.bool a1_0,.int .u64 a1_1,.int .u64 a1_2] 28 (0,0)) Z373 hb)
  have n2_ := Aside0.mk (below_step Z310 hb)
  clear BK403
  clear BK404
  clear HB
  have BK403 := n0_
  have BK404 := n1_
  have HB := n2_
  clear n0_ n1_ n2_
  (try clear hb)
  (try clear hb2)
  (try clear hk)
  (try clear hi)
  refine hK.out _ _ ⟨(blk_cell BK403.out 0).trans rfl,(blk_cell BK403.out 1).trans rfl,(blk_cell BK403.out 2).trans rfl,(blk_cell BK404.out 0).trans rfl,(blk_cell BK404.out 1).trans rfl,(blk_cell BK404.out 2).trans rfl⟩ (fun hHeld => ?_)
  clear hK K
  refine norm_ (a' := ?_) ?_ ?_
  rotate_left
  · show Act.put _ (some 18) _ = _
    simp only [Act.put,List.setIfInBounds_toArray,List.set_cons_zero,List.set_cons_succ,i64_w,i32_w]
    rfl
  refine last_ (i := 14) (N := none) #[true,true,true,true,true,true,true,true,true,true,true,true,true,true,true,false] rfl rfl (one_of HT_.out Z396) Z397 (fun K hK => ?_)
  have hs11 : w10.cell? ⟨gb403,0,none⟩ = some (.bool a0_0) := (blk_cell BK403.out 0).trans rfl
  have hfs11 := blk_frozen BK403.out 0
  have hns11_1 := NB404_403.out
  have hms11_1 := NB403_404.out
  have hs12 : w10.cell? ⟨gb403,1,none⟩ = some (.int .u64 a0_1) := (blk_cell BK403.out 1).trans rfl
  have hfs12 := blk_frozen BK403.out 1
  have hns12_1 := NB404_403.out
  have hms12_1 := NB403_404.out
  have hs13 : w10.cell? ⟨gb403,2,none⟩ = some (.int .u64 a0_2) := (blk_cell BK403.out 2).trans rfl
  have hfs13 := blk_frozen BK403.out 2
  have hns13_1 := NB404_403.out
  have hms13_1 := NB403_404.out
  refine skip_ (w1 := ?_) Z398 rfl ?_ ?_
  rotate_left
  · go_simp
    rfl
  refine hK.out _ _ ?_
  clear hK K
  refine last_ (i := 15) (N := none) #[true,true,true,true,true,true,true,true,true,true,true,true,true,true,true,true] rfl rfl (one_of HT_.out Z396) Z397 (fun K hK => ?_)
  have hs14 : w10.cell? ⟨gb404,0,none⟩ = some (.bool a1_0) := (blk_cell BK404.out 0).trans rfl
  have hfs14 := blk_frozen BK404.out 0
  have hns14_0 := NB403_404.out
  have hms14_0 := NB404_403.out
  have hs15 : w10.cell? ⟨gb404,1,none⟩ = some (.int .u64 a1_1) := (blk_cell BK404.out 1).trans rfl
  have hfs15 := blk_frozen BK404.out 1
  have hns15_0 := NB403_404.out
  have hms15_0 := NB404_403.out
  have hs16 : w10.cell? ⟨gb404,2,none⟩ = some (.int .u64 a1_2) := (blk_cell BK404.out 2).trans rfl
  have hfs16 := blk_frozen BK404.out 2
  have hns16_0 := NB403_404.out
  have hms16_0 := NB404_403.out
  refine skip_ (w1 := ?_) Z398 rfl ?_ ?_
  rotate_left
  · go_simp
    rfl
  refine hK.out _ _ ?_
  clear hK K
  refine done_ (done_of HT_.out Z396) ?_
  go_upto_region 2 with (fail)
  go_cut [19] (fun v19 wc => ∃ (kq : Nat) (x19_4 : Bool),v19 = .bool x19_4 ∧ Aside0 (impl_CompareWide.j0 kq x19_4 t405 t406 t407 t408 t409 t410 = some r) ∧ Aside0 (kq ≤ k) ∧ Aside0 (wc.heap[gb403]? = some (.cells #[.bool t405,.int .u64 t406,.int .u64 t407] 28 (0,0))) ∧ Aside0 (wc.heap[gb404]? = some (.cells #[.bool t408,.int .u64 t409,.int .u64 t410] 28 (0,0))) ∧ Aside0 (Below w.heap.size w wc))
  case first =>
    have H := HC5.out
    clear HC5
    by_cases c17 : t405 = true
    · subst c17
      have H1 : (impl_CompareWide.j0 k (!t408) true t406 t407 t408 t409 t410) = some r := by rw [if_pos rfl] at H;exact H
      clear H
      have H := H1
      clear H1
      have H' := Aside0.mk H
      clear H
      have hnb18 := NB403_404.out
      have hnc18 := NB404_403.out
      obtain ⟨hcz19_0,hcz19_1,hcz19_2,hfz19_0,hfz19_1,hfz19_2⟩ := impl_CompareWide.cells3 BK403.out
      obtain ⟨hcz20_0,hcz20_1,hcz20_2,hfz20_0,hfz20_1,hfz20_2⟩ := impl_CompareWide.cells3 BK404.out
      go_wp2
      go_meet
      case rel => exact ⟨_,(!t408),Z392,H',⟨Z394⟩,⟨by (with_reducible repeat (first | refine bA ?_ _ | refine bB ?_ | refine bC ?_ _));refine blk_far ?_ NB403_404.out _;(with_reducible repeat (first | refine bA ?_ _ | refine bB ?_ | refine bC ?_ _));refine blk_far ?_ NB403_404.out _;(with_reducible repeat (first | refine bA ?_ _ | refine bB ?_ | refine bC ?_ _));refine blk_far ?_ NB403_404.out _;(with_reducible repeat (first | refine bA ?_ _ | refine bB ?_ | refine bC ?_ _));refine blk_put (cs := #[.bool true,.int .u64 t406,.int .u64 a0_2]) ?_ 2 _ rfl;(with_reducible repeat (first | refine bA ?_ _ | refine bB ?_ | refine bC ?_ _));refine blk_put (cs := #[.bool true,.int .u64 a0_1,.int .u64 a0_2]) ?_ 1 _ rfl;(with_reducible repeat (first | refine bA ?_ _ | refine bB ?_ | refine bC ?_ _));refine blk_put (cs := #[.bool a0_0,.int .u64 a0_1,.int .u64 a0_2]) ?_ 0 _ rfl;(with_reducible repeat (first | refine bA ?_ _ | refine bB ?_ | refine bC ?_ _));exact BK403.out⟩,⟨Z3⟩,⟨Z310⟩⟩
    · replace c17 := Bool.eq_false_iff.mpr c17
      subst c17
      have H1 : (impl_CompareWide.j0 k false false t406 t407 t408 t409 t410) = some r := by rw [if_neg (show ¬ (false = true) by decide)] at H;exact H
      clear H
      have H := H1
      clear H1
      have H' := Aside0.mk H
      clear H
      have hnb21 := NB403_404.out
      have hnc21 := NB404_403.out
      obtain ⟨hcz22_0,hcz22_1,hcz22_2,hfz22_0,hfz22_1,hfz22_2⟩ := impl_CompareWide.cells3 BK403.out
      go_wp2
      go_meet
      case rel => exact ⟨_,(false),Z392,H',⟨Z394⟩,⟨by (with_reducible repeat (first | refine bA ?_ _ | refine bB ?_ | refine bC ?_ _));refine blk_far ?_ NB403_404.out _;(with_reducible repeat (first | refine bA ?_ _ | refine bB ?_ | refine bC ?_ _));refine blk_far ?_ NB403_404.out _;(with_reducible repeat (first | refine bA ?_ _ | refine bB ?_ | refine bC ?_ _));refine blk_far ?_ NB403_404.out _;(with_reducible repeat (first | refine bA ?_ _ | refine bB ?_ | refine bC ?_ _));refine blk_put (cs := #[.bool false,.int .u64 t406,.int .u64 a0_2]) ?_ 2 _ rfl;(with_reducible repeat (first | refine bA ?_ _ | refine bB ?_ | refine bC ?_ _));refine blk_put (cs := #[.bool false,.int .u64 a0_1,.int .u64 a0_2]) ?_ 1 _ rfl;(with_reducible repeat (first | refine bA ?_ _ | refine bB ?_ | refine bC ?_ _));refine blk_put (cs := #[.bool a0_0,.int .u64 a0_1,.int .u64 a0_2]) ?_ 0 _ rfl;(with_reducible repeat (first | refine bA ?_ _ | refine bB ?_ | refine bC ?_ _));exact BK403.out⟩,⟨Z3⟩,⟨Z310⟩⟩
  case rest =>
    clear HC5
    try clear c1
    try clear c2
    try clear p2
    try clear c5
    try clear c7
    try clear c17
    try clear c18
    try clear c21
    try clear hcz19_0
    try clear hcz19_1
    try clear hcz19_2
    try clear hcz20_0
    try clear hcz20_1
    try clear hcz20_2
    try clear hcz22_0
    try clear hcz22_1
    try clear hcz22_2
    try clear hfz19_0
    try clear hfz19_1
    try clear hfz19_2
    try clear hfz20_0
    try clear hfz20_1
    try clear hfz20_2
    try clear hfz22_0
    try clear hfz22_1
    try clear hfz22_2
    obtain ⟨kq,x19_4,rfl,HA,HJ4,BK403,BK404,HB⟩ := hcut
    cases kq with
    | zero => exact absurd HA.out (by simp [impl_CompareWide.j0])
    | succ kj4 =>
      have H := HA.out
      clear HA
      simp only [impl_CompareWide.j0] at H
      by_cases c23 : x19_4 = true
      · subst c23
        have H1 : (some (-1)) = some r := by rw [if_pos rfl] at H;exact H
        clear H
        have H := H1
        clear H1
        obtain rfl := Option.some.inj H
        go_wp2
        go_ret
        exact ⟨Z385,Z310⟩
      · replace c23 := Bool.eq_false_iff.mpr c23
        subst c23
        have H1 : (if t408 = true then (impl_CompareWide.j1 kj4 (!t405) t405 t406 t407 t408 t409 t410) else (impl_CompareWide.j1 kj4 false t405 t406 t407 t408 t409 t410)) = some r := by rw [if_neg (show ¬ (false = true) by decide)] at H;exact H
        clear H
        have H := H1
        clear H1
        have HC24 := Aside0.mk H
        clear H
        go_upto_region 4 with (fail)
        go_cut [27] (fun v27 wc => ∃ (kq : Nat) (x27_23 : Bool),v27 = .bool x27_23 ∧ Aside0 (impl_CompareWide.j1 kq x27_23 t405 t406 t407 t408 t409 t410 = some r) ∧ Aside0 (kq ≤ kj4) ∧ Aside0 (wc.heap[gb403]? = some (.cells #[.bool t405,.int .u64 t406,.int .u64 t407] 28 (0,0))) ∧ Aside0 (wc.heap[gb404]? = some (.cells #[.bool t408,.int .u64 t409,.int .u64 t410] 28 (0,0))) ∧ Aside0 (Below w.heap.size w wc))
        case first =>
          have H := HC24.out
          clear HC24
          by_cases c25 : t408 = true
          · subst c25
            have H1 : (impl_CompareWide.j1 kj4 (!t405) t405 t406 t407 true t409 t410) = some r := by rw [if_pos rfl] at H;exact H
            clear H
            have H := H1
            clear H1
            have H' := Aside0.mk H
            clear H
            have hnb26 := NB404_403.out
            have hnc26 := NB403_404.out
            obtain ⟨hcz27_0,hcz27_1,hcz27_2,hfz27_0,hfz27_1,hfz27_2⟩ := impl_CompareWide.cells3 BK404.out
            obtain ⟨hcz28_0,hcz28_1,hcz28_2,hfz28_0,hfz28_1,hfz28_2⟩ := impl_CompareWide.cells3 BK403.out
            go_wp2
            go_meet
            case rel => exact ⟨_,(!t405),Z392,H',⟨Z390⟩,⟨Z370⟩,⟨Z373⟩,⟨Z310⟩⟩
          · replace c25 := Bool.eq_false_iff.mpr c25
            subst c25
            have H1 : (impl_CompareWide.j1 kj4 false t405 t406 t407 false t409 t410) = some r := by rw [if_neg (show ¬ (false = true) by decide)] at H;exact H
            clear H
            have H := H1
            clear H1
            have H' := Aside0.mk H
            clear H
            have hnb29 := NB404_403.out
            have hnc29 := NB403_404.out
            obtain ⟨hcz30_0,hcz30_1,hcz30_2,hfz30_0,hfz30_1,hfz30_2⟩ := impl_CompareWide.cells3 BK404.out
            go_wp2
            go_meet
            case rel => exact ⟨_,(false),Z392,H',⟨Z390⟩,⟨Z370⟩,⟨Z373⟩,⟨Z310⟩⟩
        case rest =>
          clear HC24
          try clear c1
          try clear c2
          try clear p2
          try clear c5
          try clear c7
          try clear c17
          try clear c18
          try clear c21
          try clear c23
          try clear c25
          try clear c26
          try clear c29
          try clear hcz19_0
          try clear hcz19_1
          try clear hcz19_2
          try clear hcz20_0
          try clear hcz20_1
          try clear hcz20_2
          try clear hcz22_0
          try clear hcz22_1
          try clear hcz22_2
          try clear hcz27_0
          try clear hcz27_1
          try clear hcz27_2
          try clear hcz28_0
          try clear hcz28_1
          try clear hcz28_2
          try clear hcz30_0
          try clear hcz30_1
          try clear hcz30_2
          try clear hfz19_0
          try clear hfz19_1
          try clear hfz19_2
          try clear hfz20_0
          try clear hfz20_1
          try clear hfz20_2
          try clear hfz22_0
          try clear hfz22_1
          try clear hfz22_2
          try clear hfz27_0
          try clear hfz27_1
          try clear hfz27_2
          try clear hfz28_0
          try clear hfz28_1
          try clear hfz28_2
          try clear hfz30_0
          try clear hfz30_1
          try clear hfz30_2
          try clear p2
          obtain ⟨kq,x27_23,rfl,HA,HJ23,BK403,BK404,HB⟩ := hcut
          cases kq with
          | zero => exact absurd HA.out (by simp [impl_CompareWide.j1])
          | succ kj23 =>
            have H := HA.out
            clear HA
            simp only [impl_CompareWide.j1] at H
            by_cases c31 : x27_23 = true
            · subst c31
              have H1 : (some 1) = some r := by rw [if_pos rfl] at H;exact H
              clear H
              have H := H1
              clear H1
              obtain rfl := Option.some.inj H
              go_wp2
              go_ret
              exact ⟨Z385,Z310⟩
            · replace c31 := Bool.eq_false_iff.mpr c31
              subst c31
              have H1 : (if t405 = true then ((impl_compareSizes.f kj23 t408 t409 t410 t405 t406 t407).bind fun t411 => (some t411)) else ((impl_compareSizes.f kj23 t405 t406 t407 t408 t409 t410).bind fun t412 => (some t412))) = some r := by rw [if_neg (show ¬ (false = true) by decide)] at H;exact H
              clear H
              have H := H1
              clear H1
              by_cases c32 : t405 = true
              · subst c32
                have H1 : ((impl_compareSizes.f kj23 t408 t409 t410 true t406 t407).bind fun t411 => (some t411)) = some r := by rw [if_pos rfl] at H;exact H
                clear H
                have H := H1
                clear H1
                obtain ⟨t411,A330,H⟩ := Option.bind_eq_some_iff.mp H
                have A33 := Aside0.mk A330
                clear A330
                obtain rfl := Option.some.inj H
                have hnb34 := NB403_404.out
                have hnc34 := NB404_403.out
                obtain ⟨hcz35_0,hcz35_1,hcz35_2,hfz35_0,hfz35_1,hfz35_2⟩ := impl_CompareWide.cells3 BK403.out
                obtain ⟨hcz36_0,hcz36_1,hcz36_2,hfz36_0,hfz36_1,hfz36_2⟩ := impl_CompareWide.cells3 BK404.out
                go_wp2_with (first | ((with_reducible refine gate_callee (f := 69) rfl ?_);refine goesL_ (some 40) rfl rfl Try.func69 Z396 rfl #[.agg #[.bool t408,.int .u64 t409,.int .u64 t410],.agg #[.bool true,.int .u64 t406,.int .u64 t407]] rfl Z353 ?_;(with_reducible refine (impl_compareSizes.calls kj23 t408 t409 t410 true t406 t407 t411 _ A33.out).mono ?_);rintro e w37 ⟨rfl,hb⟩;refine ⟨_,rfl,?_⟩;have n_ := jA (blk_below (g := gb403) (o := .cells #[.bool true,.int .u64 t406,.int .u64 t407] 28 (0,0)) Z370 hb) (jA (blk_below (g := gb404) (o := .cells #[.bool t408,.int .u64 t409,.int .u64 t410] 28 (0,0)) Z373 hb) (Aside0.mk (below_step Z310 hb)));clear BK403 BK404 HB;obtain ⟨BK403,BK404,HB⟩ := n_;(try clear hb);(try clear hb2);(try clear hk);(try clear hi)))
                go_ret
                exact ⟨Z385,Z310⟩
              · replace c32 := Bool.eq_false_iff.mpr c32
                subst c32
                have H1 : ((impl_compareSizes.f kj23 false t406 t407 t408 t409 t410).bind fun t412 => (some t412)) = some r := by rw [if_neg (show ¬ (false = true) by decide)] at H;exact H
                clear H
                have H := H1
                clear H1
                obtain ⟨t412,A380,H⟩ := Option.bind_eq_some_iff.mp H
                have A38 := Aside0.mk A380
                clear A380
                obtain rfl := Option.some.inj H
                have hnb39 := NB403_404.out
                have hnc39 := NB404_403.out
                obtain ⟨hcz40_0,hcz40_1,hcz40_2,hfz40_0,hfz40_1,hfz40_2⟩ := impl_CompareWide.cells3 BK403.out
                obtain ⟨hcz41_0,hcz41_1,hcz41_2,hfz41_0,hfz41_1,hfz41_2⟩ := impl_CompareWide.cells3 BK404.out
                go_wp2_with (first | ((with_reducible refine gate_callee (f := 69) rfl ?_);refine goesL_ (some 43) rfl rfl Try.func69 Z396 rfl #[.agg #[.bool false,.int .u64 t406,.int .u64 t407],.agg #[.bool t408,.int .u64 t409,.int .u64 t410]] rfl Z353 ?_;(with_reducible refine (impl_compareSizes.calls kj23 false t406 t407 t408 t409 t410 t412 _ A38.out).mono ?_);rintro e w42 ⟨rfl,hb⟩;refine ⟨_,rfl,?_⟩;have n_ := jA (blk_below (g := gb403) (o := .cells #[.bool false,.int .u64 t406,.int .u64 t407] 28 (0,0)) Z370 hb) (jA (blk_below (g := gb404) (o := .cells #[.bool t408,.int .u64 t409,.int .u64 t410] 28 (0,0)) Z373 hb) (Aside0.mk (below_step Z310 hb)));clear BK403 BK404 HB;obtain ⟨BK403,BK404,HB⟩ := n_;(try clear hb);(try clear hb2);(try clear hk);(try clear hi)))
                go_ret
                exact ⟨Z385,Z310⟩

/-! ### impl_CompareFrac: function 35 -/
theorem impl_CompareFrac.cells3 {w : World} {g : Nat} {t : TypeId} {a0 a1 a2 : Value} (h : w.heap[g]? = some (.cells #[a0,a1,a2] t (0,0))) : w.cell? ⟨g,0,none⟩ = some a0 ∧ w.cell? ⟨g,1,none⟩ = some a1 ∧ w.cell? ⟨g,2,none⟩ = some a2 ∧ w.frozen? ⟨g,0,none⟩ = false ∧ w.frozen? ⟨g,1,none⟩ = false ∧ w.frozen? ⟨g,2,none⟩ = false := ⟨(blk_cell h 0).trans rfl,(blk_cell h 1).trans rfl,(blk_cell h 2).trans rfl,blk_frozen h 0,blk_frozen h 1,blk_frozen h 2⟩
theorem impl_CompareFrac.cells4 {w : World} {g : Nat} {t : TypeId} {a0 a1 a2 a3 : Value} (h : w.heap[g]? = some (.cells #[a0,a1,a2,a3] t (0,0))) : w.cell? ⟨g,0,none⟩ = some a0 ∧ w.cell? ⟨g,1,none⟩ = some a1 ∧ w.cell? ⟨g,2,none⟩ = some a2 ∧ w.cell? ⟨g,3,none⟩ = some a3 ∧ w.frozen? ⟨g,0,none⟩ = false ∧ w.frozen? ⟨g,1,none⟩ = false ∧ w.frozen? ⟨g,2,none⟩ = false ∧ w.frozen? ⟨g,3,none⟩ = false := ⟨(blk_cell h 0).trans rfl,(blk_cell h 1).trans rfl,(blk_cell h 2).trans rfl,(blk_cell h 3).trans rfl,blk_frozen h 0,blk_frozen h 1,blk_frozen h 2,blk_frozen h 3⟩
def impl_CompareFrac.f (k : Nat) (a0_0 : Bool) (a0_1 : Int) (a0_2 : Int) (a0_3 : Int) (a1_0 : Bool) (a1_1 : Int) (a1_2 : Int) (a1_3 : Int) : Option (Int × Bool) := (impl_crossed.f k a0_0 a0_1 a0_2 a0_3 a1_0 a1_1 a1_2 a1_3).bind fun bt415 => (if bt415.2.2.2.2.2.2 = true then ((impl_CompareWide.f k bt415.1 bt415.2.1 bt415.2.2.1 bt415.2.2.2.1 bt415.2.2.2.2.1 bt415.2.2.2.2.2.1).bind fun t424 => (some (t424,true))) else (some (0,false)))
theorem impl_CompareFrac.mono : ∀ a0 a1 a2 a3 a4 a5 a6 a7 k,LeO (impl_CompareFrac.f k a0 a1 a2 a3 a4 a5 a6 a7) (impl_CompareFrac.f (k + 1) a0 a1 a2 a3 a4 a5 a6 a7) := by
  intro a0 a1 a2 a3 a4 a5 a6 a7 k
  unfold impl_CompareFrac.f
  repeat' first
      | (with_reducible exact impl_CompareWide.mono _ _ _ _ _ _ _)
      | (with_reducible exact impl_crossed.mono _ _ _ _ _ _ _ _ _)
      | (with_reducible exact LeO.refl _)
      | (with_reducible exact LeO.none _)
      | (with_reducible refine LeO.ite ?_ ?_)
      | (with_reducible refine LeO.bind ?_ (fun _ => ?_))
      | exact impl_CompareWide.mono _ _ _ _ _ _ _
      | exact impl_crossed.mono _ _ _ _ _ _ _ _ _
      | exact LeO.none _
      | refine LeO.ite ?_ ?_
      | refine LeO.bind ?_ (fun _ => ?_)
set_option maxHeartbeats 8000000 in
set_option maxRecDepth 100000 in
theorem impl_CompareFrac.calls (k : Nat) (a0_0 : Bool) (a0_1 : Int) (a0_2 : Int) (a0_3 : Int) (a1_0 : Bool) (a1_1 : Int) (a1_2 : Int) (a1_3 : Int) (r1 : Int) (r2 : Bool) (w : World) (h : impl_CompareFrac.f k a0_0 a0_1 a0_2 a0_3 a1_0 a1_1 a1_2 a1_3 = some (r1,r2)) :
    Calls Try.prog 35 #[.agg #[.bool a0_0,.int .u64 a0_1,.int .u64 a0_2,.int .i64 a0_3],.agg #[.bool a1_0,.int .u64 a1_1,.int .u64 a1_2,.int .i64 a1_3]] w fun e w' => e = .returned (.tuple #[.int .i64 r1,.bool r2]) ∧ Below w.heap.size w w' := by
  have hu30 := Try.underlying30
  have hu28 := Try.underlying28
  have HB := Aside0.mk (Below.refl w.heap.size w)
  have H : ((impl_crossed.f k a0_0 a0_1 a0_2 a0_3 a1_0 a1_1 a1_2 a1_3).bind fun bt415 => (if bt415.2.2.2.2.2.2 = true then ((impl_CompareWide.f k bt415.1 bt415.2.1 bt415.2.2.1 bt415.2.2.2.1 bt415.2.2.2.2.1 bt415.2.2.2.2.2.1).bind fun t424 => (some (t424,true))) else (some (0,false)))) = some (r1,r2) := h
  clear h
  obtain ⟨⟨t415,t416,t417,t418,t419,t420,t421⟩,A30,H⟩ := Option.bind_eq_some_iff.mp H
  try dsimp only at H
  have A3 := Aside0.mk A30
  clear A30
  by_cases c4 : t421 = true
  · subst c4
    have H1 : ((impl_CompareWide.f k t415 t416 t417 t418 t419 t420).bind fun t424 => (some (t424,true))) = some (r1,r2) := by rw [if_pos rfl] at H;exact H
    clear H
    have H := H1
    clear H1
    obtain ⟨t424,A50,H⟩ := Option.bind_eq_some_iff.mp H
    have A5 := Aside0.mk A50
    clear A50
    simp only [Option.some.injEq,Prod.mk.injEq] at H
    obtain ⟨rfl,rfl⟩ := H
    go_enter Try.func35,Try.ntmps35
    go_wp2_with (first | ((with_reducible refine gate_dst (N := 2) rfl ?_);refine box_event ?hg (N := 2) ?hd (cs := #[.bool a0_0,.int .u64 a0_1,.int .u64 a0_2,.int .i64 a0_3]) (t := 30) ?hr ?_;(case hd => rfl);(case hg => rfl);(case hr => exact Z393);intro gb413 hg w6 hbox hb;have n_ := jA (below_step Z476 hb) (jA (hbox) (jA ((Z345 : w.heap.size ≤ gb413)) (Aside0.mk ((Z345 : w.heap.size ≤ gb413)))));clear HB;obtain ⟨HB,BK413,GW413,GE413⟩ := n_;clear hb hbox hg) | ((with_reducible refine gate_dst (N := 3) rfl ?_);refine box_event ?hg (N := 3) ?hd (cs := #[.bool a1_0,.int .u64 a1_1,.int .u64 a1_2,.int .i64 a1_3]) (t := 30) ?hr ?_;(case hd => rfl);(case hg => rfl);(case hr => exact Z393);intro gb414 hg w7 hbox hb;have n_ := jA (blk_below (g := gb413) (o := .cells #[.bool a0_0,.int .u64 a0_1,.int .u64 a0_2,.int .i64 a0_3] 30 (0,0)) Z509 hb) (jA (below_step Z458 hb) (jA (hbox) (jA ((Z322 : w.heap.size ≤ gb414)) (jA ((Z322 : w.heap.size ≤ gb414)) (jA ((Z196 : gb413 ≠ gb414)) (Aside0.mk ((Z201 : gb414 ≠ gb413))))))));clear BK413 HB;obtain ⟨BK413,HB,BK414,GW414,GE414,NB413_414,NB414_413⟩ := n_;clear hb hbox hg;have hnb8 := NB413_414.out;have hnc8 := NB414_413.out;obtain ⟨hcz9_0,hcz9_1,hcz9_2,hcz9_3,hfz9_0,hfz9_1,hfz9_2,hfz9_3⟩ := impl_CompareFrac.cells4 BK413.out;obtain ⟨hcz10_0,hcz10_1,hcz10_2,hcz10_3,hfz10_0,hfz10_1,hfz10_2,hfz10_3⟩ := impl_CompareFrac.cells4 BK414.out) | ((with_reducible refine gate_callee (f := 48) rfl ?_);refine goesL_ (some 12) rfl rfl Try.func48 Z396 rfl #[.agg #[.bool a0_0,.int .u64 a0_1,.int .u64 a0_2,.int .i64 a0_3],.agg #[.bool a1_0,.int .u64 a1_1,.int .u64 a1_2,.int .i64 a1_3]] rfl Z353 ?_;(with_reducible refine (impl_crossed.calls k a0_0 a0_1 a0_2 a0_3 a1_0 a1_1 a1_2 a1_3 t415 t416 t417 t418 t419 t420 true _ A3.out).mono ?_);rintro e w11 ⟨rfl,hb⟩;refine ⟨_,rfl,?_⟩;have n_ := jA (blk_below (g := gb413) (o := .cells #[.bool a0_0,.int .u64 a0_1,.int .u64 a0_2,.int .i64 a0_3] 30 (0,0)) Z509 hb) (jA (blk_below (g := gb414) (o := .cells #[.bool a1_0,.int .u64 a1_1,.int .u64 a1_2,.int .i64 a1_3] 30 (0,0)) Z514 hb) (Aside0.mk (below_step Z433 hb)));clear BK413 BK414 HB;obtain ⟨BK413,BK414,HB⟩ := n_;(try clear hb);(try clear hb2);(try clear hk);(try clear hi)) | ((with_reducible refine gate_dst (N := 6) rfl ?_);refine box_event ?hg (N := 6) ?hd (cs := #[.bool false,.int .u64 0,.int .u64 0]) (t := 28) ?hr ?_;(case hd => rfl);(case hg => rfl);(case hr => exact Z393);intro gb422 hg w12 hbox hb;have n_ := jA (blk_below (g := gb413) (o := .cells #[.bool a0_0,.int .u64 a0_1,.int .u64 a0_2,.int .i64 a0_3] 30 (0,0)) Z509 hb) (jA (blk_below (g := gb414) (o := .cells #[.bool a1_0,.int .u64 a1_1,.int .u64 a1_2,.int .i64 a1_3] 30 (0,0)) Z514 hb) (jA (below_step Z433 hb) (jA (hbox) (jA ((Z223 : w.heap.size ≤ gb422)) (jA ((Z223 : w.heap.size ≤ gb422)) (jA ((Z196 : gb413 ≠ gb422)) (jA ((Z201 : gb422 ≠ gb413)) (jA ((Z205 : gb414 ≠ gb422)) (Aside0.mk ((Z207 : gb422 ≠ gb414)))))))))));clear BK413 BK414 HB;obtain ⟨BK413,BK414,HB,BK422,GW422,GE422,NB413_422,NB422_413,NB414_422,NB422_414⟩ := n_;clear hb hbox hg) | ((with_reducible refine gate_dst (N := 7) rfl ?_);refine box_event ?hg (N := 7) ?hd (cs := #[.bool false,.int .u64 0,.int .u64 0]) (t := 28) ?hr ?_;(case hd => rfl);(case hg => rfl);(case hr => exact Z393);intro gb423 hg w13 hbox hb;have n_ := jA (blk_below (g := gb413) (o := .cells #[.bool a0_0,.int .u64 a0_1,.int .u64 a0_2,.int .i64 a0_3] 30 (0,0)) Z509 hb) (jA (blk_below (g := gb414) (o := .cells #[.bool a1_0,.int .u64 a1_1,.int .u64 a1_2,.int .i64 a1_3] 30 (0,0)) Z514 hb) (jA (blk_below (g := gb422) (o := .cells #[.bool false,.int .u64 0,.int .u64 0] 28 (0,0)) Z526 hb) (jA (below_step Z423 hb) (jA (hbox) (jA ((Z170 : w.heap.size ≤ gb423)) (jA ((Z170 : w.heap.size ≤ gb423)) (jA ((Z196 : gb413 ≠ gb423)) (jA ((Z201 : gb423 ≠ gb413)) (jA ((Z205 : gb414 ≠ gb423)) (jA ((Z207 : gb423 ≠ gb414)) (jA ((Z294 : gb422 ≠ gb423)) (Aside0.mk ((Z297 : gb423 ≠ gb422))))))))))))));clear BK413 BK414 BK422 HB;obtain ⟨BK413,BK414,BK422,HB,BK423,GW423,GE423,NB413_423,NB423_413,NB414_423,NB423_414,NB422_423,NB423_422⟩ := n_;clear hb hbox hg;have hnb14 := NB422_413.out;have hnc14 := NB413_422.out;have hnb15 := NB422_414.out;have hnc15 := NB414_422.out;have hnb16 := NB422_423.out;have hnc16 := NB423_422.out;obtain ⟨hcz17_0,hcz17_1,hcz17_2,hfz17_0,hfz17_1,hfz17_2⟩ := impl_CompareFrac.cells3 BK422.out;have hnb18 := NB423_413.out;have hnc18 := NB413_423.out;have hnb19 := NB423_414.out;have hnc19 := NB414_423.out;obtain ⟨hcz20_0,hcz20_1,hcz20_2,hfz20_0,hfz20_1,hfz20_2⟩ := impl_CompareFrac.cells3 BK423.out) | ((with_reducible refine gate_callee (f := 54) rfl ?_);refine goesL_ (some 20) rfl rfl Try.func54 Z396 rfl #[.agg #[.bool t415,.int .u64 t416,.int .u64 t417],.agg #[.bool t418,.int .u64 t419,.int .u64 t420]] rfl Z353 ?_;(with_reducible refine (impl_CompareWide.calls k t415 t416 t417 t418 t419 t420 t424 _ A5.out).mono ?_);rintro e w21 ⟨rfl,hb⟩;refine ⟨_,rfl,?_⟩;have n_ := jA (blk_below (g := gb413) (o := .cells #[.bool a0_0,.int .u64 a0_1,.int .u64 a0_2,.int .i64 a0_3] 30 (0,0)) (by (with_reducible repeat (first | refine bA ?_ _ | refine bB ?_ | refine bC ?_ _));refine blk_far ?_ NB413_423.out _;(with_reducible repeat (first | refine bA ?_ _ | refine bB ?_ | refine bC ?_ _));refine blk_far ?_ NB413_423.out _;(with_reducible repeat (first | refine bA ?_ _ | refine bB ?_ | refine bC ?_ _));refine blk_far ?_ NB413_423.out _;(with_reducible repeat (first | refine bA ?_ _ | refine bB ?_ | refine bC ?_ _));refine blk_far ?_ NB413_422.out _;(with_reducible repeat (first | refine bA ?_ _ | refine bB ?_ | refine bC ?_ _));refine blk_far ?_ NB413_422.out _;(with_reducible repeat (first | refine bA ?_ _ | refine bB ?_ | refine bC ?_ _));refine blk_far ?_ NB413_422.out _;(with_reducible repeat (first | refine bA ?_ _ | refine bB ?_ | refine bC ?_ _));exact BK413.out) hb) (jA (blk_below (g := gb414) (o := .cells #[.bool a1_0,.int .u64 a1_1,.int .u64 a1_2,.int .i64 a1_3] 30 (0,0)) (by (with_reducible repeat (first | refine bA ?_ _ | refine bB ?_ | refine bC ?_ _));refine blk_far ?_ NB414_423.out _;(with_reducible repeat (first | refine bA ?_ _ | refine bB ?_ | refine bC ?_ _));refine blk_far ?_ NB414_423.out _;(with_reducible repeat (first | refine bA ?_ _ | refine bB ?_ | refine bC ?_ _));refine blk_far ?_ NB414_423.out _;(with_reducible repeat (first | refine bA ?_ _ | refine bB ?_ | refine bC ?_ _));refine blk_far ?_ NB414_422.out _;(with_reducible repeat (first | refine bA ?_ _ | refine bB ?_ | refine bC ?_ _));refine blk_far ?_ NB414_422.out _;(with_reducible repeat (first | refine bA ?_ _ | refine bB ?_ | refine bC ?_ _));refine blk_far ?_ NB414_422.out _;(with_reducible repeat (first | refine bA ?_ _ | refine bB ?_ | refine bC ?_ _));exact BK414.out) hb) (jA (blk_below (g := gb422) (o := .cells #[.bool t415,.int .u64 t416,.int .u64 t417] 28 (0,0)) (by (with_reducible repeat (first | refine bA ?_ _ | refine bB ?_ | refine bC ?_ _));refine blk_far ?_ NB422_423.out _;(with_reducible repeat (first | refine bA ?_ _ | refine bB ?_ | refine bC ?_ _));refine blk_far ?_ NB422_423.out _;(with_reducible repeat (first | refine bA ?_ _ | refine bB ?_ | refine bC ?_ _));refine blk_far ?_ NB422_423.out _;(with_reducible repeat (first | refine bA ?_ _ | refine bB ?_ | refine bC ?_ _));refine blk_put (cs := #[.bool t415,.int .u64 t416,.int .u64 0]) ?_ 2 _ rfl;(with_reducible repeat (first | refine bA ?_ _ | refine bB ?_ | refine bC ?_ _));refine blk_put (cs := #[.bool t415,.int .u64 0,.int .u64 0]) ?_ 1 _ rfl;(with_reducible repeat (first | refine bA ?_ _ | refine bB ?_ | refine bC ?_ _));refine blk_put (cs := #[.bool false,.int .u64 0,.int .u64 0]) ?_ 0 _ rfl;(with_reducible repeat (first | refine bA ?_ _ | refine bB ?_ | refine bC ?_ _));exact BK422.out) hb) (jA (blk_below (g := gb423) (o := .cells #[.bool t418,.int .u64 t419,.int .u64 t420] 28 (0,0)) (by (with_reducible repeat (first | refine bA ?_ _ | refine bB ?_ | refine bC ?_ _));refine blk_put (cs := #[.bool t418,.int .u64 t419,.int .u64 0]) ?_ 2 _ rfl;(with_reducible repeat (first | refine bA ?_ _ | refine bB ?_ | refine bC ?_ _));refine blk_put (cs := #[.bool t418,.int .u64 0,.int .u64 0]) ?_ 1 _ rfl;(with_reducible repeat (first | refine bA ?_ _ | refine bB ?_ | refine bC ?_ _));refine blk_put (cs := #[.bool false,.int .u64 0,.int .u64 0]) ?_ 0 _ rfl;(with_reducible repeat (first | refine bA ?_ _ | refine bB ?_ | refine bC ?_ _));refine blk_far ?_ NB423_422.out _;(with_reducible repeat (first | refine bA ?_ _ | refine bB ?_ | refine bC ?_ _));refine blk_far ?_ NB423_422.out _;(with_reducible repeat (first | refine bA ?_ _ | refine bB ?_ | refine bC ?_ _));refine blk_far ?_ NB423_422.out _;(with_reducible repeat (first | refine bA ?_ _ | refine bB ?_ | refine bC ?_ _));exact BK423.out) hb) (Aside0.mk (below_step Z173 hb)))));clear BK413 BK414 BK422 BK423 HB;obtain ⟨BK413,BK414,BK422,BK423,HB⟩ := n_;(try clear hb);(try clear hb2);(try clear hk);(try clear hi)))
    go_ret2
    exact ⟨Z385,Z173⟩
  · replace c4 := Bool.eq_false_iff.mpr c4
    subst c4
    have H1 : (some (0,false)) = some (r1,r2) := by rw [if_neg (show ¬ (false = true) by decide)] at H;exact H
    clear H
    have H := H1
    clear H1
    simp only [Option.some.injEq,Prod.mk.injEq] at H
    obtain ⟨rfl,rfl⟩ := H
    go_enter Try.func35,Try.ntmps35
    go_wp2_with (first | ((with_reducible refine gate_dst (N := 2) rfl ?_);refine box_event ?hg (N := 2) ?hd (cs := #[.bool a0_0,.int .u64 a0_1,.int .u64 a0_2,.int .i64 a0_3]) (t := 30) ?hr ?_;(case hd => rfl);(case hg => rfl);(case hr => exact Z393);intro gb413 hg w22 hbox hb;have n_ := jA (below_step Z476 hb) (jA (hbox) (jA ((Z345 : w.heap.size ≤ gb413)) (Aside0.mk ((Z345 : w.heap.size ≤ gb413)))));clear HB;obtain ⟨HB,BK413,GW413,GE413⟩ := n_;clear hb hbox hg) | ((with_reducible refine gate_dst (N := 3) rfl ?_);refine box_event ?hg (N := 3) ?hd (cs := #[.bool a1_0,.int .u64 a1_1,.int .u64 a1_2,.int .i64 a1_3]) (t := 30) ?hr ?_;(case hd => rfl);(case hg => rfl);(case hr => exact Z393);intro gb414 hg w23 hbox hb;have n_ := jA (blk_below (g := gb413) (o := .cells #[.bool a0_0,.int .u64 a0_1,.int .u64 a0_2,.int .i64 a0_3] 30 (0,0)) Z509 hb) (jA (below_step Z458 hb) (jA (hbox) (jA ((Z322 : w.heap.size ≤ gb414)) (jA ((Z322 : w.heap.size ≤ gb414)) (jA ((Z196 : gb413 ≠ gb414)) (Aside0.mk ((Z201 : gb414 ≠ gb413))))))));clear BK413 HB;obtain ⟨BK413,HB,BK414,GW414,GE414,NB413_414,NB414_413⟩ := n_;clear hb hbox hg;have hnb24 := NB413_414.out;have hnc24 := NB414_413.out;obtain ⟨hcz25_0,hcz25_1,hcz25_2,hcz25_3,hfz25_0,hfz25_1,hfz25_2,hfz25_3⟩ := impl_CompareFrac.cells4 BK413.out;obtain ⟨hcz26_0,hcz26_1,hcz26_2,hcz26_3,hfz26_0,hfz26_1,hfz26_2,hfz26_3⟩ := impl_CompareFrac.cells4 BK414.out) | ((with_reducible refine gate_callee (f := 48) rfl ?_);refine goesL_ (some 12) rfl rfl Try.func48 Z396 rfl #[.agg #[.bool a0_0,.int .u64 a0_1,.int .u64 a0_2,.int .i64 a0_3],.agg #[.bool a1_0,.int .u64 a1_1,.int .u64 a1_2,.int .i64 a1_3]] rfl Z353 ?_;(with_reducible refine (impl_crossed.calls k a0_0 a0_1 a0_2 a0_3 a1_0 a1_1 a1_2 a1_3 t415 t416 t417 t418 t419 t420 false _ A3.out).mono ?_);rintro e w27 ⟨rfl,hb⟩;refine ⟨_,rfl,?_⟩;have n_ := jA (blk_below (g := gb413) (o := .cells #[.bool a0_0,.int .u64 a0_1,.int .u64 a0_2,.int .i64 a0_3] 30 (0,0)) Z509 hb) (jA (blk_below (g := gb414) (o := .cells #[.bool a1_0,.int .u64 a1_1,.int .u64 a1_2,.int .i64 a1_3] 30 (0,0)) Z514 hb) (Aside0.mk (below_step Z433 hb)));clear BK413 BK414 HB;obtain ⟨BK413,BK414,HB⟩ := n_;(try clear hb);(try clear hb2);(try clear hk);(try clear hi)) | ((with_reducible refine gate_dst (N := 6) rfl ?_);refine box_event ?hg (N := 6) ?hd (cs := #[.bool false,.int .u64 0,.int .u64 0]) (t := 28) ?hr ?_;(case hd => rfl);(case hg => rfl);(case hr => exact Z393);intro gb422 hg w28 hbox hb;have n_ := jA (blk_below (g := gb413) (o := .cells #[.bool a0_0,.int .u64 a0_1,.int .u64 a0_2,.int .i64 a0_3] 30 (0,0)) Z509 hb) (jA (blk_below (g := gb414) (o := .cells #[.bool a1_0,.int .u64 a1_1,.int .u64 a1_2,.int .i64 a1_3] 30 (0,0)) Z514 hb) (jA (below_step Z433 hb) (jA (hbox) (jA ((Z223 : w.heap.size ≤ gb422)) (jA ((Z223 : w.heap.size ≤ gb422)) (jA ((Z196 : gb413 ≠ gb422)) (jA ((Z201 : gb422 ≠ gb413)) (jA ((Z205 : gb414 ≠ gb422)) (Aside0.mk ((Z207 : gb422 ≠ gb414)))))))))));clear BK413 BK414 HB;obtain ⟨BK413,BK414,HB,BK422,GW422,GE422,NB413_422,NB422_413,NB414_422,NB422_414⟩ := n_;clear hb hbox hg) | ((with_reducible refine gate_dst (N := 7) rfl ?_);refine box_event ?hg (N := 7) ?hd (cs := #[.bool false,.int .u64 0,.int .u64 0]) (t := 28) ?hr ?_;(case hd => rfl);(case hg => rfl);(case hr => exact Z393);intro gb423 hg w29 hbox hb;have n_ := jA (blk_below (g := gb413) (o := .cells #[.bool a0_0,.int .u64 a0_1,.int .u64 a0_2,.int .i64 a0_3] 30 (0,0)) Z509 hb) (jA (blk_below (g := gb414) (o := .cells #[.bool a1_0,.int .u64 a1_1,.int .u64 a1_2,.int .i64 a1_3] 30 (0,0)) Z514 hb) (jA (blk_below (g := gb422) (o := .cells #[.bool false,.int .u64 0,.int .u64 0] 28 (0,0)) Z526 hb) (jA (below_step Z423 hb) (jA (hbox) (jA ((Z170 : w.heap.size ≤ gb423)) (jA ((Z170 : w.heap.size ≤ gb423)) (jA ((Z196 : gb413 ≠ gb423)) (jA ((Z201 : gb423 ≠ gb413)) (jA ((Z205 : gb414 ≠ gb423)) (jA ((Z207 : gb423 ≠ gb414)) (jA ((Z294 : gb422 ≠ gb423)) (Aside0.mk ((Z297 : gb423 ≠ gb422))))))))))))));clear BK413 BK414 BK422 HB;obtain ⟨BK413,BK414,BK422,HB,BK423,GW423,GE423,NB413_423,NB423_413,NB414_423,NB423_414,NB422_423,NB423_422⟩ := n_;clear hb hbox hg;have hnb30 := NB422_413.out;have hnc30 := NB413_422.out;have hnb31 := NB422_414.out;have hnc31 := NB414_422.out;have hnb32 := NB422_423.out;have hnc32 := NB423_422.out;obtain ⟨hcz33_0,hcz33_1,hcz33_2,hfz33_0,hfz33_1,hfz33_2⟩ := impl_CompareFrac.cells3 BK422.out;have hnb34 := NB423_413.out;have hnc34 := NB413_423.out;have hnb35 := NB423_414.out;have hnc35 := NB414_423.out;obtain ⟨hcz36_0,hcz36_1,hcz36_2,hfz36_0,hfz36_1,hfz36_2⟩ := impl_CompareFrac.cells3 BK423.out))
    go_ret2
    exact ⟨Z385,Z173⟩

/-! ### cmp_isNaN_int: function 74 -/
def cmp_isNaN_int.f (a0 : Int) : Option (Bool) := some (a0 != a0)
set_option maxHeartbeats 8000000 in
set_option maxRecDepth 100000 in
theorem cmp_isNaN_int.calls (a0 : Int) (r : Bool) (w : World) (h : cmp_isNaN_int.f a0 = some r) :
    Calls Try.prog 74 #[.int .i64 a0] w fun e w' => e = .returned (.bool r) ∧ Drawn0 w w' := by
  have H : (some (a0 != a0)) = some r := h
  clear h
  obtain rfl := Option.some.inj H
  go_enter Try.func74,Try.ntmps74
  go_wp2
  go_ret
  exact ⟨Z392,Z388⟩

/-! ### cmp_Compare_int: function 56 -/
def cmp_Compare_int.f (a0 : Int) (a1 : Int) : Option (Int) := (cmp_isNaN_int.f a0).bind fun t425 => ((cmp_isNaN_int.f a1).bind fun t426 => (if t425 = true then (if t426 = true then (some 0) else (some (-1))) else (if t426 = true then (some 1) else (if a0 < a1 then (some (-1)) else (if a0 > a1 then (some 1) else (some 0))))))
set_option maxHeartbeats 8000000 in
set_option maxRecDepth 100000 in
theorem cmp_Compare_int.calls (a0 : Int) (a1 : Int) (r : Int) (w : World) (h : cmp_Compare_int.f a0 a1 = some r) :
    Calls Try.prog 56 #[.int .i64 a0,.int .i64 a1] w fun e w' => e = .returned (.int .i64 r) ∧ Drawn0 w w' := by
  have H : ((cmp_isNaN_int.f a0).bind fun t425 => ((cmp_isNaN_int.f a1).bind fun t426 => (if t425 = true then (if t426 = true then (some 0) else (some (-1))) else (if t426 = true then (some 1) else (if a0 < a1 then (some (-1)) else (if a0 > a1 then (some 1) else (some 0))))))) = some r := h
  clear h
  obtain ⟨t425,A30,H⟩ := Option.bind_eq_some_iff.mp H
  have A3 := Aside0.mk A30
  clear A30
  obtain ⟨t426,A40,H⟩ := Option.bind_eq_some_iff.mp H
  have A4 := Aside0.mk A40
  clear A40
  by_cases c5 : t425 = true
  · subst c5
    have H1 : (if t426 = true then (some 0) else (some (-1))) = some r := by rw [if_pos rfl] at H;exact H
    clear H
    have H := H1
    clear H1
    by_cases c6 : t426 = true
    · subst c6
      have H1 : (some 0) = some r := by rw [if_pos rfl] at H;exact H
      clear H
      have H := H1
      clear H1
      obtain rfl := Option.some.inj H
      go_enter Try.func56,Try.ntmps56
      go_wp2_with (first | ((with_reducible refine gate_callee (f := 74) rfl ?_);refine goesL_ (some 8) rfl rfl Try.func74 Z396 rfl #[.int .i64 a0] rfl Z353 ?_;(with_reducible refine (cmp_isNaN_int.calls a0 true _ A3.out).mono ?_);rintro e w' ⟨rfl,⟨nd,rfl⟩⟩;refine ⟨_,rfl,?_⟩) | ((with_reducible refine gate_callee (f := 74) rfl ?_);refine goesL_ (some 10) rfl rfl Try.func74 Z396 rfl #[.int .i64 a1] rfl Z353 ?_;(with_reducible refine (cmp_isNaN_int.calls a1 true _ A4.out).mono ?_);rintro e w' ⟨rfl,⟨nd,rfl⟩⟩;refine ⟨_,rfl,?_⟩))
      go_ret
      exact ⟨Z392,Z388⟩
    · replace c6 := Bool.eq_false_iff.mpr c6
      subst c6
      have H1 : (some (-1)) = some r := by rw [if_neg (show ¬ (false = true) by decide)] at H;exact H
      clear H
      have H := H1
      clear H1
      obtain rfl := Option.some.inj H
      go_enter Try.func56,Try.ntmps56
      go_wp2_with (first | ((with_reducible refine gate_callee (f := 74) rfl ?_);refine goesL_ (some 8) rfl rfl Try.func74 Z396 rfl #[.int .i64 a0] rfl Z353 ?_;(with_reducible refine (cmp_isNaN_int.calls a0 true _ A3.out).mono ?_);rintro e w' ⟨rfl,⟨nd,rfl⟩⟩;refine ⟨_,rfl,?_⟩) | ((with_reducible refine gate_callee (f := 74) rfl ?_);refine goesL_ (some 10) rfl rfl Try.func74 Z396 rfl #[.int .i64 a1] rfl Z353 ?_;(with_reducible refine (cmp_isNaN_int.calls a1 false _ A4.out).mono ?_);rintro e w' ⟨rfl,⟨nd,rfl⟩⟩;refine ⟨_,rfl,?_⟩))
      go_ret
      exact ⟨Z392,Z388⟩
  · replace c5 := Bool.eq_false_iff.mpr c5
    subst c5
    have H1 : (if t426 = true then (some 1) else (if a0 < a1 then (some (-1)) else (if a0 > a1 then (some 1) else (some 0)))) = some r := by rw [if_neg (show ¬ (false = true) by decide)] at H;exact H
    clear H
    have H := H1
    clear H1
    by_cases c7 : t426 = true
    · subst c7
      have H1 : (some 1) = some r := by rw [if_pos rfl] at H;exact H
      clear H
      have H := H1
      clear H1
      obtain rfl := Option.some.inj H
      go_enter Try.func56,Try.ntmps56
      go_wp2_with (first | ((with_reducible refine gate_callee (f := 74) rfl ?_);refine goesL_ (some 8) rfl rfl Try.func74 Z396 rfl #[.int .i64 a0] rfl Z353 ?_;(with_reducible refine (cmp_isNaN_int.calls a0 false _ A3.out).mono ?_);rintro e w' ⟨rfl,⟨nd,rfl⟩⟩;refine ⟨_,rfl,?_⟩) | ((with_reducible refine gate_callee (f := 74) rfl ?_);refine goesL_ (some 10) rfl rfl Try.func74 Z396 rfl #[.int .i64 a1] rfl Z353 ?_;(with_reducible refine (cmp_isNaN_int.calls a1 true _ A4.out).mono ?_);rintro e w' ⟨rfl,⟨nd,rfl⟩⟩;refine ⟨_,rfl,?_⟩))
      go_ret
      exact ⟨Z392,Z388⟩
    · replace c7 := Bool.eq_false_iff.mpr c7
      subst c7
      have H1 : (if a0 < a1 then (some (-1)) else (if a0 > a1 then (some 1) else (some 0))) = some r := by rw [if_neg (show ¬ (false = true) by decide)] at H;exact H
      clear H
      have H := H1
      clear H1
      by_cases c8 : a0 < a1
      · rw [if_pos c8] at H
        have c8b0 : decide (a0 < a1) = true := decide_eq_true c8
        clear c8
        obtain rfl := Option.some.inj H
        go_enter Try.func56,Try.ntmps56
        go_wp2_with (first | ((with_reducible refine gate_callee (f := 74) rfl ?_);refine goesL_ (some 8) rfl rfl Try.func74 Z396 rfl #[.int .i64 a0] rfl Z353 ?_;(with_reducible refine (cmp_isNaN_int.calls a0 false _ A3.out).mono ?_);rintro e w' ⟨rfl,⟨nd,rfl⟩⟩;refine ⟨_,rfl,?_⟩) | ((with_reducible refine gate_callee (f := 74) rfl ?_);refine goesL_ (some 10) rfl rfl Try.func74 Z396 rfl #[.int .i64 a1] rfl Z353 ?_;(with_reducible refine (cmp_isNaN_int.calls a1 false _ A4.out).mono ?_);rintro e w' ⟨rfl,⟨nd,rfl⟩⟩;refine ⟨_,rfl,?_⟩))
        go_ret
        exact ⟨Z392,Z388⟩
      · rw [if_neg c8] at H
        have c8b0 : decide (a0 < a1) = false := decide_eq_false c8
        clear c8
        by_cases c9 : a0 > a1
        · rw [if_pos c9] at H
          have c9b0 : decide (a1 < a0) = true := decide_eq_true c9
          clear c9
          obtain rfl := Option.some.inj H
          go_enter Try.func56,Try.ntmps56
          go_wp2_with (first | ((with_reducible refine gate_callee (f := 74) rfl ?_);refine goesL_ (some 8) rfl rfl Try.func74 Z396 rfl #[.int .i64 a0] rfl Z353 ?_;(with_reducible refine (cmp_isNaN_int.calls a0 false _ A3.out).mono ?_);rintro e w' ⟨rfl,⟨nd,rfl⟩⟩;refine ⟨_,rfl,?_⟩) | ((with_reducible refine gate_callee (f := 74) rfl ?_);refine goesL_ (some 10) rfl rfl Try.func74 Z396 rfl #[.int .i64 a1] rfl Z353 ?_;(with_reducible refine (cmp_isNaN_int.calls a1 false _ A4.out).mono ?_);rintro e w' ⟨rfl,⟨nd,rfl⟩⟩;refine ⟨_,rfl,?_⟩))
          go_ret
          exact ⟨Z392,Z388⟩
        · rw [if_neg c9] at H
          have c9b0 : decide (a1 < a0) = false := decide_eq_false c9
          clear c9
          obtain rfl := Option.some.inj H
          go_enter Try.func56,Try.ntmps56
          go_wp2_with (first | ((with_reducible refine gate_callee (f := 74) rfl ?_);refine goesL_ (some 8) rfl rfl Try.func74 Z396 rfl #[.int .i64 a0] rfl Z353 ?_;(with_reducible refine (cmp_isNaN_int.calls a0 false _ A3.out).mono ?_);rintro e w' ⟨rfl,⟨nd,rfl⟩⟩;refine ⟨_,rfl,?_⟩) | ((with_reducible refine gate_callee (f := 74) rfl ?_);refine goesL_ (some 10) rfl rfl Try.func74 Z396 rfl #[.int .i64 a1] rfl Z353 ?_;(with_reducible refine (cmp_isNaN_int.calls a1 false _ A4.out).mono ?_);rintro e w' ⟨rfl,⟨nd,rfl⟩⟩;refine ⟨_,rfl,?_⟩))
          go_ret
          exact ⟨Z392,Z388⟩

end Go.Proofs.Ytjcjehnjbgklbaa.QFnExactBetter
