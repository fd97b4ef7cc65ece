/- The machine side of FnImproves: what each Go function that it reaches comes to. Conditions: none. -/
import Derived.Test.YtjcjehnjbgklbaaQFnImprovesx0
import Derived.Test.YtjcjehnjbgklbaaQFnImprovesx6
import Derived.Test.YtjcjehnjbgklbaaQFnImprovesx7
import Derived.Test.YtjcjehnjbgklbaaQFnImprovesx8
namespace Go.Proofs.Ytjcjehnjbgklbaa.QFnImproves
open Go.RowKit Go.Proofs.YtjcjehnjbgklbaaW.PrintWords Go.Proofs.YtjcjehnjbgklbaaW.PrintLast Go.Proofs.YtjcjehnjbgklbaaW.PrintMore
attribute [local go_sem] max2_int min2_int max_two min_two max_three min_three max_four min_four   -- for this text's walks alone
set_option linter.unusedVariables false
set_option linter.unusedSimpArgs false

/-! ### impl_CompareWide: function 54 -/
theorem impl_CompareWide.cells3 {w : World} {g : Nat} {t : TypeId} {a0 a1 a2 : Value} (h : w.heap[g]? = some (.cells #[a0,a1,a2] t (0,0))) : w.cell? ⟨g,0,none⟩ = some a0 ∧ w.cell? ⟨g,1,none⟩ = some a1 ∧ w.cell? ⟨g,2,none⟩ = some a2 ∧ w.frozen? ⟨g,0,none⟩ = false ∧ w.frozen? ⟨g,1,none⟩ = false ∧ w.frozen? ⟨g,2,none⟩ = false := ⟨(blk_cell h 0).trans rfl,(blk_cell h 1).trans rfl,(blk_cell h 2).trans rfl,blk_frozen h 0,blk_frozen h 1,blk_frozen h 2⟩
mutual
def impl_CompareWide.j0 : Nat → Bool → Bool → Int → Int → Bool → Int → Int → Option (Int)
  | 0,_,_,_,_,_,_,_ => none
  | k + 1,x19,x406000,x406001,x406002,x407000,x407001,x407002 => if x19 = true then (some (-1)) else (if x407000 = true then (impl_CompareWide.j1 k (!x406000) x406000 x406001 x406002 x407000 x407001 x407002) else (impl_CompareWide.j1 k false x406000 x406001 x406002 x407000 x407001 x407002))
def impl_CompareWide.j1 : Nat → Bool → Bool → Int → Int → Bool → Int → Int → Option (Int)
  | 0,_,_,_,_,_,_,_ => none
  | k + 1,x27,x406000,x406001,x406002,x407000,x407001,x407002 => if x27 = true then (some 1) else (if x406000 = true then ((impl_compareSizes.f k x407000 x407001 x407002 x406000 x406001 x406002).bind fun t413 => (some t413)) else ((impl_compareSizes.f k x406000 x406001 x406002 x407000 x407001 x407002).bind fun t414 => (some t414)))
end
def impl_CompareWide.f (k : Nat) (a0_0 : Bool) (a0_1 : Int) (a0_2 : Int) (a1_0 : Bool) (a1_1 : Int) (a1_2 : Int) : Option (Int) := (impl_wideOf.f a0_0 a0_1 a0_2).bind fun bt407 => ((impl_wideOf.f a1_0 a1_1 a1_2).bind fun bt410 => (if bt407.1 = true then (impl_CompareWide.j0 k (!bt410.1) bt407.1 bt407.2.1 bt407.2.2 bt410.1 bt410.2.1 bt410.2.2) else (impl_CompareWide.j0 k false bt407.1 bt407.2.1 bt407.2.2 bt410.1 bt410.2.1 bt410.2.2)))
theorem impl_CompareWide.mono_l : ∀ k,(∀ y0 y1 y2 y3 y4 y5 y6,LeO (impl_CompareWide.j0 k y0 y1 y2 y3 y4 y5 y6) (impl_CompareWide.j0 (k + 1) y0 y1 y2 y3 y4 y5 y6)) ∧ (∀ y0 y1 y2 y3 y4 y5 y6,LeO (impl_CompareWide.j1 k y0 y1 y2 y3 y4 y5 y6) (impl_CompareWide.j1 (k + 1) y0 y1 y2 y3 y4 y5 y6))
  | 0 => ⟨fun _ _ _ _ _ _ _ r h => by simp [impl_CompareWide.j0] at h,fun _ _ _ _ _ _ _ r h => by simp [impl_CompareWide.j1] at h⟩
  | k + 1 => by
    obtain ⟨ih0,ih1⟩ := impl_CompareWide.mono_l k
    refine ⟨?_,?_⟩
    · intro y0 y1 y2 y3 y4 y5 y6
      unfold impl_CompareWide.j0
      repeat' first
      | (with_reducible exact ih0 _ _ _ _ _ _ _)
      | (with_reducible exact ih1 _ _ _ _ _ _ _)
      | (with_reducible exact impl_compareSizes.mono _ _ _ _ _ _ _)
      | (with_reducible exact LeO.refl _)
      | (with_reducible exact LeO.none _)
      | (with_reducible refine LeO.ite ?_ ?_)
      | (with_reducible refine LeO.bind ?_ (fun _ => ?_))
      | exact ih0 _ _ _ _ _ _ _
      | exact ih1 _ _ _ _ _ _ _
      | exact impl_compareSizes.mono _ _ _ _ _ _ _
      | exact LeO.none _
      | refine LeO.ite ?_ ?_
      | refine LeO.bind ?_ (fun _ => ?_)
    · intro y0 y1 y2 y3 y4 y5 y6
      unfold impl_CompareWide.j1
      repeat' first
      | (with_reducible exact ih0 _ _ _ _ _ _ _)
      | (with_reducible exact ih1 _ _ _ _ _ _ _)
      | (with_reducible exact impl_compareSizes.mono _ _ _ _ _ _ _)
      | (with_reducible exact LeO.refl _)
      | (with_reducible exact LeO.none _)
      | (with_reducible refine LeO.ite ?_ ?_)
      | (with_reducible refine LeO.bind ?_ (fun _ => ?_))
      | exact ih0 _ _ _ _ _ _ _
      | exact ih1 _ _ _ _ _ _ _
      | exact impl_compareSizes.mono _ _ _ _ _ _ _
      | exact LeO.none _
      | refine LeO.ite ?_ ?_
      | refine LeO.bind ?_ (fun _ => ?_)
theorem impl_CompareWide.mono : ∀ a0 a1 a2 a3 a4 a5 k,LeO (impl_CompareWide.f k a0 a1 a2 a3 a4 a5) (impl_CompareWide.f (k + 1) a0 a1 a2 a3 a4 a5) := by
  intro a0 a1 a2 a3 a4 a5 k
  obtain ⟨ih0,ih1⟩ := impl_CompareWide.mono_l k
  unfold impl_CompareWide.f
  repeat' first
      | (with_reducible exact ih0 _ _ _ _ _ _ _)
      | (with_reducible exact ih1 _ _ _ _ _ _ _)
      | (with_reducible exact impl_compareSizes.mono _ _ _ _ _ _ _)
      | (with_reducible exact LeO.refl _)
      | (with_reducible exact LeO.none _)
      | (with_reducible refine LeO.ite ?_ ?_)
      | (with_reducible refine LeO.bind ?_ (fun _ => ?_))
      | exact ih0 _ _ _ _ _ _ _
      | exact ih1 _ _ _ _ _ _ _
      | exact impl_compareSizes.mono _ _ _ _ _ _ _
      | exact LeO.none _
      | refine LeO.ite ?_ ?_
      | refine LeO.bind ?_ (fun _ => ?_)
def impl_CompareWide.T1 : Bool × List (List Nat × List Nat) := (true,[([],[]),([0],[0]),([],[]),([2],[2]),([],[]),([4],[4]),([1,3,5],[1,3,5]),([],[]),([7],[7]),([],[]),([9],[9]),([],[]),([11],[11]),([8,10,12,6],[8,10,12]),([6,13,0,1,2,3,4,5,6],[6]),([13,14,0,1,2,3,4,5,6,7,8,9,10,11,12,13,14],[13])])
def impl_CompareWide.B1 : List Nat := [0,1,0,4,0,16,63,0,128,0,512,0,2048,8191,16383,32767]
theorem impl_CompareWide.tab1 : rtab .any (opsOf Try.f54 1) = impl_CompareWide.T1 := by kernel_rfl
theorem impl_CompareWide.bits1 : waitsOk impl_CompareWide.T1.2 impl_CompareWide.B1 = true := by kernel_rfl
set_option maxHeartbeats 8000000 in
set_option maxRecDepth 100000 in
theorem impl_CompareWide.calls (k : Nat) (a0_0 : Bool) (a0_1 : Int) (a0_2 : Int) (a1_0 : Bool) (a1_1 : Int) (a1_2 : Int) (r : Int) (w : World) (h : impl_CompareWide.f k a0_0 a0_1 a0_2 a1_0 a1_1 a1_2 = some r) :
    Calls Try.prog 54 #[.agg #[.bool a0_0,.int .u64 a0_1,.int .u64 a0_2],.agg #[.bool a1_0,.int .u64 a1_1,.int .u64 a1_2]] w fun e w' => e = .returned (.int .i64 r) ∧ Below w.heap.size w w' := by
  have hu28 := Try.underlying28
  have HB := Aside0.mk (Below.refl w.heap.size w)
  have H : ((impl_wideOf.f a0_0 a0_1 a0_2).bind fun bt407 => ((impl_wideOf.f a1_0 a1_1 a1_2).bind fun bt410 => (if bt407.1 = true then (impl_CompareWide.j0 k (!bt410.1) bt407.1 bt407.2.1 bt407.2.2 bt410.1 bt410.2.1 bt410.2.2) else (impl_CompareWide.j0 k false bt407.1 bt407.2.1 bt407.2.2 bt410.1 bt410.2.1 bt410.2.2)))) = some r := h
  clear h
  obtain ⟨⟨t407,t408,t409⟩,A30,H⟩ := Option.bind_eq_some_iff.mp H
  try dsimp only at H
  have A3 := Aside0.mk A30
  clear A30
  obtain ⟨⟨t410,t411,t412⟩,A40,H⟩ := Option.bind_eq_some_iff.mp H
  try dsimp only at H
  have A4 := Aside0.mk A40
  clear A40
  have HC5 := Aside0.mk H
  clear H
  go_enter Try.func54,Try.ntmps54
  try go_wp2_with (first | ((with_reducible refine gate_dst (N := 2) rfl ?_);refine box_event ?hg (N := 2) ?hd (cs := #[.bool a0_0,.int .u64 a0_1,.int .u64 a0_2]) (t := 28) ?hr ?_;(case hd => rfl);(case hg => rfl);(case hr => exact Z515);intro gb405 hg w6 hbox hb;have n_ := jA (below_step Z486 hb) (jA (hbox) (jA ((Z271 : w.heap.size ≤ gb405)) (Aside0.mk ((Z271 : w.heap.size ≤ gb405)))));clear HB;obtain ⟨HB,BK405,GW405,GE405⟩ := n_;clear hb hbox hg) | ((with_reducible refine gate_dst (N := 3) rfl ?_);refine box_event ?hg (N := 3) ?hd (cs := #[.bool a1_0,.int .u64 a1_1,.int .u64 a1_2]) (t := 28) ?hr ?_;(case hd => rfl);(case hg => rfl);(case hr => exact Z515);intro gb406 hg w7 hbox hb;have n_ := jA (blk_below (g := gb405) (o := .cells #[.bool a0_0,.int .u64 a0_1,.int .u64 a0_2] 28 (0,0)) Z549 hb) (jA (below_step Z475 hb) (jA (hbox) (jA ((Z209 : w.heap.size ≤ gb406)) (jA ((Z209 : w.heap.size ≤ gb406)) (jA ((by rw [hg];exact Nat.ne_of_lt (blk_lt (g := gb405) (o := .cells #[.bool a0_0,.int .u64 a0_1,.int .u64 a0_2] 28 (0,0)) Z549) : gb405 ≠ gb406)) (Aside0.mk ((by rw [hg];exact Nat.ne_of_gt (blk_lt (g := gb405) (o := .cells #[.bool a0_0,.int .u64 a0_1,.int .u64 a0_2] 28 (0,0)) Z549) : gb406 ≠ gb405))))))));clear BK405 HB;obtain ⟨BK405,HB,BK406,GW406,GE406,NB405_406,NB406_405⟩ := n_;clear hb hbox hg))
  have n0_ := Aside0.mk (blk_drew BK405.out)
  have n1_ := Aside0.mk (blk_drew BK406.out)
  have n2_ := Aside0.mk (below_drew1 HB.out)
  clear BK405
  clear BK406
  clear HB
  have BK405 := n0_
  have BK406 := n1_
  have HB := n2_
  clear n0_ n1_ n2_
  refine start_ (n := 16) (S := fun w' => w'.cell? ⟨gb405,0,none⟩ = some (.bool a0_0) ∧ w'.cell? ⟨gb405,1,none⟩ = some (.int .u64 a0_1) ∧ w'.cell? ⟨gb405,2,none⟩ = some (.int .u64 a0_2) ∧ w'.cell? ⟨gb406,0,none⟩ = some (.bool a1_0) ∧ w'.cell? ⟨gb406,1,none⟩ = some (.int .u64 a1_1) ∧ w'.cell? ⟨gb406,2,none⟩ = some (.int .u64 a1_2)) (ds := [14,15]) #[false,false,false,false,false,false,false,false,false,false,false,false,false,false,false,false] Z580 rfl rfl ⟨(blk_cell BK405.out 0).trans rfl,(blk_cell BK405.out 1).trans rfl,(blk_cell BK405.out 2).trans rfl,(blk_cell BK406.out 0).trans rfl,(blk_cell BK406.out 1).trans rfl,(blk_cell BK406.out 2).trans rfl⟩ (fun hHeld => ?_);refine with_tabW impl_CompareWide.tab1 impl_CompareWide.bits1 (fun HT_ HW_ => ?_)
  generalize w7.drew = w8 at BK405 BK406 HB hHeld ⊢
  refine pure_ (i := 0) (N := some 5) (v := ?_) (a' := ?_) #[true,false,false,false,false,false,false,false,false,false,false,false,false,false,false,false] rfl rfl (any_of HT_.out Z580) (fun _ _ _ h => h) (Or.inl ⟨Z582,?_⟩) ?_ ?_
  rotate_left
  · intro w'
    go_simp
    with_reducible rfl
  rotate_left
  · simp only [Act.put,List.setIfInBounds_toArray,List.set_cons_zero,List.set_cons_succ,i64_w,i32_w]
    rfl
  refine pure_ (i := 2) (N := some 7) (v := ?_) (a' := ?_) #[true,false,true,false,false,false,false,false,false,false,false,false,false,false,false,false] rfl rfl (any_of HT_.out Z580) (fun _ _ _ h => h) (Or.inl ⟨Z582,?_⟩) ?_ ?_
  rotate_left
  · intro w'
    go_simp
    with_reducible rfl
  rotate_left
  · simp only [Act.put,List.setIfInBounds_toArray,List.set_cons_zero,List.set_cons_succ,i64_w,i32_w]
    rfl
  refine pure_ (i := 4) (N := some 9) (v := ?_) (a' := ?_) #[true,false,true,false,true,false,false,false,false,false,false,false,false,false,false,false] rfl rfl (any_of HT_.out Z580) (fun _ _ _ h => h) (Or.inl ⟨Z582,?_⟩) ?_ ?_
  rotate_left
  · intro w'
    go_simp
    with_reducible rfl
  rotate_left
  · simp only [Act.put,List.setIfInBounds_toArray,List.set_cons_zero,List.set_cons_succ,i64_w,i32_w]
    rfl
  refine pure_ (i := 7) (N := some 12) (v := ?_) (a' := ?_) #[true,false,true,false,true,false,false,true,false,false,false,false,false,false,false,false] rfl rfl (any_of HT_.out Z580) (fun _ _ _ h => h) (Or.inl ⟨Z582,?_⟩) ?_ ?_
  rotate_left
  · intro w'
    go_simp
    with_reducible rfl
  rotate_left
  · simp only [Act.put,List.setIfInBounds_toArray,List.set_cons_zero,List.set_cons_succ,i64_w,i32_w]
    rfl
  refine pure_ (i := 9) (N := some 14) (v := ?_) (a' := ?_) #[true,false,true,false,true,false,false,true,false,true,false,false,false,false,false,false] rfl rfl (any_of HT_.out Z580) (fun _ _ _ h => h) (Or.inl ⟨Z582,?_⟩) ?_ ?_
  rotate_left
  · intro w'
    go_simp
    with_reducible rfl
  rotate_left
  · simp only [Act.put,List.setIfInBounds_toArray,List.set_cons_zero,List.set_cons_succ,i64_w,i32_w]
    rfl
  refine pure_ (i := 11) (N := some 16) (v := ?_) (a' := ?_) #[true,false,true,false,true,false,false,true,false,true,false,true,false,false,false,false] rfl rfl (any_of HT_.out Z580) (fun _ _ _ h => h) (Or.inl ⟨Z582,?_⟩) ?_ ?_
  rotate_left
  · intro w'
    go_simp
    with_reducible rfl
  rotate_left
  · simp only [Act.put,List.setIfInBounds_toArray,List.set_cons_zero,List.set_cons_succ,i64_w,i32_w]
    rfl
  refine take_ (i := 1) (N := some 6) (v := ?_) (a' := ?_) #[true,true,true,false,true,false,false,true,false,true,false,true,false,false,false,false] rfl rfl (take_ofW HT_.out HW_.out Z580) (fun _ _ _ h => h) (Or.inl ⟨Z582,?_⟩) hHeld ?_ ?_
  rotate_left
  · rintro w' ⟨s0,s1,s2,s3,s4,s5⟩
    go_simp
    with_reducible rfl
  rotate_left
  · simp only [Act.put,List.setIfInBounds_toArray,List.set_cons_zero,List.set_cons_succ,i64_w,i32_w]
    rfl
  refine take_ (i := 3) (N := some 8) (v := ?_) (a' := ?_) #[true,true,true,true,true,false,false,true,false,true,false,true,false,false,false,false] rfl rfl (take_ofW HT_.out HW_.out Z580) (fun _ _ _ h => h) (Or.inl ⟨Z582,?_⟩) hHeld ?_ ?_
  rotate_left
  · rintro w' ⟨s0,s1,s2,s3,s4,s5⟩
    go_simp
    with_reducible rfl
  rotate_left
  · simp only [Act.put,List.setIfInBounds_toArray,List.set_cons_zero,List.set_cons_succ,i64_w,i32_w]
    rfl
  refine take_ (i := 5) (N := some 10) (v := ?_) (a' := ?_) #[true,true,true,true,true,true,false,true,false,true,false,true,false,false,false,false] rfl rfl (take_ofW HT_.out HW_.out Z580) (fun _ _ _ h => h) (Or.inl ⟨Z582,?_⟩) hHeld ?_ ?_
  rotate_left
  · rintro w' ⟨s0,s1,s2,s3,s4,s5⟩
    go_simp
    with_reducible rfl
  rotate_left
  · simp only [Act.put,List.setIfInBounds_toArray,List.set_cons_zero,List.set_cons_succ,i64_w,i32_w]
    rfl
  refine take_ (i := 8) (N := some 13) (v := ?_) (a' := ?_) #[true,true,true,true,true,true,false,true,true,true,false,true,false,false,false,false] rfl rfl (take_ofW HT_.out HW_.out Z580) (fun _ _ _ h => h) (Or.inl ⟨Z582,?_⟩) hHeld ?_ ?_
  rotate_left
  · rintro w' ⟨s0,s1,s2,s3,s4,s5⟩
    go_simp
    with_reducible rfl
  rotate_left
  · simp only [Act.put,List.setIfInBounds_toArray,List.set_cons_zero,List.set_cons_succ,i64_w,i32_w]
    rfl
  refine take_ (i := 10) (N := some 15) (v := ?_) (a' := ?_) #[true,true,true,true,true,true,false,true,true,true,true,true,false,false,false,false] rfl rfl (take_ofW HT_.out HW_.out Z580) (fun _ _ _ h => h) (Or.inl ⟨Z582,?_⟩) hHeld ?_ ?_
  rotate_left
  · rintro w' ⟨s0,s1,s2,s3,s4,s5⟩
    go_simp
    with_reducible rfl
  rotate_left
  · simp only [Act.put,List.setIfInBounds_toArray,List.set_cons_zero,List.set_cons_succ,i64_w,i32_w]
    rfl
  refine take_ (i := 12) (N := some 17) (v := ?_) (a' := ?_) #[true,true,true,true,true,true,false,true,true,true,true,true,true,false,false,false] rfl rfl (take_ofW HT_.out HW_.out Z580) (fun _ _ _ h => h) (Or.inl ⟨Z582,?_⟩) hHeld ?_ ?_
  rotate_left
  · rintro w' ⟨s0,s1,s2,s3,s4,s5⟩
    go_simp
    with_reducible rfl
  rotate_left
  · simp only [Act.put,List.setIfInBounds_toArray,List.set_cons_zero,List.set_cons_succ,i64_w,i32_w]
    rfl
  refine one_ (i := 6) (N := some 11) #[true,true,true,true,true,true,true,true,true,true,true,true,true,false,false,false] rfl rfl (one_of HT_.out Z580) Z581 (fun K hK => ?_)
  refine goes_ Try.func71 Z580 rfl #[.bool a0_0,.int .u64 a0_1,.int .u64 a0_2] Z582 rfl rfl Z395 ?_
  with_reducible refine (impl_wideOf.calls a0_0 a0_1 a0_2 t407 t408 t409 _ A3.out).mono ?_
  rintro e w9 ⟨rfl,hb⟩
  refine ⟨_,rfl,?_⟩
  have n0_ := Aside0.mk (blk_below (g := gb405) (o := .cells #[.bool a0_0,.int .u64 a0_1,.int .u64 a0_2] 28 (0,0)) Z549 hb)
  have n1_ := Aside0.mk (blk_below (g := gb406) (o := .cells #[.bool a1_0,.int .u64 a1_1,.int .u64 a1_2] 28 (0,0)) Z562 hb)
  have n2_ := Aside0.mk (below_step Z186 hb)
  clear BK405
  clear BK406
  clear HB
  have BK405 := n0_
  have BK406 := n1_
  have HB := n2_
  clear n0_ n1_ n2_
  (try clear hb)
  (try clear hb2)
  (try clear hk)
  (try clear hi)
  refine hK.out _ _ ⟨(blk_cell BK405.out 0).trans rfl,(blk_cell BK405.out 1).trans rfl,(blk_cell BK405.out 2).trans rfl,(blk_cell BK406.out 0).trans rfl,(blk_cell BK406.out 1).trans rfl,(blk_cell BK406.out 2).trans rfl⟩ (fun hHeld => ?_)
  clear hK K
  refine norm_ (a' := ?_) ?_ ?_
  rotate_left
  · show Act.put _ (some 11) _ = _
    simp only [Act.put,List.setIfInBounds_toArray,List.set_cons_zero,List.set_cons_succ,i64_w,i32_w]
    rfl
  refine one_ (i := 13) (N := some 18) #[true,true,true,true,true,true,true,true,true,true,true,true,true,true,false,false] rfl rfl (one_of HT_.out Z580) Z581 (fun K hK => ?_)
  refine goes_ Try.func71 Z580 rfl #[.bool a1_0,.int .u64 a1_1,.int .u64 a1_2] Z582 rfl rfl Z395 ?_
  with_reducible refine (impl_wideOf.calls a1_0 a1_1 a1_2 t410 t411 t412 _ A4.out).mono ?_
  rintro e w10 ⟨rfl,hb⟩
  refine ⟨_,rfl,?_⟩
  have n0_ := Aside0.mk (blk_below (g := gb405) (o := .cells #[.bool a0_0,.int .u64 a0_1,.int .u64 a0_2] 28 (0,0)) Z549 hb)
  have n1_ := Aside0.mk (blk_below (g := gb406) (o := .cells #[.bool a1_0,.int .u64 a1_1,.int .u64 a1_2] 28 (0,0)) Z562 hb)
  have n2_ := Aside0.mk (below_step Z186 hb)
  clear BK405
  clear BK406
  clear HB
  have BK405 := n0_
  have BK406 := n1_
  have HB := n2_
  clear n0_ n1_ n2_
  (try clear hb)
  (try clear hb2)
  (try clear hk)
  (try clear hi)
  refine hK.out _ _ ⟨(blk_cell BK405.out 0).trans rfl,(blk_cell BK405.out 1).trans rfl,(blk_cell BK405.out 2).trans rfl,(blk_cell BK406.out 0).trans rfl,(blk_cell BK406.out 1).trans rfl,(blk_cell BK406.out 2).trans rfl⟩ (fun hHeld => ?_)
  clear hK K
  refine norm_ (a' := ?_) ?_ ?_
  rotate_left
  · show Act.put _ (some 18) _ = _
    simp only [Act.put,List.setIfInBounds_toArray,List.set_cons_zero,List.set_cons_succ,i64_w,i32_w]
    rfl
  refine last_ (i := 14) (N := none) #[true,true,true,true,true,true,true,true,true,true,true,true,true,true,true,false] rfl rfl (one_of HT_.out Z580) Z581 (fun K hK => ?_)
  have hs11 : w10.cell? ⟨gb405,0,none⟩ = some (.bool a0_0) := (blk_cell BK405.out 0).trans rfl
  have hfs11 := blk_frozen BK405.out 0
  have hns11_1 := NB406_405.out
  have hms11_1 := NB405_406.out
  have hs12 : w10.cell? ⟨gb405,1,none⟩ = some (.int .u64 a0_1) := (blk_cell BK405.out 1).trans rfl
  have hfs12 := blk_frozen BK405.out 1
  have hns12_1 := NB406_405.out
  have hms12_1 := NB405_406.out
  have hs13 : w10.cell? ⟨gb405,2,none⟩ = some (.int .u64 a0_2) := (blk_cell BK405.out 2).trans rfl
  have hfs13 := blk_frozen BK405.out 2
  have hns13_1 := NB406_405.out
  have hms13_1 := NB405_406.out
  refine skip_ (w1 := ?_) Z582 rfl ?_ ?_
  rotate_left
  · go_simp
    rfl
  refine hK.out _ _ ?_
  clear hK K
  refine last_ (i := 15) (N := none) #[true,true,true,true,true,true,true,true,true,true,true,true,true,true,true,true] rfl rfl (one_of HT_.out Z580) Z581 (fun K hK => ?_)
  have hs14 : w10.cell? ⟨gb406,0,none⟩ = some (.bool a1_0) := (blk_cell BK406.out 0).trans rfl
  have hfs14 := blk_frozen BK406.out 0
  have hns14_0 := NB405_406.out
  have hms14_0 := NB406_405.out
  have hs15 : w10.cell? ⟨gb406,1,none⟩ = some (.int .u64 a1_1) := (blk_cell BK406.out 1).trans rfl
  have hfs15 := blk_frozen BK406.out 1
  have hns15_0 := NB405_406.out
  have hms15_0 := NB406_405.out
  have hs16 : w10.cell? ⟨gb406,2,none⟩ = some (.int .u64 a1_2) := (blk_cell BK406.out 2).trans rfl
  have hfs16 := blk_frozen BK406.out 2
  have hns16_0 := NB405_406.out
  have hms16_0 := NB406_405.out
  refine skip_ (w1 := ?_) Z582 rfl ?_ ?_
  rotate_left
  · go_simp
    rfl
  refine hK.out _ _ ?_
  clear hK K
  refine done_ (done_of HT_.out Z580) ?_
  go_upto_region 2 with (fail)
  go_cut [19] (fun v19 wc => ∃ (kq : Nat) (x19_4 : Bool),v19 = .bool x19_4 ∧ Aside0 (impl_CompareWide.j0 kq x19_4 t407 t408 t409 t410 t411 t412 = some r) ∧ Aside0 (kq ≤ k) ∧ Aside0 (wc.heap[gb405]? = some (.cells #[.bool t407,.int .u64 t408,.int .u64 t409] 28 (0,0))) ∧ Aside0 (wc.heap[gb406]? = some (.cells #[.bool t410,.int .u64 t411,.int .u64 t412] 28 (0,0))) ∧ Aside0 (Below w.heap.size w wc))
  case first =>
    have H := HC5.out
    clear HC5
    by_cases c17 : t407 = true
    · subst c17
      have H1 : (impl_CompareWide.j0 k (!t410) true t408 t409 t410 t411 t412) = some r := by rw [if_pos rfl] at H;exact H
      clear H
      have H := H1
      clear H1
      have H' := Aside0.mk H
      clear H
      have hnb18 := NB405_406.out
      have hnc18 := NB406_405.out
      obtain ⟨hcz19_0,hcz19_1,hcz19_2,hfz19_0,hfz19_1,hfz19_2⟩ := impl_CompareWide.cells3 BK405.out
      obtain ⟨hcz20_0,hcz20_1,hcz20_2,hfz20_0,hfz20_1,hfz20_2⟩ := impl_CompareWide.cells3 BK406.out
      go_wp2
      go_meet
      case rel => exact ⟨_,(!t410),Z514,H',⟨Z516⟩,⟨by refine bP ?_;refine blk_far ?_ NB405_406.out _;refine bP ?_;refine blk_far ?_ NB405_406.out _;refine bP ?_;refine blk_far ?_ NB405_406.out _;refine bP ?_;refine blk_put (cs := #[.bool true,.int .u64 t408,.int .u64 a0_2]) ?_ 2 _ rfl;refine bP ?_;refine blk_put (cs := #[.bool true,.int .u64 a0_1,.int .u64 a0_2]) ?_ 1 _ rfl;refine bP ?_;refine blk_put (cs := #[.bool a0_0,.int .u64 a0_1,.int .u64 a0_2]) ?_ 0 _ rfl;refine bP ?_;exact BK405.out⟩,⟨Z7⟩,⟨Z186⟩⟩
    · replace c17 := Bool.eq_false_iff.mpr c17
      subst c17
      have H1 : (impl_CompareWide.j0 k false false t408 t409 t410 t411 t412) = some r := by rw [if_neg (show ¬ (false = true) by decide)] at H;exact H
      clear H
      have H := H1
      clear H1
      have H' := Aside0.mk H
      clear H
      have hnb21 := NB405_406.out
      have hnc21 := NB406_405.out
      obtain ⟨hcz22_0,hcz22_1,hcz22_2,hfz22_0,hfz22_1,hfz22_2⟩ := impl_CompareWide.cells3 BK405.out
      go_wp2
      go_meet
      case rel => exact ⟨_,(false),Z514,H',⟨Z516⟩,⟨by refine bP ?_;refine blk_far ?_ NB405_406.out _;refine bP ?_;refine blk_far ?_ NB405_406.out _;refine bP ?_;refine blk_far ?_ NB405_406.out _;refine bP ?_;refine blk_put (cs := #[.bool false,.int .u64 t408,.int .u64 a0_2]) ?_ 2 _ rfl;refine bP ?_;refine blk_put (cs := #[.bool false,.int .u64 a0_1,.int .u64 a0_2]) ?_ 1 _ rfl;refine bP ?_;refine blk_put (cs := #[.bool a0_0,.int .u64 a0_1,.int .u64 a0_2]) ?_ 0 _ rfl;refine bP ?_;exact BK405.out⟩,⟨Z7⟩,⟨Z186⟩⟩
  case rest =>
    clear HC5
    try clear c1
    try clear c2
    try clear p2
    try clear c5
    try clear c7
    try clear c17
    try clear c18
    try clear c21
    try clear hcz19_0
    try clear hcz19_1
    try clear hcz19_2
    try clear hcz20_0
    try clear hcz20_1
    try clear hcz20_2
    try clear hcz22_0
    try clear hcz22_1
    try clear hcz22_2
    try clear hfz19_0
    try clear hfz19_1
    try clear hfz19_2
    try clear hfz20_0
    try clear hfz20_1
    try clear hfz20_2
    try clear hfz22_0
    try clear hfz22_1
    try clear hfz22_2
    obtain ⟨kq,x19_4,rfl,HA,HJ4,BK405,BK406,HB⟩ := hcut
    cases kq with
    | zero => exact absurd HA.out (by simp [impl_CompareWide.j0])
    | succ kj4 =>
      have H := HA.out
      clear HA
      simp only [impl_CompareWide.j0] at H
      by_cases c23 : x19_4 = true
      · subst c23
        have H1 : (some (-1)) = some r := by rw [if_pos rfl] at H;exact H
        clear H
        have H := H1
        clear H1
        obtain rfl := Option.some.inj H
        go_wp2
        go_ret
        exact ⟨Z400,Z186⟩
      · replace c23 := Bool.eq_false_iff.mpr c23
        subst c23
        have H1 : (if t410 = true then (impl_CompareWide.j1 kj4 (!t407) t407 t408 t409 t410 t411 t412) else (impl_CompareWide.j1 kj4 false t407 t408 t409 t410 t411 t412)) = some r := by rw [if_neg (show ¬ (false = true) by decide)] at H;exact H
        clear H
        have H := H1
        clear H1
        have HC24 := Aside0.mk H
        clear H
        go_upto_region 4 with (fail)
        go_cut [27] (fun v27 wc => ∃ (kq : Nat) (x27_23 : Bool),v27 = .bool x27_23 ∧ Aside0 (impl_CompareWide.j1 kq x27_23 t407 t408 t409 t410 t411 t412 = some r) ∧ Aside0 (kq ≤ kj4) ∧ Aside0 (wc.heap[gb405]? = some (.cells #[.bool t407,.int .u64 t408,.int .u64 t409] 28 (0,0))) ∧ Aside0 (wc.heap[gb406]? = some (.cells #[.bool t410,.int .u64 t411,.int .u64 t412] 28 (0,0))) ∧ Aside0 (Below w.heap.size w wc))
        case first =>
          have H := HC24.out
          clear HC24
          by_cases c25 : t410 = true
          · subst c25
            have H1 : (impl_CompareWide.j1 kj4 (!t407) t407 t408 t409 true t411 t412) = some r := by rw [if_pos rfl] at H;exact H
            clear H
            have H := H1
            clear H1
            have H' := Aside0.mk H
            clear H
            have hnb26 := NB406_405.out
            have hnc26 := NB405_406.out
            obtain ⟨hcz27_0,hcz27_1,hcz27_2,hfz27_0,hfz27_1,hfz27_2⟩ := impl_CompareWide.cells3 BK406.out
            obtain ⟨hcz28_0,hcz28_1,hcz28_2,hfz28_0,hfz28_1,hfz28_2⟩ := impl_CompareWide.cells3 BK405.out
            go_wp2
            go_meet
            case rel => exact ⟨_,(!t407),Z514,H',⟨Z512⟩,⟨Z549⟩,⟨Z562⟩,⟨Z186⟩⟩
          · replace c25 := Bool.eq_false_iff.mpr c25
            subst c25
            have H1 : (impl_CompareWide.j1 kj4 false t407 t408 t409 false t411 t412) = some r := by rw [if_neg (show ¬ (false = true) by decide)] at H;exact H
            clear H
            have H := H1
            clear H1
            have H' := Aside0.mk H
            clear H
            have hnb29 := NB406_405.out
            have hnc29 := NB405_406.out
            obtain ⟨hcz30_0,hcz30_1,hcz30_2,hfz30_0,hfz30_1,hfz30_2⟩ := impl_CompareWide.cells3 BK406.out
            go_wp2
            go_meet
            case rel => exact ⟨_,(false),Z514,H',⟨Z512⟩,⟨Z549⟩,⟨Z562⟩,⟨Z186⟩⟩
        case rest =>
          clear HC24
          try clear c1
          try clear c2
          try clear p2
          try clear c5
          try clear c7
          try clear c17
          try clear c18
          try clear c21
          try clear c23
          try clear c25
          try clear c26
          try clear c29
          try clear hcz19_0
          try clear hcz19_1
          try clear hcz19_2
          try clear hcz20_0
          try clear hcz20_1
          try clear hcz20_2
          try clear hcz22_0
          try clear hcz22_1
          try clear hcz22_2
          try clear hcz27_0
          try clear hcz27_1
          try clear hcz27_2
          try clear hcz28_0
          try clear hcz28_1
          try clear hcz28_2
          try clear hcz30_0
          try clear hcz30_1
          try clear hcz30_2
          try clear hfz19_0
          try clear hfz19_1
          try clear hfz19_2
          try clear hfz20_0
          try clear hfz20_1
          try clear hfz20_2
          try clear hfz22_0
          try clear hfz22_1
          try clear hfz22_2
          try clear hfz27_0
          try clear hfz27_1
          try clear hfz27_2
          try clear hfz28_0
          try clear hfz28_1
          try clear hfz28_2
          try clear hfz30_0
          try clear hfz30_1
          try clear hfz30_2
          try clear p2
          obtain ⟨kq,x27_23,rfl,HA,HJ23,BK405,BK406,HB⟩ := hcut
          cases kq with
          | zero => exact absurd HA.out (by simp [impl_CompareWide.j1])
          | succ kj23 =>
            have H := HA.out
            clear HA
            simp only [impl_CompareWide.j1] at H
            by_cases c31 : x27_23 = true
            · subst c31
              have H1 : (some 1) = some r := by rw [if_pos rfl] at H;exact H
              clear H
              have H := H1
              clear H1
              obtain rfl := Option.some.inj H
              go_wp2
              go_ret
              exact ⟨Z400,Z186⟩
            · replace c31 := Bool.eq_false_iff.mpr c31
              subst c31
              have H1 : (if t407 = true then ((impl_compareSizes.f kj23 t410 t411 t412 t407 t408 t409).bind fun t413 => (some t413)) else ((impl_compareSizes.f kj23 t407 t408 t409 t410 t411 t412).bind fun t414 => (some t414))) = some r := by rw [if_neg (show ¬ (false = true) by decide)] at H;exact H
              clear H
              have H := H1
              clear H1
              by_cases c32 : t407 = true
              · subst c32
                have H1 : ((impl_compareSizes.f kj23 t410 t411 t412 true t408 t409).bind fun t413 => (some t413)) = some r := by rw [if_pos rfl] at H;exact H
                clear H
                have H := H1
                clear H1
                obtain ⟨t413,A330,H⟩ := Option.bind_eq_some_iff.mp H
                have A33 := Aside0.mk A330
                clear A330
                obtain rfl := Option.some.inj H
                have hnb34 := NB405_406.out
                have hnc34 := NB406_405.out
                obtain ⟨hcz35_0,hcz35_1,hcz35_2,hfz35_0,hfz35_1,hfz35_2⟩ := impl_CompareWide.cells3 BK405.out
                obtain ⟨hcz36_0,hcz36_1,hcz36_2,hfz36_0,hfz36_1,hfz36_2⟩ := impl_CompareWide.cells3 BK406.out
                go_wp2_with (first | ((with_reducible refine gate_callee (f := 69) rfl ?_);refine goesL_ (some 40) rfl rfl Try.func69 Z580 rfl #[.agg #[.bool t410,.int .u64 t411,.int .u64 t412],.agg #[.bool true,.int .u64 t408,.int .u64 t409]] rfl Z395 ?_;(with_reducible refine (impl_compareSizes.calls kj23 t410 t411 t412 true t408 t409 t413 _ A33.out).mono ?_);rintro e w37 ⟨rfl,hb⟩;refine ⟨_,rfl,?_⟩;have n_ := jA (blk_below (g := gb405) (o := .cells #[.bool true,.int .u64 t408,.int .u64 t409] 28 (0,0)) Z549 hb) (jA (blk_below (g := gb406) (o := .cells #[.bool t410,.int .u64 t411,.int .u64 t412] 28 (0,0)) Z562 hb) (Aside0.mk (below_step Z186 hb)));clear BK405 BK406 HB;obtain ⟨BK405,BK406,HB⟩ := n_;(try clear hb);(try clear hb2);(try clear hk);(try clear hi)))
                go_ret
                exact ⟨Z400,Z186⟩
              · replace c32 := Bool.eq_false_iff.mpr c32
                subst c32
                have H1 : ((impl_compareSizes.f kj23 false t408 t409 t410 t411 t412).bind fun t414 => (some t414)) = some r := by rw [if_neg (show ¬ (false = true) by decide)] at H;exact H
                clear H
                have H := H1
                clear H1
                obtain ⟨t414,A380,H⟩ := Option.bind_eq_some_iff.mp H
                have A38 := Aside0.mk A380
                clear A380
                obtain rfl := Option.some.inj H
                have hnb39 := NB405_406.out
                have hnc39 := NB406_405.out
                obtain ⟨hcz40_0,hcz40_1,hcz40_2,hfz40_0,hfz40_1,hfz40_2⟩ := impl_CompareWide.cells3 BK405.out
                obtain ⟨hcz41_0,hcz41_1,hcz41_2,hfz41_0,hfz41_1,hfz41_2⟩ := impl_CompareWide.cells3 BK406.out
                go_wp2_with (first | ((with_reducible refine gate_callee (f := 69) rfl ?_);refine goesL_ (some 43) rfl rfl Try.func69 Z580 rfl #[.agg #[.bool false,.int .u64 t408,.int .u64 t409],.agg #[.bool t410,.int .u64 t411,.int .u64 t412]] rfl Z395 ?_;(with_reducible refine (impl_compareSizes.calls kj23 false t408 t409 t410 t411 t412 t414 _ A38.out).mono ?_);rintro e w42 ⟨rfl,hb⟩;refine ⟨_,rfl,?_⟩;have n_ := jA (blk_below (g := gb405) (o := .cells #[.bool false,.int .u64 t408,.int .u64 t409] 28 (0,0)) Z549 hb) (jA (blk_below (g := gb406) (o := .cells #[.bool t410,.int .u64 t411,.int .u64 t412] 28 (0,0)) Z562 hb) (Aside0.mk (below_step Z186 hb)));clear BK405 BK406 HB;obtain ⟨BK405,BK406,HB⟩ := n_;(try clear hb);(try clear hb2);(try clear hk);(try clear hi)))
                go_ret
                exact ⟨Z400,Z186⟩

/-! ### impl_CompareFrac: function 35 -/
theorem impl_CompareFrac.cells3 {w : World} {g : Nat} {t : TypeId} {a0 a1 a2 : Value} (h : w.heap[g]? = some (.cells #[a0,a1,a2] t (0,0))) : w.cell? ⟨g,0,none⟩ = some a0 ∧ w.cell? ⟨g,1,none⟩ = some a1 ∧ w.cell? ⟨g,2,none⟩ = some a2 ∧ w.frozen? ⟨g,0,none⟩ = false ∧ w.frozen? ⟨g,1,none⟩ = false ∧ w.frozen? ⟨g,2,none⟩ = false := ⟨(blk_cell h 0).trans rfl,(blk_cell h 1).trans rfl,(blk_cell h 2).trans rfl,blk_frozen h 0,blk_frozen h 1,blk_frozen h 2⟩
theorem impl_CompareFrac.cells4 {w : World} {g : Nat} {t : TypeId} {a0 a1 a2 a3 : Value} (h : w.heap[g]? = some (.cells #[a0,a1,a2,a3] t (0,0))) : w.cell? ⟨g,0,none⟩ = some a0 ∧ w.cell? ⟨g,1,none⟩ = some a1 ∧ w.cell? ⟨g,2,none⟩ = some a2 ∧ w.cell? ⟨g,3,none⟩ = some a3 ∧ w.frozen? ⟨g,0,none⟩ = false ∧ w.frozen? ⟨g,1,none⟩ = false ∧ w.frozen? ⟨g,2,none⟩ = false ∧ w.frozen? ⟨g,3,none⟩ = false := ⟨(blk_cell h 0).trans rfl,(blk_cell h 1).trans rfl,(blk_cell h 2).trans rfl,(blk_cell h 3).trans rfl,blk_frozen h 0,blk_frozen h 1,blk_frozen h 2,blk_frozen h 3⟩
def impl_CompareFrac.f (k : Nat) (a0_0 : Bool) (a0_1 : Int) (a0_2 : Int) (a0_3 : Int) (a1_0 : Bool) (a1_1 : Int) (a1_2 : Int) (a1_3 : Int) : Option (Int × Bool) := (impl_crossed.f k a0_0 a0_1 a0_2 a0_3 a1_0 a1_1 a1_2 a1_3).bind fun bt417 => (if bt417.2.2.2.2.2.2 = true then ((impl_CompareWide.f k bt417.1 bt417.2.1 bt417.2.2.1 bt417.2.2.2.1 bt417.2.2.2.2.1 bt417.2.2.2.2.2.1).bind fun t426 => (some (t426,true))) else (some (0,false)))
theorem impl_CompareFrac.mono : ∀ a0 a1 a2 a3 a4 a5 a6 a7 k,LeO (impl_CompareFrac.f k a0 a1 a2 a3 a4 a5 a6 a7) (impl_CompareFrac.f (k + 1) a0 a1 a2 a3 a4 a5 a6 a7) := by
  intro a0 a1 a2 a3 a4 a5 a6 a7 k
  unfold impl_CompareFrac.f
  repeat' first
      | (with_reducible exact impl_CompareWide.mono _ _ _ _ _ _ _)
      | (with_reducible exact impl_crossed.mono _ _ _ _ _ _ _ _ _)
      | (with_reducible exact LeO.refl _)
      | (with_reducible exact LeO.none _)
      | (with_reducible refine LeO.ite ?_ ?_)
      | (with_reducible refine LeO.bind ?_ (fun _ => ?_))
      | exact impl_CompareWide.mono _ _ _ _ _ _ _
      | exact impl_crossed.mono _ _ _ _ _ _ _ _ _
      | exact LeO.none _
      | refine LeO.ite ?_ ?_
      | refine LeO.bind ?_ (fun _ => ?_)
set_option maxHeartbeats 8000000 in
set_option maxRecDepth 100000 in
theorem impl_CompareFrac.calls (k : Nat) (a0_0 : Bool) (a0_1 : Int) (a0_2 : Int) (a0_3 : Int) (a1_0 : Bool) (a1_1 : Int) (a1_2 : Int) (a1_3 : Int) (r1 : Int) (r2 : Bool) (w : World) (h : impl_CompareFrac.f k a0_0 a0_1 a0_2 a0_3 a1_0 a1_1 a1_2 a1_3 = some (r1,r2)) :
    Calls Try.prog 35 #[.agg #[.bool a0_0,.int .u64 a0_1,.int .u64 a0_2,.int .i64 a0_3],.agg #[.bool a1_0,.int .u64 a1_1,.int .u64 a1_2,.int .i64 a1_3]] w fun e w' => e = .returned (.tuple #[.int .i64 r1,.bool r2]) ∧ Below w.heap.size w w' := by
  have hu30 := Try.underlying30
  have hu28 := Try.underlying28
  have HB := Aside0.mk (Below.refl w.heap.size w)
  have H : ((impl_crossed.f k a0_0 a0_1 a0_2 a0_3 a1_0 a1_1 a1_2 a1_3).bind fun bt417 => (if bt417.2.2.2.2.2.2 = true then ((impl_CompareWide.f k bt417.1 bt417.2.1 bt417.2.2.1 bt417.2.2.2.1 bt417.2.2.2.2.1 bt417.2.2.2.2.2.1).bind fun t426 => (some (t426,true))) else (some (0,false)))) = some (r1,r2) := h
  clear h
  obtain ⟨⟨t417,t418,t419,t420,t421,t422,t423⟩,A30,H⟩ := Option.bind_eq_some_iff.mp H
  try dsimp only at H
  have A3 := Aside0.mk A30
  clear A30
  by_cases c4 : t423 = true
  · subst c4
    have H1 : ((impl_CompareWide.f k t417 t418 t419 t420 t421 t422).bind fun t426 => (some (t426,true))) = some (r1,r2) := by rw [if_pos rfl] at H;exact H
    clear H
    have H := H1
    clear H1
    obtain ⟨t426,A50,H⟩ := Option.bind_eq_some_iff.mp H
    have A5 := Aside0.mk A50
    clear A50
    simp only [Option.some.injEq,Prod.mk.injEq] at H
    obtain ⟨rfl,rfl⟩ := H
    go_enter Try.func35,Try.ntmps35
    go_wp2_with (first | ((with_reducible refine gate_dst (N := 2) rfl ?_);refine box_event ?hg (N := 2) ?hd (cs := #[.bool a0_0,.int .u64 a0_1,.int .u64 a0_2,.int .i64 a0_3]) (t := 30) ?hr ?_;(case hd => rfl);(case hg => rfl);(case hr => exact Z515);intro gb415 hg w6 hbox hb;have n_ := jA (below_step Z486 hb) (jA (hbox) (jA ((Z271 : w.heap.size ≤ gb415)) (Aside0.mk ((Z271 : w.heap.size ≤ gb415)))));clear HB;obtain ⟨HB,BK415,GW415,GE415⟩ := n_;clear hb hbox hg) | ((with_reducible refine gate_dst (N := 3) rfl ?_);refine box_event ?hg (N := 3) ?hd (cs := #[.bool a1_0,.int .u64 a1_1,.int .u64 a1_2,.int .i64 a1_3]) (t := 30) ?hr ?_;(case hd => rfl);(case hg => rfl);(case hr => exact Z515);intro gb416 hg w7 hbox hb;have n_ := jA (blk_below (g := gb415) (o := .cells #[.bool a0_0,.int .u64 a0_1,.int .u64 a0_2,.int .i64 a0_3] 30 (0,0)) Z546 hb) (jA (below_step Z469 hb) (jA (hbox) (jA ((Z199 : w.heap.size ≤ gb416)) (jA ((Z199 : w.heap.size ≤ gb416)) (jA ((Z286 : gb415 ≠ gb416)) (Aside0.mk ((Z290 : gb416 ≠ gb415))))))));clear BK415 HB;obtain ⟨BK415,HB,BK416,GW416,GE416,NB415_416,NB416_415⟩ := n_;clear hb hbox hg;have hnb8 := NB415_416.out;have hnc8 := NB416_415.out;obtain ⟨hcz9_0,hcz9_1,hcz9_2,hcz9_3,hfz9_0,hfz9_1,hfz9_2,hfz9_3⟩ := impl_CompareFrac.cells4 BK415.out;obtain ⟨hcz10_0,hcz10_1,hcz10_2,hcz10_3,hfz10_0,hfz10_1,hfz10_2,hfz10_3⟩ := impl_CompareFrac.cells4 BK416.out) | ((with_reducible refine gate_callee (f := 48) rfl ?_);refine goesL_ (some 12) rfl rfl Try.func48 Z580 rfl #[.agg #[.bool a0_0,.int .u64 a0_1,.int .u64 a0_2,.int .i64 a0_3],.agg #[.bool a1_0,.int .u64 a1_1,.int .u64 a1_2,.int .i64 a1_3]] rfl Z395 ?_;(with_reducible refine (impl_crossed.calls k a0_0 a0_1 a0_2 a0_3 a1_0 a1_1 a1_2 a1_3 t417 t418 t419 t420 t421 t422 true _ A3.out).mono ?_);rintro e w11 ⟨rfl,hb⟩;refine ⟨_,rfl,?_⟩;have n_ := jA (blk_below (g := gb415) (o := .cells #[.bool a0_0,.int .u64 a0_1,.int .u64 a0_2,.int .i64 a0_3] 30 (0,0)) Z546 hb) (jA (blk_below (g := gb416) (o := .cells #[.bool a1_0,.int .u64 a1_1,.int .u64 a1_2,.int .i64 a1_3] 30 (0,0)) Z551 hb) (Aside0.mk (below_step Z435 hb)));clear BK415 BK416 HB;obtain ⟨BK415,BK416,HB⟩ := n_;(try clear hb);(try clear hb2);(try clear hk);(try clear hi)) | ((with_reducible refine gate_dst (N := 6) rfl ?_);refine box_event ?hg (N := 6) ?hd (cs := #[.bool false,.int .u64 0,.int .u64 0]) (t := 28) ?hr ?_;(case hd => rfl);(case hg => rfl);(case hr => exact Z515);intro gb424 hg w12 hbox hb;have n_ := jA (blk_below (g := gb415) (o := .cells #[.bool a0_0,.int .u64 a0_1,.int .u64 a0_2,.int .i64 a0_3] 30 (0,0)) Z546 hb) (jA (blk_below (g := gb416) (o := .cells #[.bool a1_0,.int .u64 a1_1,.int .u64 a1_2,.int .i64 a1_3] 30 (0,0)) Z551 hb) (jA (below_step Z435 hb) (jA (hbox) (jA ((Z121 : w.heap.size ≤ gb424)) (jA ((Z121 : w.heap.size ≤ gb424)) (jA ((Z286 : gb415 ≠ gb424)) (jA ((Z290 : gb424 ≠ gb415)) (jA ((Z298 : gb416 ≠ gb424)) (Aside0.mk ((Z300 : gb424 ≠ gb416)))))))))));clear BK415 BK416 HB;obtain ⟨BK415,BK416,HB,BK424,GW424,GE424,NB415_424,NB424_415,NB416_424,NB424_416⟩ := n_;clear hb hbox hg) | ((with_reducible refine gate_dst (N := 7) rfl ?_);refine box_event ?hg (N := 7) ?hd (cs := #[.bool false,.int .u64 0,.int .u64 0]) (t := 28) ?hr ?_;(case hd => rfl);(case hg => rfl);(case hr => exact Z515);intro gb425 hg w13 hbox hb;have n_ := jA (blk_below (g := gb415) (o := .cells #[.bool a0_0,.int .u64 a0_1,.int .u64 a0_2,.int .i64 a0_3] 30 (0,0)) Z546 hb) (jA (blk_below (g := gb416) (o := .cells #[.bool a1_0,.int .u64 a1_1,.int .u64 a1_2,.int .i64 a1_3] 30 (0,0)) Z551 hb) (jA (blk_below (g := gb424) (o := .cells #[.bool false,.int .u64 0,.int .u64 0] 28 (0,0)) Z570 hb) (jA (below_step Z425 hb) (jA (hbox) (jA ((Z94 : w.heap.size ≤ gb425)) (jA ((Z94 : w.heap.size ≤ gb425)) (jA ((Z286 : gb415 ≠ gb425)) (jA ((Z290 : gb425 ≠ gb415)) (jA ((Z298 : gb416 ≠ gb425)) (jA ((Z300 : gb425 ≠ gb416)) (jA ((Z371 : gb424 ≠ gb425)) (Aside0.mk ((Z374 : gb425 ≠ gb424))))))))))))));clear BK415 BK416 BK424 HB;obtain ⟨BK415,BK416,BK424,HB,BK425,GW425,GE425,NB415_425,NB425_415,NB416_425,NB425_416,NB424_425,NB425_424⟩ := n_;clear hb hbox hg;have hnb14 := NB424_415.out;have hnc14 := NB415_424.out;have hnb15 := NB424_416.out;have hnc15 := NB416_424.out;have hnb16 := NB424_425.out;have hnc16 := NB425_424.out;obtain ⟨hcz17_0,hcz17_1,hcz17_2,hfz17_0,hfz17_1,hfz17_2⟩ := impl_CompareFrac.cells3 BK424.out;have hnb18 := NB425_415.out;have hnc18 := NB415_425.out;have hnb19 := NB425_416.out;have hnc19 := NB416_425.out;obtain ⟨hcz20_0,hcz20_1,hcz20_2,hfz20_0,hfz20_1,hfz20_2⟩ := impl_CompareFrac.cells3 BK425.out) | ((with_reducible refine gate_callee (f := 54) rfl ?_);refine goesL_ (some 20) rfl rfl Try.func54 Z580 rfl #[.agg #[.bool t417,.int .u64 t418,.int .u64 t419],.agg #[.bool t420,.int .u64 t421,.int .u64 t422]] rfl Z395 ?_;(with_reducible refine (impl_CompareWide.calls k t417 t418 t419 t420 t421 t422 t426 _ A5.out).mono ?_);rintro e w21 ⟨rfl,hb⟩;refine ⟨_,rfl,?_⟩;have n_ := jA (blk_below (g := gb415) (o := .cells #[.bool a0_0,.int .u64 a0_1,.int .u64 a0_2,.int .i64 a0_3] 30 (0,0)) (by refine bP ?_;refine blk_far ?_ NB415_425.out _;refine bP ?_;refine blk_far ?_ NB415_425.out _;refine bP ?_;refine blk_far ?_ NB415_425.out _;refine bP ?_;refine blk_far ?_ NB415_424.out _;refine bP ?_;refine blk_far ?_ NB415_424.out _;refine bP ?_;refine blk_far ?_ NB415_424.out _;refine bP ?_;exact BK415.out) hb) (jA (blk_below (g := gb416) (o := .cells #[.bool a1_0,.int .u64 a1_1,.int .u64 a1_2,.int .i64 a1_3] 30 (0,0)) (by refine bP ?_;refine blk_far ?_ NB416_425.out _;refine bP ?_;refine blk_far ?_ NB416_425.out _;refine bP ?_;refine blk_far ?_ NB416_425.out _;refine bP ?_;refine blk_far ?_ NB416_424.out _;refine bP ?_;refine blk_far ?_ NB416_424.out _;refine bP ?_;refine blk_far ?_ NB416_424.out _;refine bP ?_;exact BK416.out) hb) (jA (blk_below (g := gb424) (o := .cells #[.bool t417,.int .u64 t418,.int .u64 t419] 28 (0,0)) (by refine bP ?_;refine blk_far ?_ NB424_425.out _;refine bP ?_;refine blk_far ?_ NB424_425.out _;refine bP ?_;refine blk_far ?_ NB424_425.out _;refine bP ?_;refine blk_put (cs := #[.bool t417,.int .u64 t418,.int .u64 0]) ?_ 2 _ rfl;refine bP ?_;refine blk_put (cs := #[.bool t417,.int .u64 0,.int .u64 0]) ?_ 1 _ rfl;refine bP ?_;refine blk_put (cs := #[.bool false,.int .u64 0,.int .u64 0]) ?_ 0 _ rfl;refine bP ?_;exact BK424.out) hb) (jA (blk_below (g := gb425) (o := .cells #[.bool t420,.int .u64 t421,.int .u64 t422] 28 (0,0)) (by refine bP ?_;refine blk_put (cs := #[.bool t420,.int .u64 t421,.int .u64 0]) ?_ 2 _ rfl;refine bP ?_;refine blk_put (cs := #[.bool t420,.int .u64 0,.int .u64 0]) ?_ 1 _ rfl;refine bP ?_;refine blk_put (cs := #[.bool false,.int .u64 0,.int .u64 0]) ?_ 0 _ rfl;refine bP ?_;refine blk_far ?_ NB425_424.out _;refine bP ?_;refine blk_far ?_ NB425_424.out _;refine bP ?_;refine blk_far ?_ NB425_424.out _;refine bP ?_;exact BK425.out) hb) (Aside0.mk (below_step Z97 hb)))));clear BK415 BK416 BK424 BK425 HB;obtain ⟨BK415,BK416,BK424,BK425,HB⟩ := n_;(try clear hb);(try clear hb2);(try clear hk);(try clear hi)))
    go_ret2
    exact ⟨Z400,Z97⟩
  · replace c4 := Bool.eq_false_iff.mpr c4
    subst c4
    have H1 : (some (0,false)) = some (r1,r2) := by rw [if_neg (show ¬ (false = true) by decide)] at H;exact H
    clear H
    have H := H1
    clear H1
    simp only [Option.some.injEq,Prod.mk.injEq] at H
    obtain ⟨rfl,rfl⟩ := H
    go_enter Try.func35,Try.ntmps35
    go_wp2_with (first | ((with_reducible refine gate_dst (N := 2) rfl ?_);refine box_event ?hg (N := 2) ?hd (cs := #[.bool a0_0,.int .u64 a0_1,.int .u64 a0_2,.int .i64 a0_3]) (t := 30) ?hr ?_;(case hd => rfl);(case hg => rfl);(case hr => exact Z515);intro gb415 hg w22 hbox hb;have n_ := jA (below_step Z486 hb) (jA (hbox) (jA ((Z271 : w.heap.size ≤ gb415)) (Aside0.mk ((Z271 : w.heap.size ≤ gb415)))));clear HB;obtain ⟨HB,BK415,GW415,GE415⟩ := n_;clear hb hbox hg) | ((with_reducible refine gate_dst (N := 3) rfl ?_);refine box_event ?hg (N := 3) ?hd (cs := #[.bool a1_0,.int .u64 a1_1,.int .u64 a1_2,.int .i64 a1_3]) (t := 30) ?hr ?_;(case hd => rfl);(case hg => rfl);(case hr => exact Z515);intro gb416 hg w23 hbox hb;have n_ := jA (blk_below (g := gb415) (o := .cells #[.bool a0_0,.int .u64 a0_1,.int .u64 a0_2,.int .i64 a0_3] 30 (0,0)) Z546 hb) (jA (below_step Z469 hb) (jA (hbox) (jA ((Z199 : w.heap.size ≤ gb416)) (jA ((Z199 : w.heap.size ≤ gb416)) (jA ((Z286 : gb415 ≠ gb416)) (Aside0.mk ((Z290 : gb416 ≠ gb415))))))));clear BK415 HB;obtain ⟨BK415,HB,BK416,GW416,GE416,NB415_416,NB416_415⟩ := n_;clear hb hbox hg;have hnb24 := NB415_416.out;have hnc24 := NB416_415.out;obtain ⟨hcz25_0,hcz25_1,hcz25_2,hcz25_3,hfz25_0,hfz25_1,hfz25_2,hfz25_3⟩ := impl_CompareFrac.cells4 BK415.out;obtain ⟨hcz26_0,hcz26_1,hcz26_2,hcz26_3,hfz26_0,hfz26_1,hfz26_2,hfz26_3⟩ := impl_CompareFrac.cells4 BK416.out) | ((with_reducible refine gate_callee (f := 48) rfl ?_);refine goesL_ (some 12) rfl rfl Try.func48 Z580 rfl #[.agg #[.bool a0_0,.int .u64 a0_1,.int .u64 a0_2,.int .i64 a0_3],.agg #[.bool a1_0,.int .u64 a1_1,.int .u64 a1_2,.int .i64 a1_3]] rfl Z395 ?_;(with_reducible refine (impl_crossed.calls k a0_0 a0_1 a0_2 a0_3 a1_0 a1_1 a1_2 a1_3 t417 t418 t419 t420 t421 t422 false _ A3.out).mono ?_);rintro e w27 ⟨rfl,hb⟩;refine ⟨_,rfl,?_⟩;have n_ := jA (blk_below (g := gb415) (o := .cells #[.bool a0_0,.int .u64 a0_1,.int .u64 a0_2,.int .i64 a0_3] 30 (0,0)) Z546 hb) (jA (blk_below (g := gb416) (o := .cells #[.bool a1_0,.int .u64 a1_1,.int .u64 a1_2,.int .i64 a1_3] 30 (0,0)) Z551 hb) (Aside0.mk (below_step Z435 hb)));clear BK415 BK416 HB;obtain ⟨BK415,BK416,HB⟩ := n_;(try clear hb);(try clear hb2);(try clear hk);(try clear hi)) | ((with_reducible refine gate_dst (N := 6) rfl ?_);refine box_event ?hg (N := 6) ?hd (cs := #[.bool false,.int .u64 0,.int .u64 0]) (t := 28) ?hr ?_;(case hd => rfl);(case hg => rfl);(case hr => exact Z515);intro gb424 hg w28 hbox hb;have n_ := jA (blk_below (g := gb415) (o := .cells #[.bool a0_0,.int .u64 a0_1,.int .u64 a0_2,.int .i64 a0_3] 30 (0,0)) Z546 hb) (jA (blk_below (g := gb416) (o := .cells #[.bool a1_0,.int .u64 a1_1,.int .u64 a1_2,.int .i64 a1_3] 30 (0,0)) Z551 hb) (jA (below_step Z435 hb) (jA (hbox) (jA ((Z121 : w.heap.size ≤ gb424)) (jA ((Z121 : w.heap.size ≤ gb424)) (jA ((Z286 : gb415 ≠ gb424)) (jA ((Z290 : gb424 ≠ gb415)) (jA ((Z298 : gb416 ≠ gb424)) (Aside0.mk ((Z300 : gb424 ≠ gb416)))))))))));clear BK415 BK416 HB;obtain ⟨BK415,BK416,HB,BK424,GW424,GE424,NB415_424,NB424_415,NB416_424,NB424_416⟩ := n_;clear hb hbox hg) | ((with_reducible refine gate_dst (N := 7) rfl ?_);refine box_event ?hg (N := 7) ?hd (cs := #[.bool false,.int .u64 0,.int .u64 0]) (t := 28) ?hr ?_;(case hd => rfl);(case hg => rfl);(case hr => exact Z515);intro gb425 hg w29 hbox hb;have n_ := jA (blk_below (g := gb415) (o := .cells #[.bool a0_0,.int .u64 a0_1,.int .u64 a0_2,.int .i64 a0_3] 30 (0,0)) Z546 hb) (jA (blk_below (g := gb416) (o := .cells #[.bool a1_0,.int .u64 a1_1,.int .u64 a1_2,.int .i64 a1_3] 30 (0,0)) Z551 hb) (jA (blk_below (g := gb424) (o := .cells #[.bool false,.int .u64 0,.int .u64 0] 28 (0,0)) Z570 hb) (jA (below_step Z425 hb) (jA (hbox) (jA ((Z94 : w.heap.size ≤ gb425)) (jA ((Z94 : w.heap.size ≤ gb425)) (jA ((Z286 : gb415 ≠ gb425)) (jA ((Z290 : gb425 ≠ gb415)) (jA ((Z298 : gb416 ≠ gb425)) (jA ((Z300 : gb425 ≠ gb416)) (jA ((Z371 : gb424 ≠ gb425)) (Aside0.mk ((Z374 : gb425 ≠ gb424))))))))))))));clear BK415 BK416 BK424 HB;obtain ⟨BK415,BK416,BK424,HB,BK425,GW425,GE425,NB415_425,NB425_415,NB416_425,NB425_416,NB424_425,NB425_424⟩ := n_;clear hb hbox hg;have hnb30 := NB424_415.out;have hnc30 := NB415_424.out;have hnb31 := NB424_416.out;have hnc31 := NB416_424.out;have hnb32 := NB424_425.out;have hnc32 := NB425_424.out;obtain ⟨hcz33_0,hcz33_1,hcz33_2,hfz33_0,hfz33_1,hfz33_2⟩ := impl_CompareFrac.cells3 BK424.out;have hnb34 := NB425_415.out;have hnc34 := NB415_425.out;have hnb35 := NB425_416.out;have hnc35 := NB416_425.out;obtain ⟨hcz36_0,hcz36_1,hcz36_2,hfz36_0,hfz36_1,hfz36_2⟩ := impl_CompareFrac.cells3 BK425.out))
    go_ret2
    exact ⟨Z400,Z97⟩

/-! ### impl_AddInt: function 76 -/
def impl_AddInt.f (a0 : Int) (a1 : Int) : Option (Int × Bool) := if ((decide (a0 < 0)) == (decide (a1 < 0))) = true then (if ((decide ((wrap64 (a0 + a1)) < 0)) != (decide (a0 < 0))) = true then (some (0,false)) else (some (wrap64 (a0 + a1),true))) else (some (wrap64 (a0 + a1),true))
set_option maxHeartbeats 8000000 in
set_option maxRecDepth 100000 in
theorem impl_AddInt.calls (a0 : Int) (a1 : Int) (r1 : Int) (r2 : Bool) (w : World) (h : impl_AddInt.f a0 a1 = some (r1,r2)) :
    Calls Try.prog 76 #[.int .i64 a0,.int .i64 a1] w fun e w' => e = .returned (.tuple #[.int .i64 r1,.bool r2]) ∧ Drawn0 w w' := by
  have H : (if ((decide (a0 < 0)) == (decide (a1 < 0))) = true then (if ((decide ((wrap64 (a0 + a1)) < 0)) != (decide (a0 < 0))) = true then (some (0,false)) else (some (wrap64 (a0 + a1),true))) else (some (wrap64 (a0 + a1),true))) = some (r1,r2) := h
  clear h
  by_cases c3 : ((decide (a0 < 0)) == (decide (a1 < 0))) = true
  · rw [if_pos c3] at H
    have c3b0 : ((decide (a0 < 0)) == (decide (a1 < 0))) = true := c3
    (try (have c3b1 : decide ((decide (a0 < 0)) = (decide (a1 < 0))) = true := by simpa using c3))
    (try (have c3b2 : ((decide (a0 < 0)) == (decide (a1 < 0))) = true := by simpa using c3))
    clear c3
    by_cases c4 : ((decide ((wrap64 (a0 + a1)) < 0)) != (decide (a0 < 0))) = true
    · rw [if_pos c4] at H
      have c4b0 : ((decide ((wrap64 (a0 + a1)) < 0)) != (decide (a0 < 0))) = true := c4
      (try (have c4b1 : decide ((decide ((wrap64 (a0 + a1)) < 0)) = (decide (a0 < 0))) = false := by simpa using c4))
      (try (have c4b2 : ((decide ((wrap64 (a0 + a1)) < 0)) == (decide (a0 < 0))) = false := by simpa using c4))
      (try (have c4b3 : ¬ ((decide ((wrap64 (a0 + a1)) < 0)) = (decide (a0 < 0))) := by simpa using c4))
      clear c4
      simp only [Option.some.injEq,Prod.mk.injEq] at H
      obtain ⟨rfl,rfl⟩ := H
      go_enter Try.func76,Try.ntmps76
      go_wp2
      go_ret2
      exact ⟨Z514,Z491⟩
    · rw [if_neg c4] at H
      have c4b0 : ((decide ((wrap64 (a0 + a1)) < 0)) != (decide (a0 < 0))) = false := by simpa using c4
      (try (have c4b1 : decide ((decide ((wrap64 (a0 + a1)) < 0)) = (decide (a0 < 0))) = true := by simpa using c4))
      (try (have c4b2 : ((decide ((wrap64 (a0 + a1)) < 0)) == (decide (a0 < 0))) = true := by simpa using c4))
      clear c4
      simp only [Option.some.injEq,Prod.mk.injEq] at H
      obtain ⟨rfl,rfl⟩ := H
      go_enter Try.func76,Try.ntmps76
      go_wp2
      go_ret2
      exact ⟨Z514,Z491⟩
  · rw [if_neg c3] at H
    have c3b0 : ((decide (a0 < 0)) == (decide (a1 < 0))) = false := by simpa using c3
    (try (have c3b1 : decide ((decide (a0 < 0)) = (decide (a1 < 0))) = false := by simpa using c3))
    (try (have c3b2 : ((decide (a0 < 0)) == (decide (a1 < 0))) = false := by simpa using c3))
    (try (have c3b3 : ¬ ((decide (a0 < 0)) = (decide (a1 < 0))) := by simpa using c3))
    clear c3
    simp only [Option.some.injEq,Prod.mk.injEq] at H
    obtain ⟨rfl,rfl⟩ := H
    go_enter Try.func76,Try.ntmps76
    go_wp2
    go_ret2
    exact ⟨Z514,Z491⟩

/-! ### impl_Slot_plus: function 58 -/
theorem impl_Slot_plus.cells2 {w : World} {g : Nat} {t : TypeId} {a0 a1 : Value} (h : w.heap[g]? = some (.cells #[a0,a1] t (0,0))) : w.cell? ⟨g,0,none⟩ = some a0 ∧ w.cell? ⟨g,1,none⟩ = some a1 ∧ w.frozen? ⟨g,0,none⟩ = false ∧ w.frozen? ⟨g,1,none⟩ = false := ⟨(blk_cell h 0).trans rfl,(blk_cell h 1).trans rfl,blk_frozen h 0,blk_frozen h 1⟩
def impl_Slot_plus.f (a0_0 : Int) (a0_1 : Int) (a1_0 : Int) (a1_1 : Int) : Option (Int × Int × Bool) := (impl_AddInt.f a0_0 a1_0).bind fun bt430 => ((impl_AddInt.f a0_1 a1_1).bind fun bt432 => (if bt430.2 = true then (if bt432.2 = true then (some (bt430.1,bt432.1,true)) else (some (0,0,false))) else (some (0,0,false))))
set_option maxHeartbeats 8000000 in
set_option maxRecDepth 100000 in
theorem impl_Slot_plus.calls (a0_0 : Int) (a0_1 : Int) (a1_0 : Int) (a1_1 : Int) (r1 : Int) (r2 : Int) (r3 : Bool) (w : World) (h : impl_Slot_plus.f a0_0 a0_1 a1_0 a1_1 = some (r1,r2,r3)) :
    Calls Try.prog 58 #[.agg #[.int .i64 a0_0,.int .i64 a0_1],.agg #[.int .i64 a1_0,.int .i64 a1_1]] w fun e w' => e = .returned (.tuple #[.agg #[.int .i64 r1,.int .i64 r2],.bool r3]) ∧ Below w.heap.size w w' := by
  have hu33 := Try.underlying33
  have HB := Aside0.mk (Below.refl w.heap.size w)
  have H : ((impl_AddInt.f a0_0 a1_0).bind fun bt430 => ((impl_AddInt.f a0_1 a1_1).bind fun bt432 => (if bt430.2 = true then (if bt432.2 = true then (some (bt430.1,bt432.1,true)) else (some (0,0,false))) else (some (0,0,false))))) = some (r1,r2,r3) := h
  clear h
  obtain ⟨⟨t430,t431⟩,A30,H⟩ := Option.bind_eq_some_iff.mp H
  try dsimp only at H
  have A3 := Aside0.mk A30
  clear A30
  obtain ⟨⟨t432,t433⟩,A40,H⟩ := Option.bind_eq_some_iff.mp H
  try dsimp only at H
  have A4 := Aside0.mk A40
  clear A40
  by_cases c5 : t431 = true
  · subst c5
    have H1 : (if t433 = true then (some (t430,t432,true)) else (some (0,0,false))) = some (r1,r2,r3) := by rw [if_pos rfl] at H;exact H
    clear H
    have H := H1
    clear H1
    by_cases c6 : t433 = true
    · subst c6
      have H1 : (some (t430,t432,true)) = some (r1,r2,r3) := by rw [if_pos rfl] at H;exact H
      clear H
      have H := H1
      clear H1
      simp only [Option.some.injEq,Prod.mk.injEq] at H
      obtain ⟨rfl,rfl,rfl⟩ := H
      go_enter Try.func58,Try.ntmps58
      go_wp2_with (first | ((with_reducible refine gate_dst (N := 2) rfl ?_);refine box_event ?hg (N := 2) ?hd (cs := #[.int .i64 a0_0,.int .i64 a0_1]) (t := 33) ?hr ?_;(case hd => rfl);(case hg => rfl);(case hr => exact Z515);intro gb427 hg w7 hbox hb;have n_ := jA (below_step Z486 hb) (jA (hbox) (jA ((Z271 : w.heap.size ≤ gb427)) (Aside0.mk ((Z271 : w.heap.size ≤ gb427)))));clear HB;obtain ⟨HB,BK427,GW427,GE427⟩ := n_;clear hb hbox hg) | ((with_reducible refine gate_dst (N := 3) rfl ?_);refine box_event ?hg (N := 3) ?hd (cs := #[.int .i64 a1_0,.int .i64 a1_1]) (t := 33) ?hr ?_;(case hd => rfl);(case hg => rfl);(case hr => exact Z515);intro gb428 hg w8 hbox hb;have n_ := jA (blk_below (g := gb427) (o := .cells #[.int .i64 a0_0,.int .i64 a0_1] 33 (0,0)) Z590 hb) (jA (below_step Z462 hb) (jA (hbox) (jA ((Z192 : w.heap.size ≤ gb428)) (jA ((Z192 : w.heap.size ≤ gb428)) (jA ((Z379 : gb427 ≠ gb428)) (Aside0.mk ((Z381 : gb428 ≠ gb427))))))));clear BK427 HB;obtain ⟨BK427,HB,BK428,GW428,GE428,NB427_428,NB428_427⟩ := n_;clear hb hbox hg) | ((with_reducible refine gate_dst (N := 4) rfl ?_);refine box_event ?hg (N := 4) ?hd (cs := #[.int .i64 0,.int .i64 0]) (t := 33) ?hr ?_;(case hd => rfl);(case hg => rfl);(case hr => exact Z515);intro gb429 hg w9 hbox hb;have n_ := jA (blk_below (g := gb427) (o := .cells #[.int .i64 a0_0,.int .i64 a0_1] 33 (0,0)) Z590 hb) (jA (blk_below (g := gb428) (o := .cells #[.int .i64 a1_0,.int .i64 a1_1] 33 (0,0)) Z593 hb) (jA (below_step Z439 hb) (jA (hbox) (jA ((Z115 : w.heap.size ≤ gb429)) (jA ((Z115 : w.heap.size ≤ gb429)) (jA ((Z379 : gb427 ≠ gb429)) (jA ((Z381 : gb429 ≠ gb427)) (jA ((Z386 : gb428 ≠ gb429)) (Aside0.mk ((Z390 : gb429 ≠ gb428)))))))))));clear BK427 BK428 HB;obtain ⟨BK427,BK428,HB,BK429,GW429,GE429,NB427_429,NB429_427,NB428_429,NB429_428⟩ := n_;clear hb hbox hg;have hnb10 := NB427_428.out;have hnc10 := NB428_427.out;have hnb11 := NB427_429.out;have hnc11 := NB429_427.out;obtain ⟨hcz12_0,hcz12_1,hfz12_0,hfz12_1⟩ := impl_Slot_plus.cells2 BK427.out;have hnb13 := NB428_429.out;have hnc13 := NB429_428.out;obtain ⟨hcz14_0,hcz14_1,hfz14_0,hfz14_1⟩ := impl_Slot_plus.cells2 BK428.out) | ((with_reducible refine gate_callee (f := 76) rfl ?_);refine goesL_ (some 15) rfl rfl Try.func76 Z580 rfl #[.int .i64 a0_0,.int .i64 a1_0] rfl Z395 ?_;(with_reducible refine (impl_AddInt.calls a0_0 a1_0 t430 true _ A3.out).mono ?_);rintro e w' ⟨rfl,⟨nd,rfl⟩⟩;refine ⟨_,rfl,?_⟩;(iterate 4 (try (rw [drewN_self w9];generalize hq_ : World.drewN w9 _ = w9;have n0_ : Aside0 (w9.heap[gb427]? = some (.cells #[.int .i64 a0_0,.int .i64 a0_1] 33 (0,0))) := ⟨Z499⟩;have n1_ : Aside0 (w9.heap[gb428]? = some (.cells #[.int .i64 a1_0,.int .i64 a1_1] 33 (0,0))) := ⟨Z498⟩;have n2_ : Aside0 (w9.heap[gb429]? = some (.cells #[.int .i64 0,.int .i64 0] 33 (0,0))) := ⟨Z497⟩;have n3_ : Aside0 (Below w.heap.size w w9) := ⟨Z102⟩;clear BK427 BK428 BK429 HB hq_;have BK427 := n0_;have BK428 := n1_;have BK429 := n2_;have HB := n3_;clear n0_ n1_ n2_ n3_)));(try (obtain ⟨hcz12_0,hcz12_1,hfz12_0,hfz12_1⟩ := impl_Slot_plus.cells2 BK427.out));(try (obtain ⟨hcz14_0,hcz14_1,hfz14_0,hfz14_1⟩ := impl_Slot_plus.cells2 BK428.out))) | ((with_reducible refine gate_callee (f := 76) rfl ?_);refine goesL_ (some 23) rfl rfl Try.func76 Z580 rfl #[.int .i64 a0_1,.int .i64 a1_1] rfl Z395 ?_;(with_reducible refine (impl_AddInt.calls a0_1 a1_1 t432 true _ A4.out).mono ?_);rintro e w' ⟨rfl,⟨nd,rfl⟩⟩;refine ⟨_,rfl,?_⟩;(iterate 4 (try (rw [drewN_self w9];generalize hq_ : World.drewN w9 _ = w9;have n0_ : Aside0 (w9.heap[gb427]? = some (.cells #[.int .i64 a0_0,.int .i64 a0_1] 33 (0,0))) := ⟨Z499⟩;have n1_ : Aside0 (w9.heap[gb428]? = some (.cells #[.int .i64 a1_0,.int .i64 a1_1] 33 (0,0))) := ⟨Z498⟩;have n2_ : Aside0 (w9.heap[gb429]? = some (.cells #[.int .i64 0,.int .i64 0] 33 (0,0))) := ⟨Z497⟩;have n3_ : Aside0 (Below w.heap.size w w9) := ⟨Z102⟩;clear BK427 BK428 BK429 HB hq_;have BK427 := n0_;have BK428 := n1_;have BK429 := n2_;have HB := n3_;clear n0_ n1_ n2_ n3_)));(try (obtain ⟨hcz12_0,hcz12_1,hfz12_0,hfz12_1⟩ := impl_Slot_plus.cells2 BK427.out));(try (obtain ⟨hcz14_0,hcz14_1,hfz14_0,hfz14_1⟩ := impl_Slot_plus.cells2 BK428.out));obtain ⟨hcz15_0,hcz15_1,hfz15_0,hfz15_1⟩ := impl_Slot_plus.cells2 BK429.out))
      refine bodyPost_ret (results_ct rfl _ _ gb429 33 #[.int .i64 t430,.int .i64 t432] (0,0) _ rfl (by refine bP ?_;refine blk_put (cs := #[.int .i64 t430,.int .i64 0]) ?_ 1 _ rfl;refine bP ?_;refine blk_put (cs := #[.int .i64 0,.int .i64 0]) ?_ 0 _ rfl;refine bP ?_;exact BK429.out) Try.underlying33 rfl Z580) rfl ?_
      exact ⟨Z400,Z422⟩
    · replace c6 := Bool.eq_false_iff.mpr c6
      subst c6
      have H1 : (some (0,0,false)) = some (r1,r2,r3) := by rw [if_neg (show ¬ (false = true) by decide)] at H;exact H
      clear H
      have H := H1
      clear H1
      simp only [Option.some.injEq,Prod.mk.injEq] at H
      obtain ⟨rfl,rfl,rfl⟩ := H
      go_enter Try.func58,Try.ntmps58
      go_wp2_with (first | ((with_reducible refine gate_dst (N := 2) rfl ?_);refine box_event ?hg (N := 2) ?hd (cs := #[.int .i64 a0_0,.int .i64 a0_1]) (t := 33) ?hr ?_;(case hd => rfl);(case hg => rfl);(case hr => exact Z515);intro gb427 hg w16 hbox hb;have n_ := jA (below_step Z486 hb) (jA (hbox) (jA ((Z271 : w.heap.size ≤ gb427)) (Aside0.mk ((Z271 : w.heap.size ≤ gb427)))));clear HB;obtain ⟨HB,BK427,GW427,GE427⟩ := n_;clear hb hbox hg) | ((with_reducible refine gate_dst (N := 3) rfl ?_);refine box_event ?hg (N := 3) ?hd (cs := #[.int .i64 a1_0,.int .i64 a1_1]) (t := 33) ?hr ?_;(case hd => rfl);(case hg => rfl);(case hr => exact Z515);intro gb428 hg w17 hbox hb;have n_ := jA (blk_below (g := gb427) (o := .cells #[.int .i64 a0_0,.int .i64 a0_1] 33 (0,0)) Z590 hb) (jA (below_step Z462 hb) (jA (hbox) (jA ((Z192 : w.heap.size ≤ gb428)) (jA ((Z192 : w.heap.size ≤ gb428)) (jA ((Z379 : gb427 ≠ gb428)) (Aside0.mk ((Z381 : gb428 ≠ gb427))))))));clear BK427 HB;obtain ⟨BK427,HB,BK428,GW428,GE428,NB427_428,NB428_427⟩ := n_;clear hb hbox hg) | ((with_reducible refine gate_dst (N := 4) rfl ?_);refine box_event ?hg (N := 4) ?hd (cs := #[.int .i64 0,.int .i64 0]) (t := 33) ?hr ?_;(case hd => rfl);(case hg => rfl);(case hr => exact Z515);intro gb429 hg w18 hbox hb;have n_ := jA (blk_below (g := gb427) (o := .cells #[.int .i64 a0_0,.int .i64 a0_1] 33 (0,0)) Z590 hb) (jA (blk_below (g := gb428) (o := .cells #[.int .i64 a1_0,.int .i64 a1_1] 33 (0,0)) Z593 hb) (jA (below_step Z439 hb) (jA (hbox) (jA ((Z115 : w.heap.size ≤ gb429)) (jA ((Z115 : w.heap.size ≤ gb429)) (jA ((Z379 : gb427 ≠ gb429)) (jA ((Z381 : gb429 ≠ gb427)) (jA ((Z386 : gb428 ≠ gb429)) (Aside0.mk ((Z390 : gb429 ≠ gb428)))))))))));clear BK427 BK428 HB;obtain ⟨BK427,BK428,HB,BK429,GW429,GE429,NB427_429,NB429_427,NB428_429,NB429_428⟩ := n_;clear hb hbox hg;have hnb19 := NB427_428.out;have hnc19 := NB428_427.out;have hnb20 := NB427_429.out;have hnc20 := NB429_427.out;obtain ⟨hcz21_0,hcz21_1,hfz21_0,hfz21_1⟩ := impl_Slot_plus.cells2 BK427.out;have hnb22 := NB428_429.out;have hnc22 := NB429_428.out;obtain ⟨hcz23_0,hcz23_1,hfz23_0,hfz23_1⟩ := impl_Slot_plus.cells2 BK428.out) | ((with_reducible refine gate_callee (f := 76) rfl ?_);refine goesL_ (some 15) rfl rfl Try.func76 Z580 rfl #[.int .i64 a0_0,.int .i64 a1_0] rfl Z395 ?_;(with_reducible refine (impl_AddInt.calls a0_0 a1_0 t430 true _ A3.out).mono ?_);rintro e w' ⟨rfl,⟨nd,rfl⟩⟩;refine ⟨_,rfl,?_⟩;(iterate 4 (try (rw [drewN_self w18];generalize hq_ : World.drewN w18 _ = w18;have n0_ : Aside0 (w18.heap[gb427]? = some (.cells #[.int .i64 a0_0,.int .i64 a0_1] 33 (0,0))) := ⟨Z499⟩;have n1_ : Aside0 (w18.heap[gb428]? = some (.cells #[.int .i64 a1_0,.int .i64 a1_1] 33 (0,0))) := ⟨Z498⟩;have n2_ : Aside0 (w18.heap[gb429]? = some (.cells #[.int .i64 0,.int .i64 0] 33 (0,0))) := ⟨Z497⟩;have n3_ : Aside0 (Below w.heap.size w w18) := ⟨Z102⟩;clear BK427 BK428 BK429 HB hq_;have BK427 := n0_;have BK428 := n1_;have BK429 := n2_;have HB := n3_;clear n0_ n1_ n2_ n3_)));(try (obtain ⟨hcz21_0,hcz21_1,hfz21_0,hfz21_1⟩ := impl_Slot_plus.cells2 BK427.out));(try (obtain ⟨hcz23_0,hcz23_1,hfz23_0,hfz23_1⟩ := impl_Slot_plus.cells2 BK428.out))) | ((with_reducible refine gate_callee (f := 76) rfl ?_);refine goesL_ (some 23) rfl rfl Try.func76 Z580 rfl #[.int .i64 a0_1,.int .i64 a1_1] rfl Z395 ?_;(with_reducible refine (impl_AddInt.calls a0_1 a1_1 t432 false _ A4.out).mono ?_);rintro e w' ⟨rfl,⟨nd,rfl⟩⟩;refine ⟨_,rfl,?_⟩;(iterate 4 (try (rw [drewN_self w18];generalize hq_ : World.drewN w18 _ = w18;have n0_ : Aside0 (w18.heap[gb427]? = some (.cells #[.int .i64 a0_0,.int .i64 a0_1] 33 (0,0))) := ⟨Z499⟩;have n1_ : Aside0 (w18.heap[gb428]? = some (.cells #[.int .i64 a1_0,.int .i64 a1_1] 33 (0,0))) := ⟨Z498⟩;have n2_ : Aside0 (w18.heap[gb429]? = some (.cells #[.int .i64 0,.int .i64 0] 33 (0,0))) := ⟨Z497⟩;have n3_ : Aside0 (Below w.heap.size w w18) := ⟨Z102⟩;clear BK427 BK428 BK429 HB hq_;have BK427 := n0_;have BK428 := n1_;have BK429 := n2_;have HB := n3_;clear n0_ n1_ n2_ n3_)));(try (obtain ⟨hcz21_0,hcz21_1,hfz21_0,hfz21_1⟩ := impl_Slot_plus.cells2 BK427.out));(try (obtain ⟨hcz23_0,hcz23_1,hfz23_0,hfz23_1⟩ := impl_Slot_plus.cells2 BK428.out));obtain ⟨hcz24_0,hcz24_1,hfz24_0,hfz24_1⟩ := impl_Slot_plus.cells2 BK429.out))
      refine bodyPost_ret (results_ct rfl _ _ gb429 33 #[.int .i64 0,.int .i64 0] (0,0) _ rfl Z225 Try.underlying33 rfl Z580) rfl ?_
      exact ⟨Z400,Z422⟩
  · replace c5 := Bool.eq_false_iff.mpr c5
    subst c5
    have H1 : (some (0,0,false)) = some (r1,r2,r3) := by rw [if_neg (show ¬ (false = true) by decide)] at H;exact H
    clear H
    have H := H1
    clear H1
    simp only [Option.some.injEq,Prod.mk.injEq] at H
    obtain ⟨rfl,rfl,rfl⟩ := H
    go_enter Try.func58,Try.ntmps58
    go_wp2_with (first | ((with_reducible refine gate_dst (N := 2) rfl ?_);refine box_event ?hg (N := 2) ?hd (cs := #[.int .i64 a0_0,.int .i64 a0_1]) (t := 33) ?hr ?_;(case hd => rfl);(case hg => rfl);(case hr => exact Z515);intro gb427 hg w25 hbox hb;have n_ := jA (below_step Z486 hb) (jA (hbox) (jA ((Z271 : w.heap.size ≤ gb427)) (Aside0.mk ((Z271 : w.heap.size ≤ gb427)))));clear HB;obtain ⟨HB,BK427,GW427,GE427⟩ := n_;clear hb hbox hg) | ((with_reducible refine gate_dst (N := 3) rfl ?_);refine box_event ?hg (N := 3) ?hd (cs := #[.int .i64 a1_0,.int .i64 a1_1]) (t := 33) ?hr ?_;(case hd => rfl);(case hg => rfl);(case hr => exact Z515);intro gb428 hg w26 hbox hb;have n_ := jA (blk_below (g := gb427) (o := .cells #[.int .i64 a0_0,.int .i64 a0_1] 33 (0,0)) Z590 hb) (jA (below_step Z462 hb) (jA (hbox) (jA ((Z192 : w.heap.size ≤ gb428)) (jA ((Z192 : w.heap.size ≤ gb428)) (jA ((Z379 : gb427 ≠ gb428)) (Aside0.mk ((Z381 : gb428 ≠ gb427))))))));clear BK427 HB;obtain ⟨BK427,HB,BK428,GW428,GE428,NB427_428,NB428_427⟩ := n_;clear hb hbox hg) | ((with_reducible refine gate_dst (N := 4) rfl ?_);refine box_event ?hg (N := 4) ?hd (cs := #[.int .i64 0,.int .i64 0]) (t := 33) ?hr ?_;(case hd => rfl);(case hg => rfl);(case hr => exact Z515);intro gb429 hg w27 hbox hb;have n_ := jA (blk_below (g := gb427) (o := .cells #[.int .i64 a0_0,.int .i64 a0_1] 33 (0,0)) Z590 hb) (jA (blk_below (g := gb428) (o := .cells #[.int .i64 a1_0,.int .i64 a1_1] 33 (0,0)) Z593 hb) (jA (below_step Z439 hb) (jA (hbox) (jA ((Z115 : w.heap.size ≤ gb429)) (jA ((Z115 : w.heap.size ≤ gb429)) (jA ((Z379 : gb427 ≠ gb429)) (jA ((Z381 : gb429 ≠ gb427)) (jA ((Z386 : gb428 ≠ gb429)) (Aside0.mk ((Z390 : gb429 ≠ gb428)))))))))));clear BK427 BK428 HB;obtain ⟨BK427,BK428,HB,BK429,GW429,GE429,NB427_429,NB429_427,NB428_429,NB429_428⟩ := n_;clear hb hbox hg;have hnb28 := NB427_428.out;have hnc28 := NB428_427.out;have hnb29 := NB427_429.out;have hnc29 := NB429_427.out;obtain ⟨hcz30_0,hcz30_1,hfz30_0,hfz30_1⟩ := impl_Slot_plus.cells2 BK427.out;have hnb31 := NB428_429.out;have hnc31 := NB429_428.out;obtain ⟨hcz32_0,hcz32_1,hfz32_0,hfz32_1⟩ := impl_Slot_plus.cells2 BK428.out) | ((with_reducible refine gate_callee (f := 76) rfl ?_);refine goesL_ (some 15) rfl rfl Try.func76 Z580 rfl #[.int .i64 a0_0,.int .i64 a1_0] rfl Z395 ?_;(with_reducible refine (impl_AddInt.calls a0_0 a1_0 t430 false _ A3.out).mono ?_);rintro e w' ⟨rfl,⟨nd,rfl⟩⟩;refine ⟨_,rfl,?_⟩;(iterate 4 (try (rw [drewN_self w27];generalize hq_ : World.drewN w27 _ = w27;have n0_ : Aside0 (w27.heap[gb427]? = some (.cells #[.int .i64 a0_0,.int .i64 a0_1] 33 (0,0))) := ⟨Z499⟩;have n1_ : Aside0 (w27.heap[gb428]? = some (.cells #[.int .i64 a1_0,.int .i64 a1_1] 33 (0,0))) := ⟨Z498⟩;have n2_ : Aside0 (w27.heap[gb429]? = some (.cells #[.int .i64 0,.int .i64 0] 33 (0,0))) := ⟨Z497⟩;have n3_ : Aside0 (Below w.heap.size w w27) := ⟨Z102⟩;clear BK427 BK428 BK429 HB hq_;have BK427 := n0_;have BK428 := n1_;have BK429 := n2_;have HB := n3_;clear n0_ n1_ n2_ n3_)));(try (obtain ⟨hcz30_0,hcz30_1,hfz30_0,hfz30_1⟩ := impl_Slot_plus.cells2 BK427.out));(try (obtain ⟨hcz32_0,hcz32_1,hfz32_0,hfz32_1⟩ := impl_Slot_plus.cells2 BK428.out))) | ((with_reducible refine gate_callee (f := 76) rfl ?_);refine goesL_ (some 23) rfl rfl Try.func76 Z580 rfl #[.int .i64 a0_1,.int .i64 a1_1] rfl Z395 ?_;(with_reducible refine (impl_AddInt.calls a0_1 a1_1 t432 t433 _ A4.out).mono ?_);rintro e w' ⟨rfl,⟨nd,rfl⟩⟩;refine ⟨_,rfl,?_⟩;(iterate 4 (try (rw [drewN_self w27];generalize hq_ : World.drewN w27 _ = w27;have n0_ : Aside0 (w27.heap[gb427]? = some (.cells #[.int .i64 a0_0,.int .i64 a0_1] 33 (0,0))) := ⟨Z499⟩;have n1_ : Aside0 (w27.heap[gb428]? = some (.cells #[.int .i64 a1_0,.int .i64 a1_1] 33 (0,0))) := ⟨Z498⟩;have n2_ : Aside0 (w27.heap[gb429]? = some (.cells #[.int .i64 0,.int .i64 0] 33 (0,0))) := ⟨Z497⟩;have n3_ : Aside0 (Below w.heap.size w w27) := ⟨Z102⟩;clear BK427 BK428 BK429 HB hq_;have BK427 := n0_;have BK428 := n1_;have BK429 := n2_;have HB := n3_;clear n0_ n1_ n2_ n3_)));(try (obtain ⟨hcz30_0,hcz30_1,hfz30_0,hfz30_1⟩ := impl_Slot_plus.cells2 BK427.out));(try (obtain ⟨hcz32_0,hcz32_1,hfz32_0,hfz32_1⟩ := impl_Slot_plus.cells2 BK428.out));obtain ⟨hcz33_0,hcz33_1,hfz33_0,hfz33_1⟩ := impl_Slot_plus.cells2 BK429.out))
    refine bodyPost_ret (results_ct rfl _ _ gb429 33 #[.int .i64 0,.int .i64 0] (0,0) _ rfl Z225 Try.underlying33 rfl Z580) rfl ?_
    exact ⟨Z400,Z422⟩

/-! ### impl_BothOf: function 38 -/
theorem impl_BothOf.cells2 {w : World} {g : Nat} {t : TypeId} {a0 a1 : Value} (h : w.heap[g]? = some (.cells #[a0,a1] t (0,0))) : w.cell? ⟨g,0,none⟩ = some a0 ∧ w.cell? ⟨g,1,none⟩ = some a1 ∧ w.frozen? ⟨g,0,none⟩ = false ∧ w.frozen? ⟨g,1,none⟩ = false := ⟨(blk_cell h 0).trans rfl,(blk_cell h 1).trans rfl,blk_frozen h 0,blk_frozen h 1⟩
theorem impl_BothOf.cells6 {w : World} {g : Nat} {t : TypeId} {a0 a1 a2 a3 a4 a5 : Value} (h : w.heap[g]? = some (.cells #[a0,a1,a2,a3,a4,a5] t (0,0))) : w.cell? ⟨g,0,none⟩ = some a0 ∧ w.cell? ⟨g,1,none⟩ = some a1 ∧ w.cell? ⟨g,2,none⟩ = some a2 ∧ w.cell? ⟨g,3,none⟩ = some a3 ∧ w.cell? ⟨g,4,none⟩ = some a4 ∧ w.cell? ⟨g,5,none⟩ = some a5 ∧ w.frozen? ⟨g,0,none⟩ = false ∧ w.frozen? ⟨g,1,none⟩ = false ∧ w.frozen? ⟨g,2,none⟩ = false ∧ w.frozen? ⟨g,3,none⟩ = false ∧ w.frozen? ⟨g,4,none⟩ = false ∧ w.frozen? ⟨g,5,none⟩ = false := ⟨(blk_cell h 0).trans rfl,(blk_cell h 1).trans rfl,(blk_cell h 2).trans rfl,(blk_cell h 3).trans rfl,(blk_cell h 4).trans rfl,(blk_cell h 5).trans rfl,blk_frozen h 0,blk_frozen h 1,blk_frozen h 2,blk_frozen h 3,blk_frozen h 4,blk_frozen h 5⟩
def impl_BothOf.f (a0_0 : Int) (a0_1 : Int) (a0_2 : Int) (a0_3 : Int) (a0_4 : Int) (a0_5 : Int) : Option (Int × Int × Bool) := (impl_Slot_plus.f a0_2 a0_3 a0_4 a0_5).bind fun bt436 => (some (bt436.1,bt436.2.1,bt436.2.2))
set_option maxHeartbeats 8000000 in
set_option maxRecDepth 100000 in
theorem impl_BothOf.calls (a0_0 : Int) (a0_1 : Int) (a0_2 : Int) (a0_3 : Int) (a0_4 : Int) (a0_5 : Int) (r1 : Int) (r2 : Int) (r3 : Bool) (w : World) (h : impl_BothOf.f a0_0 a0_1 a0_2 a0_3 a0_4 a0_5 = some (r1,r2,r3)) :
    Calls Try.prog 38 #[.agg #[.int .i64 a0_0,.int .i64 a0_1,.int .i64 a0_2,.int .i64 a0_3,.int .i64 a0_4,.int .i64 a0_5]] w fun e w' => e = .returned (.tuple #[.agg #[.int .i64 r1,.int .i64 r2],.bool r3]) ∧ Below w.heap.size w w' := by
  have hu35 := Try.underlying35
  have hu33 := Try.underlying33
  have HB := Aside0.mk (Below.refl w.heap.size w)
  have H : ((impl_Slot_plus.f a0_2 a0_3 a0_4 a0_5).bind fun bt436 => (some (bt436.1,bt436.2.1,bt436.2.2))) = some (r1,r2,r3) := h
  clear h
  obtain ⟨⟨t436,t437,t438⟩,A20,H⟩ := Option.bind_eq_some_iff.mp H
  try dsimp only at H
  have A2 := Aside0.mk A20
  clear A20
  simp only [Option.some.injEq,Prod.mk.injEq] at H
  obtain ⟨rfl,rfl,rfl⟩ := H
  go_enter Try.func38,Try.ntmps38
  go_wp2_with (first | ((with_reducible refine gate_dst (N := 1) rfl ?_);refine box_event ?hg (N := 1) ?hd (cs := #[.int .i64 a0_0,.int .i64 a0_1,.int .i64 a0_2,.int .i64 a0_3,.int .i64 a0_4,.int .i64 a0_5]) (t := 35) ?hr ?_;(case hd => rfl);(case hg => rfl);(case hr => exact Z515);intro gb434 hg w3 hbox hb;have n_ := jA (below_step Z486 hb) (jA (hbox) (jA ((Z271 : w.heap.size ≤ gb434)) (Aside0.mk ((Z271 : w.heap.size ≤ gb434)))));clear HB;obtain ⟨HB,BK434,GW434,GE434⟩ := n_;clear hb hbox hg) | ((with_reducible refine gate_dst (N := 2) rfl ?_);refine box_event ?hg (N := 2) ?hd (cs := #[.int .i64 0,.int .i64 0]) (t := 33) ?hr ?_;(case hd => rfl);(case hg => rfl);(case hr => exact Z515);intro gb435 hg w4 hbox hb;have n_ := jA (blk_below (g := gb434) (o := .cells #[.int .i64 a0_0,.int .i64 a0_1,.int .i64 a0_2,.int .i64 a0_3,.int .i64 a0_4,.int .i64 a0_5] 35 (0,0)) Z569 hb) (jA (below_step Z474 hb) (jA (hbox) (jA ((Z208 : w.heap.size ≤ gb435)) (jA ((Z208 : w.heap.size ≤ gb435)) (jA ((by rw [hg];exact Nat.ne_of_lt (blk_lt (g := gb434) (o := .cells #[.int .i64 a0_0,.int .i64 a0_1,.int .i64 a0_2,.int .i64 a0_3,.int .i64 a0_4,.int .i64 a0_5] 35 (0,0)) Z569) : gb434 ≠ gb435)) (Aside0.mk ((by rw [hg];exact Nat.ne_of_gt (blk_lt (g := gb434) (o := .cells #[.int .i64 a0_0,.int .i64 a0_1,.int .i64 a0_2,.int .i64 a0_3,.int .i64 a0_4,.int .i64 a0_5] 35 (0,0)) Z569) : gb435 ≠ gb434))))))));clear BK434 HB;obtain ⟨BK434,HB,BK435,GW435,GE435,NB434_435,NB435_434⟩ := n_;clear hb hbox hg;have hnb5 := NB434_435.out;have hnc5 := NB435_434.out;obtain ⟨hcz6_0,hcz6_1,hcz6_2,hcz6_3,hcz6_4,hcz6_5,hfz6_0,hfz6_1,hfz6_2,hfz6_3,hfz6_4,hfz6_5⟩ := impl_BothOf.cells6 BK434.out) | ((with_reducible refine gate_callee (f := 58) rfl ?_);refine goesL_ (some 8) rfl rfl Try.func58 Z580 rfl #[.agg #[.int .i64 a0_2,.int .i64 a0_3],.agg #[.int .i64 a0_4,.int .i64 a0_5]] rfl Z395 ?_;(with_reducible refine (impl_Slot_plus.calls a0_2 a0_3 a0_4 a0_5 t436 t437 t438 _ A2.out).mono ?_);rintro e w7 ⟨rfl,hb⟩;refine ⟨_,rfl,?_⟩;have n_ := jA (blk_below (g := gb434) (o := .cells #[.int .i64 a0_0,.int .i64 a0_1,.int .i64 a0_2,.int .i64 a0_3,.int .i64 a0_4,.int .i64 a0_5] 35 (0,0)) Z569 hb) (jA (blk_below (g := gb435) (o := .cells #[.int .i64 0,.int .i64 0] 33 (0,0)) (by refine bP ?_;exact BK435.out) hb) (Aside0.mk (below_step Z205 hb)));clear BK434 BK435 HB;obtain ⟨BK434,BK435,HB⟩ := n_;(try clear hb);(try clear hb2);(try clear hk);(try clear hi);obtain ⟨hcz8_0,hcz8_1,hfz8_0,hfz8_1⟩ := impl_BothOf.cells2 BK435.out))
  refine bodyPost_ret (results_ct rfl _ _ gb435 33 #[.int .i64 t436,.int .i64 t437] (0,0) _ rfl (by refine bP ?_;refine blk_put (cs := #[.int .i64 t436,.int .i64 0]) ?_ 1 _ rfl;refine bP ?_;refine blk_put (cs := #[.int .i64 0,.int .i64 0]) ?_ 0 _ rfl;refine bP ?_;exact BK435.out) Try.underlying33 rfl Z580) rfl ?_
  exact ⟨Z400,Z205⟩

/-! ### impl_Improves: function 19 -/
theorem impl_Improves.cells2 {w : World} {g : Nat} {t : TypeId} {a0 a1 : Value} (h : w.heap[g]? = some (.cells #[a0,a1] t (0,0))) : w.cell? ⟨g,0,none⟩ = some a0 ∧ w.cell? ⟨g,1,none⟩ = some a1 ∧ w.frozen? ⟨g,0,none⟩ = false ∧ w.frozen? ⟨g,1,none⟩ = false := ⟨(blk_cell h 0).trans rfl,(blk_cell h 1).trans rfl,blk_frozen h 0,blk_frozen h 1⟩
theorem impl_Improves.cells4 {w : World} {g : Nat} {t : TypeId} {a0 a1 a2 a3 : Value} (h : w.heap[g]? = some (.cells #[a0,a1,a2,a3] t (0,0))) : w.cell? ⟨g,0,none⟩ = some a0 ∧ w.cell? ⟨g,1,none⟩ = some a1 ∧ w.cell? ⟨g,2,none⟩ = some a2 ∧ w.cell? ⟨g,3,none⟩ = some a3 ∧ w.frozen? ⟨g,0,none⟩ = false ∧ w.frozen? ⟨g,1,none⟩ = false ∧ w.frozen? ⟨g,2,none⟩ = false ∧ w.frozen? ⟨g,3,none⟩ = false := ⟨(blk_cell h 0).trans rfl,(blk_cell h 1).trans rfl,(blk_cell h 2).trans rfl,(blk_cell h 3).trans rfl,blk_frozen h 0,blk_frozen h 1,blk_frozen h 2,blk_frozen h 3⟩
theorem impl_Improves.cells6 {w : World} {g : Nat} {t : TypeId} {a0 a1 a2 a3 a4 a5 : Value} (h : w.heap[g]? = some (.cells #[a0,a1,a2,a3,a4,a5] t (0,0))) : w.cell? ⟨g,0,none⟩ = some a0 ∧ w.cell? ⟨g,1,none⟩ = some a1 ∧ w.cell? ⟨g,2,none⟩ = some a2 ∧ w.cell? ⟨g,3,none⟩ = some a3 ∧ w.cell? ⟨g,4,none⟩ = some a4 ∧ w.cell? ⟨g,5,none⟩ = some a5 ∧ w.frozen? ⟨g,0,none⟩ = false ∧ w.frozen? ⟨g,1,none⟩ = false ∧ w.frozen? ⟨g,2,none⟩ = false ∧ w.frozen? ⟨g,3,none⟩ = false ∧ w.frozen? ⟨g,4,none⟩ = false ∧ w.frozen? ⟨g,5,none⟩ = false := ⟨(blk_cell h 0).trans rfl,(blk_cell h 1).trans rfl,(blk_cell h 2).trans rfl,(blk_cell h 3).trans rfl,(blk_cell h 4).trans rfl,(blk_cell h 5).trans rfl,blk_frozen h 0,blk_frozen h 1,blk_frozen h 2,blk_frozen h 3,blk_frozen h 4,blk_frozen h 5⟩
def impl_Improves.f (k : Nat) (a0_0 : Int) (a0_1 : Int) (a0_2 : Int) (a0_3 : Int) (a0_4 : Int) (a0_5 : Int) (a1 : Int) : Option (Bool) := (impl_GainOf.f k a0_0 a0_1 a0_2 a0_3 a0_4 a0_5 a1).bind fun bt440 => ((impl_BothOf.f a0_0 a0_1 a0_2 a0_3 a0_4 a0_5).bind fun bt446 => ((impl_PlainGain.f bt446.1 bt446.2.1 a1).bind fun bt450 => ((impl_CompareFrac.f k bt440.1 bt440.2.1 bt440.2.2.1 bt440.2.2.2.1 bt450.1 bt450.2.1 bt450.2.2.1 bt450.2.2.2.1).bind fun bt456 => (if bt440.2.2.2.2 = true then (if bt446.2.2 = true then (if bt450.2.2.2.2 = true then (if bt456.2 = true then (some (decide (bt456.1 > 0))) else (some false)) else (some false)) else (some false)) else (some false)))))
theorem impl_Improves.mono : ∀ a0 a1 a2 a3 a4 a5 a6 k,LeO (impl_Improves.f k a0 a1 a2 a3 a4 a5 a6) (impl_Improves.f (k + 1) a0 a1 a2 a3 a4 a5 a6) := by
  intro a0 a1 a2 a3 a4 a5 a6 k
  unfold impl_Improves.f
  repeat' first
      | (with_reducible exact impl_CompareFrac.mono _ _ _ _ _ _ _ _ _)
      | (with_reducible exact impl_GainOf.mono _ _ _ _ _ _ _ _)
      | (with_reducible exact LeO.refl _)
      | (with_reducible exact LeO.none _)
      | (with_reducible refine LeO.ite ?_ ?_)
      | (with_reducible refine LeO.bind ?_ (fun _ => ?_))
      | exact impl_CompareFrac.mono _ _ _ _ _ _ _ _ _
      | exact impl_GainOf.mono _ _ _ _ _ _ _ _
      | exact LeO.none _
      | refine LeO.ite ?_ ?_
      | refine LeO.bind ?_ (fun _ => ?_)
set_option maxHeartbeats 8000000 in
set_option maxRecDepth 100000 in
theorem impl_Improves.calls (k : Nat) (a0_0 : Int) (a0_1 : Int) (a0_2 : Int) (a0_3 : Int) (a0_4 : Int) (a0_5 : Int) (a1 : Int) (r : Bool) (w : World) (h : impl_Improves.f k a0_0 a0_1 a0_2 a0_3 a0_4 a0_5 a1 = some r) :
    Calls Try.prog 19 #[.agg #[.int .i64 a0_0,.int .i64 a0_1,.int .i64 a0_2,.int .i64 a0_3,.int .i64 a0_4,.int .i64 a0_5],.int .i64 a1] w fun e w' => e = .returned (.bool r) ∧ Below w.heap.size w w' := by
  have hu35 := Try.underlying35
  have hu30 := Try.underlying30
  have hu33 := Try.underlying33
  have HB := Aside0.mk (Below.refl w.heap.size w)
  have H : ((impl_GainOf.f k a0_0 a0_1 a0_2 a0_3 a0_4 a0_5 a1).bind fun bt440 => ((impl_BothOf.f a0_0 a0_1 a0_2 a0_3 a0_4 a0_5).bind fun bt446 => ((impl_PlainGain.f bt446.1 bt446.2.1 a1).bind fun bt450 => ((impl_CompareFrac.f k bt440.1 bt440.2.1 bt440.2.2.1 bt440.2.2.2.1 bt450.1 bt450.2.1 bt450.2.2.1 bt450.2.2.2.1).bind fun bt456 => (if bt440.2.2.2.2 = true then (if bt446.2.2 = true then (if bt450.2.2.2.2 = true then (if bt456.2 = true then (some (decide (bt456.1 > 0))) else (some false)) else (some false)) else (some false)) else (some false)))))) = some r := h
  clear h
  obtain ⟨⟨t440,t441,t442,t443,t444⟩,A30,H⟩ := Option.bind_eq_some_iff.mp H
  try dsimp only at H
  have A3 := Aside0.mk A30
  clear A30
  obtain ⟨⟨t446,t447,t448⟩,A40,H⟩ := Option.bind_eq_some_iff.mp H
  try dsimp only at H
  have A4 := Aside0.mk A40
  clear A40
  obtain ⟨⟨t450,t451,t452,t453,t454⟩,A50,H⟩ := Option.bind_eq_some_iff.mp H
  try dsimp only at H
  have A5 := Aside0.mk A50
  clear A50
  obtain ⟨⟨t456,t457⟩,A60,H⟩ := Option.bind_eq_some_iff.mp H
  try dsimp only at H
  have A6 := Aside0.mk A60
  clear A60
  by_cases c7 : t444 = true
  · subst c7
    have H1 : (if t448 = true then (if t454 = true then (if t457 = true then (some (decide (t456 > 0))) else (some false)) else (some false)) else (some false)) = some r := by rw [if_pos rfl] at H;exact H
    clear H
    have H := H1
    clear H1
    by_cases c8 : t448 = true
    · subst c8
      have H1 : (if t454 = true then (if t457 = true then (some (decide (t456 > 0))) else (some false)) else (some false)) = some r := by rw [if_pos rfl] at H;exact H
      clear H
      have H := H1
      clear H1
      by_cases c9 : t454 = true
      · subst c9
        have H1 : (if t457 = true then (some (decide (t456 > 0))) else (some false)) = some r := by rw [if_pos rfl] at H;exact H
        clear H
        have H := H1
        clear H1
        by_cases c10 : t457 = true
        · subst c10
          have H1 : (some (decide (t456 > 0))) = some r := by rw [if_pos rfl] at H;exact H
          clear H
          have H := H1
          clear H1
          obtain rfl := Option.some.inj H
          go_enter Try.func19,Try.ntmps19
          go_wp2_with (first | ((with_reducible refine gate_dst (N := 2) rfl ?_);refine box_event ?hg (N := 2) ?hd (cs := #[.int .i64 a0_0,.int .i64 a0_1,.int .i64 a0_2,.int .i64 a0_3,.int .i64 a0_4,.int .i64 a0_5]) (t := 35) ?hr ?_;(case hd => rfl);(case hg => rfl);(case hr => exact Z515);intro gb439 hg w11 hbox hb;have n_ := jA (below_step Z486 hb) (jA (hbox) (jA ((Z271 : w.heap.size ≤ gb439)) (Aside0.mk ((Z271 : w.heap.size ≤ gb439)))));clear HB;obtain ⟨HB,BK439,GW439,GE439⟩ := n_;clear hb hbox hg;obtain ⟨hcz12_0,hcz12_1,hcz12_2,hcz12_3,hcz12_4,hcz12_5,hfz12_0,hfz12_1,hfz12_2,hfz12_3,hfz12_4,hfz12_5⟩ := impl_Improves.cells6 BK439.out) | ((with_reducible refine gate_callee (f := 11) rfl ?_);refine goesL_ (some 16) rfl rfl Try.func11 Z580 rfl #[.agg #[.int .i64 a0_0,.int .i64 a0_1,.int .i64 a0_2,.int .i64 a0_3,.int .i64 a0_4,.int .i64 a0_5],.int .i64 a1] rfl Z395 ?_;(with_reducible refine (impl_GainOf.calls k a0_0 a0_1 a0_2 a0_3 a0_4 a0_5 a1 t440 t441 t442 t443 true _ A3.out).mono ?_);rintro e w13 ⟨rfl,hb⟩;refine ⟨_,rfl,?_⟩;have n_ := jA (blk_below (g := gb439) (o := .cells #[.int .i64 a0_0,.int .i64 a0_1,.int .i64 a0_2,.int .i64 a0_3,.int .i64 a0_4,.int .i64 a0_5] 35 (0,0)) Z519 hb) (Aside0.mk (below_step Z455 hb));clear BK439 HB;obtain ⟨BK439,HB⟩ := n_;(try clear hb);(try clear hb2);(try clear hk);(try clear hi)) | ((with_reducible refine gate_dst (N := 5) rfl ?_);refine box_event ?hg (N := 5) ?hd (cs := #[.bool false,.int .u64 0,.int .u64 0,.int .i64 0]) (t := 30) ?hr ?_;(case hd => rfl);(case hg => rfl);(case hr => exact Z515);intro gb445 hg w14 hbox hb;have n_ := jA (blk_below (g := gb439) (o := .cells #[.int .i64 a0_0,.int .i64 a0_1,.int .i64 a0_2,.int .i64 a0_3,.int .i64 a0_4,.int .i64 a0_5] 35 (0,0)) Z519 hb) (jA (below_step Z455 hb) (jA (hbox) (jA ((Z187 : w.heap.size ≤ gb445)) (jA ((Z187 : w.heap.size ≤ gb445)) (jA ((Z174 : gb439 ≠ gb445)) (Aside0.mk ((Z176 : gb445 ≠ gb439))))))));clear BK439 HB;obtain ⟨BK439,HB,BK445,GW445,GE445,NB439_445,NB445_439⟩ := n_;clear hb hbox hg;have hnb15 := NB445_439.out;have hnc15 := NB439_445.out;obtain ⟨hcz16_0,hcz16_1,hcz16_2,hcz16_3,hfz16_0,hfz16_1,hfz16_2,hfz16_3⟩ := impl_Improves.cells4 BK445.out;obtain ⟨hcz17_0,hcz17_1,hcz17_2,hcz17_3,hcz17_4,hcz17_5,hfz17_0,hfz17_1,hfz17_2,hfz17_3,hfz17_4,hfz17_5⟩ := impl_Improves.cells6 BK439.out) | ((with_reducible refine gate_callee (f := 38) rfl ?_);refine goesL_ (some 21) rfl rfl Try.func38 Z580 rfl #[.agg #[.int .i64 a0_0,.int .i64 a0_1,.int .i64 a0_2,.int .i64 a0_3,.int .i64 a0_4,.int .i64 a0_5]] rfl Z395 ?_;(with_reducible refine (impl_BothOf.calls a0_0 a0_1 a0_2 a0_3 a0_4 a0_5 t446 t447 true _ A4.out).mono ?_);rintro e w18 ⟨rfl,hb⟩;refine ⟨_,rfl,?_⟩;have n_ := jA (blk_below (g := gb439) (o := .cells #[.int .i64 a0_0,.int .i64 a0_1,.int .i64 a0_2,.int .i64 a0_3,.int .i64 a0_4,.int .i64 a0_5] 35 (0,0)) Z136 hb) (jA (blk_below (g := gb445) (o := .cells #[.bool t440,.int .u64 t441,.int .u64 t442,.int .i64 t443] 30 (0,0)) Z18 hb) (Aside0.mk (below_step Z431 hb)));clear BK439 BK445 HB;obtain ⟨BK439,BK445,HB⟩ := n_;(try clear hb);(try clear hb2);(try clear hk);(try clear hi)) | ((with_reducible refine gate_dst (N := 7) rfl ?_);refine box_event ?hg (N := 7) ?hd (cs := #[.int .i64 0,.int .i64 0]) (t := 33) ?hr ?_;(case hd => rfl);(case hg => rfl);(case hr => exact Z515);intro gb449 hg w19 hbox hb;have n_ := jA (blk_below (g := gb439) (o := .cells #[.int .i64 a0_0,.int .i64 a0_1,.int .i64 a0_2,.int .i64 a0_3,.int .i64 a0_4,.int .i64 a0_5] 35 (0,0)) Z519 hb) (jA (blk_below (g := gb445) (o := .cells #[.bool t440,.int .u64 t441,.int .u64 t442,.int .i64 t443] 30 (0,0)) Z540 hb) (jA (below_step Z431 hb) (jA (hbox) (jA ((Z110 : w.heap.size ≤ gb449)) (jA ((Z110 : w.heap.size ≤ gb449)) (jA ((Z174 : gb439 ≠ gb449)) (jA ((Z176 : gb449 ≠ gb439)) (jA ((Z280 : gb445 ≠ gb449)) (Aside0.mk ((Z281 : gb449 ≠ gb445)))))))))));clear BK439 BK445 HB;obtain ⟨BK439,BK445,HB,BK449,GW449,GE449,NB439_449,NB449_439,NB445_449,NB449_445⟩ := n_;clear hb hbox hg;have hnb20 := NB449_439.out;have hnc20 := NB439_449.out;have hnb21 := NB449_445.out;have hnc21 := NB445_449.out;obtain ⟨hcz22_0,hcz22_1,hfz22_0,hfz22_1⟩ := impl_Improves.cells2 BK449.out) | ((with_reducible refine gate_callee (f := 21) rfl ?_);refine goesL_ (some 27) rfl rfl Try.func21 Z580 rfl #[.agg #[.int .i64 t446,.int .i64 t447],.int .i64 a1] rfl Z395 ?_;(with_reducible refine (impl_PlainGain.calls t446 t447 a1 t450 t451 t452 t453 true _ A5.out).mono ?_);rintro e w23 ⟨rfl,hb⟩;refine ⟨_,rfl,?_⟩;have n_ := jA (blk_below (g := gb439) (o := .cells #[.int .i64 a0_0,.int .i64 a0_1,.int .i64 a0_2,.int .i64 a0_3,.int .i64 a0_4,.int .i64 a0_5] 35 (0,0)) Z397 hb) (jA (blk_below (g := gb445) (o := .cells #[.bool t440,.int .u64 t441,.int .u64 t442,.int .i64 t443] 30 (0,0)) Z396 hb) (jA (blk_below (g := gb449) (o := .cells #[.int .i64 t446,.int .i64 t447] 33 (0,0)) Z223 hb) (Aside0.mk (below_step Z416 hb))));clear BK439 BK445 BK449 HB;obtain ⟨BK439,BK445,BK449,HB⟩ := n_;(try clear hb);(try clear hb2);(try clear hk);(try clear hi)) | ((with_reducible refine gate_dst (N := 9) rfl ?_);refine box_event ?hg (N := 9) ?hd (cs := #[.bool false,.int .u64 0,.int .u64 0,.int .i64 0]) (t := 30) ?hr ?_;(case hd => rfl);(case hg => rfl);(case hr => exact Z515);intro gb455 hg w24 hbox hb;have n_ := jA (blk_below (g := gb439) (o := .cells #[.int .i64 a0_0,.int .i64 a0_1,.int .i64 a0_2,.int .i64 a0_3,.int .i64 a0_4,.int .i64 a0_5] 35 (0,0)) Z519 hb) (jA (blk_below (g := gb445) (o := .cells #[.bool t440,.int .u64 t441,.int .u64 t442,.int .i64 t443] 30 (0,0)) Z540 hb) (jA (blk_below (g := gb449) (o := .cells #[.int .i64 t446,.int .i64 t447] 33 (0,0)) Z554 hb) (jA (below_step Z416 hb) (jA (hbox) (jA ((Z82 : w.heap.size ≤ gb455)) (jA ((Z82 : w.heap.size ≤ gb455)) (jA ((Z174 : gb439 ≠ gb455)) (jA ((Z176 : gb455 ≠ gb439)) (jA ((Z280 : gb445 ≠ gb455)) (jA ((Z281 : gb455 ≠ gb445)) (jA ((Z383 : gb449 ≠ gb455)) (Aside0.mk ((Z384 : gb455 ≠ gb449))))))))))))));clear BK439 BK445 BK449 HB;obtain ⟨BK439,BK445,BK449,HB,BK455,GW455,GE455,NB439_455,NB455_439,NB445_455,NB455_445,NB449_455,NB455_449⟩ := n_;clear hb hbox hg;have hnb25 := NB455_439.out;have hnc25 := NB439_455.out;have hnb26 := NB455_445.out;have hnc26 := NB445_455.out;have hnb27 := NB455_449.out;have hnc27 := NB449_455.out;obtain ⟨hcz28_0,hcz28_1,hcz28_2,hcz28_3,hfz28_0,hfz28_1,hfz28_2,hfz28_3⟩ := impl_Improves.cells4 BK455.out;obtain ⟨hcz29_0,hcz29_1,hcz29_2,hcz29_3,hfz29_0,hfz29_1,hfz29_2,hfz29_3⟩ := impl_Improves.cells4 BK445.out) | ((with_reducible refine gate_callee (f := 35) rfl ?_);refine goesL_ (some 33) rfl rfl Try.func35 Z580 rfl #[.agg #[.bool t440,.int .u64 t441,.int .u64 t442,.int .i64 t443],.agg #[.bool t450,.int .u64 t451,.int .u64 t452,.int .i64 t453]] rfl Z395 ?_;(with_reducible refine (impl_CompareFrac.calls k t440 t441 t442 t443 t450 t451 t452 t453 t456 true _ A6.out).mono ?_);rintro e w30 ⟨rfl,hb⟩;refine ⟨_,rfl,?_⟩;have n_ := jA (blk_below (g := gb439) (o := .cells #[.int .i64 a0_0,.int .i64 a0_1,.int .i64 a0_2,.int .i64 a0_3,.int .i64 a0_4,.int .i64 a0_5] 35 (0,0)) Z135 hb) (jA (blk_below (g := gb445) (o := .cells #[.bool t440,.int .u64 t441,.int .u64 t442,.int .i64 t443] 30 (0,0)) Z134 hb) (jA (blk_below (g := gb449) (o := .cells #[.int .i64 t446,.int .i64 t447] 33 (0,0)) Z133 hb) (jA (blk_below (g := gb455) (o := .cells #[.bool t450,.int .u64 t451,.int .u64 t452,.int .i64 t453] 30 (0,0)) Z17 hb) (Aside0.mk (below_step Z81 hb)))));clear BK439 BK445 BK449 BK455 HB;obtain ⟨BK439,BK445,BK449,BK455,HB⟩ := n_;(try clear hb);(try clear hb2);(try clear hk);(try clear hi)))
          go_ret
          exact ⟨Z400,Z81⟩
        · replace c10 := Bool.eq_false_iff.mpr c10
          subst c10
          have H1 : (some false) = some r := by rw [if_neg (show ¬ (false = true) by decide)] at H;exact H
          clear H
          have H := H1
          clear H1
          obtain rfl := Option.some.inj H
          go_enter Try.func19,Try.ntmps19
          go_wp2_with (first | ((with_reducible refine gate_dst (N := 2) rfl ?_);refine box_event ?hg (N := 2) ?hd (cs := #[.int .i64 a0_0,.int .i64 a0_1,.int .i64 a0_2,.int .i64 a0_3,.int .i64 a0_4,.int .i64 a0_5]) (t := 35) ?hr ?_;(case hd => rfl);(case hg => rfl);(case hr => exact Z515);intro gb439 hg w31 hbox hb;have n_ := jA (below_step Z486 hb) (jA (hbox) (jA ((Z271 : w.heap.size ≤ gb439)) (Aside0.mk ((Z271 : w.heap.size ≤ gb439)))));clear HB;obtain ⟨HB,BK439,GW439,GE439⟩ := n_;clear hb hbox hg;obtain ⟨hcz32_0,hcz32_1,hcz32_2,hcz32_3,hcz32_4,hcz32_5,hfz32_0,hfz32_1,hfz32_2,hfz32_3,hfz32_4,hfz32_5⟩ := impl_Improves.cells6 BK439.out) | ((with_reducible refine gate_callee (f := 11) rfl ?_);refine goesL_ (some 16) rfl rfl Try.func11 Z580 rfl #[.agg #[.int .i64 a0_0,.int .i64 a0_1,.int .i64 a0_2,.int .i64 a0_3,.int .i64 a0_4,.int .i64 a0_5],.int .i64 a1] rfl Z395 ?_;(with_reducible refine (impl_GainOf.calls k a0_0 a0_1 a0_2 a0_3 a0_4 a0_5 a1 t440 t441 t442 t443 true _ A3.out).mono ?_);rintro e w33 ⟨rfl,hb⟩;refine ⟨_,rfl,?_⟩;have n_ := jA (blk_below (g := gb439) (o := .cells #[.int .i64 a0_0,.int .i64 a0_1,.int .i64 a0_2,.int .i64 a0_3,.int .i64 a0_4,.int .i64 a0_5] 35 (0,0)) Z519 hb) (Aside0.mk (below_step Z455 hb));clear BK439 HB;obtain ⟨BK439,HB⟩ := n_;(try clear hb);(try clear hb2);(try clear hk);(try clear hi)) | ((with_reducible refine gate_dst (N := 5) rfl ?_);refine box_event ?hg (N := 5) ?hd (cs := #[.bool false,.int .u64 0,.int .u64 0,.int .i64 0]) (t := 30) ?hr ?_;(case hd => rfl);(case hg => rfl);(case hr => exact Z515);intro gb445 hg w34 hbox hb;have n_ := jA (blk_below (g := gb439) (o := .cells #[.int .i64 a0_0,.int .i64 a0_1,.int .i64 a0_2,.int .i64 a0_3,.int .i64 a0_4,.int .i64 a0_5] 35 (0,0)) Z519 hb) (jA (below_step Z455 hb) (jA (hbox) (jA ((Z187 : w.heap.size ≤ gb445)) (jA ((Z187 : w.heap.size ≤ gb445)) (jA ((Z174 : gb439 ≠ gb445)) (Aside0.mk ((Z176 : gb445 ≠ gb439))))))));clear BK439 HB;obtain ⟨BK439,HB,BK445,GW445,GE445,NB439_445,NB445_439⟩ := n_;clear hb hbox hg;have hnb35 := NB445_439.out;have hnc35 := NB439_445.out;obtain ⟨hcz36_0,hcz36_1,hcz36_2,hcz36_3,hfz36_0,hfz36_1,hfz36_2,hfz36_3⟩ := impl_Improves.cells4 BK445.out;obtain ⟨hcz37_0,hcz37_1,hcz37_2,hcz37_3,hcz37_4,hcz37_5,hfz37_0,hfz37_1,hfz37_2,hfz37_3,hfz37_4,hfz37_5⟩ := impl_Improves.cells6 BK439.out) | ((with_reducible refine gate_callee (f := 38) rfl ?_);refine goesL_ (some 21) rfl rfl Try.func38 Z580 rfl #[.agg #[.int .i64 a0_0,.int .i64 a0_1,.int .i64 a0_2,.int .i64 a0_3,.int .i64 a0_4,.int .i64 a0_5]] rfl Z395 ?_;(with_reducible refine (impl_BothOf.calls a0_0 a0_1 a0_2 a0_3 a0_4 a0_5 t446 t447 true _ A4.out).mono ?_);rintro e w38 ⟨rfl,hb⟩;refine ⟨_,rfl,?_⟩;have n_ := jA (blk_below (g := gb439) (o := .cells #[.int .i64 a0_0,.int .i64 a0_1,.int .i64 a0_2,.int .i64 a0_3,.int .i64 a0_4,.int .i64 a0_5] 35 (0,0)) Z136 hb) (jA (blk_below (g := gb445) (o := .cells #[.bool t440,.int .u64 t441,.int .u64 t442,.int .i64 t443] 30 (0,0)) Z18 hb) (Aside0.mk (below_step Z431 hb)));clear BK439 BK445 HB;obtain ⟨BK439,BK445,HB⟩ := n_;(try clear hb);(try clear hb2);(try clear hk);(try clear hi)) | ((with_reducible refine gate_dst (N := 7) rfl ?_);refine box_event ?hg (N := 7) ?hd (cs := #[.int .i64 0,.int .i64 0]) (t := 33) ?hr ?_;(case hd => rfl);(case hg => rfl);(case hr => exact Z515);intro gb449 hg w39 hbox hb;have n_ := jA (blk_below (g := gb439) (o := .cells #[.int .i64 a0_0,.int .i64 a0_1,.int .i64 a0_2,.int .i64 a0_3,.int .i64 a0_4,.int .i64 a0_5] 35 (0,0)) Z519 hb) (jA (blk_below (g := gb445) (o := .cells #[.bool t440,.int .u64 t441,.int .u64 t442,.int .i64 t443] 30 (0,0)) Z540 hb) (jA (below_step Z431 hb) (jA (hbox) (jA ((Z110 : w.heap.size ≤ gb449)) (jA ((Z110 : w.heap.size ≤ gb449)) (jA ((Z174 : gb439 ≠ gb449)) (jA ((Z176 : gb449 ≠ gb439)) (jA ((Z280 : gb445 ≠ gb449)) (Aside0.mk ((Z281 : gb449 ≠ gb445)))))))))));clear BK439 BK445 HB;obtain ⟨BK439,BK445,HB,BK449,GW449,GE449,NB439_449,NB449_439,NB445_449,NB449_445⟩ := n_;clear hb hbox hg;have hnb40 := NB449_439.out;have hnc40 := NB439_449.out;have hnb41 := NB449_445.out;have hnc41 := NB445_449.out;obtain ⟨hcz42_0,hcz42_1,hfz42_0,hfz42_1⟩ := impl_Improves.cells2 BK449.out) | ((with_reducible refine gate_callee (f := 21) rfl ?_);refine goesL_ (some 27) rfl rfl Try.func21 Z580 rfl #[.agg #[.int .i64 t446,.int .i64 t447],.int .i64 a1] rfl Z395 ?_;(with_reducible refine (impl_PlainGain.calls t446 t447 a1 t450 t451 t452 t453 true _ A5.out).mono ?_);rintro e w43 ⟨rfl,hb⟩;refine ⟨_,rfl,?_⟩;have n_ := jA (blk_below (g := gb439) (o := .cells #[.int .i64 a0_0,.int .i64 a0_1,.int .i64 a0_2,.int .i64 a0_3,.int .i64 a0_4,.int .i64 a0_5] 35 (0,0)) Z397 hb) (jA (blk_below (g := gb445) (o := .cells #[.bool t440,.int .u64 t441,.int .u64 t442,.int .i64 t443] 30 (0,0)) Z396 hb) (jA (blk_below (g := gb449) (o := .cells #[.int .i64 t446,.int .i64 t447] 33 (0,0)) Z223 hb) (Aside0.mk (below_step Z416 hb))));clear BK439 BK445 BK449 HB;obtain ⟨BK439,BK445,BK449,HB⟩ := n_;(try clear hb);(try clear hb2);(try clear hk);(try clear hi)) | ((with_reducible refine gate_dst (N := 9) rfl ?_);refine box_event ?hg (N := 9) ?hd (cs := #[.bool false,.int .u64 0,.int .u64 0,.int .i64 0]) (t := 30) ?hr ?_;(case hd => rfl);(case hg => rfl);(case hr => exact Z515);intro gb455 hg w44 hbox hb;have n_ := jA (blk_below (g := gb439) (o := .cells #[.int .i64 a0_0,.int .i64 a0_1,.int .i64 a0_2,.int .i64 a0_3,.int .i64 a0_4,.int .i64 a0_5] 35 (0,0)) Z519 hb) (jA (blk_below (g := gb445) (o := .cells #[.bool t440,.int .u64 t441,.int .u64 t442,.int .i64 t443] 30 (0,0)) Z540 hb) (jA (blk_below (g := gb449) (o := .cells #[.int .i64 t446,.int .i64 t447] 33 (0,0)) Z554 hb) (jA (below_step Z416 hb) (jA (hbox) (jA ((Z82 : w.heap.size ≤ gb455)) (jA ((Z82 : w.heap.size ≤ gb455)) (jA ((Z174 : gb439 ≠ gb455)) (jA ((Z176 : gb455 ≠ gb439)) (jA ((Z280 : gb445 ≠ gb455)) (jA ((Z281 : gb455 ≠ gb445)) (jA ((Z383 : gb449 ≠ gb455)) (Aside0.mk ((Z384 : gb455 ≠ gb449))))))))))))));clear BK439 BK445 BK449 HB;obtain ⟨BK439,BK445,BK449,HB,BK455,GW455,GE455,NB439_455,NB455_439,NB445_455,NB455_445,NB449_455,NB455_449⟩ := n_;clear hb hbox hg;have hnb45 := NB455_439.out;have hnc45 := NB439_455.out;have hnb46 := NB455_445.out;have hnc46 := NB445_455.out;have hnb47 := NB455_449.out;have hnc47 := NB449_455.out;obtain ⟨hcz48_0,hcz48_1,hcz48_2,hcz48_3,hfz48_0,hfz48_1,hfz48_2,hfz48_3⟩ := impl_Improves.cells4 BK455.out;obtain ⟨hcz49_0,hcz49_1,hcz49_2,hcz49_3,hfz49_0,hfz49_1,hfz49_2,hfz49_3⟩ := impl_Improves.cells4 BK445.out) | ((with_reducible refine gate_callee (f := 35) rfl ?_);refine goesL_ (some 33) rfl rfl Try.func35 Z580 rfl #[.agg #[.bool t440,.int .u64 t441,.int .u64 t442,.int .i64 t443],.agg #[.bool t450,.int .u64 t451,.int .u64 t452,.int .i64 t453]] rfl Z395 ?_;(with_reducible refine (impl_CompareFrac.calls k t440 t441 t442 t443 t450 t451 t452 t453 t456 false _ A6.out).mono ?_);rintro e w50 ⟨rfl,hb⟩;refine ⟨_,rfl,?_⟩;have n_ := jA (blk_below (g := gb439) (o := .cells #[.int .i64 a0_0,.int .i64 a0_1,.int .i64 a0_2,.int .i64 a0_3,.int .i64 a0_4,.int .i64 a0_5] 35 (0,0)) Z135 hb) (jA (blk_below (g := gb445) (o := .cells #[.bool t440,.int .u64 t441,.int .u64 t442,.int .i64 t443] 30 (0,0)) Z134 hb) (jA (blk_below (g := gb449) (o := .cells #[.int .i64 t446,.int .i64 t447] 33 (0,0)) Z133 hb) (jA (blk_below (g := gb455) (o := .cells #[.bool t450,.int .u64 t451,.int .u64 t452,.int .i64 t453] 30 (0,0)) Z17 hb) (Aside0.mk (below_step Z81 hb)))));clear BK439 BK445 BK449 BK455 HB;obtain ⟨BK439,BK445,BK449,BK455,HB⟩ := n_;(try clear hb);(try clear hb2);(try clear hk);(try clear hi)))
          go_ret
          exact ⟨Z400,Z81⟩
      · replace c9 := Bool.eq_false_iff.mpr c9
        subst c9
        have H1 : (some false) = some r := by rw [if_neg (show ¬ (false = true) by decide)] at H;exact H
        clear H
        have H := H1
        clear H1
        obtain rfl := Option.some.inj H
        go_enter Try.func19,Try.ntmps19
        go_wp2_with (first | ((with_reducible refine gate_dst (N := 2) rfl ?_);refine box_event ?hg (N := 2) ?hd (cs := #[.int .i64 a0_0,.int .i64 a0_1,.int .i64 a0_2,.int .i64 a0_3,.int .i64 a0_4,.int .i64 a0_5]) (t := 35) ?hr ?_;(case hd => rfl);(case hg => rfl);(case hr => exact Z515);intro gb439 hg w51 hbox hb;have n_ := jA (below_step Z486 hb) (jA (hbox) (jA ((Z271 : w.heap.size ≤ gb439)) (Aside0.mk ((Z271 : w.heap.size ≤ gb439)))));clear HB;obtain ⟨HB,BK439,GW439,GE439⟩ := n_;clear hb hbox hg;obtain ⟨hcz52_0,hcz52_1,hcz52_2,hcz52_3,hcz52_4,hcz52_5,hfz52_0,hfz52_1,hfz52_2,hfz52_3,hfz52_4,hfz52_5⟩ := impl_Improves.cells6 BK439.out) | ((with_reducible refine gate_callee (f := 11) rfl ?_);refine goesL_ (some 16) rfl rfl Try.func11 Z580 rfl #[.agg #[.int .i64 a0_0,.int .i64 a0_1,.int .i64 a0_2,.int .i64 a0_3,.int .i64 a0_4,.int .i64 a0_5],.int .i64 a1] rfl Z395 ?_;(with_reducible refine (impl_GainOf.calls k a0_0 a0_1 a0_2 a0_3 a0_4 a0_5 a1 t440 t441 t442 t443 true _ A3.out).mono ?_);rintro e w53 ⟨rfl,hb⟩;refine ⟨_,rfl,?_⟩;have n_ := jA (blk_below (g := gb439) (o := .cells #[.int .i64 a0_0,.int .i64 a0_1,.int .i64 a0_2,.int .i64 a0_3,.int .i64 a0_4,.int .i64 a0_5] 35 (0,0)) Z519 hb) (Aside0.mk (below_step Z455 hb));clear BK439 HB;obtain ⟨BK439,HB⟩ := n_;(try clear hb);(try clear hb2);(try clear hk);(try clear hi)) | ((with_reducible refine gate_dst (N := 5) rfl ?_);refine box_event ?hg (N := 5) ?hd (cs := #[.bool false,.int .u64 0,.int .u64 0,.int .i64 0]) (t := 30) ?hr ?_;(case hd => rfl);(case hg => rfl);(case hr => exact Z515);intro gb445 hg w54 hbox hb;have n_ := jA (blk_below (g := gb439) (o := .cells #[.int .i64 a0_0,.int .i64 a0_1,.int .i64 a0_2,.int .i64 a0_3,.int .i64 a0_4,.int .i64 a0_5] 35 (0,0)) Z519 hb) (jA (below_step Z455 hb) (jA (hbox) (jA ((Z187 : w.heap.size ≤ gb445)) (jA ((Z187 : w.heap.size ≤ gb445)) (jA ((Z174 : gb439 ≠ gb445)) (Aside0.mk ((Z176 : gb445 ≠ gb439))))))));clear BK439 HB;obtain ⟨BK439,HB,BK445,GW445,GE445,NB439_445,NB445_439⟩ := n_;clear hb hbox hg;have hnb55 := NB445_439.out;have hnc55 := NB439_445.out;obtain ⟨hcz56_0,hcz56_1,hcz56_2,hcz56_3,hfz56_0,hfz56_1,hfz56_2,hfz56_3⟩ := impl_Improves.cells4 BK445.out;obtain ⟨hcz57_0,hcz57_1,hcz57_2,hcz57_3,hcz57_4,hcz57_5,hfz57_0,hfz57_1,hfz57_2,hfz57_3,hfz57_4,hfz57_5⟩ := impl_Improves.cells6 BK439.out) | ((with_reducible refine gate_callee (f := 38) rfl ?_);refine goesL_ (some 21) rfl rfl Try.func38 Z580 rfl #[.agg #[.int .i64 a0_0,.int .i64 a0_1,.int .i64 a0_2,.int .i64 a0_3,.int .i64 a0_4,.int .i64 a0_5]] rfl Z395 ?_;(with_reducible refine (impl_BothOf.calls a0_0 a0_1 a0_2 a0_3 a0_4 a0_5 t446 t447 true _ A4.out).mono ?_);rintro e w58 ⟨rfl,hb⟩;refine ⟨_,rfl,?_⟩;have n_ := jA (blk_below (g := gb439) (o := .cells #[.int .i64 a0_0,.int .i64 a0_1,.int .i64 a0_2,.int .i64 a0_3,.int .i64 a0_4,.int .i64 a0_5] 35 (0,0)) Z136 hb) (jA (blk_below (g := gb445) (o := .cells #[.bool t440,.int .u64 t441,.int .u64 t442,.int .i64 t443] 30 (0,0)) Z18 hb) (Aside0.mk (below_step Z431 hb)));clear BK439 BK445 HB;obtain ⟨BK439,BK445,HB⟩ := n_;(try clear hb);(try clear hb2);(try clear hk);(try clear hi)) | ((with_reducible refine gate_dst (N := 7) rfl ?_);refine box_event ?hg (N := 7) ?hd (cs := #[.int .i64 0,.int .i64 0]) (t := 33) ?hr ?_;(case hd => rfl);(case hg => rfl);(case hr => exact Z515);intro gb449 hg w59 hbox hb;have n_ := jA (blk_below (g := gb439) (o := .cells #[.int .i64 a0_0,.int .i64 a0_1,.int .i64 a0_2,.int .i64 a0_3,.int .i64 a0_4,.int .i64 a0_5] 35 (0,0)) Z519 hb) (jA (blk_below (g := gb445) (o := .cells #[.bool t440,.int .u64 t441,.int .u64 t442,.int .i64 t443] 30 (0,0)) Z540 hb) (jA (below_step Z431 hb) (jA (hbox) (jA ((Z110 : w.heap.size ≤ gb449)) (jA ((Z110 : w.heap.size ≤ gb449)) (jA ((Z174 : gb439 ≠ gb449)) (jA ((Z176 : gb449 ≠ gb439)) (jA ((Z280 : gb445 ≠ gb449)) (Aside0.mk ((Z281 : gb449 ≠ gb445)))))))))));clear BK439 BK445 HB;obtain ⟨BK439,BK445,HB,BK449,GW449,GE449,NB439_449,NB449_439,NB445_449,NB449_445⟩ := n_;clear hb hbox hg;have hnb60 := NB449_439.out;have hnc60 := NB439_449.out;have hnb61 := NB449_445.out;have hnc61 := NB445_449.out;obtain ⟨hcz62_0,hcz62_1,hfz62_0,hfz62_1⟩ := impl_Improves.cells2 BK449.out) | ((with_reducible refine gate_callee (f := 21) rfl ?_);refine goesL_ (some 27) rfl rfl Try.func21 Z580 rfl #[.agg #[.int .i64 t446,.int .i64 t447],.int .i64 a1] rfl Z395 ?_;(with_reducible refine (impl_PlainGain.calls t446 t447 a1 t450 t451 t452 t453 false _ A5.out).mono ?_);rintro e w63 ⟨rfl,hb⟩;refine ⟨_,rfl,?_⟩;have n_ := jA (blk_below (g := gb439) (o := .cells #[.int .i64 a0_0,.int .i64 a0_1,.int .i64 a0_2,.int .i64 a0_3,.int .i64 a0_4,.int .i64 a0_5] 35 (0,0)) Z397 hb) (jA (blk_below (g := gb445) (o := .cells #[.bool t440,.int .u64 t441,.int .u64 t442,.int .i64 t443] 30 (0,0)) Z396 hb) (jA (blk_below (g := gb449) (o := .cells #[.int .i64 t446,.int .i64 t447] 33 (0,0)) Z223 hb) (Aside0.mk (below_step Z416 hb))));clear BK439 BK445 BK449 HB;obtain ⟨BK439,BK445,BK449,HB⟩ := n_;(try clear hb);(try clear hb2);(try clear hk);(try clear hi)) | ((with_reducible refine gate_dst (N := 9) rfl ?_);refine box_event ?hg (N := 9) ?hd (cs := #[.bool false,.int .u64 0,.int .u64 0,.int .i64 0]) (t := 30) ?hr ?_;(case hd => rfl);(case hg => rfl);(case hr => exact Z515);intro gb455 hg w64 hbox hb;have n_ := jA (blk_below (g := gb439) (o := .cells #[.int .i64 a0_0,.int .i64 a0_1,.int .i64 a0_2,.int .i64 a0_3,.int .i64 a0_4,.int .i64 a0_5] 35 (0,0)) Z519 hb) (jA (blk_below (g := gb445) (o := .cells #[.bool t440,.int .u64 t441,.int .u64 t442,.int .i64 t443] 30 (0,0)) Z540 hb) (jA (blk_below (g := gb449) (o := .cells #[.int .i64 t446,.int .i64 t447] 33 (0,0)) Z554 hb) (jA (below_step Z416 hb) (jA (hbox) (jA ((Z82 : w.heap.size ≤ gb455)) (jA ((Z82 : w.heap.size ≤ gb455)) (jA ((Z174 : gb439 ≠ gb455)) (jA ((Z176 : gb455 ≠ gb439)) (jA ((Z280 : gb445 ≠ gb455)) (jA ((Z281 : gb455 ≠ gb445)) (jA ((Z383 : gb449 ≠ gb455)) (Aside0.mk ((Z384 : gb455 ≠ gb449))))))))))))));clear BK439 BK445 BK449 HB;obtain ⟨BK439,BK445,BK449,HB,BK455,GW455,GE455,NB439_455,NB455_439,NB445_455,NB455_445,NB449_455,NB455_449⟩ := n_;clear hb hbox hg;have hnb65 := NB455_439.out;have hnc65 := NB439_455.out;have hnb66 := NB455_445.out;have hnc66 := NB445_455.out;have hnb67 := NB455_449.out;have hnc67 := NB449_455.out;obtain ⟨hcz68_0,hcz68_1,hcz68_2,hcz68_3,hfz68_0,hfz68_1,hfz68_2,hfz68_3⟩ := impl_Improves.cells4 BK455.out;obtain ⟨hcz69_0,hcz69_1,hcz69_2,hcz69_3,hfz69_0,hfz69_1,hfz69_2,hfz69_3⟩ := impl_Improves.cells4 BK445.out) | ((with_reducible refine gate_callee (f := 35) rfl ?_);refine goesL_ (some 33) rfl rfl Try.func35 Z580 rfl #[.agg #[.bool t440,.int .u64 t441,.int .u64 t442,.int .i64 t443],.agg #[.bool t450,.int .u64 t451,.int .u64 t452,.int .i64 t453]] rfl Z395 ?_;(with_reducible refine (impl_CompareFrac.calls k t440 t441 t442 t443 t450 t451 t452 t453 t456 t457 _ A6.out).mono ?_);rintro e w70 ⟨rfl,hb⟩;refine ⟨_,rfl,?_⟩;have n_ := jA (blk_below (g := gb439) (o := .cells #[.int .i64 a0_0,.int .i64 a0_1,.int .i64 a0_2,.int .i64 a0_3,.int .i64 a0_4,.int .i64 a0_5] 35 (0,0)) Z135 hb) (jA (blk_below (g := gb445) (o := .cells #[.bool t440,.int .u64 t441,.int .u64 t442,.int .i64 t443] 30 (0,0)) Z134 hb) (jA (blk_below (g := gb449) (o := .cells #[.int .i64 t446,.int .i64 t447] 33 (0,0)) Z133 hb) (jA (blk_below (g := gb455) (o := .cells #[.bool t450,.int .u64 t451,.int .u64 t452,.int .i64 t453] 30 (0,0)) Z17 hb) (Aside0.mk (below_step Z81 hb)))));clear BK439 BK445 BK449 BK455 HB;obtain ⟨BK439,BK445,BK449,BK455,HB⟩ := n_;(try clear hb);(try clear hb2);(try clear hk);(try clear hi)))
        go_ret
        exact ⟨Z400,Z81⟩
    · replace c8 := Bool.eq_false_iff.mpr c8
      subst c8
      have H1 : (some false) = some r := by rw [if_neg (show ¬ (false = true) by decide)] at H;exact H
      clear H
      have H := H1
      clear H1
      obtain rfl := Option.some.inj H
      go_enter Try.func19,Try.ntmps19
      go_wp2_with (first | ((with_reducible refine gate_dst (N := 2) rfl ?_);refine box_event ?hg (N := 2) ?hd (cs := #[.int .i64 a0_0,.int .i64 a0_1,.int .i64 a0_2,.int .i64 a0_3,.int .i64 a0_4,.int .i64 a0_5]) (t := 35) ?hr ?_;(case hd => rfl);(case hg => rfl);(case hr => exact Z515);intro gb439 hg w71 hbox hb;have n_ := jA (below_step Z486 hb) (jA (hbox) (jA ((Z271 : w.heap.size ≤ gb439)) (Aside0.mk ((Z271 : w.heap.size ≤ gb439)))));clear HB;obtain ⟨HB,BK439,GW439,GE439⟩ := n_;clear hb hbox hg;obtain ⟨hcz72_0,hcz72_1,hcz72_2,hcz72_3,hcz72_4,hcz72_5,hfz72_0,hfz72_1,hfz72_2,hfz72_3,hfz72_4,hfz72_5⟩ := impl_Improves.cells6 BK439.out) | ((with_reducible refine gate_callee (f := 11) rfl ?_);refine goesL_ (some 16) rfl rfl Try.func11 Z580 rfl #[.agg #[.int .i64 a0_0,.int .i64 a0_1,.int .i64 a0_2,.int .i64 a0_3,.int .i64 a0_4,.int .i64 a0_5],.int .i64 a1] rfl Z395 ?_;(with_reducible refine (impl_GainOf.calls k a0_0 a0_1 a0_2 a0_3 a0_4 a0_5 a1 t440 t441 t442 t443 true _ A3.out).mono ?_);rintro e w73 ⟨rfl,hb⟩;refine ⟨_,rfl,?_⟩;have n_ := jA (blk_below (g := gb439) (o := .cells #[.int .i64 a0_0,.int .i64 a0_1,.int .i64 a0_2,.int .i64 a0_3,.int .i64 a0_4,.int .i64 a0_5] 35 (0,0)) Z519 hb) (Aside0.mk (below_step Z455 hb));clear BK439 HB;obtain ⟨BK439,HB⟩ := n_;(try clear hb);(try clear hb2);(try clear hk);(try clear hi)) | ((with_reducible refine gate_dst (N := 5) rfl ?_);refine box_event ?hg (N := 5) ?hd (cs := #[.bool false,.int .u64 0,.int .u64 0,.int .i64 0]) (t := 30) ?hr ?_;(case hd => rfl);(case hg => rfl);(case hr => exact Z515);intro gb445 hg w74 hbox hb;have n_ := jA (blk_below (g := gb439) (o := .cells #[.int .i64 a0_0,.int .i64 a0_1,.int .i64 a0_2,.int .i64 a0_3,.int .i64 a0_4,.int .i64 a0_5] 35 (0,0)) Z519 hb) (jA (below_step Z455 hb) (jA (hbox) (jA ((Z187 : w.heap.size ≤ gb445)) (jA ((Z187 : w.heap.size ≤ gb445)) (jA ((Z174 : gb439 ≠ gb445)) (Aside0.mk ((Z176 : gb445 ≠ gb439))))))));clear BK439 HB;obtain ⟨BK439,HB,BK445,GW445,GE445,NB439_445,NB445_439⟩ := n_;clear hb hbox hg;have hnb75 := NB445_439.out;have hnc75 := NB439_445.out;obtain ⟨hcz76_0,hcz76_1,hcz76_2,hcz76_3,hfz76_0,hfz76_1,hfz76_2,hfz76_3⟩ := impl_Improves.cells4 BK445.out;obtain ⟨hcz77_0,hcz77_1,hcz77_2,hcz77_3,hcz77_4,hcz77_5,hfz77_0,hfz77_1,hfz77_2,hfz77_3,hfz77_4,hfz77_5⟩ := impl_Improves.cells6 BK439.out) | ((with_reducible refine gate_callee (f := 38) rfl ?_);refine goesL_ (some 21) rfl rfl Try.func38 Z580 rfl #[.agg #[.int .i64 a0_0,.int .i64 a0_1,.int .i64 a0_2,.int .i64 a0_3,.int .i64 a0_4,.int .i64 a0_5]] rfl Z395 ?_;(with_reducible refine (impl_BothOf.calls a0_0 a0_1 a0_2 a0_3 a0_4 a0_5 t446 t447 false _ A4.out).mono ?_);rintro e w78 ⟨rfl,hb⟩;refine ⟨_,rfl,?_⟩;have n_ := jA (blk_below (g := gb439) (o := .cells #[.int .i64 a0_0,.int .i64 a0_1,.int .i64 a0_2,.int .i64 a0_3,.int .i64 a0_4,.int .i64 a0_5] 35 (0,0)) Z136 hb) (jA (blk_below (g := gb445) (o := .cells #[.bool t440,.int .u64 t441,.int .u64 t442,.int .i64 t443] 30 (0,0)) Z18 hb) (Aside0.mk (below_step Z431 hb)));clear BK439 BK445 HB;obtain ⟨BK439,BK445,HB⟩ := n_;(try clear hb);(try clear hb2);(try clear hk);(try clear hi)) | ((with_reducible refine gate_dst (N := 7) rfl ?_);refine box_event ?hg (N := 7) ?hd (cs := #[.int .i64 0,.int .i64 0]) (t := 33) ?hr ?_;(case hd => rfl);(case hg => rfl);(case hr => exact Z515);intro gb449 hg w79 hbox hb;have n_ := jA (blk_below (g := gb439) (o := .cells #[.int .i64 a0_0,.int .i64 a0_1,.int .i64 a0_2,.int .i64 a0_3,.int .i64 a0_4,.int .i64 a0_5] 35 (0,0)) Z519 hb) (jA (blk_below (g := gb445) (o := .cells #[.bool t440,.int .u64 t441,.int .u64 t442,.int .i64 t443] 30 (0,0)) Z540 hb) (jA (below_step Z431 hb) (jA (hbox) (jA ((Z110 : w.heap.size ≤ gb449)) (jA ((Z110 : w.heap.size ≤ gb449)) (jA ((Z174 : gb439 ≠ gb449)) (jA ((Z176 : gb449 ≠ gb439)) (jA ((Z280 : gb445 ≠ gb449)) (Aside0.mk ((Z281 : gb449 ≠ gb445)))))))))));clear BK439 BK445 HB;obtain ⟨BK439,BK445,HB,BK449,GW449,GE449,NB439_449,NB449_439,NB445_449,NB449_445⟩ := n_;clear hb hbox hg;have hnb80 := NB449_439.out;have hnc80 := NB439_449.out;have hnb81 := NB449_445.out;have hnc81 := NB445_449.out;obtain ⟨hcz82_0,hcz82_1,hfz82_0,hfz82_1⟩ := impl_Improves.cells2 BK449.out) | ((with_reducible refine gate_callee (f := 21) rfl ?_);refine goesL_ (some 27) rfl rfl Try.func21 Z580 rfl #[.agg #[.int .i64 t446,.int .i64 t447],.int .i64 a1] rfl Z395 ?_;(with_reducible refine (impl_PlainGain.calls t446 t447 a1 t450 t451 t452 t453 t454 _ A5.out).mono ?_);rintro e w83 ⟨rfl,hb⟩;refine ⟨_,rfl,?_⟩;have n_ := jA (blk_below (g := gb439) (o := .cells #[.int .i64 a0_0,.int .i64 a0_1,.int .i64 a0_2,.int .i64 a0_3,.int .i64 a0_4,.int .i64 a0_5] 35 (0,0)) Z397 hb) (jA (blk_below (g := gb445) (o := .cells #[.bool t440,.int .u64 t441,.int .u64 t442,.int .i64 t443] 30 (0,0)) Z396 hb) (jA (blk_below (g := gb449) (o := .cells #[.int .i64 t446,.int .i64 t447] 33 (0,0)) Z223 hb) (Aside0.mk (below_step Z416 hb))));clear BK439 BK445 BK449 HB;obtain ⟨BK439,BK445,BK449,HB⟩ := n_;(try clear hb);(try clear hb2);(try clear hk);(try clear hi)) | ((with_reducible refine gate_dst (N := 9) rfl ?_);refine box_event ?hg (N := 9) ?hd (cs := #[.bool false,.int .u64 0,.int .u64 0,.int .i64 0]) (t := 30) ?hr ?_;(case hd => rfl);(case hg => rfl);(case hr => exact Z515);intro gb455 hg w84 hbox hb;have n_ := jA (blk_below (g := gb439) (o := .cells #[.int .i64 a0_0,.int .i64 a0_1,.int .i64 a0_2,.int .i64 a0_3,.int .i64 a0_4,.int .i64 a0_5] 35 (0,0)) Z519 hb) (jA (blk_below (g := gb445) (o := .cells #[.bool t440,.int .u64 t441,.int .u64 t442,.int .i64 t443] 30 (0,0)) Z540 hb) (jA (blk_below (g := gb449) (o := .cells #[.int .i64 t446,.int .i64 t447] 33 (0,0)) Z554 hb) (jA (below_step Z416 hb) (jA (hbox) (jA ((Z82 : w.heap.size ≤ gb455)) (jA ((Z82 : w.heap.size ≤ gb455)) (jA ((Z174 : gb439 ≠ gb455)) (jA ((Z176 : gb455 ≠ gb439)) (jA ((Z280 : gb445 ≠ gb455)) (jA ((Z281 : gb455 ≠ gb445)) (jA ((Z383 : gb449 ≠ gb455)) (Aside0.mk ((Z384 : gb455 ≠ gb449))))))))))))));clear BK439 BK445 BK449 HB;obtain ⟨BK439,BK445,BK449,HB,BK455,GW455,GE455,NB439_455,NB455_439,NB445_455,NB455_445,NB449_455,NB455_449⟩ := n_;clear hb hbox hg;have hnb85 := NB455_439.out;have hnc85 := NB439_455.out;have hnb86 := NB455_445.out;have hnc86 := NB445_455.out;have hnb87 := NB455_449.out;have hnc87 := NB449_455.out;obtain ⟨hcz88_0,hcz88_1,hcz88_2,hcz88_3,hfz88_0,hfz88_1,hfz88_2,hfz88_3⟩ := impl_Improves.cells4 BK455.out;obtain ⟨hcz89_0,hcz89_1,hcz89_2,hcz89_3,hfz89_0,hfz89_1,hfz89_2,hfz89_3⟩ := impl_Improves.cells4 BK445.out) | ((with_reducible refine gate_callee (f := 35) rfl ?_);refine goesL_ (some 33) rfl rfl Try.func35 Z580 rfl #[.agg #[.bool t440,.int .u64 t441,.int .u64 t442,.int .i64 t443],.agg #[.bool t450,.int .u64 t451,.int .u64 t452,.int .i64 t453]] rfl Z395 ?_;(with_reducible refine (impl_CompareFrac.calls k t440 t441 t442 t443 t450 t451 t452 t453 t456 t457 _ A6.out).mono ?_);rintro e w90 ⟨rfl,hb⟩;refine ⟨_,rfl,?_⟩;have n_ := jA (blk_below (g := gb439) (o := .cells #[.int .i64 a0_0,.int .i64 a0_1,.int .i64 a0_2,.int .i64 a0_3,.int .i64 a0_4,.int .i64 a0_5] 35 (0,0)) Z135 hb) (jA (blk_below (g := gb445) (o := .cells #[.bool t440,.int .u64 t441,.int .u64 t442,.int .i64 t443] 30 (0,0)) Z134 hb) (jA (blk_below (g := gb449) (o := .cells #[.int .i64 t446,.int .i64 t447] 33 (0,0)) Z133 hb) (jA (blk_below (g := gb455) (o := .cells #[.bool t450,.int .u64 t451,.int .u64 t452,.int .i64 t453] 30 (0,0)) Z17 hb) (Aside0.mk (below_step Z81 hb)))));clear BK439 BK445 BK449 BK455 HB;obtain ⟨BK439,BK445,BK449,BK455,HB⟩ := n_;(try clear hb);(try clear hb2);(try clear hk);(try clear hi)))
      go_ret
      exact ⟨Z400,Z81⟩
  · replace c7 := Bool.eq_false_iff.mpr c7
    subst c7
    have H1 : (some false) = some r := by rw [if_neg (show ¬ (false = true) by decide)] at H;exact H
    clear H
    have H := H1
    clear H1
    obtain rfl := Option.some.inj H
    go_enter Try.func19,Try.ntmps19
    go_wp2_with (first | ((with_reducible refine gate_dst (N := 2) rfl ?_);refine box_event ?hg (N := 2) ?hd (cs := #[.int .i64 a0_0,.int .i64 a0_1,.int .i64 a0_2,.int .i64 a0_3,.int .i64 a0_4,.int .i64 a0_5]) (t := 35) ?hr ?_;(case hd => rfl);(case hg => rfl);(case hr => exact Z515);intro gb439 hg w91 hbox hb;have n_ := jA (below_step Z486 hb) (jA (hbox) (jA ((Z271 : w.heap.size ≤ gb439)) (Aside0.mk ((Z271 : w.heap.size ≤ gb439)))));clear HB;obtain ⟨HB,BK439,GW439,GE439⟩ := n_;clear hb hbox hg;obtain ⟨hcz92_0,hcz92_1,hcz92_2,hcz92_3,hcz92_4,hcz92_5,hfz92_0,hfz92_1,hfz92_2,hfz92_3,hfz92_4,hfz92_5⟩ := impl_Improves.cells6 BK439.out) | ((with_reducible refine gate_callee (f := 11) rfl ?_);refine goesL_ (some 16) rfl rfl Try.func11 Z580 rfl #[.agg #[.int .i64 a0_0,.int .i64 a0_1,.int .i64 a0_2,.int .i64 a0_3,.int .i64 a0_4,.int .i64 a0_5],.int .i64 a1] rfl Z395 ?_;(with_reducible refine (impl_GainOf.calls k a0_0 a0_1 a0_2 a0_3 a0_4 a0_5 a1 t440 t441 t442 t443 false _ A3.out).mono ?_);rintro e w93 ⟨rfl,hb⟩;refine ⟨_,rfl,?_⟩;have n_ := jA (blk_below (g := gb439) (o := .cells #[.int .i64 a0_0,.int .i64 a0_1,.int .i64 a0_2,.int .i64 a0_3,.int .i64 a0_4,.int .i64 a0_5] 35 (0,0)) Z519 hb) (Aside0.mk (below_step Z455 hb));clear BK439 HB;obtain ⟨BK439,HB⟩ := n_;(try clear hb);(try clear hb2);(try clear hk);(try clear hi)) | ((with_reducible refine gate_dst (N := 5) rfl ?_);refine box_event ?hg (N := 5) ?hd (cs := #[.bool false,.int .u64 0,.int .u64 0,.int .i64 0]) (t := 30) ?hr ?_;(case hd => rfl);(case hg => rfl);(case hr => exact Z515);intro gb445 hg w94 hbox hb;have n_ := jA (blk_below (g := gb439) (o := .cells #[.int .i64 a0_0,.int .i64 a0_1,.int .i64 a0_2,.int .i64 a0_3,.int .i64 a0_4,.int .i64 a0_5] 35 (0,0)) Z519 hb) (jA (below_step Z455 hb) (jA (hbox) (jA ((Z187 : w.heap.size ≤ gb445)) (jA ((Z187 : w.heap.size ≤ gb445)) (jA ((Z174 : gb439 ≠ gb445)) (Aside0.mk ((Z176 : gb445 ≠ gb439))))))));clear BK439 HB;obtain ⟨BK439,HB,BK445,GW445,GE445,NB439_445,NB445_439⟩ := n_;clear hb hbox hg;have hnb95 := NB445_439.out;have hnc95 := NB439_445.out;obtain ⟨hcz96_0,hcz96_1,hcz96_2,hcz96_3,hfz96_0,hfz96_1,hfz96_2,hfz96_3⟩ := impl_Improves.cells4 BK445.out;obtain ⟨hcz97_0,hcz97_1,hcz97_2,hcz97_3,hcz97_4,hcz97_5,hfz97_0,hfz97_1,hfz97_2,hfz97_3,hfz97_4,hfz97_5⟩ := impl_Improves.cells6 BK439.out) | ((with_reducible refine gate_callee (f := 38) rfl ?_);refine goesL_ (some 21) rfl rfl Try.func38 Z580 rfl #[.agg #[.int .i64 a0_0,.int .i64 a0_1,.int .i64 a0_2,.int .i64 a0_3,.int .i64 a0_4,.int .i64 a0_5]] rfl Z395 ?_;(with_reducible refine (impl_BothOf.calls a0_0 a0_1 a0_2 a0_3 a0_4 a0_5 t446 t447 t448 _ A4.out).mono ?_);rintro e w98 ⟨rfl,hb⟩;refine ⟨_,rfl,?_⟩;have n_ := jA (blk_below (g := gb439) (o := .cells #[.int .i64 a0_0,.int .i64 a0_1,.int .i64 a0_2,.int .i64 a0_3,.int .i64 a0_4,.int .i64 a0_5] 35 (0,0)) Z136 hb) (jA (blk_below (g := gb445) (o := .cells #[.bool t440,.int .u64 t441,.int .u64 t442,.int .i64 t443] 30 (0,0)) Z18 hb) (Aside0.mk (below_step Z431 hb)));clear BK439 BK445 HB;obtain ⟨BK439,BK445,HB⟩ := n_;(try clear hb);(try clear hb2);(try clear hk);(try clear hi)) | ((with_reducible refine gate_dst (N := 7) rfl ?_);refine box_event ?hg (N := 7) ?hd (cs := #[.int .i64 0,.int .i64 0]) (t := 33) ?hr ?_;(case hd => rfl);(case hg => rfl);(case hr => exact Z515);intro gb449 hg w99 hbox hb;have n_ := jA (blk_below (g := gb439) (o := .cells #[.int .i64 a0_0,.int .i64 a0_1,.int .i64 a0_2,.int .i64 a0_3,.int .i64 a0_4,.int .i64 a0_5] 35 (0,0)) Z519 hb) (jA (blk_below (g := gb445) (o := .cells #[.bool t440,.int .u64 t441,.int .u64 t442,.int .i64 t443] 30 (0,0)) Z540 hb) (jA (below_step Z431 hb) (jA (hbox) (jA ((Z110 : w.heap.size ≤ gb449)) (jA ((Z110 : w.heap.size ≤ gb449)) (jA ((Z174 : gb439 ≠ gb449)) (jA ((Z176 : gb449 ≠ gb439)) (jA ((Z280 : gb445 ≠ gb449)) (Aside0.mk ((Z281 : gb449 ≠ gb445)))))))))));clear BK439 BK445 HB;obtain ⟨BK439,BK445,HB,BK449,GW449,GE449,NB439_449,NB449_439,NB445_449,NB449_445⟩ := n_;clear hb hbox hg;have hnb100 := NB449_439.out;have hnc100 := NB439_449.out;have hnb101 := NB449_445.out;have hnc101 := NB445_449.out;obtain ⟨hcz102_0,hcz102_1,hfz102_0,hfz102_1⟩ := impl_Improves.cells2 BK449.out) | ((with_reducible refine gate_callee (f := 21) rfl ?_);refine goesL_ (some 27) rfl rfl Try.func21 Z580 rfl #[.agg #[.int .i64 t446,.int .i64 t447],.int .i64 a1] rfl Z395 ?_;(with_reducible refine (impl_PlainGain.calls t446 t447 a1 t450 t451 t452 t453 t454 _ A5.out).mono ?_);rintro e w103 ⟨rfl,hb⟩;refine ⟨_,rfl,?_⟩;have n_ := jA (blk_below (g := gb439) (o := .cells #[.int .i64 a0_0,.int .i64 a0_1,.int .i64 a0_2,.int .i64 a0_3,.int .i64 a0_4,.int .i64 a0_5] 35 (0,0)) Z397 hb) (jA (blk_below (g := gb445) (o := .cells #[.bool t440,.int .u64 t441,.int .u64 t442,.int .i64 t443] 30 (0,0)) Z396 hb) (jA (blk_below (g := gb449) (o := .cells #[.int .i64 t446,.int .i64 t447] 33 (0,0)) Z223 hb) (Aside0.mk (below_step Z416 hb))));clear BK439 BK445 BK449 HB;obtain ⟨BK439,BK445,BK449,HB⟩ := n_;(try clear hb);(try clear hb2);(try clear hk);(try clear hi)) | ((with_reducible refine gate_dst (N := 9) rfl ?_);refine box_event ?hg (N := 9) ?hd (cs := #[.bool false,.int .u64 0,.int .u64 0,.int .i64 0]) (t := 30) ?hr ?_;(case hd => rfl);(case hg => rfl);(case hr => exact Z515);intro gb455 hg w104 hbox hb;have n_ := jA (blk_below (g := gb439) (o := .cells #[.int .i64 a0_0,.int .i64 a0_1,.int .i64 a0_2,.int .i64 a0_3,.int .i64 a0_4,.int .i64 a0_5] 35 (0,0)) Z519 hb) (jA (blk_below (g := gb445) (o := .cells #[.bool t440,.int .u64 t441,.int .u64 t442,.int .i64 t443] 30 (0,0)) Z540 hb) (jA (blk_below (g := gb449) (o := .cells #[.int .i64 t446,.int .i64 t447] 33 (0,0)) Z554 hb) (jA (below_step Z416 hb) (jA (hbox) (jA ((Z82 : w.heap.size ≤ gb455)) (jA ((Z82 : w.heap.size ≤ gb455)) (jA ((Z174 : gb439 ≠ gb455)) (jA ((Z176 : gb455 ≠ gb439)) (jA ((Z280 : gb445 ≠ gb455)) (jA ((Z281 : gb455 ≠ gb445)) (jA ((Z383 : gb449 ≠ gb455)) (Aside0.mk ((Z384 : gb455 ≠ gb449))))))))))))));clear BK439 BK445 BK449 HB;obtain ⟨BK439,BK445,BK449,HB,BK455,GW455,GE455,NB439_455,NB455_439,NB445_455,NB455_445,NB449_455,NB455_449⟩ := n_;clear hb hbox hg;have hnb105 := NB455_439.out;have hnc105 := NB439_455.out;have hnb106 := NB455_445.out;have hnc106 := NB445_455.out;have hnb107 := NB455_449.out;have hnc107 := NB449_455.out;obtain ⟨hcz108_0,hcz108_1,hcz108_2,hcz108_3,hfz108_0,hfz108_1,hfz108_2,hfz108_3⟩ := impl_Improves.cells4 BK455.out;obtain ⟨hcz109_0,hcz109_1,hcz109_2,hcz109_3,hfz109_0,hfz109_1,hfz109_2,hfz109_3⟩ := impl_Improves.cells4 BK445.out) | ((with_reducible refine gate_callee (f := 35) rfl ?_);refine goesL_ (some 33) rfl rfl Try.func35 Z580 rfl #[.agg #[.bool t440,.int .u64 t441,.int .u64 t442,.int .i64 t443],.agg #[.bool t450,.int .u64 t451,.int .u64 t452,.int .i64 t453]] rfl Z395 ?_;(with_reducible refine (impl_CompareFrac.calls k t440 t441 t442 t443 t450 t451 t452 t453 t456 t457 _ A6.out).mono ?_);rintro e w110 ⟨rfl,hb⟩;refine ⟨_,rfl,?_⟩;have n_ := jA (blk_below (g := gb439) (o := .cells #[.int .i64 a0_0,.int .i64 a0_1,.int .i64 a0_2,.int .i64 a0_3,.int .i64 a0_4,.int .i64 a0_5] 35 (0,0)) Z135 hb) (jA (blk_below (g := gb445) (o := .cells #[.bool t440,.int .u64 t441,.int .u64 t442,.int .i64 t443] 30 (0,0)) Z134 hb) (jA (blk_below (g := gb449) (o := .cells #[.int .i64 t446,.int .i64 t447] 33 (0,0)) Z133 hb) (jA (blk_below (g := gb455) (o := .cells #[.bool t450,.int .u64 t451,.int .u64 t452,.int .i64 t453] 30 (0,0)) Z17 hb) (Aside0.mk (below_step Z81 hb)))));clear BK439 BK445 BK449 BK455 HB;obtain ⟨BK439,BK445,BK449,BK455,HB⟩ := n_;(try clear hb);(try clear hb2);(try clear hk);(try clear hi)))
    go_ret
    exact ⟨Z400,Z81⟩

end Go.Proofs.Ytjcjehnjbgklbaa.QFnImproves
