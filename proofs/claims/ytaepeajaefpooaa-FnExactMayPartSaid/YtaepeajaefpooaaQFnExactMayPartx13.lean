/- The machine side of FnExactMayPart: what each Go function that it reaches comes to. Conditions: none. -/
import Derived.Test.YtaepeajaefpooaaQFnExactMayPartx0
import Derived.Test.YtaepeajaefpooaaQFnExactMayPartx9
import Derived.Test.YtaepeajaefpooaaQFnExactMayPartx10
import Derived.Test.YtaepeajaefpooaaQFnExactMayPartx11
import Derived.Test.YtaepeajaefpooaaQFnExactMayPartx12
namespace Go.Proofs.Ytaepeajaefpooaa.QFnExactMayPart
open Go.RowKit Go.Proofs.YtaepeajaefpooaaW.PrintWords Go.Proofs.YtaepeajaefpooaaW.PrintLast Go.Proofs.YtaepeajaefpooaaW.PrintMore
attribute [local go_sem] max2_int min2_int max_two min_two max_three min_three max_four min_four   -- for this text's walks alone
set_option linter.unusedVariables false
set_option linter.unusedSimpArgs false

/-! ### impl_CompareWide: function 127 -/
mutual
def impl_CompareWide.j0 : Nat → Bool → Bool → Int → Int → Bool → Int → Int → Option (Int)
 | 0,_,_,_,_,_,_,_ => none
 | k + 1,x19,x539000,x539001,x539002,x540000,x540001,x540002 => if x19 = true then (some (-1)) else (if x540000 = true then (impl_CompareWide.j1 k (!x539000) x539000 x539001 x539002 x540000 x540001 x540002) else (impl_CompareWide.j1 k false x539000 x539001 x539002 x540000 x540001 x540002))
def impl_CompareWide.j1 : Nat → Bool → Bool → Int → Int → Bool → Int → Int → Option (Int)
 | 0,_,_,_,_,_,_,_ => none
 | k + 1,x27,x539000,x539001,x539002,x540000,x540001,x540002 => if x27 = true then (some 1) else (if x539000 = true then ((impl_compareSizes.f k x540000 x540001 x540002 x539000 x539001 x539002).bind fun t546 => (some t546)) else ((impl_compareSizes.f k x539000 x539001 x539002 x540000 x540001 x540002).bind fun t547 => (some t547)))
end
def impl_CompareWide.f (k : Nat) (a0_0 : Bool) (a0_1 : Int) (a0_2 : Int) (a1_0 : Bool) (a1_1 : Int) (a1_2 : Int) : Option (Int) := (impl_wideOf.f a0_0 a0_1 a0_2).bind fun bt540 => ((impl_wideOf.f a1_0 a1_1 a1_2).bind fun bt543 => (if bt540.1 = true then (impl_CompareWide.j0 k (!bt543.1) bt540.1 bt540.2.1 bt540.2.2 bt543.1 bt543.2.1 bt543.2.2) else (impl_CompareWide.j0 k false bt540.1 bt540.2.1 bt540.2.2 bt543.1 bt543.2.1 bt543.2.2)))
theorem impl_CompareWide.mono_l : ∀ k,(∀ y0 y1 y2 y3 y4 y5 y6,LeO (impl_CompareWide.j0 k y0 y1 y2 y3 y4 y5 y6) (impl_CompareWide.j0 (k + 1) y0 y1 y2 y3 y4 y5 y6)) ∧ (∀ y0 y1 y2 y3 y4 y5 y6,LeO (impl_CompareWide.j1 k y0 y1 y2 y3 y4 y5 y6) (impl_CompareWide.j1 (k + 1) y0 y1 y2 y3 y4 y5 y6))
 | 0 => ⟨fun _ _ _ _ _ _ _ r h => by simp [impl_CompareWide.j0] at h,fun _ _ _ _ _ _ _ r h => by simp [impl_CompareWide.j1] at h⟩
 | k + 1 => by
  obtain ⟨ih0,ih1⟩ := impl_CompareWide.mono_l k
  refine ⟨?_,?_⟩
  ·intro y0 y1 y2 y3 y4 y5 y6
   unfold impl_CompareWide.j0
   repeat' first
   | (with_reducible exact ih0 _ _ _ _ _ _ _)
   | (with_reducible exact ih1 _ _ _ _ _ _ _)
   | (with_reducible exact impl_compareSizes.mono _ _ _ _ _ _ _)
   | (with_reducible exact LeO.refl _)
   | (with_reducible exact LeO.none _)
   | (with_reducible refine LeO.ite ?_ ?_)
   | (with_reducible refine LeO.bind ?_ (fun _ => ?_))
   | exact ih0 _ _ _ _ _ _ _
   | exact ih1 _ _ _ _ _ _ _
   | exact impl_compareSizes.mono _ _ _ _ _ _ _
   | exact LeO.none _
   | refine LeO.ite ?_ ?_
   | refine LeO.bind ?_ (fun _ => ?_)
  ·intro y0 y1 y2 y3 y4 y5 y6
   unfold impl_CompareWide.j1
   repeat' first
   | (with_reducible exact ih0 _ _ _ _ _ _ _)
   | (with_reducible exact ih1 _ _ _ _ _ _ _)
   | (with_reducible exact impl_compareSizes.mono _ _ _ _ _ _ _)
   | (with_reducible exact LeO.refl _)
   | (with_reducible exact LeO.none _)
   | (with_reducible refine LeO.ite ?_ ?_)
   | (with_reducible refine LeO.bind ?_ (fun _ => ?_))
   | exact ih0 _ _ _ _ _ _ _
   | exact ih1 _ _ _ _ _ _ _
   | exact impl_compareSizes.mono _ _ _ _ _ _ _
   | exact LeO.none _
   | refine LeO.ite ?_ ?_
   | refine LeO.bind ?_ (fun _ => ?_)
theorem impl_CompareWide.mono : ∀ a0 a1 a2 a3 a4 a5 k,LeO (impl_CompareWide.f k a0 a1 a2 a3 a4 a5) (impl_CompareWide.f (k + 1) a0 a1 a2 a3 a4 a5) := by
 intro a0 a1 a2 a3 a4 a5 k
 obtain ⟨ih0,ih1⟩ := impl_CompareWide.mono_l k
 unfold impl_CompareWide.f
 repeat' first
   | (with_reducible exact ih0 _ _ _ _ _ _ _)
   | (with_reducible exact ih1 _ _ _ _ _ _ _)
   | (with_reducible exact impl_compareSizes.mono _ _ _ _ _ _ _)
   | (with_reducible exact LeO.refl _)
   | (with_reducible exact LeO.none _)
   | (with_reducible refine LeO.ite ?_ ?_)
   | (with_reducible refine LeO.bind ?_ (fun _ => ?_))
   | exact ih0 _ _ _ _ _ _ _
   | exact ih1 _ _ _ _ _ _ _
   | exact impl_compareSizes.mono _ _ _ _ _ _ _
   | exact LeO.none _
   | refine LeO.ite ?_ ?_
   | refine LeO.bind ?_ (fun _ => ?_)
def impl_CompareWide.T1 : Bool × List (List Nat × List Nat) := (true,[([],[]),([0],[0]),([],[]),([2],[2]),([],[]),([4],[4]),([1,3,5],[1,3,5]),([],[]),([7],[7]),([],[]),([9],[9]),([],[]),([11],[11]),([8,10,12,6],[8,10,12]),([6,13,0,1,2,3,4,5,6],[6]),([13,14,0,1,2,3,4,5,6,7,8,9,10,11,12,13,14],[13])])
def impl_CompareWide.B1 : List Nat := [0,1,0,4,0,16,63,0,128,0,512,0,2048,8191,16383,32767]
theorem impl_CompareWide.tab1 : rtab .any (opsOf Try.f127 1) = impl_CompareWide.T1 := by kernel_rfl
theorem impl_CompareWide.bits1 : waitsOk impl_CompareWide.T1.2 impl_CompareWide.B1 = true := by kernel_rfl
set_option maxHeartbeats 8000000 in
set_option maxRecDepth 100000 in
theorem impl_CompareWide.calls (k : Nat) (a0_0 : Bool) (a0_1 : Int) (a0_2 : Int) (a1_0 : Bool) (a1_1 : Int) (a1_2 : Int) (r : Int) (w : World) (h : impl_CompareWide.f k a0_0 a0_1 a0_2 a1_0 a1_1 a1_2 = some r) :
  Calls Try.prog 127 #[.agg #[.bool a0_0,.int .u64 a0_1,.int .u64 a0_2],.agg #[.bool a1_0,.int .u64 a1_1,.int .u64 a1_2]] w fun e w' => e = .returned (.int .i64 r) ∧ Below w.heap.size w w' := by
 have hu100 := Try.underlying100
 have HB := Aside0.mk (Below.refl w.heap.size w)
 have H := h
 clear h
 unfold impl_CompareWide.f at H
 obtain ⟨⟨t540,t541,t542⟩,A30,H⟩ := Option.bind_eq_some_iff.mp H
 try dsimp only at H
 have A3 := Aside0.mk A30
 clear A30
 obtain ⟨⟨t543,t544,t545⟩,A40,H⟩ := Option.bind_eq_some_iff.mp H
 try dsimp only at H
 have A4 := Aside0.mk A40
 clear A40
 have HC5 := Aside0.mk H
 clear H
 go_enter Try.func127,Try.ntmps127
 try go_wp2_with (first | ((with_reducible refine gate_dst (N := 2) rfl ?_);refine bE 2 #[.bool a0_0,.int .u64 a0_1,.int .u64 a0_2] 100 (h := ?_);intro gb538 hg w6 hbox hb;have n_ := jA (below_step Z614 hb) (jA (hbox) (jA ((Z456 : w.heap.size ≤ gb538)) (Aside0.mk ((Z456 : w.heap.size ≤ gb538)))));clear HB;obtain ⟨HB,BK538,GW538,GE538⟩ := n_;clear hb hbox hg) | ((with_reducible refine gate_dst (N := 3) rfl ?_);refine bE 3 #[.bool a1_0,.int .u64 a1_1,.int .u64 a1_2] 100 (h := ?_);intro gb539 hg w7 hbox hb;have n_ := jA (blk_below (g := gb538) (o := .cells #[.bool a0_0,.int .u64 a0_1,.int .u64 a0_2] 100 (0,0)) Z292 hb) (jA (below_step Z461 hb) (jA (hbox) (jA ((Z204 : w.heap.size ≤ gb539)) (jA ((Z204 : w.heap.size ≤ gb539)) (jA ((by rw [hg];exact Nat.ne_of_lt (blk_lt (g := gb538) (o := .cells #[.bool a0_0,.int .u64 a0_1,.int .u64 a0_2] 100 (0,0)) Z292) : gb538 ≠ gb539)) (Aside0.mk ((by rw [hg];exact Nat.ne_of_gt (blk_lt (g := gb538) (o := .cells #[.bool a0_0,.int .u64 a0_1,.int .u64 a0_2] 100 (0,0)) Z292) : gb539 ≠ gb538))))))));clear BK538 HB;obtain ⟨BK538,HB,BK539,GW539,GE539,NB538_539,NB539_538⟩ := n_;clear hb hbox hg))
 have n0_ := Aside0.mk (blk_drew BK538.out)
 have n1_ := Aside0.mk (blk_drew BK539.out)
 have n2_ := Aside0.mk (below_drew1 HB.out)
 clear BK538
 clear BK539
 clear HB
 have BK538 := n0_
 have BK539 := n1_
 have HB := n2_
 clear n0_ n1_ n2_
 refine start_ (n := 16) (S := fun w' => w'.cell? ⟨gb538,0,none⟩ = some (.bool a0_0) ∧ w'.cell? ⟨gb538,1,none⟩ = some (.int .u64 a0_1) ∧ w'.cell? ⟨gb538,2,none⟩ = some (.int .u64 a0_2) ∧ w'.cell? ⟨gb539,0,none⟩ = some (.bool a1_0) ∧ w'.cell? ⟨gb539,1,none⟩ = some (.int .u64 a1_1) ∧ w'.cell? ⟨gb539,2,none⟩ = some (.int .u64 a1_2)) (ds := [14,15]) #[false,false,false,false,false,false,false,false,false,false,false,false,false,false,false,false] Z312 rfl rfl ⟨(blk_cell BK538.out 0).trans rfl,(blk_cell BK538.out 1).trans rfl,(blk_cell BK538.out 2).trans rfl,(blk_cell BK539.out 0).trans rfl,(blk_cell BK539.out 1).trans rfl,(blk_cell BK539.out 2).trans rfl⟩ (fun hHeld => ?_);refine with_tabW impl_CompareWide.tab1 impl_CompareWide.bits1 (fun HT_ HW_ => ?_)
 generalize w7.drew = w8 at BK538 BK539 HB hHeld ⊢
 refine pure_ (i := 0) (N := some 5) (v := ?_) (a' := ?_) #[true,false,false,false,false,false,false,false,false,false,false,false,false,false,false,false] rfl rfl (any_of HT_.out Z312) (fun _ _ _ h => h) (Or.inl ⟨Z314,?_⟩) ?_ ?_
 rotate_left
 ·intro w'
  go_simp
  with_reducible rfl
 rotate_left
 ·simp only [Act.put,List.setIfInBounds_toArray,List.set_cons_zero,List.set_cons_succ,i64_w,i32_w]
  rfl
 refine pure_ (i := 2) (N := some 7) (v := ?_) (a' := ?_) #[true,false,true,false,false,false,false,false,false,false,false,false,false,false,false,false] rfl rfl (any_of HT_.out Z312) (fun _ _ _ h => h) (Or.inl ⟨Z314,?_⟩) ?_ ?_
 rotate_left
 ·intro w'
  go_simp
  with_reducible rfl
 rotate_left
 ·simp only [Act.put,List.setIfInBounds_toArray,List.set_cons_zero,List.set_cons_succ,i64_w,i32_w]
  rfl
 refine pure_ (i := 4) (N := some 9) (v := ?_) (a' := ?_) #[true,false,true,false,true,false,false,false,false,false,false,false,false,false,false,false] rfl rfl (any_of HT_.out Z312) (fun _ _ _ h => h) (Or.inl ⟨Z314,?_⟩) ?_ ?_
 rotate_left
 ·intro w'
  go_simp
  with_reducible rfl
 rotate_left
 ·simp only [Act.put,List.setIfInBounds_toArray,List.set_cons_zero,List.set_cons_succ,i64_w,i32_w]
  rfl
 refine pure_ (i := 7) (N := some 12) (v := ?_) (a' := ?_) #[true,false,true,false,true,false,false,true,false,false,false,false,false,false,false,false] rfl rfl (any_of HT_.out Z312) (fun _ _ _ h => h) (Or.inl ⟨Z314,?_⟩) ?_ ?_
 rotate_left
 ·intro w'
  go_simp
  with_reducible rfl
 rotate_left
 ·simp only [Act.put,List.setIfInBounds_toArray,List.set_cons_zero,List.set_cons_succ,i64_w,i32_w]
  rfl
 refine pure_ (i := 9) (N := some 14) (v := ?_) (a' := ?_) #[true,false,true,false,true,false,false,true,false,true,false,false,false,false,false,false] rfl rfl (any_of HT_.out Z312) (fun _ _ _ h => h) (Or.inl ⟨Z314,?_⟩) ?_ ?_
 rotate_left
 ·intro w'
  go_simp
  with_reducible rfl
 rotate_left
 ·simp only [Act.put,List.setIfInBounds_toArray,List.set_cons_zero,List.set_cons_succ,i64_w,i32_w]
  rfl
 refine pure_ (i := 11) (N := some 16) (v := ?_) (a' := ?_) #[true,false,true,false,true,false,false,true,false,true,false,true,false,false,false,false] rfl rfl (any_of HT_.out Z312) (fun _ _ _ h => h) (Or.inl ⟨Z314,?_⟩) ?_ ?_
 rotate_left
 ·intro w'
  go_simp
  with_reducible rfl
 rotate_left
 ·simp only [Act.put,List.setIfInBounds_toArray,List.set_cons_zero,List.set_cons_succ,i64_w,i32_w]
  rfl
 refine take_ (i := 1) (N := some 6) (v := ?_) (a' := ?_) #[true,true,true,false,true,false,false,true,false,true,false,true,false,false,false,false] rfl rfl (take_ofW HT_.out HW_.out Z312) (fun _ _ _ h => h) (Or.inl ⟨Z314,?_⟩) hHeld ?_ ?_
 rotate_left
 ·rintro w' ⟨s0,s1,s2,s3,s4,s5⟩
  go_simp
  with_reducible rfl
 rotate_left
 ·simp only [Act.put,List.setIfInBounds_toArray,List.set_cons_zero,List.set_cons_succ,i64_w,i32_w]
  rfl
 refine take_ (i := 3) (N := some 8) (v := ?_) (a' := ?_) #[true,true,true,true,true,false,false,true,false,true,false,true,false,false,false,false] rfl rfl (take_ofW HT_.out HW_.out Z312) (fun _ _ _ h => h) (Or.inl ⟨Z314,?_⟩) hHeld ?_ ?_
 rotate_left
 ·rintro w' ⟨s0,s1,s2,s3,s4,s5⟩
  go_simp
  with_reducible rfl
 rotate_left
 ·simp only [Act.put,List.setIfInBounds_toArray,List.set_cons_zero,List.set_cons_succ,i64_w,i32_w]
  rfl
 refine take_ (i := 5) (N := some 10) (v := ?_) (a' := ?_) #[true,true,true,true,true,true,false,true,false,true,false,true,false,false,false,false] rfl rfl (take_ofW HT_.out HW_.out Z312) (fun _ _ _ h => h) (Or.inl ⟨Z314,?_⟩) hHeld ?_ ?_
 rotate_left
 ·rintro w' ⟨s0,s1,s2,s3,s4,s5⟩
  go_simp
  with_reducible rfl
 rotate_left
 ·simp only [Act.put,List.setIfInBounds_toArray,List.set_cons_zero,List.set_cons_succ,i64_w,i32_w]
  rfl
 refine take_ (i := 8) (N := some 13) (v := ?_) (a' := ?_) #[true,true,true,true,true,true,false,true,true,true,false,true,false,false,false,false] rfl rfl (take_ofW HT_.out HW_.out Z312) (fun _ _ _ h => h) (Or.inl ⟨Z314,?_⟩) hHeld ?_ ?_
 rotate_left
 ·rintro w' ⟨s0,s1,s2,s3,s4,s5⟩
  go_simp
  with_reducible rfl
 rotate_left
 ·simp only [Act.put,List.setIfInBounds_toArray,List.set_cons_zero,List.set_cons_succ,i64_w,i32_w]
  rfl
 refine take_ (i := 10) (N := some 15) (v := ?_) (a' := ?_) #[true,true,true,true,true,true,false,true,true,true,true,true,false,false,false,false] rfl rfl (take_ofW HT_.out HW_.out Z312) (fun _ _ _ h => h) (Or.inl ⟨Z314,?_⟩) hHeld ?_ ?_
 rotate_left
 ·rintro w' ⟨s0,s1,s2,s3,s4,s5⟩
  go_simp
  with_reducible rfl
 rotate_left
 ·simp only [Act.put,List.setIfInBounds_toArray,List.set_cons_zero,List.set_cons_succ,i64_w,i32_w]
  rfl
 refine take_ (i := 12) (N := some 17) (v := ?_) (a' := ?_) #[true,true,true,true,true,true,false,true,true,true,true,true,true,false,false,false] rfl rfl (take_ofW HT_.out HW_.out Z312) (fun _ _ _ h => h) (Or.inl ⟨Z314,?_⟩) hHeld ?_ ?_
 rotate_left
 ·rintro w' ⟨s0,s1,s2,s3,s4,s5⟩
  go_simp
  with_reducible rfl
 rotate_left
 ·simp only [Act.put,List.setIfInBounds_toArray,List.set_cons_zero,List.set_cons_succ,i64_w,i32_w]
  rfl
 refine one_ (i := 6) (N := some 11) #[true,true,true,true,true,true,true,true,true,true,true,true,true,false,false,false] rfl rfl (one_of HT_.out Z312) Z313 (fun K hK => ?_)
 refine goes_ Try.func153 Z312 rfl #[.bool a0_0,.int .u64 a0_1,.int .u64 a0_2] Z314 rfl rfl Z256 ?_
 with_reducible refine (impl_wideOf.calls a0_0 a0_1 a0_2 t540 t541 t542 _ A3.out).mono ?_
 rintro e w9 ⟨rfl,hb⟩
 refine ⟨_,rfl,?_⟩
 have n0_ := Aside0.mk (blk_below (g := gb538) (o := .cells #[.bool a0_0,.int .u64 a0_1,.int .u64 a0_2] 100 (0,0)) Z292 hb)
 have n1_ := Aside0.mk (blk_below (g := gb539) (o := .cells #[.bool a1_0,.int .u64 a1_1,.int .u64 a1_2] 100 (0,0)) Z295 hb)
 have n2_ := Aside0.mk (below_step Z196 hb)
 clear BK538
 clear BK539
 clear HB
 have BK538 := n0_
 have BK539 := n1_
 have HB := n2_
 clear n0_ n1_ n2_
 (try clear hb)
 (try clear hb2)
 (try clear hk)
 (try clear hi)
 refine hK.out _ _ ⟨(blk_cell BK538.out 0).trans rfl,(blk_cell BK538.out 1).trans rfl,(blk_cell BK538.out 2).trans rfl,(blk_cell BK539.out 0).trans rfl,(blk_cell BK539.out 1).trans rfl,(blk_cell BK539.out 2).trans rfl⟩ (fun hHeld => ?_)
 clear hK K
 refine norm_ (a' := ?_) ?_ ?_
 rotate_left
 ·show Act.put _ (some 11) _ = _
  simp only [Act.put,List.setIfInBounds_toArray,List.set_cons_zero,List.set_cons_succ,i64_w,i32_w]
  rfl
 refine one_ (i := 13) (N := some 18) #[true,true,true,true,true,true,true,true,true,true,true,true,true,true,false,false] rfl rfl (one_of HT_.out Z312) Z313 (fun K hK => ?_)
 refine goes_ Try.func153 Z312 rfl #[.bool a1_0,.int .u64 a1_1,.int .u64 a1_2] Z314 rfl rfl Z256 ?_
 with_reducible refine (impl_wideOf.calls a1_0 a1_1 a1_2 t543 t544 t545 _ A4.out).mono ?_
 rintro e w10 ⟨rfl,hb⟩
 refine ⟨_,rfl,?_⟩
 have n0_ := Aside0.mk (blk_below (g := gb538) (o := .cells #[.bool a0_0,.int .u64 a0_1,.int .u64 a0_2] 100 (0,0)) Z292 hb)
 have n1_ := Aside0.mk (blk_below (g := gb539) (o := .cells #[.bool a1_0,.int .u64 a1_1,.int .u64 a1_2] 100 (0,0)) Z295 hb)
 have n2_ := Aside0.mk (below_step Z196 hb)
 clear BK538
 clear BK539
 clear HB
 have BK538 := n0_
 have BK539 := n1_
 have HB := n2_
 clear n0_ n1_ n2_
 (try clear hb)
 (try clear hb2)
 (try clear hk)
 (try clear hi)
 refine hK.out _ _ ⟨(blk_cell BK538.out 0).trans rfl,(blk_cell BK538.out 1).trans rfl,(blk_cell BK538.out 2).trans rfl,(blk_cell BK539.out 0).trans rfl,(blk_cell BK539.out 1).trans rfl,(blk_cell BK539.out 2).trans rfl⟩ (fun hHeld => ?_)
 clear hK K
 refine norm_ (a' := ?_) ?_ ?_
 rotate_left
 ·show Act.put _ (some 18) _ = _
  simp only [Act.put,List.setIfInBounds_toArray,List.set_cons_zero,List.set_cons_succ,i64_w,i32_w]
  rfl
 refine last_ (i := 14) (N := none) #[true,true,true,true,true,true,true,true,true,true,true,true,true,true,true,false] rfl rfl (one_of HT_.out Z312) Z313 (fun K hK => ?_)
 have hs11 : w10.cell? ⟨gb538,0,none⟩ = some (.bool a0_0) := (blk_cell BK538.out 0).trans rfl
 have hfs11 := blk_frozen BK538.out 0
 have hns11_1 := NB539_538.out
 have hms11_1 := NB538_539.out
 have hs12 : w10.cell? ⟨gb538,1,none⟩ = some (.int .u64 a0_1) := (blk_cell BK538.out 1).trans rfl
 have hfs12 := blk_frozen BK538.out 1
 have hns12_1 := NB539_538.out
 have hms12_1 := NB538_539.out
 have hs13 : w10.cell? ⟨gb538,2,none⟩ = some (.int .u64 a0_2) := (blk_cell BK538.out 2).trans rfl
 have hfs13 := blk_frozen BK538.out 2
 have hns13_1 := NB539_538.out
 have hms13_1 := NB538_539.out
 refine skip_ (w1 := ?_) Z314 rfl ?_ ?_
 rotate_left
 ·go_simp
  rfl
 refine hK.out _ _ ?_
 clear hK K
 refine last_ (i := 15) (N := none) #[true,true,true,true,true,true,true,true,true,true,true,true,true,true,true,true] rfl rfl (one_of HT_.out Z312) Z313 (fun K hK => ?_)
 have hs14 : w10.cell? ⟨gb539,0,none⟩ = some (.bool a1_0) := (blk_cell BK539.out 0).trans rfl
 have hfs14 := blk_frozen BK539.out 0
 have hns14_0 := NB538_539.out
 have hms14_0 := NB539_538.out
 have hs15 : w10.cell? ⟨gb539,1,none⟩ = some (.int .u64 a1_1) := (blk_cell BK539.out 1).trans rfl
 have hfs15 := blk_frozen BK539.out 1
 have hns15_0 := NB538_539.out
 have hms15_0 := NB539_538.out
 have hs16 : w10.cell? ⟨gb539,2,none⟩ = some (.int .u64 a1_2) := (blk_cell BK539.out 2).trans rfl
 have hfs16 := blk_frozen BK539.out 2
 have hns16_0 := NB538_539.out
 have hms16_0 := NB539_538.out
 refine skip_ (w1 := ?_) Z314 rfl ?_ ?_
 rotate_left
 ·go_simp
  rfl
 refine hK.out _ _ ?_
 clear hK K
 refine done_ (done_of HT_.out Z312) ?_
 go_upto_region 2 with (fail)
 go_cut [19] (fun v19 wc => ∃ (kq : Nat) (x19_4 : Bool),v19 = .bool x19_4 ∧ Aside0 (impl_CompareWide.j0 kq x19_4 t540 t541 t542 t543 t544 t545 = some r) ∧ Aside0 (kq ≤ k) ∧ Aside0 (wc.heap[gb538]? = some (.cells #[.bool t540,.int .u64 t541,.int .u64 t542] 100 (0,0))) ∧ Aside0 (wc.heap[gb539]? = some (.cells #[.bool t543,.int .u64 t544,.int .u64 t545] 100 (0,0))) ∧ Aside0 (Below w.heap.size w wc))
 case first =>
  have H := HC5.out
  clear HC5
  by_cases c17 : t540 = true
  ·subst c17
   rw [if_pos rfl] at H
   have H' := Aside0.mk H
   clear H
   have hnb18 := NB538_539.out
   have hnc18 := NB539_538.out
   obtain ⟨hcz19_0,hcz19_1,hcz19_2,hfz19_0,hfz19_1,hfz19_2⟩ := cells3 BK538.out
   obtain ⟨hcz20_0,hcz20_1,hcz20_2,hfz20_0,hfz20_1,hfz20_2⟩ := cells3 BK539.out
   go_wp2
   go_meet
   case rel => exact ⟨_,(!t543),Z289,H',⟨Z291⟩,⟨by refine bP ?_;refine blk_far ?_ NB538_539.out _;refine bP ?_;refine blk_far ?_ NB538_539.out _;refine bP ?_;refine blk_far ?_ NB538_539.out _;refine bP ?_;refine blk_put (cs := #[.bool true,.int .u64 t541,.int .u64 a0_2]) ?_ 2 _ rfl;refine bP ?_;refine blk_put (cs := #[.bool true,.int .u64 a0_1,.int .u64 a0_2]) ?_ 1 _ rfl;refine bP ?_;refine blk_put (cs := #[.bool a0_0,.int .u64 a0_1,.int .u64 a0_2]) ?_ 0 _ rfl;refine bP ?_;exact BK538.out⟩,⟨Z140⟩,⟨Z196⟩⟩
  ·replace c17 := Bool.eq_false_iff.mpr c17
   subst c17
   rw [if_neg Bool.false_ne_true] at H
   have H' := Aside0.mk H
   clear H
   have hnb21 := NB538_539.out
   have hnc21 := NB539_538.out
   obtain ⟨hcz22_0,hcz22_1,hcz22_2,hfz22_0,hfz22_1,hfz22_2⟩ := cells3 BK538.out
   go_wp2
   go_meet
   case rel => exact ⟨_,(false),Z289,H',⟨Z291⟩,⟨by refine bP ?_;refine blk_far ?_ NB538_539.out _;refine bP ?_;refine blk_far ?_ NB538_539.out _;refine bP ?_;refine blk_far ?_ NB538_539.out _;refine bP ?_;refine blk_put (cs := #[.bool false,.int .u64 t541,.int .u64 a0_2]) ?_ 2 _ rfl;refine bP ?_;refine blk_put (cs := #[.bool false,.int .u64 a0_1,.int .u64 a0_2]) ?_ 1 _ rfl;refine bP ?_;refine blk_put (cs := #[.bool a0_0,.int .u64 a0_1,.int .u64 a0_2]) ?_ 0 _ rfl;refine bP ?_;exact BK538.out⟩,⟨Z140⟩,⟨Z196⟩⟩
 case rest =>
  clear HC5
  try clear c1
  try clear c2
  try clear p2
  try clear c12
  try clear c15
  try clear c17
  try clear c18
  try clear c21
  try clear hcz19_0
  try clear hcz19_1
  try clear hcz19_2
  try clear hcz20_0
  try clear hcz20_1
  try clear hcz20_2
  try clear hcz22_0
  try clear hcz22_1
  try clear hcz22_2
  try clear hfz19_0
  try clear hfz19_1
  try clear hfz19_2
  try clear hfz20_0
  try clear hfz20_1
  try clear hfz20_2
  try clear hfz22_0
  try clear hfz22_1
  try clear hfz22_2
  obtain ⟨kq,x19_4,rfl,HA,HJ4,BK538,BK539,HB⟩ := hcut
  cases kq with
  | zero => exact absurd HA.out (by simp [impl_CompareWide.j0])
  | succ kj4 =>
   have H := HA.out
   clear HA
   simp only [impl_CompareWide.j0] at H
   by_cases c23 : x19_4 = true
   ·subst c23
    rw [if_pos rfl] at H
    obtain rfl := Option.some.inj H
    go_wp2
    go_ret
    exact ⟨Z263,Z196⟩
   ·replace c23 := Bool.eq_false_iff.mpr c23
    subst c23
    rw [if_neg Bool.false_ne_true] at H
    have HC24 := Aside0.mk H
    clear H
    go_upto_region 4 with (fail)
    go_cut [27] (fun v27 wc => ∃ (kq : Nat) (x27_23 : Bool),v27 = .bool x27_23 ∧ Aside0 (impl_CompareWide.j1 kq x27_23 t540 t541 t542 t543 t544 t545 = some r) ∧ Aside0 (kq ≤ kj4) ∧ Aside0 (wc.heap[gb538]? = some (.cells #[.bool t540,.int .u64 t541,.int .u64 t542] 100 (0,0))) ∧ Aside0 (wc.heap[gb539]? = some (.cells #[.bool t543,.int .u64 t544,.int .u64 t545] 100 (0,0))) ∧ Aside0 (Below w.heap.size w wc))
    case first =>
     have H := HC24.out
     clear HC24
     by_cases c25 : t543 = true
     ·subst c25
      rw [if_pos rfl] at H
      have H' := Aside0.mk H
      clear H
      have hnb26 := NB539_538.out
      have hnc26 := NB538_539.out
      obtain ⟨hcz27_0,hcz27_1,hcz27_2,hfz27_0,hfz27_1,hfz27_2⟩ := cells3 BK539.out
      obtain ⟨hcz28_0,hcz28_1,hcz28_2,hfz28_0,hfz28_1,hfz28_2⟩ := cells3 BK538.out
      go_wp2
      go_meet
      case rel => exact ⟨_,(!t540),Z289,H',⟨Z287⟩,⟨Z292⟩,⟨Z295⟩,⟨Z196⟩⟩
     ·replace c25 := Bool.eq_false_iff.mpr c25
      subst c25
      rw [if_neg Bool.false_ne_true] at H
      have H' := Aside0.mk H
      clear H
      have hnb29 := NB539_538.out
      have hnc29 := NB538_539.out
      obtain ⟨hcz30_0,hcz30_1,hcz30_2,hfz30_0,hfz30_1,hfz30_2⟩ := cells3 BK539.out
      go_wp2
      go_meet
      case rel => exact ⟨_,(false),Z289,H',⟨Z287⟩,⟨Z292⟩,⟨Z295⟩,⟨Z196⟩⟩
    case rest =>
     clear HC24
     try clear c1
     try clear c2
     try clear p2
     try clear c12
     try clear c15
     try clear c17
     try clear c18
     try clear c21
     try clear c23
     try clear c25
     try clear c26
     try clear c29
     try clear hcz19_0
     try clear hcz19_1
     try clear hcz19_2
     try clear hcz20_0
     try clear hcz20_1
     try clear hcz20_2
     try clear hcz22_0
     try clear hcz22_1
     try clear hcz22_2
     try clear hcz27_0
     try clear hcz27_1
     try clear hcz27_2
     try clear hcz28_0
     try clear hcz28_1
     try clear hcz28_2
     try clear hcz30_0
     try clear hcz30_1
     try clear hcz30_2
     try clear hfz19_0
     try clear hfz19_1
     try clear hfz19_2
     try clear hfz20_0
     try clear hfz20_1
     try clear hfz20_2
     try clear hfz22_0
     try clear hfz22_1
     try clear hfz22_2
     try clear hfz27_0
     try clear hfz27_1
     try clear hfz27_2
     try clear hfz28_0
     try clear hfz28_1
     try clear hfz28_2
     try clear hfz30_0
     try clear hfz30_1
     try clear hfz30_2
     try clear p2
     obtain ⟨kq,x27_23,rfl,HA,HJ23,BK538,BK539,HB⟩ := hcut
     cases kq with
     | zero => exact absurd HA.out (by simp [impl_CompareWide.j1])
     | succ kj23 =>
      have H := HA.out
      clear HA
      simp only [impl_CompareWide.j1] at H
      by_cases c31 : x27_23 = true
      ·subst c31
       rw [if_pos rfl] at H
       obtain rfl := Option.some.inj H
       go_wp2
       go_ret
       exact ⟨Z263,Z196⟩
      ·replace c31 := Bool.eq_false_iff.mpr c31
       subst c31
       rw [if_neg Bool.false_ne_true] at H
       by_cases c32 : t540 = true
       ·subst c32
        rw [if_pos rfl] at H
        obtain ⟨t546,A330,H⟩ := Option.bind_eq_some_iff.mp H
        have A33 := Aside0.mk A330
        clear A330
        obtain rfl := Option.some.inj H
        have hnb34 := NB538_539.out
        have hnc34 := NB539_538.out
        obtain ⟨hcz35_0,hcz35_1,hcz35_2,hfz35_0,hfz35_1,hfz35_2⟩ := cells3 BK538.out
        obtain ⟨hcz36_0,hcz36_1,hcz36_2,hfz36_0,hfz36_1,hfz36_2⟩ := cells3 BK539.out
        go_wp2_with (first | ((with_reducible refine gate_callee (f := 154) rfl ?_);refine goesL_ (some 40) rfl rfl Try.func154 Z312 rfl #[.agg #[.bool t543,.int .u64 t544,.int .u64 t545],.agg #[.bool true,.int .u64 t541,.int .u64 t542]] rfl Z256 ?_;(with_reducible refine (impl_compareSizes.calls kj23 t543 t544 t545 true t541 t542 t546 _ A33.out).mono ?_);rintro e wq1 ⟨rfl,hb⟩;refine ⟨_,rfl,?_⟩;have n_ := jA (blk_below (g := gb538) (o := .cells #[.bool true,.int .u64 t541,.int .u64 t542] 100 (0,0)) Z292 hb) (jA (blk_below (g := gb539) (o := .cells #[.bool t543,.int .u64 t544,.int .u64 t545] 100 (0,0)) Z295 hb) (Aside0.mk (below_step Z196 hb)));clear BK538 BK539 HB;obtain ⟨BK538,BK539,HB⟩ := n_;(try clear hb);(try clear hb2);(try clear hk);(try clear hi)))
        go_ret
        exact ⟨Z263,Z196⟩
       ·replace c32 := Bool.eq_false_iff.mpr c32
        subst c32
        rw [if_neg Bool.false_ne_true] at H
        obtain ⟨t547,A380,H⟩ := Option.bind_eq_some_iff.mp H
        have A38 := Aside0.mk A380
        clear A380
        obtain rfl := Option.some.inj H
        have hnb39 := NB538_539.out
        have hnc39 := NB539_538.out
        obtain ⟨hcz40_0,hcz40_1,hcz40_2,hfz40_0,hfz40_1,hfz40_2⟩ := cells3 BK538.out
        obtain ⟨hcz41_0,hcz41_1,hcz41_2,hfz41_0,hfz41_1,hfz41_2⟩ := cells3 BK539.out
        go_wp2_with (first | ((with_reducible refine gate_callee (f := 154) rfl ?_);refine goesL_ (some 43) rfl rfl Try.func154 Z312 rfl #[.agg #[.bool false,.int .u64 t541,.int .u64 t542],.agg #[.bool t543,.int .u64 t544,.int .u64 t545]] rfl Z256 ?_;(with_reducible refine (impl_compareSizes.calls kj23 false t541 t542 t543 t544 t545 t547 _ A38.out).mono ?_);rintro e wq1 ⟨rfl,hb⟩;refine ⟨_,rfl,?_⟩;have n_ := jA (blk_below (g := gb538) (o := .cells #[.bool false,.int .u64 t541,.int .u64 t542] 100 (0,0)) Z292 hb) (jA (blk_below (g := gb539) (o := .cells #[.bool t543,.int .u64 t544,.int .u64 t545] 100 (0,0)) Z295 hb) (Aside0.mk (below_step Z196 hb)));clear BK538 BK539 HB;obtain ⟨BK538,BK539,HB⟩ := n_;(try clear hb);(try clear hb2);(try clear hk);(try clear hi)))
        go_ret
        exact ⟨Z263,Z196⟩

/-! ### impl_CompareFrac: function 90 -/
def impl_CompareFrac.f (k : Nat) (a0_0 : Bool) (a0_1 : Int) (a0_2 : Int) (a0_3 : Int) (a1_0 : Bool) (a1_1 : Int) (a1_2 : Int) (a1_3 : Int) : Option (Int × Bool) := (impl_crossed.f k a0_0 a0_1 a0_2 a0_3 a1_0 a1_1 a1_2 a1_3).bind fun bt550 => (if bt550.2.2.2.2.2.2 = true then ((impl_CompareWide.f k bt550.1 bt550.2.1 bt550.2.2.1 bt550.2.2.2.1 bt550.2.2.2.2.1 bt550.2.2.2.2.2.1).bind fun t559 => (some (t559,true))) else (some (0,false)))
theorem impl_CompareFrac.mono : ∀ a0 a1 a2 a3 a4 a5 a6 a7 k,LeO (impl_CompareFrac.f k a0 a1 a2 a3 a4 a5 a6 a7) (impl_CompareFrac.f (k + 1) a0 a1 a2 a3 a4 a5 a6 a7) := by
 intro a0 a1 a2 a3 a4 a5 a6 a7 k
 unfold impl_CompareFrac.f
 repeat' first
   | (with_reducible exact impl_CompareWide.mono _ _ _ _ _ _ _)
   | (with_reducible exact impl_crossed.mono _ _ _ _ _ _ _ _ _)
   | (with_reducible exact LeO.refl _)
   | (with_reducible exact LeO.none _)
   | (with_reducible refine LeO.ite ?_ ?_)
   | (with_reducible refine LeO.bind ?_ (fun _ => ?_))
   | exact impl_CompareWide.mono _ _ _ _ _ _ _
   | exact impl_crossed.mono _ _ _ _ _ _ _ _ _
   | exact LeO.none _
   | refine LeO.ite ?_ ?_
   | refine LeO.bind ?_ (fun _ => ?_)
set_option maxHeartbeats 8000000 in
set_option maxRecDepth 100000 in
theorem impl_CompareFrac.calls (k : Nat) (a0_0 : Bool) (a0_1 : Int) (a0_2 : Int) (a0_3 : Int) (a1_0 : Bool) (a1_1 : Int) (a1_2 : Int) (a1_3 : Int) (r1 : Int) (r2 : Bool) (w : World) (h : impl_CompareFrac.f k a0_0 a0_1 a0_2 a0_3 a1_0 a1_1 a1_2 a1_3 = some (r1,r2)) :
  Calls Try.prog 90 #[.agg #[.bool a0_0,.int .u64 a0_1,.int .u64 a0_2,.int .i64 a0_3],.agg #[.bool a1_0,.int .u64 a1_1,.int .u64 a1_2,.int .i64 a1_3]] w fun e w' => e = .returned (.tuple #[.int .i64 r1,.bool r2]) ∧ Below w.heap.size w w' := by
 have hu102 := Try.underlying102
 have hu100 := Try.underlying100
 have HB := Aside0.mk (Below.refl w.heap.size w)
 have H := h
 clear h
 unfold impl_CompareFrac.f at H
 obtain ⟨⟨t550,t551,t552,t553,t554,t555,t556⟩,A30,H⟩ := Option.bind_eq_some_iff.mp H
 try dsimp only at H
 have A3 := Aside0.mk A30
 clear A30
 by_cases c4 : t556 = true
 ·subst c4
  rw [if_pos rfl] at H
  obtain ⟨t559,A50,H⟩ := Option.bind_eq_some_iff.mp H
  have A5 := Aside0.mk A50
  clear A50
  simp only [Option.some.injEq,Prod.mk.injEq] at H
  obtain ⟨rfl,rfl⟩ := H
  go_enter Try.func90,Try.ntmps90
  go_wp2_with (first | ((with_reducible refine gate_dst (N := 2) rfl ?_);refine bE 2 #[.bool a0_0,.int .u64 a0_1,.int .u64 a0_2,.int .i64 a0_3] 102 (h := ?_);intro gb548 hg wq1 hbox hb;have n_ := Z122;clear HB;obtain ⟨HB,BK548,GW548,GE548⟩ := n_;clear hb hbox hg) | ((with_reducible refine gate_dst (N := 3) rfl ?_);refine bE 3 #[.bool a1_0,.int .u64 a1_1,.int .u64 a1_2,.int .i64 a1_3] 102 (h := ?_);intro gb549 hg wq2 hbox hb;have n_ := Z68;clear BK548 HB;obtain ⟨BK548,HB,BK549,GW549,GE549,NB548_549,NB549_548⟩ := n_;clear hb hbox hg;have hnbq3 := NB548_549.out;have hncq3 := NB549_548.out;obtain ⟨hczq4_0,hczq4_1,hczq4_2,hczq4_3,hfzq4_0,hfzq4_1,hfzq4_2,hfzq4_3⟩ := cells4 BK548.out;obtain ⟨hczq5_0,hczq5_1,hczq5_2,hczq5_3,hfzq5_0,hfzq5_1,hfzq5_2,hfzq5_3⟩ := cells4 BK549.out) | ((with_reducible refine gate_callee (f := 126) rfl ?_);refine goesL_ (some 12) rfl rfl Try.func126 Z312 rfl #[.agg #[.bool a0_0,.int .u64 a0_1,.int .u64 a0_2,.int .i64 a0_3],.agg #[.bool a1_0,.int .u64 a1_1,.int .u64 a1_2,.int .i64 a1_3]] rfl Z256 ?_;(with_reducible refine (impl_crossed.calls k a0_0 a0_1 a0_2 a0_3 a1_0 a1_1 a1_2 a1_3 t550 t551 t552 t553 t554 t555 true _ A3.out).mono ?_);rintro e wq6 ⟨rfl,hb⟩;refine ⟨_,rfl,?_⟩;have n_ := Z135;clear BK548 BK549 HB;obtain ⟨BK548,BK549,HB⟩ := n_;(try clear hb);(try clear hb2);(try clear hk);(try clear hi)) | ((with_reducible refine gate_dst (N := 6) rfl ?_);refine bE 6 #[.bool false,.int .u64 0,.int .u64 0] 100 (h := ?_);intro gb557 hg wq7 hbox hb;have n_ := Z40;clear BK548 BK549 HB;obtain ⟨BK548,BK549,HB,BK557,GW557,GE557,NB548_557,NB557_548,NB549_557,NB557_549⟩ := n_;clear hb hbox hg) | ((with_reducible refine gate_dst (N := 7) rfl ?_);refine bE 7 #[.bool false,.int .u64 0,.int .u64 0] 100 (h := ?_);intro gb558 hg wq8 hbox hb;have n_ := Z21;clear BK548 BK549 BK557 HB;obtain ⟨BK548,BK549,BK557,HB,BK558,GW558,GE558,NB548_558,NB558_548,NB549_558,NB558_549,NB557_558,NB558_557⟩ := n_;clear hb hbox hg;have hnbq9 := NB557_548.out;have hncq9 := NB548_557.out;have hnbq10 := NB557_549.out;have hncq10 := NB549_557.out;have hnbq11 := NB557_558.out;have hncq11 := NB558_557.out;obtain ⟨hczq12_0,hczq12_1,hczq12_2,hfzq12_0,hfzq12_1,hfzq12_2⟩ := cells3 BK557.out;have hnbq13 := NB558_548.out;have hncq13 := NB548_558.out;have hnbq14 := NB558_549.out;have hncq14 := NB549_558.out;obtain ⟨hczq15_0,hczq15_1,hczq15_2,hfzq15_0,hfzq15_1,hfzq15_2⟩ := cells3 BK558.out) | ((with_reducible refine gate_callee (f := 127) rfl ?_);refine goesL_ (some 20) rfl rfl Try.func127 Z312 rfl #[.agg #[.bool t550,.int .u64 t551,.int .u64 t552],.agg #[.bool t553,.int .u64 t554,.int .u64 t555]] rfl Z256 ?_;(with_reducible refine (impl_CompareWide.calls k t550 t551 t552 t553 t554 t555 t559 _ A5.out).mono ?_);rintro e wq16 ⟨rfl,hb⟩;refine ⟨_,rfl,?_⟩;have n_ := jA (blk_below (g := gb548) (o := .cells #[.bool a0_0,.int .u64 a0_1,.int .u64 a0_2,.int .i64 a0_3] 102 (0,0)) (by refine bP ?_;refine blk_far ?_ NB548_558.out _;refine bP ?_;refine blk_far ?_ NB548_558.out _;refine bP ?_;refine blk_far ?_ NB548_558.out _;refine bP ?_;refine blk_far ?_ NB548_557.out _;refine bP ?_;refine blk_far ?_ NB548_557.out _;refine bP ?_;refine blk_far ?_ NB548_557.out _;refine bP ?_;exact BK548.out) hb) (jA (blk_below (g := gb549) (o := .cells #[.bool a1_0,.int .u64 a1_1,.int .u64 a1_2,.int .i64 a1_3] 102 (0,0)) (by refine bP ?_;refine blk_far ?_ NB549_558.out _;refine bP ?_;refine blk_far ?_ NB549_558.out _;refine bP ?_;refine blk_far ?_ NB549_558.out _;refine bP ?_;refine blk_far ?_ NB549_557.out _;refine bP ?_;refine blk_far ?_ NB549_557.out _;refine bP ?_;refine blk_far ?_ NB549_557.out _;refine bP ?_;exact BK549.out) hb) (jA (blk_below (g := gb557) (o := .cells #[.bool t550,.int .u64 t551,.int .u64 t552] 100 (0,0)) (by refine bP ?_;refine blk_far ?_ NB557_558.out _;refine bP ?_;refine blk_far ?_ NB557_558.out _;refine bP ?_;refine blk_far ?_ NB557_558.out _;refine bP ?_;refine blk_put (cs := #[.bool t550,.int .u64 t551,.int .u64 0]) ?_ 2 _ rfl;refine bP ?_;refine blk_put (cs := #[.bool t550,.int .u64 0,.int .u64 0]) ?_ 1 _ rfl;refine bP ?_;refine blk_put (cs := #[.bool false,.int .u64 0,.int .u64 0]) ?_ 0 _ rfl;refine bP ?_;exact BK557.out) hb) (jA (blk_below (g := gb558) (o := .cells #[.bool t553,.int .u64 t554,.int .u64 t555] 100 (0,0)) (by refine bP ?_;refine blk_put (cs := #[.bool t553,.int .u64 t554,.int .u64 0]) ?_ 2 _ rfl;refine bP ?_;refine blk_put (cs := #[.bool t553,.int .u64 0,.int .u64 0]) ?_ 1 _ rfl;refine bP ?_;refine blk_put (cs := #[.bool false,.int .u64 0,.int .u64 0]) ?_ 0 _ rfl;refine bP ?_;refine blk_far ?_ NB558_557.out _;refine bP ?_;refine blk_far ?_ NB558_557.out _;refine bP ?_;refine blk_far ?_ NB558_557.out _;refine bP ?_;exact BK558.out) hb) (Aside0.mk (below_step Z170 hb)))));clear BK548 BK549 BK557 BK558 HB;obtain ⟨BK548,BK549,BK557,BK558,HB⟩ := n_;(try clear hb);(try clear hb2);(try clear hk);(try clear hi)))
  go_ret2
  exact ⟨Z263,Z170⟩
 ·replace c4 := Bool.eq_false_iff.mpr c4
  subst c4
  rw [if_neg Bool.false_ne_true] at H
  simp only [Option.some.injEq,Prod.mk.injEq] at H
  obtain ⟨rfl,rfl⟩ := H
  go_enter Try.func90,Try.ntmps90
  go_wp2_with (first | ((with_reducible refine gate_dst (N := 2) rfl ?_);refine bE 2 #[.bool a0_0,.int .u64 a0_1,.int .u64 a0_2,.int .i64 a0_3] 102 (h := ?_);intro gb548 hg wq1 hbox hb;have n_ := Z122;clear HB;obtain ⟨HB,BK548,GW548,GE548⟩ := n_;clear hb hbox hg) | ((with_reducible refine gate_dst (N := 3) rfl ?_);refine bE 3 #[.bool a1_0,.int .u64 a1_1,.int .u64 a1_2,.int .i64 a1_3] 102 (h := ?_);intro gb549 hg wq2 hbox hb;have n_ := Z68;clear BK548 HB;obtain ⟨BK548,HB,BK549,GW549,GE549,NB548_549,NB549_548⟩ := n_;clear hb hbox hg;have hnbq3 := NB548_549.out;have hncq3 := NB549_548.out;obtain ⟨hczq4_0,hczq4_1,hczq4_2,hczq4_3,hfzq4_0,hfzq4_1,hfzq4_2,hfzq4_3⟩ := cells4 BK548.out;obtain ⟨hczq5_0,hczq5_1,hczq5_2,hczq5_3,hfzq5_0,hfzq5_1,hfzq5_2,hfzq5_3⟩ := cells4 BK549.out) | ((with_reducible refine gate_callee (f := 126) rfl ?_);refine goesL_ (some 12) rfl rfl Try.func126 Z312 rfl #[.agg #[.bool a0_0,.int .u64 a0_1,.int .u64 a0_2,.int .i64 a0_3],.agg #[.bool a1_0,.int .u64 a1_1,.int .u64 a1_2,.int .i64 a1_3]] rfl Z256 ?_;(with_reducible refine (impl_crossed.calls k a0_0 a0_1 a0_2 a0_3 a1_0 a1_1 a1_2 a1_3 t550 t551 t552 t553 t554 t555 false _ A3.out).mono ?_);rintro e wq6 ⟨rfl,hb⟩;refine ⟨_,rfl,?_⟩;have n_ := Z135;clear BK548 BK549 HB;obtain ⟨BK548,BK549,HB⟩ := n_;(try clear hb);(try clear hb2);(try clear hk);(try clear hi)) | ((with_reducible refine gate_dst (N := 6) rfl ?_);refine bE 6 #[.bool false,.int .u64 0,.int .u64 0] 100 (h := ?_);intro gb557 hg wq7 hbox hb;have n_ := Z40;clear BK548 BK549 HB;obtain ⟨BK548,BK549,HB,BK557,GW557,GE557,NB548_557,NB557_548,NB549_557,NB557_549⟩ := n_;clear hb hbox hg) | ((with_reducible refine gate_dst (N := 7) rfl ?_);refine bE 7 #[.bool false,.int .u64 0,.int .u64 0] 100 (h := ?_);intro gb558 hg wq8 hbox hb;have n_ := Z21;clear BK548 BK549 BK557 HB;obtain ⟨BK548,BK549,BK557,HB,BK558,GW558,GE558,NB548_558,NB558_548,NB549_558,NB558_549,NB557_558,NB558_557⟩ := n_;clear hb hbox hg;have hnbq9 := NB557_548.out;have hncq9 := NB548_557.out;have hnbq10 := NB557_549.out;have hncq10 := NB549_557.out;have hnbq11 := NB557_558.out;have hncq11 := NB558_557.out;obtain ⟨hczq12_0,hczq12_1,hczq12_2,hfzq12_0,hfzq12_1,hfzq12_2⟩ := cells3 BK557.out;have hnbq13 := NB558_548.out;have hncq13 := NB548_558.out;have hnbq14 := NB558_549.out;have hncq14 := NB549_558.out;obtain ⟨hczq15_0,hczq15_1,hczq15_2,hfzq15_0,hfzq15_1,hfzq15_2⟩ := cells3 BK558.out))
  go_ret2
  exact ⟨Z263,Z170⟩

/-! ### impl_Improves: function 42 -/
def impl_Improves.f (k : Nat) (a0_0 : Int) (a0_1 : Int) (a0_2 : Int) (a0_3 : Int) (a0_4 : Int) (a0_5 : Int) (a1 : Int) : Option (Bool) := (impl_GainOf.f k a0_0 a0_1 a0_2 a0_3 a0_4 a0_5 a1).bind fun bt561 => ((impl_BothOf.f a0_0 a0_1 a0_2 a0_3 a0_4 a0_5).bind fun bt567 => ((impl_PlainGain.f bt567.1 bt567.2.1 a1).bind fun bt571 => ((impl_CompareFrac.f k bt561.1 bt561.2.1 bt561.2.2.1 bt561.2.2.2.1 bt571.1 bt571.2.1 bt571.2.2.1 bt571.2.2.2.1).bind fun bt577 => (if bt561.2.2.2.2 = true then (if bt567.2.2 = true then (if bt571.2.2.2.2 = true then (if bt577.2 = true then (some (decide (bt577.1 > 0))) else (some false)) else (some false)) else (some false)) else (some false)))))
theorem impl_Improves.mono : ∀ a0 a1 a2 a3 a4 a5 a6 k,LeO (impl_Improves.f k a0 a1 a2 a3 a4 a5 a6) (impl_Improves.f (k + 1) a0 a1 a2 a3 a4 a5 a6) := by
 intro a0 a1 a2 a3 a4 a5 a6 k
 unfold impl_Improves.f
 repeat' first
   | (with_reducible exact impl_CompareFrac.mono _ _ _ _ _ _ _ _ _)
   | (with_reducible exact impl_GainOf.mono _ _ _ _ _ _ _ _)
   | (with_reducible exact LeO.refl _)
   | (with_reducible exact LeO.none _)
   | (with_reducible refine LeO.ite ?_ ?_)
   | (with_reducible refine LeO.bind ?_ (fun _ => ?_))
   | exact impl_CompareFrac.mono _ _ _ _ _ _ _ _ _
   | exact impl_GainOf.mono _ _ _ _ _ _ _ _
   | exact LeO.none _
   | refine LeO.ite ?_ ?_
   | refine LeO.bind ?_ (fun _ => ?_)
set_option maxHeartbeats 8000000 in
set_option maxRecDepth 100000 in
theorem impl_Improves.calls (k : Nat) (a0_0 : Int) (a0_1 : Int) (a0_2 : Int) (a0_3 : Int) (a0_4 : Int) (a0_5 : Int) (a1 : Int) (r : Bool) (w : World) (h : impl_Improves.f k a0_0 a0_1 a0_2 a0_3 a0_4 a0_5 a1 = some r) :
  Calls Try.prog 42 #[.agg #[.int .i64 a0_0,.int .i64 a0_1,.int .i64 a0_2,.int .i64 a0_3,.int .i64 a0_4,.int .i64 a0_5],.int .i64 a1] w fun e w' => e = .returned (.bool r) ∧ Below w.heap.size w w' := by
 have hu39 := Try.underlying39
 have hu102 := Try.underlying102
 have hu37 := Try.underlying37
 have HB := Aside0.mk (Below.refl w.heap.size w)
 have H := h
 clear h
 unfold impl_Improves.f at H
 obtain ⟨⟨t561,t562,t563,t564,t565⟩,A30,H⟩ := Option.bind_eq_some_iff.mp H
 try dsimp only at H
 have A3 := Aside0.mk A30
 clear A30
 obtain ⟨⟨t567,t568,t569⟩,A40,H⟩ := Option.bind_eq_some_iff.mp H
 try dsimp only at H
 have A4 := Aside0.mk A40
 clear A40
 obtain ⟨⟨t571,t572,t573,t574,t575⟩,A50,H⟩ := Option.bind_eq_some_iff.mp H
 try dsimp only at H
 have A5 := Aside0.mk A50
 clear A50
 obtain ⟨⟨t577,t578⟩,A60,H⟩ := Option.bind_eq_some_iff.mp H
 try dsimp only at H
 have A6 := Aside0.mk A60
 clear A60
 by_cases c7 : t565 = true
 ·subst c7
  rw [if_pos rfl] at H
  by_cases c8 : t569 = true
  ·subst c8
   rw [if_pos rfl] at H
   by_cases c9 : t575 = true
   ·subst c9
    rw [if_pos rfl] at H
    by_cases c10 : t578 = true
    ·subst c10
     rw [if_pos rfl] at H
     obtain rfl := Option.some.inj H
     go_enter Try.func42,Try.ntmps42
     go_wp2_with (first | ((with_reducible refine gate_dst (N := 2) rfl ?_);refine bE 2 #[.int .i64 a0_0,.int .i64 a0_1,.int .i64 a0_2,.int .i64 a0_3,.int .i64 a0_4,.int .i64 a0_5] 39 (h := ?_);intro gb560 hg wq1 hbox hb;have n_ := Z103;clear HB;obtain ⟨HB,BK560,GW560,GE560⟩ := n_;clear hb hbox hg;obtain ⟨hczq2_0,hczq2_1,hczq2_2,hczq2_3,hczq2_4,hczq2_5,hfzq2_0,hfzq2_1,hfzq2_2,hfzq2_3,hfzq2_4,hfzq2_5⟩ := cells6 BK560.out) | ((with_reducible refine gate_callee (f := 87) rfl ?_);refine goesL_ (some 16) rfl rfl Try.func87 Z312 rfl #[.agg #[.int .i64 a0_0,.int .i64 a0_1,.int .i64 a0_2,.int .i64 a0_3,.int .i64 a0_4,.int .i64 a0_5],.int .i64 a1] rfl Z256 ?_;(with_reducible refine (impl_GainOf.calls k a0_0 a0_1 a0_2 a0_3 a0_4 a0_5 a1 t561 t562 t563 t564 true _ A3.out).mono ?_);rintro e wq3 ⟨rfl,hb⟩;refine ⟨_,rfl,?_⟩;have n_ := Z147;clear BK560 HB;obtain ⟨BK560,HB⟩ := n_;(try clear hb);(try clear hb2);(try clear hk);(try clear hi)) | ((with_reducible refine gate_dst (N := 5) rfl ?_);refine bE 5 #[.bool false,.int .u64 0,.int .u64 0,.int .i64 0] 102 (h := ?_);intro gb566 hg wq4 hbox hb;have n_ := Z62;clear BK560 HB;obtain ⟨BK560,HB,BK566,GW566,GE566,NB560_566,NB566_560⟩ := n_;clear hb hbox hg;have hnbq5 := NB566_560.out;have hncq5 := NB560_566.out;obtain ⟨hczq6_0,hczq6_1,hczq6_2,hczq6_3,hfzq6_0,hfzq6_1,hfzq6_2,hfzq6_3⟩ := cells4 BK566.out;obtain ⟨hczq7_0,hczq7_1,hczq7_2,hczq7_3,hczq7_4,hczq7_5,hfzq7_0,hfzq7_1,hfzq7_2,hfzq7_3,hfzq7_4,hfzq7_5⟩ := cells6 BK560.out) | ((with_reducible refine gate_callee (f := 88) rfl ?_);refine goesL_ (some 21) rfl rfl Try.func88 Z312 rfl #[.agg #[.int .i64 a0_0,.int .i64 a0_1,.int .i64 a0_2,.int .i64 a0_3,.int .i64 a0_4,.int .i64 a0_5]] rfl Z256 ?_;(with_reducible refine (impl_BothOf.calls a0_0 a0_1 a0_2 a0_3 a0_4 a0_5 t567 t568 true _ A4.out).mono ?_);rintro e wq8 ⟨rfl,hb⟩;refine ⟨_,rfl,?_⟩;have n_ := Z75;clear BK560 BK566 HB;obtain ⟨BK560,BK566,HB⟩ := n_;(try clear hb);(try clear hb2);(try clear hk);(try clear hi)) | ((with_reducible refine gate_dst (N := 7) rfl ?_);refine bE 7 #[.int .i64 0,.int .i64 0] 37 (h := ?_);intro gb570 hg wq9 hbox hb;have n_ := Z31;clear BK560 BK566 HB;obtain ⟨BK560,BK566,HB,BK570,GW570,GE570,NB560_570,NB570_560,NB566_570,NB570_566⟩ := n_;clear hb hbox hg;have hnbq10 := NB570_560.out;have hncq10 := NB560_570.out;have hnbq11 := NB570_566.out;have hncq11 := NB566_570.out;obtain ⟨hczq12_0,hczq12_1,hfzq12_0,hfzq12_1⟩ := cells2 BK570.out) | ((with_reducible refine gate_callee (f := 89) rfl ?_);refine goesL_ (some 27) rfl rfl Try.func89 Z312 rfl #[.agg #[.int .i64 t567,.int .i64 t568],.int .i64 a1] rfl Z256 ?_;(with_reducible refine (impl_PlainGain.calls t567 t568 a1 t571 t572 t573 t574 true _ A5.out).mono ?_);rintro e wq13 ⟨rfl,hb⟩;refine ⟨_,rfl,?_⟩;have n_ := Z81;clear BK560 BK566 BK570 HB;obtain ⟨BK560,BK566,BK570,HB⟩ := n_;(try clear hb);(try clear hb2);(try clear hk);(try clear hi)) | ((with_reducible refine gate_dst (N := 9) rfl ?_);refine bE 9 #[.bool false,.int .u64 0,.int .u64 0,.int .i64 0] 102 (h := ?_);intro gb576 hg wq14 hbox hb;have n_ := Z17;clear BK560 BK566 BK570 HB;obtain ⟨BK560,BK566,BK570,HB,BK576,GW576,GE576,NB560_576,NB576_560,NB566_576,NB576_566,NB570_576,NB576_570⟩ := n_;clear hb hbox hg;have hnbq15 := NB576_560.out;have hncq15 := NB560_576.out;have hnbq16 := NB576_566.out;have hncq16 := NB566_576.out;have hnbq17 := NB576_570.out;have hncq17 := NB570_576.out;obtain ⟨hczq18_0,hczq18_1,hczq18_2,hczq18_3,hfzq18_0,hfzq18_1,hfzq18_2,hfzq18_3⟩ := cells4 BK576.out;obtain ⟨hczq19_0,hczq19_1,hczq19_2,hczq19_3,hfzq19_0,hfzq19_1,hfzq19_2,hfzq19_3⟩ := cells4 BK566.out) | ((with_reducible refine gate_callee (f := 90) rfl ?_);refine goesL_ (some 33) rfl rfl Try.func90 Z312 rfl #[.agg #[.bool t561,.int .u64 t562,.int .u64 t563,.int .i64 t564],.agg #[.bool t571,.int .u64 t572,.int .u64 t573,.int .i64 t574]] rfl Z256 ?_;(with_reducible refine (impl_CompareFrac.calls k t561 t562 t563 t564 t571 t572 t573 t574 t577 true _ A6.out).mono ?_);rintro e wq20 ⟨rfl,hb⟩;refine ⟨_,rfl,?_⟩;have n_ := Z36;clear BK560 BK566 BK570 BK576 HB;obtain ⟨BK560,BK566,BK570,BK576,HB⟩ := n_;(try clear hb);(try clear hb2);(try clear hk);(try clear hi)))
     go_ret
     exact ⟨Z263,Z329⟩
    ·replace c10 := Bool.eq_false_iff.mpr c10
     subst c10
     rw [if_neg Bool.false_ne_true] at H
     obtain rfl := Option.some.inj H
     go_enter Try.func42,Try.ntmps42
     go_wp2_with (first | ((with_reducible refine gate_dst (N := 2) rfl ?_);refine bE 2 #[.int .i64 a0_0,.int .i64 a0_1,.int .i64 a0_2,.int .i64 a0_3,.int .i64 a0_4,.int .i64 a0_5] 39 (h := ?_);intro gb560 hg wq1 hbox hb;have n_ := Z103;clear HB;obtain ⟨HB,BK560,GW560,GE560⟩ := n_;clear hb hbox hg;obtain ⟨hczq2_0,hczq2_1,hczq2_2,hczq2_3,hczq2_4,hczq2_5,hfzq2_0,hfzq2_1,hfzq2_2,hfzq2_3,hfzq2_4,hfzq2_5⟩ := cells6 BK560.out) | ((with_reducible refine gate_callee (f := 87) rfl ?_);refine goesL_ (some 16) rfl rfl Try.func87 Z312 rfl #[.agg #[.int .i64 a0_0,.int .i64 a0_1,.int .i64 a0_2,.int .i64 a0_3,.int .i64 a0_4,.int .i64 a0_5],.int .i64 a1] rfl Z256 ?_;(with_reducible refine (impl_GainOf.calls k a0_0 a0_1 a0_2 a0_3 a0_4 a0_5 a1 t561 t562 t563 t564 true _ A3.out).mono ?_);rintro e wq3 ⟨rfl,hb⟩;refine ⟨_,rfl,?_⟩;have n_ := Z147;clear BK560 HB;obtain ⟨BK560,HB⟩ := n_;(try clear hb);(try clear hb2);(try clear hk);(try clear hi)) | ((with_reducible refine gate_dst (N := 5) rfl ?_);refine bE 5 #[.bool false,.int .u64 0,.int .u64 0,.int .i64 0] 102 (h := ?_);intro gb566 hg wq4 hbox hb;have n_ := Z62;clear BK560 HB;obtain ⟨BK560,HB,BK566,GW566,GE566,NB560_566,NB566_560⟩ := n_;clear hb hbox hg;have hnbq5 := NB566_560.out;have hncq5 := NB560_566.out;obtain ⟨hczq6_0,hczq6_1,hczq6_2,hczq6_3,hfzq6_0,hfzq6_1,hfzq6_2,hfzq6_3⟩ := cells4 BK566.out;obtain ⟨hczq7_0,hczq7_1,hczq7_2,hczq7_3,hczq7_4,hczq7_5,hfzq7_0,hfzq7_1,hfzq7_2,hfzq7_3,hfzq7_4,hfzq7_5⟩ := cells6 BK560.out) | ((with_reducible refine gate_callee (f := 88) rfl ?_);refine goesL_ (some 21) rfl rfl Try.func88 Z312 rfl #[.agg #[.int .i64 a0_0,.int .i64 a0_1,.int .i64 a0_2,.int .i64 a0_3,.int .i64 a0_4,.int .i64 a0_5]] rfl Z256 ?_;(with_reducible refine (impl_BothOf.calls a0_0 a0_1 a0_2 a0_3 a0_4 a0_5 t567 t568 true _ A4.out).mono ?_);rintro e wq8 ⟨rfl,hb⟩;refine ⟨_,rfl,?_⟩;have n_ := Z75;clear BK560 BK566 HB;obtain ⟨BK560,BK566,HB⟩ := n_;(try clear hb);(try clear hb2);(try clear hk);(try clear hi)) | ((with_reducible refine gate_dst (N := 7) rfl ?_);refine bE 7 #[.int .i64 0,.int .i64 0] 37 (h := ?_);intro gb570 hg wq9 hbox hb;have n_ := Z31;clear BK560 BK566 HB;obtain ⟨BK560,BK566,HB,BK570,GW570,GE570,NB560_570,NB570_560,NB566_570,NB570_566⟩ := n_;clear hb hbox hg;have hnbq10 := NB570_560.out;have hncq10 := NB560_570.out;have hnbq11 := NB570_566.out;have hncq11 := NB566_570.out;obtain ⟨hczq12_0,hczq12_1,hfzq12_0,hfzq12_1⟩ := cells2 BK570.out) | ((with_reducible refine gate_callee (f := 89) rfl ?_);refine goesL_ (some 27) rfl rfl Try.func89 Z312 rfl #[.agg #[.int .i64 t567,.int .i64 t568],.int .i64 a1] rfl Z256 ?_;(with_reducible refine (impl_PlainGain.calls t567 t568 a1 t571 t572 t573 t574 true _ A5.out).mono ?_);rintro e wq13 ⟨rfl,hb⟩;refine ⟨_,rfl,?_⟩;have n_ := Z81;clear BK560 BK566 BK570 HB;obtain ⟨BK560,BK566,BK570,HB⟩ := n_;(try clear hb);(try clear hb2);(try clear hk);(try clear hi)) | ((with_reducible refine gate_dst (N := 9) rfl ?_);refine bE 9 #[.bool false,.int .u64 0,.int .u64 0,.int .i64 0] 102 (h := ?_);intro gb576 hg wq14 hbox hb;have n_ := Z17;clear BK560 BK566 BK570 HB;obtain ⟨BK560,BK566,BK570,HB,BK576,GW576,GE576,NB560_576,NB576_560,NB566_576,NB576_566,NB570_576,NB576_570⟩ := n_;clear hb hbox hg;have hnbq15 := NB576_560.out;have hncq15 := NB560_576.out;have hnbq16 := NB576_566.out;have hncq16 := NB566_576.out;have hnbq17 := NB576_570.out;have hncq17 := NB570_576.out;obtain ⟨hczq18_0,hczq18_1,hczq18_2,hczq18_3,hfzq18_0,hfzq18_1,hfzq18_2,hfzq18_3⟩ := cells4 BK576.out;obtain ⟨hczq19_0,hczq19_1,hczq19_2,hczq19_3,hfzq19_0,hfzq19_1,hfzq19_2,hfzq19_3⟩ := cells4 BK566.out) | ((with_reducible refine gate_callee (f := 90) rfl ?_);refine goesL_ (some 33) rfl rfl Try.func90 Z312 rfl #[.agg #[.bool t561,.int .u64 t562,.int .u64 t563,.int .i64 t564],.agg #[.bool t571,.int .u64 t572,.int .u64 t573,.int .i64 t574]] rfl Z256 ?_;(with_reducible refine (impl_CompareFrac.calls k t561 t562 t563 t564 t571 t572 t573 t574 t577 false _ A6.out).mono ?_);rintro e wq20 ⟨rfl,hb⟩;refine ⟨_,rfl,?_⟩;have n_ := Z36;clear BK560 BK566 BK570 BK576 HB;obtain ⟨BK560,BK566,BK570,BK576,HB⟩ := n_;(try clear hb);(try clear hb2);(try clear hk);(try clear hi)))
     go_ret
     exact ⟨Z263,Z329⟩
   ·replace c9 := Bool.eq_false_iff.mpr c9
    subst c9
    rw [if_neg Bool.false_ne_true] at H
    obtain rfl := Option.some.inj H
    go_enter Try.func42,Try.ntmps42
    go_wp2_with (first | ((with_reducible refine gate_dst (N := 2) rfl ?_);refine bE 2 #[.int .i64 a0_0,.int .i64 a0_1,.int .i64 a0_2,.int .i64 a0_3,.int .i64 a0_4,.int .i64 a0_5] 39 (h := ?_);intro gb560 hg wq1 hbox hb;have n_ := Z103;clear HB;obtain ⟨HB,BK560,GW560,GE560⟩ := n_;clear hb hbox hg;obtain ⟨hczq2_0,hczq2_1,hczq2_2,hczq2_3,hczq2_4,hczq2_5,hfzq2_0,hfzq2_1,hfzq2_2,hfzq2_3,hfzq2_4,hfzq2_5⟩ := cells6 BK560.out) | ((with_reducible refine gate_callee (f := 87) rfl ?_);refine goesL_ (some 16) rfl rfl Try.func87 Z312 rfl #[.agg #[.int .i64 a0_0,.int .i64 a0_1,.int .i64 a0_2,.int .i64 a0_3,.int .i64 a0_4,.int .i64 a0_5],.int .i64 a1] rfl Z256 ?_;(with_reducible refine (impl_GainOf.calls k a0_0 a0_1 a0_2 a0_3 a0_4 a0_5 a1 t561 t562 t563 t564 true _ A3.out).mono ?_);rintro e wq3 ⟨rfl,hb⟩;refine ⟨_,rfl,?_⟩;have n_ := Z147;clear BK560 HB;obtain ⟨BK560,HB⟩ := n_;(try clear hb);(try clear hb2);(try clear hk);(try clear hi)) | ((with_reducible refine gate_dst (N := 5) rfl ?_);refine bE 5 #[.bool false,.int .u64 0,.int .u64 0,.int .i64 0] 102 (h := ?_);intro gb566 hg wq4 hbox hb;have n_ := Z62;clear BK560 HB;obtain ⟨BK560,HB,BK566,GW566,GE566,NB560_566,NB566_560⟩ := n_;clear hb hbox hg;have hnbq5 := NB566_560.out;have hncq5 := NB560_566.out;obtain ⟨hczq6_0,hczq6_1,hczq6_2,hczq6_3,hfzq6_0,hfzq6_1,hfzq6_2,hfzq6_3⟩ := cells4 BK566.out;obtain ⟨hczq7_0,hczq7_1,hczq7_2,hczq7_3,hczq7_4,hczq7_5,hfzq7_0,hfzq7_1,hfzq7_2,hfzq7_3,hfzq7_4,hfzq7_5⟩ := cells6 BK560.out) | ((with_reducible refine gate_callee (f := 88) rfl ?_);refine goesL_ (some 21) rfl rfl Try.func88 Z312 rfl #[.agg #[.int .i64 a0_0,.int .i64 a0_1,.int .i64 a0_2,.int .i64 a0_3,.int .i64 a0_4,.int .i64 a0_5]] rfl Z256 ?_;(with_reducible refine (impl_BothOf.calls a0_0 a0_1 a0_2 a0_3 a0_4 a0_5 t567 t568 true _ A4.out).mono ?_);rintro e wq8 ⟨rfl,hb⟩;refine ⟨_,rfl,?_⟩;have n_ := Z75;clear BK560 BK566 HB;obtain ⟨BK560,BK566,HB⟩ := n_;(try clear hb);(try clear hb2);(try clear hk);(try clear hi)) | ((with_reducible refine gate_dst (N := 7) rfl ?_);refine bE 7 #[.int .i64 0,.int .i64 0] 37 (h := ?_);intro gb570 hg wq9 hbox hb;have n_ := Z31;clear BK560 BK566 HB;obtain ⟨BK560,BK566,HB,BK570,GW570,GE570,NB560_570,NB570_560,NB566_570,NB570_566⟩ := n_;clear hb hbox hg;have hnbq10 := NB570_560.out;have hncq10 := NB560_570.out;have hnbq11 := NB570_566.out;have hncq11 := NB566_570.out;obtain ⟨hczq12_0,hczq12_1,hfzq12_0,hfzq12_1⟩ := cells2 BK570.out) | ((with_reducible refine gate_callee (f := 89) rfl ?_);refine goesL_ (some 27) rfl rfl Try.func89 Z312 rfl #[.agg #[.int .i64 t567,.int .i64 t568],.int .i64 a1] rfl Z256 ?_;(with_reducible refine (impl_PlainGain.calls t567 t568 a1 t571 t572 t573 t574 false _ A5.out).mono ?_);rintro e wq13 ⟨rfl,hb⟩;refine ⟨_,rfl,?_⟩;have n_ := Z81;clear BK560 BK566 BK570 HB;obtain ⟨BK560,BK566,BK570,HB⟩ := n_;(try clear hb);(try clear hb2);(try clear hk);(try clear hi)) | ((with_reducible refine gate_dst (N := 9) rfl ?_);refine bE 9 #[.bool false,.int .u64 0,.int .u64 0,.int .i64 0] 102 (h := ?_);intro gb576 hg wq14 hbox hb;have n_ := Z17;clear BK560 BK566 BK570 HB;obtain ⟨BK560,BK566,BK570,HB,BK576,GW576,GE576,NB560_576,NB576_560,NB566_576,NB576_566,NB570_576,NB576_570⟩ := n_;clear hb hbox hg;have hnbq15 := NB576_560.out;have hncq15 := NB560_576.out;have hnbq16 := NB576_566.out;have hncq16 := NB566_576.out;have hnbq17 := NB576_570.out;have hncq17 := NB570_576.out;obtain ⟨hczq18_0,hczq18_1,hczq18_2,hczq18_3,hfzq18_0,hfzq18_1,hfzq18_2,hfzq18_3⟩ := cells4 BK576.out;obtain ⟨hczq19_0,hczq19_1,hczq19_2,hczq19_3,hfzq19_0,hfzq19_1,hfzq19_2,hfzq19_3⟩ := cells4 BK566.out) | ((with_reducible refine gate_callee (f := 90) rfl ?_);refine goesL_ (some 33) rfl rfl Try.func90 Z312 rfl #[.agg #[.bool t561,.int .u64 t562,.int .u64 t563,.int .i64 t564],.agg #[.bool t571,.int .u64 t572,.int .u64 t573,.int .i64 t574]] rfl Z256 ?_;(with_reducible refine (impl_CompareFrac.calls k t561 t562 t563 t564 t571 t572 t573 t574 t577 t578 _ A6.out).mono ?_);rintro e wq20 ⟨rfl,hb⟩;refine ⟨_,rfl,?_⟩;have n_ := Z36;clear BK560 BK566 BK570 BK576 HB;obtain ⟨BK560,BK566,BK570,BK576,HB⟩ := n_;(try clear hb);(try clear hb2);(try clear hk);(try clear hi)))
    go_ret
    exact ⟨Z263,Z329⟩
  ·replace c8 := Bool.eq_false_iff.mpr c8
   subst c8
   rw [if_neg Bool.false_ne_true] at H
   obtain rfl := Option.some.inj H
   go_enter Try.func42,Try.ntmps42
   go_wp2_with (first | ((with_reducible refine gate_dst (N := 2) rfl ?_);refine bE 2 #[.int .i64 a0_0,.int .i64 a0_1,.int .i64 a0_2,.int .i64 a0_3,.int .i64 a0_4,.int .i64 a0_5] 39 (h := ?_);intro gb560 hg wq1 hbox hb;have n_ := Z103;clear HB;obtain ⟨HB,BK560,GW560,GE560⟩ := n_;clear hb hbox hg;obtain ⟨hczq2_0,hczq2_1,hczq2_2,hczq2_3,hczq2_4,hczq2_5,hfzq2_0,hfzq2_1,hfzq2_2,hfzq2_3,hfzq2_4,hfzq2_5⟩ := cells6 BK560.out) | ((with_reducible refine gate_callee (f := 87) rfl ?_);refine goesL_ (some 16) rfl rfl Try.func87 Z312 rfl #[.agg #[.int .i64 a0_0,.int .i64 a0_1,.int .i64 a0_2,.int .i64 a0_3,.int .i64 a0_4,.int .i64 a0_5],.int .i64 a1] rfl Z256 ?_;(with_reducible refine (impl_GainOf.calls k a0_0 a0_1 a0_2 a0_3 a0_4 a0_5 a1 t561 t562 t563 t564 true _ A3.out).mono ?_);rintro e wq3 ⟨rfl,hb⟩;refine ⟨_,rfl,?_⟩;have n_ := Z147;clear BK560 HB;obtain ⟨BK560,HB⟩ := n_;(try clear hb);(try clear hb2);(try clear hk);(try clear hi)) | ((with_reducible refine gate_dst (N := 5) rfl ?_);refine bE 5 #[.bool false,.int .u64 0,.int .u64 0,.int .i64 0] 102 (h := ?_);intro gb566 hg wq4 hbox hb;have n_ := Z62;clear BK560 HB;obtain ⟨BK560,HB,BK566,GW566,GE566,NB560_566,NB566_560⟩ := n_;clear hb hbox hg;have hnbq5 := NB566_560.out;have hncq5 := NB560_566.out;obtain ⟨hczq6_0,hczq6_1,hczq6_2,hczq6_3,hfzq6_0,hfzq6_1,hfzq6_2,hfzq6_3⟩ := cells4 BK566.out;obtain ⟨hczq7_0,hczq7_1,hczq7_2,hczq7_3,hczq7_4,hczq7_5,hfzq7_0,hfzq7_1,hfzq7_2,hfzq7_3,hfzq7_4,hfzq7_5⟩ := cells6 BK560.out) | ((with_reducible refine gate_callee (f := 88) rfl ?_);refine goesL_ (some 21) rfl rfl Try.func88 Z312 rfl #[.agg #[.int .i64 a0_0,.int .i64 a0_1,.int .i64 a0_2,.int .i64 a0_3,.int .i64 a0_4,.int .i64 a0_5]] rfl Z256 ?_;(with_reducible refine (impl_BothOf.calls a0_0 a0_1 a0_2 a0_3 a0_4 a0_5 t567 t568 false _ A4.out).mono ?_);rintro e wq8 ⟨rfl,hb⟩;refine ⟨_,rfl,?_⟩;have n_ := Z75;clear BK560 BK566 HB;obtain ⟨BK560,BK566,HB⟩ := n_;(try clear hb);(try clear hb2);(try clear hk);(try clear hi)) | ((with_reducible refine gate_dst (N := 7) rfl ?_);refine bE 7 #[.int .i64 0,.int .i64 0] 37 (h := ?_);intro gb570 hg wq9 hbox hb;have n_ := Z31;clear BK560 BK566 HB;obtain ⟨BK560,BK566,HB,BK570,GW570,GE570,NB560_570,NB570_560,NB566_570,NB570_566⟩ := n_;clear hb hbox hg;have hnbq10 := NB570_560.out;have hncq10 := NB560_570.out;have hnbq11 := NB570_566.out;have hncq11 := NB566_570.out;obtain ⟨hczq12_0,hczq12_1,hfzq12_0,hfzq12_1⟩ := cells2 BK570.out) | ((with_reducible refine gate_callee (f := 89) rfl ?_);refine goesL_ (some 27) rfl rfl Try.func89 Z312 rfl #[.agg #[.int .i64 t567,.int .i64 t568],.int .i64 a1] rfl Z256 ?_;(with_reducible refine (impl_PlainGain.calls t567 t568 a1 t571 t572 t573 t574 t575 _ A5.out).mono ?_);rintro e wq13 ⟨rfl,hb⟩;refine ⟨_,rfl,?_⟩;have n_ := Z81;clear BK560 BK566 BK570 HB;obtain ⟨BK560,BK566,BK570,HB⟩ := n_;(try clear hb);(try clear hb2);(try clear hk);(try clear hi)) | ((with_reducible refine gate_dst (N := 9) rfl ?_);refine bE 9 #[.bool false,.int .u64 0,.int .u64 0,.int .i64 0] 102 (h := ?_);intro gb576 hg wq14 hbox hb;have n_ := Z17;clear BK560 BK566 BK570 HB;obtain ⟨BK560,BK566,BK570,HB,BK576,GW576,GE576,NB560_576,NB576_560,NB566_576,NB576_566,NB570_576,NB576_570⟩ := n_;clear hb hbox hg;have hnbq15 := NB576_560.out;have hncq15 := NB560_576.out;have hnbq16 := NB576_566.out;have hncq16 := NB566_576.out;have hnbq17 := NB576_570.out;have hncq17 := NB570_576.out;obtain ⟨hczq18_0,hczq18_1,hczq18_2,hczq18_3,hfzq18_0,hfzq18_1,hfzq18_2,hfzq18_3⟩ := cells4 BK576.out;obtain ⟨hczq19_0,hczq19_1,hczq19_2,hczq19_3,hfzq19_0,hfzq19_1,hfzq19_2,hfzq19_3⟩ := cells4 BK566.out) | ((with_reducible refine gate_callee (f := 90) rfl ?_);refine goesL_ (some 33) rfl rfl Try.func90 Z312 rfl #[.agg #[.bool t561,.int .u64 t562,.int .u64 t563,.int .i64 t564],.agg #[.bool t571,.int .u64 t572,.int .u64 t573,.int .i64 t574]] rfl Z256 ?_;(with_reducible refine (impl_CompareFrac.calls k t561 t562 t563 t564 t571 t572 t573 t574 t577 t578 _ A6.out).mono ?_);rintro e wq20 ⟨rfl,hb⟩;refine ⟨_,rfl,?_⟩;have n_ := Z36;clear BK560 BK566 BK570 BK576 HB;obtain ⟨BK560,BK566,BK570,BK576,HB⟩ := n_;(try clear hb);(try clear hb2);(try clear hk);(try clear hi)))
   go_ret
   exact ⟨Z263,Z329⟩
 ·replace c7 := Bool.eq_false_iff.mpr c7
  subst c7
  rw [if_neg Bool.false_ne_true] at H
  obtain rfl := Option.some.inj H
  go_enter Try.func42,Try.ntmps42
  go_wp2_with (first | ((with_reducible refine gate_dst (N := 2) rfl ?_);refine bE 2 #[.int .i64 a0_0,.int .i64 a0_1,.int .i64 a0_2,.int .i64 a0_3,.int .i64 a0_4,.int .i64 a0_5] 39 (h := ?_);intro gb560 hg wq1 hbox hb;have n_ := Z103;clear HB;obtain ⟨HB,BK560,GW560,GE560⟩ := n_;clear hb hbox hg;obtain ⟨hczq2_0,hczq2_1,hczq2_2,hczq2_3,hczq2_4,hczq2_5,hfzq2_0,hfzq2_1,hfzq2_2,hfzq2_3,hfzq2_4,hfzq2_5⟩ := cells6 BK560.out) | ((with_reducible refine gate_callee (f := 87) rfl ?_);refine goesL_ (some 16) rfl rfl Try.func87 Z312 rfl #[.agg #[.int .i64 a0_0,.int .i64 a0_1,.int .i64 a0_2,.int .i64 a0_3,.int .i64 a0_4,.int .i64 a0_5],.int .i64 a1] rfl Z256 ?_;(with_reducible refine (impl_GainOf.calls k a0_0 a0_1 a0_2 a0_3 a0_4 a0_5 a1 t561 t562 t563 t564 false _ A3.out).mono ?_);rintro e wq3 ⟨rfl,hb⟩;refine ⟨_,rfl,?_⟩;have n_ := Z147;clear BK560 HB;obtain ⟨BK560,HB⟩ := n_;(try clear hb);(try clear hb2);(try clear hk);(try clear hi)) | ((with_reducible refine gate_dst (N := 5) rfl ?_);refine bE 5 #[.bool false,.int .u64 0,.int .u64 0,.int .i64 0] 102 (h := ?_);intro gb566 hg wq4 hbox hb;have n_ := Z62;clear BK560 HB;obtain ⟨BK560,HB,BK566,GW566,GE566,NB560_566,NB566_560⟩ := n_;clear hb hbox hg;have hnbq5 := NB566_560.out;have hncq5 := NB560_566.out;obtain ⟨hczq6_0,hczq6_1,hczq6_2,hczq6_3,hfzq6_0,hfzq6_1,hfzq6_2,hfzq6_3⟩ := cells4 BK566.out;obtain ⟨hczq7_0,hczq7_1,hczq7_2,hczq7_3,hczq7_4,hczq7_5,hfzq7_0,hfzq7_1,hfzq7_2,hfzq7_3,hfzq7_4,hfzq7_5⟩ := cells6 BK560.out) | ((with_reducible refine gate_callee (f := 88) rfl ?_);refine goesL_ (some 21) rfl rfl Try.func88 Z312 rfl #[.agg #[.int .i64 a0_0,.int .i64 a0_1,.int .i64 a0_2,.int .i64 a0_3,.int .i64 a0_4,.int .i64 a0_5]] rfl Z256 ?_;(with_reducible refine (impl_BothOf.calls a0_0 a0_1 a0_2 a0_3 a0_4 a0_5 t567 t568 t569 _ A4.out).mono ?_);rintro e wq8 ⟨rfl,hb⟩;refine ⟨_,rfl,?_⟩;have n_ := Z75;clear BK560 BK566 HB;obtain ⟨BK560,BK566,HB⟩ := n_;(try clear hb);(try clear hb2);(try clear hk);(try clear hi)) | ((with_reducible refine gate_dst (N := 7) rfl ?_);refine bE 7 #[.int .i64 0,.int .i64 0] 37 (h := ?_);intro gb570 hg wq9 hbox hb;have n_ := Z31;clear BK560 BK566 HB;obtain ⟨BK560,BK566,HB,BK570,GW570,GE570,NB560_570,NB570_560,NB566_570,NB570_566⟩ := n_;clear hb hbox hg;have hnbq10 := NB570_560.out;have hncq10 := NB560_570.out;have hnbq11 := NB570_566.out;have hncq11 := NB566_570.out;obtain ⟨hczq12_0,hczq12_1,hfzq12_0,hfzq12_1⟩ := cells2 BK570.out) | ((with_reducible refine gate_callee (f := 89) rfl ?_);refine goesL_ (some 27) rfl rfl Try.func89 Z312 rfl #[.agg #[.int .i64 t567,.int .i64 t568],.int .i64 a1] rfl Z256 ?_;(with_reducible refine (impl_PlainGain.calls t567 t568 a1 t571 t572 t573 t574 t575 _ A5.out).mono ?_);rintro e wq13 ⟨rfl,hb⟩;refine ⟨_,rfl,?_⟩;have n_ := Z81;clear BK560 BK566 BK570 HB;obtain ⟨BK560,BK566,BK570,HB⟩ := n_;(try clear hb);(try clear hb2);(try clear hk);(try clear hi)) | ((with_reducible refine gate_dst (N := 9) rfl ?_);refine bE 9 #[.bool false,.int .u64 0,.int .u64 0,.int .i64 0] 102 (h := ?_);intro gb576 hg wq14 hbox hb;have n_ := Z17;clear BK560 BK566 BK570 HB;obtain ⟨BK560,BK566,BK570,HB,BK576,GW576,GE576,NB560_576,NB576_560,NB566_576,NB576_566,NB570_576,NB576_570⟩ := n_;clear hb hbox hg;have hnbq15 := NB576_560.out;have hncq15 := NB560_576.out;have hnbq16 := NB576_566.out;have hncq16 := NB566_576.out;have hnbq17 := NB576_570.out;have hncq17 := NB570_576.out;obtain ⟨hczq18_0,hczq18_1,hczq18_2,hczq18_3,hfzq18_0,hfzq18_1,hfzq18_2,hfzq18_3⟩ := cells4 BK576.out;obtain ⟨hczq19_0,hczq19_1,hczq19_2,hczq19_3,hfzq19_0,hfzq19_1,hfzq19_2,hfzq19_3⟩ := cells4 BK566.out) | ((with_reducible refine gate_callee (f := 90) rfl ?_);refine goesL_ (some 33) rfl rfl Try.func90 Z312 rfl #[.agg #[.bool t561,.int .u64 t562,.int .u64 t563,.int .i64 t564],.agg #[.bool t571,.int .u64 t572,.int .u64 t573,.int .i64 t574]] rfl Z256 ?_;(with_reducible refine (impl_CompareFrac.calls k t561 t562 t563 t564 t571 t572 t573 t574 t577 t578 _ A6.out).mono ?_);rintro e wq20 ⟨rfl,hb⟩;refine ⟨_,rfl,?_⟩;have n_ := Z36;clear BK560 BK566 BK570 BK576 HB;obtain ⟨BK560,BK566,BK570,BK576,HB⟩ := n_;(try clear hb);(try clear hb2);(try clear hk);(try clear hi)))
  go_ret
  exact ⟨Z263,Z329⟩

/-! ### impl_MayPart: function 11 -/
def impl_MayPart.f (k : Nat) (a0_0 : Int) (a0_1 : Int) (a0_2 : Int) (a0_3 : Int) (a0_4 : Int) (a0_5 : Int) (a0_6 : Int) (l0_7 : List Int) (a1_0 : Int) (a1_1 : Int) (a2_0 : Int) (a2_1 : Int) (a2_2 : Int) (a2_3 : Int) (a2_4 : Int) (a2_5 : Int) : Option (Bool) := (impl_SideValues.f k a0_0 a0_1 a0_2 a0_3 a0_4 a0_5 a0_6 l0_7 a1_0 a1_1 a2_0 a2_1 a2_2 a2_3 a2_4 a2_5).bind fun bt582 => ((impl_ConfigOk.f k a0_0 a0_1 a0_2 a0_3 a0_4 a0_5 a0_6 l0_7).bind fun t585 => (if t585 = true then (if bt582.2.2 = true then (if a2_2 ≥ a0_4 then (if a2_4 ≥ a0_4 then ((impl_SignFor.f a0_0 a0_1 a0_2 a0_3 a0_4 a0_5 a0_6 l0_7 a2_0).bind fun t586 => ((impl_Agrees.f t586 bt582.1 bt582.2.1).bind fun t587 => (if t587 = true then ((impl_Improves.f k a2_0 a2_1 a2_2 a2_3 a2_4 a2_5 a0_3).bind fun t588 => (some t588)) else (some false)))) else (some false)) else (some false)) else (some false)) else (some false)))
theorem impl_MayPart.mono : ∀ a0 a1 a2 a3 a4 a5 a6 a7 a8 a9 a10 a11 a12 a13 a14 a15 k,LeO (impl_MayPart.f k a0 a1 a2 a3 a4 a5 a6 a7 a8 a9 a10 a11 a12 a13 a14 a15) (impl_MayPart.f (k + 1) a0 a1 a2 a3 a4 a5 a6 a7 a8 a9 a10 a11 a12 a13 a14 a15) := by
 intro a0 a1 a2 a3 a4 a5 a6 a7 a8 a9 a10 a11 a12 a13 a14 a15 k
 unfold impl_MayPart.f
 repeat' first
   | (with_reducible exact impl_ConfigOk.mono _ _ _ _ _ _ _ _ _)
   | (with_reducible exact impl_Improves.mono _ _ _ _ _ _ _ _)
   | (with_reducible exact impl_SideValues.mono _ _ _ _ _ _ _ _ _ _ _ _ _ _ _ _ _)
   | (with_reducible exact LeO.refl _)
   | (with_reducible exact LeO.none _)
   | (with_reducible refine LeO.ite ?_ ?_)
   | (with_reducible refine LeO.bind ?_ (fun _ => ?_))
   | exact impl_ConfigOk.mono _ _ _ _ _ _ _ _ _
   | exact impl_Improves.mono _ _ _ _ _ _ _ _
   | exact impl_SideValues.mono _ _ _ _ _ _ _ _ _ _ _ _ _ _ _ _ _
   | exact LeO.none _
   | refine LeO.ite ?_ ?_
   | refine LeO.bind ?_ (fun _ => ?_)
set_option maxHeartbeats 8000000 in
set_option maxRecDepth 100000 in
theorem impl_MayPart.calls (k : Nat) (a0_0 : Int) (a0_1 : Int) (a0_2 : Int) (a0_3 : Int) (a0_4 : Int) (a0_5 : Int) (a0_6 : Int) (A0_7 : Option Addr) (c0_7 : Nat) (l0_7 : List Int) (a1_0 : Int) (a1_1 : Int) (a2_0 : Int) (a2_1 : Int) (a2_2 : Int) (a2_3 : Int) (a2_4 : Int) (a2_5 : Int) (r : Bool) (w : World) (hr0_7 : Kd.C (Kd.int .i64) w A0_7 l0_7.length l0_7) (hc0_7 : l0_7.length ≤ c0_7) (h : impl_MayPart.f k a0_0 a0_1 a0_2 a0_3 a0_4 a0_5 a0_6 l0_7 a1_0 a1_1 a2_0 a2_1 a2_2 a2_3 a2_4 a2_5 = some r) :
  Calls Try.prog 11 #[.agg #[.int .i64 a0_0,.int .i64 a0_1,.int .i64 a0_2,.int .i64 a0_3,.int .i64 a0_4,.int .i64 a0_5,.int .i64 a0_6,.slice A0_7 l0_7.length c0_7],.agg #[.int .i64 a1_0,.int .i64 a1_1],.agg #[.int .i64 a2_0,.int .i64 a2_1,.int .i64 a2_2,.int .i64 a2_3,.int .i64 a2_4,.int .i64 a2_5]] w fun e w' => e = .returned (.bool r) ∧ Below w.heap.size w w' := by
 have hu33 := Try.underlying33
 have hu35 := Try.underlying35
 have hu39 := Try.underlying39
 have HR0_7 := Aside0.mk hr0_7
 have HC0_7 := Aside0.mk hc0_7
 clear hr0_7 hc0_7
 have HB := Aside0.mk (Below.refl w.heap.size w)
 have H := h
 clear h
 unfold impl_MayPart.f at H
 obtain ⟨⟨t582,t583,t584⟩,A40,H⟩ := Option.bind_eq_some_iff.mp H
 try dsimp only at H
 have A4 := Aside0.mk A40
 clear A40
 obtain ⟨t585,A50,H⟩ := Option.bind_eq_some_iff.mp H
 have A5 := Aside0.mk A50
 clear A50
 by_cases c6 : t585 = true
 ·subst c6
  rw [if_pos rfl] at H
  by_cases c7 : t584 = true
  ·subst c7
   rw [if_pos rfl] at H
   by_cases c8 : a2_2 ≥ a0_4
   ·rw [if_pos c8] at H
    have c8b0 : decide (a0_4 ≤ a2_2) = true := decide_eq_true c8
    clear c8
    by_cases c9 : a2_4 ≥ a0_4
    ·rw [if_pos c9] at H
     have c9b0 : decide (a0_4 ≤ a2_4) = true := decide_eq_true c9
     clear c9
     obtain ⟨t586,A100,H⟩ := Option.bind_eq_some_iff.mp H
     have A10 := Aside0.mk A100
     clear A100
     obtain ⟨t587,A110,H⟩ := Option.bind_eq_some_iff.mp H
     have A11 := Aside0.mk A110
     clear A110
     by_cases c12 : t587 = true
     ·subst c12
      rw [if_pos rfl] at H
      obtain ⟨t588,A130,H⟩ := Option.bind_eq_some_iff.mp H
      have A13 := Aside0.mk A130
      clear A130
      obtain rfl := Option.some.inj H
      go_enter Try.func11,Try.ntmps11
      go_wp2_with (first | ((with_reducible refine gate_dst (N := 3) rfl ?_);refine bE 3 #[.int .i64 a0_0,.int .i64 a0_1,.int .i64 a0_2,.int .i64 a0_3,.int .i64 a0_4,.int .i64 a0_5,.int .i64 a0_6,.slice A0_7 l0_7.length c0_7] 33 (h := ?_);intro gb579 hg wq1 hbox hb;have n_ := Z101;clear HB;obtain ⟨HB,BK579,GW579,GE579⟩ := n_;clear hb hbox hg) | ((with_reducible refine gate_dst (N := 4) rfl ?_);refine bE 4 #[.int .i64 a1_0,.int .i64 a1_1] 35 (h := ?_);intro gb580 hg wq2 hbox hb;have n_ := Z56;clear BK579 HB;obtain ⟨BK579,HB,BK580,GW580,GE580,NB579_580,NB580_579⟩ := n_;clear hb hbox hg) | ((with_reducible refine gate_dst (N := 5) rfl ?_);refine bE 5 #[.int .i64 a2_0,.int .i64 a2_1,.int .i64 a2_2,.int .i64 a2_3,.int .i64 a2_4,.int .i64 a2_5] 39 (h := ?_);intro gb581 hg wq3 hbox hb;have n_ := Z26;clear BK579 BK580 HB;obtain ⟨BK579,BK580,HB,BK581,GW581,GE581,NB579_581,NB581_579,NB580_581,NB581_580⟩ := n_;clear hb hbox hg;have hnbq4 := NB579_580.out;have hncq4 := NB580_579.out;have hnbq5 := NB579_581.out;have hncq5 := NB581_579.out;obtain ⟨hczq6_0,hczq6_1,hczq6_2,hczq6_3,hczq6_4,hczq6_5,hczq6_6,hczq6_7,hfzq6_0,hfzq6_1,hfzq6_2,hfzq6_3,hfzq6_4,hfzq6_5,hfzq6_6,hfzq6_7⟩ := cells8 BK579.out;have hnbq7 := NB580_581.out;have hncq7 := NB581_580.out;obtain ⟨hczq8_0,hczq8_1,hfzq8_0,hfzq8_1⟩ := cells2 BK580.out;obtain ⟨hczq9_0,hczq9_1,hczq9_2,hczq9_3,hczq9_4,hczq9_5,hfzq9_0,hfzq9_1,hfzq9_2,hfzq9_3,hfzq9_4,hfzq9_5⟩ := cells6 BK581.out) | ((with_reducible refine gate_callee (f := 38) rfl ?_);refine goesL_ (some 14) rfl rfl Try.func38 Z312 rfl #[.agg #[.int .i64 a0_0,.int .i64 a0_1,.int .i64 a0_2,.int .i64 a0_3,.int .i64 a0_4,.int .i64 a0_5,.int .i64 a0_6,.slice A0_7 l0_7.length c0_7],.agg #[.int .i64 a1_0,.int .i64 a1_1],.agg #[.int .i64 a2_0,.int .i64 a2_1,.int .i64 a2_2,.int .i64 a2_3,.int .i64 a2_4,.int .i64 a2_5]] rfl Z256 ?_;(with_reducible refine (impl_SideValues.calls k a0_0 a0_1 a0_2 a0_3 a0_4 a0_5 a0_6 _ _ l0_7 a1_0 a1_1 a2_0 a2_1 a2_2 a2_3 a2_4 a2_5 t582 t583 true _ ?side1 ?side2 A4.out).mono ?_);(case side1 => exact Z224);(case side2 => exact Z311);rintro e wq10 ⟨rfl,hb⟩;refine ⟨_,rfl,?_⟩;have n_ := Z85;clear BK579 BK580 BK581 HB;obtain ⟨BK579,BK580,BK581,HB⟩ := n_;(try clear hb);(try clear hb2);(try clear hk);(try clear hi);obtain ⟨hczq11_0,hczq11_1,hczq11_2,hczq11_3,hczq11_4,hczq11_5,hczq11_6,hczq11_7,hfzq11_0,hfzq11_1,hfzq11_2,hfzq11_3,hfzq11_4,hfzq11_5,hfzq11_6,hfzq11_7⟩ := cells8 BK579.out) | ((with_reducible refine gate_callee (f := 39) rfl ?_);refine goesL_ (some 19) rfl rfl Try.func39 Z312 rfl #[.agg #[.int .i64 a0_0,.int .i64 a0_1,.int .i64 a0_2,.int .i64 a0_3,.int .i64 a0_4,.int .i64 a0_5,.int .i64 a0_6,.slice A0_7 l0_7.length c0_7]] rfl Z256 ?_;(with_reducible refine (impl_ConfigOk.calls k a0_0 a0_1 a0_2 a0_3 a0_4 a0_5 a0_6 _ _ l0_7 true _ ?side1 ?side2 A5.out).mono ?_);(case side1 => exact Z224);(case side2 => exact Z311);rintro e wq12 ⟨rfl,hb⟩;refine ⟨_,rfl,?_⟩;have n_ := Z85;clear BK579 BK580 BK581 HB;obtain ⟨BK579,BK580,BK581,HB⟩ := n_;(try clear hb);(try clear hb2);(try clear hk);(try clear hi);obtain ⟨hczq13_0,hczq13_1,hczq13_2,hczq13_3,hczq13_4,hczq13_5,hfzq13_0,hfzq13_1,hfzq13_2,hfzq13_3,hfzq13_4,hfzq13_5⟩ := cells6 BK581.out;obtain ⟨hczq14_0,hczq14_1,hczq14_2,hczq14_3,hczq14_4,hczq14_5,hczq14_6,hczq14_7,hfzq14_0,hfzq14_1,hfzq14_2,hfzq14_3,hfzq14_4,hfzq14_5,hfzq14_6,hfzq14_7⟩ := cells8 BK579.out) | (go_at_call 41;(with_reducible refine (impl_SignFor.calls a0_0 a0_1 a0_2 a0_3 a0_4 a0_5 a0_6 _ _ l0_7 a2_0 t586 _ ?side1 ?side2 A10.out).mono ?_);(case side1 => exact Z224);(case side2 => exact Z311);rintro e wq15 ⟨rfl,hb⟩;have n_ := Z85;clear BK579 BK580 BK581 HB;obtain ⟨BK579,BK580,BK581,HB⟩ := n_;(try clear hb);(try clear hb2);(try clear hk);(try clear hi)) | (go_at_call 40;(with_reducible refine (impl_Agrees.calls t586 t582 t583 true _ A11.out).mono ?_);rintro e w' ⟨rfl,⟨nd,rfl⟩⟩;obtain ⟨hczq16_0,hczq16_1,hczq16_2,hczq16_3,hczq16_4,hczq16_5,hfzq16_0,hfzq16_1,hfzq16_2,hfzq16_3,hfzq16_4,hfzq16_5⟩ := cells6 BK581.out;obtain ⟨hczq17_0,hczq17_1,hczq17_2,hczq17_3,hczq17_4,hczq17_5,hczq17_6,hczq17_7,hfzq17_0,hfzq17_1,hfzq17_2,hfzq17_3,hfzq17_4,hfzq17_5,hfzq17_6,hfzq17_7⟩ := cells8 BK579.out) | (go_at_call 42;(with_reducible refine (impl_Improves.calls k a2_0 a2_1 a2_2 a2_3 a2_4 a2_5 a0_3 t588 _ A13.out).mono ?_);rintro e wq18 ⟨rfl,hb⟩;have n_ := Z85;clear BK579 BK580 BK581 HB;obtain ⟨BK579,BK580,BK581,HB⟩ := n_;(try clear hb);(try clear hb2);(try clear hk);(try clear hi)))
      go_ret
      exact ⟨Z263,Z355⟩
     ·replace c12 := Bool.eq_false_iff.mpr c12
      subst c12
      rw [if_neg Bool.false_ne_true] at H
      obtain rfl := Option.some.inj H
      go_enter Try.func11,Try.ntmps11
      go_wp2_with (first | ((with_reducible refine gate_dst (N := 3) rfl ?_);refine bE 3 #[.int .i64 a0_0,.int .i64 a0_1,.int .i64 a0_2,.int .i64 a0_3,.int .i64 a0_4,.int .i64 a0_5,.int .i64 a0_6,.slice A0_7 l0_7.length c0_7] 33 (h := ?_);intro gb579 hg wq1 hbox hb;have n_ := Z101;clear HB;obtain ⟨HB,BK579,GW579,GE579⟩ := n_;clear hb hbox hg) | ((with_reducible refine gate_dst (N := 4) rfl ?_);refine bE 4 #[.int .i64 a1_0,.int .i64 a1_1] 35 (h := ?_);intro gb580 hg wq2 hbox hb;have n_ := Z56;clear BK579 HB;obtain ⟨BK579,HB,BK580,GW580,GE580,NB579_580,NB580_579⟩ := n_;clear hb hbox hg) | ((with_reducible refine gate_dst (N := 5) rfl ?_);refine bE 5 #[.int .i64 a2_0,.int .i64 a2_1,.int .i64 a2_2,.int .i64 a2_3,.int .i64 a2_4,.int .i64 a2_5] 39 (h := ?_);intro gb581 hg wq3 hbox hb;have n_ := Z26;clear BK579 BK580 HB;obtain ⟨BK579,BK580,HB,BK581,GW581,GE581,NB579_581,NB581_579,NB580_581,NB581_580⟩ := n_;clear hb hbox hg;have hnbq4 := NB579_580.out;have hncq4 := NB580_579.out;have hnbq5 := NB579_581.out;have hncq5 := NB581_579.out;obtain ⟨hczq6_0,hczq6_1,hczq6_2,hczq6_3,hczq6_4,hczq6_5,hczq6_6,hczq6_7,hfzq6_0,hfzq6_1,hfzq6_2,hfzq6_3,hfzq6_4,hfzq6_5,hfzq6_6,hfzq6_7⟩ := cells8 BK579.out;have hnbq7 := NB580_581.out;have hncq7 := NB581_580.out;obtain ⟨hczq8_0,hczq8_1,hfzq8_0,hfzq8_1⟩ := cells2 BK580.out;obtain ⟨hczq9_0,hczq9_1,hczq9_2,hczq9_3,hczq9_4,hczq9_5,hfzq9_0,hfzq9_1,hfzq9_2,hfzq9_3,hfzq9_4,hfzq9_5⟩ := cells6 BK581.out) | ((with_reducible refine gate_callee (f := 38) rfl ?_);refine goesL_ (some 14) rfl rfl Try.func38 Z312 rfl #[.agg #[.int .i64 a0_0,.int .i64 a0_1,.int .i64 a0_2,.int .i64 a0_3,.int .i64 a0_4,.int .i64 a0_5,.int .i64 a0_6,.slice A0_7 l0_7.length c0_7],.agg #[.int .i64 a1_0,.int .i64 a1_1],.agg #[.int .i64 a2_0,.int .i64 a2_1,.int .i64 a2_2,.int .i64 a2_3,.int .i64 a2_4,.int .i64 a2_5]] rfl Z256 ?_;(with_reducible refine (impl_SideValues.calls k a0_0 a0_1 a0_2 a0_3 a0_4 a0_5 a0_6 _ _ l0_7 a1_0 a1_1 a2_0 a2_1 a2_2 a2_3 a2_4 a2_5 t582 t583 true _ ?side1 ?side2 A4.out).mono ?_);(case side1 => exact Z224);(case side2 => exact Z311);rintro e wq10 ⟨rfl,hb⟩;refine ⟨_,rfl,?_⟩;have n_ := Z85;clear BK579 BK580 BK581 HB;obtain ⟨BK579,BK580,BK581,HB⟩ := n_;(try clear hb);(try clear hb2);(try clear hk);(try clear hi);obtain ⟨hczq11_0,hczq11_1,hczq11_2,hczq11_3,hczq11_4,hczq11_5,hczq11_6,hczq11_7,hfzq11_0,hfzq11_1,hfzq11_2,hfzq11_3,hfzq11_4,hfzq11_5,hfzq11_6,hfzq11_7⟩ := cells8 BK579.out) | ((with_reducible refine gate_callee (f := 39) rfl ?_);refine goesL_ (some 19) rfl rfl Try.func39 Z312 rfl #[.agg #[.int .i64 a0_0,.int .i64 a0_1,.int .i64 a0_2,.int .i64 a0_3,.int .i64 a0_4,.int .i64 a0_5,.int .i64 a0_6,.slice A0_7 l0_7.length c0_7]] rfl Z256 ?_;(with_reducible refine (impl_ConfigOk.calls k a0_0 a0_1 a0_2 a0_3 a0_4 a0_5 a0_6 _ _ l0_7 true _ ?side1 ?side2 A5.out).mono ?_);(case side1 => exact Z224);(case side2 => exact Z311);rintro e wq12 ⟨rfl,hb⟩;refine ⟨_,rfl,?_⟩;have n_ := Z85;clear BK579 BK580 BK581 HB;obtain ⟨BK579,BK580,BK581,HB⟩ := n_;(try clear hb);(try clear hb2);(try clear hk);(try clear hi);obtain ⟨hczq13_0,hczq13_1,hczq13_2,hczq13_3,hczq13_4,hczq13_5,hfzq13_0,hfzq13_1,hfzq13_2,hfzq13_3,hfzq13_4,hfzq13_5⟩ := cells6 BK581.out;obtain ⟨hczq14_0,hczq14_1,hczq14_2,hczq14_3,hczq14_4,hczq14_5,hczq14_6,hczq14_7,hfzq14_0,hfzq14_1,hfzq14_2,hfzq14_3,hfzq14_4,hfzq14_5,hfzq14_6,hfzq14_7⟩ := cells8 BK579.out) | (go_at_call 41;(with_reducible refine (impl_SignFor.calls a0_0 a0_1 a0_2 a0_3 a0_4 a0_5 a0_6 _ _ l0_7 a2_0 t586 _ ?side1 ?side2 A10.out).mono ?_);(case side1 => exact Z224);(case side2 => exact Z311);rintro e wq15 ⟨rfl,hb⟩;have n_ := Z85;clear BK579 BK580 BK581 HB;obtain ⟨BK579,BK580,BK581,HB⟩ := n_;(try clear hb);(try clear hb2);(try clear hk);(try clear hi)) | (go_at_call 40;(with_reducible refine (impl_Agrees.calls t586 t582 t583 false _ A11.out).mono ?_);rintro e w' ⟨rfl,⟨nd,rfl⟩⟩))
      go_ret
      exact ⟨Z263,Z355⟩
    ·rw [if_neg c9] at H
     have c9b0 : decide (a0_4 ≤ a2_4) = false := decide_eq_false c9
     clear c9
     obtain rfl := Option.some.inj H
     go_enter Try.func11,Try.ntmps11
     go_wp2_with (first | ((with_reducible refine gate_dst (N := 3) rfl ?_);refine bE 3 #[.int .i64 a0_0,.int .i64 a0_1,.int .i64 a0_2,.int .i64 a0_3,.int .i64 a0_4,.int .i64 a0_5,.int .i64 a0_6,.slice A0_7 l0_7.length c0_7] 33 (h := ?_);intro gb579 hg wq1 hbox hb;have n_ := Z101;clear HB;obtain ⟨HB,BK579,GW579,GE579⟩ := n_;clear hb hbox hg) | ((with_reducible refine gate_dst (N := 4) rfl ?_);refine bE 4 #[.int .i64 a1_0,.int .i64 a1_1] 35 (h := ?_);intro gb580 hg wq2 hbox hb;have n_ := Z56;clear BK579 HB;obtain ⟨BK579,HB,BK580,GW580,GE580,NB579_580,NB580_579⟩ := n_;clear hb hbox hg) | ((with_reducible refine gate_dst (N := 5) rfl ?_);refine bE 5 #[.int .i64 a2_0,.int .i64 a2_1,.int .i64 a2_2,.int .i64 a2_3,.int .i64 a2_4,.int .i64 a2_5] 39 (h := ?_);intro gb581 hg wq3 hbox hb;have n_ := Z26;clear BK579 BK580 HB;obtain ⟨BK579,BK580,HB,BK581,GW581,GE581,NB579_581,NB581_579,NB580_581,NB581_580⟩ := n_;clear hb hbox hg;have hnbq4 := NB579_580.out;have hncq4 := NB580_579.out;have hnbq5 := NB579_581.out;have hncq5 := NB581_579.out;obtain ⟨hczq6_0,hczq6_1,hczq6_2,hczq6_3,hczq6_4,hczq6_5,hczq6_6,hczq6_7,hfzq6_0,hfzq6_1,hfzq6_2,hfzq6_3,hfzq6_4,hfzq6_5,hfzq6_6,hfzq6_7⟩ := cells8 BK579.out;have hnbq7 := NB580_581.out;have hncq7 := NB581_580.out;obtain ⟨hczq8_0,hczq8_1,hfzq8_0,hfzq8_1⟩ := cells2 BK580.out;obtain ⟨hczq9_0,hczq9_1,hczq9_2,hczq9_3,hczq9_4,hczq9_5,hfzq9_0,hfzq9_1,hfzq9_2,hfzq9_3,hfzq9_4,hfzq9_5⟩ := cells6 BK581.out) | ((with_reducible refine gate_callee (f := 38) rfl ?_);refine goesL_ (some 14) rfl rfl Try.func38 Z312 rfl #[.agg #[.int .i64 a0_0,.int .i64 a0_1,.int .i64 a0_2,.int .i64 a0_3,.int .i64 a0_4,.int .i64 a0_5,.int .i64 a0_6,.slice A0_7 l0_7.length c0_7],.agg #[.int .i64 a1_0,.int .i64 a1_1],.agg #[.int .i64 a2_0,.int .i64 a2_1,.int .i64 a2_2,.int .i64 a2_3,.int .i64 a2_4,.int .i64 a2_5]] rfl Z256 ?_;(with_reducible refine (impl_SideValues.calls k a0_0 a0_1 a0_2 a0_3 a0_4 a0_5 a0_6 _ _ l0_7 a1_0 a1_1 a2_0 a2_1 a2_2 a2_3 a2_4 a2_5 t582 t583 true _ ?side1 ?side2 A4.out).mono ?_);(case side1 => exact Z224);(case side2 => exact Z311);rintro e wq10 ⟨rfl,hb⟩;refine ⟨_,rfl,?_⟩;have n_ := Z85;clear BK579 BK580 BK581 HB;obtain ⟨BK579,BK580,BK581,HB⟩ := n_;(try clear hb);(try clear hb2);(try clear hk);(try clear hi);obtain ⟨hczq11_0,hczq11_1,hczq11_2,hczq11_3,hczq11_4,hczq11_5,hczq11_6,hczq11_7,hfzq11_0,hfzq11_1,hfzq11_2,hfzq11_3,hfzq11_4,hfzq11_5,hfzq11_6,hfzq11_7⟩ := cells8 BK579.out) | ((with_reducible refine gate_callee (f := 39) rfl ?_);refine goesL_ (some 19) rfl rfl Try.func39 Z312 rfl #[.agg #[.int .i64 a0_0,.int .i64 a0_1,.int .i64 a0_2,.int .i64 a0_3,.int .i64 a0_4,.int .i64 a0_5,.int .i64 a0_6,.slice A0_7 l0_7.length c0_7]] rfl Z256 ?_;(with_reducible refine (impl_ConfigOk.calls k a0_0 a0_1 a0_2 a0_3 a0_4 a0_5 a0_6 _ _ l0_7 true _ ?side1 ?side2 A5.out).mono ?_);(case side1 => exact Z224);(case side2 => exact Z311);rintro e wq12 ⟨rfl,hb⟩;refine ⟨_,rfl,?_⟩;have n_ := Z85;clear BK579 BK580 BK581 HB;obtain ⟨BK579,BK580,BK581,HB⟩ := n_;(try clear hb);(try clear hb2);(try clear hk);(try clear hi);obtain ⟨hczq13_0,hczq13_1,hczq13_2,hczq13_3,hczq13_4,hczq13_5,hfzq13_0,hfzq13_1,hfzq13_2,hfzq13_3,hfzq13_4,hfzq13_5⟩ := cells6 BK581.out;obtain ⟨hczq14_0,hczq14_1,hczq14_2,hczq14_3,hczq14_4,hczq14_5,hczq14_6,hczq14_7,hfzq14_0,hfzq14_1,hfzq14_2,hfzq14_3,hfzq14_4,hfzq14_5,hfzq14_6,hfzq14_7⟩ := cells8 BK579.out))
     go_ret
     exact ⟨Z263,Z355⟩
   ·rw [if_neg c8] at H
    have c8b0 : decide (a0_4 ≤ a2_2) = false := decide_eq_false c8
    clear c8
    obtain rfl := Option.some.inj H
    go_enter Try.func11,Try.ntmps11
    go_wp2_with (first | ((with_reducible refine gate_dst (N := 3) rfl ?_);refine bE 3 #[.int .i64 a0_0,.int .i64 a0_1,.int .i64 a0_2,.int .i64 a0_3,.int .i64 a0_4,.int .i64 a0_5,.int .i64 a0_6,.slice A0_7 l0_7.length c0_7] 33 (h := ?_);intro gb579 hg wq1 hbox hb;have n_ := Z101;clear HB;obtain ⟨HB,BK579,GW579,GE579⟩ := n_;clear hb hbox hg) | ((with_reducible refine gate_dst (N := 4) rfl ?_);refine bE 4 #[.int .i64 a1_0,.int .i64 a1_1] 35 (h := ?_);intro gb580 hg wq2 hbox hb;have n_ := Z56;clear BK579 HB;obtain ⟨BK579,HB,BK580,GW580,GE580,NB579_580,NB580_579⟩ := n_;clear hb hbox hg) | ((with_reducible refine gate_dst (N := 5) rfl ?_);refine bE 5 #[.int .i64 a2_0,.int .i64 a2_1,.int .i64 a2_2,.int .i64 a2_3,.int .i64 a2_4,.int .i64 a2_5] 39 (h := ?_);intro gb581 hg wq3 hbox hb;have n_ := Z26;clear BK579 BK580 HB;obtain ⟨BK579,BK580,HB,BK581,GW581,GE581,NB579_581,NB581_579,NB580_581,NB581_580⟩ := n_;clear hb hbox hg;have hnbq4 := NB579_580.out;have hncq4 := NB580_579.out;have hnbq5 := NB579_581.out;have hncq5 := NB581_579.out;obtain ⟨hczq6_0,hczq6_1,hczq6_2,hczq6_3,hczq6_4,hczq6_5,hczq6_6,hczq6_7,hfzq6_0,hfzq6_1,hfzq6_2,hfzq6_3,hfzq6_4,hfzq6_5,hfzq6_6,hfzq6_7⟩ := cells8 BK579.out;have hnbq7 := NB580_581.out;have hncq7 := NB581_580.out;obtain ⟨hczq8_0,hczq8_1,hfzq8_0,hfzq8_1⟩ := cells2 BK580.out;obtain ⟨hczq9_0,hczq9_1,hczq9_2,hczq9_3,hczq9_4,hczq9_5,hfzq9_0,hfzq9_1,hfzq9_2,hfzq9_3,hfzq9_4,hfzq9_5⟩ := cells6 BK581.out) | ((with_reducible refine gate_callee (f := 38) rfl ?_);refine goesL_ (some 14) rfl rfl Try.func38 Z312 rfl #[.agg #[.int .i64 a0_0,.int .i64 a0_1,.int .i64 a0_2,.int .i64 a0_3,.int .i64 a0_4,.int .i64 a0_5,.int .i64 a0_6,.slice A0_7 l0_7.length c0_7],.agg #[.int .i64 a1_0,.int .i64 a1_1],.agg #[.int .i64 a2_0,.int .i64 a2_1,.int .i64 a2_2,.int .i64 a2_3,.int .i64 a2_4,.int .i64 a2_5]] rfl Z256 ?_;(with_reducible refine (impl_SideValues.calls k a0_0 a0_1 a0_2 a0_3 a0_4 a0_5 a0_6 _ _ l0_7 a1_0 a1_1 a2_0 a2_1 a2_2 a2_3 a2_4 a2_5 t582 t583 true _ ?side1 ?side2 A4.out).mono ?_);(case side1 => exact Z224);(case side2 => exact Z311);rintro e wq10 ⟨rfl,hb⟩;refine ⟨_,rfl,?_⟩;have n_ := Z85;clear BK579 BK580 BK581 HB;obtain ⟨BK579,BK580,BK581,HB⟩ := n_;(try clear hb);(try clear hb2);(try clear hk);(try clear hi);obtain ⟨hczq11_0,hczq11_1,hczq11_2,hczq11_3,hczq11_4,hczq11_5,hczq11_6,hczq11_7,hfzq11_0,hfzq11_1,hfzq11_2,hfzq11_3,hfzq11_4,hfzq11_5,hfzq11_6,hfzq11_7⟩ := cells8 BK579.out) | ((with_reducible refine gate_callee (f := 39) rfl ?_);refine goesL_ (some 19) rfl rfl Try.func39 Z312 rfl #[.agg #[.int .i64 a0_0,.int .i64 a0_1,.int .i64 a0_2,.int .i64 a0_3,.int .i64 a0_4,.int .i64 a0_5,.int .i64 a0_6,.slice A0_7 l0_7.length c0_7]] rfl Z256 ?_;(with_reducible refine (impl_ConfigOk.calls k a0_0 a0_1 a0_2 a0_3 a0_4 a0_5 a0_6 _ _ l0_7 true _ ?side1 ?side2 A5.out).mono ?_);(case side1 => exact Z224);(case side2 => exact Z311);rintro e wq12 ⟨rfl,hb⟩;refine ⟨_,rfl,?_⟩;have n_ := Z85;clear BK579 BK580 BK581 HB;obtain ⟨BK579,BK580,BK581,HB⟩ := n_;(try clear hb);(try clear hb2);(try clear hk);(try clear hi);obtain ⟨hczq13_0,hczq13_1,hczq13_2,hczq13_3,hczq13_4,hczq13_5,hfzq13_0,hfzq13_1,hfzq13_2,hfzq13_3,hfzq13_4,hfzq13_5⟩ := cells6 BK581.out;obtain ⟨hczq14_0,hczq14_1,hczq14_2,hczq14_3,hczq14_4,hczq14_5,hczq14_6,hczq14_7,hfzq14_0,hfzq14_1,hfzq14_2,hfzq14_3,hfzq14_4,hfzq14_5,hfzq14_6,hfzq14_7⟩ := cells8 BK579.out))
    go_ret
    exact ⟨Z263,Z355⟩
  ·replace c7 := Bool.eq_false_iff.mpr c7
   subst c7
   rw [if_neg Bool.false_ne_true] at H
   obtain rfl := Option.some.inj H
   go_enter Try.func11,Try.ntmps11
   go_wp2_with (first | ((with_reducible refine gate_dst (N := 3) rfl ?_);refine bE 3 #[.int .i64 a0_0,.int .i64 a0_1,.int .i64 a0_2,.int .i64 a0_3,.int .i64 a0_4,.int .i64 a0_5,.int .i64 a0_6,.slice A0_7 l0_7.length c0_7] 33 (h := ?_);intro gb579 hg wq1 hbox hb;have n_ := Z101;clear HB;obtain ⟨HB,BK579,GW579,GE579⟩ := n_;clear hb hbox hg) | ((with_reducible refine gate_dst (N := 4) rfl ?_);refine bE 4 #[.int .i64 a1_0,.int .i64 a1_1] 35 (h := ?_);intro gb580 hg wq2 hbox hb;have n_ := Z56;clear BK579 HB;obtain ⟨BK579,HB,BK580,GW580,GE580,NB579_580,NB580_579⟩ := n_;clear hb hbox hg) | ((with_reducible refine gate_dst (N := 5) rfl ?_);refine bE 5 #[.int .i64 a2_0,.int .i64 a2_1,.int .i64 a2_2,.int .i64 a2_3,.int .i64 a2_4,.int .i64 a2_5] 39 (h := ?_);intro gb581 hg wq3 hbox hb;have n_ := Z26;clear BK579 BK580 HB;obtain ⟨BK579,BK580,HB,BK581,GW581,GE581,NB579_581,NB581_579,NB580_581,NB581_580⟩ := n_;clear hb hbox hg;have hnbq4 := NB579_580.out;have hncq4 := NB580_579.out;have hnbq5 := NB579_581.out;have hncq5 := NB581_579.out;obtain ⟨hczq6_0,hczq6_1,hczq6_2,hczq6_3,hczq6_4,hczq6_5,hczq6_6,hczq6_7,hfzq6_0,hfzq6_1,hfzq6_2,hfzq6_3,hfzq6_4,hfzq6_5,hfzq6_6,hfzq6_7⟩ := cells8 BK579.out;have hnbq7 := NB580_581.out;have hncq7 := NB581_580.out;obtain ⟨hczq8_0,hczq8_1,hfzq8_0,hfzq8_1⟩ := cells2 BK580.out;obtain ⟨hczq9_0,hczq9_1,hczq9_2,hczq9_3,hczq9_4,hczq9_5,hfzq9_0,hfzq9_1,hfzq9_2,hfzq9_3,hfzq9_4,hfzq9_5⟩ := cells6 BK581.out) | ((with_reducible refine gate_callee (f := 38) rfl ?_);refine goesL_ (some 14) rfl rfl Try.func38 Z312 rfl #[.agg #[.int .i64 a0_0,.int .i64 a0_1,.int .i64 a0_2,.int .i64 a0_3,.int .i64 a0_4,.int .i64 a0_5,.int .i64 a0_6,.slice A0_7 l0_7.length c0_7],.agg #[.int .i64 a1_0,.int .i64 a1_1],.agg #[.int .i64 a2_0,.int .i64 a2_1,.int .i64 a2_2,.int .i64 a2_3,.int .i64 a2_4,.int .i64 a2_5]] rfl Z256 ?_;(with_reducible refine (impl_SideValues.calls k a0_0 a0_1 a0_2 a0_3 a0_4 a0_5 a0_6 _ _ l0_7 a1_0 a1_1 a2_0 a2_1 a2_2 a2_3 a2_4 a2_5 t582 t583 false _ ?side1 ?side2 A4.out).mono ?_);(case side1 => exact Z224);(case side2 => exact Z311);rintro e wq10 ⟨rfl,hb⟩;refine ⟨_,rfl,?_⟩;have n_ := Z85;clear BK579 BK580 BK581 HB;obtain ⟨BK579,BK580,BK581,HB⟩ := n_;(try clear hb);(try clear hb2);(try clear hk);(try clear hi);obtain ⟨hczq11_0,hczq11_1,hczq11_2,hczq11_3,hczq11_4,hczq11_5,hczq11_6,hczq11_7,hfzq11_0,hfzq11_1,hfzq11_2,hfzq11_3,hfzq11_4,hfzq11_5,hfzq11_6,hfzq11_7⟩ := cells8 BK579.out) | ((with_reducible refine gate_callee (f := 39) rfl ?_);refine goesL_ (some 19) rfl rfl Try.func39 Z312 rfl #[.agg #[.int .i64 a0_0,.int .i64 a0_1,.int .i64 a0_2,.int .i64 a0_3,.int .i64 a0_4,.int .i64 a0_5,.int .i64 a0_6,.slice A0_7 l0_7.length c0_7]] rfl Z256 ?_;(with_reducible refine (impl_ConfigOk.calls k a0_0 a0_1 a0_2 a0_3 a0_4 a0_5 a0_6 _ _ l0_7 true _ ?side1 ?side2 A5.out).mono ?_);(case side1 => exact Z224);(case side2 => exact Z311);rintro e wq12 ⟨rfl,hb⟩;refine ⟨_,rfl,?_⟩;have n_ := Z85;clear BK579 BK580 BK581 HB;obtain ⟨BK579,BK580,BK581,HB⟩ := n_;(try clear hb);(try clear hb2);(try clear hk);(try clear hi)))
   go_ret
   exact ⟨Z263,Z355⟩
 ·replace c6 := Bool.eq_false_iff.mpr c6
  subst c6
  rw [if_neg Bool.false_ne_true] at H
  obtain rfl := Option.some.inj H
  go_enter Try.func11,Try.ntmps11
  go_wp2_with (first | ((with_reducible refine gate_dst (N := 3) rfl ?_);refine bE 3 #[.int .i64 a0_0,.int .i64 a0_1,.int .i64 a0_2,.int .i64 a0_3,.int .i64 a0_4,.int .i64 a0_5,.int .i64 a0_6,.slice A0_7 l0_7.length c0_7] 33 (h := ?_);intro gb579 hg wq1 hbox hb;have n_ := Z101;clear HB;obtain ⟨HB,BK579,GW579,GE579⟩ := n_;clear hb hbox hg) | ((with_reducible refine gate_dst (N := 4) rfl ?_);refine bE 4 #[.int .i64 a1_0,.int .i64 a1_1] 35 (h := ?_);intro gb580 hg wq2 hbox hb;have n_ := Z56;clear BK579 HB;obtain ⟨BK579,HB,BK580,GW580,GE580,NB579_580,NB580_579⟩ := n_;clear hb hbox hg) | ((with_reducible refine gate_dst (N := 5) rfl ?_);refine bE 5 #[.int .i64 a2_0,.int .i64 a2_1,.int .i64 a2_2,.int .i64 a2_3,.int .i64 a2_4,.int .i64 a2_5] 39 (h := ?_);intro gb581 hg wq3 hbox hb;have n_ := Z26;clear BK579 BK580 HB;obtain ⟨BK579,BK580,HB,BK581,GW581,GE581,NB579_581,NB581_579,NB580_581,NB581_580⟩ := n_;clear hb hbox hg;have hnbq4 := NB579_580.out;have hncq4 := NB580_579.out;have hnbq5 := NB579_581.out;have hncq5 := NB581_579.out;obtain ⟨hczq6_0,hczq6_1,hczq6_2,hczq6_3,hczq6_4,hczq6_5,hczq6_6,hczq6_7,hfzq6_0,hfzq6_1,hfzq6_2,hfzq6_3,hfzq6_4,hfzq6_5,hfzq6_6,hfzq6_7⟩ := cells8 BK579.out;have hnbq7 := NB580_581.out;have hncq7 := NB581_580.out;obtain ⟨hczq8_0,hczq8_1,hfzq8_0,hfzq8_1⟩ := cells2 BK580.out;obtain ⟨hczq9_0,hczq9_1,hczq9_2,hczq9_3,hczq9_4,hczq9_5,hfzq9_0,hfzq9_1,hfzq9_2,hfzq9_3,hfzq9_4,hfzq9_5⟩ := cells6 BK581.out) | ((with_reducible refine gate_callee (f := 38) rfl ?_);refine goesL_ (some 14) rfl rfl Try.func38 Z312 rfl #[.agg #[.int .i64 a0_0,.int .i64 a0_1,.int .i64 a0_2,.int .i64 a0_3,.int .i64 a0_4,.int .i64 a0_5,.int .i64 a0_6,.slice A0_7 l0_7.length c0_7],.agg #[.int .i64 a1_0,.int .i64 a1_1],.agg #[.int .i64 a2_0,.int .i64 a2_1,.int .i64 a2_2,.int .i64 a2_3,.int .i64 a2_4,.int .i64 a2_5]] rfl Z256 ?_;(with_reducible refine (impl_SideValues.calls k a0_0 a0_1 a0_2 a0_3 a0_4 a0_5 a0_6 _ _ l0_7 a1_0 a1_1 a2_0 a2_1 a2_2 a2_3 a2_4 a2_5 t582 t583 t584 _ ?side1 ?side2 A4.out).mono ?_);(case side1 => exact Z224);(case side2 => exact Z311);rintro e wq10 ⟨rfl,hb⟩;refine ⟨_,rfl,?_⟩;have n_ := Z85;clear BK579 BK580 BK581 HB;obtain ⟨BK579,BK580,BK581,HB⟩ := n_;(try clear hb);(try clear hb2);(try clear hk);(try clear hi);obtain ⟨hczq11_0,hczq11_1,hczq11_2,hczq11_3,hczq11_4,hczq11_5,hczq11_6,hczq11_7,hfzq11_0,hfzq11_1,hfzq11_2,hfzq11_3,hfzq11_4,hfzq11_5,hfzq11_6,hfzq11_7⟩ := cells8 BK579.out) | ((with_reducible refine gate_callee (f := 39) rfl ?_);refine goesL_ (some 19) rfl rfl Try.func39 Z312 rfl #[.agg #[.int .i64 a0_0,.int .i64 a0_1,.int .i64 a0_2,.int .i64 a0_3,.int .i64 a0_4,.int .i64 a0_5,.int .i64 a0_6,.slice A0_7 l0_7.length c0_7]] rfl Z256 ?_;(with_reducible refine (impl_ConfigOk.calls k a0_0 a0_1 a0_2 a0_3 a0_4 a0_5 a0_6 _ _ l0_7 false _ ?side1 ?side2 A5.out).mono ?_);(case side1 => exact Z224);(case side2 => exact Z311);rintro e wq12 ⟨rfl,hb⟩;refine ⟨_,rfl,?_⟩;have n_ := Z85;clear BK579 BK580 BK581 HB;obtain ⟨BK579,BK580,BK581,HB⟩ := n_;(try clear hb);(try clear hb2);(try clear hk);(try clear hi)))
  go_ret
  exact ⟨Z263,Z355⟩

end Go.Proofs.Ytaepeajaefpooaa.QFnExactMayPart
