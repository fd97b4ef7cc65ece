/- The machine side of FnExactMayPart: what each Go function that it reaches comes to. Conditions: none. -/
import Derived.Test.YtaepeajaefpooaaQFnExactMayPartx0
import Derived.Test.YtaepeajaefpooaaQFnExactMayPartx9
import Derived.Test.YtaepeajaefpooaaQFnExactMayPartx10
import Derived.Test.YtaepeajaefpooaaQFnExactMayPartx11
namespace Go.Proofs.Ytaepeajaefpooaa.QFnExactMayPart
open Go.RowKit Go.Proofs.YtaepeajaefpooaaW.PrintWords Go.Proofs.YtaepeajaefpooaaW.PrintLast Go.Proofs.YtaepeajaefpooaaW.PrintMore
attribute [local go_sem] max2_int min2_int max_two min_two max_three min_three max_four min_four   -- for this text's walks alone
set_option linter.unusedVariables false
set_option linter.unusedSimpArgs false

/-! ### impl_compareSizes: function 154 -/
def impl_compareSizes.f (k : Nat) (a0_0 : Bool) (a0_1 : Int) (a0_2 : Int) (a1_0 : Bool) (a1_1 : Int) (a1_2 : Int) : Option (Int) := (cmp_Compare_uint64.f a0_1 a1_1).bind fun t450 => ((cmp_Compare_uint64.f a0_2 a1_2).bind fun t451 => ((cmp_Or_int.f k (([t450,t451] : List Int))).bind fun t455 => (some t455)))
theorem impl_compareSizes.mono : ∀ a0 a1 a2 a3 a4 a5 k,LeO (impl_compareSizes.f k a0 a1 a2 a3 a4 a5) (impl_compareSizes.f (k + 1) a0 a1 a2 a3 a4 a5) := by
 intro a0 a1 a2 a3 a4 a5 k
 unfold impl_compareSizes.f
 repeat' first
   | (with_reducible exact cmp_Or_int.mono _ _)
   | (with_reducible exact LeO.refl _)
   | (with_reducible exact LeO.none _)
   | (with_reducible refine LeO.ite ?_ ?_)
   | (with_reducible refine LeO.bind ?_ (fun _ => ?_))
   | exact cmp_Or_int.mono _ _
   | exact LeO.none _
   | refine LeO.ite ?_ ?_
   | refine LeO.bind ?_ (fun _ => ?_)
def impl_compareSizes.T1 : Bool × List (List Nat × List Nat) := (true,[([],[]),([0],[0]),([],[]),([2],[2]),([1,3],[1,3]),([],[]),([5],[5]),([],[]),([7],[7]),([6,8,4],[6,8]),([4,9],[4,9]),([10,9],[10]),([11,11,0,1,2,3,4,5,6,7,8,9,10,11],[11])])
def impl_compareSizes.B1 : List Nat := [0,1,0,4,15,0,32,0,128,511,1023,2047,4095]
theorem impl_compareSizes.tab1 : rtab .any (opsOf Try.f154 1) = impl_compareSizes.T1 := by kernel_rfl
theorem impl_compareSizes.bits1 : waitsOk impl_compareSizes.T1.2 impl_compareSizes.B1 = true := by kernel_rfl
set_option maxHeartbeats 8000000 in
set_option maxRecDepth 100000 in
theorem impl_compareSizes.calls (k : Nat) (a0_0 : Bool) (a0_1 : Int) (a0_2 : Int) (a1_0 : Bool) (a1_1 : Int) (a1_2 : Int) (r : Int) (w : World) (h : impl_compareSizes.f k a0_0 a0_1 a0_2 a1_0 a1_1 a1_2 = some r) :
  Calls Try.prog 154 #[.agg #[.bool a0_0,.int .u64 a0_1,.int .u64 a0_2],.agg #[.bool a1_0,.int .u64 a1_1,.int .u64 a1_2]] w fun e w' => e = .returned (.int .i64 r) ∧ Below w.heap.size w w' := by
 have hu100 := Try.underlying100
 have HB := Aside0.mk (Below.refl w.heap.size w)
 have H := h
 clear h
 unfold impl_compareSizes.f at H
 obtain ⟨t450,A30,H⟩ := Option.bind_eq_some_iff.mp H
 have A3 := Aside0.mk A30
 clear A30
 obtain ⟨t451,A40,H⟩ := Option.bind_eq_some_iff.mp H
 have A4 := Aside0.mk A40
 clear A40
 obtain ⟨y452,hy452⟩ : ∃ y_ : List Int,y_ = (([t450,t451] : List Int)) := ⟨_,rfl⟩
 replace H : ((cmp_Or_int.f k y452).bind fun t455 => (some t455)) = some r := by first | (rw [hy452];with_reducible exact H) | (have H2_ := (Option.bind_some _ _).symm.trans H;rw [hy452];with_reducible exact H2_) | (have H2_ := (Option.bind_some _ _).symm.trans H;with_reducible exact H2_) | with_reducible exact H | (rw [hy452];exact H) | exact H
 have Ny452 := Aside0.mk hy452
 clear hy452
 obtain ⟨t455,A50,H⟩ := Option.bind_eq_some_iff.mp H
 have A5 := Aside0.mk A50
 clear A50
 obtain rfl := Option.some.inj H
 go_enter Try.func154,Try.ntmps154
 try go_wp2_with (first | ((with_reducible refine gate_dst (N := 2) rfl ?_);refine bE 2 #[.bool a0_0,.int .u64 a0_1,.int .u64 a0_2] 100 (h := ?_);intro gb448 hg w6 hbox hb;have n_ := jA (below_step Z614 hb) (jA (hbox) (jA ((Z456 : w.heap.size ≤ gb448)) (Aside0.mk ((Z456 : w.heap.size ≤ gb448)))));clear HB;obtain ⟨HB,BK448,GW448,GE448⟩ := n_;clear hb hbox hg) | ((with_reducible refine gate_dst (N := 3) rfl ?_);refine bE 3 #[.bool a1_0,.int .u64 a1_1,.int .u64 a1_2] 100 (h := ?_);intro gb449 hg w7 hbox hb;have n_ := jA (blk_below (g := gb448) (o := .cells #[.bool a0_0,.int .u64 a0_1,.int .u64 a0_2] 100 (0,0)) Z300 hb) (jA (below_step Z464 hb) (jA (hbox) (jA ((Z207 : w.heap.size ≤ gb449)) (jA ((Z207 : w.heap.size ≤ gb449)) (jA ((by rw [hg];exact Nat.ne_of_lt (blk_lt (g := gb448) (o := .cells #[.bool a0_0,.int .u64 a0_1,.int .u64 a0_2] 100 (0,0)) Z300) : gb448 ≠ gb449)) (Aside0.mk ((by rw [hg];exact Nat.ne_of_gt (blk_lt (g := gb448) (o := .cells #[.bool a0_0,.int .u64 a0_1,.int .u64 a0_2] 100 (0,0)) Z300) : gb449 ≠ gb448))))))));clear BK448 HB;obtain ⟨BK448,HB,BK449,GW449,GE449,NB448_449,NB449_448⟩ := n_;clear hb hbox hg))
 have n0_ := Aside0.mk (blk_drew BK448.out)
 have n1_ := Aside0.mk (blk_drew BK449.out)
 have n2_ := Aside0.mk (below_drew1 HB.out)
 clear BK448
 clear BK449
 clear HB
 have BK448 := n0_
 have BK449 := n1_
 have HB := n2_
 clear n0_ n1_ n2_
 refine start_ (n := 13) (S := fun w' => w'.cell? ⟨gb448,0,none⟩ = some (.bool a0_0) ∧ w'.cell? ⟨gb448,1,none⟩ = some (.int .u64 a0_1) ∧ w'.cell? ⟨gb448,2,none⟩ = some (.int .u64 a0_2) ∧ w'.cell? ⟨gb449,0,none⟩ = some (.bool a1_0) ∧ w'.cell? ⟨gb449,1,none⟩ = some (.int .u64 a1_1) ∧ w'.cell? ⟨gb449,2,none⟩ = some (.int .u64 a1_2)) (ds := []) #[false,false,false,false,false,false,false,false,false,false,false,false,false] Z312 rfl rfl ⟨(blk_cell BK448.out 0).trans rfl,(blk_cell BK448.out 1).trans rfl,(blk_cell BK448.out 2).trans rfl,(blk_cell BK449.out 0).trans rfl,(blk_cell BK449.out 1).trans rfl,(blk_cell BK449.out 2).trans rfl⟩ (fun hHeld => ?_);refine with_tabW impl_compareSizes.tab1 impl_compareSizes.bits1 (fun HT_ HW_ => ?_)
 generalize w7.drew = w8 at BK448 BK449 HB hHeld ⊢
 refine pure_ (i := 0) (N := some 5) (v := ?_) (a' := ?_) #[true,false,false,false,false,false,false,false,false,false,false,false,false] rfl rfl (any_of HT_.out Z312) (fun _ _ _ h => h) (Or.inl ⟨Z314,?_⟩) ?_ ?_
 rotate_left
 ·intro w'
  go_simp
  with_reducible rfl
 rotate_left
 ·simp only [Act.put,List.setIfInBounds_toArray,List.set_cons_zero,List.set_cons_succ,i64_w,i32_w]
  rfl
 refine pure_ (i := 2) (N := some 7) (v := ?_) (a' := ?_) #[true,false,true,false,false,false,false,false,false,false,false,false,false] rfl rfl (any_of HT_.out Z312) (fun _ _ _ h => h) (Or.inl ⟨Z314,?_⟩) ?_ ?_
 rotate_left
 ·intro w'
  go_simp
  with_reducible rfl
 rotate_left
 ·simp only [Act.put,List.setIfInBounds_toArray,List.set_cons_zero,List.set_cons_succ,i64_w,i32_w]
  rfl
 refine pure_ (i := 5) (N := some 10) (v := ?_) (a' := ?_) #[true,false,true,false,false,true,false,false,false,false,false,false,false] rfl rfl (any_of HT_.out Z312) (fun _ _ _ h => h) (Or.inl ⟨Z314,?_⟩) ?_ ?_
 rotate_left
 ·intro w'
  go_simp
  with_reducible rfl
 rotate_left
 ·simp only [Act.put,List.setIfInBounds_toArray,List.set_cons_zero,List.set_cons_succ,i64_w,i32_w]
  rfl
 refine pure_ (i := 7) (N := some 12) (v := ?_) (a' := ?_) #[true,false,true,false,false,true,false,true,false,false,false,false,false] rfl rfl (any_of HT_.out Z312) (fun _ _ _ h => h) (Or.inl ⟨Z314,?_⟩) ?_ ?_
 rotate_left
 ·intro w'
  go_simp
  with_reducible rfl
 rotate_left
 ·simp only [Act.put,List.setIfInBounds_toArray,List.set_cons_zero,List.set_cons_succ,i64_w,i32_w]
  rfl
 refine take_ (i := 1) (N := some 6) (v := ?_) (a' := ?_) #[true,true,true,false,false,true,false,true,false,false,false,false,false] rfl rfl (take_ofW HT_.out HW_.out Z312) (fun _ _ _ h => h) (Or.inl ⟨Z314,?_⟩) hHeld ?_ ?_
 rotate_left
 ·rintro w' ⟨s0,s1,s2,s3,s4,s5⟩
  go_simp
  with_reducible rfl
 rotate_left
 ·simp only [Act.put,List.setIfInBounds_toArray,List.set_cons_zero,List.set_cons_succ,i64_w,i32_w]
  rfl
 refine take_ (i := 3) (N := some 8) (v := ?_) (a' := ?_) #[true,true,true,true,false,true,false,true,false,false,false,false,false] rfl rfl (take_ofW HT_.out HW_.out Z312) (fun _ _ _ h => h) (Or.inl ⟨Z314,?_⟩) hHeld ?_ ?_
 rotate_left
 ·rintro w' ⟨s0,s1,s2,s3,s4,s5⟩
  go_simp
  with_reducible rfl
 rotate_left
 ·simp only [Act.put,List.setIfInBounds_toArray,List.set_cons_zero,List.set_cons_succ,i64_w,i32_w]
  rfl
 refine take_ (i := 6) (N := some 11) (v := ?_) (a' := ?_) #[true,true,true,true,false,true,true,true,false,false,false,false,false] rfl rfl (take_ofW HT_.out HW_.out Z312) (fun _ _ _ h => h) (Or.inl ⟨Z314,?_⟩) hHeld ?_ ?_
 rotate_left
 ·rintro w' ⟨s0,s1,s2,s3,s4,s5⟩
  go_simp
  with_reducible rfl
 rotate_left
 ·simp only [Act.put,List.setIfInBounds_toArray,List.set_cons_zero,List.set_cons_succ,i64_w,i32_w]
  rfl
 refine take_ (i := 8) (N := some 13) (v := ?_) (a' := ?_) #[true,true,true,true,false,true,true,true,true,false,false,false,false] rfl rfl (take_ofW HT_.out HW_.out Z312) (fun _ _ _ h => h) (Or.inl ⟨Z314,?_⟩) hHeld ?_ ?_
 rotate_left
 ·rintro w' ⟨s0,s1,s2,s3,s4,s5⟩
  go_simp
  with_reducible rfl
 rotate_left
 ·simp only [Act.put,List.setIfInBounds_toArray,List.set_cons_zero,List.set_cons_succ,i64_w,i32_w]
  rfl
 refine one_ (i := 4) (N := some 9) #[true,true,true,true,true,true,true,true,true,false,false,false,false] rfl rfl (one_of HT_.out Z312) Z313 (fun K hK => ?_)
 refine goes_ Try.func167 Z312 rfl #[.int .u64 a0_1,.int .u64 a1_1] Z314 rfl rfl Z256 ?_
 with_reducible refine (cmp_Compare_uint64.calls a0_1 a1_1 t450 _ A3.out).mono ?_
 rintro e w' ⟨rfl,⟨nd,rfl⟩⟩
 refine ⟨_,rfl,?_⟩
 refine hK.out _ _ ⟨(blk_cell BK448.out 0).trans rfl,(blk_cell BK448.out 1).trans rfl,(blk_cell BK448.out 2).trans rfl,(blk_cell BK449.out 0).trans rfl,(blk_cell BK449.out 1).trans rfl,(blk_cell BK449.out 2).trans rfl⟩ (fun hHeld => ?_)
 clear hK K
 refine norm_ (a' := ?_) ?_ ?_
 rotate_left
 ·show Act.put _ (some 9) _ = _
  simp only [Act.put,List.setIfInBounds_toArray,List.set_cons_zero,List.set_cons_succ,i64_w,i32_w]
  rfl
 refine one_ (i := 9) (N := some 14) #[true,true,true,true,true,true,true,true,true,true,false,false,false] rfl rfl (one_of HT_.out Z312) Z313 (fun K hK => ?_)
 refine goes_ Try.func167 Z312 rfl #[.int .u64 a0_2,.int .u64 a1_2] Z314 rfl rfl Z256 ?_
 with_reducible refine (cmp_Compare_uint64.calls a0_2 a1_2 t451 _ A4.out).mono ?_
 rintro e w' ⟨rfl,⟨nd,rfl⟩⟩
 refine ⟨_,rfl,?_⟩
 refine hK.out _ _ ⟨(blk_cell BK448.out 0).trans rfl,(blk_cell BK448.out 1).trans rfl,(blk_cell BK448.out 2).trans rfl,(blk_cell BK449.out 0).trans rfl,(blk_cell BK449.out 1).trans rfl,(blk_cell BK449.out 2).trans rfl⟩ (fun hHeld => ?_)
 clear hK K
 refine norm_ (a' := ?_) ?_ ?_
 rotate_left
 ·show Act.put _ (some 14) _ = _
  simp only [Act.put,List.setIfInBounds_toArray,List.set_cons_zero,List.set_cons_succ,i64_w,i32_w]
  rfl
 refine one_ (i := 10) (N := some 15) #[true,true,true,true,true,true,true,true,true,true,true,false,false] rfl rfl (one_of HT_.out Z312) Z313 (fun K hK => ?_)
 refine Kd.R_lit_step (Kd.int .i64) _ 3 ?hg (N := 15) ?hd (xs := ([t450,t451] : List Int)) (inner := [.int .i64 t450,.int .i64 t451]) (ok := fun _ => True) (okp := fun _ => True) ?hr ?hp (fun _ hk => hk) trivial (Below.refl _ _) (Nat.le_refl _) Z553 ?_;(case hd => rfl);(case hg => rfl);(case hr => exact Z290);(case hp => exact (Reps.one (show Kd.M (Kd.int .i64) _ _ _ t450 [.int .i64 t450] from rfl) (Reps.one (show Kd.M (Kd.int .i64) _ _ _ t451 [.int .i64 t451] from rfl) (Reps.none _ _))))
 intro v453 w9 ho10 hb hg_ hnew_
 clear hg_ hnew_
 (first | rw [← Ny452.out] at ho10 | (simp only [Int.reduceToNat] at ho10;rw [← Ny452.out] at ho10))
 have n0_ := Aside0.mk (Kd.R_lower ho10 (below_size Z201))
 have n1_ := Aside0.mk (blk_below (g := gb448) (o := .cells #[.bool a0_0,.int .u64 a0_1,.int .u64 a0_2] 100 (0,0)) Z300 hb)
 have n2_ := Aside0.mk (blk_below (g := gb449) (o := .cells #[.bool a1_0,.int .u64 a1_1,.int .u64 a1_2] 100 (0,0)) (by refine bP ?_;exact BK449.out) hb)
 have n3_ := Aside0.mk (below_step Z201 hb)
 clear BK448
 clear BK449
 clear HB
 have HO454 := n0_
 have BK448 := n1_
 have BK449 := n2_
 have HB := n3_
 clear n0_ n1_ n2_ n3_
 clear hb ho10
 obtain ⟨Ao11,co11,eo11⟩ := Kd.R_slice HO454.out
 (first | subst eo11 | (injection eo11 with f1_ f2_ f3_;have f4_ := f1_.symm;have f5_ := f3_.symm;clear f1_ f2_ f3_;subst f4_;subst f5_))
 refine hK.out _ _ ⟨(blk_cell BK448.out 0).trans rfl,(blk_cell BK448.out 1).trans rfl,(blk_cell BK448.out 2).trans rfl,(blk_cell BK449.out 0).trans rfl,(blk_cell BK449.out 1).trans rfl,(blk_cell BK449.out 2).trans rfl⟩ (fun hHeld => ?_)
 clear hK K
 refine norm_ (a' := ?_) ?_ ?_
 rotate_left
 ·show Act.put _ (some 15) _ = _
  simp only [Act.put,List.setIfInBounds_toArray,List.set_cons_zero,List.set_cons_succ,i64_w,i32_w]
  rfl
 refine one_ (i := 11) (N := some 16) #[true,true,true,true,true,true,true,true,true,true,true,true,false] rfl rfl (one_of HT_.out Z312) Z313 (fun K hK => ?_)
 refine goes_ Try.func166 Z312 rfl #[.slice Ao11 y452.length co11] Z314 rfl rfl Z256 ?_
 with_reducible refine (cmp_Or_int.calls k _ _ y452 t455 _ ?side1 ?side2 A5.out).mono ?_
 (case side1 => repeat (first | exact (Kd.R_reads' HO454.out).2.2 | (with_reducible refine Kd.C_alloc ?_ _) | (with_reducible refine Kd.C_drewN ?_ _) | (with_reducible refine Kd.C_drew ?_)))
 (case side2 => exact (Kd.R_reads' HO454.out).2.1)
 rintro e w' ⟨rfl,⟨nd,rfl⟩⟩
 refine ⟨_,rfl,?_⟩
 refine hK.out _ _ ⟨(blk_cell BK448.out 0).trans rfl,(blk_cell BK448.out 1).trans rfl,(blk_cell BK448.out 2).trans rfl,(blk_cell BK449.out 0).trans rfl,(blk_cell BK449.out 1).trans rfl,(blk_cell BK449.out 2).trans rfl⟩ (fun hHeld => ?_)
 clear hK K
 refine norm_ (a' := ?_) ?_ ?_
 rotate_left
 ·show Act.put _ (some 16) _ = _
  simp only [Act.put,List.setIfInBounds_toArray,List.set_cons_zero,List.set_cons_succ,i64_w,i32_w]
  rfl
 refine pure_ (i := 12) (N := some 4) (v := ?_) (a' := ?_) #[true,true,true,true,true,true,true,true,true,true,true,true,true] rfl rfl (any_of HT_.out Z312) (fun _ _ _ h => h) (Or.inl ⟨Z314,?_⟩) ?_ ?_
 rotate_left
 ·intro w'
  go_simp
  with_reducible rfl
 rotate_left
 ·simp only [Act.put,List.setIfInBounds_toArray,List.set_cons_zero,List.set_cons_succ,i64_w,i32_w]
  rfl
 refine done_ (done_of HT_.out Z312) ?_
 try go_wp2
 go_ret
 exact ⟨Z263,Z201⟩

/-! ### bits_Sub64: function 162: the model stands in for it -/
def bits_Sub64.f (a0 : Int) (a1 : Int) (a2 : Int) : Option (Int × Int) := if 0 ≤ a0 ∧ 0 ≤ a1 ∧ a1 < 18446744073709551616 ∧ 0 ≤ a2 ∧ a2 ≤ 1 then some ((a0 + 18446744073709551616 - a1 - a2) % 18446744073709551616,if a0 < a1 + a2 then 1 else 0) else none
def sub64E : Array Value → Sem Value := fun args => do
 let (x,y,b) ← Extern.MathBitsCarry.three "Sub64" args
 pure (Extern.MathBitsCarry.pair ((x + Extern.MathBitsCarry.m64 - y - b) % Extern.MathBitsCarry.m64) (if x < y + b then 1 else 0))
theorem run_sub64E {P : Program} (x y b : Nat) (hb : b ≤ 1) (w : World) : (sub64E #[.int .u64 x,.int .u64 y,.int .u64 b]).run P w = .ok (.tuple #[.int .u64 (((x + 18446744073709551616 - y - b) % 18446744073709551616 : Nat) : Int),.int .u64 ((if x < y + b then 1 else 0 : Nat) : Int)]) w := by
 have : b = 0 ∨ b = 1 := by omega
 rcases this with rfl | rfl <;> rfl
theorem bits_Sub64.run (a0 a1 a2 r1 r2 : Int) (h : bits_Sub64.f a0 a1 a2 = some (r1,r2)) (w : World) : (callFunc 162 #[.int .u64 a0,.int .u64 a1,.int .u64 a2]).run Try.prog w = .ok (.value (.tuple #[.int .u64 r1,.int .u64 r2])) w := by
 unfold bits_Sub64.f at h
 split at h
 ·rename_i g
  simp only [Option.some.injEq,Prod.mk.injEq] at h
  obtain ⟨rfl,rfl⟩ := h
  obtain ⟨g0,g1,g4,g2,g3⟩ := g
  obtain ⟨x,rfl⟩ := Int.eq_ofNat_of_zero_le g0
  obtain ⟨y,rfl⟩ := Int.eq_ofNat_of_zero_le g1
  obtain ⟨b,rfl⟩ := Int.eq_ofNat_of_zero_le g2
  rw [run_callFunc_extern Try.func162 Z312 Z312 Z312 (e := sub64E) Z312,run_sub64E x y b (by omega)]
  have e1 : (((x + 18446744073709551616 - y - b) % 18446744073709551616 : Nat) : Int) = ((x : Int) + 18446744073709551616 - y - b) % 18446744073709551616 := by omega
  have e2 : ((if x < y + b then 1 else 0 : Nat) : Int) = if (x : Int) < y + b then 1 else 0 := by by_cases c : x < y + b <;> simp [c] <;> omega
  rw [e1,e2]
  rfl
 ·simp at h

/-! ### impl_AddWide: function 147 -/
def impl_AddWide.j0 : Nat → Bool → Bool → Int → Int → Bool → Int → Int → Option (Bool × Int × Int × Bool)
 | 0,_,_,_,_,_,_,_ => none
 | k + 1,x22,x457000,x457001,x457002,x458000,x458001,x458002 => if x22 = true then (some (false,0,0,false)) else (if (x457000 != x458000) = true then ((impl_compareSizes.f k x457000 x457001 x457002 x458000 x458001 x458002).bind fun t461 => (if t461 < 0 then ((bits_Sub64.f x458002 x457002 0).bind fun bt462 => ((bits_Sub64.f x458001 x457001 bt462.2).bind fun bt464 => ((impl_wideOf.f x458000 bt464.1 bt462.1).bind fun bt466 => (some (bt466.1,bt466.2.1,bt466.2.2,true))))) else ((bits_Sub64.f x457002 x458002 0).bind fun bt469 => ((bits_Sub64.f x457001 x458001 bt469.2).bind fun bt471 => ((impl_wideOf.f x457000 bt471.1 bt469.1).bind fun bt473 => (some (bt473.1,bt473.2.1,bt473.2.2,true))))))) else ((bits_Add64.f x457002 x458002 0).bind fun bt476 => ((bits_Add64.f x457001 x458001 bt476.2).bind fun bt478 => ((impl_wideOf.f x457000 bt478.1 bt476.1).bind fun bt480 => ((impl_WideOk.f bt480.1 bt480.2.1 bt480.2.2).bind fun t484 => (if t484 = true then (some (bt480.1,bt480.2.1,bt480.2.2,true)) else (some (false,0,0,false))))))))
def impl_AddWide.f (k : Nat) (a0_0 : Bool) (a0_1 : Int) (a0_2 : Int) (a1_0 : Bool) (a1_1 : Int) (a1_2 : Int) : Option (Bool × Int × Int × Bool) := (impl_WideOk.f a0_0 a0_1 a0_2).bind fun t459 => (if t459 = true then ((impl_WideOk.f a1_0 a1_1 a1_2).bind fun t460 => (impl_AddWide.j0 k (!t460) a0_0 a0_1 a0_2 a1_0 a1_1 a1_2)) else (impl_AddWide.j0 k true a0_0 a0_1 a0_2 a1_0 a1_1 a1_2))
theorem impl_AddWide.mono_l : ∀ k,(∀ y0 y1 y2 y3 y4 y5 y6,LeO (impl_AddWide.j0 k y0 y1 y2 y3 y4 y5 y6) (impl_AddWide.j0 (k + 1) y0 y1 y2 y3 y4 y5 y6))
 | 0 => fun _ _ _ _ _ _ _ r h => by simp [impl_AddWide.j0] at h
 | k + 1 => by
  have ih0 := impl_AddWide.mono_l k
  ·intro y0 y1 y2 y3 y4 y5 y6
   unfold impl_AddWide.j0
   repeat' first
   | (with_reducible exact ih0 _ _ _ _ _ _ _)
   | (with_reducible exact impl_compareSizes.mono _ _ _ _ _ _ _)
   | (with_reducible exact LeO.refl _)
   | (with_reducible exact LeO.none _)
   | (with_reducible refine LeO.ite ?_ ?_)
   | (with_reducible refine LeO.bind ?_ (fun _ => ?_))
   | exact ih0 _ _ _ _ _ _ _
   | exact impl_compareSizes.mono _ _ _ _ _ _ _
   | exact LeO.none _
   | refine LeO.ite ?_ ?_
   | refine LeO.bind ?_ (fun _ => ?_)
theorem impl_AddWide.mono : ∀ a0 a1 a2 a3 a4 a5 k,LeO (impl_AddWide.f k a0 a1 a2 a3 a4 a5) (impl_AddWide.f (k + 1) a0 a1 a2 a3 a4 a5) := by
 intro a0 a1 a2 a3 a4 a5 k
 have ih0 := impl_AddWide.mono_l k
 unfold impl_AddWide.f
 repeat' first
   | (with_reducible exact ih0 _ _ _ _ _ _ _)
   | (with_reducible exact impl_compareSizes.mono _ _ _ _ _ _ _)
   | (with_reducible exact LeO.refl _)
   | (with_reducible exact LeO.none _)
   | (with_reducible refine LeO.ite ?_ ?_)
   | (with_reducible refine LeO.bind ?_ (fun _ => ?_))
   | exact ih0 _ _ _ _ _ _ _
   | exact impl_compareSizes.mono _ _ _ _ _ _ _
   | exact LeO.none _
   | refine LeO.ite ?_ ?_
   | refine LeO.bind ?_ (fun _ => ?_)
set_option maxHeartbeats 8000000 in
set_option maxRecDepth 100000 in
theorem impl_AddWide.calls (k : Nat) (a0_0 : Bool) (a0_1 : Int) (a0_2 : Int) (a1_0 : Bool) (a1_1 : Int) (a1_2 : Int) (r1 : Bool) (r2 : Int) (r3 : Int) (r4 : Bool) (w : World) (h : impl_AddWide.f k a0_0 a0_1 a0_2 a1_0 a1_1 a1_2 = some (r1,r2,r3,r4)) :
  Calls Try.prog 147 #[.agg #[.bool a0_0,.int .u64 a0_1,.int .u64 a0_2],.agg #[.bool a1_0,.int .u64 a1_1,.int .u64 a1_2]] w fun e w' => e = .returned (.tuple #[.agg #[.bool r1,.int .u64 r2,.int .u64 r3],.bool r4]) ∧ Below w.heap.size w w' := by
 have hu100 := Try.underlying100
 have HB := Aside0.mk (Below.refl w.heap.size w)
 have H := h
 clear h
 unfold impl_AddWide.f at H
 have HC3 := Aside0.mk H
 clear H
 go_enter Try.func147,Try.ntmps147
 go_upto_region 1 with (first | ((with_reducible refine gate_dst (N := 2) rfl ?_);refine bE 2 #[.bool a0_0,.int .u64 a0_1,.int .u64 a0_2] 100 (h := ?_);intro gb456 hg w4 hbox hb;have n_ := jA (below_step Z614 hb) (jA (hbox) (jA ((Z456 : w.heap.size ≤ gb456)) (Aside0.mk ((Z456 : w.heap.size ≤ gb456)))));clear HB;obtain ⟨HB,BK456,GW456,GE456⟩ := n_;clear hb hbox hg) | ((with_reducible refine gate_dst (N := 3) rfl ?_);refine bE 3 #[.bool a1_0,.int .u64 a1_1,.int .u64 a1_2] 100 (h := ?_);intro gb457 hg w5 hbox hb;have n_ := jA (blk_below (g := gb456) (o := .cells #[.bool a0_0,.int .u64 a0_1,.int .u64 a0_2] 100 (0,0)) Z621 hb) (jA (below_step Z463 hb) (jA (hbox) (jA ((Z206 : w.heap.size ≤ gb457)) (jA ((Z206 : w.heap.size ≤ gb457)) (jA ((Z490 : gb456 ≠ gb457)) (Aside0.mk ((Z491 : gb457 ≠ gb456))))))));clear BK456 HB;obtain ⟨BK456,HB,BK457,GW457,GE457,NB456_457,NB457_456⟩ := n_;clear hb hbox hg) | ((with_reducible refine gate_dst (N := 4) rfl ?_);refine bE 4 #[.bool false,.int .u64 0,.int .u64 0] 100 (h := ?_);intro gb458 hg w6 hbox hb;have n_ := jA (blk_below (g := gb456) (o := .cells #[.bool a0_0,.int .u64 a0_1,.int .u64 a0_2] 100 (0,0)) Z621 hb) (jA (blk_below (g := gb457) (o := .cells #[.bool a1_0,.int .u64 a1_1,.int .u64 a1_2] 100 (0,0)) Z627 hb) (jA (below_step Z395 hb) (jA (hbox) (jA ((Z182 : w.heap.size ≤ gb458)) (jA ((Z182 : w.heap.size ≤ gb458)) (jA ((Z490 : gb456 ≠ gb458)) (jA ((Z491 : gb458 ≠ gb456)) (jA ((Z492 : gb457 ≠ gb458)) (Aside0.mk ((Z496 : gb458 ≠ gb457)))))))))));clear BK456 BK457 HB;obtain ⟨BK456,BK457,HB,BK458,GW458,GE458,NB456_458,NB458_456,NB457_458,NB458_457⟩ := n_;clear hb hbox hg))
 (try simp only [Act.put,List.setIfInBounds_toArray,List.set_cons_zero,List.set_cons_succ])
 go_cut [22] (fun v22 wc => ∃ (kq : Nat) (x22_2 : Bool),v22 = .bool x22_2 ∧ Aside0 (impl_AddWide.j0 kq x22_2 a0_0 a0_1 a0_2 a1_0 a1_1 a1_2 = some (r1,r2,r3,r4)) ∧ Aside0 (kq ≤ k) ∧ Aside0 (wc.heap[gb456]? = some (.cells #[.bool a0_0,.int .u64 a0_1,.int .u64 a0_2] 100 (0,0))) ∧ Aside0 (wc.heap[gb457]? = some (.cells #[.bool a1_0,.int .u64 a1_1,.int .u64 a1_2] 100 (0,0))) ∧ Aside0 (wc.heap[gb458]? = some (.cells #[.bool false,.int .u64 0,.int .u64 0] 100 (0,0))) ∧ Aside0 (Below w.heap.size w wc))
 case first =>
  have H := HC3.out
  clear HC3
  obtain ⟨t459,A70,H⟩ := Option.bind_eq_some_iff.mp H
  have A7 := Aside0.mk A70
  clear A70
  by_cases c8 : t459 = true
  ·subst c8
   rw [if_pos rfl] at H
   obtain ⟨t460,A90,H⟩ := Option.bind_eq_some_iff.mp H
   have A9 := Aside0.mk A90
   clear A90
   have H' := Aside0.mk H
   clear H
   have hnb10 := NB456_457.out
   have hnc10 := NB457_456.out
   have hnb11 := NB456_458.out
   have hnc11 := NB458_456.out
   obtain ⟨hcz12_0,hcz12_1,hcz12_2,hfz12_0,hfz12_1,hfz12_2⟩ := cells3 BK456.out
   go_wp2_with (first | ((with_reducible refine gate_callee (f := 161) rfl ?_);refine goesL_ (some 16) rfl rfl Try.func161 Z312 rfl #[.agg #[.bool a0_0,.int .u64 a0_1,.int .u64 a0_2]] rfl Z256 ?_;(with_reducible refine (impl_WideOk.calls a0_0 a0_1 a0_2 true _ A7.out).mono ?_);rintro e w13 ⟨rfl,hb⟩;refine ⟨_,rfl,?_⟩;have n_ := Z94;clear BK456 BK457 BK458 HB;obtain ⟨BK456,BK457,BK458,HB⟩ := n_;(try clear hb);(try clear hb2);(try clear hk);(try clear hi);have hnb14 := NB457_458.out;have hnc14 := NB458_457.out;obtain ⟨hcz15_0,hcz15_1,hcz15_2,hfz15_0,hfz15_1,hfz15_2⟩ := cells3 BK457.out) | (go_at_call 161;(with_reducible refine (impl_WideOk.calls a1_0 a1_1 a1_2 t460 _ A9.out).mono ?_);rintro e w16 ⟨rfl,hb⟩;have n_ := Z94;clear BK456 BK457 BK458 HB;obtain ⟨BK456,BK457,BK458,HB⟩ := n_;(try clear hb);(try clear hb2);(try clear hk);(try clear hi)))
   go_meet
   case rel => exact ⟨_,(!t460),Z289,H',⟨Z291⟩,⟨Z621⟩,⟨Z627⟩,⟨Z521⟩,⟨Z564⟩⟩
  ·replace c8 := Bool.eq_false_iff.mpr c8
   subst c8
   rw [if_neg Bool.false_ne_true] at H
   have H' := Aside0.mk H
   clear H
   have hnb17 := NB456_457.out
   have hnc17 := NB457_456.out
   have hnb18 := NB456_458.out
   have hnc18 := NB458_456.out
   obtain ⟨hcz19_0,hcz19_1,hcz19_2,hfz19_0,hfz19_1,hfz19_2⟩ := cells3 BK456.out
   go_wp2_with (first | ((with_reducible refine gate_callee (f := 161) rfl ?_);refine goesL_ (some 16) rfl rfl Try.func161 Z312 rfl #[.agg #[.bool a0_0,.int .u64 a0_1,.int .u64 a0_2]] rfl Z256 ?_;(with_reducible refine (impl_WideOk.calls a0_0 a0_1 a0_2 false _ A7.out).mono ?_);rintro e w20 ⟨rfl,hb⟩;refine ⟨_,rfl,?_⟩;have n_ := Z94;clear BK456 BK457 BK458 HB;obtain ⟨BK456,BK457,BK458,HB⟩ := n_;(try clear hb);(try clear hb2);(try clear hk);(try clear hi)))
   go_meet
   case rel => exact ⟨_,(true),Z289,H',⟨Z291⟩,⟨Z621⟩,⟨Z627⟩,⟨Z521⟩,⟨Z564⟩⟩
 case rest =>
  clear HC3
  try clear c1
  try clear p2
  try clear c8
  try clear c10
  try clear c11
  try clear c14
  try clear c16
  try clear c17
  try clear c18
  try clear hcz12_0
  try clear hcz12_1
  try clear hcz12_2
  try clear hcz15_0
  try clear hcz15_1
  try clear hcz15_2
  try clear hcz19_0
  try clear hcz19_1
  try clear hcz19_2
  try clear hfz12_0
  try clear hfz12_1
  try clear hfz12_2
  try clear hfz15_0
  try clear hfz15_1
  try clear hfz15_2
  try clear hfz19_0
  try clear hfz19_1
  try clear hfz19_2
  obtain ⟨kq,x22_2,rfl,HA,HJ2,BK456,BK457,BK458,HB⟩ := hcut
  cases kq with
  | zero => exact absurd HA.out (by simp [impl_AddWide.j0])
  | succ kj2 =>
   have H := HA.out
   clear HA
   simp only [impl_AddWide.j0] at H
   by_cases c21 : x22_2 = true
   ·subst c21
    rw [if_pos rfl] at H
    simp only [Option.some.injEq,Prod.mk.injEq] at H
    obtain ⟨rfl,rfl,rfl,rfl⟩ := H
    have hnb22 := NB458_456.out
    have hnc22 := NB456_458.out
    have hnb23 := NB458_457.out
    have hnc23 := NB457_458.out
    obtain ⟨hcz24_0,hcz24_1,hcz24_2,hfz24_0,hfz24_1,hfz24_2⟩ := cells3 BK458.out
    go_wp2
    refine bodyPost_ret (results_ct rfl _ _ gb458 100 #[.bool false,.int .u64 0,.int .u64 0] (0,0) _ rfl Z165 Try.underlying100 rfl Z312) rfl ?_
    exact ⟨Z263,Z564⟩
   ·replace c21 := Bool.eq_false_iff.mpr c21
    subst c21
    rw [if_neg Bool.false_ne_true] at H
    by_cases c25 : (a0_0 != a1_0) = true
    ·rw [if_pos c25] at H
     have c25b0 : (a0_0 != a1_0) = true := c25
     (try (have c25b1 : decide (a0_0 = a1_0) = false := by simpa using c25))
     (try (have c25b2 : (a0_0 == a1_0) = false := by simpa using c25))
     (try (have c25b3 : ¬ (a0_0 = a1_0) := by simpa using c25))
     clear c25
     obtain ⟨t461,A260,H⟩ := Option.bind_eq_some_iff.mp H
     have A26 := Aside0.mk A260
     clear A260
     by_cases c27 : t461 < 0
     ·rw [if_pos c27] at H
      have c27b0 : decide (t461 < 0) = true := decide_eq_true c27
      clear c27
      obtain ⟨⟨t462,t463⟩,A280,H⟩ := Option.bind_eq_some_iff.mp H
      try dsimp only at H
      have A28 := Aside0.mk A280
      clear A280
      obtain ⟨⟨t464,t465⟩,A290,H⟩ := Option.bind_eq_some_iff.mp H
      try dsimp only at H
      have A29 := Aside0.mk A290
      clear A290
      obtain ⟨⟨t466,t467,t468⟩,A300,H⟩ := Option.bind_eq_some_iff.mp H
      try dsimp only at H
      have A30 := Aside0.mk A300
      clear A300
      simp only [Option.some.injEq,Prod.mk.injEq] at H
      obtain ⟨rfl,rfl,rfl,rfl⟩ := H
      have hnb31 := NB456_457.out
      have hnc31 := NB457_456.out
      have hnb32 := NB456_458.out
      have hnc32 := NB458_456.out
      obtain ⟨hcz33_0,hcz33_1,hcz33_2,hfz33_0,hfz33_1,hfz33_2⟩ := cells3 BK456.out
      have hnb34 := NB457_458.out
      have hnc34 := NB458_457.out
      obtain ⟨hcz35_0,hcz35_1,hcz35_2,hfz35_0,hfz35_1,hfz35_2⟩ := cells3 BK457.out
      go_wp2_with (first | ((with_reducible refine gate_callee (f := 154) rfl ?_);refine goesL_ (some 31) rfl rfl Try.func154 Z312 rfl #[.agg #[.bool a0_0,.int .u64 a0_1,.int .u64 a0_2],.agg #[.bool a1_0,.int .u64 a1_1,.int .u64 a1_2]] rfl Z256 ?_;(with_reducible refine (impl_compareSizes.calls kj2 a0_0 a0_1 a0_2 a1_0 a1_1 a1_2 t461 _ A26.out).mono ?_);rintro e wq1 ⟨rfl,hb⟩;refine ⟨_,rfl,?_⟩;have n_ := Z94;clear BK456 BK457 BK458 HB;obtain ⟨BK456,BK457,BK458,HB⟩ := n_;(try clear hb);(try clear hb2);(try clear hk);(try clear hi);obtain ⟨hczq2_0,hczq2_1,hczq2_2,hfzq2_0,hfzq2_1,hfzq2_2⟩ := cells3 BK457.out;obtain ⟨hczq3_0,hczq3_1,hczq3_2,hfzq3_0,hfzq3_1,hfzq3_2⟩ := cells3 BK456.out) | (simp only [bits_Sub64.run a1_2 a0_2 0 t462 t463 A28.out]) | (simp only [bits_Sub64.run a1_1 a0_1 t463 t464 t465 A29.out]) | ((with_reducible refine gate_callee (f := 153) rfl ?_);refine goesL_ (some 56) rfl rfl Try.func153 Z312 rfl #[.bool a1_0,.int .u64 t464,.int .u64 t462] rfl Z256 ?_;(with_reducible refine (impl_wideOf.calls a1_0 t464 t462 t466 t467 t468 _ A30.out).mono ?_);rintro e wq4 ⟨rfl,hb⟩;refine ⟨_,rfl,?_⟩;have n_ := jA (blk_below (g := gb456) (o := .cells #[.bool a1_0,.int .u64 a1_1,.int .u64 a1_2] 100 (0,0)) (by refine bP ?_;refine blk_far ?_ NB456_457.out _;refine bP ?_;refine blk_far ?_ NB456_457.out _;refine bP ?_;refine blk_far ?_ NB456_457.out _;refine bP ?_;refine blk_put (cs := #[.bool a1_0,.int .u64 a1_1,.int .u64 a0_2]) ?_ 2 _ rfl;refine bP ?_;refine blk_put (cs := #[.bool a1_0,.int .u64 a0_1,.int .u64 a0_2]) ?_ 1 _ rfl;refine bP ?_;refine blk_put (cs := #[.bool a0_0,.int .u64 a0_1,.int .u64 a0_2]) ?_ 0 _ rfl;refine bP ?_;exact BK456.out) hb) (jA (blk_below (g := gb457) (o := .cells #[.bool a0_0,.int .u64 a0_1,.int .u64 a0_2] 100 (0,0)) (by refine bP ?_;refine blk_put (cs := #[.bool a0_0,.int .u64 a0_1,.int .u64 a1_2]) ?_ 2 _ rfl;refine bP ?_;refine blk_put (cs := #[.bool a0_0,.int .u64 a1_1,.int .u64 a1_2]) ?_ 1 _ rfl;refine bP ?_;refine blk_put (cs := #[.bool a1_0,.int .u64 a1_1,.int .u64 a1_2]) ?_ 0 _ rfl;refine bP ?_;refine blk_far ?_ NB457_456.out _;refine bP ?_;refine blk_far ?_ NB457_456.out _;refine bP ?_;refine blk_far ?_ NB457_456.out _;refine bP ?_;exact BK457.out) hb) (jA (blk_below (g := gb458) (o := .cells #[.bool false,.int .u64 0,.int .u64 0] 100 (0,0)) (by refine bP ?_;refine blk_far ?_ NB458_457.out _;refine bP ?_;refine blk_far ?_ NB458_457.out _;refine bP ?_;refine blk_far ?_ NB458_457.out _;refine bP ?_;refine blk_far ?_ NB458_456.out _;refine bP ?_;refine blk_far ?_ NB458_456.out _;refine bP ?_;refine blk_far ?_ NB458_456.out _;refine bP ?_;exact BK458.out) hb) (Aside0.mk (below_step Z564 hb))));clear BK456 BK457 BK458 HB;obtain ⟨BK456,BK457,BK458,HB⟩ := n_;(try clear hb);(try clear hb2);(try clear hk);(try clear hi);obtain ⟨hczq5_0,hczq5_1,hczq5_2,hfzq5_0,hfzq5_1,hfzq5_2⟩ := cells3 BK458.out))
      refine bodyPost_ret (results_ct rfl _ _ gb458 100 #[.bool t466,.int .u64 t467,.int .u64 t468] (0,0) _ rfl (by refine bP ?_;refine blk_put (cs := #[.bool t466,.int .u64 t467,.int .u64 0]) ?_ 2 _ rfl;refine bP ?_;refine blk_put (cs := #[.bool t466,.int .u64 0,.int .u64 0]) ?_ 1 _ rfl;refine bP ?_;refine blk_put (cs := #[.bool false,.int .u64 0,.int .u64 0]) ?_ 0 _ rfl;refine bP ?_;exact BK458.out) Try.underlying100 rfl Z312) rfl ?_
      exact ⟨Z263,Z564⟩
     ·rw [if_neg c27] at H
      have c27b0 : decide (t461 < 0) = false := decide_eq_false c27
      clear c27
      obtain ⟨⟨t469,t470⟩,A410,H⟩ := Option.bind_eq_some_iff.mp H
      try dsimp only at H
      have A41 := Aside0.mk A410
      clear A410
      obtain ⟨⟨t471,t472⟩,A420,H⟩ := Option.bind_eq_some_iff.mp H
      try dsimp only at H
      have A42 := Aside0.mk A420
      clear A420
      obtain ⟨⟨t473,t474,t475⟩,A430,H⟩ := Option.bind_eq_some_iff.mp H
      try dsimp only at H
      have A43 := Aside0.mk A430
      clear A430
      simp only [Option.some.injEq,Prod.mk.injEq] at H
      obtain ⟨rfl,rfl,rfl,rfl⟩ := H
      have hnb44 := NB456_457.out
      have hnc44 := NB457_456.out
      have hnb45 := NB456_458.out
      have hnc45 := NB458_456.out
      obtain ⟨hcz46_0,hcz46_1,hcz46_2,hfz46_0,hfz46_1,hfz46_2⟩ := cells3 BK456.out
      have hnb47 := NB457_458.out
      have hnc47 := NB458_457.out
      obtain ⟨hcz48_0,hcz48_1,hcz48_2,hfz48_0,hfz48_1,hfz48_2⟩ := cells3 BK457.out
      go_wp2_with (first | ((with_reducible refine gate_callee (f := 154) rfl ?_);refine goesL_ (some 31) rfl rfl Try.func154 Z312 rfl #[.agg #[.bool a0_0,.int .u64 a0_1,.int .u64 a0_2],.agg #[.bool a1_0,.int .u64 a1_1,.int .u64 a1_2]] rfl Z256 ?_;(with_reducible refine (impl_compareSizes.calls kj2 a0_0 a0_1 a0_2 a1_0 a1_1 a1_2 t461 _ A26.out).mono ?_);rintro e wq1 ⟨rfl,hb⟩;refine ⟨_,rfl,?_⟩;have n_ := Z94;clear BK456 BK457 BK458 HB;obtain ⟨BK456,BK457,BK458,HB⟩ := n_;(try clear hb);(try clear hb2);(try clear hk);(try clear hi);obtain ⟨hczq2_0,hczq2_1,hczq2_2,hfzq2_0,hfzq2_1,hfzq2_2⟩ := cells3 BK456.out;obtain ⟨hczq3_0,hczq3_1,hczq3_2,hfzq3_0,hfzq3_1,hfzq3_2⟩ := cells3 BK457.out) | (simp only [bits_Sub64.run a0_2 a1_2 0 t469 t470 A41.out];(iterate 4 (try (rw [drewN_self wq1];generalize hq_ : World.drewN wq1 _ = wq1;have n0_ : Aside0 (wq1.heap[gb456]? = some (.cells #[.bool a0_0,.int .u64 a0_1,.int .u64 a0_2] 100 (0,0))) := ⟨Z277⟩;have n1_ : Aside0 (wq1.heap[gb457]? = some (.cells #[.bool a1_0,.int .u64 a1_1,.int .u64 a1_2] 100 (0,0))) := ⟨Z276⟩;have n2_ : Aside0 (wq1.heap[gb458]? = some (.cells #[.bool false,.int .u64 0,.int .u64 0] 100 (0,0))) := ⟨Z275⟩;have n3_ : Aside0 (Below w.heap.size w wq1) := ⟨Z176⟩;clear BK456 BK457 BK458 HB hq_;have BK456 := n0_;have BK457 := n1_;have BK458 := n2_;have HB := n3_;clear n0_ n1_ n2_ n3_)));(try (obtain ⟨hczq2_0,hczq2_1,hczq2_2,hfzq2_0,hfzq2_1,hfzq2_2⟩ := cells3 BK456.out));(try (obtain ⟨hczq3_0,hczq3_1,hczq3_2,hfzq3_0,hfzq3_1,hfzq3_2⟩ := cells3 BK457.out))) | (simp only [bits_Sub64.run a0_1 a1_1 t470 t471 t472 A42.out];(iterate 4 (try (rw [drewN_self wq1];generalize hq_ : World.drewN wq1 _ = wq1;have n0_ : Aside0 (wq1.heap[gb456]? = some (.cells #[.bool a0_0,.int .u64 a0_1,.int .u64 a0_2] 100 (0,0))) := ⟨Z277⟩;have n1_ : Aside0 (wq1.heap[gb457]? = some (.cells #[.bool a1_0,.int .u64 a1_1,.int .u64 a1_2] 100 (0,0))) := ⟨Z276⟩;have n2_ : Aside0 (wq1.heap[gb458]? = some (.cells #[.bool false,.int .u64 0,.int .u64 0] 100 (0,0))) := ⟨Z275⟩;have n3_ : Aside0 (Below w.heap.size w wq1) := ⟨Z176⟩;clear BK456 BK457 BK458 HB hq_;have BK456 := n0_;have BK457 := n1_;have BK458 := n2_;have HB := n3_;clear n0_ n1_ n2_ n3_)));(try (obtain ⟨hczq2_0,hczq2_1,hczq2_2,hfzq2_0,hfzq2_1,hfzq2_2⟩ := cells3 BK456.out));(try (obtain ⟨hczq3_0,hczq3_1,hczq3_2,hfzq3_0,hfzq3_1,hfzq3_2⟩ := cells3 BK457.out))) | ((with_reducible refine gate_callee (f := 153) rfl ?_);refine goesL_ (some 56) rfl rfl Try.func153 Z312 rfl #[.bool a0_0,.int .u64 t471,.int .u64 t469] rfl Z256 ?_;(with_reducible refine (impl_wideOf.calls a0_0 t471 t469 t473 t474 t475 _ A43.out).mono ?_);rintro e wq4 ⟨rfl,hb⟩;refine ⟨_,rfl,?_⟩;have n_ := Z94;clear BK456 BK457 BK458 HB;obtain ⟨BK456,BK457,BK458,HB⟩ := n_;(try clear hb);(try clear hb2);(try clear hk);(try clear hi);obtain ⟨hczq5_0,hczq5_1,hczq5_2,hfzq5_0,hfzq5_1,hfzq5_2⟩ := cells3 BK458.out))
      refine bodyPost_ret (results_ct rfl _ _ gb458 100 #[.bool t473,.int .u64 t474,.int .u64 t475] (0,0) _ rfl (by refine bP ?_;refine blk_put (cs := #[.bool t473,.int .u64 t474,.int .u64 0]) ?_ 2 _ rfl;refine bP ?_;refine blk_put (cs := #[.bool t473,.int .u64 0,.int .u64 0]) ?_ 1 _ rfl;refine bP ?_;refine blk_put (cs := #[.bool false,.int .u64 0,.int .u64 0]) ?_ 0 _ rfl;refine bP ?_;exact BK458.out) Try.underlying100 rfl Z312) rfl ?_
      exact ⟨Z263,Z564⟩
    ·rw [if_neg c25] at H
     have c25b0 : (a0_0 != a1_0) = false := by simpa using c25
     (try (have c25b1 : decide (a0_0 = a1_0) = true := by simpa using c25))
     (try (have c25b2 : (a0_0 == a1_0) = true := by simpa using c25))
     clear c25
     obtain ⟨⟨t476,t477⟩,A540,H⟩ := Option.bind_eq_some_iff.mp H
     try dsimp only at H
     have A54 := Aside0.mk A540
     clear A540
     obtain ⟨⟨t478,t479⟩,A550,H⟩ := Option.bind_eq_some_iff.mp H
     try dsimp only at H
     have A55 := Aside0.mk A550
     clear A550
     obtain ⟨⟨t480,t481,t482⟩,A560,H⟩ := Option.bind_eq_some_iff.mp H
     try dsimp only at H
     have A56 := Aside0.mk A560
     clear A560
     obtain ⟨t484,A570,H⟩ := Option.bind_eq_some_iff.mp H
     have A57 := Aside0.mk A570
     clear A570
     by_cases c58 : t484 = true
     ·subst c58
      rw [if_pos rfl] at H
      simp only [Option.some.injEq,Prod.mk.injEq] at H
      obtain ⟨rfl,rfl,rfl,rfl⟩ := H
      have hnb59 := NB456_457.out
      have hnc59 := NB457_456.out
      have hnb60 := NB456_458.out
      have hnc60 := NB458_456.out
      obtain ⟨hcz61_0,hcz61_1,hcz61_2,hfz61_0,hfz61_1,hfz61_2⟩ := cells3 BK456.out
      have hnb62 := NB457_458.out
      have hnc62 := NB458_457.out
      obtain ⟨hcz63_0,hcz63_1,hcz63_2,hfz63_0,hfz63_1,hfz63_2⟩ := cells3 BK457.out
      go_wp2_with (first | (simp only [bits_Add64.run a0_2 a1_2 0 t476 t477 A54.out];(iterate 4 (try (rw [drewN_self wc];generalize hq_ : World.drewN wc _ = wc;have n0_ : Aside0 (wc.heap[gb456]? = some (.cells #[.bool a0_0,.int .u64 a0_1,.int .u64 a0_2] 100 (0,0))) := ⟨Z277⟩;have n1_ : Aside0 (wc.heap[gb457]? = some (.cells #[.bool a1_0,.int .u64 a1_1,.int .u64 a1_2] 100 (0,0))) := ⟨Z276⟩;have n2_ : Aside0 (wc.heap[gb458]? = some (.cells #[.bool false,.int .u64 0,.int .u64 0] 100 (0,0))) := ⟨Z275⟩;have n3_ : Aside0 (Below w.heap.size w wc) := ⟨Z176⟩;clear BK456 BK457 BK458 HB hq_;have BK456 := n0_;have BK457 := n1_;have BK458 := n2_;have HB := n3_;clear n0_ n1_ n2_ n3_)));(try (obtain ⟨hczq1_0,hczq1_1,hczq1_2,hfzq1_0,hfzq1_1,hfzq1_2⟩ := cells3 BK456.out));(try (obtain ⟨hczq2_0,hczq2_1,hczq2_2,hfzq2_0,hfzq2_1,hfzq2_2⟩ := cells3 BK457.out))) | (simp only [bits_Add64.run a0_1 a1_1 t477 t478 t479 A55.out];(iterate 4 (try (rw [drewN_self wc];generalize hq_ : World.drewN wc _ = wc;have n0_ : Aside0 (wc.heap[gb456]? = some (.cells #[.bool a0_0,.int .u64 a0_1,.int .u64 a0_2] 100 (0,0))) := ⟨Z277⟩;have n1_ : Aside0 (wc.heap[gb457]? = some (.cells #[.bool a1_0,.int .u64 a1_1,.int .u64 a1_2] 100 (0,0))) := ⟨Z276⟩;have n2_ : Aside0 (wc.heap[gb458]? = some (.cells #[.bool false,.int .u64 0,.int .u64 0] 100 (0,0))) := ⟨Z275⟩;have n3_ : Aside0 (Below w.heap.size w wc) := ⟨Z176⟩;clear BK456 BK457 BK458 HB hq_;have BK456 := n0_;have BK457 := n1_;have BK458 := n2_;have HB := n3_;clear n0_ n1_ n2_ n3_)));(try (obtain ⟨hczq1_0,hczq1_1,hczq1_2,hfzq1_0,hfzq1_1,hfzq1_2⟩ := cells3 BK456.out));(try (obtain ⟨hczq2_0,hczq2_1,hczq2_2,hfzq2_0,hfzq2_1,hfzq2_2⟩ := cells3 BK457.out))) | ((with_reducible refine gate_callee (f := 153) rfl ?_);refine goesL_ (some 78) rfl rfl Try.func153 Z312 rfl #[.bool a0_0,.int .u64 t478,.int .u64 t476] rfl Z256 ?_;(with_reducible refine (impl_wideOf.calls a0_0 t478 t476 t480 t481 t482 _ A56.out).mono ?_);rintro e wq3 ⟨rfl,hb⟩;refine ⟨_,rfl,?_⟩;have n_ := Z94;clear BK456 BK457 BK458 HB;obtain ⟨BK456,BK457,BK458,HB⟩ := n_;(try clear hb);(try clear hb2);(try clear hk);(try clear hi)) | ((with_reducible refine gate_dst (N := 14) rfl ?_);refine bE 14 #[.bool false,.int .u64 0,.int .u64 0] 100 (h := ?_);intro gb483 hg wq4 hbox hb;have n_ := Z24;clear BK456 BK457 BK458 HB;obtain ⟨BK456,BK457,BK458,HB,BK483,GW483,GE483,NB456_483,NB483_456,NB457_483,NB483_457,NB458_483,NB483_458⟩ := n_;clear hb hbox hg;have hnbq5 := NB483_456.out;have hncq5 := NB456_483.out;have hnbq6 := NB483_457.out;have hncq6 := NB457_483.out;have hnbq7 := NB483_458.out;have hncq7 := NB458_483.out;obtain ⟨hczq8_0,hczq8_1,hczq8_2,hfzq8_0,hfzq8_1,hfzq8_2⟩ := cells3 BK483.out) | ((with_reducible refine gate_callee (f := 161) rfl ?_);refine goesL_ (some 80) rfl rfl Try.func161 Z312 rfl #[.agg #[.bool t480,.int .u64 t481,.int .u64 t482]] rfl Z256 ?_;(with_reducible refine (impl_WideOk.calls t480 t481 t482 true _ A57.out).mono ?_);rintro e wq9 ⟨rfl,hb⟩;refine ⟨_,rfl,?_⟩;have n_ := Z52;clear BK456 BK457 BK458 BK483 HB;obtain ⟨BK456,BK457,BK458,BK483,HB⟩ := n_;(try clear hb);(try clear hb2);(try clear hk);(try clear hi);obtain ⟨hczq10_0,hczq10_1,hczq10_2,hfzq10_0,hfzq10_1,hfzq10_2⟩ := cells3 BK483.out;obtain ⟨hczq11_0,hczq11_1,hczq11_2,hfzq11_0,hfzq11_1,hfzq11_2⟩ := cells3 BK458.out))
      refine bodyPost_ret (results_ct rfl _ _ gb458 100 #[.bool t480,.int .u64 t481,.int .u64 t482] (0,0) _ rfl (by refine bP ?_;refine blk_put (cs := #[.bool t480,.int .u64 t481,.int .u64 0]) ?_ 2 _ rfl;refine bP ?_;refine blk_put (cs := #[.bool t480,.int .u64 0,.int .u64 0]) ?_ 1 _ rfl;refine bP ?_;refine blk_put (cs := #[.bool false,.int .u64 0,.int .u64 0]) ?_ 0 _ rfl;refine bP ?_;exact BK458.out) Try.underlying100 rfl Z312) rfl ?_
      exact ⟨Z263,Z332⟩
     ·replace c58 := Bool.eq_false_iff.mpr c58
      subst c58
      rw [if_neg Bool.false_ne_true] at H
      simp only [Option.some.injEq,Prod.mk.injEq] at H
      obtain ⟨rfl,rfl,rfl,rfl⟩ := H
      have hnb73 := NB456_457.out
      have hnc73 := NB457_456.out
      have hnb74 := NB456_458.out
      have hnc74 := NB458_456.out
      obtain ⟨hcz75_0,hcz75_1,hcz75_2,hfz75_0,hfz75_1,hfz75_2⟩ := cells3 BK456.out
      have hnb76 := NB457_458.out
      have hnc76 := NB458_457.out
      obtain ⟨hcz77_0,hcz77_1,hcz77_2,hfz77_0,hfz77_1,hfz77_2⟩ := cells3 BK457.out
      go_wp2_with (first | (simp only [bits_Add64.run a0_2 a1_2 0 t476 t477 A54.out];(iterate 4 (try (rw [drewN_self wc];generalize hq_ : World.drewN wc _ = wc;have n0_ : Aside0 (wc.heap[gb456]? = some (.cells #[.bool a0_0,.int .u64 a0_1,.int .u64 a0_2] 100 (0,0))) := ⟨Z277⟩;have n1_ : Aside0 (wc.heap[gb457]? = some (.cells #[.bool a1_0,.int .u64 a1_1,.int .u64 a1_2] 100 (0,0))) := ⟨Z276⟩;have n2_ : Aside0 (wc.heap[gb458]? = some (.cells #[.bool false,.int .u64 0,.int .u64 0] 100 (0,0))) := ⟨Z275⟩;have n3_ : Aside0 (Below w.heap.size w wc) := ⟨Z176⟩;clear BK456 BK457 BK458 HB hq_;have BK456 := n0_;have BK457 := n1_;have BK458 := n2_;have HB := n3_;clear n0_ n1_ n2_ n3_)));(try (obtain ⟨hczq1_0,hczq1_1,hczq1_2,hfzq1_0,hfzq1_1,hfzq1_2⟩ := cells3 BK456.out));(try (obtain ⟨hczq2_0,hczq2_1,hczq2_2,hfzq2_0,hfzq2_1,hfzq2_2⟩ := cells3 BK457.out))) | (simp only [bits_Add64.run a0_1 a1_1 t477 t478 t479 A55.out];(iterate 4 (try (rw [drewN_self wc];generalize hq_ : World.drewN wc _ = wc;have n0_ : Aside0 (wc.heap[gb456]? = some (.cells #[.bool a0_0,.int .u64 a0_1,.int .u64 a0_2] 100 (0,0))) := ⟨Z277⟩;have n1_ : Aside0 (wc.heap[gb457]? = some (.cells #[.bool a1_0,.int .u64 a1_1,.int .u64 a1_2] 100 (0,0))) := ⟨Z276⟩;have n2_ : Aside0 (wc.heap[gb458]? = some (.cells #[.bool false,.int .u64 0,.int .u64 0] 100 (0,0))) := ⟨Z275⟩;have n3_ : Aside0 (Below w.heap.size w wc) := ⟨Z176⟩;clear BK456 BK457 BK458 HB hq_;have BK456 := n0_;have BK457 := n1_;have BK458 := n2_;have HB := n3_;clear n0_ n1_ n2_ n3_)));(try (obtain ⟨hczq1_0,hczq1_1,hczq1_2,hfzq1_0,hfzq1_1,hfzq1_2⟩ := cells3 BK456.out));(try (obtain ⟨hczq2_0,hczq2_1,hczq2_2,hfzq2_0,hfzq2_1,hfzq2_2⟩ := cells3 BK457.out))) | ((with_reducible refine gate_callee (f := 153) rfl ?_);refine goesL_ (some 78) rfl rfl Try.func153 Z312 rfl #[.bool a0_0,.int .u64 t478,.int .u64 t476] rfl Z256 ?_;(with_reducible refine (impl_wideOf.calls a0_0 t478 t476 t480 t481 t482 _ A56.out).mono ?_);rintro e wq3 ⟨rfl,hb⟩;refine ⟨_,rfl,?_⟩;have n_ := Z94;clear BK456 BK457 BK458 HB;obtain ⟨BK456,BK457,BK458,HB⟩ := n_;(try clear hb);(try clear hb2);(try clear hk);(try clear hi)) | ((with_reducible refine gate_dst (N := 14) rfl ?_);refine bE 14 #[.bool false,.int .u64 0,.int .u64 0] 100 (h := ?_);intro gb483 hg wq4 hbox hb;have n_ := Z24;clear BK456 BK457 BK458 HB;obtain ⟨BK456,BK457,BK458,HB,BK483,GW483,GE483,NB456_483,NB483_456,NB457_483,NB483_457,NB458_483,NB483_458⟩ := n_;clear hb hbox hg;have hnbq5 := NB483_456.out;have hncq5 := NB456_483.out;have hnbq6 := NB483_457.out;have hncq6 := NB457_483.out;have hnbq7 := NB483_458.out;have hncq7 := NB458_483.out;obtain ⟨hczq8_0,hczq8_1,hczq8_2,hfzq8_0,hfzq8_1,hfzq8_2⟩ := cells3 BK483.out) | ((with_reducible refine gate_callee (f := 161) rfl ?_);refine goesL_ (some 80) rfl rfl Try.func161 Z312 rfl #[.agg #[.bool t480,.int .u64 t481,.int .u64 t482]] rfl Z256 ?_;(with_reducible refine (impl_WideOk.calls t480 t481 t482 false _ A57.out).mono ?_);rintro e wq9 ⟨rfl,hb⟩;refine ⟨_,rfl,?_⟩;have n_ := Z52;clear BK456 BK457 BK458 BK483 HB;obtain ⟨BK456,BK457,BK458,BK483,HB⟩ := n_;(try clear hb);(try clear hb2);(try clear hk);(try clear hi);obtain ⟨hczq10_0,hczq10_1,hczq10_2,hfzq10_0,hfzq10_1,hfzq10_2⟩ := cells3 BK458.out))
      refine bodyPost_ret (results_ct rfl _ _ gb458 100 #[.bool false,.int .u64 0,.int .u64 0] (0,0) _ rfl Z165 Try.underlying100 rfl Z312) rfl ?_
      exact ⟨Z263,Z332⟩

/-! ### impl_AddFrac: function 123 -/
def impl_AddFrac.f (k : Nat) (a0_0 : Bool) (a0_1 : Int) (a0_2 : Int) (a0_3 : Int) (a1_0 : Bool) (a1_1 : Int) (a1_2 : Int) (a1_3 : Int) : Option (Bool × Int × Int × Int × Bool) := (impl_crossed.f k a0_0 a0_1 a0_2 a0_3 a1_0 a1_1 a1_2 a1_3).bind fun bt488 => (if bt488.2.2.2.2.2.2 = true then ((impl_AddWide.f k bt488.1 bt488.2.1 bt488.2.2.1 bt488.2.2.2.1 bt488.2.2.2.2.1 bt488.2.2.2.2.2.1).bind fun bt497 => (if bt497.2.2.2 = true then ((impl_fracOf.f bt497.1 bt497.2.1 bt497.2.2.1 (wrap64 (a0_3 * a1_3))).bind fun bt502 => (some (bt502.1,bt502.2.1,bt502.2.2.1,bt502.2.2.2.1,bt502.2.2.2.2))) else (some (false,0,0,0,false)))) else (some (false,0,0,0,false)))
theorem impl_AddFrac.mono : ∀ a0 a1 a2 a3 a4 a5 a6 a7 k,LeO (impl_AddFrac.f k a0 a1 a2 a3 a4 a5 a6 a7) (impl_AddFrac.f (k + 1) a0 a1 a2 a3 a4 a5 a6 a7) := by
 intro a0 a1 a2 a3 a4 a5 a6 a7 k
 unfold impl_AddFrac.f
 repeat' first
   | (with_reducible exact impl_AddWide.mono _ _ _ _ _ _ _)
   | (with_reducible exact impl_crossed.mono _ _ _ _ _ _ _ _ _)
   | (with_reducible exact LeO.refl _)
   | (with_reducible exact LeO.none _)
   | (with_reducible refine LeO.ite ?_ ?_)
   | (with_reducible refine LeO.bind ?_ (fun _ => ?_))
   | exact impl_AddWide.mono _ _ _ _ _ _ _
   | exact impl_crossed.mono _ _ _ _ _ _ _ _ _
   | exact LeO.none _
   | refine LeO.ite ?_ ?_
   | refine LeO.bind ?_ (fun _ => ?_)
set_option maxHeartbeats 8000000 in
set_option maxRecDepth 100000 in
theorem impl_AddFrac.calls (k : Nat) (a0_0 : Bool) (a0_1 : Int) (a0_2 : Int) (a0_3 : Int) (a1_0 : Bool) (a1_1 : Int) (a1_2 : Int) (a1_3 : Int) (r1 : Bool) (r2 : Int) (r3 : Int) (r4 : Int) (r5 : Bool) (w : World) (h : impl_AddFrac.f k a0_0 a0_1 a0_2 a0_3 a1_0 a1_1 a1_2 a1_3 = some (r1,r2,r3,r4,r5)) :
  Calls Try.prog 123 #[.agg #[.bool a0_0,.int .u64 a0_1,.int .u64 a0_2,.int .i64 a0_3],.agg #[.bool a1_0,.int .u64 a1_1,.int .u64 a1_2,.int .i64 a1_3]] w fun e w' => e = .returned (.tuple #[.agg #[.bool r1,.int .u64 r2,.int .u64 r3,.int .i64 r4],.bool r5]) ∧ Below w.heap.size w w' := by
 have hu102 := Try.underlying102
 have hu100 := Try.underlying100
 have HB := Aside0.mk (Below.refl w.heap.size w)
 have H := h
 clear h
 unfold impl_AddFrac.f at H
 obtain ⟨⟨t488,t489,t490,t491,t492,t493,t494⟩,A30,H⟩ := Option.bind_eq_some_iff.mp H
 try dsimp only at H
 have A3 := Aside0.mk A30
 clear A30
 by_cases c4 : t494 = true
 ·subst c4
  rw [if_pos rfl] at H
  obtain ⟨⟨t497,t498,t499,t500⟩,A50,H⟩ := Option.bind_eq_some_iff.mp H
  try dsimp only at H
  have A5 := Aside0.mk A50
  clear A50
  by_cases c6 : t500 = true
  ·subst c6
   rw [if_pos rfl] at H
   obtain ⟨⟨t502,t503,t504,t505,t506⟩,A70,H⟩ := Option.bind_eq_some_iff.mp H
   try dsimp only at H
   have A7 := Aside0.mk A70
   clear A70
   simp only [Option.some.injEq,Prod.mk.injEq] at H
   obtain ⟨rfl,rfl,rfl,rfl,rfl⟩ := H
   go_enter Try.func123,Try.ntmps123
   go_wp2_with (first | ((with_reducible refine gate_dst (N := 2) rfl ?_);refine bE 2 #[.bool a0_0,.int .u64 a0_1,.int .u64 a0_2,.int .i64 a0_3] 102 (h := ?_);intro gb485 hg wq1 hbox hb;have n_ := Z111;clear HB;obtain ⟨HB,BK485,GW485,GE485⟩ := n_;clear hb hbox hg) | ((with_reducible refine gate_dst (N := 3) rfl ?_);refine bE 3 #[.bool a1_0,.int .u64 a1_1,.int .u64 a1_2,.int .i64 a1_3] 102 (h := ?_);intro gb486 hg wq2 hbox hb;have n_ := Z67;clear BK485 HB;obtain ⟨BK485,HB,BK486,GW486,GE486,NB485_486,NB486_485⟩ := n_;clear hb hbox hg) | ((with_reducible refine gate_dst (N := 4) rfl ?_);refine bE 4 #[.bool false,.int .u64 0,.int .u64 0,.int .i64 0] 102 (h := ?_);intro gb487 hg wq3 hbox hb;have n_ := Z39;clear BK485 BK486 HB;obtain ⟨BK485,BK486,HB,BK487,GW487,GE487,NB485_487,NB487_485,NB486_487,NB487_486⟩ := n_;clear hb hbox hg;have hnbq4 := NB485_486.out;have hncq4 := NB486_485.out;have hnbq5 := NB485_487.out;have hncq5 := NB487_485.out;obtain ⟨hczq6_0,hczq6_1,hczq6_2,hczq6_3,hfzq6_0,hfzq6_1,hfzq6_2,hfzq6_3⟩ := cells4 BK485.out;have hnbq7 := NB486_487.out;have hncq7 := NB487_486.out;obtain ⟨hczq8_0,hczq8_1,hczq8_2,hczq8_3,hfzq8_0,hfzq8_1,hfzq8_2,hfzq8_3⟩ := cells4 BK486.out) | ((with_reducible refine gate_callee (f := 126) rfl ?_);refine goesL_ (some 13) rfl rfl Try.func126 Z312 rfl #[.agg #[.bool a0_0,.int .u64 a0_1,.int .u64 a0_2,.int .i64 a0_3],.agg #[.bool a1_0,.int .u64 a1_1,.int .u64 a1_2,.int .i64 a1_3]] rfl Z256 ?_;(with_reducible refine (impl_crossed.calls k a0_0 a0_1 a0_2 a0_3 a1_0 a1_1 a1_2 a1_3 t488 t489 t490 t491 t492 t493 true _ A3.out).mono ?_);rintro e wq9 ⟨rfl,hb⟩;refine ⟨_,rfl,?_⟩;have n_ := Z93;clear BK485 BK486 BK487 HB;obtain ⟨BK485,BK486,BK487,HB⟩ := n_;(try clear hb);(try clear hb2);(try clear hk);(try clear hi)) | ((with_reducible refine gate_dst (N := 6) rfl ?_);refine bE 6 #[.bool false,.int .u64 0,.int .u64 0] 100 (h := ?_);intro gb495 hg wq10 hbox hb;have n_ := Z20;clear BK485 BK486 BK487 HB;obtain ⟨BK485,BK486,BK487,HB,BK495,GW495,GE495,NB485_495,NB495_485,NB486_495,NB495_486,NB487_495,NB495_487⟩ := n_;clear hb hbox hg) | ((with_reducible refine gate_dst (N := 7) rfl ?_);refine bE 7 #[.bool false,.int .u64 0,.int .u64 0] 100 (h := ?_);intro gb496 hg wq11 hbox hb;have n_ := Z8;clear BK485 BK486 BK487 BK495 HB;obtain ⟨BK485,BK486,BK487,BK495,HB,BK496,GW496,GE496,NB485_496,NB496_485,NB486_496,NB496_486,NB487_496,NB496_487,NB495_496,NB496_495⟩ := n_;clear hb hbox hg;have hnbq12 := NB495_485.out;have hncq12 := NB485_495.out;have hnbq13 := NB495_486.out;have hncq13 := NB486_495.out;have hnbq14 := NB495_487.out;have hncq14 := NB487_495.out;have hnbq15 := NB495_496.out;have hncq15 := NB496_495.out;obtain ⟨hczq16_0,hczq16_1,hczq16_2,hfzq16_0,hfzq16_1,hfzq16_2⟩ := cells3 BK495.out;have hnbq17 := NB496_485.out;have hncq17 := NB485_496.out;have hnbq18 := NB496_486.out;have hncq18 := NB486_496.out;have hnbq19 := NB496_487.out;have hncq19 := NB487_496.out;obtain ⟨hczq20_0,hczq20_1,hczq20_2,hfzq20_0,hfzq20_1,hfzq20_2⟩ := cells3 BK496.out) | ((with_reducible refine gate_callee (f := 147) rfl ?_);refine goesL_ (some 23) rfl rfl Try.func147 Z312 rfl #[.agg #[.bool t488,.int .u64 t489,.int .u64 t490],.agg #[.bool t491,.int .u64 t492,.int .u64 t493]] rfl Z256 ?_;(with_reducible refine (impl_AddWide.calls k t488 t489 t490 t491 t492 t493 t497 t498 t499 true _ A5.out).mono ?_);rintro e wq21 ⟨rfl,hb⟩;refine ⟨_,rfl,?_⟩;have n_ := Z14;clear BK485 BK486 BK487 BK495 BK496 HB;obtain ⟨BK485,BK486,BK487,BK495,BK496,HB⟩ := n_;(try clear hb);(try clear hb2);(try clear hk);(try clear hi)) | ((with_reducible refine gate_dst (N := 9) rfl ?_);refine bE 9 #[.bool false,.int .u64 0,.int .u64 0] 100 (h := ?_);intro gb501 hg wq22 hbox hb;have n_ := Z3;clear BK485 BK486 BK487 BK495 BK496 HB;obtain ⟨BK485,BK486,BK487,BK495,BK496,HB,BK501,GW501,GE501,NB485_501,NB501_485,NB486_501,NB501_486,NB487_501,NB501_487,NB495_501,NB501_495,NB496_501,NB501_496⟩ := n_;clear hb hbox hg;have hnbq23 := NB501_485.out;have hncq23 := NB485_501.out;have hnbq24 := NB501_486.out;have hncq24 := NB486_501.out;have hnbq25 := NB501_487.out;have hncq25 := NB487_501.out;have hnbq26 := NB501_495.out;have hncq26 := NB495_501.out;have hnbq27 := NB501_496.out;have hncq27 := NB496_501.out;obtain ⟨hczq28_0,hczq28_1,hczq28_2,hfzq28_0,hfzq28_1,hfzq28_2⟩ := cells3 BK501.out;obtain ⟨hczq29_0,hczq29_1,hczq29_2,hczq29_3,hfzq29_0,hfzq29_1,hfzq29_2,hfzq29_3⟩ := cells4 BK485.out;obtain ⟨hczq30_0,hczq30_1,hczq30_2,hczq30_3,hfzq30_0,hfzq30_1,hfzq30_2,hfzq30_3⟩ := cells4 BK486.out) | ((with_reducible refine gate_callee (f := 148) rfl ?_);refine goesL_ (some 35) rfl rfl Try.func148 Z312 rfl #[.agg #[.bool t497,.int .u64 t498,.int .u64 t499],.int .i64 (wrap64 (a0_3 * a1_3))] rfl Z256 ?_;(with_reducible refine (impl_fracOf.calls t497 t498 t499 (wrap64 (a0_3 * a1_3)) t502 t503 t504 t505 t506 _ A7.out).mono ?_);rintro e wq31 ⟨rfl,hb⟩;refine ⟨_,rfl,?_⟩;have n_ := jA (blk_below (g := gb485) (o := .cells #[.bool a0_0,.int .u64 a0_1,.int .u64 a0_2,.int .i64 a0_3] 102 (0,0)) (by refine bP ?_;refine blk_far ?_ NB485_501.out _;refine bP ?_;refine blk_far ?_ NB485_501.out _;refine bP ?_;refine blk_far ?_ NB485_501.out _;refine bP ?_;exact BK485.out) hb) (jA (blk_below (g := gb486) (o := .cells #[.bool a1_0,.int .u64 a1_1,.int .u64 a1_2,.int .i64 a1_3] 102 (0,0)) (by refine bP ?_;refine blk_far ?_ NB486_501.out _;refine bP ?_;refine blk_far ?_ NB486_501.out _;refine bP ?_;refine blk_far ?_ NB486_501.out _;refine bP ?_;exact BK486.out) hb) (jA (blk_below (g := gb487) (o := .cells #[.bool false,.int .u64 0,.int .u64 0,.int .i64 0] 102 (0,0)) (by refine bP ?_;refine blk_far ?_ NB487_501.out _;refine bP ?_;refine blk_far ?_ NB487_501.out _;refine bP ?_;refine blk_far ?_ NB487_501.out _;refine bP ?_;exact BK487.out) hb) (jA (blk_below (g := gb495) (o := .cells #[.bool t488,.int .u64 t489,.int .u64 t490] 100 (0,0)) (by refine bP ?_;refine blk_far ?_ NB495_501.out _;refine bP ?_;refine blk_far ?_ NB495_501.out _;refine bP ?_;refine blk_far ?_ NB495_501.out _;refine bP ?_;exact BK495.out) hb) (jA (blk_below (g := gb496) (o := .cells #[.bool t491,.int .u64 t492,.int .u64 t493] 100 (0,0)) (by refine bP ?_;refine blk_far ?_ NB496_501.out _;refine bP ?_;refine blk_far ?_ NB496_501.out _;refine bP ?_;refine blk_far ?_ NB496_501.out _;refine bP ?_;exact BK496.out) hb) (jA (blk_below (g := gb501) (o := .cells #[.bool t497,.int .u64 t498,.int .u64 t499] 100 (0,0)) (by refine bP ?_;refine blk_put (cs := #[.bool t497,.int .u64 t498,.int .u64 0]) ?_ 2 _ rfl;refine bP ?_;refine blk_put (cs := #[.bool t497,.int .u64 0,.int .u64 0]) ?_ 1 _ rfl;refine bP ?_;refine blk_put (cs := #[.bool false,.int .u64 0,.int .u64 0]) ?_ 0 _ rfl;refine bP ?_;exact BK501.out) hb) (Aside0.mk (below_step Z157 hb)))))));clear BK485 BK486 BK487 BK495 BK496 BK501 HB;obtain ⟨BK485,BK486,BK487,BK495,BK496,BK501,HB⟩ := n_;(try clear hb);(try clear hb2);(try clear hk);(try clear hi);obtain ⟨hczq32_0,hczq32_1,hczq32_2,hczq32_3,hfzq32_0,hfzq32_1,hfzq32_2,hfzq32_3⟩ := cells4 BK487.out))
   refine bodyPost_ret (results_ct rfl _ _ gb487 102 #[.bool t502,.int .u64 t503,.int .u64 t504,.int .i64 t505] (0,0) _ rfl (by refine bP ?_;refine blk_put (cs := #[.bool t502,.int .u64 t503,.int .u64 t504,.int .i64 0]) ?_ 3 _ rfl;refine bP ?_;refine blk_put (cs := #[.bool t502,.int .u64 t503,.int .u64 0,.int .i64 0]) ?_ 2 _ rfl;refine bP ?_;refine blk_put (cs := #[.bool t502,.int .u64 0,.int .u64 0,.int .i64 0]) ?_ 1 _ rfl;refine bP ?_;refine blk_put (cs := #[.bool false,.int .u64 0,.int .u64 0,.int .i64 0]) ?_ 0 _ rfl;refine bP ?_;exact BK487.out) Try.underlying102 rfl Z312) rfl ?_
   exact ⟨Z263,Z157⟩
  ·replace c6 := Bool.eq_false_iff.mpr c6
   subst c6
   rw [if_neg Bool.false_ne_true] at H
   simp only [Option.some.injEq,Prod.mk.injEq] at H
   obtain ⟨rfl,rfl,rfl,rfl,rfl⟩ := H
   go_enter Try.func123,Try.ntmps123
   go_wp2_with (first | ((with_reducible refine gate_dst (N := 2) rfl ?_);refine bE 2 #[.bool a0_0,.int .u64 a0_1,.int .u64 a0_2,.int .i64 a0_3] 102 (h := ?_);intro gb485 hg wq1 hbox hb;have n_ := Z111;clear HB;obtain ⟨HB,BK485,GW485,GE485⟩ := n_;clear hb hbox hg) | ((with_reducible refine gate_dst (N := 3) rfl ?_);refine bE 3 #[.bool a1_0,.int .u64 a1_1,.int .u64 a1_2,.int .i64 a1_3] 102 (h := ?_);intro gb486 hg wq2 hbox hb;have n_ := Z67;clear BK485 HB;obtain ⟨BK485,HB,BK486,GW486,GE486,NB485_486,NB486_485⟩ := n_;clear hb hbox hg) | ((with_reducible refine gate_dst (N := 4) rfl ?_);refine bE 4 #[.bool false,.int .u64 0,.int .u64 0,.int .i64 0] 102 (h := ?_);intro gb487 hg wq3 hbox hb;have n_ := Z39;clear BK485 BK486 HB;obtain ⟨BK485,BK486,HB,BK487,GW487,GE487,NB485_487,NB487_485,NB486_487,NB487_486⟩ := n_;clear hb hbox hg;have hnbq4 := NB485_486.out;have hncq4 := NB486_485.out;have hnbq5 := NB485_487.out;have hncq5 := NB487_485.out;obtain ⟨hczq6_0,hczq6_1,hczq6_2,hczq6_3,hfzq6_0,hfzq6_1,hfzq6_2,hfzq6_3⟩ := cells4 BK485.out;have hnbq7 := NB486_487.out;have hncq7 := NB487_486.out;obtain ⟨hczq8_0,hczq8_1,hczq8_2,hczq8_3,hfzq8_0,hfzq8_1,hfzq8_2,hfzq8_3⟩ := cells4 BK486.out) | ((with_reducible refine gate_callee (f := 126) rfl ?_);refine goesL_ (some 13) rfl rfl Try.func126 Z312 rfl #[.agg #[.bool a0_0,.int .u64 a0_1,.int .u64 a0_2,.int .i64 a0_3],.agg #[.bool a1_0,.int .u64 a1_1,.int .u64 a1_2,.int .i64 a1_3]] rfl Z256 ?_;(with_reducible refine (impl_crossed.calls k a0_0 a0_1 a0_2 a0_3 a1_0 a1_1 a1_2 a1_3 t488 t489 t490 t491 t492 t493 true _ A3.out).mono ?_);rintro e wq9 ⟨rfl,hb⟩;refine ⟨_,rfl,?_⟩;have n_ := Z93;clear BK485 BK486 BK487 HB;obtain ⟨BK485,BK486,BK487,HB⟩ := n_;(try clear hb);(try clear hb2);(try clear hk);(try clear hi)) | ((with_reducible refine gate_dst (N := 6) rfl ?_);refine bE 6 #[.bool false,.int .u64 0,.int .u64 0] 100 (h := ?_);intro gb495 hg wq10 hbox hb;have n_ := Z20;clear BK485 BK486 BK487 HB;obtain ⟨BK485,BK486,BK487,HB,BK495,GW495,GE495,NB485_495,NB495_485,NB486_495,NB495_486,NB487_495,NB495_487⟩ := n_;clear hb hbox hg) | ((with_reducible refine gate_dst (N := 7) rfl ?_);refine bE 7 #[.bool false,.int .u64 0,.int .u64 0] 100 (h := ?_);intro gb496 hg wq11 hbox hb;have n_ := Z8;clear BK485 BK486 BK487 BK495 HB;obtain ⟨BK485,BK486,BK487,BK495,HB,BK496,GW496,GE496,NB485_496,NB496_485,NB486_496,NB496_486,NB487_496,NB496_487,NB495_496,NB496_495⟩ := n_;clear hb hbox hg;have hnbq12 := NB495_485.out;have hncq12 := NB485_495.out;have hnbq13 := NB495_486.out;have hncq13 := NB486_495.out;have hnbq14 := NB495_487.out;have hncq14 := NB487_495.out;have hnbq15 := NB495_496.out;have hncq15 := NB496_495.out;obtain ⟨hczq16_0,hczq16_1,hczq16_2,hfzq16_0,hfzq16_1,hfzq16_2⟩ := cells3 BK495.out;have hnbq17 := NB496_485.out;have hncq17 := NB485_496.out;have hnbq18 := NB496_486.out;have hncq18 := NB486_496.out;have hnbq19 := NB496_487.out;have hncq19 := NB487_496.out;obtain ⟨hczq20_0,hczq20_1,hczq20_2,hfzq20_0,hfzq20_1,hfzq20_2⟩ := cells3 BK496.out) | ((with_reducible refine gate_callee (f := 147) rfl ?_);refine goesL_ (some 23) rfl rfl Try.func147 Z312 rfl #[.agg #[.bool t488,.int .u64 t489,.int .u64 t490],.agg #[.bool t491,.int .u64 t492,.int .u64 t493]] rfl Z256 ?_;(with_reducible refine (impl_AddWide.calls k t488 t489 t490 t491 t492 t493 t497 t498 t499 false _ A5.out).mono ?_);rintro e wq21 ⟨rfl,hb⟩;refine ⟨_,rfl,?_⟩;have n_ := Z14;clear BK485 BK486 BK487 BK495 BK496 HB;obtain ⟨BK485,BK486,BK487,BK495,BK496,HB⟩ := n_;(try clear hb);(try clear hb2);(try clear hk);(try clear hi)) | ((with_reducible refine gate_dst (N := 9) rfl ?_);refine bE 9 #[.bool false,.int .u64 0,.int .u64 0] 100 (h := ?_);intro gb501 hg wq22 hbox hb;have n_ := Z3;clear BK485 BK486 BK487 BK495 BK496 HB;obtain ⟨BK485,BK486,BK487,BK495,BK496,HB,BK501,GW501,GE501,NB485_501,NB501_485,NB486_501,NB501_486,NB487_501,NB501_487,NB495_501,NB501_495,NB496_501,NB501_496⟩ := n_;clear hb hbox hg;have hnbq23 := NB501_485.out;have hncq23 := NB485_501.out;have hnbq24 := NB501_486.out;have hncq24 := NB486_501.out;have hnbq25 := NB501_487.out;have hncq25 := NB487_501.out;have hnbq26 := NB501_495.out;have hncq26 := NB495_501.out;have hnbq27 := NB501_496.out;have hncq27 := NB496_501.out;obtain ⟨hczq28_0,hczq28_1,hczq28_2,hfzq28_0,hfzq28_1,hfzq28_2⟩ := cells3 BK501.out;obtain ⟨hczq29_0,hczq29_1,hczq29_2,hczq29_3,hfzq29_0,hfzq29_1,hfzq29_2,hfzq29_3⟩ := cells4 BK487.out))
   refine bodyPost_ret (results_ct rfl _ _ gb487 102 #[.bool false,.int .u64 0,.int .u64 0,.int .i64 0] (0,0) _ rfl (by refine bP ?_;refine blk_put (cs := #[.bool false,.int .u64 0,.int .u64 0,.int .i64 0]) ?_ 3 _ rfl;refine bP ?_;refine blk_put (cs := #[.bool false,.int .u64 0,.int .u64 0,.int .i64 0]) ?_ 2 _ rfl;refine bP ?_;refine blk_put (cs := #[.bool false,.int .u64 0,.int .u64 0,.int .i64 0]) ?_ 1 _ rfl;refine bP ?_;refine blk_put (cs := #[.bool false,.int .u64 0,.int .u64 0,.int .i64 0]) ?_ 0 _ rfl;refine bP ?_;refine blk_far ?_ NB487_501.out _;refine bP ?_;refine blk_far ?_ NB487_501.out _;refine bP ?_;refine blk_far ?_ NB487_501.out _;refine bP ?_;exact BK487.out) Try.underlying102 rfl Z312) rfl ?_
   exact ⟨Z263,Z157⟩
 ·replace c4 := Bool.eq_false_iff.mpr c4
  subst c4
  rw [if_neg Bool.false_ne_true] at H
  simp only [Option.some.injEq,Prod.mk.injEq] at H
  obtain ⟨rfl,rfl,rfl,rfl,rfl⟩ := H
  go_enter Try.func123,Try.ntmps123
  go_wp2_with (first | ((with_reducible refine gate_dst (N := 2) rfl ?_);refine bE 2 #[.bool a0_0,.int .u64 a0_1,.int .u64 a0_2,.int .i64 a0_3] 102 (h := ?_);intro gb485 hg wq1 hbox hb;have n_ := Z111;clear HB;obtain ⟨HB,BK485,GW485,GE485⟩ := n_;clear hb hbox hg) | ((with_reducible refine gate_dst (N := 3) rfl ?_);refine bE 3 #[.bool a1_0,.int .u64 a1_1,.int .u64 a1_2,.int .i64 a1_3] 102 (h := ?_);intro gb486 hg wq2 hbox hb;have n_ := Z67;clear BK485 HB;obtain ⟨BK485,HB,BK486,GW486,GE486,NB485_486,NB486_485⟩ := n_;clear hb hbox hg) | ((with_reducible refine gate_dst (N := 4) rfl ?_);refine bE 4 #[.bool false,.int .u64 0,.int .u64 0,.int .i64 0] 102 (h := ?_);intro gb487 hg wq3 hbox hb;have n_ := Z39;clear BK485 BK486 HB;obtain ⟨BK485,BK486,HB,BK487,GW487,GE487,NB485_487,NB487_485,NB486_487,NB487_486⟩ := n_;clear hb hbox hg;have hnbq4 := NB485_486.out;have hncq4 := NB486_485.out;have hnbq5 := NB485_487.out;have hncq5 := NB487_485.out;obtain ⟨hczq6_0,hczq6_1,hczq6_2,hczq6_3,hfzq6_0,hfzq6_1,hfzq6_2,hfzq6_3⟩ := cells4 BK485.out;have hnbq7 := NB486_487.out;have hncq7 := NB487_486.out;obtain ⟨hczq8_0,hczq8_1,hczq8_2,hczq8_3,hfzq8_0,hfzq8_1,hfzq8_2,hfzq8_3⟩ := cells4 BK486.out) | ((with_reducible refine gate_callee (f := 126) rfl ?_);refine goesL_ (some 13) rfl rfl Try.func126 Z312 rfl #[.agg #[.bool a0_0,.int .u64 a0_1,.int .u64 a0_2,.int .i64 a0_3],.agg #[.bool a1_0,.int .u64 a1_1,.int .u64 a1_2,.int .i64 a1_3]] rfl Z256 ?_;(with_reducible refine (impl_crossed.calls k a0_0 a0_1 a0_2 a0_3 a1_0 a1_1 a1_2 a1_3 t488 t489 t490 t491 t492 t493 false _ A3.out).mono ?_);rintro e wq9 ⟨rfl,hb⟩;refine ⟨_,rfl,?_⟩;have n_ := Z93;clear BK485 BK486 BK487 HB;obtain ⟨BK485,BK486,BK487,HB⟩ := n_;(try clear hb);(try clear hb2);(try clear hk);(try clear hi)) | ((with_reducible refine gate_dst (N := 6) rfl ?_);refine bE 6 #[.bool false,.int .u64 0,.int .u64 0] 100 (h := ?_);intro gb495 hg wq10 hbox hb;have n_ := Z20;clear BK485 BK486 BK487 HB;obtain ⟨BK485,BK486,BK487,HB,BK495,GW495,GE495,NB485_495,NB495_485,NB486_495,NB495_486,NB487_495,NB495_487⟩ := n_;clear hb hbox hg) | ((with_reducible refine gate_dst (N := 7) rfl ?_);refine bE 7 #[.bool false,.int .u64 0,.int .u64 0] 100 (h := ?_);intro gb496 hg wq11 hbox hb;have n_ := Z8;clear BK485 BK486 BK487 BK495 HB;obtain ⟨BK485,BK486,BK487,BK495,HB,BK496,GW496,GE496,NB485_496,NB496_485,NB486_496,NB496_486,NB487_496,NB496_487,NB495_496,NB496_495⟩ := n_;clear hb hbox hg;have hnbq12 := NB495_485.out;have hncq12 := NB485_495.out;have hnbq13 := NB495_486.out;have hncq13 := NB486_495.out;have hnbq14 := NB495_487.out;have hncq14 := NB487_495.out;have hnbq15 := NB495_496.out;have hncq15 := NB496_495.out;obtain ⟨hczq16_0,hczq16_1,hczq16_2,hfzq16_0,hfzq16_1,hfzq16_2⟩ := cells3 BK495.out;have hnbq17 := NB496_485.out;have hncq17 := NB485_496.out;have hnbq18 := NB496_486.out;have hncq18 := NB486_496.out;have hnbq19 := NB496_487.out;have hncq19 := NB487_496.out;obtain ⟨hczq20_0,hczq20_1,hczq20_2,hfzq20_0,hfzq20_1,hfzq20_2⟩ := cells3 BK496.out;obtain ⟨hczq21_0,hczq21_1,hczq21_2,hczq21_3,hfzq21_0,hfzq21_1,hfzq21_2,hfzq21_3⟩ := cells4 BK487.out))
  refine bodyPost_ret (results_ct rfl _ _ gb487 102 #[.bool false,.int .u64 0,.int .u64 0,.int .i64 0] (0,0) _ rfl (by refine bP ?_;refine blk_put (cs := #[.bool false,.int .u64 0,.int .u64 0,.int .i64 0]) ?_ 3 _ rfl;refine bP ?_;refine blk_put (cs := #[.bool false,.int .u64 0,.int .u64 0,.int .i64 0]) ?_ 2 _ rfl;refine bP ?_;refine blk_put (cs := #[.bool false,.int .u64 0,.int .u64 0,.int .i64 0]) ?_ 1 _ rfl;refine bP ?_;refine blk_put (cs := #[.bool false,.int .u64 0,.int .u64 0,.int .i64 0]) ?_ 0 _ rfl;refine bP ?_;refine blk_far ?_ NB487_496.out _;refine bP ?_;refine blk_far ?_ NB487_496.out _;refine bP ?_;refine blk_far ?_ NB487_496.out _;refine bP ?_;refine blk_far ?_ NB487_495.out _;refine bP ?_;refine blk_far ?_ NB487_495.out _;refine bP ?_;refine blk_far ?_ NB487_495.out _;refine bP ?_;exact BK487.out) Try.underlying102 rfl Z312) rfl ?_
  exact ⟨Z263,Z556⟩

/-! ### impl_GainOf: function 87 -/
def impl_GainOf.f (k : Nat) (a0_0 : Int) (a0_1 : Int) (a0_2 : Int) (a0_3 : Int) (a0_4 : Int) (a0_5 : Int) (a1 : Int) : Option (Bool × Int × Int × Int × Bool) := (impl_PlainGain.f a0_2 a0_3 a1).bind fun bt509 => ((impl_PlainGain.f a0_4 a0_5 a1).bind fun bt515 => (if bt509.2.2.2.2 = true then (if bt515.2.2.2.2 = true then ((impl_AddFrac.f k bt509.1 bt509.2.1 bt509.2.2.1 bt509.2.2.2.1 bt515.1 bt515.2.1 bt515.2.2.1 bt515.2.2.2.1).bind fun bt521 => (some (bt521.1,bt521.2.1,bt521.2.2.1,bt521.2.2.2.1,bt521.2.2.2.2))) else (some (false,0,0,0,false))) else (some (false,0,0,0,false))))
theorem impl_GainOf.mono : ∀ a0 a1 a2 a3 a4 a5 a6 k,LeO (impl_GainOf.f k a0 a1 a2 a3 a4 a5 a6) (impl_GainOf.f (k + 1) a0 a1 a2 a3 a4 a5 a6) := by
 intro a0 a1 a2 a3 a4 a5 a6 k
 unfold impl_GainOf.f
 repeat' first
   | (with_reducible exact impl_AddFrac.mono _ _ _ _ _ _ _ _ _)
   | (with_reducible exact LeO.refl _)
   | (with_reducible exact LeO.none _)
   | (with_reducible refine LeO.ite ?_ ?_)
   | (with_reducible refine LeO.bind ?_ (fun _ => ?_))
   | exact impl_AddFrac.mono _ _ _ _ _ _ _ _ _
   | exact LeO.none _
   | refine LeO.ite ?_ ?_
   | refine LeO.bind ?_ (fun _ => ?_)
set_option maxHeartbeats 8000000 in
set_option maxRecDepth 100000 in
theorem impl_GainOf.calls (k : Nat) (a0_0 : Int) (a0_1 : Int) (a0_2 : Int) (a0_3 : Int) (a0_4 : Int) (a0_5 : Int) (a1 : Int) (r1 : Bool) (r2 : Int) (r3 : Int) (r4 : Int) (r5 : Bool) (w : World) (h : impl_GainOf.f k a0_0 a0_1 a0_2 a0_3 a0_4 a0_5 a1 = some (r1,r2,r3,r4,r5)) :
  Calls Try.prog 87 #[.agg #[.int .i64 a0_0,.int .i64 a0_1,.int .i64 a0_2,.int .i64 a0_3,.int .i64 a0_4,.int .i64 a0_5],.int .i64 a1] w fun e w' => e = .returned (.tuple #[.agg #[.bool r1,.int .u64 r2,.int .u64 r3,.int .i64 r4],.bool r5]) ∧ Below w.heap.size w w' := by
 have hu39 := Try.underlying39
 have hu102 := Try.underlying102
 have hu37 := Try.underlying37
 have HB := Aside0.mk (Below.refl w.heap.size w)
 have H := h
 clear h
 unfold impl_GainOf.f at H
 obtain ⟨⟨t509,t510,t511,t512,t513⟩,A30,H⟩ := Option.bind_eq_some_iff.mp H
 try dsimp only at H
 have A3 := Aside0.mk A30
 clear A30
 obtain ⟨⟨t515,t516,t517,t518,t519⟩,A40,H⟩ := Option.bind_eq_some_iff.mp H
 try dsimp only at H
 have A4 := Aside0.mk A40
 clear A40
 by_cases c5 : t513 = true
 ·subst c5
  rw [if_pos rfl] at H
  by_cases c6 : t519 = true
  ·subst c6
   rw [if_pos rfl] at H
   obtain ⟨⟨t521,t522,t523,t524,t525⟩,A70,H⟩ := Option.bind_eq_some_iff.mp H
   try dsimp only at H
   have A7 := Aside0.mk A70
   clear A70
   simp only [Option.some.injEq,Prod.mk.injEq] at H
   obtain ⟨rfl,rfl,rfl,rfl,rfl⟩ := H
   go_enter Try.func87,Try.ntmps87
   go_wp2_with (first | ((with_reducible refine gate_dst (N := 2) rfl ?_);refine bE 2 #[.int .i64 a0_0,.int .i64 a0_1,.int .i64 a0_2,.int .i64 a0_3,.int .i64 a0_4,.int .i64 a0_5] 39 (h := ?_);intro gb507 hg wq1 hbox hb;have n_ := Z110;clear HB;obtain ⟨HB,BK507,GW507,GE507⟩ := n_;clear hb hbox hg) | ((with_reducible refine gate_dst (N := 4) rfl ?_);refine bE 4 #[.bool false,.int .u64 0,.int .u64 0,.int .i64 0] 102 (h := ?_);intro gb508 hg wq2 hbox hb;have n_ := Z64;clear BK507 HB;obtain ⟨BK507,HB,BK508,GW508,GE508,NB507_508,NB508_507⟩ := n_;clear hb hbox hg;have hnbq3 := NB507_508.out;have hncq3 := NB508_507.out;obtain ⟨hczq4_0,hczq4_1,hczq4_2,hczq4_3,hczq4_4,hczq4_5,hfzq4_0,hfzq4_1,hfzq4_2,hfzq4_3,hfzq4_4,hfzq4_5⟩ := cells6 BK507.out) | ((with_reducible refine gate_callee (f := 89) rfl ?_);refine goesL_ (some 14) rfl rfl Try.func89 Z312 rfl #[.agg #[.int .i64 a0_2,.int .i64 a0_3],.int .i64 a1] rfl Z256 ?_;(with_reducible refine (impl_PlainGain.calls a0_2 a0_3 a1 t509 t510 t511 t512 true _ A3.out).mono ?_);rintro e wq5 ⟨rfl,hb⟩;refine ⟨_,rfl,?_⟩;have n_ := Z133;clear BK507 BK508 HB;obtain ⟨BK507,BK508,HB⟩ := n_;(try clear hb);(try clear hb2);(try clear hk);(try clear hi)) | ((with_reducible refine gate_dst (N := 6) rfl ?_);refine bE 6 #[.bool false,.int .u64 0,.int .u64 0,.int .i64 0] 102 (h := ?_);intro gb514 hg wq6 hbox hb;have n_ := Z32;clear BK507 BK508 HB;obtain ⟨BK507,BK508,HB,BK514,GW514,GE514,NB507_514,NB514_507,NB508_514,NB514_508⟩ := n_;clear hb hbox hg;have hnbq7 := NB514_507.out;have hncq7 := NB507_514.out;have hnbq8 := NB514_508.out;have hncq8 := NB508_514.out;obtain ⟨hczq9_0,hczq9_1,hczq9_2,hczq9_3,hfzq9_0,hfzq9_1,hfzq9_2,hfzq9_3⟩ := cells4 BK514.out;obtain ⟨hczq10_0,hczq10_1,hczq10_2,hczq10_3,hczq10_4,hczq10_5,hfzq10_0,hfzq10_1,hfzq10_2,hfzq10_3,hfzq10_4,hfzq10_5⟩ := cells6 BK507.out) | ((with_reducible refine gate_callee (f := 89) rfl ?_);refine goesL_ (some 21) rfl rfl Try.func89 Z312 rfl #[.agg #[.int .i64 a0_4,.int .i64 a0_5],.int .i64 a1] rfl Z256 ?_;(with_reducible refine (impl_PlainGain.calls a0_4 a0_5 a1 t515 t516 t517 t518 true _ A4.out).mono ?_);rintro e wq11 ⟨rfl,hb⟩;refine ⟨_,rfl,?_⟩;have n_ := Z50;clear BK507 BK508 BK514 HB;obtain ⟨BK507,BK508,BK514,HB⟩ := n_;(try clear hb);(try clear hb2);(try clear hk);(try clear hi)) | ((with_reducible refine gate_dst (N := 8) rfl ?_);refine bE 8 #[.bool false,.int .u64 0,.int .u64 0,.int .i64 0] 102 (h := ?_);intro gb520 hg wq12 hbox hb;have n_ := Z15;clear BK507 BK508 BK514 HB;obtain ⟨BK507,BK508,BK514,HB,BK520,GW520,GE520,NB507_520,NB520_507,NB508_520,NB520_508,NB514_520,NB520_514⟩ := n_;clear hb hbox hg;have hnbq13 := NB520_507.out;have hncq13 := NB507_520.out;have hnbq14 := NB520_508.out;have hncq14 := NB508_520.out;have hnbq15 := NB520_514.out;have hncq15 := NB514_520.out;obtain ⟨hczq16_0,hczq16_1,hczq16_2,hczq16_3,hfzq16_0,hfzq16_1,hfzq16_2,hfzq16_3⟩ := cells4 BK520.out;obtain ⟨hczq17_0,hczq17_1,hczq17_2,hczq17_3,hfzq17_0,hfzq17_1,hfzq17_2,hfzq17_3⟩ := cells4 BK514.out) | ((with_reducible refine gate_callee (f := 123) rfl ?_);refine goesL_ (some 33) rfl rfl Try.func123 Z312 rfl #[.agg #[.bool t509,.int .u64 t510,.int .u64 t511,.int .i64 t512],.agg #[.bool t515,.int .u64 t516,.int .u64 t517,.int .i64 t518]] rfl Z256 ?_;(with_reducible refine (impl_AddFrac.calls k t509 t510 t511 t512 t515 t516 t517 t518 t521 t522 t523 t524 t525 _ A7.out).mono ?_);rintro e wq18 ⟨rfl,hb⟩;refine ⟨_,rfl,?_⟩;have n_ := jA (blk_below (g := gb507) (o := .cells #[.int .i64 a0_0,.int .i64 a0_1,.int .i64 a0_2,.int .i64 a0_3,.int .i64 a0_4,.int .i64 a0_5] 39 (0,0)) (by refine bP ?_;refine blk_far ?_ NB507_520.out _;refine bP ?_;refine blk_far ?_ NB507_520.out _;refine bP ?_;refine blk_far ?_ NB507_520.out _;refine bP ?_;refine blk_far ?_ NB507_520.out _;refine bP ?_;exact BK507.out) hb) (jA (blk_below (g := gb508) (o := .cells #[.bool false,.int .u64 0,.int .u64 0,.int .i64 0] 102 (0,0)) (by refine bP ?_;refine blk_far ?_ NB508_520.out _;refine bP ?_;refine blk_far ?_ NB508_520.out _;refine bP ?_;refine blk_far ?_ NB508_520.out _;refine bP ?_;refine blk_far ?_ NB508_520.out _;refine bP ?_;exact BK508.out) hb) (jA (blk_below (g := gb514) (o := .cells #[.bool t509,.int .u64 t510,.int .u64 t511,.int .i64 t512] 102 (0,0)) (by refine bP ?_;refine blk_far ?_ NB514_520.out _;refine bP ?_;refine blk_far ?_ NB514_520.out _;refine bP ?_;refine blk_far ?_ NB514_520.out _;refine bP ?_;refine blk_far ?_ NB514_520.out _;refine bP ?_;exact BK514.out) hb) (jA (blk_below (g := gb520) (o := .cells #[.bool t515,.int .u64 t516,.int .u64 t517,.int .i64 t518] 102 (0,0)) (by refine bP ?_;refine blk_put (cs := #[.bool t515,.int .u64 t516,.int .u64 t517,.int .i64 0]) ?_ 3 _ rfl;refine bP ?_;refine blk_put (cs := #[.bool t515,.int .u64 t516,.int .u64 0,.int .i64 0]) ?_ 2 _ rfl;refine bP ?_;refine blk_put (cs := #[.bool t515,.int .u64 0,.int .u64 0,.int .i64 0]) ?_ 1 _ rfl;refine bP ?_;refine blk_put (cs := #[.bool false,.int .u64 0,.int .u64 0,.int .i64 0]) ?_ 0 _ rfl;refine bP ?_;exact BK520.out) hb) (Aside0.mk (below_step Z168 hb)))));clear BK507 BK508 BK514 BK520 HB;obtain ⟨BK507,BK508,BK514,BK520,HB⟩ := n_;(try clear hb);(try clear hb2);(try clear hk);(try clear hi);obtain ⟨hczq19_0,hczq19_1,hczq19_2,hczq19_3,hfzq19_0,hfzq19_1,hfzq19_2,hfzq19_3⟩ := cells4 BK508.out))
   refine bodyPost_ret (results_ct rfl _ _ gb508 102 #[.bool t521,.int .u64 t522,.int .u64 t523,.int .i64 t524] (0,0) _ rfl (by refine bP ?_;refine blk_put (cs := #[.bool t521,.int .u64 t522,.int .u64 t523,.int .i64 0]) ?_ 3 _ rfl;refine bP ?_;refine blk_put (cs := #[.bool t521,.int .u64 t522,.int .u64 0,.int .i64 0]) ?_ 2 _ rfl;refine bP ?_;refine blk_put (cs := #[.bool t521,.int .u64 0,.int .u64 0,.int .i64 0]) ?_ 1 _ rfl;refine bP ?_;refine blk_put (cs := #[.bool false,.int .u64 0,.int .u64 0,.int .i64 0]) ?_ 0 _ rfl;refine bP ?_;exact BK508.out) Try.underlying102 rfl Z312) rfl ?_
   exact ⟨Z263,Z168⟩
  ·replace c6 := Bool.eq_false_iff.mpr c6
   subst c6
   rw [if_neg Bool.false_ne_true] at H
   simp only [Option.some.injEq,Prod.mk.injEq] at H
   obtain ⟨rfl,rfl,rfl,rfl,rfl⟩ := H
   go_enter Try.func87,Try.ntmps87
   go_wp2_with (first | ((with_reducible refine gate_dst (N := 2) rfl ?_);refine bE 2 #[.int .i64 a0_0,.int .i64 a0_1,.int .i64 a0_2,.int .i64 a0_3,.int .i64 a0_4,.int .i64 a0_5] 39 (h := ?_);intro gb507 hg wq1 hbox hb;have n_ := Z110;clear HB;obtain ⟨HB,BK507,GW507,GE507⟩ := n_;clear hb hbox hg) | ((with_reducible refine gate_dst (N := 4) rfl ?_);refine bE 4 #[.bool false,.int .u64 0,.int .u64 0,.int .i64 0] 102 (h := ?_);intro gb508 hg wq2 hbox hb;have n_ := Z64;clear BK507 HB;obtain ⟨BK507,HB,BK508,GW508,GE508,NB507_508,NB508_507⟩ := n_;clear hb hbox hg;have hnbq3 := NB507_508.out;have hncq3 := NB508_507.out;obtain ⟨hczq4_0,hczq4_1,hczq4_2,hczq4_3,hczq4_4,hczq4_5,hfzq4_0,hfzq4_1,hfzq4_2,hfzq4_3,hfzq4_4,hfzq4_5⟩ := cells6 BK507.out) | ((with_reducible refine gate_callee (f := 89) rfl ?_);refine goesL_ (some 14) rfl rfl Try.func89 Z312 rfl #[.agg #[.int .i64 a0_2,.int .i64 a0_3],.int .i64 a1] rfl Z256 ?_;(with_reducible refine (impl_PlainGain.calls a0_2 a0_3 a1 t509 t510 t511 t512 true _ A3.out).mono ?_);rintro e wq5 ⟨rfl,hb⟩;refine ⟨_,rfl,?_⟩;have n_ := Z133;clear BK507 BK508 HB;obtain ⟨BK507,BK508,HB⟩ := n_;(try clear hb);(try clear hb2);(try clear hk);(try clear hi)) | ((with_reducible refine gate_dst (N := 6) rfl ?_);refine bE 6 #[.bool false,.int .u64 0,.int .u64 0,.int .i64 0] 102 (h := ?_);intro gb514 hg wq6 hbox hb;have n_ := Z32;clear BK507 BK508 HB;obtain ⟨BK507,BK508,HB,BK514,GW514,GE514,NB507_514,NB514_507,NB508_514,NB514_508⟩ := n_;clear hb hbox hg;have hnbq7 := NB514_507.out;have hncq7 := NB507_514.out;have hnbq8 := NB514_508.out;have hncq8 := NB508_514.out;obtain ⟨hczq9_0,hczq9_1,hczq9_2,hczq9_3,hfzq9_0,hfzq9_1,hfzq9_2,hfzq9_3⟩ := cells4 BK514.out;obtain ⟨hczq10_0,hczq10_1,hczq10_2,hczq10_3,hczq10_4,hczq10_5,hfzq10_0,hfzq10_1,hfzq10_2,hfzq10_3,hfzq10_4,hfzq10_5⟩ := cells6 BK507.out) | ((with_reducible refine gate_callee (f := 89) rfl ?_);refine goesL_ (some 21) rfl rfl Try.func89 Z312 rfl #[.agg #[.int .i64 a0_4,.int .i64 a0_5],.int .i64 a1] rfl Z256 ?_;(with_reducible refine (impl_PlainGain.calls a0_4 a0_5 a1 t515 t516 t517 t518 false _ A4.out).mono ?_);rintro e wq11 ⟨rfl,hb⟩;refine ⟨_,rfl,?_⟩;have n_ := Z50;clear BK507 BK508 BK514 HB;obtain ⟨BK507,BK508,BK514,HB⟩ := n_;(try clear hb);(try clear hb2);(try clear hk);(try clear hi)) | ((with_reducible refine gate_dst (N := 8) rfl ?_);refine bE 8 #[.bool false,.int .u64 0,.int .u64 0,.int .i64 0] 102 (h := ?_);intro gb520 hg wq12 hbox hb;have n_ := Z15;clear BK507 BK508 BK514 HB;obtain ⟨BK507,BK508,BK514,HB,BK520,GW520,GE520,NB507_520,NB520_507,NB508_520,NB520_508,NB514_520,NB520_514⟩ := n_;clear hb hbox hg;have hnbq13 := NB520_507.out;have hncq13 := NB507_520.out;have hnbq14 := NB520_508.out;have hncq14 := NB508_520.out;have hnbq15 := NB520_514.out;have hncq15 := NB514_520.out;obtain ⟨hczq16_0,hczq16_1,hczq16_2,hczq16_3,hfzq16_0,hfzq16_1,hfzq16_2,hfzq16_3⟩ := cells4 BK520.out;obtain ⟨hczq17_0,hczq17_1,hczq17_2,hczq17_3,hfzq17_0,hfzq17_1,hfzq17_2,hfzq17_3⟩ := cells4 BK508.out))
   refine bodyPost_ret (results_ct rfl _ _ gb508 102 #[.bool false,.int .u64 0,.int .u64 0,.int .i64 0] (0,0) _ rfl Z96 Try.underlying102 rfl Z312) rfl ?_
   exact ⟨Z263,Z168⟩
 ·replace c5 := Bool.eq_false_iff.mpr c5
  subst c5
  rw [if_neg Bool.false_ne_true] at H
  simp only [Option.some.injEq,Prod.mk.injEq] at H
  obtain ⟨rfl,rfl,rfl,rfl,rfl⟩ := H
  go_enter Try.func87,Try.ntmps87
  go_wp2_with (first | ((with_reducible refine gate_dst (N := 2) rfl ?_);refine bE 2 #[.int .i64 a0_0,.int .i64 a0_1,.int .i64 a0_2,.int .i64 a0_3,.int .i64 a0_4,.int .i64 a0_5] 39 (h := ?_);intro gb507 hg wq1 hbox hb;have n_ := Z110;clear HB;obtain ⟨HB,BK507,GW507,GE507⟩ := n_;clear hb hbox hg) | ((with_reducible refine gate_dst (N := 4) rfl ?_);refine bE 4 #[.bool false,.int .u64 0,.int .u64 0,.int .i64 0] 102 (h := ?_);intro gb508 hg wq2 hbox hb;have n_ := Z64;clear BK507 HB;obtain ⟨BK507,HB,BK508,GW508,GE508,NB507_508,NB508_507⟩ := n_;clear hb hbox hg;have hnbq3 := NB507_508.out;have hncq3 := NB508_507.out;obtain ⟨hczq4_0,hczq4_1,hczq4_2,hczq4_3,hczq4_4,hczq4_5,hfzq4_0,hfzq4_1,hfzq4_2,hfzq4_3,hfzq4_4,hfzq4_5⟩ := cells6 BK507.out) | ((with_reducible refine gate_callee (f := 89) rfl ?_);refine goesL_ (some 14) rfl rfl Try.func89 Z312 rfl #[.agg #[.int .i64 a0_2,.int .i64 a0_3],.int .i64 a1] rfl Z256 ?_;(with_reducible refine (impl_PlainGain.calls a0_2 a0_3 a1 t509 t510 t511 t512 false _ A3.out).mono ?_);rintro e wq5 ⟨rfl,hb⟩;refine ⟨_,rfl,?_⟩;have n_ := Z133;clear BK507 BK508 HB;obtain ⟨BK507,BK508,HB⟩ := n_;(try clear hb);(try clear hb2);(try clear hk);(try clear hi)) | ((with_reducible refine gate_dst (N := 6) rfl ?_);refine bE 6 #[.bool false,.int .u64 0,.int .u64 0,.int .i64 0] 102 (h := ?_);intro gb514 hg wq6 hbox hb;have n_ := Z32;clear BK507 BK508 HB;obtain ⟨BK507,BK508,HB,BK514,GW514,GE514,NB507_514,NB514_507,NB508_514,NB514_508⟩ := n_;clear hb hbox hg;have hnbq7 := NB514_507.out;have hncq7 := NB507_514.out;have hnbq8 := NB514_508.out;have hncq8 := NB508_514.out;obtain ⟨hczq9_0,hczq9_1,hczq9_2,hczq9_3,hfzq9_0,hfzq9_1,hfzq9_2,hfzq9_3⟩ := cells4 BK514.out;obtain ⟨hczq10_0,hczq10_1,hczq10_2,hczq10_3,hczq10_4,hczq10_5,hfzq10_0,hfzq10_1,hfzq10_2,hfzq10_3,hfzq10_4,hfzq10_5⟩ := cells6 BK507.out) | ((with_reducible refine gate_callee (f := 89) rfl ?_);refine goesL_ (some 21) rfl rfl Try.func89 Z312 rfl #[.agg #[.int .i64 a0_4,.int .i64 a0_5],.int .i64 a1] rfl Z256 ?_;(with_reducible refine (impl_PlainGain.calls a0_4 a0_5 a1 t515 t516 t517 t518 t519 _ A4.out).mono ?_);rintro e wq11 ⟨rfl,hb⟩;refine ⟨_,rfl,?_⟩;have n_ := Z50;clear BK507 BK508 BK514 HB;obtain ⟨BK507,BK508,BK514,HB⟩ := n_;(try clear hb);(try clear hb2);(try clear hk);(try clear hi)) | ((with_reducible refine gate_dst (N := 8) rfl ?_);refine bE 8 #[.bool false,.int .u64 0,.int .u64 0,.int .i64 0] 102 (h := ?_);intro gb520 hg wq12 hbox hb;have n_ := Z15;clear BK507 BK508 BK514 HB;obtain ⟨BK507,BK508,BK514,HB,BK520,GW520,GE520,NB507_520,NB520_507,NB508_520,NB520_508,NB514_520,NB520_514⟩ := n_;clear hb hbox hg;have hnbq13 := NB520_507.out;have hncq13 := NB507_520.out;have hnbq14 := NB520_508.out;have hncq14 := NB508_520.out;have hnbq15 := NB520_514.out;have hncq15 := NB514_520.out;obtain ⟨hczq16_0,hczq16_1,hczq16_2,hczq16_3,hfzq16_0,hfzq16_1,hfzq16_2,hfzq16_3⟩ := cells4 BK520.out;obtain ⟨hczq17_0,hczq17_1,hczq17_2,hczq17_3,hfzq17_0,hfzq17_1,hfzq17_2,hfzq17_3⟩ := cells4 BK508.out))
  refine bodyPost_ret (results_ct rfl _ _ gb508 102 #[.bool false,.int .u64 0,.int .u64 0,.int .i64 0] (0,0) _ rfl Z96 Try.underlying102 rfl Z312) rfl ?_
  exact ⟨Z263,Z168⟩

/-! ### impl_AddInt: function 149 -/
def impl_AddInt.f (a0 : Int) (a1 : Int) : Option (Int × Bool) := if ((decide (a0 < 0)) == (decide (a1 < 0))) = true then (if ((decide ((wrap64 (a0 + a1)) < 0)) != (decide (a0 < 0))) = true then (some (0,false)) else (some (wrap64 (a0 + a1),true))) else (some (wrap64 (a0 + a1),true))
set_option maxHeartbeats 8000000 in
set_option maxRecDepth 100000 in
theorem impl_AddInt.calls (a0 : Int) (a1 : Int) (r1 : Int) (r2 : Bool) (w : World) (h : impl_AddInt.f a0 a1 = some (r1,r2)) :
  Calls Try.prog 149 #[.int .i64 a0,.int .i64 a1] w fun e w' => e = .returned (.tuple #[.int .i64 r1,.bool r2]) ∧ Drawn0 w w' := by
 have H := h
 clear h
 unfold impl_AddInt.f at H
 by_cases c3 : ((decide (a0 < 0)) == (decide (a1 < 0))) = true
 ·rw [if_pos c3] at H
  have c3b0 : ((decide (a0 < 0)) == (decide (a1 < 0))) = true := c3
  (try (have c3b1 : decide ((decide (a0 < 0)) = (decide (a1 < 0))) = true := by simpa using c3))
  (try (have c3b2 : ((decide (a0 < 0)) == (decide (a1 < 0))) = true := by simpa using c3))
  clear c3
  by_cases c4 : ((decide ((wrap64 (a0 + a1)) < 0)) != (decide (a0 < 0))) = true
  ·rw [if_pos c4] at H
   have c4b0 : ((decide ((wrap64 (a0 + a1)) < 0)) != (decide (a0 < 0))) = true := c4
   (try (have c4b1 : decide ((decide ((wrap64 (a0 + a1)) < 0)) = (decide (a0 < 0))) = false := by simpa using c4))
   (try (have c4b2 : ((decide ((wrap64 (a0 + a1)) < 0)) == (decide (a0 < 0))) = false := by simpa using c4))
   (try (have c4b3 : ¬ ((decide ((wrap64 (a0 + a1)) < 0)) = (decide (a0 < 0))) := by simpa using c4))
   clear c4
   simp only [Option.some.injEq,Prod.mk.injEq] at H
   obtain ⟨rfl,rfl⟩ := H
   go_enter Try.func149,Try.ntmps149
   go_wp2
   go_ret2
   exact ⟨Z289,Z266⟩
  ·rw [if_neg c4] at H
   have c4b0 : ((decide ((wrap64 (a0 + a1)) < 0)) != (decide (a0 < 0))) = false := by simpa using c4
   (try (have c4b1 : decide ((decide ((wrap64 (a0 + a1)) < 0)) = (decide (a0 < 0))) = true := by simpa using c4))
   (try (have c4b2 : ((decide ((wrap64 (a0 + a1)) < 0)) == (decide (a0 < 0))) = true := by simpa using c4))
   clear c4
   simp only [Option.some.injEq,Prod.mk.injEq] at H
   obtain ⟨rfl,rfl⟩ := H
   go_enter Try.func149,Try.ntmps149
   go_wp2
   go_ret2
   exact ⟨Z289,Z266⟩
 ·rw [if_neg c3] at H
  have c3b0 : ((decide (a0 < 0)) == (decide (a1 < 0))) = false := by simpa using c3
  (try (have c3b1 : decide ((decide (a0 < 0)) = (decide (a1 < 0))) = false := by simpa using c3))
  (try (have c3b2 : ((decide (a0 < 0)) == (decide (a1 < 0))) = false := by simpa using c3))
  (try (have c3b3 : ¬ ((decide (a0 < 0)) = (decide (a1 < 0))) := by simpa using c3))
  clear c3
  simp only [Option.some.injEq,Prod.mk.injEq] at H
  obtain ⟨rfl,rfl⟩ := H
  go_enter Try.func149,Try.ntmps149
  go_wp2
  go_ret2
  exact ⟨Z289,Z266⟩

/-! ### impl_Slot_plus: function 124 -/
def impl_Slot_plus.f (a0_0 : Int) (a0_1 : Int) (a1_0 : Int) (a1_1 : Int) : Option (Int × Int × Bool) := (impl_AddInt.f a0_0 a1_0).bind fun bt529 => ((impl_AddInt.f a0_1 a1_1).bind fun bt531 => (if bt529.2 = true then (if bt531.2 = true then (some (bt529.1,bt531.1,true)) else (some (0,0,false))) else (some (0,0,false))))
set_option maxHeartbeats 8000000 in
set_option maxRecDepth 100000 in
theorem impl_Slot_plus.calls (a0_0 : Int) (a0_1 : Int) (a1_0 : Int) (a1_1 : Int) (r1 : Int) (r2 : Int) (r3 : Bool) (w : World) (h : impl_Slot_plus.f a0_0 a0_1 a1_0 a1_1 = some (r1,r2,r3)) :
  Calls Try.prog 124 #[.agg #[.int .i64 a0_0,.int .i64 a0_1],.agg #[.int .i64 a1_0,.int .i64 a1_1]] w fun e w' => e = .returned (.tuple #[.agg #[.int .i64 r1,.int .i64 r2],.bool r3]) ∧ Below w.heap.size w w' := by
 have hu37 := Try.underlying37
 have HB := Aside0.mk (Below.refl w.heap.size w)
 have H := h
 clear h
 unfold impl_Slot_plus.f at H
 obtain ⟨⟨t529,t530⟩,A30,H⟩ := Option.bind_eq_some_iff.mp H
 try dsimp only at H
 have A3 := Aside0.mk A30
 clear A30
 obtain ⟨⟨t531,t532⟩,A40,H⟩ := Option.bind_eq_some_iff.mp H
 try dsimp only at H
 have A4 := Aside0.mk A40
 clear A40
 by_cases c5 : t530 = true
 ·subst c5
  rw [if_pos rfl] at H
  by_cases c6 : t532 = true
  ·subst c6
   rw [if_pos rfl] at H
   simp only [Option.some.injEq,Prod.mk.injEq] at H
   obtain ⟨rfl,rfl,rfl⟩ := H
   go_enter Try.func124,Try.ntmps124
   go_wp2_with (first | ((with_reducible refine gate_dst (N := 2) rfl ?_);refine bE 2 #[.int .i64 a0_0,.int .i64 a0_1] 37 (h := ?_);intro gb526 hg wq1 hbox hb;have n_ := Z109;clear HB;obtain ⟨HB,BK526,GW526,GE526⟩ := n_;clear hb hbox hg) | ((with_reducible refine gate_dst (N := 3) rfl ?_);refine bE 3 #[.int .i64 a1_0,.int .i64 a1_1] 37 (h := ?_);intro gb527 hg wq2 hbox hb;have n_ := Z76;clear BK526 HB;obtain ⟨BK526,HB,BK527,GW527,GE527,NB526_527,NB527_526⟩ := n_;clear hb hbox hg) | ((with_reducible refine gate_dst (N := 4) rfl ?_);refine bE 4 #[.int .i64 0,.int .i64 0] 37 (h := ?_);intro gb528 hg wq3 hbox hb;have n_ := Z47;clear BK526 BK527 HB;obtain ⟨BK526,BK527,HB,BK528,GW528,GE528,NB526_528,NB528_526,NB527_528,NB528_527⟩ := n_;clear hb hbox hg;have hnbq4 := NB526_527.out;have hncq4 := NB527_526.out;have hnbq5 := NB526_528.out;have hncq5 := NB528_526.out;obtain ⟨hczq6_0,hczq6_1,hfzq6_0,hfzq6_1⟩ := cells2 BK526.out;have hnbq7 := NB527_528.out;have hncq7 := NB528_527.out;obtain ⟨hczq8_0,hczq8_1,hfzq8_0,hfzq8_1⟩ := cells2 BK527.out) | ((with_reducible refine gate_callee (f := 149) rfl ?_);refine goesL_ (some 15) rfl rfl Try.func149 Z312 rfl #[.int .i64 a0_0,.int .i64 a1_0] rfl Z256 ?_;(with_reducible refine (impl_AddInt.calls a0_0 a1_0 t529 true _ A3.out).mono ?_);rintro e w' ⟨rfl,⟨nd,rfl⟩⟩;refine ⟨_,rfl,?_⟩;(iterate 4 (try (rw [drewN_self wq3];generalize hq_ : World.drewN wq3 _ = wq3;have n0_ : Aside0 (wq3.heap[gb526]? = some (.cells #[.int .i64 a0_0,.int .i64 a0_1] 37 (0,0))) := ⟨Z274⟩;have n1_ : Aside0 (wq3.heap[gb527]? = some (.cells #[.int .i64 a1_0,.int .i64 a1_1] 37 (0,0))) := ⟨Z273⟩;have n2_ : Aside0 (wq3.heap[gb528]? = some (.cells #[.int .i64 0,.int .i64 0] 37 (0,0))) := ⟨Z272⟩;have n3_ : Aside0 (Below w.heap.size w wq3) := ⟨Z175⟩;clear BK526 BK527 BK528 HB hq_;have BK526 := n0_;have BK527 := n1_;have BK528 := n2_;have HB := n3_;clear n0_ n1_ n2_ n3_)));(try (obtain ⟨hczq6_0,hczq6_1,hfzq6_0,hfzq6_1⟩ := cells2 BK526.out));(try (obtain ⟨hczq8_0,hczq8_1,hfzq8_0,hfzq8_1⟩ := cells2 BK527.out))) | ((with_reducible refine gate_callee (f := 149) rfl ?_);refine goesL_ (some 23) rfl rfl Try.func149 Z312 rfl #[.int .i64 a0_1,.int .i64 a1_1] rfl Z256 ?_;(with_reducible refine (impl_AddInt.calls a0_1 a1_1 t531 true _ A4.out).mono ?_);rintro e w' ⟨rfl,⟨nd,rfl⟩⟩;refine ⟨_,rfl,?_⟩;(iterate 4 (try (rw [drewN_self wq3];generalize hq_ : World.drewN wq3 _ = wq3;have n0_ : Aside0 (wq3.heap[gb526]? = some (.cells #[.int .i64 a0_0,.int .i64 a0_1] 37 (0,0))) := ⟨Z274⟩;have n1_ : Aside0 (wq3.heap[gb527]? = some (.cells #[.int .i64 a1_0,.int .i64 a1_1] 37 (0,0))) := ⟨Z273⟩;have n2_ : Aside0 (wq3.heap[gb528]? = some (.cells #[.int .i64 0,.int .i64 0] 37 (0,0))) := ⟨Z272⟩;have n3_ : Aside0 (Below w.heap.size w wq3) := ⟨Z175⟩;clear BK526 BK527 BK528 HB hq_;have BK526 := n0_;have BK527 := n1_;have BK528 := n2_;have HB := n3_;clear n0_ n1_ n2_ n3_)));(try (obtain ⟨hczq6_0,hczq6_1,hfzq6_0,hfzq6_1⟩ := cells2 BK526.out));(try (obtain ⟨hczq8_0,hczq8_1,hfzq8_0,hfzq8_1⟩ := cells2 BK527.out));obtain ⟨hczq9_0,hczq9_1,hfzq9_0,hfzq9_1⟩ := cells2 BK528.out))
   refine bodyPost_ret (results_ct rfl _ _ gb528 37 #[.int .i64 t529,.int .i64 t531] (0,0) _ rfl (by refine bP ?_;refine blk_put (cs := #[.int .i64 t529,.int .i64 0]) ?_ 1 _ rfl;refine bP ?_;refine blk_put (cs := #[.int .i64 0,.int .i64 0]) ?_ 0 _ rfl;refine bP ?_;exact BK528.out) Try.underlying37 rfl Z312) rfl ?_
   exact ⟨Z263,Z358⟩
  ·replace c6 := Bool.eq_false_iff.mpr c6
   subst c6
   rw [if_neg Bool.false_ne_true] at H
   simp only [Option.some.injEq,Prod.mk.injEq] at H
   obtain ⟨rfl,rfl,rfl⟩ := H
   go_enter Try.func124,Try.ntmps124
   go_wp2_with (first | ((with_reducible refine gate_dst (N := 2) rfl ?_);refine bE 2 #[.int .i64 a0_0,.int .i64 a0_1] 37 (h := ?_);intro gb526 hg wq1 hbox hb;have n_ := Z109;clear HB;obtain ⟨HB,BK526,GW526,GE526⟩ := n_;clear hb hbox hg) | ((with_reducible refine gate_dst (N := 3) rfl ?_);refine bE 3 #[.int .i64 a1_0,.int .i64 a1_1] 37 (h := ?_);intro gb527 hg wq2 hbox hb;have n_ := Z76;clear BK526 HB;obtain ⟨BK526,HB,BK527,GW527,GE527,NB526_527,NB527_526⟩ := n_;clear hb hbox hg) | ((with_reducible refine gate_dst (N := 4) rfl ?_);refine bE 4 #[.int .i64 0,.int .i64 0] 37 (h := ?_);intro gb528 hg wq3 hbox hb;have n_ := Z47;clear BK526 BK527 HB;obtain ⟨BK526,BK527,HB,BK528,GW528,GE528,NB526_528,NB528_526,NB527_528,NB528_527⟩ := n_;clear hb hbox hg;have hnbq4 := NB526_527.out;have hncq4 := NB527_526.out;have hnbq5 := NB526_528.out;have hncq5 := NB528_526.out;obtain ⟨hczq6_0,hczq6_1,hfzq6_0,hfzq6_1⟩ := cells2 BK526.out;have hnbq7 := NB527_528.out;have hncq7 := NB528_527.out;obtain ⟨hczq8_0,hczq8_1,hfzq8_0,hfzq8_1⟩ := cells2 BK527.out) | ((with_reducible refine gate_callee (f := 149) rfl ?_);refine goesL_ (some 15) rfl rfl Try.func149 Z312 rfl #[.int .i64 a0_0,.int .i64 a1_0] rfl Z256 ?_;(with_reducible refine (impl_AddInt.calls a0_0 a1_0 t529 true _ A3.out).mono ?_);rintro e w' ⟨rfl,⟨nd,rfl⟩⟩;refine ⟨_,rfl,?_⟩;(iterate 4 (try (rw [drewN_self wq3];generalize hq_ : World.drewN wq3 _ = wq3;have n0_ : Aside0 (wq3.heap[gb526]? = some (.cells #[.int .i64 a0_0,.int .i64 a0_1] 37 (0,0))) := ⟨Z274⟩;have n1_ : Aside0 (wq3.heap[gb527]? = some (.cells #[.int .i64 a1_0,.int .i64 a1_1] 37 (0,0))) := ⟨Z273⟩;have n2_ : Aside0 (wq3.heap[gb528]? = some (.cells #[.int .i64 0,.int .i64 0] 37 (0,0))) := ⟨Z272⟩;have n3_ : Aside0 (Below w.heap.size w wq3) := ⟨Z175⟩;clear BK526 BK527 BK528 HB hq_;have BK526 := n0_;have BK527 := n1_;have BK528 := n2_;have HB := n3_;clear n0_ n1_ n2_ n3_)));(try (obtain ⟨hczq6_0,hczq6_1,hfzq6_0,hfzq6_1⟩ := cells2 BK526.out));(try (obtain ⟨hczq8_0,hczq8_1,hfzq8_0,hfzq8_1⟩ := cells2 BK527.out))) | ((with_reducible refine gate_callee (f := 149) rfl ?_);refine goesL_ (some 23) rfl rfl Try.func149 Z312 rfl #[.int .i64 a0_1,.int .i64 a1_1] rfl Z256 ?_;(with_reducible refine (impl_AddInt.calls a0_1 a1_1 t531 false _ A4.out).mono ?_);rintro e w' ⟨rfl,⟨nd,rfl⟩⟩;refine ⟨_,rfl,?_⟩;(iterate 4 (try (rw [drewN_self wq3];generalize hq_ : World.drewN wq3 _ = wq3;have n0_ : Aside0 (wq3.heap[gb526]? = some (.cells #[.int .i64 a0_0,.int .i64 a0_1] 37 (0,0))) := ⟨Z274⟩;have n1_ : Aside0 (wq3.heap[gb527]? = some (.cells #[.int .i64 a1_0,.int .i64 a1_1] 37 (0,0))) := ⟨Z273⟩;have n2_ : Aside0 (wq3.heap[gb528]? = some (.cells #[.int .i64 0,.int .i64 0] 37 (0,0))) := ⟨Z272⟩;have n3_ : Aside0 (Below w.heap.size w wq3) := ⟨Z175⟩;clear BK526 BK527 BK528 HB hq_;have BK526 := n0_;have BK527 := n1_;have BK528 := n2_;have HB := n3_;clear n0_ n1_ n2_ n3_)));(try (obtain ⟨hczq6_0,hczq6_1,hfzq6_0,hfzq6_1⟩ := cells2 BK526.out));(try (obtain ⟨hczq8_0,hczq8_1,hfzq8_0,hfzq8_1⟩ := cells2 BK527.out));obtain ⟨hczq9_0,hczq9_1,hfzq9_0,hfzq9_1⟩ := cells2 BK528.out))
   refine bodyPost_ret (results_ct rfl _ _ gb528 37 #[.int .i64 0,.int .i64 0] (0,0) _ rfl Z222 Try.underlying37 rfl Z312) rfl ?_
   exact ⟨Z263,Z358⟩
 ·replace c5 := Bool.eq_false_iff.mpr c5
  subst c5
  rw [if_neg Bool.false_ne_true] at H
  simp only [Option.some.injEq,Prod.mk.injEq] at H
  obtain ⟨rfl,rfl,rfl⟩ := H
  go_enter Try.func124,Try.ntmps124
  go_wp2_with (first | ((with_reducible refine gate_dst (N := 2) rfl ?_);refine bE 2 #[.int .i64 a0_0,.int .i64 a0_1] 37 (h := ?_);intro gb526 hg wq1 hbox hb;have n_ := Z109;clear HB;obtain ⟨HB,BK526,GW526,GE526⟩ := n_;clear hb hbox hg) | ((with_reducible refine gate_dst (N := 3) rfl ?_);refine bE 3 #[.int .i64 a1_0,.int .i64 a1_1] 37 (h := ?_);intro gb527 hg wq2 hbox hb;have n_ := Z76;clear BK526 HB;obtain ⟨BK526,HB,BK527,GW527,GE527,NB526_527,NB527_526⟩ := n_;clear hb hbox hg) | ((with_reducible refine gate_dst (N := 4) rfl ?_);refine bE 4 #[.int .i64 0,.int .i64 0] 37 (h := ?_);intro gb528 hg wq3 hbox hb;have n_ := Z47;clear BK526 BK527 HB;obtain ⟨BK526,BK527,HB,BK528,GW528,GE528,NB526_528,NB528_526,NB527_528,NB528_527⟩ := n_;clear hb hbox hg;have hnbq4 := NB526_527.out;have hncq4 := NB527_526.out;have hnbq5 := NB526_528.out;have hncq5 := NB528_526.out;obtain ⟨hczq6_0,hczq6_1,hfzq6_0,hfzq6_1⟩ := cells2 BK526.out;have hnbq7 := NB527_528.out;have hncq7 := NB528_527.out;obtain ⟨hczq8_0,hczq8_1,hfzq8_0,hfzq8_1⟩ := cells2 BK527.out) | ((with_reducible refine gate_callee (f := 149) rfl ?_);refine goesL_ (some 15) rfl rfl Try.func149 Z312 rfl #[.int .i64 a0_0,.int .i64 a1_0] rfl Z256 ?_;(with_reducible refine (impl_AddInt.calls a0_0 a1_0 t529 false _ A3.out).mono ?_);rintro e w' ⟨rfl,⟨nd,rfl⟩⟩;refine ⟨_,rfl,?_⟩;(iterate 4 (try (rw [drewN_self wq3];generalize hq_ : World.drewN wq3 _ = wq3;have n0_ : Aside0 (wq3.heap[gb526]? = some (.cells #[.int .i64 a0_0,.int .i64 a0_1] 37 (0,0))) := ⟨Z274⟩;have n1_ : Aside0 (wq3.heap[gb527]? = some (.cells #[.int .i64 a1_0,.int .i64 a1_1] 37 (0,0))) := ⟨Z273⟩;have n2_ : Aside0 (wq3.heap[gb528]? = some (.cells #[.int .i64 0,.int .i64 0] 37 (0,0))) := ⟨Z272⟩;have n3_ : Aside0 (Below w.heap.size w wq3) := ⟨Z175⟩;clear BK526 BK527 BK528 HB hq_;have BK526 := n0_;have BK527 := n1_;have BK528 := n2_;have HB := n3_;clear n0_ n1_ n2_ n3_)));(try (obtain ⟨hczq6_0,hczq6_1,hfzq6_0,hfzq6_1⟩ := cells2 BK526.out));(try (obtain ⟨hczq8_0,hczq8_1,hfzq8_0,hfzq8_1⟩ := cells2 BK527.out))) | ((with_reducible refine gate_callee (f := 149) rfl ?_);refine goesL_ (some 23) rfl rfl Try.func149 Z312 rfl #[.int .i64 a0_1,.int .i64 a1_1] rfl Z256 ?_;(with_reducible refine (impl_AddInt.calls a0_1 a1_1 t531 t532 _ A4.out).mono ?_);rintro e w' ⟨rfl,⟨nd,rfl⟩⟩;refine ⟨_,rfl,?_⟩;(iterate 4 (try (rw [drewN_self wq3];generalize hq_ : World.drewN wq3 _ = wq3;have n0_ : Aside0 (wq3.heap[gb526]? = some (.cells #[.int .i64 a0_0,.int .i64 a0_1] 37 (0,0))) := ⟨Z274⟩;have n1_ : Aside0 (wq3.heap[gb527]? = some (.cells #[.int .i64 a1_0,.int .i64 a1_1] 37 (0,0))) := ⟨Z273⟩;have n2_ : Aside0 (wq3.heap[gb528]? = some (.cells #[.int .i64 0,.int .i64 0] 37 (0,0))) := ⟨Z272⟩;have n3_ : Aside0 (Below w.heap.size w wq3) := ⟨Z175⟩;clear BK526 BK527 BK528 HB hq_;have BK526 := n0_;have BK527 := n1_;have BK528 := n2_;have HB := n3_;clear n0_ n1_ n2_ n3_)));(try (obtain ⟨hczq6_0,hczq6_1,hfzq6_0,hfzq6_1⟩ := cells2 BK526.out));(try (obtain ⟨hczq8_0,hczq8_1,hfzq8_0,hfzq8_1⟩ := cells2 BK527.out));obtain ⟨hczq9_0,hczq9_1,hfzq9_0,hfzq9_1⟩ := cells2 BK528.out))
  refine bodyPost_ret (results_ct rfl _ _ gb528 37 #[.int .i64 0,.int .i64 0] (0,0) _ rfl Z222 Try.underlying37 rfl Z312) rfl ?_
  exact ⟨Z263,Z358⟩

/-! ### impl_BothOf: function 88 -/
def impl_BothOf.f (a0_0 : Int) (a0_1 : Int) (a0_2 : Int) (a0_3 : Int) (a0_4 : Int) (a0_5 : Int) : Option (Int × Int × Bool) := (impl_Slot_plus.f a0_2 a0_3 a0_4 a0_5).bind fun bt535 => (some (bt535.1,bt535.2.1,bt535.2.2))
set_option maxHeartbeats 8000000 in
set_option maxRecDepth 100000 in
theorem impl_BothOf.calls (a0_0 : Int) (a0_1 : Int) (a0_2 : Int) (a0_3 : Int) (a0_4 : Int) (a0_5 : Int) (r1 : Int) (r2 : Int) (r3 : Bool) (w : World) (h : impl_BothOf.f a0_0 a0_1 a0_2 a0_3 a0_4 a0_5 = some (r1,r2,r3)) :
  Calls Try.prog 88 #[.agg #[.int .i64 a0_0,.int .i64 a0_1,.int .i64 a0_2,.int .i64 a0_3,.int .i64 a0_4,.int .i64 a0_5]] w fun e w' => e = .returned (.tuple #[.agg #[.int .i64 r1,.int .i64 r2],.bool r3]) ∧ Below w.heap.size w w' := by
 have hu39 := Try.underlying39
 have hu37 := Try.underlying37
 have HB := Aside0.mk (Below.refl w.heap.size w)
 have H := h
 clear h
 unfold impl_BothOf.f at H
 obtain ⟨⟨t535,t536,t537⟩,A20,H⟩ := Option.bind_eq_some_iff.mp H
 try dsimp only at H
 have A2 := Aside0.mk A20
 clear A20
 simp only [Option.some.injEq,Prod.mk.injEq] at H
 obtain ⟨rfl,rfl,rfl⟩ := H
 go_enter Try.func88,Try.ntmps88
 go_wp2_with (first | ((with_reducible refine gate_dst (N := 1) rfl ?_);refine bE 1 #[.int .i64 a0_0,.int .i64 a0_1,.int .i64 a0_2,.int .i64 a0_3,.int .i64 a0_4,.int .i64 a0_5] 39 (h := ?_);intro gb533 hg wq1 hbox hb;have n_ := jA (below_step Z614 hb) (jA (hbox) (jA ((Z456 : w.heap.size ≤ gb533)) (Aside0.mk ((Z456 : w.heap.size ≤ gb533)))));clear HB;obtain ⟨HB,BK533,GW533,GE533⟩ := n_;clear hb hbox hg) | ((with_reducible refine gate_dst (N := 2) rfl ?_);refine bE 2 #[.int .i64 0,.int .i64 0] 37 (h := ?_);intro gb534 hg wq2 hbox hb;have n_ := jA (blk_below (g := gb533) (o := .cells #[.int .i64 a0_0,.int .i64 a0_1,.int .i64 a0_2,.int .i64 a0_3,.int .i64 a0_4,.int .i64 a0_5] 39 (0,0)) Z299 hb) (jA (below_step Z462 hb) (jA (hbox) (jA ((Z205 : w.heap.size ≤ gb534)) (jA ((Z205 : w.heap.size ≤ gb534)) (jA ((by rw [hg];exact Nat.ne_of_lt (blk_lt (g := gb533) (o := .cells #[.int .i64 a0_0,.int .i64 a0_1,.int .i64 a0_2,.int .i64 a0_3,.int .i64 a0_4,.int .i64 a0_5] 39 (0,0)) Z299) : gb533 ≠ gb534)) (Aside0.mk ((by rw [hg];exact Nat.ne_of_gt (blk_lt (g := gb533) (o := .cells #[.int .i64 a0_0,.int .i64 a0_1,.int .i64 a0_2,.int .i64 a0_3,.int .i64 a0_4,.int .i64 a0_5] 39 (0,0)) Z299) : gb534 ≠ gb533))))))));clear BK533 HB;obtain ⟨BK533,HB,BK534,GW534,GE534,NB533_534,NB534_533⟩ := n_;clear hb hbox hg;have hnbq3 := NB533_534.out;have hncq3 := NB534_533.out;obtain ⟨hczq4_0,hczq4_1,hczq4_2,hczq4_3,hczq4_4,hczq4_5,hfzq4_0,hfzq4_1,hfzq4_2,hfzq4_3,hfzq4_4,hfzq4_5⟩ := cells6 BK533.out) | ((with_reducible refine gate_callee (f := 124) rfl ?_);refine goesL_ (some 8) rfl rfl Try.func124 Z312 rfl #[.agg #[.int .i64 a0_2,.int .i64 a0_3],.agg #[.int .i64 a0_4,.int .i64 a0_5]] rfl Z256 ?_;(with_reducible refine (impl_Slot_plus.calls a0_2 a0_3 a0_4 a0_5 t535 t536 t537 _ A2.out).mono ?_);rintro e wq5 ⟨rfl,hb⟩;refine ⟨_,rfl,?_⟩;have n_ := jA (blk_below (g := gb533) (o := .cells #[.int .i64 a0_0,.int .i64 a0_1,.int .i64 a0_2,.int .i64 a0_3,.int .i64 a0_4,.int .i64 a0_5] 39 (0,0)) Z299 hb) (jA (blk_below (g := gb534) (o := .cells #[.int .i64 0,.int .i64 0] 37 (0,0)) (by refine bP ?_;exact BK534.out) hb) (Aside0.mk (below_step Z202 hb)));clear BK533 BK534 HB;obtain ⟨BK533,BK534,HB⟩ := n_;(try clear hb);(try clear hb2);(try clear hk);(try clear hi);obtain ⟨hczq6_0,hczq6_1,hfzq6_0,hfzq6_1⟩ := cells2 BK534.out))
 refine bodyPost_ret (results_ct rfl _ _ gb534 37 #[.int .i64 t535,.int .i64 t536] (0,0) _ rfl (by refine bP ?_;refine blk_put (cs := #[.int .i64 t535,.int .i64 0]) ?_ 1 _ rfl;refine bP ?_;refine blk_put (cs := #[.int .i64 0,.int .i64 0]) ?_ 0 _ rfl;refine bP ?_;exact BK534.out) Try.underlying37 rfl Z312) rfl ?_
 exact ⟨Z263,Z202⟩

end Go.Proofs.Ytaepeajaefpooaa.QFnExactMayPart
