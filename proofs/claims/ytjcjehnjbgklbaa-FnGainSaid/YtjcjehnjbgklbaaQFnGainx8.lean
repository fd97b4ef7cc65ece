/- The machine side of FnGain: what each Go function that it reaches comes to. Conditions: none. -/
import Derived.Test.YtjcjehnjbgklbaaQFnGainx0
import Derived.Test.YtjcjehnjbgklbaaQFnGainx6
import Derived.Test.YtjcjehnjbgklbaaQFnGainx7
namespace Go.Proofs.Ytjcjehnjbgklbaa.QFnGain
open Go.RowKit Go.Proofs.YtjcjehnjbgklbaaW.PrintWords Go.Proofs.YtjcjehnjbgklbaaW.PrintLast Go.Proofs.YtjcjehnjbgklbaaW.PrintMore
attribute [local go_sem] max2_int min2_int max_two min_two max_three min_three max_four min_four   -- for this text's walks alone
set_option linter.unusedVariables false
set_option linter.unusedSimpArgs false

/-! ### cmp_isNaN_uint64: function 84 -/
def cmp_isNaN_uint64.f (a0 : Int) : Option (Bool) := some (a0 != a0)
set_option maxHeartbeats 8000000 in
set_option maxRecDepth 100000 in
theorem cmp_isNaN_uint64.calls (a0 : Int) (r : Bool) (w : World) (h : cmp_isNaN_uint64.f a0 = some r) :
    Calls Try.prog 84 #[.int .u64 a0] w fun e w' => e = .returned (.bool r) ∧ Drawn0 w w' := by
  have H : (some (a0 != a0)) = some r := h
  clear h
  obtain rfl := Option.some.inj H
  go_enter Try.func84,Try.ntmps84
  go_wp2
  go_ret
  exact ⟨Z358,Z355⟩

/-! ### cmp_Compare_uint64: function 83 -/
def cmp_Compare_uint64.f (a0 : Int) (a1 : Int) : Option (Int) := (cmp_isNaN_uint64.f a0).bind fun t276 => ((cmp_isNaN_uint64.f a1).bind fun t277 => (if t276 = true then (if t277 = true then (some 0) else (some (-1))) else (if t277 = true then (some 1) else (if a0 < a1 then (some (-1)) else (if a0 > a1 then (some 1) else (some 0))))))
set_option maxHeartbeats 8000000 in
set_option maxRecDepth 100000 in
theorem cmp_Compare_uint64.calls (a0 : Int) (a1 : Int) (r : Int) (w : World) (h : cmp_Compare_uint64.f a0 a1 = some r) :
    Calls Try.prog 83 #[.int .u64 a0,.int .u64 a1] w fun e w' => e = .returned (.int .i64 r) ∧ Drawn0 w w' := by
  have H : ((cmp_isNaN_uint64.f a0).bind fun t276 => ((cmp_isNaN_uint64.f a1).bind fun t277 => (if t276 = true then (if t277 = true then (some 0) else (some (-1))) else (if t277 = true then (some 1) else (if a0 < a1 then (some (-1)) else (if a0 > a1 then (some 1) else (some 0))))))) = some r := h
  clear h
  obtain ⟨t276,A30,H⟩ := Option.bind_eq_some_iff.mp H
  have A3 := Aside0.mk A30
  clear A30
  obtain ⟨t277,A40,H⟩ := Option.bind_eq_some_iff.mp H
  have A4 := Aside0.mk A40
  clear A40
  by_cases c5 : t276 = true
  · subst c5
    have H1 : (if t277 = true then (some 0) else (some (-1))) = some r := by rw [if_pos rfl] at H;exact H
    clear H
    have H := H1
    clear H1
    by_cases c6 : t277 = true
    · subst c6
      have H1 : (some 0) = some r := by rw [if_pos rfl] at H;exact H
      clear H
      have H := H1
      clear H1
      obtain rfl := Option.some.inj H
      go_enter Try.func83,Try.ntmps83
      go_wp2_with (first | ((with_reducible refine gate_callee (f := 84) rfl ?_);refine goesL_ (some 8) rfl rfl Try.func84 Z363 rfl #[.int .u64 a0] rfl Z330 ?_;(with_reducible refine (cmp_isNaN_uint64.calls a0 true _ A3.out).mono ?_);rintro e w' ⟨rfl,⟨nd,rfl⟩⟩;refine ⟨_,rfl,?_⟩) | ((with_reducible refine gate_callee (f := 84) rfl ?_);refine goesL_ (some 10) rfl rfl Try.func84 Z363 rfl #[.int .u64 a1] rfl Z330 ?_;(with_reducible refine (cmp_isNaN_uint64.calls a1 true _ A4.out).mono ?_);rintro e w' ⟨rfl,⟨nd,rfl⟩⟩;refine ⟨_,rfl,?_⟩))
      go_ret
      exact ⟨Z358,Z355⟩
    · replace c6 := Bool.eq_false_iff.mpr c6
      subst c6
      have H1 : (some (-1)) = some r := by rw [if_neg (show ¬ (false = true) by decide)] at H;exact H
      clear H
      have H := H1
      clear H1
      obtain rfl := Option.some.inj H
      go_enter Try.func83,Try.ntmps83
      go_wp2_with (first | ((with_reducible refine gate_callee (f := 84) rfl ?_);refine goesL_ (some 8) rfl rfl Try.func84 Z363 rfl #[.int .u64 a0] rfl Z330 ?_;(with_reducible refine (cmp_isNaN_uint64.calls a0 true _ A3.out).mono ?_);rintro e w' ⟨rfl,⟨nd,rfl⟩⟩;refine ⟨_,rfl,?_⟩) | ((with_reducible refine gate_callee (f := 84) rfl ?_);refine goesL_ (some 10) rfl rfl Try.func84 Z363 rfl #[.int .u64 a1] rfl Z330 ?_;(with_reducible refine (cmp_isNaN_uint64.calls a1 false _ A4.out).mono ?_);rintro e w' ⟨rfl,⟨nd,rfl⟩⟩;refine ⟨_,rfl,?_⟩))
      go_ret
      exact ⟨Z358,Z355⟩
  · replace c5 := Bool.eq_false_iff.mpr c5
    subst c5
    have H1 : (if t277 = true then (some 1) else (if a0 < a1 then (some (-1)) else (if a0 > a1 then (some 1) else (some 0)))) = some r := by rw [if_neg (show ¬ (false = true) by decide)] at H;exact H
    clear H
    have H := H1
    clear H1
    by_cases c7 : t277 = true
    · subst c7
      have H1 : (some 1) = some r := by rw [if_pos rfl] at H;exact H
      clear H
      have H := H1
      clear H1
      obtain rfl := Option.some.inj H
      go_enter Try.func83,Try.ntmps83
      go_wp2_with (first | ((with_reducible refine gate_callee (f := 84) rfl ?_);refine goesL_ (some 8) rfl rfl Try.func84 Z363 rfl #[.int .u64 a0] rfl Z330 ?_;(with_reducible refine (cmp_isNaN_uint64.calls a0 false _ A3.out).mono ?_);rintro e w' ⟨rfl,⟨nd,rfl⟩⟩;refine ⟨_,rfl,?_⟩) | ((with_reducible refine gate_callee (f := 84) rfl ?_);refine goesL_ (some 10) rfl rfl Try.func84 Z363 rfl #[.int .u64 a1] rfl Z330 ?_;(with_reducible refine (cmp_isNaN_uint64.calls a1 true _ A4.out).mono ?_);rintro e w' ⟨rfl,⟨nd,rfl⟩⟩;refine ⟨_,rfl,?_⟩))
      go_ret
      exact ⟨Z358,Z355⟩
    · replace c7 := Bool.eq_false_iff.mpr c7
      subst c7
      have H1 : (if a0 < a1 then (some (-1)) else (if a0 > a1 then (some 1) else (some 0))) = some r := by rw [if_neg (show ¬ (false = true) by decide)] at H;exact H
      clear H
      have H := H1
      clear H1
      by_cases c8 : a0 < a1
      · rw [if_pos c8] at H
        have c8b0 : decide (a0 < a1) = true := decide_eq_true c8
        clear c8
        obtain rfl := Option.some.inj H
        go_enter Try.func83,Try.ntmps83
        go_wp2_with (first | ((with_reducible refine gate_callee (f := 84) rfl ?_);refine goesL_ (some 8) rfl rfl Try.func84 Z363 rfl #[.int .u64 a0] rfl Z330 ?_;(with_reducible refine (cmp_isNaN_uint64.calls a0 false _ A3.out).mono ?_);rintro e w' ⟨rfl,⟨nd,rfl⟩⟩;refine ⟨_,rfl,?_⟩) | ((with_reducible refine gate_callee (f := 84) rfl ?_);refine goesL_ (some 10) rfl rfl Try.func84 Z363 rfl #[.int .u64 a1] rfl Z330 ?_;(with_reducible refine (cmp_isNaN_uint64.calls a1 false _ A4.out).mono ?_);rintro e w' ⟨rfl,⟨nd,rfl⟩⟩;refine ⟨_,rfl,?_⟩))
        go_ret
        exact ⟨Z358,Z355⟩
      · rw [if_neg c8] at H
        have c8b0 : decide (a0 < a1) = false := decide_eq_false c8
        clear c8
        by_cases c9 : a0 > a1
        · rw [if_pos c9] at H
          have c9b0 : decide (a1 < a0) = true := decide_eq_true c9
          clear c9
          obtain rfl := Option.some.inj H
          go_enter Try.func83,Try.ntmps83
          go_wp2_with (first | ((with_reducible refine gate_callee (f := 84) rfl ?_);refine goesL_ (some 8) rfl rfl Try.func84 Z363 rfl #[.int .u64 a0] rfl Z330 ?_;(with_reducible refine (cmp_isNaN_uint64.calls a0 false _ A3.out).mono ?_);rintro e w' ⟨rfl,⟨nd,rfl⟩⟩;refine ⟨_,rfl,?_⟩) | ((with_reducible refine gate_callee (f := 84) rfl ?_);refine goesL_ (some 10) rfl rfl Try.func84 Z363 rfl #[.int .u64 a1] rfl Z330 ?_;(with_reducible refine (cmp_isNaN_uint64.calls a1 false _ A4.out).mono ?_);rintro e w' ⟨rfl,⟨nd,rfl⟩⟩;refine ⟨_,rfl,?_⟩))
          go_ret
          exact ⟨Z358,Z355⟩
        · rw [if_neg c9] at H
          have c9b0 : decide (a1 < a0) = false := decide_eq_false c9
          clear c9
          obtain rfl := Option.some.inj H
          go_enter Try.func83,Try.ntmps83
          go_wp2_with (first | ((with_reducible refine gate_callee (f := 84) rfl ?_);refine goesL_ (some 8) rfl rfl Try.func84 Z363 rfl #[.int .u64 a0] rfl Z330 ?_;(with_reducible refine (cmp_isNaN_uint64.calls a0 false _ A3.out).mono ?_);rintro e w' ⟨rfl,⟨nd,rfl⟩⟩;refine ⟨_,rfl,?_⟩) | ((with_reducible refine gate_callee (f := 84) rfl ?_);refine goesL_ (some 10) rfl rfl Try.func84 Z363 rfl #[.int .u64 a1] rfl Z330 ?_;(with_reducible refine (cmp_isNaN_uint64.calls a1 false _ A4.out).mono ?_);rintro e w' ⟨rfl,⟨nd,rfl⟩⟩;refine ⟨_,rfl,?_⟩))
          go_ret
          exact ⟨Z358,Z355⟩

/-! ### impl_compareSizes: function 69 -/
def impl_compareSizes.f (k : Nat) (a0_0 : Bool) (a0_1 : Int) (a0_2 : Int) (a1_0 : Bool) (a1_1 : Int) (a1_2 : Int) : Option (Int) := (cmp_Compare_uint64.f a0_1 a1_1).bind fun t280 => ((cmp_Compare_uint64.f a0_2 a1_2).bind fun t281 => ((cmp_Or_int.f k (([t280,t281] : List Int))).bind fun t285 => (some t285)))
theorem impl_compareSizes.mono : ∀ a0 a1 a2 a3 a4 a5 k,LeO (impl_compareSizes.f k a0 a1 a2 a3 a4 a5) (impl_compareSizes.f (k + 1) a0 a1 a2 a3 a4 a5) := by
  intro a0 a1 a2 a3 a4 a5 k
  unfold impl_compareSizes.f
  repeat' first
      | (with_reducible exact cmp_Or_int.mono _ _)
      | (with_reducible exact LeO.refl _)
      | (with_reducible exact LeO.none _)
      | (with_reducible refine LeO.ite ?_ ?_)
      | (with_reducible refine LeO.bind ?_ (fun _ => ?_))
      | exact cmp_Or_int.mono _ _
      | exact LeO.none _
      | refine LeO.ite ?_ ?_
      | refine LeO.bind ?_ (fun _ => ?_)
def impl_compareSizes.T1 : Bool × List (List Nat × List Nat) := (true,[([],[]),([0],[0]),([],[]),([2],[2]),([1,3],[1,3]),([],[]),([5],[5]),([],[]),([7],[7]),([6,8,4],[6,8]),([4,9],[4,9]),([10,9],[10]),([11,11,0,1,2,3,4,5,6,7,8,9,10,11],[11])])
def impl_compareSizes.B1 : List Nat := [0,1,0,4,15,0,32,0,128,511,1023,2047,4095]
theorem impl_compareSizes.tab1 : rtab .any (opsOf Try.f69 1) = impl_compareSizes.T1 := by kernel_rfl
theorem impl_compareSizes.bits1 : waitsOk impl_compareSizes.T1.2 impl_compareSizes.B1 = true := by kernel_rfl
set_option maxHeartbeats 8000000 in
set_option maxRecDepth 100000 in
theorem impl_compareSizes.calls (k : Nat) (a0_0 : Bool) (a0_1 : Int) (a0_2 : Int) (a1_0 : Bool) (a1_1 : Int) (a1_2 : Int) (r : Int) (w : World) (h : impl_compareSizes.f k a0_0 a0_1 a0_2 a1_0 a1_1 a1_2 = some r) :
    Calls Try.prog 69 #[.agg #[.bool a0_0,.int .u64 a0_1,.int .u64 a0_2],.agg #[.bool a1_0,.int .u64 a1_1,.int .u64 a1_2]] w fun e w' => e = .returned (.int .i64 r) ∧ Below w.heap.size w w' := by
  have hu28 := Try.underlying28
  have HB := Aside0.mk (Below.refl w.heap.size w)
  have H : ((cmp_Compare_uint64.f a0_1 a1_1).bind fun t280 => ((cmp_Compare_uint64.f a0_2 a1_2).bind fun t281 => ((cmp_Or_int.f k (([t280,t281] : List Int))).bind fun t285 => (some t285)))) = some r := h
  clear h
  obtain ⟨t280,A30,H⟩ := Option.bind_eq_some_iff.mp H
  have A3 := Aside0.mk A30
  clear A30
  obtain ⟨t281,A40,H⟩ := Option.bind_eq_some_iff.mp H
  have A4 := Aside0.mk A40
  clear A40
  obtain ⟨y282,hy282⟩ : ∃ y_ : List Int,y_ = (([t280,t281] : List Int)) := ⟨_,rfl⟩
  replace H : ((cmp_Or_int.f k y282).bind fun t285 => (some t285)) = some r := by first | (rw [hy282];with_reducible exact H) | (have H2_ := (Option.bind_some _ _).symm.trans H;rw [hy282];with_reducible exact H2_) | (have H2_ := (Option.bind_some _ _).symm.trans H;with_reducible exact H2_) | with_reducible exact H | (rw [hy282];exact H) | exact H
  have Ny282 := Aside0.mk hy282
  clear hy282
  obtain ⟨t285,A50,H⟩ := Option.bind_eq_some_iff.mp H
  have A5 := Aside0.mk A50
  clear A50
  obtain rfl := Option.some.inj H
  go_enter Try.func69,Try.ntmps69
  try go_wp2_with (first | ((with_reducible refine gate_dst (N := 2) rfl ?_);refine box_event ?hg (N := 2) ?hd (cs := #[.bool a0_0,.int .u64 a0_1,.int .u64 a0_2]) (t := 28) ?hr ?_;(case hd => rfl);(case hg => rfl);(case hr => exact Z359);intro gb278 hg w6 hbox hb;have n_ := jA (below_step Z430 hb) (jA (hbox) (jA ((Z321 : w.heap.size ≤ gb278)) (Aside0.mk ((Z321 : w.heap.size ≤ gb278)))));clear HB;obtain ⟨HB,BK278,GW278,GE278⟩ := n_;clear hb hbox hg) | ((with_reducible refine gate_dst (N := 3) rfl ?_);refine box_event ?hg (N := 3) ?hd (cs := #[.bool a1_0,.int .u64 a1_1,.int .u64 a1_2]) (t := 28) ?hr ?_;(case hd => rfl);(case hg => rfl);(case hr => exact Z359);intro gb279 hg w7 hbox hb;have n_ := jA (blk_below (g := gb278) (o := .cells #[.bool a0_0,.int .u64 a0_1,.int .u64 a0_2] 28 (0,0)) Z348 hb) (jA (below_step Z423 hb) (jA (hbox) (jA ((Z310 : w.heap.size ≤ gb279)) (jA ((Z310 : w.heap.size ≤ gb279)) (jA ((by rw [hg];exact Nat.ne_of_lt (blk_lt (g := gb278) (o := .cells #[.bool a0_0,.int .u64 a0_1,.int .u64 a0_2] 28 (0,0)) Z348) : gb278 ≠ gb279)) (Aside0.mk ((by rw [hg];exact Nat.ne_of_gt (blk_lt (g := gb278) (o := .cells #[.bool a0_0,.int .u64 a0_1,.int .u64 a0_2] 28 (0,0)) Z348) : gb279 ≠ gb278))))))));clear BK278 HB;obtain ⟨BK278,HB,BK279,GW279,GE279,NB278_279,NB279_278⟩ := n_;clear hb hbox hg))
  have n0_ := Aside0.mk (blk_drew BK278.out)
  have n1_ := Aside0.mk (blk_drew BK279.out)
  have n2_ := Aside0.mk (below_drew1 HB.out)
  clear BK278
  clear BK279
  clear HB
  have BK278 := n0_
  have BK279 := n1_
  have HB := n2_
  clear n0_ n1_ n2_
  refine start_ (n := 13) (S := fun w' => w'.cell? ⟨gb278,0,none⟩ = some (.bool a0_0) ∧ w'.cell? ⟨gb278,1,none⟩ = some (.int .u64 a0_1) ∧ w'.cell? ⟨gb278,2,none⟩ = some (.int .u64 a0_2) ∧ w'.cell? ⟨gb279,0,none⟩ = some (.bool a1_0) ∧ w'.cell? ⟨gb279,1,none⟩ = some (.int .u64 a1_1) ∧ w'.cell? ⟨gb279,2,none⟩ = some (.int .u64 a1_2)) (ds := []) #[false,false,false,false,false,false,false,false,false,false,false,false,false] Z363 rfl rfl ⟨(blk_cell BK278.out 0).trans rfl,(blk_cell BK278.out 1).trans rfl,(blk_cell BK278.out 2).trans rfl,(blk_cell BK279.out 0).trans rfl,(blk_cell BK279.out 1).trans rfl,(blk_cell BK279.out 2).trans rfl⟩ (fun hHeld => ?_);refine with_tabW impl_compareSizes.tab1 impl_compareSizes.bits1 (fun HT_ HW_ => ?_)
  generalize w7.drew = w8 at BK278 BK279 HB hHeld ⊢
  refine pure_ (i := 0) (N := some 5) (v := ?_) (a' := ?_) #[true,false,false,false,false,false,false,false,false,false,false,false,false] rfl rfl (any_of HT_.out Z363) (fun _ _ _ h => h) (Or.inl ⟨Z365,?_⟩) ?_ ?_
  rotate_left
  · intro w'
    go_simp
    with_reducible rfl
  rotate_left
  · simp only [Act.put,List.setIfInBounds_toArray,List.set_cons_zero,List.set_cons_succ,i64_w,i32_w]
    rfl
  refine pure_ (i := 2) (N := some 7) (v := ?_) (a' := ?_) #[true,false,true,false,false,false,false,false,false,false,false,false,false] rfl rfl (any_of HT_.out Z363) (fun _ _ _ h => h) (Or.inl ⟨Z365,?_⟩) ?_ ?_
  rotate_left
  · intro w'
    go_simp
    with_reducible rfl
  rotate_left
  · simp only [Act.put,List.setIfInBounds_toArray,List.set_cons_zero,List.set_cons_succ,i64_w,i32_w]
    rfl
  refine pure_ (i := 5) (N := some 10) (v := ?_) (a' := ?_) #[true,false,true,false,false,true,false,false,false,false,false,false,false] rfl rfl (any_of HT_.out Z363) (fun _ _ _ h => h) (Or.inl ⟨Z365,?_⟩) ?_ ?_
  rotate_left
  · intro w'
    go_simp
    with_reducible rfl
  rotate_left
  · simp only [Act.put,List.setIfInBounds_toArray,List.set_cons_zero,List.set_cons_succ,i64_w,i32_w]
    rfl
  refine pure_ (i := 7) (N := some 12) (v := ?_) (a' := ?_) #[true,false,true,false,false,true,false,true,false,false,false,false,false] rfl rfl (any_of HT_.out Z363) (fun _ _ _ h => h) (Or.inl ⟨Z365,?_⟩) ?_ ?_
  rotate_left
  · intro w'
    go_simp
    with_reducible rfl
  rotate_left
  · simp only [Act.put,List.setIfInBounds_toArray,List.set_cons_zero,List.set_cons_succ,i64_w,i32_w]
    rfl
  refine take_ (i := 1) (N := some 6) (v := ?_) (a' := ?_) #[true,true,true,false,false,true,false,true,false,false,false,false,false] rfl rfl (take_ofW HT_.out HW_.out Z363) (fun _ _ _ h => h) (Or.inl ⟨Z365,?_⟩) hHeld ?_ ?_
  rotate_left
  · rintro w' ⟨s0,s1,s2,s3,s4,s5⟩
    go_simp
    with_reducible rfl
  rotate_left
  · simp only [Act.put,List.setIfInBounds_toArray,List.set_cons_zero,List.set_cons_succ,i64_w,i32_w]
    rfl
  refine take_ (i := 3) (N := some 8) (v := ?_) (a' := ?_) #[true,true,true,true,false,true,false,true,false,false,false,false,false] rfl rfl (take_ofW HT_.out HW_.out Z363) (fun _ _ _ h => h) (Or.inl ⟨Z365,?_⟩) hHeld ?_ ?_
  rotate_left
  · rintro w' ⟨s0,s1,s2,s3,s4,s5⟩
    go_simp
    with_reducible rfl
  rotate_left
  · simp only [Act.put,List.setIfInBounds_toArray,List.set_cons_zero,List.set_cons_succ,i64_w,i32_w]
    rfl
  refine take_ (i := 6) (N := some 11) (v := ?_) (a' := ?_) #[true,true,true,true,false,true,true,true,false,false,false,false,false] rfl rfl (take_ofW HT_.out HW_.out Z363) (fun _ _ _ h => h) (Or.inl ⟨Z365,?_⟩) hHeld ?_ ?_
  rotate_left
  · rintro w' ⟨s0,s1,s2,s3,s4,s5⟩
    go_simp
    with_reducible rfl
  rotate_left
  · simp only [Act.put,List.setIfInBounds_toArray,List.set_cons_zero,List.set_cons_succ,i64_w,i32_w]
    rfl
  refine take_ (i := 8) (N := some 13) (v := ?_) (a' := ?_) #[true,true,true,true,false,true,true,true,true,false,false,false,false] rfl rfl (take_ofW HT_.out HW_.out Z363) (fun _ _ _ h => h) (Or.inl ⟨Z365,?_⟩) hHeld ?_ ?_
  rotate_left
  · rintro w' ⟨s0,s1,s2,s3,s4,s5⟩
    go_simp
    with_reducible rfl
  rotate_left
  · simp only [Act.put,List.setIfInBounds_toArray,List.set_cons_zero,List.set_cons_succ,i64_w,i32_w]
    rfl
  refine one_ (i := 4) (N := some 9) #[true,true,true,true,true,true,true,true,true,false,false,false,false] rfl rfl (one_of HT_.out Z363) Z364 (fun K hK => ?_)
  refine goes_ Try.func83 Z363 rfl #[.int .u64 a0_1,.int .u64 a1_1] Z365 rfl rfl Z330 ?_
  with_reducible refine (cmp_Compare_uint64.calls a0_1 a1_1 t280 _ A3.out).mono ?_
  rintro e w' ⟨rfl,⟨nd,rfl⟩⟩
  refine ⟨_,rfl,?_⟩
  refine hK.out _ _ ⟨(blk_cell BK278.out 0).trans rfl,(blk_cell BK278.out 1).trans rfl,(blk_cell BK278.out 2).trans rfl,(blk_cell BK279.out 0).trans rfl,(blk_cell BK279.out 1).trans rfl,(blk_cell BK279.out 2).trans rfl⟩ (fun hHeld => ?_)
  clear hK K
  refine norm_ (a' := ?_) ?_ ?_
  rotate_left
  · show Act.put _ (some 9) _ = _
    simp only [Act.put,List.setIfInBounds_toArray,List.set_cons_zero,List.set_cons_succ,i64_w,i32_w]
    rfl
  refine one_ (i := 9) (N := some 14) #[true,true,true,true,true,true,true,true,true,true,false,false,false] rfl rfl (one_of HT_.out Z363) Z364 (fun K hK => ?_)
  refine goes_ Try.func83 Z363 rfl #[.int .u64 a0_2,.int .u64 a1_2] Z365 rfl rfl Z330 ?_
  with_reducible refine (cmp_Compare_uint64.calls a0_2 a1_2 t281 _ A4.out).mono ?_
  rintro e w' ⟨rfl,⟨nd,rfl⟩⟩
  refine ⟨_,rfl,?_⟩
  refine hK.out _ _ ⟨(blk_cell BK278.out 0).trans rfl,(blk_cell BK278.out 1).trans rfl,(blk_cell BK278.out 2).trans rfl,(blk_cell BK279.out 0).trans rfl,(blk_cell BK279.out 1).trans rfl,(blk_cell BK279.out 2).trans rfl⟩ (fun hHeld => ?_)
  clear hK K
  refine norm_ (a' := ?_) ?_ ?_
  rotate_left
  · show Act.put _ (some 14) _ = _
    simp only [Act.put,List.setIfInBounds_toArray,List.set_cons_zero,List.set_cons_succ,i64_w,i32_w]
    rfl
  refine one_ (i := 10) (N := some 15) #[true,true,true,true,true,true,true,true,true,true,true,false,false] rfl rfl (one_of HT_.out Z363) Z364 (fun K hK => ?_)
  refine Kd.R_lit_step (Kd.int .i64) _ 3 ?hg (N := 15) ?hd (xs := ([t280,t281] : List Int)) (inner := [.int .i64 t280,.int .i64 t281]) (ok := fun _ => True) (okp := fun _ => True) ?hr ?hp (fun _ hk => hk) trivial (Below.refl _ _) (Nat.le_refl _) Z483 ?_;(case hd => rfl);(case hg => rfl);(case hr => exact Z359);(case hp => exact (Reps.one (show Kd.M (Kd.int .i64) _ _ _ t280 [.int .i64 t280] from rfl) (Reps.one (show Kd.M (Kd.int .i64) _ _ _ t281 [.int .i64 t281] from rfl) (Reps.none _ _))))
  intro v283 w9 ho10 hb hg_ hnew_
  clear hg_ hnew_
  (first | rw [← Ny282.out] at ho10 | (simp only [Int.reduceToNat] at ho10;rw [← Ny282.out] at ho10))
  have n0_ := Aside0.mk (Kd.R_lower ho10 (below_size Z307))
  have n1_ := Aside0.mk (blk_below (g := gb278) (o := .cells #[.bool a0_0,.int .u64 a0_1,.int .u64 a0_2] 28 (0,0)) Z348 hb)
  have n2_ := Aside0.mk (blk_below (g := gb279) (o := .cells #[.bool a1_0,.int .u64 a1_1,.int .u64 a1_2] 28 (0,0)) (by (with_reducible repeat (first | refine bA ?_ _ | refine bB ?_ | refine bC ?_ _));exact BK279.out) hb)
  have n3_ := Aside0.mk (below_step Z307 hb)
  clear BK278
  clear BK279
  clear HB
  have HO284 := n0_
  have BK278 := n1_
  have BK279 := n2_
  have HB := n3_
  clear n0_ n1_ n2_ n3_
  clear hb ho10
  obtain ⟨Ao11,co11,eo11⟩ := Kd.R_slice HO284.out
  (first | subst eo11 | (injection eo11 with f1_ f2_ f3_;have f4_ := f1_.symm;have f5_ := f3_.symm;clear f1_ f2_ f3_;subst f4_;subst f5_))
  refine hK.out _ _ ⟨(blk_cell BK278.out 0).trans rfl,(blk_cell BK278.out 1).trans rfl,(blk_cell BK278.out 2).trans rfl,(blk_cell BK279.out 0).trans rfl,(blk_cell BK279.out 1).trans rfl,(blk_cell BK279.out 2).trans rfl⟩ (fun hHeld => ?_)
  clear hK K
  refine norm_ (a' := ?_) ?_ ?_
  rotate_left
  · show Act.put _ (some 15) _ = _
    simp only [Act.put,List.setIfInBounds_toArray,List.set_cons_zero,List.set_cons_succ,i64_w,i32_w]
    rfl
  refine one_ (i := 11) (N := some 16) #[true,true,true,true,true,true,true,true,true,true,true,true,false] rfl rfl (one_of HT_.out Z363) Z364 (fun K hK => ?_)
  refine goes_ Try.func55 Z363 rfl #[.slice Ao11 y282.length co11] Z365 rfl rfl Z330 ?_
  with_reducible refine (cmp_Or_int.calls k _ _ y282 t285 _ ?side1 ?side2 A5.out).mono ?_
  (case side1 => repeat (first | exact (Kd.R_reads' HO284.out).2.2 | (with_reducible refine Kd.C_alloc ?_ _) | (with_reducible refine Kd.C_drewN ?_ _) | (with_reducible refine Kd.C_drew ?_)))
  (case side2 => exact (Kd.R_reads' HO284.out).2.1)
  rintro e w' ⟨rfl,⟨nd,rfl⟩⟩
  refine ⟨_,rfl,?_⟩
  refine hK.out _ _ ⟨(blk_cell BK278.out 0).trans rfl,(blk_cell BK278.out 1).trans rfl,(blk_cell BK278.out 2).trans rfl,(blk_cell BK279.out 0).trans rfl,(blk_cell BK279.out 1).trans rfl,(blk_cell BK279.out 2).trans rfl⟩ (fun hHeld => ?_)
  clear hK K
  refine norm_ (a' := ?_) ?_ ?_
  rotate_left
  · show Act.put _ (some 16) _ = _
    simp only [Act.put,List.setIfInBounds_toArray,List.set_cons_zero,List.set_cons_succ,i64_w,i32_w]
    rfl
  refine pure_ (i := 12) (N := some 4) (v := ?_) (a' := ?_) #[true,true,true,true,true,true,true,true,true,true,true,true,true] rfl rfl (any_of HT_.out Z363) (fun _ _ _ h => h) (Or.inl ⟨Z365,?_⟩) ?_ ?_
  rotate_left
  · intro w'
    go_simp
    with_reducible rfl
  rotate_left
  · simp only [Act.put,List.setIfInBounds_toArray,List.set_cons_zero,List.set_cons_succ,i64_w,i32_w]
    rfl
  refine done_ (done_of HT_.out Z363) ?_
  try go_wp2
  go_ret
  exact ⟨Z354,Z307⟩

/-! ### bits_Sub64: function 70: the model stands in for it -/
def bits_Sub64.f (a0 : Int) (a1 : Int) (a2 : Int) : Option (Int × Int) := if 0 ≤ a0 ∧ 0 ≤ a1 ∧ a1 < 18446744073709551616 ∧ 0 ≤ a2 ∧ a2 ≤ 1 then some ((a0 + 18446744073709551616 - a1 - a2) % 18446744073709551616,if a0 < a1 + a2 then 1 else 0) else none
def sub64E : Array Value → Sem Value := fun args => do
  let (x,y,b) ← Extern.MathBitsCarry.three "Sub64" args
  pure (Extern.MathBitsCarry.pair ((x + Extern.MathBitsCarry.m64 - y - b) % Extern.MathBitsCarry.m64) (if x < y + b then 1 else 0))
theorem run_sub64E {P : Program} (x y b : Nat) (hb : b ≤ 1) (w : World) : (sub64E #[.int .u64 x,.int .u64 y,.int .u64 b]).run P w = .ok (.tuple #[.int .u64 (((x + 18446744073709551616 - y - b) % 18446744073709551616 : Nat) : Int),.int .u64 ((if x < y + b then 1 else 0 : Nat) : Int)]) w := by
  have : b = 0 ∨ b = 1 := by omega
  rcases this with rfl | rfl <;> rfl
theorem bits_Sub64.run (a0 a1 a2 r1 r2 : Int) (h : bits_Sub64.f a0 a1 a2 = some (r1,r2)) (w : World) : (callFunc 70 #[.int .u64 a0,.int .u64 a1,.int .u64 a2]).run Try.prog w = .ok (.value (.tuple #[.int .u64 r1,.int .u64 r2])) w := by
  unfold bits_Sub64.f at h
  split at h
  · rename_i g
    simp only [Option.some.injEq,Prod.mk.injEq] at h
    obtain ⟨rfl,rfl⟩ := h
    obtain ⟨g0,g1,g4,g2,g3⟩ := g
    obtain ⟨x,rfl⟩ := Int.eq_ofNat_of_zero_le g0
    obtain ⟨y,rfl⟩ := Int.eq_ofNat_of_zero_le g1
    obtain ⟨b,rfl⟩ := Int.eq_ofNat_of_zero_le g2
    rw [run_callFunc_extern Try.func70 Z363 Z363 Z363 (e := sub64E) Z363,run_sub64E x y b (by omega)]
    have e1 : (((x + 18446744073709551616 - y - b) % 18446744073709551616 : Nat) : Int) = ((x : Int) + 18446744073709551616 - y - b) % 18446744073709551616 := by omega
    have e2 : ((if x < y + b then 1 else 0 : Nat) : Int) = if (x : Int) < y + b then 1 else 0 := by by_cases c : x < y + b <;> simp [c] <;> omega
    rw [e1,e2]
    rfl
  · simp at h

/-! ### impl_AddWide: function 49 -/
theorem impl_AddWide.cells3 {w : World} {g : Nat} {t : TypeId} {a0 a1 a2 : Value} (h : w.heap[g]? = some (.cells #[a0,a1,a2] t (0,0))) : w.cell? ⟨g,0,none⟩ = some a0 ∧ w.cell? ⟨g,1,none⟩ = some a1 ∧ w.cell? ⟨g,2,none⟩ = some a2 ∧ w.frozen? ⟨g,0,none⟩ = false ∧ w.frozen? ⟨g,1,none⟩ = false ∧ w.frozen? ⟨g,2,none⟩ = false := ⟨(blk_cell h 0).trans rfl,(blk_cell h 1).trans rfl,(blk_cell h 2).trans rfl,blk_frozen h 0,blk_frozen h 1,blk_frozen h 2⟩
def impl_AddWide.j0 : Nat → Bool → Bool → Int → Int → Bool → Int → Int → Option (Bool × Int × Int × Bool)
  | 0,_,_,_,_,_,_,_ => none
  | k + 1,x22,x287000,x287001,x287002,x288000,x288001,x288002 => if x22 = true then (some (false,0,0,false)) else (if (x287000 != x288000) = true then ((impl_compareSizes.f k x287000 x287001 x287002 x288000 x288001 x288002).bind fun t291 => (if t291 < 0 then ((bits_Sub64.f x288002 x287002 0).bind fun bt292 => ((bits_Sub64.f x288001 x287001 bt292.2).bind fun bt294 => ((impl_wideOf.f x288000 bt294.1 bt292.1).bind fun bt296 => (some (bt296.1,bt296.2.1,bt296.2.2,true))))) else ((bits_Sub64.f x287002 x288002 0).bind fun bt299 => ((bits_Sub64.f x287001 x288001 bt299.2).bind fun bt301 => ((impl_wideOf.f x287000 bt301.1 bt299.1).bind fun bt303 => (some (bt303.1,bt303.2.1,bt303.2.2,true))))))) else ((bits_Add64.f x287002 x288002 0).bind fun bt306 => ((bits_Add64.f x287001 x288001 bt306.2).bind fun bt308 => ((impl_wideOf.f x287000 bt308.1 bt306.1).bind fun bt310 => ((impl_WideOk.f bt310.1 bt310.2.1 bt310.2.2).bind fun t314 => (if t314 = true then (some (bt310.1,bt310.2.1,bt310.2.2,true)) else (some (false,0,0,false))))))))
def impl_AddWide.f (k : Nat) (a0_0 : Bool) (a0_1 : Int) (a0_2 : Int) (a1_0 : Bool) (a1_1 : Int) (a1_2 : Int) : Option (Bool × Int × Int × Bool) := (impl_WideOk.f a0_0 a0_1 a0_2).bind fun t289 => (if t289 = true then ((impl_WideOk.f a1_0 a1_1 a1_2).bind fun t290 => (impl_AddWide.j0 k (!t290) a0_0 a0_1 a0_2 a1_0 a1_1 a1_2)) else (impl_AddWide.j0 k true a0_0 a0_1 a0_2 a1_0 a1_1 a1_2))
theorem impl_AddWide.mono_l : ∀ k,(∀ y0 y1 y2 y3 y4 y5 y6,LeO (impl_AddWide.j0 k y0 y1 y2 y3 y4 y5 y6) (impl_AddWide.j0 (k + 1) y0 y1 y2 y3 y4 y5 y6))
  | 0 => fun _ _ _ _ _ _ _ r h => by simp [impl_AddWide.j0] at h
  | k + 1 => by
    have ih0 := impl_AddWide.mono_l k
    · intro y0 y1 y2 y3 y4 y5 y6
      unfold impl_AddWide.j0
      repeat' first
      | (with_reducible exact ih0 _ _ _ _ _ _ _)
      | (with_reducible exact impl_compareSizes.mono _ _ _ _ _ _ _)
      | (with_reducible exact LeO.refl _)
      | (with_reducible exact LeO.none _)
      | (with_reducible refine LeO.ite ?_ ?_)
      | (with_reducible refine LeO.bind ?_ (fun _ => ?_))
      | exact ih0 _ _ _ _ _ _ _
      | exact impl_compareSizes.mono _ _ _ _ _ _ _
      | exact LeO.none _
      | refine LeO.ite ?_ ?_
      | refine LeO.bind ?_ (fun _ => ?_)
theorem impl_AddWide.mono : ∀ a0 a1 a2 a3 a4 a5 k,LeO (impl_AddWide.f k a0 a1 a2 a3 a4 a5) (impl_AddWide.f (k + 1) a0 a1 a2 a3 a4 a5) := by
  intro a0 a1 a2 a3 a4 a5 k
  have ih0 := impl_AddWide.mono_l k
  unfold impl_AddWide.f
  repeat' first
      | (with_reducible exact ih0 _ _ _ _ _ _ _)
      | (with_reducible exact impl_compareSizes.mono _ _ _ _ _ _ _)
      | (with_reducible exact LeO.refl _)
      | (with_reducible exact LeO.none _)
      | (with_reducible refine LeO.ite ?_ ?_)
      | (with_reducible refine LeO.bind ?_ (fun _ => ?_))
      | exact ih0 _ _ _ _ _ _ _
      | exact impl_compareSizes.mono _ _ _ _ _ _ _
      | exact LeO.none _
      | refine LeO.ite ?_ ?_
      | refine LeO.bind ?_ (fun _ => ?_)
set_option maxHeartbeats 8000000 in
set_option maxRecDepth 100000 in
theorem impl_AddWide.calls (k : Nat) (a0_0 : Bool) (a0_1 : Int) (a0_2 : Int) (a1_0 : Bool) (a1_1 : Int) (a1_2 : Int) (r1 : Bool) (r2 : Int) (r3 : Int) (r4 : Bool) (w : World) (h : impl_AddWide.f k a0_0 a0_1 a0_2 a1_0 a1_1 a1_2 = some (r1,r2,r3,r4)) :
    Calls Try.prog 49 #[.agg #[.bool a0_0,.int .u64 a0_1,.int .u64 a0_2],.agg #[.bool a1_0,.int .u64 a1_1,.int .u64 a1_2]] w fun e w' => e = .returned (.tuple #[.agg #[.bool r1,.int .u64 r2,.int .u64 r3],.bool r4]) ∧ Below w.heap.size w w' := by
  have hu28 := Try.underlying28
  have HB := Aside0.mk (Below.refl w.heap.size w)
  have H : ((impl_WideOk.f a0_0 a0_1 a0_2).bind fun t289 => (if t289 = true then ((impl_WideOk.f a1_0 a1_1 a1_2).bind fun t290 => (impl_AddWide.j0 k (!t290) a0_0 a0_1 a0_2 a1_0 a1_1 a1_2)) else (impl_AddWide.j0 k true a0_0 a0_1 a0_2 a1_0 a1_1 a1_2))) = some (r1,r2,r3,r4) := h
  clear h
  have HC3 := Aside0.mk H
  clear H
  go_enter Try.func49,Try.ntmps49
  go_upto_region 1 with (first | ((with_reducible refine gate_dst (N := 2) rfl ?_);refine box_event ?hg (N := 2) ?hd (cs := #[.bool a0_0,.int .u64 a0_1,.int .u64 a0_2]) (t := 28) ?hr ?_;(case hd => rfl);(case hg => rfl);(case hr => exact Z359);intro gb286 hg w4 hbox hb;have n_ := jA (below_step Z430 hb) (jA (hbox) (jA ((Z321 : w.heap.size ≤ gb286)) (Aside0.mk ((Z321 : w.heap.size ≤ gb286)))));clear HB;obtain ⟨HB,BK286,GW286,GE286⟩ := n_;clear hb hbox hg) | ((with_reducible refine gate_dst (N := 3) rfl ?_);refine box_event ?hg (N := 3) ?hd (cs := #[.bool a1_0,.int .u64 a1_1,.int .u64 a1_2]) (t := 28) ?hr ?_;(case hd => rfl);(case hg => rfl);(case hr => exact Z359);intro gb287 hg w5 hbox hb;have n_ := jA (blk_below (g := gb286) (o := .cells #[.bool a0_0,.int .u64 a0_1,.int .u64 a0_2] 28 (0,0)) Z441 hb) (jA (below_step Z422 hb) (jA (hbox) (jA ((Z309 : w.heap.size ≤ gb287)) (jA ((Z309 : w.heap.size ≤ gb287)) (jA ((Z241 : gb286 ≠ gb287)) (Aside0.mk ((Z243 : gb287 ≠ gb286))))))));clear BK286 HB;obtain ⟨BK286,HB,BK287,GW287,GE287,NB286_287,NB287_286⟩ := n_;clear hb hbox hg) | ((with_reducible refine gate_dst (N := 4) rfl ?_);refine box_event ?hg (N := 4) ?hd (cs := #[.bool false,.int .u64 0,.int .u64 0]) (t := 28) ?hr ?_;(case hd => rfl);(case hg => rfl);(case hr => exact Z359);intro gb288 hg w6 hbox hb;have n_ := jA (blk_below (g := gb286) (o := .cells #[.bool a0_0,.int .u64 a0_1,.int .u64 a0_2] 28 (0,0)) Z441 hb) (jA (blk_below (g := gb287) (o := .cells #[.bool a1_0,.int .u64 a1_1,.int .u64 a1_2] 28 (0,0)) Z445 hb) (jA (below_step Z404 hb) (jA (hbox) (jA ((Z213 : w.heap.size ≤ gb288)) (jA ((Z213 : w.heap.size ≤ gb288)) (jA ((Z241 : gb286 ≠ gb288)) (jA ((Z243 : gb288 ≠ gb286)) (jA ((Z245 : gb287 ≠ gb288)) (Aside0.mk ((Z248 : gb288 ≠ gb287)))))))))));clear BK286 BK287 HB;obtain ⟨BK286,BK287,HB,BK288,GW288,GE288,NB286_288,NB288_286,NB287_288,NB288_287⟩ := n_;clear hb hbox hg))
  (try simp only [Act.put,List.setIfInBounds_toArray,List.set_cons_zero,List.set_cons_succ])
  go_cut [22] (fun v22 wc => ∃ (kq : Nat) (x22_2 : Bool),v22 = .bool x22_2 ∧ Aside0 (impl_AddWide.j0 kq x22_2 a0_0 a0_1 a0_2 a1_0 a1_1 a1_2 = some (r1,r2,r3,r4)) ∧ Aside0 (kq ≤ k) ∧ Aside0 (wc.heap[gb286]? = some (.cells #[.bool a0_0,.int .u64 a0_1,.int .u64 a0_2] 28 (0,0))) ∧ Aside0 (wc.heap[gb287]? = some (.cells #[.bool a1_0,.int .u64 a1_1,.int .u64 a1_2] 28 (0,0))) ∧ Aside0 (wc.heap[gb288]? = some (.cells #[.bool false,.int .u64 0,.int .u64 0] 28 (0,0))) ∧ Aside0 (Below w.heap.size w wc))
  case first =>
    have H := HC3.out
    clear HC3
    obtain ⟨t289,A70,H⟩ := Option.bind_eq_some_iff.mp H
    have A7 := Aside0.mk A70
    clear A70
    by_cases c8 : t289 = true
    · subst c8
      have H1 : ((impl_WideOk.f a1_0 a1_1 a1_2).bind fun t290 => (impl_AddWide.j0 k (!t290) a0_0 a0_1 a0_2 a1_0 a1_1 a1_2)) = some (r1,r2,r3,r4) := by rw [if_pos rfl] at H;exact H
      clear H
      have H := H1
      clear H1
      obtain ⟨t290,A90,H⟩ := Option.bind_eq_some_iff.mp H
      have A9 := Aside0.mk A90
      clear A90
      have H' := Aside0.mk H
      clear H
      have hnb10 := NB286_287.out
      have hnc10 := NB287_286.out
      have hnb11 := NB286_288.out
      have hnc11 := NB288_286.out
      obtain ⟨hcz12_0,hcz12_1,hcz12_2,hfz12_0,hfz12_1,hfz12_2⟩ := impl_AddWide.cells3 BK286.out
      go_wp2_with (first | ((with_reducible refine gate_callee (f := 31) rfl ?_);refine goesL_ (some 16) rfl rfl Try.func31 Z363 rfl #[.agg #[.bool a0_0,.int .u64 a0_1,.int .u64 a0_2]] rfl Z330 ?_;(with_reducible refine (impl_WideOk.calls a0_0 a0_1 a0_2 true _ A7.out).mono ?_);rintro e w13 ⟨rfl,hb⟩;refine ⟨_,rfl,?_⟩;have n_ := jA (blk_below (g := gb286) (o := .cells #[.bool a0_0,.int .u64 a0_1,.int .u64 a0_2] 28 (0,0)) Z441 hb) (jA (blk_below (g := gb287) (o := .cells #[.bool a1_0,.int .u64 a1_1,.int .u64 a1_2] 28 (0,0)) Z445 hb) (jA (blk_below (g := gb288) (o := .cells #[.bool false,.int .u64 0,.int .u64 0] 28 (0,0)) Z448 hb) (Aside0.mk (below_step Z385 hb))));clear BK286 BK287 BK288 HB;obtain ⟨BK286,BK287,BK288,HB⟩ := n_;(try clear hb);(try clear hb2);(try clear hk);(try clear hi);have hnb14 := NB287_288.out;have hnc14 := NB288_287.out;obtain ⟨hcz15_0,hcz15_1,hcz15_2,hfz15_0,hfz15_1,hfz15_2⟩ := impl_AddWide.cells3 BK287.out) | (go_at_call 31;(with_reducible refine (impl_WideOk.calls a1_0 a1_1 a1_2 t290 _ A9.out).mono ?_);rintro e w16 ⟨rfl,hb⟩;have n_ := jA (blk_below (g := gb286) (o := .cells #[.bool a0_0,.int .u64 a0_1,.int .u64 a0_2] 28 (0,0)) Z441 hb) (jA (blk_below (g := gb287) (o := .cells #[.bool a1_0,.int .u64 a1_1,.int .u64 a1_2] 28 (0,0)) Z445 hb) (jA (blk_below (g := gb288) (o := .cells #[.bool false,.int .u64 0,.int .u64 0] 28 (0,0)) Z448 hb) (Aside0.mk (below_step Z385 hb))));clear BK286 BK287 BK288 HB;obtain ⟨BK286,BK287,BK288,HB⟩ := n_;(try clear hb);(try clear hb2);(try clear hk);(try clear hi)))
      go_meet
      case rel => exact ⟨_,(!t290),Z358,H',⟨Z360⟩,⟨Z441⟩,⟨Z445⟩,⟨Z448⟩,⟨Z385⟩⟩
    · replace c8 := Bool.eq_false_iff.mpr c8
      subst c8
      have H1 : (impl_AddWide.j0 k true a0_0 a0_1 a0_2 a1_0 a1_1 a1_2) = some (r1,r2,r3,r4) := by rw [if_neg (show ¬ (false = true) by decide)] at H;exact H
      clear H
      have H := H1
      clear H1
      have H' := Aside0.mk H
      clear H
      have hnb17 := NB286_287.out
      have hnc17 := NB287_286.out
      have hnb18 := NB286_288.out
      have hnc18 := NB288_286.out
      obtain ⟨hcz19_0,hcz19_1,hcz19_2,hfz19_0,hfz19_1,hfz19_2⟩ := impl_AddWide.cells3 BK286.out
      go_wp2_with (first | ((with_reducible refine gate_callee (f := 31) rfl ?_);refine goesL_ (some 16) rfl rfl Try.func31 Z363 rfl #[.agg #[.bool a0_0,.int .u64 a0_1,.int .u64 a0_2]] rfl Z330 ?_;(with_reducible refine (impl_WideOk.calls a0_0 a0_1 a0_2 false _ A7.out).mono ?_);rintro e w20 ⟨rfl,hb⟩;refine ⟨_,rfl,?_⟩;have n_ := jA (blk_below (g := gb286) (o := .cells #[.bool a0_0,.int .u64 a0_1,.int .u64 a0_2] 28 (0,0)) Z441 hb) (jA (blk_below (g := gb287) (o := .cells #[.bool a1_0,.int .u64 a1_1,.int .u64 a1_2] 28 (0,0)) Z445 hb) (jA (blk_below (g := gb288) (o := .cells #[.bool false,.int .u64 0,.int .u64 0] 28 (0,0)) Z448 hb) (Aside0.mk (below_step Z385 hb))));clear BK286 BK287 BK288 HB;obtain ⟨BK286,BK287,BK288,HB⟩ := n_;(try clear hb);(try clear hb2);(try clear hk);(try clear hi)))
      go_meet
      case rel => exact ⟨_,(true),Z358,H',⟨Z360⟩,⟨Z441⟩,⟨Z445⟩,⟨Z448⟩,⟨Z385⟩⟩
  case rest =>
    clear HC3
    try clear c1
    try clear p2
    try clear c3
    try clear c4
    try clear c8
    try clear c10
    try clear c11
    try clear c14
    try clear c17
    try clear c18
    try clear hcz12_0
    try clear hcz12_1
    try clear hcz12_2
    try clear hcz15_0
    try clear hcz15_1
    try clear hcz15_2
    try clear hcz19_0
    try clear hcz19_1
    try clear hcz19_2
    try clear hfz12_0
    try clear hfz12_1
    try clear hfz12_2
    try clear hfz15_0
    try clear hfz15_1
    try clear hfz15_2
    try clear hfz19_0
    try clear hfz19_1
    try clear hfz19_2
    obtain ⟨kq,x22_2,rfl,HA,HJ2,BK286,BK287,BK288,HB⟩ := hcut
    cases kq with
    | zero => exact absurd HA.out (by simp [impl_AddWide.j0])
    | succ kj2 =>
      have H := HA.out
      clear HA
      simp only [impl_AddWide.j0] at H
      by_cases c21 : x22_2 = true
      · subst c21
        have H1 : (some (false,0,0,false)) = some (r1,r2,r3,r4) := by rw [if_pos rfl] at H;exact H
        clear H
        have H := H1
        clear H1
        simp only [Option.some.injEq,Prod.mk.injEq] at H
        obtain ⟨rfl,rfl,rfl,rfl⟩ := H
        have hnb22 := NB288_286.out
        have hnc22 := NB286_288.out
        have hnb23 := NB288_287.out
        have hnc23 := NB287_288.out
        obtain ⟨hcz24_0,hcz24_1,hcz24_2,hfz24_0,hfz24_1,hfz24_2⟩ := impl_AddWide.cells3 BK288.out
        go_wp2
        refine bodyPost_ret (results_ct rfl _ _ gb288 28 #[.bool false,.int .u64 0,.int .u64 0] (0,0) _ rfl Z64 Try.underlying28 rfl Z363) rfl ?_
        exact ⟨Z354,Z385⟩
      · replace c21 := Bool.eq_false_iff.mpr c21
        subst c21
        have H1 : (if (a0_0 != a1_0) = true then ((impl_compareSizes.f kj2 a0_0 a0_1 a0_2 a1_0 a1_1 a1_2).bind fun t291 => (if t291 < 0 then ((bits_Sub64.f a1_2 a0_2 0).bind fun bt292 => ((bits_Sub64.f a1_1 a0_1 bt292.2).bind fun bt294 => ((impl_wideOf.f a1_0 bt294.1 bt292.1).bind fun bt296 => (some (bt296.1,bt296.2.1,bt296.2.2,true))))) else ((bits_Sub64.f a0_2 a1_2 0).bind fun bt299 => ((bits_Sub64.f a0_1 a1_1 bt299.2).bind fun bt301 => ((impl_wideOf.f a0_0 bt301.1 bt299.1).bind fun bt303 => (some (bt303.1,bt303.2.1,bt303.2.2,true))))))) else ((bits_Add64.f a0_2 a1_2 0).bind fun bt306 => ((bits_Add64.f a0_1 a1_1 bt306.2).bind fun bt308 => ((impl_wideOf.f a0_0 bt308.1 bt306.1).bind fun bt310 => ((impl_WideOk.f bt310.1 bt310.2.1 bt310.2.2).bind fun t314 => (if t314 = true then (some (bt310.1,bt310.2.1,bt310.2.2,true)) else (some (false,0,0,false)))))))) = some (r1,r2,r3,r4) := by rw [if_neg (show ¬ (false = true) by decide)] at H;exact H
        clear H
        have H := H1
        clear H1
        by_cases c25 : (a0_0 != a1_0) = true
        · rw [if_pos c25] at H
          have c25b0 : (a0_0 != a1_0) = true := c25
          (try (have c25b1 : decide (a0_0 = a1_0) = false := by simpa using c25))
          (try (have c25b2 : (a0_0 == a1_0) = false := by simpa using c25))
          (try (have c25b3 : ¬ (a0_0 = a1_0) := by simpa using c25))
          clear c25
          obtain ⟨t291,A260,H⟩ := Option.bind_eq_some_iff.mp H
          have A26 := Aside0.mk A260
          clear A260
          by_cases c27 : t291 < 0
          · rw [if_pos c27] at H
            have c27b0 : decide (t291 < 0) = true := decide_eq_true c27
            clear c27
            obtain ⟨⟨t292,t293⟩,A280,H⟩ := Option.bind_eq_some_iff.mp H
            try dsimp only at H
            have A28 := Aside0.mk A280
            clear A280
            obtain ⟨⟨t294,t295⟩,A290,H⟩ := Option.bind_eq_some_iff.mp H
            try dsimp only at H
            have A29 := Aside0.mk A290
            clear A290
            obtain ⟨⟨t296,t297,t298⟩,A300,H⟩ := Option.bind_eq_some_iff.mp H
            try dsimp only at H
            have A30 := Aside0.mk A300
            clear A300
            simp only [Option.some.injEq,Prod.mk.injEq] at H
            obtain ⟨rfl,rfl,rfl,rfl⟩ := H
            have hnb31 := NB286_287.out
            have hnc31 := NB287_286.out
            have hnb32 := NB286_288.out
            have hnc32 := NB288_286.out
            obtain ⟨hcz33_0,hcz33_1,hcz33_2,hfz33_0,hfz33_1,hfz33_2⟩ := impl_AddWide.cells3 BK286.out
            have hnb34 := NB287_288.out
            have hnc34 := NB288_287.out
            obtain ⟨hcz35_0,hcz35_1,hcz35_2,hfz35_0,hfz35_1,hfz35_2⟩ := impl_AddWide.cells3 BK287.out
            go_wp2_with (first | ((with_reducible refine gate_callee (f := 69) rfl ?_);refine goesL_ (some 31) rfl rfl Try.func69 Z363 rfl #[.agg #[.bool a0_0,.int .u64 a0_1,.int .u64 a0_2],.agg #[.bool a1_0,.int .u64 a1_1,.int .u64 a1_2]] rfl Z330 ?_;(with_reducible refine (impl_compareSizes.calls kj2 a0_0 a0_1 a0_2 a1_0 a1_1 a1_2 t291 _ A26.out).mono ?_);rintro e w36 ⟨rfl,hb⟩;refine ⟨_,rfl,?_⟩;have n_ := jA (blk_below (g := gb286) (o := .cells #[.bool a0_0,.int .u64 a0_1,.int .u64 a0_2] 28 (0,0)) Z441 hb) (jA (blk_below (g := gb287) (o := .cells #[.bool a1_0,.int .u64 a1_1,.int .u64 a1_2] 28 (0,0)) Z445 hb) (jA (blk_below (g := gb288) (o := .cells #[.bool false,.int .u64 0,.int .u64 0] 28 (0,0)) Z448 hb) (Aside0.mk (below_step Z385 hb))));clear BK286 BK287 BK288 HB;obtain ⟨BK286,BK287,BK288,HB⟩ := n_;(try clear hb);(try clear hb2);(try clear hk);(try clear hi);obtain ⟨hcz37_0,hcz37_1,hcz37_2,hfz37_0,hfz37_1,hfz37_2⟩ := impl_AddWide.cells3 BK287.out;obtain ⟨hcz38_0,hcz38_1,hcz38_2,hfz38_0,hfz38_1,hfz38_2⟩ := impl_AddWide.cells3 BK286.out) | (simp only [bits_Sub64.run a1_2 a0_2 0 t292 t293 A28.out]) | (simp only [bits_Sub64.run a1_1 a0_1 t293 t294 t295 A29.out]) | ((with_reducible refine gate_callee (f := 71) rfl ?_);refine goesL_ (some 56) rfl rfl Try.func71 Z363 rfl #[.bool a1_0,.int .u64 t294,.int .u64 t292] rfl Z330 ?_;(with_reducible refine (impl_wideOf.calls a1_0 t294 t292 t296 t297 t298 _ A30.out).mono ?_);rintro e w39 ⟨rfl,hb⟩;refine ⟨_,rfl,?_⟩;have n_ := jA (blk_below (g := gb286) (o := .cells #[.bool a1_0,.int .u64 a1_1,.int .u64 a1_2] 28 (0,0)) (by (with_reducible repeat (first | refine bA ?_ _ | refine bB ?_ | refine bC ?_ _));refine blk_far ?_ NB286_287.out _;(with_reducible repeat (first | refine bA ?_ _ | refine bB ?_ | refine bC ?_ _));refine blk_far ?_ NB286_287.out _;(with_reducible repeat (first | refine bA ?_ _ | refine bB ?_ | refine bC ?_ _));refine blk_far ?_ NB286_287.out _;(with_reducible repeat (first | refine bA ?_ _ | refine bB ?_ | refine bC ?_ _));refine blk_put (cs := #[.bool a1_0,.int .u64 a1_1,.int .u64 a0_2]) ?_ 2 _ rfl;(with_reducible repeat (first | refine bA ?_ _ | refine bB ?_ | refine bC ?_ _));refine blk_put (cs := #[.bool a1_0,.int .u64 a0_1,.int .u64 a0_2]) ?_ 1 _ rfl;(with_reducible repeat (first | refine bA ?_ _ | refine bB ?_ | refine bC ?_ _));refine blk_put (cs := #[.bool a0_0,.int .u64 a0_1,.int .u64 a0_2]) ?_ 0 _ rfl;(with_reducible repeat (first | refine bA ?_ _ | refine bB ?_ | refine bC ?_ _));exact BK286.out) hb) (jA (blk_below (g := gb287) (o := .cells #[.bool a0_0,.int .u64 a0_1,.int .u64 a0_2] 28 (0,0)) (by (with_reducible repeat (first | refine bA ?_ _ | refine bB ?_ | refine bC ?_ _));refine blk_put (cs := #[.bool a0_0,.int .u64 a0_1,.int .u64 a1_2]) ?_ 2 _ rfl;(with_reducible repeat (first | refine bA ?_ _ | refine bB ?_ | refine bC ?_ _));refine blk_put (cs := #[.bool a0_0,.int .u64 a1_1,.int .u64 a1_2]) ?_ 1 _ rfl;(with_reducible repeat (first | refine bA ?_ _ | refine bB ?_ | refine bC ?_ _));refine blk_put (cs := #[.bool a1_0,.int .u64 a1_1,.int .u64 a1_2]) ?_ 0 _ rfl;(with_reducible repeat (first | refine bA ?_ _ | refine bB ?_ | refine bC ?_ _));refine blk_far ?_ NB287_286.out _;(with_reducible repeat (first | refine bA ?_ _ | refine bB ?_ | refine bC ?_ _));refine blk_far ?_ NB287_286.out _;(with_reducible repeat (first | refine bA ?_ _ | refine bB ?_ | refine bC ?_ _));refine blk_far ?_ NB287_286.out _;(with_reducible repeat (first | refine bA ?_ _ | refine bB ?_ | refine bC ?_ _));exact BK287.out) hb) (jA (blk_below (g := gb288) (o := .cells #[.bool false,.int .u64 0,.int .u64 0] 28 (0,0)) (by (with_reducible repeat (first | refine bA ?_ _ | refine bB ?_ | refine bC ?_ _));refine blk_far ?_ NB288_287.out _;(with_reducible repeat (first | refine bA ?_ _ | refine bB ?_ | refine bC ?_ _));refine blk_far ?_ NB288_287.out _;(with_reducible repeat (first | refine bA ?_ _ | refine bB ?_ | refine bC ?_ _));refine blk_far ?_ NB288_287.out _;(with_reducible repeat (first | refine bA ?_ _ | refine bB ?_ | refine bC ?_ _));refine blk_far ?_ NB288_286.out _;(with_reducible repeat (first | refine bA ?_ _ | refine bB ?_ | refine bC ?_ _));refine blk_far ?_ NB288_286.out _;(with_reducible repeat (first | refine bA ?_ _ | refine bB ?_ | refine bC ?_ _));refine blk_far ?_ NB288_286.out _;(with_reducible repeat (first | refine bA ?_ _ | refine bB ?_ | refine bC ?_ _));exact BK288.out) hb) (Aside0.mk (below_step Z385 hb))));clear BK286 BK287 BK288 HB;obtain ⟨BK286,BK287,BK288,HB⟩ := n_;(try clear hb);(try clear hb2);(try clear hk);(try clear hi);obtain ⟨hcz40_0,hcz40_1,hcz40_2,hfz40_0,hfz40_1,hfz40_2⟩ := impl_AddWide.cells3 BK288.out))
            refine bodyPost_ret (results_ct rfl _ _ gb288 28 #[.bool t296,.int .u64 t297,.int .u64 t298] (0,0) _ rfl (by (with_reducible repeat (first | refine bA ?_ _ | refine bB ?_ | refine bC ?_ _));refine blk_put (cs := #[.bool t296,.int .u64 t297,.int .u64 0]) ?_ 2 _ rfl;(with_reducible repeat (first | refine bA ?_ _ | refine bB ?_ | refine bC ?_ _));refine blk_put (cs := #[.bool t296,.int .u64 0,.int .u64 0]) ?_ 1 _ rfl;(with_reducible repeat (first | refine bA ?_ _ | refine bB ?_ | refine bC ?_ _));refine blk_put (cs := #[.bool false,.int .u64 0,.int .u64 0]) ?_ 0 _ rfl;(with_reducible repeat (first | refine bA ?_ _ | refine bB ?_ | refine bC ?_ _));exact BK288.out) Try.underlying28 rfl Z363) rfl ?_
            exact ⟨Z354,Z385⟩
          · rw [if_neg c27] at H
            have c27b0 : decide (t291 < 0) = false := decide_eq_false c27
            clear c27
            obtain ⟨⟨t299,t300⟩,A410,H⟩ := Option.bind_eq_some_iff.mp H
            try dsimp only at H
            have A41 := Aside0.mk A410
            clear A410
            obtain ⟨⟨t301,t302⟩,A420,H⟩ := Option.bind_eq_some_iff.mp H
            try dsimp only at H
            have A42 := Aside0.mk A420
            clear A420
            obtain ⟨⟨t303,t304,t305⟩,A430,H⟩ := Option.bind_eq_some_iff.mp H
            try dsimp only at H
            have A43 := Aside0.mk A430
            clear A430
            simp only [Option.some.injEq,Prod.mk.injEq] at H
            obtain ⟨rfl,rfl,rfl,rfl⟩ := H
            have hnb44 := NB286_287.out
            have hnc44 := NB287_286.out
            have hnb45 := NB286_288.out
            have hnc45 := NB288_286.out
            obtain ⟨hcz46_0,hcz46_1,hcz46_2,hfz46_0,hfz46_1,hfz46_2⟩ := impl_AddWide.cells3 BK286.out
            have hnb47 := NB287_288.out
            have hnc47 := NB288_287.out
            obtain ⟨hcz48_0,hcz48_1,hcz48_2,hfz48_0,hfz48_1,hfz48_2⟩ := impl_AddWide.cells3 BK287.out
            go_wp2_with (first | ((with_reducible refine gate_callee (f := 69) rfl ?_);refine goesL_ (some 31) rfl rfl Try.func69 Z363 rfl #[.agg #[.bool a0_0,.int .u64 a0_1,.int .u64 a0_2],.agg #[.bool a1_0,.int .u64 a1_1,.int .u64 a1_2]] rfl Z330 ?_;(with_reducible refine (impl_compareSizes.calls kj2 a0_0 a0_1 a0_2 a1_0 a1_1 a1_2 t291 _ A26.out).mono ?_);rintro e w49 ⟨rfl,hb⟩;refine ⟨_,rfl,?_⟩;have n_ := jA (blk_below (g := gb286) (o := .cells #[.bool a0_0,.int .u64 a0_1,.int .u64 a0_2] 28 (0,0)) Z441 hb) (jA (blk_below (g := gb287) (o := .cells #[.bool a1_0,.int .u64 a1_1,.int .u64 a1_2] 28 (0,0)) Z445 hb) (jA (blk_below (g := gb288) (o := .cells #[.bool false,.int .u64 0,.int .u64 0] 28 (0,0)) Z448 hb) (Aside0.mk (below_step Z385 hb))));clear BK286 BK287 BK288 HB;obtain ⟨BK286,BK287,BK288,HB⟩ := n_;(try clear hb);(try clear hb2);(try clear hk);(try clear hi);obtain ⟨hcz50_0,hcz50_1,hcz50_2,hfz50_0,hfz50_1,hfz50_2⟩ := impl_AddWide.cells3 BK286.out;obtain ⟨hcz51_0,hcz51_1,hcz51_2,hfz51_0,hfz51_1,hfz51_2⟩ := impl_AddWide.cells3 BK287.out) | (simp only [bits_Sub64.run a0_2 a1_2 0 t299 t300 A41.out];(iterate 4 (try (rw [drewN_self w49];generalize hq_ : World.drewN w49 _ = w49;have n0_ : Aside0 (w49.heap[gb286]? = some (.cells #[.bool a0_0,.int .u64 a0_1,.int .u64 a0_2] 28 (0,0))) := ⟨Z338⟩;have n1_ : Aside0 (w49.heap[gb287]? = some (.cells #[.bool a1_0,.int .u64 a1_1,.int .u64 a1_2] 28 (0,0))) := ⟨Z337⟩;have n2_ : Aside0 (w49.heap[gb288]? = some (.cells #[.bool false,.int .u64 0,.int .u64 0] 28 (0,0))) := ⟨Z336⟩;have n3_ : Aside0 (Below w.heap.size w w49) := ⟨Z166⟩;clear BK286 BK287 BK288 HB hq_;have BK286 := n0_;have BK287 := n1_;have BK288 := n2_;have HB := n3_;clear n0_ n1_ n2_ n3_)));(try (obtain ⟨hcz50_0,hcz50_1,hcz50_2,hfz50_0,hfz50_1,hfz50_2⟩ := impl_AddWide.cells3 BK286.out));(try (obtain ⟨hcz51_0,hcz51_1,hcz51_2,hfz51_0,hfz51_1,hfz51_2⟩ := impl_AddWide.cells3 BK287.out))) | (simp only [bits_Sub64.run a0_1 a1_1 t300 t301 t302 A42.out];(iterate 4 (try (rw [drewN_self w49];generalize hq_ : World.drewN w49 _ = w49;have n0_ : Aside0 (w49.heap[gb286]? = some (.cells #[.bool a0_0,.int .u64 a0_1,.int .u64 a0_2] 28 (0,0))) := ⟨Z338⟩;have n1_ : Aside0 (w49.heap[gb287]? = some (.cells #[.bool a1_0,.int .u64 a1_1,.int .u64 a1_2] 28 (0,0))) := ⟨Z337⟩;have n2_ : Aside0 (w49.heap[gb288]? = some (.cells #[.bool false,.int .u64 0,.int .u64 0] 28 (0,0))) := ⟨Z336⟩;have n3_ : Aside0 (Below w.heap.size w w49) := ⟨Z166⟩;clear BK286 BK287 BK288 HB hq_;have BK286 := n0_;have BK287 := n1_;have BK288 := n2_;have HB := n3_;clear n0_ n1_ n2_ n3_)));(try (obtain ⟨hcz50_0,hcz50_1,hcz50_2,hfz50_0,hfz50_1,hfz50_2⟩ := impl_AddWide.cells3 BK286.out));(try (obtain ⟨hcz51_0,hcz51_1,hcz51_2,hfz51_0,hfz51_1,hfz51_2⟩ := impl_AddWide.cells3 BK287.out))) | ((with_reducible refine gate_callee (f := 71) rfl ?_);refine goesL_ (some 56) rfl rfl Try.func71 Z363 rfl #[.bool a0_0,.int .u64 t301,.int .u64 t299] rfl Z330 ?_;(with_reducible refine (impl_wideOf.calls a0_0 t301 t299 t303 t304 t305 _ A43.out).mono ?_);rintro e w52 ⟨rfl,hb⟩;refine ⟨_,rfl,?_⟩;have n_ := jA (blk_below (g := gb286) (o := .cells #[.bool a0_0,.int .u64 a0_1,.int .u64 a0_2] 28 (0,0)) Z441 hb) (jA (blk_below (g := gb287) (o := .cells #[.bool a1_0,.int .u64 a1_1,.int .u64 a1_2] 28 (0,0)) Z445 hb) (jA (blk_below (g := gb288) (o := .cells #[.bool false,.int .u64 0,.int .u64 0] 28 (0,0)) Z448 hb) (Aside0.mk (below_step Z385 hb))));clear BK286 BK287 BK288 HB;obtain ⟨BK286,BK287,BK288,HB⟩ := n_;(try clear hb);(try clear hb2);(try clear hk);(try clear hi);obtain ⟨hcz53_0,hcz53_1,hcz53_2,hfz53_0,hfz53_1,hfz53_2⟩ := impl_AddWide.cells3 BK288.out))
            refine bodyPost_ret (results_ct rfl _ _ gb288 28 #[.bool t303,.int .u64 t304,.int .u64 t305] (0,0) _ rfl (by (with_reducible repeat (first | refine bA ?_ _ | refine bB ?_ | refine bC ?_ _));refine blk_put (cs := #[.bool t303,.int .u64 t304,.int .u64 0]) ?_ 2 _ rfl;(with_reducible repeat (first | refine bA ?_ _ | refine bB ?_ | refine bC ?_ _));refine blk_put (cs := #[.bool t303,.int .u64 0,.int .u64 0]) ?_ 1 _ rfl;(with_reducible repeat (first | refine bA ?_ _ | refine bB ?_ | refine bC ?_ _));refine blk_put (cs := #[.bool false,.int .u64 0,.int .u64 0]) ?_ 0 _ rfl;(with_reducible repeat (first | refine bA ?_ _ | refine bB ?_ | refine bC ?_ _));exact BK288.out) Try.underlying28 rfl Z363) rfl ?_
            exact ⟨Z354,Z385⟩
        · rw [if_neg c25] at H
          have c25b0 : (a0_0 != a1_0) = false := by simpa using c25
          (try (have c25b1 : decide (a0_0 = a1_0) = true := by simpa using c25))
          (try (have c25b2 : (a0_0 == a1_0) = true := by simpa using c25))
          clear c25
          obtain ⟨⟨t306,t307⟩,A540,H⟩ := Option.bind_eq_some_iff.mp H
          try dsimp only at H
          have A54 := Aside0.mk A540
          clear A540
          obtain ⟨⟨t308,t309⟩,A550,H⟩ := Option.bind_eq_some_iff.mp H
          try dsimp only at H
          have A55 := Aside0.mk A550
          clear A550
          obtain ⟨⟨t310,t311,t312⟩,A560,H⟩ := Option.bind_eq_some_iff.mp H
          try dsimp only at H
          have A56 := Aside0.mk A560
          clear A560
          obtain ⟨t314,A570,H⟩ := Option.bind_eq_some_iff.mp H
          have A57 := Aside0.mk A570
          clear A570
          by_cases c58 : t314 = true
          · subst c58
            have H1 : (some (t310,t311,t312,true)) = some (r1,r2,r3,r4) := by rw [if_pos rfl] at H;exact H
            clear H
            have H := H1
            clear H1
            simp only [Option.some.injEq,Prod.mk.injEq] at H
            obtain ⟨rfl,rfl,rfl,rfl⟩ := H
            have hnb59 := NB286_287.out
            have hnc59 := NB287_286.out
            have hnb60 := NB286_288.out
            have hnc60 := NB288_286.out
            obtain ⟨hcz61_0,hcz61_1,hcz61_2,hfz61_0,hfz61_1,hfz61_2⟩ := impl_AddWide.cells3 BK286.out
            have hnb62 := NB287_288.out
            have hnc62 := NB288_287.out
            obtain ⟨hcz63_0,hcz63_1,hcz63_2,hfz63_0,hfz63_1,hfz63_2⟩ := impl_AddWide.cells3 BK287.out
            go_wp2_with (first | (simp only [bits_Add64.run a0_2 a1_2 0 t306 t307 A54.out];(iterate 4 (try (rw [drewN_self wc];generalize hq_ : World.drewN wc _ = wc;have n0_ : Aside0 (wc.heap[gb286]? = some (.cells #[.bool a0_0,.int .u64 a0_1,.int .u64 a0_2] 28 (0,0))) := ⟨Z338⟩;have n1_ : Aside0 (wc.heap[gb287]? = some (.cells #[.bool a1_0,.int .u64 a1_1,.int .u64 a1_2] 28 (0,0))) := ⟨Z337⟩;have n2_ : Aside0 (wc.heap[gb288]? = some (.cells #[.bool false,.int .u64 0,.int .u64 0] 28 (0,0))) := ⟨Z336⟩;have n3_ : Aside0 (Below w.heap.size w wc) := ⟨Z166⟩;clear BK286 BK287 BK288 HB hq_;have BK286 := n0_;have BK287 := n1_;have BK288 := n2_;have HB := n3_;clear n0_ n1_ n2_ n3_)));(try (obtain ⟨hcz61_0,hcz61_1,hcz61_2,hfz61_0,hfz61_1,hfz61_2⟩ := impl_AddWide.cells3 BK286.out));(try (obtain ⟨hcz63_0,hcz63_1,hcz63_2,hfz63_0,hfz63_1,hfz63_2⟩ := impl_AddWide.cells3 BK287.out))) | (simp only [bits_Add64.run a0_1 a1_1 t307 t308 t309 A55.out];(iterate 4 (try (rw [drewN_self wc];generalize hq_ : World.drewN wc _ = wc;have n0_ : Aside0 (wc.heap[gb286]? = some (.cells #[.bool a0_0,.int .u64 a0_1,.int .u64 a0_2] 28 (0,0))) := ⟨Z338⟩;have n1_ : Aside0 (wc.heap[gb287]? = some (.cells #[.bool a1_0,.int .u64 a1_1,.int .u64 a1_2] 28 (0,0))) := ⟨Z337⟩;have n2_ : Aside0 (wc.heap[gb288]? = some (.cells #[.bool false,.int .u64 0,.int .u64 0] 28 (0,0))) := ⟨Z336⟩;have n3_ : Aside0 (Below w.heap.size w wc) := ⟨Z166⟩;clear BK286 BK287 BK288 HB hq_;have BK286 := n0_;have BK287 := n1_;have BK288 := n2_;have HB := n3_;clear n0_ n1_ n2_ n3_)));(try (obtain ⟨hcz61_0,hcz61_1,hcz61_2,hfz61_0,hfz61_1,hfz61_2⟩ := impl_AddWide.cells3 BK286.out));(try (obtain ⟨hcz63_0,hcz63_1,hcz63_2,hfz63_0,hfz63_1,hfz63_2⟩ := impl_AddWide.cells3 BK287.out))) | ((with_reducible refine gate_callee (f := 71) rfl ?_);refine goesL_ (some 78) rfl rfl Try.func71 Z363 rfl #[.bool a0_0,.int .u64 t308,.int .u64 t306] rfl Z330 ?_;(with_reducible refine (impl_wideOf.calls a0_0 t308 t306 t310 t311 t312 _ A56.out).mono ?_);rintro e w64 ⟨rfl,hb⟩;refine ⟨_,rfl,?_⟩;have n_ := jA (blk_below (g := gb286) (o := .cells #[.bool a0_0,.int .u64 a0_1,.int .u64 a0_2] 28 (0,0)) Z441 hb) (jA (blk_below (g := gb287) (o := .cells #[.bool a1_0,.int .u64 a1_1,.int .u64 a1_2] 28 (0,0)) Z445 hb) (jA (blk_below (g := gb288) (o := .cells #[.bool false,.int .u64 0,.int .u64 0] 28 (0,0)) Z448 hb) (Aside0.mk (below_step Z385 hb))));clear BK286 BK287 BK288 HB;obtain ⟨BK286,BK287,BK288,HB⟩ := n_;(try clear hb);(try clear hb2);(try clear hk);(try clear hi)) | ((with_reducible refine gate_dst (N := 14) rfl ?_);refine box_event ?hg (N := 14) ?hd (cs := #[.bool false,.int .u64 0,.int .u64 0]) (t := 28) ?hr ?_;(case hd => rfl);(case hg => rfl);(case hr => exact Z359);intro gb313 hg w65 hbox hb;have n_ := jA (blk_below (g := gb286) (o := .cells #[.bool a0_0,.int .u64 a0_1,.int .u64 a0_2] 28 (0,0)) Z441 hb) (jA (blk_below (g := gb287) (o := .cells #[.bool a1_0,.int .u64 a1_1,.int .u64 a1_2] 28 (0,0)) Z445 hb) (jA (blk_below (g := gb288) (o := .cells #[.bool false,.int .u64 0,.int .u64 0] 28 (0,0)) Z448 hb) (jA (below_step Z385 hb) (jA (hbox) (jA ((Z163 : w.heap.size ≤ gb313)) (jA ((Z163 : w.heap.size ≤ gb313)) (jA ((Z241 : gb286 ≠ gb313)) (jA ((Z243 : gb313 ≠ gb286)) (jA ((Z245 : gb287 ≠ gb313)) (jA ((Z248 : gb313 ≠ gb287)) (jA ((Z279 : gb288 ≠ gb313)) (Aside0.mk ((Z280 : gb313 ≠ gb288))))))))))))));clear BK286 BK287 BK288 HB;obtain ⟨BK286,BK287,BK288,HB,BK313,GW313,GE313,NB286_313,NB313_286,NB287_313,NB313_287,NB288_313,NB313_288⟩ := n_;clear hb hbox hg;have hnb66 := NB313_286.out;have hnc66 := NB286_313.out;have hnb67 := NB313_287.out;have hnc67 := NB287_313.out;have hnb68 := NB313_288.out;have hnc68 := NB288_313.out;obtain ⟨hcz69_0,hcz69_1,hcz69_2,hfz69_0,hfz69_1,hfz69_2⟩ := impl_AddWide.cells3 BK313.out) | ((with_reducible refine gate_callee (f := 31) rfl ?_);refine goesL_ (some 80) rfl rfl Try.func31 Z363 rfl #[.agg #[.bool t310,.int .u64 t311,.int .u64 t312]] rfl Z330 ?_;(with_reducible refine (impl_WideOk.calls t310 t311 t312 true _ A57.out).mono ?_);rintro e w70 ⟨rfl,hb⟩;refine ⟨_,rfl,?_⟩;have n_ := jA (blk_below (g := gb286) (o := .cells #[.bool a0_0,.int .u64 a0_1,.int .u64 a0_2] 28 (0,0)) Z94 hb) (jA (blk_below (g := gb287) (o := .cells #[.bool a1_0,.int .u64 a1_1,.int .u64 a1_2] 28 (0,0)) Z93 hb) (jA (blk_below (g := gb288) (o := .cells #[.bool false,.int .u64 0,.int .u64 0] 28 (0,0)) Z92 hb) (jA (blk_below (g := gb313) (o := .cells #[.bool t310,.int .u64 t311,.int .u64 t312] 28 (0,0)) Z56 hb) (Aside0.mk (below_step Z159 hb)))));clear BK286 BK287 BK288 BK313 HB;obtain ⟨BK286,BK287,BK288,BK313,HB⟩ := n_;(try clear hb);(try clear hb2);(try clear hk);(try clear hi);obtain ⟨hcz71_0,hcz71_1,hcz71_2,hfz71_0,hfz71_1,hfz71_2⟩ := impl_AddWide.cells3 BK313.out;obtain ⟨hcz72_0,hcz72_1,hcz72_2,hfz72_0,hfz72_1,hfz72_2⟩ := impl_AddWide.cells3 BK288.out))
            refine bodyPost_ret (results_ct rfl _ _ gb288 28 #[.bool t310,.int .u64 t311,.int .u64 t312] (0,0) _ rfl (by (with_reducible repeat (first | refine bA ?_ _ | refine bB ?_ | refine bC ?_ _));refine blk_put (cs := #[.bool t310,.int .u64 t311,.int .u64 0]) ?_ 2 _ rfl;(with_reducible repeat (first | refine bA ?_ _ | refine bB ?_ | refine bC ?_ _));refine blk_put (cs := #[.bool t310,.int .u64 0,.int .u64 0]) ?_ 1 _ rfl;(with_reducible repeat (first | refine bA ?_ _ | refine bB ?_ | refine bC ?_ _));refine blk_put (cs := #[.bool false,.int .u64 0,.int .u64 0]) ?_ 0 _ rfl;(with_reducible repeat (first | refine bA ?_ _ | refine bB ?_ | refine bC ?_ _));exact BK288.out) Try.underlying28 rfl Z363) rfl ?_
            exact ⟨Z354,Z159⟩
          · replace c58 := Bool.eq_false_iff.mpr c58
            subst c58
            have H1 : (some (false,0,0,false)) = some (r1,r2,r3,r4) := by rw [if_neg (show ¬ (false = true) by decide)] at H;exact H
            clear H
            have H := H1
            clear H1
            simp only [Option.some.injEq,Prod.mk.injEq] at H
            obtain ⟨rfl,rfl,rfl,rfl⟩ := H
            have hnb73 := NB286_287.out
            have hnc73 := NB287_286.out
            have hnb74 := NB286_288.out
            have hnc74 := NB288_286.out
            obtain ⟨hcz75_0,hcz75_1,hcz75_2,hfz75_0,hfz75_1,hfz75_2⟩ := impl_AddWide.cells3 BK286.out
            have hnb76 := NB287_288.out
            have hnc76 := NB288_287.out
            obtain ⟨hcz77_0,hcz77_1,hcz77_2,hfz77_0,hfz77_1,hfz77_2⟩ := impl_AddWide.cells3 BK287.out
            go_wp2_with (first | (simp only [bits_Add64.run a0_2 a1_2 0 t306 t307 A54.out];(iterate 4 (try (rw [drewN_self wc];generalize hq_ : World.drewN wc _ = wc;have n0_ : Aside0 (wc.heap[gb286]? = some (.cells #[.bool a0_0,.int .u64 a0_1,.int .u64 a0_2] 28 (0,0))) := ⟨Z338⟩;have n1_ : Aside0 (wc.heap[gb287]? = some (.cells #[.bool a1_0,.int .u64 a1_1,.int .u64 a1_2] 28 (0,0))) := ⟨Z337⟩;have n2_ : Aside0 (wc.heap[gb288]? = some (.cells #[.bool false,.int .u64 0,.int .u64 0] 28 (0,0))) := ⟨Z336⟩;have n3_ : Aside0 (Below w.heap.size w wc) := ⟨Z166⟩;clear BK286 BK287 BK288 HB hq_;have BK286 := n0_;have BK287 := n1_;have BK288 := n2_;have HB := n3_;clear n0_ n1_ n2_ n3_)));(try (obtain ⟨hcz75_0,hcz75_1,hcz75_2,hfz75_0,hfz75_1,hfz75_2⟩ := impl_AddWide.cells3 BK286.out));(try (obtain ⟨hcz77_0,hcz77_1,hcz77_2,hfz77_0,hfz77_1,hfz77_2⟩ := impl_AddWide.cells3 BK287.out))) | (simp only [bits_Add64.run a0_1 a1_1 t307 t308 t309 A55.out];(iterate 4 (try (rw [drewN_self wc];generalize hq_ : World.drewN wc _ = wc;have n0_ : Aside0 (wc.heap[gb286]? = some (.cells #[.bool a0_0,.int .u64 a0_1,.int .u64 a0_2] 28 (0,0))) := ⟨Z338⟩;have n1_ : Aside0 (wc.heap[gb287]? = some (.cells #[.bool a1_0,.int .u64 a1_1,.int .u64 a1_2] 28 (0,0))) := ⟨Z337⟩;have n2_ : Aside0 (wc.heap[gb288]? = some (.cells #[.bool false,.int .u64 0,.int .u64 0] 28 (0,0))) := ⟨Z336⟩;have n3_ : Aside0 (Below w.heap.size w wc) := ⟨Z166⟩;clear BK286 BK287 BK288 HB hq_;have BK286 := n0_;have BK287 := n1_;have BK288 := n2_;have HB := n3_;clear n0_ n1_ n2_ n3_)));(try (obtain ⟨hcz75_0,hcz75_1,hcz75_2,hfz75_0,hfz75_1,hfz75_2⟩ := impl_AddWide.cells3 BK286.out));(try (obtain ⟨hcz77_0,hcz77_1,hcz77_2,hfz77_0,hfz77_1,hfz77_2⟩ := impl_AddWide.cells3 BK287.out))) | ((with_reducible refine gate_callee (f := 71) rfl ?_);refine goesL_ (some 78) rfl rfl Try.func71 Z363 rfl #[.bool a0_0,.int .u64 t308,.int .u64 t306] rfl Z330 ?_;(with_reducible refine (impl_wideOf.calls a0_0 t308 t306 t310 t311 t312 _ A56.out).mono ?_);rintro e w78 ⟨rfl,hb⟩;refine ⟨_,rfl,?_⟩;have n_ := jA (blk_below (g := gb286) (o := .cells #[.bool a0_0,.int .u64 a0_1,.int .u64 a0_2] 28 (0,0)) Z441 hb) (jA (blk_below (g := gb287) (o := .cells #[.bool a1_0,.int .u64 a1_1,.int .u64 a1_2] 28 (0,0)) Z445 hb) (jA (blk_below (g := gb288) (o := .cells #[.bool false,.int .u64 0,.int .u64 0] 28 (0,0)) Z448 hb) (Aside0.mk (below_step Z385 hb))));clear BK286 BK287 BK288 HB;obtain ⟨BK286,BK287,BK288,HB⟩ := n_;(try clear hb);(try clear hb2);(try clear hk);(try clear hi)) | ((with_reducible refine gate_dst (N := 14) rfl ?_);refine box_event ?hg (N := 14) ?hd (cs := #[.bool false,.int .u64 0,.int .u64 0]) (t := 28) ?hr ?_;(case hd => rfl);(case hg => rfl);(case hr => exact Z359);intro gb313 hg w79 hbox hb;have n_ := jA (blk_below (g := gb286) (o := .cells #[.bool a0_0,.int .u64 a0_1,.int .u64 a0_2] 28 (0,0)) Z441 hb) (jA (blk_below (g := gb287) (o := .cells #[.bool a1_0,.int .u64 a1_1,.int .u64 a1_2] 28 (0,0)) Z445 hb) (jA (blk_below (g := gb288) (o := .cells #[.bool false,.int .u64 0,.int .u64 0] 28 (0,0)) Z448 hb) (jA (below_step Z385 hb) (jA (hbox) (jA ((Z163 : w.heap.size ≤ gb313)) (jA ((Z163 : w.heap.size ≤ gb313)) (jA ((Z241 : gb286 ≠ gb313)) (jA ((Z243 : gb313 ≠ gb286)) (jA ((Z245 : gb287 ≠ gb313)) (jA ((Z248 : gb313 ≠ gb287)) (jA ((Z279 : gb288 ≠ gb313)) (Aside0.mk ((Z280 : gb313 ≠ gb288))))))))))))));clear BK286 BK287 BK288 HB;obtain ⟨BK286,BK287,BK288,HB,BK313,GW313,GE313,NB286_313,NB313_286,NB287_313,NB313_287,NB288_313,NB313_288⟩ := n_;clear hb hbox hg;have hnb80 := NB313_286.out;have hnc80 := NB286_313.out;have hnb81 := NB313_287.out;have hnc81 := NB287_313.out;have hnb82 := NB313_288.out;have hnc82 := NB288_313.out;obtain ⟨hcz83_0,hcz83_1,hcz83_2,hfz83_0,hfz83_1,hfz83_2⟩ := impl_AddWide.cells3 BK313.out) | ((with_reducible refine gate_callee (f := 31) rfl ?_);refine goesL_ (some 80) rfl rfl Try.func31 Z363 rfl #[.agg #[.bool t310,.int .u64 t311,.int .u64 t312]] rfl Z330 ?_;(with_reducible refine (impl_WideOk.calls t310 t311 t312 false _ A57.out).mono ?_);rintro e w84 ⟨rfl,hb⟩;refine ⟨_,rfl,?_⟩;have n_ := jA (blk_below (g := gb286) (o := .cells #[.bool a0_0,.int .u64 a0_1,.int .u64 a0_2] 28 (0,0)) Z94 hb) (jA (blk_below (g := gb287) (o := .cells #[.bool a1_0,.int .u64 a1_1,.int .u64 a1_2] 28 (0,0)) Z93 hb) (jA (blk_below (g := gb288) (o := .cells #[.bool false,.int .u64 0,.int .u64 0] 28 (0,0)) Z92 hb) (jA (blk_below (g := gb313) (o := .cells #[.bool t310,.int .u64 t311,.int .u64 t312] 28 (0,0)) Z56 hb) (Aside0.mk (below_step Z159 hb)))));clear BK286 BK287 BK288 BK313 HB;obtain ⟨BK286,BK287,BK288,BK313,HB⟩ := n_;(try clear hb);(try clear hb2);(try clear hk);(try clear hi);obtain ⟨hcz85_0,hcz85_1,hcz85_2,hfz85_0,hfz85_1,hfz85_2⟩ := impl_AddWide.cells3 BK288.out))
            refine bodyPost_ret (results_ct rfl _ _ gb288 28 #[.bool false,.int .u64 0,.int .u64 0] (0,0) _ rfl Z64 Try.underlying28 rfl Z363) rfl ?_
            exact ⟨Z354,Z159⟩

/-! ### impl_AddFrac: function 26 -/
theorem impl_AddFrac.cells3 {w : World} {g : Nat} {t : TypeId} {a0 a1 a2 : Value} (h : w.heap[g]? = some (.cells #[a0,a1,a2] t (0,0))) : w.cell? ⟨g,0,none⟩ = some a0 ∧ w.cell? ⟨g,1,none⟩ = some a1 ∧ w.cell? ⟨g,2,none⟩ = some a2 ∧ w.frozen? ⟨g,0,none⟩ = false ∧ w.frozen? ⟨g,1,none⟩ = false ∧ w.frozen? ⟨g,2,none⟩ = false := ⟨(blk_cell h 0).trans rfl,(blk_cell h 1).trans rfl,(blk_cell h 2).trans rfl,blk_frozen h 0,blk_frozen h 1,blk_frozen h 2⟩
theorem impl_AddFrac.cells4 {w : World} {g : Nat} {t : TypeId} {a0 a1 a2 a3 : Value} (h : w.heap[g]? = some (.cells #[a0,a1,a2,a3] t (0,0))) : w.cell? ⟨g,0,none⟩ = some a0 ∧ w.cell? ⟨g,1,none⟩ = some a1 ∧ w.cell? ⟨g,2,none⟩ = some a2 ∧ w.cell? ⟨g,3,none⟩ = some a3 ∧ w.frozen? ⟨g,0,none⟩ = false ∧ w.frozen? ⟨g,1,none⟩ = false ∧ w.frozen? ⟨g,2,none⟩ = false ∧ w.frozen? ⟨g,3,none⟩ = false := ⟨(blk_cell h 0).trans rfl,(blk_cell h 1).trans rfl,(blk_cell h 2).trans rfl,(blk_cell h 3).trans rfl,blk_frozen h 0,blk_frozen h 1,blk_frozen h 2,blk_frozen h 3⟩
def impl_AddFrac.f (k : Nat) (a0_0 : Bool) (a0_1 : Int) (a0_2 : Int) (a0_3 : Int) (a1_0 : Bool) (a1_1 : Int) (a1_2 : Int) (a1_3 : Int) : Option (Bool × Int × Int × Int × Bool) := (impl_crossed.f k a0_0 a0_1 a0_2 a0_3 a1_0 a1_1 a1_2 a1_3).bind fun bt318 => (if bt318.2.2.2.2.2.2 = true then ((impl_AddWide.f k bt318.1 bt318.2.1 bt318.2.2.1 bt318.2.2.2.1 bt318.2.2.2.2.1 bt318.2.2.2.2.2.1).bind fun bt327 => (if bt327.2.2.2 = true then ((impl_fracOf.f bt327.1 bt327.2.1 bt327.2.2.1 (wrap64 (a0_3 * a1_3))).bind fun bt332 => (some (bt332.1,bt332.2.1,bt332.2.2.1,bt332.2.2.2.1,bt332.2.2.2.2))) else (some (false,0,0,0,false)))) else (some (false,0,0,0,false)))
theorem impl_AddFrac.mono : ∀ a0 a1 a2 a3 a4 a5 a6 a7 k,LeO (impl_AddFrac.f k a0 a1 a2 a3 a4 a5 a6 a7) (impl_AddFrac.f (k + 1) a0 a1 a2 a3 a4 a5 a6 a7) := by
  intro a0 a1 a2 a3 a4 a5 a6 a7 k
  unfold impl_AddFrac.f
  repeat' first
      | (with_reducible exact impl_AddWide.mono _ _ _ _ _ _ _)
      | (with_reducible exact impl_crossed.mono _ _ _ _ _ _ _ _ _)
      | (with_reducible exact LeO.refl _)
      | (with_reducible exact LeO.none _)
      | (with_reducible refine LeO.ite ?_ ?_)
      | (with_reducible refine LeO.bind ?_ (fun _ => ?_))
      | exact impl_AddWide.mono _ _ _ _ _ _ _
      | exact impl_crossed.mono _ _ _ _ _ _ _ _ _
      | exact LeO.none _
      | refine LeO.ite ?_ ?_
      | refine LeO.bind ?_ (fun _ => ?_)
set_option maxHeartbeats 8000000 in
set_option maxRecDepth 100000 in
theorem impl_AddFrac.calls (k : Nat) (a0_0 : Bool) (a0_1 : Int) (a0_2 : Int) (a0_3 : Int) (a1_0 : Bool) (a1_1 : Int) (a1_2 : Int) (a1_3 : Int) (r1 : Bool) (r2 : Int) (r3 : Int) (r4 : Int) (r5 : Bool) (w : World) (h : impl_AddFrac.f k a0_0 a0_1 a0_2 a0_3 a1_0 a1_1 a1_2 a1_3 = some (r1,r2,r3,r4,r5)) :
    Calls Try.prog 26 #[.agg #[.bool a0_0,.int .u64 a0_1,.int .u64 a0_2,.int .i64 a0_3],.agg #[.bool a1_0,.int .u64 a1_1,.int .u64 a1_2,.int .i64 a1_3]] w fun e w' => e = .returned (.tuple #[.agg #[.bool r1,.int .u64 r2,.int .u64 r3,.int .i64 r4],.bool r5]) ∧ Below w.heap.size w w' := by
  have hu30 := Try.underlying30
  have hu28 := Try.underlying28
  have HB := Aside0.mk (Below.refl w.heap.size w)
  have H : ((impl_crossed.f k a0_0 a0_1 a0_2 a0_3 a1_0 a1_1 a1_2 a1_3).bind fun bt318 => (if bt318.2.2.2.2.2.2 = true then ((impl_AddWide.f k bt318.1 bt318.2.1 bt318.2.2.1 bt318.2.2.2.1 bt318.2.2.2.2.1 bt318.2.2.2.2.2.1).bind fun bt327 => (if bt327.2.2.2 = true then ((impl_fracOf.f bt327.1 bt327.2.1 bt327.2.2.1 (wrap64 (a0_3 * a1_3))).bind fun bt332 => (some (bt332.1,bt332.2.1,bt332.2.2.1,bt332.2.2.2.1,bt332.2.2.2.2))) else (some (false,0,0,0,false)))) else (some (false,0,0,0,false)))) = some (r1,r2,r3,r4,r5) := h
  clear h
  obtain ⟨⟨t318,t319,t320,t321,t322,t323,t324⟩,A30,H⟩ := Option.bind_eq_some_iff.mp H
  try dsimp only at H
  have A3 := Aside0.mk A30
  clear A30
  by_cases c4 : t324 = true
  · subst c4
    have H1 : ((impl_AddWide.f k t318 t319 t320 t321 t322 t323).bind fun bt327 => (if bt327.2.2.2 = true then ((impl_fracOf.f bt327.1 bt327.2.1 bt327.2.2.1 (wrap64 (a0_3 * a1_3))).bind fun bt332 => (some (bt332.1,bt332.2.1,bt332.2.2.1,bt332.2.2.2.1,bt332.2.2.2.2))) else (some (false,0,0,0,false)))) = some (r1,r2,r3,r4,r5) := by rw [if_pos rfl] at H;exact H
    clear H
    have H := H1
    clear H1
    obtain ⟨⟨t327,t328,t329,t330⟩,A50,H⟩ := Option.bind_eq_some_iff.mp H
    try dsimp only at H
    have A5 := Aside0.mk A50
    clear A50
    by_cases c6 : t330 = true
    · subst c6
      have H1 : ((impl_fracOf.f t327 t328 t329 (wrap64 (a0_3 * a1_3))).bind fun bt332 => (some (bt332.1,bt332.2.1,bt332.2.2.1,bt332.2.2.2.1,bt332.2.2.2.2))) = some (r1,r2,r3,r4,r5) := by rw [if_pos rfl] at H;exact H
      clear H
      have H := H1
      clear H1
      obtain ⟨⟨t332,t333,t334,t335,t336⟩,A70,H⟩ := Option.bind_eq_some_iff.mp H
      try dsimp only at H
      have A7 := Aside0.mk A70
      clear A70
      simp only [Option.some.injEq,Prod.mk.injEq] at H
      obtain ⟨rfl,rfl,rfl,rfl,rfl⟩ := H
      go_enter Try.func26,Try.ntmps26
      go_wp2_with (first | ((with_reducible refine gate_dst (N := 2) rfl ?_);refine box_event ?hg (N := 2) ?hd (cs := #[.bool a0_0,.int .u64 a0_1,.int .u64 a0_2,.int .i64 a0_3]) (t := 30) ?hr ?_;(case hd => rfl);(case hg => rfl);(case hr => exact Z359);intro gb315 hg w8 hbox hb;have n_ := jA (below_step Z430 hb) (jA (hbox) (jA ((Z321 : w.heap.size ≤ gb315)) (Aside0.mk ((Z321 : w.heap.size ≤ gb315)))));clear HB;obtain ⟨HB,BK315,GW315,GE315⟩ := n_;clear hb hbox hg) | ((with_reducible refine gate_dst (N := 3) rfl ?_);refine box_event ?hg (N := 3) ?hd (cs := #[.bool a1_0,.int .u64 a1_1,.int .u64 a1_2,.int .i64 a1_3]) (t := 30) ?hr ?_;(case hd => rfl);(case hg => rfl);(case hr => exact Z359);intro gb316 hg w9 hbox hb;have n_ := jA (blk_below (g := gb315) (o := .cells #[.bool a0_0,.int .u64 a0_1,.int .u64 a0_2,.int .i64 a0_3] 30 (0,0)) Z437 hb) (jA (below_step Z414 hb) (jA (hbox) (jA ((Z300 : w.heap.size ≤ gb316)) (jA ((Z300 : w.heap.size ≤ gb316)) (jA ((Z180 : gb315 ≠ gb316)) (Aside0.mk ((Z181 : gb316 ≠ gb315))))))));clear BK315 HB;obtain ⟨BK315,HB,BK316,GW316,GE316,NB315_316,NB316_315⟩ := n_;clear hb hbox hg) | ((with_reducible refine gate_dst (N := 4) rfl ?_);refine box_event ?hg (N := 4) ?hd (cs := #[.bool false,.int .u64 0,.int .u64 0,.int .i64 0]) (t := 30) ?hr ?_;(case hd => rfl);(case hg => rfl);(case hr => exact Z359);intro gb317 hg w10 hbox hb;have n_ := jA (blk_below (g := gb315) (o := .cells #[.bool a0_0,.int .u64 a0_1,.int .u64 a0_2,.int .i64 a0_3] 30 (0,0)) Z437 hb) (jA (blk_below (g := gb316) (o := .cells #[.bool a1_0,.int .u64 a1_1,.int .u64 a1_2,.int .i64 a1_3] 30 (0,0)) Z443 hb) (jA (below_step Z400 hb) (jA (hbox) (jA ((Z208 : w.heap.size ≤ gb317)) (jA ((Z208 : w.heap.size ≤ gb317)) (jA ((Z180 : gb315 ≠ gb317)) (jA ((Z181 : gb317 ≠ gb315)) (jA ((Z182 : gb316 ≠ gb317)) (Aside0.mk ((Z183 : gb317 ≠ gb316)))))))))));clear BK315 BK316 HB;obtain ⟨BK315,BK316,HB,BK317,GW317,GE317,NB315_317,NB317_315,NB316_317,NB317_316⟩ := n_;clear hb hbox hg;have hnb11 := NB315_316.out;have hnc11 := NB316_315.out;have hnb12 := NB315_317.out;have hnc12 := NB317_315.out;obtain ⟨hcz13_0,hcz13_1,hcz13_2,hcz13_3,hfz13_0,hfz13_1,hfz13_2,hfz13_3⟩ := impl_AddFrac.cells4 BK315.out;have hnb14 := NB316_317.out;have hnc14 := NB317_316.out;obtain ⟨hcz15_0,hcz15_1,hcz15_2,hcz15_3,hfz15_0,hfz15_1,hfz15_2,hfz15_3⟩ := impl_AddFrac.cells4 BK316.out) | ((with_reducible refine gate_callee (f := 48) rfl ?_);refine goesL_ (some 13) rfl rfl Try.func48 Z363 rfl #[.agg #[.bool a0_0,.int .u64 a0_1,.int .u64 a0_2,.int .i64 a0_3],.agg #[.bool a1_0,.int .u64 a1_1,.int .u64 a1_2,.int .i64 a1_3]] rfl Z330 ?_;(with_reducible refine (impl_crossed.calls k a0_0 a0_1 a0_2 a0_3 a1_0 a1_1 a1_2 a1_3 t318 t319 t320 t321 t322 t323 true _ A3.out).mono ?_);rintro e w16 ⟨rfl,hb⟩;refine ⟨_,rfl,?_⟩;have n_ := jA (blk_below (g := gb315) (o := .cells #[.bool a0_0,.int .u64 a0_1,.int .u64 a0_2,.int .i64 a0_3] 30 (0,0)) Z437 hb) (jA (blk_below (g := gb316) (o := .cells #[.bool a1_0,.int .u64 a1_1,.int .u64 a1_2,.int .i64 a1_3] 30 (0,0)) Z443 hb) (jA (blk_below (g := gb317) (o := .cells #[.bool false,.int .u64 0,.int .u64 0,.int .i64 0] 30 (0,0)) Z456 hb) (Aside0.mk (below_step Z389 hb))));clear BK315 BK316 BK317 HB;obtain ⟨BK315,BK316,BK317,HB⟩ := n_;(try clear hb);(try clear hb2);(try clear hk);(try clear hi)) | ((with_reducible refine gate_dst (N := 6) rfl ?_);refine box_event ?hg (N := 6) ?hd (cs := #[.bool false,.int .u64 0,.int .u64 0]) (t := 28) ?hr ?_;(case hd => rfl);(case hg => rfl);(case hr => exact Z359);intro gb325 hg w17 hbox hb;have n_ := jA (blk_below (g := gb315) (o := .cells #[.bool a0_0,.int .u64 a0_1,.int .u64 a0_2,.int .i64 a0_3] 30 (0,0)) Z437 hb) (jA (blk_below (g := gb316) (o := .cells #[.bool a1_0,.int .u64 a1_1,.int .u64 a1_2,.int .i64 a1_3] 30 (0,0)) Z443 hb) (jA (blk_below (g := gb317) (o := .cells #[.bool false,.int .u64 0,.int .u64 0,.int .i64 0] 30 (0,0)) Z456 hb) (jA (below_step Z389 hb) (jA (hbox) (jA ((Z157 : w.heap.size ≤ gb325)) (jA ((Z157 : w.heap.size ≤ gb325)) (jA ((Z180 : gb315 ≠ gb325)) (jA ((Z181 : gb325 ≠ gb315)) (jA ((Z182 : gb316 ≠ gb325)) (jA ((Z183 : gb325 ≠ gb316)) (jA ((Z219 : gb317 ≠ gb325)) (Aside0.mk ((Z220 : gb325 ≠ gb317))))))))))))));clear BK315 BK316 BK317 HB;obtain ⟨BK315,BK316,BK317,HB,BK325,GW325,GE325,NB315_325,NB325_315,NB316_325,NB325_316,NB317_325,NB325_317⟩ := n_;clear hb hbox hg) | ((with_reducible refine gate_dst (N := 7) rfl ?_);refine box_event ?hg (N := 7) ?hd (cs := #[.bool false,.int .u64 0,.int .u64 0]) (t := 28) ?hr ?_;(case hd => rfl);(case hg => rfl);(case hr => exact Z359);intro gb326 hg w18 hbox hb;have n_ := jA (blk_below (g := gb315) (o := .cells #[.bool a0_0,.int .u64 a0_1,.int .u64 a0_2,.int .i64 a0_3] 30 (0,0)) Z437 hb) (jA (blk_below (g := gb316) (o := .cells #[.bool a1_0,.int .u64 a1_1,.int .u64 a1_2,.int .i64 a1_3] 30 (0,0)) Z443 hb) (jA (blk_below (g := gb317) (o := .cells #[.bool false,.int .u64 0,.int .u64 0,.int .i64 0] 30 (0,0)) Z456 hb) (jA (blk_below (g := gb325) (o := .cells #[.bool false,.int .u64 0,.int .u64 0] 28 (0,0)) Z463 hb) (jA (below_step Z383 hb) (jA (hbox) (jA ((Z138 : w.heap.size ≤ gb326)) (jA ((Z138 : w.heap.size ≤ gb326)) (jA ((Z180 : gb315 ≠ gb326)) (jA ((Z181 : gb326 ≠ gb315)) (jA ((Z182 : gb316 ≠ gb326)) (jA ((Z183 : gb326 ≠ gb316)) (jA ((Z219 : gb317 ≠ gb326)) (jA ((Z220 : gb326 ≠ gb317)) (jA ((Z277 : gb325 ≠ gb326)) (Aside0.mk ((Z278 : gb326 ≠ gb325)))))))))))))))));clear BK315 BK316 BK317 BK325 HB;obtain ⟨BK315,BK316,BK317,BK325,HB,BK326,GW326,GE326,NB315_326,NB326_315,NB316_326,NB326_316,NB317_326,NB326_317,NB325_326,NB326_325⟩ := n_;clear hb hbox hg;have hnb19 := NB325_315.out;have hnc19 := NB315_325.out;have hnb20 := NB325_316.out;have hnc20 := NB316_325.out;have hnb21 := NB325_317.out;have hnc21 := NB317_325.out;have hnb22 := NB325_326.out;have hnc22 := NB326_325.out;obtain ⟨hcz23_0,hcz23_1,hcz23_2,hfz23_0,hfz23_1,hfz23_2⟩ := impl_AddFrac.cells3 BK325.out;have hnb24 := NB326_315.out;have hnc24 := NB315_326.out;have hnb25 := NB326_316.out;have hnc25 := NB316_326.out;have hnb26 := NB326_317.out;have hnc26 := NB317_326.out;obtain ⟨hcz27_0,hcz27_1,hcz27_2,hfz27_0,hfz27_1,hfz27_2⟩ := impl_AddFrac.cells3 BK326.out) | ((with_reducible refine gate_callee (f := 49) rfl ?_);refine goesL_ (some 23) rfl rfl Try.func49 Z363 rfl #[.agg #[.bool t318,.int .u64 t319,.int .u64 t320],.agg #[.bool t321,.int .u64 t322,.int .u64 t323]] rfl Z330 ?_;(with_reducible refine (impl_AddWide.calls k t318 t319 t320 t321 t322 t323 t327 t328 t329 true _ A5.out).mono ?_);rintro e w28 ⟨rfl,hb⟩;refine ⟨_,rfl,?_⟩;have n_ := jA (blk_below (g := gb315) (o := .cells #[.bool a0_0,.int .u64 a0_1,.int .u64 a0_2,.int .i64 a0_3] 30 (0,0)) Z31 hb) (jA (blk_below (g := gb316) (o := .cells #[.bool a1_0,.int .u64 a1_1,.int .u64 a1_2,.int .i64 a1_3] 30 (0,0)) Z30 hb) (jA (blk_below (g := gb317) (o := .cells #[.bool false,.int .u64 0,.int .u64 0,.int .i64 0] 30 (0,0)) Z29 hb) (jA (blk_below (g := gb325) (o := .cells #[.bool t318,.int .u64 t319,.int .u64 t320] 28 (0,0)) Z13 hb) (jA (blk_below (g := gb326) (o := .cells #[.bool t321,.int .u64 t322,.int .u64 t323] 28 (0,0)) Z10 hb) (Aside0.mk (below_step Z375 hb))))));clear BK315 BK316 BK317 BK325 BK326 HB;obtain ⟨BK315,BK316,BK317,BK325,BK326,HB⟩ := n_;(try clear hb);(try clear hb2);(try clear hk);(try clear hi)) | ((with_reducible refine gate_dst (N := 9) rfl ?_);refine box_event ?hg (N := 9) ?hd (cs := #[.bool false,.int .u64 0,.int .u64 0]) (t := 28) ?hr ?_;(case hd => rfl);(case hg => rfl);(case hr => exact Z359);intro gb331 hg w29 hbox hb;have n_ := jA (blk_below (g := gb315) (o := .cells #[.bool a0_0,.int .u64 a0_1,.int .u64 a0_2,.int .i64 a0_3] 30 (0,0)) Z437 hb) (jA (blk_below (g := gb316) (o := .cells #[.bool a1_0,.int .u64 a1_1,.int .u64 a1_2,.int .i64 a1_3] 30 (0,0)) Z443 hb) (jA (blk_below (g := gb317) (o := .cells #[.bool false,.int .u64 0,.int .u64 0,.int .i64 0] 30 (0,0)) Z456 hb) (jA (blk_below (g := gb325) (o := .cells #[.bool t318,.int .u64 t319,.int .u64 t320] 28 (0,0)) Z463 hb) (jA (blk_below (g := gb326) (o := .cells #[.bool t321,.int .u64 t322,.int .u64 t323] 28 (0,0)) Z476 hb) (jA (below_step Z375 hb) (jA (hbox) (jA ((Z129 : w.heap.size ≤ gb331)) (jA ((Z129 : w.heap.size ≤ gb331)) (jA ((Z180 : gb315 ≠ gb331)) (jA ((Z181 : gb331 ≠ gb315)) (jA ((Z182 : gb316 ≠ gb331)) (jA ((Z183 : gb331 ≠ gb316)) (jA ((Z219 : gb317 ≠ gb331)) (jA ((Z220 : gb331 ≠ gb317)) (jA ((Z252 : gb325 ≠ gb331)) (jA ((Z256 : gb331 ≠ gb325)) (jA ((Z251 : gb326 ≠ gb331)) (Aside0.mk ((Z255 : gb331 ≠ gb326))))))))))))))))))));clear BK315 BK316 BK317 BK325 BK326 HB;obtain ⟨BK315,BK316,BK317,BK325,BK326,HB,BK331,GW331,GE331,NB315_331,NB331_315,NB316_331,NB331_316,NB317_331,NB331_317,NB325_331,NB331_325,NB326_331,NB331_326⟩ := n_;clear hb hbox hg;have hnb30 := NB331_315.out;have hnc30 := NB315_331.out;have hnb31 := NB331_316.out;have hnc31 := NB316_331.out;have hnb32 := NB331_317.out;have hnc32 := NB317_331.out;have hnb33 := NB331_325.out;have hnc33 := NB325_331.out;have hnb34 := NB331_326.out;have hnc34 := NB326_331.out;obtain ⟨hcz35_0,hcz35_1,hcz35_2,hfz35_0,hfz35_1,hfz35_2⟩ := impl_AddFrac.cells3 BK331.out;obtain ⟨hcz36_0,hcz36_1,hcz36_2,hcz36_3,hfz36_0,hfz36_1,hfz36_2,hfz36_3⟩ := impl_AddFrac.cells4 BK315.out;obtain ⟨hcz37_0,hcz37_1,hcz37_2,hcz37_3,hfz37_0,hfz37_1,hfz37_2,hfz37_3⟩ := impl_AddFrac.cells4 BK316.out) | ((with_reducible refine gate_callee (f := 50) rfl ?_);refine goesL_ (some 35) rfl rfl Try.func50 Z363 rfl #[.agg #[.bool t327,.int .u64 t328,.int .u64 t329],.int .i64 (wrap64 (a0_3 * a1_3))] rfl Z330 ?_;(with_reducible refine (impl_fracOf.calls t327 t328 t329 (wrap64 (a0_3 * a1_3)) t332 t333 t334 t335 t336 _ A7.out).mono ?_);rintro e w38 ⟨rfl,hb⟩;refine ⟨_,rfl,?_⟩;have n_ := jA (blk_below (g := gb315) (o := .cells #[.bool a0_0,.int .u64 a0_1,.int .u64 a0_2,.int .i64 a0_3] 30 (0,0)) (by (with_reducible repeat (first | refine bA ?_ _ | refine bB ?_ | refine bC ?_ _));refine blk_far ?_ NB315_331.out _;(with_reducible repeat (first | refine bA ?_ _ | refine bB ?_ | refine bC ?_ _));refine blk_far ?_ NB315_331.out _;(with_reducible repeat (first | refine bA ?_ _ | refine bB ?_ | refine bC ?_ _));refine blk_far ?_ NB315_331.out _;(with_reducible repeat (first | refine bA ?_ _ | refine bB ?_ | refine bC ?_ _));exact BK315.out) hb) (jA (blk_below (g := gb316) (o := .cells #[.bool a1_0,.int .u64 a1_1,.int .u64 a1_2,.int .i64 a1_3] 30 (0,0)) (by (with_reducible repeat (first | refine bA ?_ _ | refine bB ?_ | refine bC ?_ _));refine blk_far ?_ NB316_331.out _;(with_reducible repeat (first | refine bA ?_ _ | refine bB ?_ | refine bC ?_ _));refine blk_far ?_ NB316_331.out _;(with_reducible repeat (first | refine bA ?_ _ | refine bB ?_ | refine bC ?_ _));refine blk_far ?_ NB316_331.out _;(with_reducible repeat (first | refine bA ?_ _ | refine bB ?_ | refine bC ?_ _));exact BK316.out) hb) (jA (blk_below (g := gb317) (o := .cells #[.bool false,.int .u64 0,.int .u64 0,.int .i64 0] 30 (0,0)) (by (with_reducible repeat (first | refine bA ?_ _ | refine bB ?_ | refine bC ?_ _));refine blk_far ?_ NB317_331.out _;(with_reducible repeat (first | refine bA ?_ _ | refine bB ?_ | refine bC ?_ _));refine blk_far ?_ NB317_331.out _;(with_reducible repeat (first | refine bA ?_ _ | refine bB ?_ | refine bC ?_ _));refine blk_far ?_ NB317_331.out _;(with_reducible repeat (first | refine bA ?_ _ | refine bB ?_ | refine bC ?_ _));exact BK317.out) hb) (jA (blk_below (g := gb325) (o := .cells #[.bool t318,.int .u64 t319,.int .u64 t320] 28 (0,0)) (by (with_reducible repeat (first | refine bA ?_ _ | refine bB ?_ | refine bC ?_ _));refine blk_far ?_ NB325_331.out _;(with_reducible repeat (first | refine bA ?_ _ | refine bB ?_ | refine bC ?_ _));refine blk_far ?_ NB325_331.out _;(with_reducible repeat (first | refine bA ?_ _ | refine bB ?_ | refine bC ?_ _));refine blk_far ?_ NB325_331.out _;(with_reducible repeat (first | refine bA ?_ _ | refine bB ?_ | refine bC ?_ _));exact BK325.out) hb) (jA (blk_below (g := gb326) (o := .cells #[.bool t321,.int .u64 t322,.int .u64 t323] 28 (0,0)) (by (with_reducible repeat (first | refine bA ?_ _ | refine bB ?_ | refine bC ?_ _));refine blk_far ?_ NB326_331.out _;(with_reducible repeat (first | refine bA ?_ _ | refine bB ?_ | refine bC ?_ _));refine blk_far ?_ NB326_331.out _;(with_reducible repeat (first | refine bA ?_ _ | refine bB ?_ | refine bC ?_ _));refine blk_far ?_ NB326_331.out _;(with_reducible repeat (first | refine bA ?_ _ | refine bB ?_ | refine bC ?_ _));exact BK326.out) hb) (jA (blk_below (g := gb331) (o := .cells #[.bool t327,.int .u64 t328,.int .u64 t329] 28 (0,0)) (by (with_reducible repeat (first | refine bA ?_ _ | refine bB ?_ | refine bC ?_ _));refine blk_put (cs := #[.bool t327,.int .u64 t328,.int .u64 0]) ?_ 2 _ rfl;(with_reducible repeat (first | refine bA ?_ _ | refine bB ?_ | refine bC ?_ _));refine blk_put (cs := #[.bool t327,.int .u64 0,.int .u64 0]) ?_ 1 _ rfl;(with_reducible repeat (first | refine bA ?_ _ | refine bB ?_ | refine bC ?_ _));refine blk_put (cs := #[.bool false,.int .u64 0,.int .u64 0]) ?_ 0 _ rfl;(with_reducible repeat (first | refine bA ?_ _ | refine bB ?_ | refine bC ?_ _));exact BK331.out) hb) (Aside0.mk (below_step Z135 hb)))))));clear BK315 BK316 BK317 BK325 BK326 BK331 HB;obtain ⟨BK315,BK316,BK317,BK325,BK326,BK331,HB⟩ := n_;(try clear hb);(try clear hb2);(try clear hk);(try clear hi);obtain ⟨hcz39_0,hcz39_1,hcz39_2,hcz39_3,hfz39_0,hfz39_1,hfz39_2,hfz39_3⟩ := impl_AddFrac.cells4 BK317.out))
      refine bodyPost_ret (results_ct rfl _ _ gb317 30 #[.bool t332,.int .u64 t333,.int .u64 t334,.int .i64 t335] (0,0) _ rfl (by (with_reducible repeat (first | refine bA ?_ _ | refine bB ?_ | refine bC ?_ _));refine blk_put (cs := #[.bool t332,.int .u64 t333,.int .u64 t334,.int .i64 0]) ?_ 3 _ rfl;(with_reducible repeat (first | refine bA ?_ _ | refine bB ?_ | refine bC ?_ _));refine blk_put (cs := #[.bool t332,.int .u64 t333,.int .u64 0,.int .i64 0]) ?_ 2 _ rfl;(with_reducible repeat (first | refine bA ?_ _ | refine bB ?_ | refine bC ?_ _));refine blk_put (cs := #[.bool t332,.int .u64 0,.int .u64 0,.int .i64 0]) ?_ 1 _ rfl;(with_reducible repeat (first | refine bA ?_ _ | refine bB ?_ | refine bC ?_ _));refine blk_put (cs := #[.bool false,.int .u64 0,.int .u64 0,.int .i64 0]) ?_ 0 _ rfl;(with_reducible repeat (first | refine bA ?_ _ | refine bB ?_ | refine bC ?_ _));exact BK317.out) Try.underlying30 rfl Z363) rfl ?_
      exact ⟨Z354,Z135⟩
    · replace c6 := Bool.eq_false_iff.mpr c6
      subst c6
      have H1 : (some (false,0,0,0,false)) = some (r1,r2,r3,r4,r5) := by rw [if_neg (show ¬ (false = true) by decide)] at H;exact H
      clear H
      have H := H1
      clear H1
      simp only [Option.some.injEq,Prod.mk.injEq] at H
      obtain ⟨rfl,rfl,rfl,rfl,rfl⟩ := H
      go_enter Try.func26,Try.ntmps26
      go_wp2_with (first | ((with_reducible refine gate_dst (N := 2) rfl ?_);refine box_event ?hg (N := 2) ?hd (cs := #[.bool a0_0,.int .u64 a0_1,.int .u64 a0_2,.int .i64 a0_3]) (t := 30) ?hr ?_;(case hd => rfl);(case hg => rfl);(case hr => exact Z359);intro gb315 hg w40 hbox hb;have n_ := jA (below_step Z430 hb) (jA (hbox) (jA ((Z321 : w.heap.size ≤ gb315)) (Aside0.mk ((Z321 : w.heap.size ≤ gb315)))));clear HB;obtain ⟨HB,BK315,GW315,GE315⟩ := n_;clear hb hbox hg) | ((with_reducible refine gate_dst (N := 3) rfl ?_);refine box_event ?hg (N := 3) ?hd (cs := #[.bool a1_0,.int .u64 a1_1,.int .u64 a1_2,.int .i64 a1_3]) (t := 30) ?hr ?_;(case hd => rfl);(case hg => rfl);(case hr => exact Z359);intro gb316 hg w41 hbox hb;have n_ := jA (blk_below (g := gb315) (o := .cells #[.bool a0_0,.int .u64 a0_1,.int .u64 a0_2,.int .i64 a0_3] 30 (0,0)) Z437 hb) (jA (below_step Z414 hb) (jA (hbox) (jA ((Z300 : w.heap.size ≤ gb316)) (jA ((Z300 : w.heap.size ≤ gb316)) (jA ((Z180 : gb315 ≠ gb316)) (Aside0.mk ((Z181 : gb316 ≠ gb315))))))));clear BK315 HB;obtain ⟨BK315,HB,BK316,GW316,GE316,NB315_316,NB316_315⟩ := n_;clear hb hbox hg) | ((with_reducible refine gate_dst (N := 4) rfl ?_);refine box_event ?hg (N := 4) ?hd (cs := #[.bool false,.int .u64 0,.int .u64 0,.int .i64 0]) (t := 30) ?hr ?_;(case hd => rfl);(case hg => rfl);(case hr => exact Z359);intro gb317 hg w42 hbox hb;have n_ := jA (blk_below (g := gb315) (o := .cells #[.bool a0_0,.int .u64 a0_1,.int .u64 a0_2,.int .i64 a0_3] 30 (0,0)) Z437 hb) (jA (blk_below (g := gb316) (o := .cells #[.bool a1_0,.int .u64 a1_1,.int .u64 a1_2,.int .i64 a1_3] 30 (0,0)) Z443 hb) (jA (below_step Z400 hb) (jA (hbox) (jA ((Z208 : w.heap.size ≤ gb317)) (jA ((Z208 : w.heap.size ≤ gb317)) (jA ((Z180 : gb315 ≠ gb317)) (jA ((Z181 : gb317 ≠ gb315)) (jA ((Z182 : gb316 ≠ gb317)) (Aside0.mk ((Z183 : gb317 ≠ gb316)))))))))));clear BK315 BK316 HB;obtain ⟨BK315,BK316,HB,BK317,GW317,GE317,NB315_317,NB317_315,NB316_317,NB317_316⟩ := n_;clear hb hbox hg;have hnb43 := NB315_316.out;have hnc43 := NB316_315.out;have hnb44 := NB315_317.out;have hnc44 := NB317_315.out;obtain ⟨hcz45_0,hcz45_1,hcz45_2,hcz45_3,hfz45_0,hfz45_1,hfz45_2,hfz45_3⟩ := impl_AddFrac.cells4 BK315.out;have hnb46 := NB316_317.out;have hnc46 := NB317_316.out;obtain ⟨hcz47_0,hcz47_1,hcz47_2,hcz47_3,hfz47_0,hfz47_1,hfz47_2,hfz47_3⟩ := impl_AddFrac.cells4 BK316.out) | ((with_reducible refine gate_callee (f := 48) rfl ?_);refine goesL_ (some 13) rfl rfl Try.func48 Z363 rfl #[.agg #[.bool a0_0,.int .u64 a0_1,.int .u64 a0_2,.int .i64 a0_3],.agg #[.bool a1_0,.int .u64 a1_1,.int .u64 a1_2,.int .i64 a1_3]] rfl Z330 ?_;(with_reducible refine (impl_crossed.calls k a0_0 a0_1 a0_2 a0_3 a1_0 a1_1 a1_2 a1_3 t318 t319 t320 t321 t322 t323 true _ A3.out).mono ?_);rintro e w48 ⟨rfl,hb⟩;refine ⟨_,rfl,?_⟩;have n_ := jA (blk_below (g := gb315) (o := .cells #[.bool a0_0,.int .u64 a0_1,.int .u64 a0_2,.int .i64 a0_3] 30 (0,0)) Z437 hb) (jA (blk_below (g := gb316) (o := .cells #[.bool a1_0,.int .u64 a1_1,.int .u64 a1_2,.int .i64 a1_3] 30 (0,0)) Z443 hb) (jA (blk_below (g := gb317) (o := .cells #[.bool false,.int .u64 0,.int .u64 0,.int .i64 0] 30 (0,0)) Z456 hb) (Aside0.mk (below_step Z389 hb))));clear BK315 BK316 BK317 HB;obtain ⟨BK315,BK316,BK317,HB⟩ := n_;(try clear hb);(try clear hb2);(try clear hk);(try clear hi)) | ((with_reducible refine gate_dst (N := 6) rfl ?_);refine box_event ?hg (N := 6) ?hd (cs := #[.bool false,.int .u64 0,.int .u64 0]) (t := 28) ?hr ?_;(case hd => rfl);(case hg => rfl);(case hr => exact Z359);intro gb325 hg w49 hbox hb;have n_ := jA (blk_below (g := gb315) (o := .cells #[.bool a0_0,.int .u64 a0_1,.int .u64 a0_2,.int .i64 a0_3] 30 (0,0)) Z437 hb) (jA (blk_below (g := gb316) (o := .cells #[.bool a1_0,.int .u64 a1_1,.int .u64 a1_2,.int .i64 a1_3] 30 (0,0)) Z443 hb) (jA (blk_below (g := gb317) (o := .cells #[.bool false,.int .u64 0,.int .u64 0,.int .i64 0] 30 (0,0)) Z456 hb) (jA (below_step Z389 hb) (jA (hbox) (jA ((Z157 : w.heap.size ≤ gb325)) (jA ((Z157 : w.heap.size ≤ gb325)) (jA ((Z180 : gb315 ≠ gb325)) (jA ((Z181 : gb325 ≠ gb315)) (jA ((Z182 : gb316 ≠ gb325)) (jA ((Z183 : gb325 ≠ gb316)) (jA ((Z219 : gb317 ≠ gb325)) (Aside0.mk ((Z220 : gb325 ≠ gb317))))))))))))));clear BK315 BK316 BK317 HB;obtain ⟨BK315,BK316,BK317,HB,BK325,GW325,GE325,NB315_325,NB325_315,NB316_325,NB325_316,NB317_325,NB325_317⟩ := n_;clear hb hbox hg) | ((with_reducible refine gate_dst (N := 7) rfl ?_);refine box_event ?hg (N := 7) ?hd (cs := #[.bool false,.int .u64 0,.int .u64 0]) (t := 28) ?hr ?_;(case hd => rfl);(case hg => rfl);(case hr => exact Z359);intro gb326 hg w50 hbox hb;have n_ := jA (blk_below (g := gb315) (o := .cells #[.bool a0_0,.int .u64 a0_1,.int .u64 a0_2,.int .i64 a0_3] 30 (0,0)) Z437 hb) (jA (blk_below (g := gb316) (o := .cells #[.bool a1_0,.int .u64 a1_1,.int .u64 a1_2,.int .i64 a1_3] 30 (0,0)) Z443 hb) (jA (blk_below (g := gb317) (o := .cells #[.bool false,.int .u64 0,.int .u64 0,.int .i64 0] 30 (0,0)) Z456 hb) (jA (blk_below (g := gb325) (o := .cells #[.bool false,.int .u64 0,.int .u64 0] 28 (0,0)) Z463 hb) (jA (below_step Z383 hb) (jA (hbox) (jA ((Z138 : w.heap.size ≤ gb326)) (jA ((Z138 : w.heap.size ≤ gb326)) (jA ((Z180 : gb315 ≠ gb326)) (jA ((Z181 : gb326 ≠ gb315)) (jA ((Z182 : gb316 ≠ gb326)) (jA ((Z183 : gb326 ≠ gb316)) (jA ((Z219 : gb317 ≠ gb326)) (jA ((Z220 : gb326 ≠ gb317)) (jA ((Z277 : gb325 ≠ gb326)) (Aside0.mk ((Z278 : gb326 ≠ gb325)))))))))))))))));clear BK315 BK316 BK317 BK325 HB;obtain ⟨BK315,BK316,BK317,BK325,HB,BK326,GW326,GE326,NB315_326,NB326_315,NB316_326,NB326_316,NB317_326,NB326_317,NB325_326,NB326_325⟩ := n_;clear hb hbox hg;have hnb51 := NB325_315.out;have hnc51 := NB315_325.out;have hnb52 := NB325_316.out;have hnc52 := NB316_325.out;have hnb53 := NB325_317.out;have hnc53 := NB317_325.out;have hnb54 := NB325_326.out;have hnc54 := NB326_325.out;obtain ⟨hcz55_0,hcz55_1,hcz55_2,hfz55_0,hfz55_1,hfz55_2⟩ := impl_AddFrac.cells3 BK325.out;have hnb56 := NB326_315.out;have hnc56 := NB315_326.out;have hnb57 := NB326_316.out;have hnc57 := NB316_326.out;have hnb58 := NB326_317.out;have hnc58 := NB317_326.out;obtain ⟨hcz59_0,hcz59_1,hcz59_2,hfz59_0,hfz59_1,hfz59_2⟩ := impl_AddFrac.cells3 BK326.out) | ((with_reducible refine gate_callee (f := 49) rfl ?_);refine goesL_ (some 23) rfl rfl Try.func49 Z363 rfl #[.agg #[.bool t318,.int .u64 t319,.int .u64 t320],.agg #[.bool t321,.int .u64 t322,.int .u64 t323]] rfl Z330 ?_;(with_reducible refine (impl_AddWide.calls k t318 t319 t320 t321 t322 t323 t327 t328 t329 false _ A5.out).mono ?_);rintro e w60 ⟨rfl,hb⟩;refine ⟨_,rfl,?_⟩;have n_ := jA (blk_below (g := gb315) (o := .cells #[.bool a0_0,.int .u64 a0_1,.int .u64 a0_2,.int .i64 a0_3] 30 (0,0)) Z31 hb) (jA (blk_below (g := gb316) (o := .cells #[.bool a1_0,.int .u64 a1_1,.int .u64 a1_2,.int .i64 a1_3] 30 (0,0)) Z30 hb) (jA (blk_below (g := gb317) (o := .cells #[.bool false,.int .u64 0,.int .u64 0,.int .i64 0] 30 (0,0)) Z29 hb) (jA (blk_below (g := gb325) (o := .cells #[.bool t318,.int .u64 t319,.int .u64 t320] 28 (0,0)) Z13 hb) (jA (blk_below (g := gb326) (o := .cells #[.bool t321,.int .u64 t322,.int .u64 t323] 28 (0,0)) Z10 hb) (Aside0.mk (below_step Z375 hb))))));clear BK315 BK316 BK317 BK325 BK326 HB;obtain ⟨BK315,BK316,BK317,BK325,BK326,HB⟩ := n_;(try clear hb);(try clear hb2);(try clear hk);(try clear hi)) | ((with_reducible refine gate_dst (N := 9) rfl ?_);refine box_event ?hg (N := 9) ?hd (cs := #[.bool false,.int .u64 0,.int .u64 0]) (t := 28) ?hr ?_;(case hd => rfl);(case hg => rfl);(case hr => exact Z359);intro gb331 hg w61 hbox hb;have n_ := jA (blk_below (g := gb315) (o := .cells #[.bool a0_0,.int .u64 a0_1,.int .u64 a0_2,.int .i64 a0_3] 30 (0,0)) Z437 hb) (jA (blk_below (g := gb316) (o := .cells #[.bool a1_0,.int .u64 a1_1,.int .u64 a1_2,.int .i64 a1_3] 30 (0,0)) Z443 hb) (jA (blk_below (g := gb317) (o := .cells #[.bool false,.int .u64 0,.int .u64 0,.int .i64 0] 30 (0,0)) Z456 hb) (jA (blk_below (g := gb325) (o := .cells #[.bool t318,.int .u64 t319,.int .u64 t320] 28 (0,0)) Z463 hb) (jA (blk_below (g := gb326) (o := .cells #[.bool t321,.int .u64 t322,.int .u64 t323] 28 (0,0)) Z476 hb) (jA (below_step Z375 hb) (jA (hbox) (jA ((Z129 : w.heap.size ≤ gb331)) (jA ((Z129 : w.heap.size ≤ gb331)) (jA ((Z180 : gb315 ≠ gb331)) (jA ((Z181 : gb331 ≠ gb315)) (jA ((Z182 : gb316 ≠ gb331)) (jA ((Z183 : gb331 ≠ gb316)) (jA ((Z219 : gb317 ≠ gb331)) (jA ((Z220 : gb331 ≠ gb317)) (jA ((Z252 : gb325 ≠ gb331)) (jA ((Z256 : gb331 ≠ gb325)) (jA ((Z251 : gb326 ≠ gb331)) (Aside0.mk ((Z255 : gb331 ≠ gb326))))))))))))))))))));clear BK315 BK316 BK317 BK325 BK326 HB;obtain ⟨BK315,BK316,BK317,BK325,BK326,HB,BK331,GW331,GE331,NB315_331,NB331_315,NB316_331,NB331_316,NB317_331,NB331_317,NB325_331,NB331_325,NB326_331,NB331_326⟩ := n_;clear hb hbox hg;have hnb62 := NB331_315.out;have hnc62 := NB315_331.out;have hnb63 := NB331_316.out;have hnc63 := NB316_331.out;have hnb64 := NB331_317.out;have hnc64 := NB317_331.out;have hnb65 := NB331_325.out;have hnc65 := NB325_331.out;have hnb66 := NB331_326.out;have hnc66 := NB326_331.out;obtain ⟨hcz67_0,hcz67_1,hcz67_2,hfz67_0,hfz67_1,hfz67_2⟩ := impl_AddFrac.cells3 BK331.out;obtain ⟨hcz68_0,hcz68_1,hcz68_2,hcz68_3,hfz68_0,hfz68_1,hfz68_2,hfz68_3⟩ := impl_AddFrac.cells4 BK317.out))
      refine bodyPost_ret (results_ct rfl _ _ gb317 30 #[.bool false,.int .u64 0,.int .u64 0,.int .i64 0] (0,0) _ rfl (by (with_reducible repeat (first | refine bA ?_ _ | refine bB ?_ | refine bC ?_ _));refine blk_put (cs := #[.bool false,.int .u64 0,.int .u64 0,.int .i64 0]) ?_ 3 _ rfl;(with_reducible repeat (first | refine bA ?_ _ | refine bB ?_ | refine bC ?_ _));refine blk_put (cs := #[.bool false,.int .u64 0,.int .u64 0,.int .i64 0]) ?_ 2 _ rfl;(with_reducible repeat (first | refine bA ?_ _ | refine bB ?_ | refine bC ?_ _));refine blk_put (cs := #[.bool false,.int .u64 0,.int .u64 0,.int .i64 0]) ?_ 1 _ rfl;(with_reducible repeat (first | refine bA ?_ _ | refine bB ?_ | refine bC ?_ _));refine blk_put (cs := #[.bool false,.int .u64 0,.int .u64 0,.int .i64 0]) ?_ 0 _ rfl;(with_reducible repeat (first | refine bA ?_ _ | refine bB ?_ | refine bC ?_ _));refine blk_far ?_ NB317_331.out _;(with_reducible repeat (first | refine bA ?_ _ | refine bB ?_ | refine bC ?_ _));refine blk_far ?_ NB317_331.out _;(with_reducible repeat (first | refine bA ?_ _ | refine bB ?_ | refine bC ?_ _));refine blk_far ?_ NB317_331.out _;(with_reducible repeat (first | refine bA ?_ _ | refine bB ?_ | refine bC ?_ _));exact BK317.out) Try.underlying30 rfl Z363) rfl ?_
      exact ⟨Z354,Z135⟩
  · replace c4 := Bool.eq_false_iff.mpr c4
    subst c4
    have H1 : (some (false,0,0,0,false)) = some (r1,r2,r3,r4,r5) := by rw [if_neg (show ¬ (false = true) by decide)] at H;exact H
    clear H
    have H := H1
    clear H1
    simp only [Option.some.injEq,Prod.mk.injEq] at H
    obtain ⟨rfl,rfl,rfl,rfl,rfl⟩ := H
    go_enter Try.func26,Try.ntmps26
    go_wp2_with (first | ((with_reducible refine gate_dst (N := 2) rfl ?_);refine box_event ?hg (N := 2) ?hd (cs := #[.bool a0_0,.int .u64 a0_1,.int .u64 a0_2,.int .i64 a0_3]) (t := 30) ?hr ?_;(case hd => rfl);(case hg => rfl);(case hr => exact Z359);intro gb315 hg w69 hbox hb;have n_ := jA (below_step Z430 hb) (jA (hbox) (jA ((Z321 : w.heap.size ≤ gb315)) (Aside0.mk ((Z321 : w.heap.size ≤ gb315)))));clear HB;obtain ⟨HB,BK315,GW315,GE315⟩ := n_;clear hb hbox hg) | ((with_reducible refine gate_dst (N := 3) rfl ?_);refine box_event ?hg (N := 3) ?hd (cs := #[.bool a1_0,.int .u64 a1_1,.int .u64 a1_2,.int .i64 a1_3]) (t := 30) ?hr ?_;(case hd => rfl);(case hg => rfl);(case hr => exact Z359);intro gb316 hg w70 hbox hb;have n_ := jA (blk_below (g := gb315) (o := .cells #[.bool a0_0,.int .u64 a0_1,.int .u64 a0_2,.int .i64 a0_3] 30 (0,0)) Z437 hb) (jA (below_step Z414 hb) (jA (hbox) (jA ((Z300 : w.heap.size ≤ gb316)) (jA ((Z300 : w.heap.size ≤ gb316)) (jA ((Z180 : gb315 ≠ gb316)) (Aside0.mk ((Z181 : gb316 ≠ gb315))))))));clear BK315 HB;obtain ⟨BK315,HB,BK316,GW316,GE316,NB315_316,NB316_315⟩ := n_;clear hb hbox hg) | ((with_reducible refine gate_dst (N := 4) rfl ?_);refine box_event ?hg (N := 4) ?hd (cs := #[.bool false,.int .u64 0,.int .u64 0,.int .i64 0]) (t := 30) ?hr ?_;(case hd => rfl);(case hg => rfl);(case hr => exact Z359);intro gb317 hg w71 hbox hb;have n_ := jA (blk_below (g := gb315) (o := .cells #[.bool a0_0,.int .u64 a0_1,.int .u64 a0_2,.int .i64 a0_3] 30 (0,0)) Z437 hb) (jA (blk_below (g := gb316) (o := .cells #[.bool a1_0,.int .u64 a1_1,.int .u64 a1_2,.int .i64 a1_3] 30 (0,0)) Z443 hb) (jA (below_step Z400 hb) (jA (hbox) (jA ((Z208 : w.heap.size ≤ gb317)) (jA ((Z208 : w.heap.size ≤ gb317)) (jA ((Z180 : gb315 ≠ gb317)) (jA ((Z181 : gb317 ≠ gb315)) (jA ((Z182 : gb316 ≠ gb317)) (Aside0.mk ((Z183 : gb317 ≠ gb316)))))))))));clear BK315 BK316 HB;obtain ⟨BK315,BK316,HB,BK317,GW317,GE317,NB315_317,NB317_315,NB316_317,NB317_316⟩ := n_;clear hb hbox hg;have hnb72 := NB315_316.out;have hnc72 := NB316_315.out;have hnb73 := NB315_317.out;have hnc73 := NB317_315.out;obtain ⟨hcz74_0,hcz74_1,hcz74_2,hcz74_3,hfz74_0,hfz74_1,hfz74_2,hfz74_3⟩ := impl_AddFrac.cells4 BK315.out;have hnb75 := NB316_317.out;have hnc75 := NB317_316.out;obtain ⟨hcz76_0,hcz76_1,hcz76_2,hcz76_3,hfz76_0,hfz76_1,hfz76_2,hfz76_3⟩ := impl_AddFrac.cells4 BK316.out) | ((with_reducible refine gate_callee (f := 48) rfl ?_);refine goesL_ (some 13) rfl rfl Try.func48 Z363 rfl #[.agg #[.bool a0_0,.int .u64 a0_1,.int .u64 a0_2,.int .i64 a0_3],.agg #[.bool a1_0,.int .u64 a1_1,.int .u64 a1_2,.int .i64 a1_3]] rfl Z330 ?_;(with_reducible refine (impl_crossed.calls k a0_0 a0_1 a0_2 a0_3 a1_0 a1_1 a1_2 a1_3 t318 t319 t320 t321 t322 t323 false _ A3.out).mono ?_);rintro e w77 ⟨rfl,hb⟩;refine ⟨_,rfl,?_⟩;have n_ := jA (blk_below (g := gb315) (o := .cells #[.bool a0_0,.int .u64 a0_1,.int .u64 a0_2,.int .i64 a0_3] 30 (0,0)) Z437 hb) (jA (blk_below (g := gb316) (o := .cells #[.bool a1_0,.int .u64 a1_1,.int .u64 a1_2,.int .i64 a1_3] 30 (0,0)) Z443 hb) (jA (blk_below (g := gb317) (o := .cells #[.bool false,.int .u64 0,.int .u64 0,.int .i64 0] 30 (0,0)) Z456 hb) (Aside0.mk (below_step Z389 hb))));clear BK315 BK316 BK317 HB;obtain ⟨BK315,BK316,BK317,HB⟩ := n_;(try clear hb);(try clear hb2);(try clear hk);(try clear hi)) | ((with_reducible refine gate_dst (N := 6) rfl ?_);refine box_event ?hg (N := 6) ?hd (cs := #[.bool false,.int .u64 0,.int .u64 0]) (t := 28) ?hr ?_;(case hd => rfl);(case hg => rfl);(case hr => exact Z359);intro gb325 hg w78 hbox hb;have n_ := jA (blk_below (g := gb315) (o := .cells #[.bool a0_0,.int .u64 a0_1,.int .u64 a0_2,.int .i64 a0_3] 30 (0,0)) Z437 hb) (jA (blk_below (g := gb316) (o := .cells #[.bool a1_0,.int .u64 a1_1,.int .u64 a1_2,.int .i64 a1_3] 30 (0,0)) Z443 hb) (jA (blk_below (g := gb317) (o := .cells #[.bool false,.int .u64 0,.int .u64 0,.int .i64 0] 30 (0,0)) Z456 hb) (jA (below_step Z389 hb) (jA (hbox) (jA ((Z157 : w.heap.size ≤ gb325)) (jA ((Z157 : w.heap.size ≤ gb325)) (jA ((Z180 : gb315 ≠ gb325)) (jA ((Z181 : gb325 ≠ gb315)) (jA ((Z182 : gb316 ≠ gb325)) (jA ((Z183 : gb325 ≠ gb316)) (jA ((Z219 : gb317 ≠ gb325)) (Aside0.mk ((Z220 : gb325 ≠ gb317))))))))))))));clear BK315 BK316 BK317 HB;obtain ⟨BK315,BK316,BK317,HB,BK325,GW325,GE325,NB315_325,NB325_315,NB316_325,NB325_316,NB317_325,NB325_317⟩ := n_;clear hb hbox hg) | ((with_reducible refine gate_dst (N := 7) rfl ?_);refine box_event ?hg (N := 7) ?hd (cs := #[.bool false,.int .u64 0,.int .u64 0]) (t := 28) ?hr ?_;(case hd => rfl);(case hg => rfl);(case hr => exact Z359);intro gb326 hg w79 hbox hb;have n_ := jA (blk_below (g := gb315) (o := .cells #[.bool a0_0,.int .u64 a0_1,.int .u64 a0_2,.int .i64 a0_3] 30 (0,0)) Z437 hb) (jA (blk_below (g := gb316) (o := .cells #[.bool a1_0,.int .u64 a1_1,.int .u64 a1_2,.int .i64 a1_3] 30 (0,0)) Z443 hb) (jA (blk_below (g := gb317) (o := .cells #[.bool false,.int .u64 0,.int .u64 0,.int .i64 0] 30 (0,0)) Z456 hb) (jA (blk_below (g := gb325) (o := .cells #[.bool false,.int .u64 0,.int .u64 0] 28 (0,0)) Z463 hb) (jA (below_step Z383 hb) (jA (hbox) (jA ((Z138 : w.heap.size ≤ gb326)) (jA ((Z138 : w.heap.size ≤ gb326)) (jA ((Z180 : gb315 ≠ gb326)) (jA ((Z181 : gb326 ≠ gb315)) (jA ((Z182 : gb316 ≠ gb326)) (jA ((Z183 : gb326 ≠ gb316)) (jA ((Z219 : gb317 ≠ gb326)) (jA ((Z220 : gb326 ≠ gb317)) (jA ((Z277 : gb325 ≠ gb326)) (Aside0.mk ((Z278 : gb326 ≠ gb325)))))))))))))))));clear BK315 BK316 BK317 BK325 HB;obtain ⟨BK315,BK316,BK317,BK325,HB,BK326,GW326,GE326,NB315_326,NB326_315,NB316_326,NB326_316,NB317_326,NB326_317,NB325_326,NB326_325⟩ := n_;clear hb hbox hg;have hnb80 := NB325_315.out;have hnc80 := NB315_325.out;have hnb81 := NB325_316.out;have hnc81 := NB316_325.out;have hnb82 := NB325_317.out;have hnc82 := NB317_325.out;have hnb83 := NB325_326.out;have hnc83 := NB326_325.out;obtain ⟨hcz84_0,hcz84_1,hcz84_2,hfz84_0,hfz84_1,hfz84_2⟩ := impl_AddFrac.cells3 BK325.out;have hnb85 := NB326_315.out;have hnc85 := NB315_326.out;have hnb86 := NB326_316.out;have hnc86 := NB316_326.out;have hnb87 := NB326_317.out;have hnc87 := NB317_326.out;obtain ⟨hcz88_0,hcz88_1,hcz88_2,hfz88_0,hfz88_1,hfz88_2⟩ := impl_AddFrac.cells3 BK326.out;obtain ⟨hcz89_0,hcz89_1,hcz89_2,hcz89_3,hfz89_0,hfz89_1,hfz89_2,hfz89_3⟩ := impl_AddFrac.cells4 BK317.out))
    refine bodyPost_ret (results_ct rfl _ _ gb317 30 #[.bool false,.int .u64 0,.int .u64 0,.int .i64 0] (0,0) _ rfl (by (with_reducible repeat (first | refine bA ?_ _ | refine bB ?_ | refine bC ?_ _));refine blk_put (cs := #[.bool false,.int .u64 0,.int .u64 0,.int .i64 0]) ?_ 3 _ rfl;(with_reducible repeat (first | refine bA ?_ _ | refine bB ?_ | refine bC ?_ _));refine blk_put (cs := #[.bool false,.int .u64 0,.int .u64 0,.int .i64 0]) ?_ 2 _ rfl;(with_reducible repeat (first | refine bA ?_ _ | refine bB ?_ | refine bC ?_ _));refine blk_put (cs := #[.bool false,.int .u64 0,.int .u64 0,.int .i64 0]) ?_ 1 _ rfl;(with_reducible repeat (first | refine bA ?_ _ | refine bB ?_ | refine bC ?_ _));refine blk_put (cs := #[.bool false,.int .u64 0,.int .u64 0,.int .i64 0]) ?_ 0 _ rfl;(with_reducible repeat (first | refine bA ?_ _ | refine bB ?_ | refine bC ?_ _));refine blk_far ?_ NB317_326.out _;(with_reducible repeat (first | refine bA ?_ _ | refine bB ?_ | refine bC ?_ _));refine blk_far ?_ NB317_326.out _;(with_reducible repeat (first | refine bA ?_ _ | refine bB ?_ | refine bC ?_ _));refine blk_far ?_ NB317_326.out _;(with_reducible repeat (first | refine bA ?_ _ | refine bB ?_ | refine bC ?_ _));refine blk_far ?_ NB317_325.out _;(with_reducible repeat (first | refine bA ?_ _ | refine bB ?_ | refine bC ?_ _));refine blk_far ?_ NB317_325.out _;(with_reducible repeat (first | refine bA ?_ _ | refine bB ?_ | refine bC ?_ _));refine blk_far ?_ NB317_325.out _;(with_reducible repeat (first | refine bA ?_ _ | refine bB ?_ | refine bC ?_ _));exact BK317.out) Try.underlying30 rfl Z363) rfl ?_
    exact ⟨Z354,Z375⟩

/-! ### impl_GainOf: function 11 -/
theorem impl_GainOf.cells4 {w : World} {g : Nat} {t : TypeId} {a0 a1 a2 a3 : Value} (h : w.heap[g]? = some (.cells #[a0,a1,a2,a3] t (0,0))) : w.cell? ⟨g,0,none⟩ = some a0 ∧ w.cell? ⟨g,1,none⟩ = some a1 ∧ w.cell? ⟨g,2,none⟩ = some a2 ∧ w.cell? ⟨g,3,none⟩ = some a3 ∧ w.frozen? ⟨g,0,none⟩ = false ∧ w.frozen? ⟨g,1,none⟩ = false ∧ w.frozen? ⟨g,2,none⟩ = false ∧ w.frozen? ⟨g,3,none⟩ = false := ⟨(blk_cell h 0).trans rfl,(blk_cell h 1).trans rfl,(blk_cell h 2).trans rfl,(blk_cell h 3).trans rfl,blk_frozen h 0,blk_frozen h 1,blk_frozen h 2,blk_frozen h 3⟩
theorem impl_GainOf.cells6 {w : World} {g : Nat} {t : TypeId} {a0 a1 a2 a3 a4 a5 : Value} (h : w.heap[g]? = some (.cells #[a0,a1,a2,a3,a4,a5] t (0,0))) : w.cell? ⟨g,0,none⟩ = some a0 ∧ w.cell? ⟨g,1,none⟩ = some a1 ∧ w.cell? ⟨g,2,none⟩ = some a2 ∧ w.cell? ⟨g,3,none⟩ = some a3 ∧ w.cell? ⟨g,4,none⟩ = some a4 ∧ w.cell? ⟨g,5,none⟩ = some a5 ∧ w.frozen? ⟨g,0,none⟩ = false ∧ w.frozen? ⟨g,1,none⟩ = false ∧ w.frozen? ⟨g,2,none⟩ = false ∧ w.frozen? ⟨g,3,none⟩ = false ∧ w.frozen? ⟨g,4,none⟩ = false ∧ w.frozen? ⟨g,5,none⟩ = false := ⟨(blk_cell h 0).trans rfl,(blk_cell h 1).trans rfl,(blk_cell h 2).trans rfl,(blk_cell h 3).trans rfl,(blk_cell h 4).trans rfl,(blk_cell h 5).trans rfl,blk_frozen h 0,blk_frozen h 1,blk_frozen h 2,blk_frozen h 3,blk_frozen h 4,blk_frozen h 5⟩
def impl_GainOf.f (k : Nat) (a0_0 : Int) (a0_1 : Int) (a0_2 : Int) (a0_3 : Int) (a0_4 : Int) (a0_5 : Int) (a1 : Int) : Option (Bool × Int × Int × Int × Bool) := (impl_PlainGain.f a0_2 a0_3 a1).bind fun bt339 => ((impl_PlainGain.f a0_4 a0_5 a1).bind fun bt345 => (if bt339.2.2.2.2 = true then (if bt345.2.2.2.2 = true then ((impl_AddFrac.f k bt339.1 bt339.2.1 bt339.2.2.1 bt339.2.2.2.1 bt345.1 bt345.2.1 bt345.2.2.1 bt345.2.2.2.1).bind fun bt351 => (some (bt351.1,bt351.2.1,bt351.2.2.1,bt351.2.2.2.1,bt351.2.2.2.2))) else (some (false,0,0,0,false))) else (some (false,0,0,0,false))))
theorem impl_GainOf.mono : ∀ a0 a1 a2 a3 a4 a5 a6 k,LeO (impl_GainOf.f k a0 a1 a2 a3 a4 a5 a6) (impl_GainOf.f (k + 1) a0 a1 a2 a3 a4 a5 a6) := by
  intro a0 a1 a2 a3 a4 a5 a6 k
  unfold impl_GainOf.f
  repeat' first
      | (with_reducible exact impl_AddFrac.mono _ _ _ _ _ _ _ _ _)
      | (with_reducible exact LeO.refl _)
      | (with_reducible exact LeO.none _)
      | (with_reducible refine LeO.ite ?_ ?_)
      | (with_reducible refine LeO.bind ?_ (fun _ => ?_))
      | exact impl_AddFrac.mono _ _ _ _ _ _ _ _ _
      | exact LeO.none _
      | refine LeO.ite ?_ ?_
      | refine LeO.bind ?_ (fun _ => ?_)
set_option maxHeartbeats 8000000 in
set_option maxRecDepth 100000 in
theorem impl_GainOf.calls (k : Nat) (a0_0 : Int) (a0_1 : Int) (a0_2 : Int) (a0_3 : Int) (a0_4 : Int) (a0_5 : Int) (a1 : Int) (r1 : Bool) (r2 : Int) (r3 : Int) (r4 : Int) (r5 : Bool) (w : World) (h : impl_GainOf.f k a0_0 a0_1 a0_2 a0_3 a0_4 a0_5 a1 = some (r1,r2,r3,r4,r5)) :
    Calls Try.prog 11 #[.agg #[.int .i64 a0_0,.int .i64 a0_1,.int .i64 a0_2,.int .i64 a0_3,.int .i64 a0_4,.int .i64 a0_5],.int .i64 a1] w fun e w' => e = .returned (.tuple #[.agg #[.bool r1,.int .u64 r2,.int .u64 r3,.int .i64 r4],.bool r5]) ∧ Below w.heap.size w w' := by
  have hu35 := Try.underlying35
  have hu30 := Try.underlying30
  have hu33 := Try.underlying33
  have HB := Aside0.mk (Below.refl w.heap.size w)
  have H : ((impl_PlainGain.f a0_2 a0_3 a1).bind fun bt339 => ((impl_PlainGain.f a0_4 a0_5 a1).bind fun bt345 => (if bt339.2.2.2.2 = true then (if bt345.2.2.2.2 = true then ((impl_AddFrac.f k bt339.1 bt339.2.1 bt339.2.2.1 bt339.2.2.2.1 bt345.1 bt345.2.1 bt345.2.2.1 bt345.2.2.2.1).bind fun bt351 => (some (bt351.1,bt351.2.1,bt351.2.2.1,bt351.2.2.2.1,bt351.2.2.2.2))) else (some (false,0,0,0,false))) else (some (false,0,0,0,false))))) = some (r1,r2,r3,r4,r5) := h
  clear h
  obtain ⟨⟨t339,t340,t341,t342,t343⟩,A30,H⟩ := Option.bind_eq_some_iff.mp H
  try dsimp only at H
  have A3 := Aside0.mk A30
  clear A30
  obtain ⟨⟨t345,t346,t347,t348,t349⟩,A40,H⟩ := Option.bind_eq_some_iff.mp H
  try dsimp only at H
  have A4 := Aside0.mk A40
  clear A40
  by_cases c5 : t343 = true
  · subst c5
    have H1 : (if t349 = true then ((impl_AddFrac.f k t339 t340 t341 t342 t345 t346 t347 t348).bind fun bt351 => (some (bt351.1,bt351.2.1,bt351.2.2.1,bt351.2.2.2.1,bt351.2.2.2.2))) else (some (false,0,0,0,false))) = some (r1,r2,r3,r4,r5) := by rw [if_pos rfl] at H;exact H
    clear H
    have H := H1
    clear H1
    by_cases c6 : t349 = true
    · subst c6
      have H1 : ((impl_AddFrac.f k t339 t340 t341 t342 t345 t346 t347 t348).bind fun bt351 => (some (bt351.1,bt351.2.1,bt351.2.2.1,bt351.2.2.2.1,bt351.2.2.2.2))) = some (r1,r2,r3,r4,r5) := by rw [if_pos rfl] at H;exact H
      clear H
      have H := H1
      clear H1
      obtain ⟨⟨t351,t352,t353,t354,t355⟩,A70,H⟩ := Option.bind_eq_some_iff.mp H
      try dsimp only at H
      have A7 := Aside0.mk A70
      clear A70
      simp only [Option.some.injEq,Prod.mk.injEq] at H
      obtain ⟨rfl,rfl,rfl,rfl,rfl⟩ := H
      go_enter Try.func11,Try.ntmps11
      go_wp2_with (first | ((with_reducible refine gate_dst (N := 2) rfl ?_);refine box_event ?hg (N := 2) ?hd (cs := #[.int .i64 a0_0,.int .i64 a0_1,.int .i64 a0_2,.int .i64 a0_3,.int .i64 a0_4,.int .i64 a0_5]) (t := 35) ?hr ?_;(case hd => rfl);(case hg => rfl);(case hr => exact Z359);intro gb337 hg w8 hbox hb;have n_ := jA (below_step Z430 hb) (jA (hbox) (jA ((Z321 : w.heap.size ≤ gb337)) (Aside0.mk ((Z321 : w.heap.size ≤ gb337)))));clear HB;obtain ⟨HB,BK337,GW337,GE337⟩ := n_;clear hb hbox hg) | ((with_reducible refine gate_dst (N := 4) rfl ?_);refine box_event ?hg (N := 4) ?hd (cs := #[.bool false,.int .u64 0,.int .u64 0,.int .i64 0]) (t := 30) ?hr ?_;(case hd => rfl);(case hg => rfl);(case hr => exact Z359);intro gb338 hg w9 hbox hb;have n_ := jA (blk_below (g := gb337) (o := .cells #[.int .i64 a0_0,.int .i64 a0_1,.int .i64 a0_2,.int .i64 a0_3,.int .i64 a0_4,.int .i64 a0_5] 35 (0,0)) Z452 hb) (jA (below_step Z413 hb) (jA (hbox) (jA ((Z299 : w.heap.size ≤ gb338)) (jA ((Z299 : w.heap.size ≤ gb338)) (jA ((Z145 : gb337 ≠ gb338)) (Aside0.mk ((Z147 : gb338 ≠ gb337))))))));clear BK337 HB;obtain ⟨BK337,HB,BK338,GW338,GE338,NB337_338,NB338_337⟩ := n_;clear hb hbox hg;have hnb10 := NB337_338.out;have hnc10 := NB338_337.out;obtain ⟨hcz11_0,hcz11_1,hcz11_2,hcz11_3,hcz11_4,hcz11_5,hfz11_0,hfz11_1,hfz11_2,hfz11_3,hfz11_4,hfz11_5⟩ := impl_GainOf.cells6 BK337.out) | ((with_reducible refine gate_callee (f := 21) rfl ?_);refine goesL_ (some 14) rfl rfl Try.func21 Z363 rfl #[.agg #[.int .i64 a0_2,.int .i64 a0_3],.int .i64 a1] rfl Z330 ?_;(with_reducible refine (impl_PlainGain.calls a0_2 a0_3 a1 t339 t340 t341 t342 true _ A3.out).mono ?_);rintro e w12 ⟨rfl,hb⟩;refine ⟨_,rfl,?_⟩;have n_ := jA (blk_below (g := gb337) (o := .cells #[.int .i64 a0_0,.int .i64 a0_1,.int .i64 a0_2,.int .i64 a0_3,.int .i64 a0_4,.int .i64 a0_5] 35 (0,0)) Z452 hb) (jA (blk_below (g := gb338) (o := .cells #[.bool false,.int .u64 0,.int .u64 0,.int .i64 0] 30 (0,0)) Z459 hb) (Aside0.mk (below_step Z396 hb)));clear BK337 BK338 HB;obtain ⟨BK337,BK338,HB⟩ := n_;(try clear hb);(try clear hb2);(try clear hk);(try clear hi)) | ((with_reducible refine gate_dst (N := 6) rfl ?_);refine box_event ?hg (N := 6) ?hd (cs := #[.bool false,.int .u64 0,.int .u64 0,.int .i64 0]) (t := 30) ?hr ?_;(case hd => rfl);(case hg => rfl);(case hr => exact Z359);intro gb344 hg w13 hbox hb;have n_ := jA (blk_below (g := gb337) (o := .cells #[.int .i64 a0_0,.int .i64 a0_1,.int .i64 a0_2,.int .i64 a0_3,.int .i64 a0_4,.int .i64 a0_5] 35 (0,0)) Z452 hb) (jA (blk_below (g := gb338) (o := .cells #[.bool false,.int .u64 0,.int .u64 0,.int .i64 0] 30 (0,0)) Z459 hb) (jA (below_step Z396 hb) (jA (hbox) (jA ((Z207 : w.heap.size ≤ gb344)) (jA ((Z207 : w.heap.size ≤ gb344)) (jA ((Z145 : gb337 ≠ gb344)) (jA ((Z147 : gb344 ≠ gb337)) (jA ((Z221 : gb338 ≠ gb344)) (Aside0.mk ((Z223 : gb344 ≠ gb338)))))))))));clear BK337 BK338 HB;obtain ⟨BK337,BK338,HB,BK344,GW344,GE344,NB337_344,NB344_337,NB338_344,NB344_338⟩ := n_;clear hb hbox hg;have hnb14 := NB344_337.out;have hnc14 := NB337_344.out;have hnb15 := NB344_338.out;have hnc15 := NB338_344.out;obtain ⟨hcz16_0,hcz16_1,hcz16_2,hcz16_3,hfz16_0,hfz16_1,hfz16_2,hfz16_3⟩ := impl_GainOf.cells4 BK344.out;obtain ⟨hcz17_0,hcz17_1,hcz17_2,hcz17_3,hcz17_4,hcz17_5,hfz17_0,hfz17_1,hfz17_2,hfz17_3,hfz17_4,hfz17_5⟩ := impl_GainOf.cells6 BK337.out) | ((with_reducible refine gate_callee (f := 21) rfl ?_);refine goesL_ (some 21) rfl rfl Try.func21 Z363 rfl #[.agg #[.int .i64 a0_4,.int .i64 a0_5],.int .i64 a1] rfl Z330 ?_;(with_reducible refine (impl_PlainGain.calls a0_4 a0_5 a1 t345 t346 t347 t348 true _ A4.out).mono ?_);rintro e w18 ⟨rfl,hb⟩;refine ⟨_,rfl,?_⟩;have n_ := jA (blk_below (g := gb337) (o := .cells #[.int .i64 a0_0,.int .i64 a0_1,.int .i64 a0_2,.int .i64 a0_3,.int .i64 a0_4,.int .i64 a0_5] 35 (0,0)) Z67 hb) (jA (blk_below (g := gb338) (o := .cells #[.bool false,.int .u64 0,.int .u64 0,.int .i64 0] 30 (0,0)) Z66 hb) (jA (blk_below (g := gb344) (o := .cells #[.bool t339,.int .u64 t340,.int .u64 t341,.int .i64 t342] 30 (0,0)) Z32 hb) (Aside0.mk (below_step Z388 hb))));clear BK337 BK338 BK344 HB;obtain ⟨BK337,BK338,BK344,HB⟩ := n_;(try clear hb);(try clear hb2);(try clear hk);(try clear hi)) | ((with_reducible refine gate_dst (N := 8) rfl ?_);refine box_event ?hg (N := 8) ?hd (cs := #[.bool false,.int .u64 0,.int .u64 0,.int .i64 0]) (t := 30) ?hr ?_;(case hd => rfl);(case hg => rfl);(case hr => exact Z359);intro gb350 hg w19 hbox hb;have n_ := jA (blk_below (g := gb337) (o := .cells #[.int .i64 a0_0,.int .i64 a0_1,.int .i64 a0_2,.int .i64 a0_3,.int .i64 a0_4,.int .i64 a0_5] 35 (0,0)) Z452 hb) (jA (blk_below (g := gb338) (o := .cells #[.bool false,.int .u64 0,.int .u64 0,.int .i64 0] 30 (0,0)) Z459 hb) (jA (blk_below (g := gb344) (o := .cells #[.bool t339,.int .u64 t340,.int .u64 t341,.int .i64 t342] 30 (0,0)) Z472 hb) (jA (below_step Z388 hb) (jA (hbox) (jA ((Z156 : w.heap.size ≤ gb350)) (jA ((Z156 : w.heap.size ≤ gb350)) (jA ((Z145 : gb337 ≠ gb350)) (jA ((Z147 : gb350 ≠ gb337)) (jA ((Z221 : gb338 ≠ gb350)) (jA ((Z223 : gb350 ≠ gb338)) (jA ((Z196 : gb344 ≠ gb350)) (Aside0.mk ((Z198 : gb350 ≠ gb344))))))))))))));clear BK337 BK338 BK344 HB;obtain ⟨BK337,BK338,BK344,HB,BK350,GW350,GE350,NB337_350,NB350_337,NB338_350,NB350_338,NB344_350,NB350_344⟩ := n_;clear hb hbox hg;have hnb20 := NB350_337.out;have hnc20 := NB337_350.out;have hnb21 := NB350_338.out;have hnc21 := NB338_350.out;have hnb22 := NB350_344.out;have hnc22 := NB344_350.out;obtain ⟨hcz23_0,hcz23_1,hcz23_2,hcz23_3,hfz23_0,hfz23_1,hfz23_2,hfz23_3⟩ := impl_GainOf.cells4 BK350.out;obtain ⟨hcz24_0,hcz24_1,hcz24_2,hcz24_3,hfz24_0,hfz24_1,hfz24_2,hfz24_3⟩ := impl_GainOf.cells4 BK344.out) | ((with_reducible refine gate_callee (f := 26) rfl ?_);refine goesL_ (some 33) rfl rfl Try.func26 Z363 rfl #[.agg #[.bool t339,.int .u64 t340,.int .u64 t341,.int .i64 t342],.agg #[.bool t345,.int .u64 t346,.int .u64 t347,.int .i64 t348]] rfl Z330 ?_;(with_reducible refine (impl_AddFrac.calls k t339 t340 t341 t342 t345 t346 t347 t348 t351 t352 t353 t354 t355 _ A7.out).mono ?_);rintro e w25 ⟨rfl,hb⟩;refine ⟨_,rfl,?_⟩;have n_ := jA (blk_below (g := gb337) (o := .cells #[.int .i64 a0_0,.int .i64 a0_1,.int .i64 a0_2,.int .i64 a0_3,.int .i64 a0_4,.int .i64 a0_5] 35 (0,0)) (by (with_reducible repeat (first | refine bA ?_ _ | refine bB ?_ | refine bC ?_ _));refine blk_far ?_ NB337_350.out _;(with_reducible repeat (first | refine bA ?_ _ | refine bB ?_ | refine bC ?_ _));refine blk_far ?_ NB337_350.out _;(with_reducible repeat (first | refine bA ?_ _ | refine bB ?_ | refine bC ?_ _));refine blk_far ?_ NB337_350.out _;(with_reducible repeat (first | refine bA ?_ _ | refine bB ?_ | refine bC ?_ _));refine blk_far ?_ NB337_350.out _;(with_reducible repeat (first | refine bA ?_ _ | refine bB ?_ | refine bC ?_ _));exact BK337.out) hb) (jA (blk_below (g := gb338) (o := .cells #[.bool false,.int .u64 0,.int .u64 0,.int .i64 0] 30 (0,0)) (by (with_reducible repeat (first | refine bA ?_ _ | refine bB ?_ | refine bC ?_ _));refine blk_far ?_ NB338_350.out _;(with_reducible repeat (first | refine bA ?_ _ | refine bB ?_ | refine bC ?_ _));refine blk_far ?_ NB338_350.out _;(with_reducible repeat (first | refine bA ?_ _ | refine bB ?_ | refine bC ?_ _));refine blk_far ?_ NB338_350.out _;(with_reducible repeat (first | refine bA ?_ _ | refine bB ?_ | refine bC ?_ _));refine blk_far ?_ NB338_350.out _;(with_reducible repeat (first | refine bA ?_ _ | refine bB ?_ | refine bC ?_ _));exact BK338.out) hb) (jA (blk_below (g := gb344) (o := .cells #[.bool t339,.int .u64 t340,.int .u64 t341,.int .i64 t342] 30 (0,0)) (by (with_reducible repeat (first | refine bA ?_ _ | refine bB ?_ | refine bC ?_ _));refine blk_far ?_ NB344_350.out _;(with_reducible repeat (first | refine bA ?_ _ | refine bB ?_ | refine bC ?_ _));refine blk_far ?_ NB344_350.out _;(with_reducible repeat (first | refine bA ?_ _ | refine bB ?_ | refine bC ?_ _));refine blk_far ?_ NB344_350.out _;(with_reducible repeat (first | refine bA ?_ _ | refine bB ?_ | refine bC ?_ _));refine blk_far ?_ NB344_350.out _;(with_reducible repeat (first | refine bA ?_ _ | refine bB ?_ | refine bC ?_ _));exact BK344.out) hb) (jA (blk_below (g := gb350) (o := .cells #[.bool t345,.int .u64 t346,.int .u64 t347,.int .i64 t348] 30 (0,0)) (by (with_reducible repeat (first | refine bA ?_ _ | refine bB ?_ | refine bC ?_ _));refine blk_put (cs := #[.bool t345,.int .u64 t346,.int .u64 t347,.int .i64 0]) ?_ 3 _ rfl;(with_reducible repeat (first | refine bA ?_ _ | refine bB ?_ | refine bC ?_ _));refine blk_put (cs := #[.bool t345,.int .u64 t346,.int .u64 0,.int .i64 0]) ?_ 2 _ rfl;(with_reducible repeat (first | refine bA ?_ _ | refine bB ?_ | refine bC ?_ _));refine blk_put (cs := #[.bool t345,.int .u64 0,.int .u64 0,.int .i64 0]) ?_ 1 _ rfl;(with_reducible repeat (first | refine bA ?_ _ | refine bB ?_ | refine bC ?_ _));refine blk_put (cs := #[.bool false,.int .u64 0,.int .u64 0,.int .i64 0]) ?_ 0 _ rfl;(with_reducible repeat (first | refine bA ?_ _ | refine bB ?_ | refine bC ?_ _));exact BK350.out) hb) (Aside0.mk (below_step Z160 hb)))));clear BK337 BK338 BK344 BK350 HB;obtain ⟨BK337,BK338,BK344,BK350,HB⟩ := n_;(try clear hb);(try clear hb2);(try clear hk);(try clear hi);obtain ⟨hcz26_0,hcz26_1,hcz26_2,hcz26_3,hfz26_0,hfz26_1,hfz26_2,hfz26_3⟩ := impl_GainOf.cells4 BK338.out))
      refine bodyPost_ret (results_ct rfl _ _ gb338 30 #[.bool t351,.int .u64 t352,.int .u64 t353,.int .i64 t354] (0,0) _ rfl (by (with_reducible repeat (first | refine bA ?_ _ | refine bB ?_ | refine bC ?_ _));refine blk_put (cs := #[.bool t351,.int .u64 t352,.int .u64 t353,.int .i64 0]) ?_ 3 _ rfl;(with_reducible repeat (first | refine bA ?_ _ | refine bB ?_ | refine bC ?_ _));refine blk_put (cs := #[.bool t351,.int .u64 t352,.int .u64 0,.int .i64 0]) ?_ 2 _ rfl;(with_reducible repeat (first | refine bA ?_ _ | refine bB ?_ | refine bC ?_ _));refine blk_put (cs := #[.bool t351,.int .u64 0,.int .u64 0,.int .i64 0]) ?_ 1 _ rfl;(with_reducible repeat (first | refine bA ?_ _ | refine bB ?_ | refine bC ?_ _));refine blk_put (cs := #[.bool false,.int .u64 0,.int .u64 0,.int .i64 0]) ?_ 0 _ rfl;(with_reducible repeat (first | refine bA ?_ _ | refine bB ?_ | refine bC ?_ _));exact BK338.out) Try.underlying30 rfl Z363) rfl ?_
      exact ⟨Z354,Z160⟩
    · replace c6 := Bool.eq_false_iff.mpr c6
      subst c6
      have H1 : (some (false,0,0,0,false)) = some (r1,r2,r3,r4,r5) := by rw [if_neg (show ¬ (false = true) by decide)] at H;exact H
      clear H
      have H := H1
      clear H1
      simp only [Option.some.injEq,Prod.mk.injEq] at H
      obtain ⟨rfl,rfl,rfl,rfl,rfl⟩ := H
      go_enter Try.func11,Try.ntmps11
      go_wp2_with (first | ((with_reducible refine gate_dst (N := 2) rfl ?_);refine box_event ?hg (N := 2) ?hd (cs := #[.int .i64 a0_0,.int .i64 a0_1,.int .i64 a0_2,.int .i64 a0_3,.int .i64 a0_4,.int .i64 a0_5]) (t := 35) ?hr ?_;(case hd => rfl);(case hg => rfl);(case hr => exact Z359);intro gb337 hg w27 hbox hb;have n_ := jA (below_step Z430 hb) (jA (hbox) (jA ((Z321 : w.heap.size ≤ gb337)) (Aside0.mk ((Z321 : w.heap.size ≤ gb337)))));clear HB;obtain ⟨HB,BK337,GW337,GE337⟩ := n_;clear hb hbox hg) | ((with_reducible refine gate_dst (N := 4) rfl ?_);refine box_event ?hg (N := 4) ?hd (cs := #[.bool false,.int .u64 0,.int .u64 0,.int .i64 0]) (t := 30) ?hr ?_;(case hd => rfl);(case hg => rfl);(case hr => exact Z359);intro gb338 hg w28 hbox hb;have n_ := jA (blk_below (g := gb337) (o := .cells #[.int .i64 a0_0,.int .i64 a0_1,.int .i64 a0_2,.int .i64 a0_3,.int .i64 a0_4,.int .i64 a0_5] 35 (0,0)) Z452 hb) (jA (below_step Z413 hb) (jA (hbox) (jA ((Z299 : w.heap.size ≤ gb338)) (jA ((Z299 : w.heap.size ≤ gb338)) (jA ((Z145 : gb337 ≠ gb338)) (Aside0.mk ((Z147 : gb338 ≠ gb337))))))));clear BK337 HB;obtain ⟨BK337,HB,BK338,GW338,GE338,NB337_338,NB338_337⟩ := n_;clear hb hbox hg;have hnb29 := NB337_338.out;have hnc29 := NB338_337.out;obtain ⟨hcz30_0,hcz30_1,hcz30_2,hcz30_3,hcz30_4,hcz30_5,hfz30_0,hfz30_1,hfz30_2,hfz30_3,hfz30_4,hfz30_5⟩ := impl_GainOf.cells6 BK337.out) | ((with_reducible refine gate_callee (f := 21) rfl ?_);refine goesL_ (some 14) rfl rfl Try.func21 Z363 rfl #[.agg #[.int .i64 a0_2,.int .i64 a0_3],.int .i64 a1] rfl Z330 ?_;(with_reducible refine (impl_PlainGain.calls a0_2 a0_3 a1 t339 t340 t341 t342 true _ A3.out).mono ?_);rintro e w31 ⟨rfl,hb⟩;refine ⟨_,rfl,?_⟩;have n_ := jA (blk_below (g := gb337) (o := .cells #[.int .i64 a0_0,.int .i64 a0_1,.int .i64 a0_2,.int .i64 a0_3,.int .i64 a0_4,.int .i64 a0_5] 35 (0,0)) Z452 hb) (jA (blk_below (g := gb338) (o := .cells #[.bool false,.int .u64 0,.int .u64 0,.int .i64 0] 30 (0,0)) Z459 hb) (Aside0.mk (below_step Z396 hb)));clear BK337 BK338 HB;obtain ⟨BK337,BK338,HB⟩ := n_;(try clear hb);(try clear hb2);(try clear hk);(try clear hi)) | ((with_reducible refine gate_dst (N := 6) rfl ?_);refine box_event ?hg (N := 6) ?hd (cs := #[.bool false,.int .u64 0,.int .u64 0,.int .i64 0]) (t := 30) ?hr ?_;(case hd => rfl);(case hg => rfl);(case hr => exact Z359);intro gb344 hg w32 hbox hb;have n_ := jA (blk_below (g := gb337) (o := .cells #[.int .i64 a0_0,.int .i64 a0_1,.int .i64 a0_2,.int .i64 a0_3,.int .i64 a0_4,.int .i64 a0_5] 35 (0,0)) Z452 hb) (jA (blk_below (g := gb338) (o := .cells #[.bool false,.int .u64 0,.int .u64 0,.int .i64 0] 30 (0,0)) Z459 hb) (jA (below_step Z396 hb) (jA (hbox) (jA ((Z207 : w.heap.size ≤ gb344)) (jA ((Z207 : w.heap.size ≤ gb344)) (jA ((Z145 : gb337 ≠ gb344)) (jA ((Z147 : gb344 ≠ gb337)) (jA ((Z221 : gb338 ≠ gb344)) (Aside0.mk ((Z223 : gb344 ≠ gb338)))))))))));clear BK337 BK338 HB;obtain ⟨BK337,BK338,HB,BK344,GW344,GE344,NB337_344,NB344_337,NB338_344,NB344_338⟩ := n_;clear hb hbox hg;have hnb33 := NB344_337.out;have hnc33 := NB337_344.out;have hnb34 := NB344_338.out;have hnc34 := NB338_344.out;obtain ⟨hcz35_0,hcz35_1,hcz35_2,hcz35_3,hfz35_0,hfz35_1,hfz35_2,hfz35_3⟩ := impl_GainOf.cells4 BK344.out;obtain ⟨hcz36_0,hcz36_1,hcz36_2,hcz36_3,hcz36_4,hcz36_5,hfz36_0,hfz36_1,hfz36_2,hfz36_3,hfz36_4,hfz36_5⟩ := impl_GainOf.cells6 BK337.out) | ((with_reducible refine gate_callee (f := 21) rfl ?_);refine goesL_ (some 21) rfl rfl Try.func21 Z363 rfl #[.agg #[.int .i64 a0_4,.int .i64 a0_5],.int .i64 a1] rfl Z330 ?_;(with_reducible refine (impl_PlainGain.calls a0_4 a0_5 a1 t345 t346 t347 t348 false _ A4.out).mono ?_);rintro e w37 ⟨rfl,hb⟩;refine ⟨_,rfl,?_⟩;have n_ := jA (blk_below (g := gb337) (o := .cells #[.int .i64 a0_0,.int .i64 a0_1,.int .i64 a0_2,.int .i64 a0_3,.int .i64 a0_4,.int .i64 a0_5] 35 (0,0)) Z67 hb) (jA (blk_below (g := gb338) (o := .cells #[.bool false,.int .u64 0,.int .u64 0,.int .i64 0] 30 (0,0)) Z66 hb) (jA (blk_below (g := gb344) (o := .cells #[.bool t339,.int .u64 t340,.int .u64 t341,.int .i64 t342] 30 (0,0)) Z32 hb) (Aside0.mk (below_step Z388 hb))));clear BK337 BK338 BK344 HB;obtain ⟨BK337,BK338,BK344,HB⟩ := n_;(try clear hb);(try clear hb2);(try clear hk);(try clear hi)) | ((with_reducible refine gate_dst (N := 8) rfl ?_);refine box_event ?hg (N := 8) ?hd (cs := #[.bool false,.int .u64 0,.int .u64 0,.int .i64 0]) (t := 30) ?hr ?_;(case hd => rfl);(case hg => rfl);(case hr => exact Z359);intro gb350 hg w38 hbox hb;have n_ := jA (blk_below (g := gb337) (o := .cells #[.int .i64 a0_0,.int .i64 a0_1,.int .i64 a0_2,.int .i64 a0_3,.int .i64 a0_4,.int .i64 a0_5] 35 (0,0)) Z452 hb) (jA (blk_below (g := gb338) (o := .cells #[.bool false,.int .u64 0,.int .u64 0,.int .i64 0] 30 (0,0)) Z459 hb) (jA (blk_below (g := gb344) (o := .cells #[.bool t339,.int .u64 t340,.int .u64 t341,.int .i64 t342] 30 (0,0)) Z472 hb) (jA (below_step Z388 hb) (jA (hbox) (jA ((Z156 : w.heap.size ≤ gb350)) (jA ((Z156 : w.heap.size ≤ gb350)) (jA ((Z145 : gb337 ≠ gb350)) (jA ((Z147 : gb350 ≠ gb337)) (jA ((Z221 : gb338 ≠ gb350)) (jA ((Z223 : gb350 ≠ gb338)) (jA ((Z196 : gb344 ≠ gb350)) (Aside0.mk ((Z198 : gb350 ≠ gb344))))))))))))));clear BK337 BK338 BK344 HB;obtain ⟨BK337,BK338,BK344,HB,BK350,GW350,GE350,NB337_350,NB350_337,NB338_350,NB350_338,NB344_350,NB350_344⟩ := n_;clear hb hbox hg;have hnb39 := NB350_337.out;have hnc39 := NB337_350.out;have hnb40 := NB350_338.out;have hnc40 := NB338_350.out;have hnb41 := NB350_344.out;have hnc41 := NB344_350.out;obtain ⟨hcz42_0,hcz42_1,hcz42_2,hcz42_3,hfz42_0,hfz42_1,hfz42_2,hfz42_3⟩ := impl_GainOf.cells4 BK350.out;obtain ⟨hcz43_0,hcz43_1,hcz43_2,hcz43_3,hfz43_0,hfz43_1,hfz43_2,hfz43_3⟩ := impl_GainOf.cells4 BK338.out))
      refine bodyPost_ret (results_ct rfl _ _ gb338 30 #[.bool false,.int .u64 0,.int .u64 0,.int .i64 0] (0,0) _ rfl Z3 Try.underlying30 rfl Z363) rfl ?_
      exact ⟨Z354,Z160⟩
  · replace c5 := Bool.eq_false_iff.mpr c5
    subst c5
    have H1 : (some (false,0,0,0,false)) = some (r1,r2,r3,r4,r5) := by rw [if_neg (show ¬ (false = true) by decide)] at H;exact H
    clear H
    have H := H1
    clear H1
    simp only [Option.some.injEq,Prod.mk.injEq] at H
    obtain ⟨rfl,rfl,rfl,rfl,rfl⟩ := H
    go_enter Try.func11,Try.ntmps11
    go_wp2_with (first | ((with_reducible refine gate_dst (N := 2) rfl ?_);refine box_event ?hg (N := 2) ?hd (cs := #[.int .i64 a0_0,.int .i64 a0_1,.int .i64 a0_2,.int .i64 a0_3,.int .i64 a0_4,.int .i64 a0_5]) (t := 35) ?hr ?_;(case hd => rfl);(case hg => rfl);(case hr => exact Z359);intro gb337 hg w44 hbox hb;have n_ := jA (below_step Z430 hb) (jA (hbox) (jA ((Z321 : w.heap.size ≤ gb337)) (Aside0.mk ((Z321 : w.heap.size ≤ gb337)))));clear HB;obtain ⟨HB,BK337,GW337,GE337⟩ := n_;clear hb hbox hg) | ((with_reducible refine gate_dst (N := 4) rfl ?_);refine box_event ?hg (N := 4) ?hd (cs := #[.bool false,.int .u64 0,.int .u64 0,.int .i64 0]) (t := 30) ?hr ?_;(case hd => rfl);(case hg => rfl);(case hr => exact Z359);intro gb338 hg w45 hbox hb;have n_ := jA (blk_below (g := gb337) (o := .cells #[.int .i64 a0_0,.int .i64 a0_1,.int .i64 a0_2,.int .i64 a0_3,.int .i64 a0_4,.int .i64 a0_5] 35 (0,0)) Z452 hb) (jA (below_step Z413 hb) (jA (hbox) (jA ((Z299 : w.heap.size ≤ gb338)) (jA ((Z299 : w.heap.size ≤ gb338)) (jA ((Z145 : gb337 ≠ gb338)) (Aside0.mk ((Z147 : gb338 ≠ gb337))))))));clear BK337 HB;obtain ⟨BK337,HB,BK338,GW338,GE338,NB337_338,NB338_337⟩ := n_;clear hb hbox hg;have hnb46 := NB337_338.out;have hnc46 := NB338_337.out;obtain ⟨hcz47_0,hcz47_1,hcz47_2,hcz47_3,hcz47_4,hcz47_5,hfz47_0,hfz47_1,hfz47_2,hfz47_3,hfz47_4,hfz47_5⟩ := impl_GainOf.cells6 BK337.out) | ((with_reducible refine gate_callee (f := 21) rfl ?_);refine goesL_ (some 14) rfl rfl Try.func21 Z363 rfl #[.agg #[.int .i64 a0_2,.int .i64 a0_3],.int .i64 a1] rfl Z330 ?_;(with_reducible refine (impl_PlainGain.calls a0_2 a0_3 a1 t339 t340 t341 t342 false _ A3.out).mono ?_);rintro e w48 ⟨rfl,hb⟩;refine ⟨_,rfl,?_⟩;have n_ := jA (blk_below (g := gb337) (o := .cells #[.int .i64 a0_0,.int .i64 a0_1,.int .i64 a0_2,.int .i64 a0_3,.int .i64 a0_4,.int .i64 a0_5] 35 (0,0)) Z452 hb) (jA (blk_below (g := gb338) (o := .cells #[.bool false,.int .u64 0,.int .u64 0,.int .i64 0] 30 (0,0)) Z459 hb) (Aside0.mk (below_step Z396 hb)));clear BK337 BK338 HB;obtain ⟨BK337,BK338,HB⟩ := n_;(try clear hb);(try clear hb2);(try clear hk);(try clear hi)) | ((with_reducible refine gate_dst (N := 6) rfl ?_);refine box_event ?hg (N := 6) ?hd (cs := #[.bool false,.int .u64 0,.int .u64 0,.int .i64 0]) (t := 30) ?hr ?_;(case hd => rfl);(case hg => rfl);(case hr => exact Z359);intro gb344 hg w49 hbox hb;have n_ := jA (blk_below (g := gb337) (o := .cells #[.int .i64 a0_0,.int .i64 a0_1,.int .i64 a0_2,.int .i64 a0_3,.int .i64 a0_4,.int .i64 a0_5] 35 (0,0)) Z452 hb) (jA (blk_below (g := gb338) (o := .cells #[.bool false,.int .u64 0,.int .u64 0,.int .i64 0] 30 (0,0)) Z459 hb) (jA (below_step Z396 hb) (jA (hbox) (jA ((Z207 : w.heap.size ≤ gb344)) (jA ((Z207 : w.heap.size ≤ gb344)) (jA ((Z145 : gb337 ≠ gb344)) (jA ((Z147 : gb344 ≠ gb337)) (jA ((Z221 : gb338 ≠ gb344)) (Aside0.mk ((Z223 : gb344 ≠ gb338)))))))))));clear BK337 BK338 HB;obtain ⟨BK337,BK338,HB,BK344,GW344,GE344,NB337_344,NB344_337,NB338_344,NB344_338⟩ := n_;clear hb hbox hg;have hnb50 := NB344_337.out;have hnc50 := NB337_344.out;have hnb51 := NB344_338.out;have hnc51 := NB338_344.out;obtain ⟨hcz52_0,hcz52_1,hcz52_2,hcz52_3,hfz52_0,hfz52_1,hfz52_2,hfz52_3⟩ := impl_GainOf.cells4 BK344.out;obtain ⟨hcz53_0,hcz53_1,hcz53_2,hcz53_3,hcz53_4,hcz53_5,hfz53_0,hfz53_1,hfz53_2,hfz53_3,hfz53_4,hfz53_5⟩ := impl_GainOf.cells6 BK337.out) | ((with_reducible refine gate_callee (f := 21) rfl ?_);refine goesL_ (some 21) rfl rfl Try.func21 Z363 rfl #[.agg #[.int .i64 a0_4,.int .i64 a0_5],.int .i64 a1] rfl Z330 ?_;(with_reducible refine (impl_PlainGain.calls a0_4 a0_5 a1 t345 t346 t347 t348 t349 _ A4.out).mono ?_);rintro e w54 ⟨rfl,hb⟩;refine ⟨_,rfl,?_⟩;have n_ := jA (blk_below (g := gb337) (o := .cells #[.int .i64 a0_0,.int .i64 a0_1,.int .i64 a0_2,.int .i64 a0_3,.int .i64 a0_4,.int .i64 a0_5] 35 (0,0)) Z67 hb) (jA (blk_below (g := gb338) (o := .cells #[.bool false,.int .u64 0,.int .u64 0,.int .i64 0] 30 (0,0)) Z66 hb) (jA (blk_below (g := gb344) (o := .cells #[.bool t339,.int .u64 t340,.int .u64 t341,.int .i64 t342] 30 (0,0)) Z32 hb) (Aside0.mk (below_step Z388 hb))));clear BK337 BK338 BK344 HB;obtain ⟨BK337,BK338,BK344,HB⟩ := n_;(try clear hb);(try clear hb2);(try clear hk);(try clear hi)) | ((with_reducible refine gate_dst (N := 8) rfl ?_);refine box_event ?hg (N := 8) ?hd (cs := #[.bool false,.int .u64 0,.int .u64 0,.int .i64 0]) (t := 30) ?hr ?_;(case hd => rfl);(case hg => rfl);(case hr => exact Z359);intro gb350 hg w55 hbox hb;have n_ := jA (blk_below (g := gb337) (o := .cells #[.int .i64 a0_0,.int .i64 a0_1,.int .i64 a0_2,.int .i64 a0_3,.int .i64 a0_4,.int .i64 a0_5] 35 (0,0)) Z452 hb) (jA (blk_below (g := gb338) (o := .cells #[.bool false,.int .u64 0,.int .u64 0,.int .i64 0] 30 (0,0)) Z459 hb) (jA (blk_below (g := gb344) (o := .cells #[.bool t339,.int .u64 t340,.int .u64 t341,.int .i64 t342] 30 (0,0)) Z472 hb) (jA (below_step Z388 hb) (jA (hbox) (jA ((Z156 : w.heap.size ≤ gb350)) (jA ((Z156 : w.heap.size ≤ gb350)) (jA ((Z145 : gb337 ≠ gb350)) (jA ((Z147 : gb350 ≠ gb337)) (jA ((Z221 : gb338 ≠ gb350)) (jA ((Z223 : gb350 ≠ gb338)) (jA ((Z196 : gb344 ≠ gb350)) (Aside0.mk ((Z198 : gb350 ≠ gb344))))))))))))));clear BK337 BK338 BK344 HB;obtain ⟨BK337,BK338,BK344,HB,BK350,GW350,GE350,NB337_350,NB350_337,NB338_350,NB350_338,NB344_350,NB350_344⟩ := n_;clear hb hbox hg;have hnb56 := NB350_337.out;have hnc56 := NB337_350.out;have hnb57 := NB350_338.out;have hnc57 := NB338_350.out;have hnb58 := NB350_344.out;have hnc58 := NB344_350.out;obtain ⟨hcz59_0,hcz59_1,hcz59_2,hcz59_3,hfz59_0,hfz59_1,hfz59_2,hfz59_3⟩ := impl_GainOf.cells4 BK350.out;obtain ⟨hcz60_0,hcz60_1,hcz60_2,hcz60_3,hfz60_0,hfz60_1,hfz60_2,hfz60_3⟩ := impl_GainOf.cells4 BK338.out))
    refine bodyPost_ret (results_ct rfl _ _ gb338 30 #[.bool false,.int .u64 0,.int .u64 0,.int .i64 0] (0,0) _ rfl Z3 Try.underlying30 rfl Z363) rfl ?_
    exact ⟨Z354,Z160⟩

/-! ### laws_big: function 13 -/
def laws_big.f (l0 : List Int) : Option (Bool) := some (decide ((l0.length : Int) > 1048576))
set_option maxHeartbeats 8000000 in
set_option maxRecDepth 100000 in
theorem laws_big.calls (A0 : Option Addr) (c0 : Nat) (l0 : List Int) (r : Bool) (w : World) (hr0 : Kd.C (Kd.int .u8) w A0 l0.length l0) (hc0 : l0.length ≤ c0) (h : laws_big.f l0 = some r) :
    Calls Try.prog 13 #[.slice A0 l0.length c0] w fun e w' => e = .returned (.bool r) ∧ Drawn0 w w' := by
  have HR0 := Aside0.mk hr0
  have HC0 := Aside0.mk hc0
  clear hr0 hc0
  have H : (some (decide ((l0.length : Int) > 1048576))) = some r := h
  clear h
  obtain rfl := Option.some.inj H
  go_enter Try.func13,Try.ntmps13
  go_wp2
  go_ret
  exact ⟨Z358,Z355⟩

end Go.Proofs.Ytjcjehnjbgklbaa.QFnGain
