/- The machine side of FnExactGainOf: what each Go function that it reaches comes to. Conditions: none. -/
import Derived.Test.YtjcjehnjbgklbaaQFnExactGainOfx0
import Derived.Test.YtjcjehnjbgklbaaQFnExactGainOfx5
import Derived.Test.YtjcjehnjbgklbaaQFnExactGainOfx6
namespace Go.Proofs.Ytjcjehnjbgklbaa.QFnExactGainOf
open Go.RowKit Go.Proofs.YtjcjehnjbgklbaaW.PrintWords Go.Proofs.YtjcjehnjbgklbaaW.PrintLast Go.Proofs.YtjcjehnjbgklbaaW.PrintMore
attribute [local go_sem] max2_int min2_int max_two min_two max_three min_three max_four min_four   -- for this text's walks alone
set_option linter.unusedVariables false
set_option linter.unusedSimpArgs false

/-! ### cmp_Or_int: function 55 -/
def cmp_Or_int.l0 : Nat → Int → List Int → Int → Int → Option (Int)
  | 0,_,_,_,_ => none
  | k + 1,x3,x6,x7,x8 => if x8 < x7 then (if 0 ≤ x8 then (if x8 < (x6.length : Int) then (if (rd x6 x8) = x3 then (cmp_Or_int.l0 k x3 x6 x7 (wrap64 (x8 + 1))) else (some (rd x6 x8))) else (none)) else (none)) else (some x3)
def cmp_Or_int.f (k : Nat) (l0 : List Int) : Option (Int) := cmp_Or_int.l0 k 0 l0 (l0.length : Int) 0
theorem cmp_Or_int.mono_l : ∀ k,(∀ y0 y1 y2 y3,LeO (cmp_Or_int.l0 k y0 y1 y2 y3) (cmp_Or_int.l0 (k + 1) y0 y1 y2 y3))
  | 0 => fun _ _ _ _ r h => by simp [cmp_Or_int.l0] at h
  | k + 1 => by
    have ih0 := cmp_Or_int.mono_l k
    · intro y0 y1 y2 y3
      unfold cmp_Or_int.l0
      repeat' first
      | (with_reducible exact ih0 _ _ _ _)
      | (with_reducible exact LeO.refl _)
      | (with_reducible exact LeO.none _)
      | (with_reducible refine LeO.ite ?_ ?_)
      | (with_reducible refine LeO.bind ?_ (fun _ => ?_))
      | exact ih0 _ _ _ _
      | exact LeO.none _
      | refine LeO.ite ?_ ?_
      | refine LeO.bind ?_ (fun _ => ?_)
theorem cmp_Or_int.mono : ∀ a0 k,LeO (cmp_Or_int.f k a0) (cmp_Or_int.f (k + 1) a0) := by
  intro a0 k
  have ih0 := cmp_Or_int.mono_l k
  unfold cmp_Or_int.f
  repeat' first
      | (with_reducible exact ih0 _ _ _ _)
      | (with_reducible exact LeO.refl _)
      | (with_reducible exact LeO.none _)
      | (with_reducible refine LeO.ite ?_ ?_)
      | (with_reducible refine LeO.bind ?_ (fun _ => ?_))
      | exact ih0 _ _ _ _
      | exact LeO.none _
      | refine LeO.ite ?_ ?_
      | refine LeO.bind ?_ (fun _ => ?_)
set_option maxHeartbeats 8000000 in
set_option maxRecDepth 100000 in
theorem cmp_Or_int.calls (k : Nat) (A0 : Option Addr) (c0 : Nat) (l0 : List Int) (r : Int) (w : World) (hr0 : Kd.C (Kd.int .i64) w A0 l0.length l0) (hc0 : l0.length ≤ c0) (h : cmp_Or_int.f k l0 = some r) :
    Calls Try.prog 55 #[.slice A0 l0.length c0] w fun e w' => e = .returned (.int .i64 r) ∧ Drawn0 w w' := by
  have HR0 := Aside0.mk hr0
  have HC0 := Aside0.mk hc0
  clear hr0 hc0
  have H : (cmp_Or_int.l0 k 0 l0 (l0.length : Int) 0) = some r := h
  clear h
  have H' := Aside0.mk H
  clear H
  go_enter Try.func55,Try.ntmps55
  go_wp2
  go_loopg [8] k (fun kq v8 w' => ∃ (x8_1 : Int),v8 = .int .i64 x8_1 ∧ Aside0 (cmp_Or_int.l0 kq 0 l0 (l0.length : Int) x8_1 = some r) ∧ Aside0 (kq ≤ k) ∧ Drawn0 w w')
  case atStart => exact ⟨(0),Z333,H',⟨Nat.le_refl _⟩,Z330⟩
  case round =>
    clear H'
    obtain ⟨x8_1,rfl,HA,HK1,⟨m1,rfl⟩⟩ := hrel
    cases gk with
    | zero => exact absurd HA.out (by simp [cmp_Or_int.l0])
    | succ k1 =>
      have H := HA.out
      clear HA
      simp only [cmp_Or_int.l0] at H
      by_cases c2 : x8_1 < (l0.length : Int)
      · rw [if_pos c2] at H
        have c2b0 : decide (x8_1 < (l0.length : Int)) = true := decide_eq_true c2
        clear c2
        by_cases c3 : 0 ≤ x8_1
        · rw [if_pos c3] at H
          have c3b0 : decide (0 ≤ x8_1) = true := decide_eq_true c3
          clear c3
          by_cases c4 : x8_1 < (l0.length : Int)
          · rw [if_pos c4] at H
            have c4b0 : decide (x8_1 < (l0.length : Int)) = true := decide_eq_true c4
            clear c4
            by_cases c5 : (rd l0 x8_1) = 0
            · rw [if_pos c5] at H
              have c5b0 : ((rd l0 x8_1) == 0) = true := beq_iff_eq.mpr c5
              have c5b1 : ((rd l0 x8_1) != 0) = false := bne_eq_false_iff_eq.mpr c5
              clear c5
              have H' := Aside0.mk H
              clear H
              have p285 : 0 ≤ (x8_1 : Int) := of_decide_eq_true Z332
              have q285 : x8_1 < (l0.length : Int) := of_decide_eq_true Z332
              obtain ⟨ad285,e285,hx285_0⟩ := Kd.at_int HR0.out x8_1 p285 q285
              cases e285
              replace p285 := eq_true p285
              replace q285 := eq_true q285
              go_wp2
              go_roundg k1
              case measure => have := HK1.out;omega
              case rel => exact ⟨(wrap64 (x8_1 + 1)),Z333,H',⟨by have := HK1.out;omega⟩,Z330⟩
            · rw [if_neg c5] at H
              have c5b0 : ((rd l0 x8_1) == 0) = false := beq_eq_false_iff_ne.mpr c5
              have c5b1 : ((rd l0 x8_1) != 0) = true := bne_iff_ne.mpr c5
              obtain rfl := Option.some.inj H
              have p285 : 0 ≤ (x8_1 : Int) := of_decide_eq_true Z332
              have q285 : x8_1 < (l0.length : Int) := of_decide_eq_true Z332
              obtain ⟨ad285,e285,hx285_0⟩ := Kd.at_int HR0.out x8_1 p285 q285
              cases e285
              replace p285 := eq_true p285
              replace q285 := eq_true q285
              go_wp2
              go_ret
              exact ⟨Z333,Z330⟩
          · rw [if_neg c4] at H
            exact absurd H (by simp)
        · rw [if_neg c3] at H
          exact absurd H (by simp)
      · rw [if_neg c2] at H
        have c2b0 : decide (x8_1 < (l0.length : Int)) = false := decide_eq_false c2
        clear c2
        obtain rfl := Option.some.inj H
        go_wp2
        go_ret
        exact ⟨Z333,Z330⟩

/-! ### cmp_isNaN_uint64: function 84 -/
def cmp_isNaN_uint64.f (a0 : Int) : Option (Bool) := some (a0 != a0)
set_option maxHeartbeats 8000000 in
set_option maxRecDepth 100000 in
theorem cmp_isNaN_uint64.calls (a0 : Int) (r : Bool) (w : World) (h : cmp_isNaN_uint64.f a0 = some r) :
    Calls Try.prog 84 #[.int .u64 a0] w fun e w' => e = .returned (.bool r) ∧ Drawn0 w w' := by
  have H : (some (a0 != a0)) = some r := h
  clear h
  obtain rfl := Option.some.inj H
  go_enter Try.func84,Try.ntmps84
  go_wp2
  go_ret
  exact ⟨Z333,Z330⟩

/-! ### cmp_Compare_uint64: function 83 -/
def cmp_Compare_uint64.f (a0 : Int) (a1 : Int) : Option (Int) := (cmp_isNaN_uint64.f a0).bind fun t286 => ((cmp_isNaN_uint64.f a1).bind fun t287 => (if t286 = true then (if t287 = true then (some 0) else (some (-1))) else (if t287 = true then (some 1) else (if a0 < a1 then (some (-1)) else (if a0 > a1 then (some 1) else (some 0))))))
set_option maxHeartbeats 8000000 in
set_option maxRecDepth 100000 in
theorem cmp_Compare_uint64.calls (a0 : Int) (a1 : Int) (r : Int) (w : World) (h : cmp_Compare_uint64.f a0 a1 = some r) :
    Calls Try.prog 83 #[.int .u64 a0,.int .u64 a1] w fun e w' => e = .returned (.int .i64 r) ∧ Drawn0 w w' := by
  have H : ((cmp_isNaN_uint64.f a0).bind fun t286 => ((cmp_isNaN_uint64.f a1).bind fun t287 => (if t286 = true then (if t287 = true then (some 0) else (some (-1))) else (if t287 = true then (some 1) else (if a0 < a1 then (some (-1)) else (if a0 > a1 then (some 1) else (some 0))))))) = some r := h
  clear h
  obtain ⟨t286,A30,H⟩ := Option.bind_eq_some_iff.mp H
  have A3 := Aside0.mk A30
  clear A30
  obtain ⟨t287,A40,H⟩ := Option.bind_eq_some_iff.mp H
  have A4 := Aside0.mk A40
  clear A40
  by_cases c5 : t286 = true
  · subst c5
    have H1 : (if t287 = true then (some 0) else (some (-1))) = some r := by rw [if_pos rfl] at H;exact H
    clear H
    have H := H1
    clear H1
    by_cases c6 : t287 = true
    · subst c6
      have H1 : (some 0) = some r := by rw [if_pos rfl] at H;exact H
      clear H
      have H := H1
      clear H1
      obtain rfl := Option.some.inj H
      go_enter Try.func83,Try.ntmps83
      go_wp2_with (first | ((with_reducible refine gate_callee (f := 84) rfl ?_);refine goesL_ (some 8) rfl rfl Try.func84 Z337 rfl #[.int .u64 a0] rfl Z304 ?_;(with_reducible refine (cmp_isNaN_uint64.calls a0 true _ A3.out).mono ?_);rintro e w' ⟨rfl,⟨nd,rfl⟩⟩;refine ⟨_,rfl,?_⟩) | ((with_reducible refine gate_callee (f := 84) rfl ?_);refine goesL_ (some 10) rfl rfl Try.func84 Z337 rfl #[.int .u64 a1] rfl Z304 ?_;(with_reducible refine (cmp_isNaN_uint64.calls a1 true _ A4.out).mono ?_);rintro e w' ⟨rfl,⟨nd,rfl⟩⟩;refine ⟨_,rfl,?_⟩))
      go_ret
      exact ⟨Z333,Z330⟩
    · replace c6 := Bool.eq_false_iff.mpr c6
      subst c6
      have H1 : (some (-1)) = some r := by rw [if_neg (show ¬ (false = true) by decide)] at H;exact H
      clear H
      have H := H1
      clear H1
      obtain rfl := Option.some.inj H
      go_enter Try.func83,Try.ntmps83
      go_wp2_with (first | ((with_reducible refine gate_callee (f := 84) rfl ?_);refine goesL_ (some 8) rfl rfl Try.func84 Z337 rfl #[.int .u64 a0] rfl Z304 ?_;(with_reducible refine (cmp_isNaN_uint64.calls a0 true _ A3.out).mono ?_);rintro e w' ⟨rfl,⟨nd,rfl⟩⟩;refine ⟨_,rfl,?_⟩) | ((with_reducible refine gate_callee (f := 84) rfl ?_);refine goesL_ (some 10) rfl rfl Try.func84 Z337 rfl #[.int .u64 a1] rfl Z304 ?_;(with_reducible refine (cmp_isNaN_uint64.calls a1 false _ A4.out).mono ?_);rintro e w' ⟨rfl,⟨nd,rfl⟩⟩;refine ⟨_,rfl,?_⟩))
      go_ret
      exact ⟨Z333,Z330⟩
  · replace c5 := Bool.eq_false_iff.mpr c5
    subst c5
    have H1 : (if t287 = true then (some 1) else (if a0 < a1 then (some (-1)) else (if a0 > a1 then (some 1) else (some 0)))) = some r := by rw [if_neg (show ¬ (false = true) by decide)] at H;exact H
    clear H
    have H := H1
    clear H1
    by_cases c7 : t287 = true
    · subst c7
      have H1 : (some 1) = some r := by rw [if_pos rfl] at H;exact H
      clear H
      have H := H1
      clear H1
      obtain rfl := Option.some.inj H
      go_enter Try.func83,Try.ntmps83
      go_wp2_with (first | ((with_reducible refine gate_callee (f := 84) rfl ?_);refine goesL_ (some 8) rfl rfl Try.func84 Z337 rfl #[.int .u64 a0] rfl Z304 ?_;(with_reducible refine (cmp_isNaN_uint64.calls a0 false _ A3.out).mono ?_);rintro e w' ⟨rfl,⟨nd,rfl⟩⟩;refine ⟨_,rfl,?_⟩) | ((with_reducible refine gate_callee (f := 84) rfl ?_);refine goesL_ (some 10) rfl rfl Try.func84 Z337 rfl #[.int .u64 a1] rfl Z304 ?_;(with_reducible refine (cmp_isNaN_uint64.calls a1 true _ A4.out).mono ?_);rintro e w' ⟨rfl,⟨nd,rfl⟩⟩;refine ⟨_,rfl,?_⟩))
      go_ret
      exact ⟨Z333,Z330⟩
    · replace c7 := Bool.eq_false_iff.mpr c7
      subst c7
      have H1 : (if a0 < a1 then (some (-1)) else (if a0 > a1 then (some 1) else (some 0))) = some r := by rw [if_neg (show ¬ (false = true) by decide)] at H;exact H
      clear H
      have H := H1
      clear H1
      by_cases c8 : a0 < a1
      · rw [if_pos c8] at H
        have c8b0 : decide (a0 < a1) = true := decide_eq_true c8
        clear c8
        obtain rfl := Option.some.inj H
        go_enter Try.func83,Try.ntmps83
        go_wp2_with (first | ((with_reducible refine gate_callee (f := 84) rfl ?_);refine goesL_ (some 8) rfl rfl Try.func84 Z337 rfl #[.int .u64 a0] rfl Z304 ?_;(with_reducible refine (cmp_isNaN_uint64.calls a0 false _ A3.out).mono ?_);rintro e w' ⟨rfl,⟨nd,rfl⟩⟩;refine ⟨_,rfl,?_⟩) | ((with_reducible refine gate_callee (f := 84) rfl ?_);refine goesL_ (some 10) rfl rfl Try.func84 Z337 rfl #[.int .u64 a1] rfl Z304 ?_;(with_reducible refine (cmp_isNaN_uint64.calls a1 false _ A4.out).mono ?_);rintro e w' ⟨rfl,⟨nd,rfl⟩⟩;refine ⟨_,rfl,?_⟩))
        go_ret
        exact ⟨Z333,Z330⟩
      · rw [if_neg c8] at H
        have c8b0 : decide (a0 < a1) = false := decide_eq_false c8
        clear c8
        by_cases c9 : a0 > a1
        · rw [if_pos c9] at H
          have c9b0 : decide (a1 < a0) = true := decide_eq_true c9
          clear c9
          obtain rfl := Option.some.inj H
          go_enter Try.func83,Try.ntmps83
          go_wp2_with (first | ((with_reducible refine gate_callee (f := 84) rfl ?_);refine goesL_ (some 8) rfl rfl Try.func84 Z337 rfl #[.int .u64 a0] rfl Z304 ?_;(with_reducible refine (cmp_isNaN_uint64.calls a0 false _ A3.out).mono ?_);rintro e w' ⟨rfl,⟨nd,rfl⟩⟩;refine ⟨_,rfl,?_⟩) | ((with_reducible refine gate_callee (f := 84) rfl ?_);refine goesL_ (some 10) rfl rfl Try.func84 Z337 rfl #[.int .u64 a1] rfl Z304 ?_;(with_reducible refine (cmp_isNaN_uint64.calls a1 false _ A4.out).mono ?_);rintro e w' ⟨rfl,⟨nd,rfl⟩⟩;refine ⟨_,rfl,?_⟩))
          go_ret
          exact ⟨Z333,Z330⟩
        · rw [if_neg c9] at H
          have c9b0 : decide (a1 < a0) = false := decide_eq_false c9
          clear c9
          obtain rfl := Option.some.inj H
          go_enter Try.func83,Try.ntmps83
          go_wp2_with (first | ((with_reducible refine gate_callee (f := 84) rfl ?_);refine goesL_ (some 8) rfl rfl Try.func84 Z337 rfl #[.int .u64 a0] rfl Z304 ?_;(with_reducible refine (cmp_isNaN_uint64.calls a0 false _ A3.out).mono ?_);rintro e w' ⟨rfl,⟨nd,rfl⟩⟩;refine ⟨_,rfl,?_⟩) | ((with_reducible refine gate_callee (f := 84) rfl ?_);refine goesL_ (some 10) rfl rfl Try.func84 Z337 rfl #[.int .u64 a1] rfl Z304 ?_;(with_reducible refine (cmp_isNaN_uint64.calls a1 false _ A4.out).mono ?_);rintro e w' ⟨rfl,⟨nd,rfl⟩⟩;refine ⟨_,rfl,?_⟩))
          go_ret
          exact ⟨Z333,Z330⟩

/-! ### impl_compareSizes: function 69 -/
def impl_compareSizes.f (k : Nat) (a0_0 : Bool) (a0_1 : Int) (a0_2 : Int) (a1_0 : Bool) (a1_1 : Int) (a1_2 : Int) : Option (Int) := (cmp_Compare_uint64.f a0_1 a1_1).bind fun t290 => ((cmp_Compare_uint64.f a0_2 a1_2).bind fun t291 => ((cmp_Or_int.f k (([t290,t291] : List Int))).bind fun t295 => (some t295)))
theorem impl_compareSizes.mono : ∀ a0 a1 a2 a3 a4 a5 k,LeO (impl_compareSizes.f k a0 a1 a2 a3 a4 a5) (impl_compareSizes.f (k + 1) a0 a1 a2 a3 a4 a5) := by
  intro a0 a1 a2 a3 a4 a5 k
  unfold impl_compareSizes.f
  repeat' first
      | (with_reducible exact cmp_Or_int.mono _ _)
      | (with_reducible exact LeO.refl _)
      | (with_reducible exact LeO.none _)
      | (with_reducible refine LeO.ite ?_ ?_)
      | (with_reducible refine LeO.bind ?_ (fun _ => ?_))
      | exact cmp_Or_int.mono _ _
      | exact LeO.none _
      | refine LeO.ite ?_ ?_
      | refine LeO.bind ?_ (fun _ => ?_)
def impl_compareSizes.T1 : Bool × List (List Nat × List Nat) := (true,[([],[]),([0],[0]),([],[]),([2],[2]),([1,3],[1,3]),([],[]),([5],[5]),([],[]),([7],[7]),([6,8,4],[6,8]),([4,9],[4,9]),([10,9],[10]),([11,11,0,1,2,3,4,5,6,7,8,9,10,11],[11])])
def impl_compareSizes.B1 : List Nat := [0,1,0,4,15,0,32,0,128,511,1023,2047,4095]
theorem impl_compareSizes.tab1 : rtab .any (opsOf Try.f69 1) = impl_compareSizes.T1 := by kernel_rfl
theorem impl_compareSizes.bits1 : waitsOk impl_compareSizes.T1.2 impl_compareSizes.B1 = true := by kernel_rfl
set_option maxHeartbeats 8000000 in
set_option maxRecDepth 100000 in
theorem impl_compareSizes.calls (k : Nat) (a0_0 : Bool) (a0_1 : Int) (a0_2 : Int) (a1_0 : Bool) (a1_1 : Int) (a1_2 : Int) (r : Int) (w : World) (h : impl_compareSizes.f k a0_0 a0_1 a0_2 a1_0 a1_1 a1_2 = some r) :
    Calls Try.prog 69 #[.agg #[.bool a0_0,.int .u64 a0_1,.int .u64 a0_2],.agg #[.bool a1_0,.int .u64 a1_1,.int .u64 a1_2]] w fun e w' => e = .returned (.int .i64 r) ∧ Below w.heap.size w w' := by
  have hu28 := Try.underlying28
  have HB := Aside0.mk (Below.refl w.heap.size w)
  have H : ((cmp_Compare_uint64.f a0_1 a1_1).bind fun t290 => ((cmp_Compare_uint64.f a0_2 a1_2).bind fun t291 => ((cmp_Or_int.f k (([t290,t291] : List Int))).bind fun t295 => (some t295)))) = some r := h
  clear h
  obtain ⟨t290,A30,H⟩ := Option.bind_eq_some_iff.mp H
  have A3 := Aside0.mk A30
  clear A30
  obtain ⟨t291,A40,H⟩ := Option.bind_eq_some_iff.mp H
  have A4 := Aside0.mk A40
  clear A40
  obtain ⟨y292,hy292⟩ : ∃ y_ : List Int,y_ = (([t290,t291] : List Int)) := ⟨_,rfl⟩
  replace H : ((cmp_Or_int.f k y292).bind fun t295 => (some t295)) = some r := by first | (rw [hy292];with_reducible exact H) | (have H2_ := (Option.bind_some _ _).symm.trans H;rw [hy292];with_reducible exact H2_) | (have H2_ := (Option.bind_some _ _).symm.trans H;with_reducible exact H2_) | with_reducible exact H | (rw [hy292];exact H) | exact H
  have Ny292 := Aside0.mk hy292
  clear hy292
  obtain ⟨t295,A50,H⟩ := Option.bind_eq_some_iff.mp H
  have A5 := Aside0.mk A50
  clear A50
  obtain rfl := Option.some.inj H
  go_enter Try.func69,Try.ntmps69
  try go_wp2_with (first | ((with_reducible refine gate_dst (N := 2) rfl ?_);refine box_event ?hg (N := 2) ?hd (cs := #[.bool a0_0,.int .u64 a0_1,.int .u64 a0_2]) (t := 28) ?hr ?_;(case hd => rfl);(case hg => rfl);(case hr => exact Z334);intro gb288 hg w6 hbox hb;have n_ := jA (below_step Z404 hb) (jA (hbox) (jA ((Z296 : w.heap.size ≤ gb288)) (Aside0.mk ((Z296 : w.heap.size ≤ gb288)))));clear HB;obtain ⟨HB,BK288,GW288,GE288⟩ := n_;clear hb hbox hg) | ((with_reducible refine gate_dst (N := 3) rfl ?_);refine box_event ?hg (N := 3) ?hd (cs := #[.bool a1_0,.int .u64 a1_1,.int .u64 a1_2]) (t := 28) ?hr ?_;(case hd => rfl);(case hg => rfl);(case hr => exact Z334);intro gb289 hg w7 hbox hb;have n_ := jA (blk_below (g := gb288) (o := .cells #[.bool a0_0,.int .u64 a0_1,.int .u64 a0_2] 28 (0,0)) Z320 hb) (jA (below_step Z397 hb) (jA (hbox) (jA ((Z287 : w.heap.size ≤ gb289)) (jA ((Z287 : w.heap.size ≤ gb289)) (jA ((by rw [hg];exact Nat.ne_of_lt (blk_lt (g := gb288) (o := .cells #[.bool a0_0,.int .u64 a0_1,.int .u64 a0_2] 28 (0,0)) Z320) : gb288 ≠ gb289)) (Aside0.mk ((by rw [hg];exact Nat.ne_of_gt (blk_lt (g := gb288) (o := .cells #[.bool a0_0,.int .u64 a0_1,.int .u64 a0_2] 28 (0,0)) Z320) : gb289 ≠ gb288))))))));clear BK288 HB;obtain ⟨BK288,HB,BK289,GW289,GE289,NB288_289,NB289_288⟩ := n_;clear hb hbox hg))
  have n0_ := Aside0.mk (blk_drew BK288.out)
  have n1_ := Aside0.mk (blk_drew BK289.out)
  have n2_ := Aside0.mk (below_drew1 HB.out)
  clear BK288
  clear BK289
  clear HB
  have BK288 := n0_
  have BK289 := n1_
  have HB := n2_
  clear n0_ n1_ n2_
  refine start_ (n := 13) (S := fun w' => w'.cell? ⟨gb288,0,none⟩ = some (.bool a0_0) ∧ w'.cell? ⟨gb288,1,none⟩ = some (.int .u64 a0_1) ∧ w'.cell? ⟨gb288,2,none⟩ = some (.int .u64 a0_2) ∧ w'.cell? ⟨gb289,0,none⟩ = some (.bool a1_0) ∧ w'.cell? ⟨gb289,1,none⟩ = some (.int .u64 a1_1) ∧ w'.cell? ⟨gb289,2,none⟩ = some (.int .u64 a1_2)) (ds := []) #[false,false,false,false,false,false,false,false,false,false,false,false,false] Z337 rfl rfl ⟨(blk_cell BK288.out 0).trans rfl,(blk_cell BK288.out 1).trans rfl,(blk_cell BK288.out 2).trans rfl,(blk_cell BK289.out 0).trans rfl,(blk_cell BK289.out 1).trans rfl,(blk_cell BK289.out 2).trans rfl⟩ (fun hHeld => ?_);refine with_tabW impl_compareSizes.tab1 impl_compareSizes.bits1 (fun HT_ HW_ => ?_)
  generalize w7.drew = w8 at BK288 BK289 HB hHeld ⊢
  refine pure_ (i := 0) (N := some 5) (v := ?_) (a' := ?_) #[true,false,false,false,false,false,false,false,false,false,false,false,false] rfl rfl (any_of HT_.out Z337) (fun _ _ _ h => h) (Or.inl ⟨Z339,?_⟩) ?_ ?_
  rotate_left
  · intro w'
    go_simp
    with_reducible rfl
  rotate_left
  · simp only [Act.put,List.setIfInBounds_toArray,List.set_cons_zero,List.set_cons_succ,i64_w,i32_w]
    rfl
  refine pure_ (i := 2) (N := some 7) (v := ?_) (a' := ?_) #[true,false,true,false,false,false,false,false,false,false,false,false,false] rfl rfl (any_of HT_.out Z337) (fun _ _ _ h => h) (Or.inl ⟨Z339,?_⟩) ?_ ?_
  rotate_left
  · intro w'
    go_simp
    with_reducible rfl
  rotate_left
  · simp only [Act.put,List.setIfInBounds_toArray,List.set_cons_zero,List.set_cons_succ,i64_w,i32_w]
    rfl
  refine pure_ (i := 5) (N := some 10) (v := ?_) (a' := ?_) #[true,false,true,false,false,true,false,false,false,false,false,false,false] rfl rfl (any_of HT_.out Z337) (fun _ _ _ h => h) (Or.inl ⟨Z339,?_⟩) ?_ ?_
  rotate_left
  · intro w'
    go_simp
    with_reducible rfl
  rotate_left
  · simp only [Act.put,List.setIfInBounds_toArray,List.set_cons_zero,List.set_cons_succ,i64_w,i32_w]
    rfl
  refine pure_ (i := 7) (N := some 12) (v := ?_) (a' := ?_) #[true,false,true,false,false,true,false,true,false,false,false,false,false] rfl rfl (any_of HT_.out Z337) (fun _ _ _ h => h) (Or.inl ⟨Z339,?_⟩) ?_ ?_
  rotate_left
  · intro w'
    go_simp
    with_reducible rfl
  rotate_left
  · simp only [Act.put,List.setIfInBounds_toArray,List.set_cons_zero,List.set_cons_succ,i64_w,i32_w]
    rfl
  refine take_ (i := 1) (N := some 6) (v := ?_) (a' := ?_) #[true,true,true,false,false,true,false,true,false,false,false,false,false] rfl rfl (take_ofW HT_.out HW_.out Z337) (fun _ _ _ h => h) (Or.inl ⟨Z339,?_⟩) hHeld ?_ ?_
  rotate_left
  · rintro w' ⟨s0,s1,s2,s3,s4,s5⟩
    go_simp
    with_reducible rfl
  rotate_left
  · simp only [Act.put,List.setIfInBounds_toArray,List.set_cons_zero,List.set_cons_succ,i64_w,i32_w]
    rfl
  refine take_ (i := 3) (N := some 8) (v := ?_) (a' := ?_) #[true,true,true,true,false,true,false,true,false,false,false,false,false] rfl rfl (take_ofW HT_.out HW_.out Z337) (fun _ _ _ h => h) (Or.inl ⟨Z339,?_⟩) hHeld ?_ ?_
  rotate_left
  · rintro w' ⟨s0,s1,s2,s3,s4,s5⟩
    go_simp
    with_reducible rfl
  rotate_left
  · simp only [Act.put,List.setIfInBounds_toArray,List.set_cons_zero,List.set_cons_succ,i64_w,i32_w]
    rfl
  refine take_ (i := 6) (N := some 11) (v := ?_) (a' := ?_) #[true,true,true,true,false,true,true,true,false,false,false,false,false] rfl rfl (take_ofW HT_.out HW_.out Z337) (fun _ _ _ h => h) (Or.inl ⟨Z339,?_⟩) hHeld ?_ ?_
  rotate_left
  · rintro w' ⟨s0,s1,s2,s3,s4,s5⟩
    go_simp
    with_reducible rfl
  rotate_left
  · simp only [Act.put,List.setIfInBounds_toArray,List.set_cons_zero,List.set_cons_succ,i64_w,i32_w]
    rfl
  refine take_ (i := 8) (N := some 13) (v := ?_) (a' := ?_) #[true,true,true,true,false,true,true,true,true,false,false,false,false] rfl rfl (take_ofW HT_.out HW_.out Z337) (fun _ _ _ h => h) (Or.inl ⟨Z339,?_⟩) hHeld ?_ ?_
  rotate_left
  · rintro w' ⟨s0,s1,s2,s3,s4,s5⟩
    go_simp
    with_reducible rfl
  rotate_left
  · simp only [Act.put,List.setIfInBounds_toArray,List.set_cons_zero,List.set_cons_succ,i64_w,i32_w]
    rfl
  refine one_ (i := 4) (N := some 9) #[true,true,true,true,true,true,true,true,true,false,false,false,false] rfl rfl (one_of HT_.out Z337) Z338 (fun K hK => ?_)
  refine goes_ Try.func83 Z337 rfl #[.int .u64 a0_1,.int .u64 a1_1] Z339 rfl rfl Z304 ?_
  with_reducible refine (cmp_Compare_uint64.calls a0_1 a1_1 t290 _ A3.out).mono ?_
  rintro e w' ⟨rfl,⟨nd,rfl⟩⟩
  refine ⟨_,rfl,?_⟩
  refine hK.out _ _ ⟨(blk_cell BK288.out 0).trans rfl,(blk_cell BK288.out 1).trans rfl,(blk_cell BK288.out 2).trans rfl,(blk_cell BK289.out 0).trans rfl,(blk_cell BK289.out 1).trans rfl,(blk_cell BK289.out 2).trans rfl⟩ (fun hHeld => ?_)
  clear hK K
  refine norm_ (a' := ?_) ?_ ?_
  rotate_left
  · show Act.put _ (some 9) _ = _
    simp only [Act.put,List.setIfInBounds_toArray,List.set_cons_zero,List.set_cons_succ,i64_w,i32_w]
    rfl
  refine one_ (i := 9) (N := some 14) #[true,true,true,true,true,true,true,true,true,true,false,false,false] rfl rfl (one_of HT_.out Z337) Z338 (fun K hK => ?_)
  refine goes_ Try.func83 Z337 rfl #[.int .u64 a0_2,.int .u64 a1_2] Z339 rfl rfl Z304 ?_
  with_reducible refine (cmp_Compare_uint64.calls a0_2 a1_2 t291 _ A4.out).mono ?_
  rintro e w' ⟨rfl,⟨nd,rfl⟩⟩
  refine ⟨_,rfl,?_⟩
  refine hK.out _ _ ⟨(blk_cell BK288.out 0).trans rfl,(blk_cell BK288.out 1).trans rfl,(blk_cell BK288.out 2).trans rfl,(blk_cell BK289.out 0).trans rfl,(blk_cell BK289.out 1).trans rfl,(blk_cell BK289.out 2).trans rfl⟩ (fun hHeld => ?_)
  clear hK K
  refine norm_ (a' := ?_) ?_ ?_
  rotate_left
  · show Act.put _ (some 14) _ = _
    simp only [Act.put,List.setIfInBounds_toArray,List.set_cons_zero,List.set_cons_succ,i64_w,i32_w]
    rfl
  refine one_ (i := 10) (N := some 15) #[true,true,true,true,true,true,true,true,true,true,true,false,false] rfl rfl (one_of HT_.out Z337) Z338 (fun K hK => ?_)
  refine Kd.R_lit_step (Kd.int .i64) _ 3 ?hg (N := 15) ?hd (xs := ([t290,t291] : List Int)) (inner := [.int .i64 t290,.int .i64 t291]) (ok := fun _ => True) (okp := fun _ => True) ?hr ?hp (fun _ hk => hk) trivial (Below.refl _ _) (Nat.le_refl _) (by simp) ?_;(case hd => rfl);(case hg => rfl);(case hr => exact Z334);(case hp => exact (Reps.one (show Kd.M (Kd.int .i64) _ _ _ t290 [.int .i64 t290] from rfl) (Reps.one (show Kd.M (Kd.int .i64) _ _ _ t291 [.int .i64 t291] from rfl) (Reps.none _ _))))
  intro v293 w9 ho10 hb hg_ hnew_
  clear hg_ hnew_
  (first | rw [← Ny292.out] at ho10 | (simp only [Int.reduceToNat] at ho10;rw [← Ny292.out] at ho10))
  have n0_ := Aside0.mk (Kd.R_lower ho10 (below_size Z284))
  have n1_ := Aside0.mk (blk_below (g := gb288) (o := .cells #[.bool a0_0,.int .u64 a0_1,.int .u64 a0_2] 28 (0,0)) Z320 hb)
  have n2_ := Aside0.mk (blk_below (g := gb289) (o := .cells #[.bool a1_0,.int .u64 a1_1,.int .u64 a1_2] 28 (0,0)) (by (with_reducible repeat (first | refine bA ?_ _ | refine bB ?_ | refine bC ?_ _));exact BK289.out) hb)
  have n3_ := Aside0.mk (below_step Z284 hb)
  clear BK288
  clear BK289
  clear HB
  have HO294 := n0_
  have BK288 := n1_
  have BK289 := n2_
  have HB := n3_
  clear n0_ n1_ n2_ n3_
  clear hb ho10
  obtain ⟨Ao11,co11,eo11⟩ := Kd.R_slice HO294.out
  (first | subst eo11 | (injection eo11 with f1_ f2_ f3_;have f4_ := f1_.symm;have f5_ := f3_.symm;clear f1_ f2_ f3_;subst f4_;subst f5_))
  refine hK.out _ _ ⟨(blk_cell BK288.out 0).trans rfl,(blk_cell BK288.out 1).trans rfl,(blk_cell BK288.out 2).trans rfl,(blk_cell BK289.out 0).trans rfl,(blk_cell BK289.out 1).trans rfl,(blk_cell BK289.out 2).trans rfl⟩ (fun hHeld => ?_)
  clear hK K
  refine norm_ (a' := ?_) ?_ ?_
  rotate_left
  · show Act.put _ (some 15) _ = _
    simp only [Act.put,List.setIfInBounds_toArray,List.set_cons_zero,List.set_cons_succ,i64_w,i32_w]
    rfl
  refine one_ (i := 11) (N := some 16) #[true,true,true,true,true,true,true,true,true,true,true,true,false] rfl rfl (one_of HT_.out Z337) Z338 (fun K hK => ?_)
  refine goes_ Try.func55 Z337 rfl #[.slice Ao11 y292.length co11] Z339 rfl rfl Z304 ?_
  with_reducible refine (cmp_Or_int.calls k _ _ y292 t295 _ ?side1 ?side2 A5.out).mono ?_
  (case side1 => repeat (first | exact (Kd.R_reads' HO294.out).2.2 | (with_reducible refine Kd.C_alloc ?_ _) | (with_reducible refine Kd.C_drewN ?_ _) | (with_reducible refine Kd.C_drew ?_)))
  (case side2 => exact (Kd.R_reads' HO294.out).2.1)
  rintro e w' ⟨rfl,⟨nd,rfl⟩⟩
  refine ⟨_,rfl,?_⟩
  refine hK.out _ _ ⟨(blk_cell BK288.out 0).trans rfl,(blk_cell BK288.out 1).trans rfl,(blk_cell BK288.out 2).trans rfl,(blk_cell BK289.out 0).trans rfl,(blk_cell BK289.out 1).trans rfl,(blk_cell BK289.out 2).trans rfl⟩ (fun hHeld => ?_)
  clear hK K
  refine norm_ (a' := ?_) ?_ ?_
  rotate_left
  · show Act.put _ (some 16) _ = _
    simp only [Act.put,List.setIfInBounds_toArray,List.set_cons_zero,List.set_cons_succ,i64_w,i32_w]
    rfl
  refine pure_ (i := 12) (N := some 4) (v := ?_) (a' := ?_) #[true,true,true,true,true,true,true,true,true,true,true,true,true] rfl rfl (any_of HT_.out Z337) (fun _ _ _ h => h) (Or.inl ⟨Z339,?_⟩) ?_ ?_
  rotate_left
  · intro w'
    go_simp
    with_reducible rfl
  rotate_left
  · simp only [Act.put,List.setIfInBounds_toArray,List.set_cons_zero,List.set_cons_succ,i64_w,i32_w]
    rfl
  refine done_ (done_of HT_.out Z337) ?_
  try go_wp2
  go_ret
  exact ⟨Z329,Z284⟩

/-! ### bits_Sub64: function 70: the model stands in for it -/
def bits_Sub64.f (a0 : Int) (a1 : Int) (a2 : Int) : Option (Int × Int) := if 0 ≤ a0 ∧ 0 ≤ a1 ∧ a1 < 18446744073709551616 ∧ 0 ≤ a2 ∧ a2 ≤ 1 then some ((a0 + 18446744073709551616 - a1 - a2) % 18446744073709551616,if a0 < a1 + a2 then 1 else 0) else none
def sub64E : Array Value → Sem Value := fun args => do
  let (x,y,b) ← Extern.MathBitsCarry.three "Sub64" args
  pure (Extern.MathBitsCarry.pair ((x + Extern.MathBitsCarry.m64 - y - b) % Extern.MathBitsCarry.m64) (if x < y + b then 1 else 0))
theorem run_sub64E {P : Program} (x y b : Nat) (hb : b ≤ 1) (w : World) : (sub64E #[.int .u64 x,.int .u64 y,.int .u64 b]).run P w = .ok (.tuple #[.int .u64 (((x + 18446744073709551616 - y - b) % 18446744073709551616 : Nat) : Int),.int .u64 ((if x < y + b then 1 else 0 : Nat) : Int)]) w := by
  have : b = 0 ∨ b = 1 := by omega
  rcases this with rfl | rfl <;> rfl
theorem bits_Sub64.run (a0 a1 a2 r1 r2 : Int) (h : bits_Sub64.f a0 a1 a2 = some (r1,r2)) (w : World) : (callFunc 70 #[.int .u64 a0,.int .u64 a1,.int .u64 a2]).run Try.prog w = .ok (.value (.tuple #[.int .u64 r1,.int .u64 r2])) w := by
  unfold bits_Sub64.f at h
  split at h
  · rename_i g
    simp only [Option.some.injEq,Prod.mk.injEq] at h
    obtain ⟨rfl,rfl⟩ := h
    obtain ⟨g0,g1,g4,g2,g3⟩ := g
    obtain ⟨x,rfl⟩ := Int.eq_ofNat_of_zero_le g0
    obtain ⟨y,rfl⟩ := Int.eq_ofNat_of_zero_le g1
    obtain ⟨b,rfl⟩ := Int.eq_ofNat_of_zero_le g2
    rw [run_callFunc_extern Try.func70 Z337 Z337 Z337 (e := sub64E) Z337,run_sub64E x y b (by omega)]
    have e1 : (((x + 18446744073709551616 - y - b) % 18446744073709551616 : Nat) : Int) = ((x : Int) + 18446744073709551616 - y - b) % 18446744073709551616 := by omega
    have e2 : ((if x < y + b then 1 else 0 : Nat) : Int) = if (x : Int) < y + b then 1 else 0 := by by_cases c : x < y + b <;> simp [c] <;> omega
    rw [e1,e2]
    rfl
  · simp at h

/-! ### impl_AddWide: function 49 -/
theorem impl_AddWide.cells3 {w : World} {g : Nat} {t : TypeId} {a0 a1 a2 : Value} (h : w.heap[g]? = some (.cells #[a0,a1,a2] t (0,0))) : w.cell? ⟨g,0,none⟩ = some a0 ∧ w.cell? ⟨g,1,none⟩ = some a1 ∧ w.cell? ⟨g,2,none⟩ = some a2 ∧ w.frozen? ⟨g,0,none⟩ = false ∧ w.frozen? ⟨g,1,none⟩ = false ∧ w.frozen? ⟨g,2,none⟩ = false := ⟨(blk_cell h 0).trans rfl,(blk_cell h 1).trans rfl,(blk_cell h 2).trans rfl,blk_frozen h 0,blk_frozen h 1,blk_frozen h 2⟩
def impl_AddWide.j0 : Nat → Bool → Bool → Int → Int → Bool → Int → Int → Option (Bool × Int × Int × Bool)
  | 0,_,_,_,_,_,_,_ => none
  | k + 1,x22,x297000,x297001,x297002,x298000,x298001,x298002 => if x22 = true then (some (false,0,0,false)) else (if (x297000 != x298000) = true then ((impl_compareSizes.f k x297000 x297001 x297002 x298000 x298001 x298002).bind fun t301 => (if t301 < 0 then ((bits_Sub64.f x298002 x297002 0).bind fun bt302 => ((bits_Sub64.f x298001 x297001 bt302.2).bind fun bt304 => ((impl_wideOf.f x298000 bt304.1 bt302.1).bind fun bt306 => (some (bt306.1,bt306.2.1,bt306.2.2,true))))) else ((bits_Sub64.f x297002 x298002 0).bind fun bt309 => ((bits_Sub64.f x297001 x298001 bt309.2).bind fun bt311 => ((impl_wideOf.f x297000 bt311.1 bt309.1).bind fun bt313 => (some (bt313.1,bt313.2.1,bt313.2.2,true))))))) else ((bits_Add64.f x297002 x298002 0).bind fun bt316 => ((bits_Add64.f x297001 x298001 bt316.2).bind fun bt318 => ((impl_wideOf.f x297000 bt318.1 bt316.1).bind fun bt320 => ((impl_WideOk.f bt320.1 bt320.2.1 bt320.2.2).bind fun t324 => (if t324 = true then (some (bt320.1,bt320.2.1,bt320.2.2,true)) else (some (false,0,0,false))))))))
def impl_AddWide.f (k : Nat) (a0_0 : Bool) (a0_1 : Int) (a0_2 : Int) (a1_0 : Bool) (a1_1 : Int) (a1_2 : Int) : Option (Bool × Int × Int × Bool) := (impl_WideOk.f a0_0 a0_1 a0_2).bind fun t299 => (if t299 = true then ((impl_WideOk.f a1_0 a1_1 a1_2).bind fun t300 => (impl_AddWide.j0 k (!t300) a0_0 a0_1 a0_2 a1_0 a1_1 a1_2)) else (impl_AddWide.j0 k true a0_0 a0_1 a0_2 a1_0 a1_1 a1_2))
theorem impl_AddWide.mono_l : ∀ k,(∀ y0 y1 y2 y3 y4 y5 y6,LeO (impl_AddWide.j0 k y0 y1 y2 y3 y4 y5 y6) (impl_AddWide.j0 (k + 1) y0 y1 y2 y3 y4 y5 y6))
  | 0 => fun _ _ _ _ _ _ _ r h => by simp [impl_AddWide.j0] at h
  | k + 1 => by
    have ih0 := impl_AddWide.mono_l k
    · intro y0 y1 y2 y3 y4 y5 y6
      unfold impl_AddWide.j0
      repeat' first
      | (with_reducible exact ih0 _ _ _ _ _ _ _)
      | (with_reducible exact impl_compareSizes.mono _ _ _ _ _ _ _)
      | (with_reducible exact LeO.refl _)
      | (with_reducible exact LeO.none _)
      | (with_reducible refine LeO.ite ?_ ?_)
      | (with_reducible refine LeO.bind ?_ (fun _ => ?_))
      | exact ih0 _ _ _ _ _ _ _
      | exact impl_compareSizes.mono _ _ _ _ _ _ _
      | exact LeO.none _
      | refine LeO.ite ?_ ?_
      | refine LeO.bind ?_ (fun _ => ?_)
theorem impl_AddWide.mono : ∀ a0 a1 a2 a3 a4 a5 k,LeO (impl_AddWide.f k a0 a1 a2 a3 a4 a5) (impl_AddWide.f (k + 1) a0 a1 a2 a3 a4 a5) := by
  intro a0 a1 a2 a3 a4 a5 k
  have ih0 := impl_AddWide.mono_l k
  unfold impl_AddWide.f
  repeat' first
      | (with_reducible exact ih0 _ _ _ _ _ _ _)
      | (with_reducible exact impl_compareSizes.mono _ _ _ _ _ _ _)
      | (with_reducible exact LeO.refl _)
      | (with_reducible exact LeO.none _)
      | (with_reducible refine LeO.ite ?_ ?_)
      | (with_reducible refine LeO.bind ?_ (fun _ => ?_))
      | exact ih0 _ _ _ _ _ _ _
      | exact impl_compareSizes.mono _ _ _ _ _ _ _
      | exact LeO.none _
      | refine LeO.ite ?_ ?_
      | refine LeO.bind ?_ (fun _ => ?_)
set_option maxHeartbeats 8000000 in
set_option maxRecDepth 100000 in
theorem impl_AddWide.calls (k : Nat) (a0_0 : Bool) (a0_1 : Int) (a0_2 : Int) (a1_0 : Bool) (a1_1 : Int) (a1_2 : Int) (r1 : Bool) (r2 : Int) (r3 : Int) (r4 : Bool) (w : World) (h : impl_AddWide.f k a0_0 a0_1 a0_2 a1_0 a1_1 a1_2 = some (r1,r2,r3,r4)) :
    Calls Try.prog 49 #[.agg #[.bool a0_0,.int .u64 a0_1,.int .u64 a0_2],.agg #[.bool a1_0,.int .u64 a1_1,.int .u64 a1_2]] w fun e w' => e = .returned (.tuple #[.agg #[.bool r1,.int .u64 r2,.int .u64 r3],.bool r4]) ∧ Below w.heap.size w w' := by
  have hu28 := Try.underlying28
  have HB := Aside0.mk (Below.refl w.heap.size w)
  have H : ((impl_WideOk.f a0_0 a0_1 a0_2).bind fun t299 => (if t299 = true then ((impl_WideOk.f a1_0 a1_1 a1_2).bind fun t300 => (impl_AddWide.j0 k (!t300) a0_0 a0_1 a0_2 a1_0 a1_1 a1_2)) else (impl_AddWide.j0 k true a0_0 a0_1 a0_2 a1_0 a1_1 a1_2))) = some (r1,r2,r3,r4) := h
  clear h
  have HC3 := Aside0.mk H
  clear H
  go_enter Try.func49,Try.ntmps49
  go_upto_region 1 with (first | ((with_reducible refine gate_dst (N := 2) rfl ?_);refine box_event ?hg (N := 2) ?hd (cs := #[.bool a0_0,.int .u64 a0_1,.int .u64 a0_2]) (t := 28) ?hr ?_;(case hd => rfl);(case hg => rfl);(case hr => exact Z334);intro gb296 hg w4 hbox hb;have n_ := jA (below_step Z404 hb) (jA (hbox) (jA ((Z296 : w.heap.size ≤ gb296)) (Aside0.mk ((Z296 : w.heap.size ≤ gb296)))));clear HB;obtain ⟨HB,BK296,GW296,GE296⟩ := n_;clear hb hbox hg) | ((with_reducible refine gate_dst (N := 3) rfl ?_);refine box_event ?hg (N := 3) ?hd (cs := #[.bool a1_0,.int .u64 a1_1,.int .u64 a1_2]) (t := 28) ?hr ?_;(case hd => rfl);(case hg => rfl);(case hr => exact Z334);intro gb297 hg w5 hbox hb;have n_ := jA (blk_below (g := gb296) (o := .cells #[.bool a0_0,.int .u64 a0_1,.int .u64 a0_2] 28 (0,0)) Z414 hb) (jA (below_step Z396 hb) (jA (hbox) (jA ((Z286 : w.heap.size ≤ gb297)) (jA ((Z286 : w.heap.size ≤ gb297)) (jA ((Z221 : gb296 ≠ gb297)) (Aside0.mk ((Z224 : gb297 ≠ gb296))))))));clear BK296 HB;obtain ⟨BK296,HB,BK297,GW297,GE297,NB296_297,NB297_296⟩ := n_;clear hb hbox hg) | ((with_reducible refine gate_dst (N := 4) rfl ?_);refine box_event ?hg (N := 4) ?hd (cs := #[.bool false,.int .u64 0,.int .u64 0]) (t := 28) ?hr ?_;(case hd => rfl);(case hg => rfl);(case hr => exact Z334);intro gb298 hg w6 hbox hb;have n_ := jA (blk_below (g := gb296) (o := .cells #[.bool a0_0,.int .u64 a0_1,.int .u64 a0_2] 28 (0,0)) Z414 hb) (jA (blk_below (g := gb297) (o := .cells #[.bool a1_0,.int .u64 a1_1,.int .u64 a1_2] 28 (0,0)) Z418 hb) (jA (below_step Z375 hb) (jA (hbox) (jA ((Z190 : w.heap.size ≤ gb298)) (jA ((Z190 : w.heap.size ≤ gb298)) (jA ((Z221 : gb296 ≠ gb298)) (jA ((Z224 : gb298 ≠ gb296)) (jA ((Z226 : gb297 ≠ gb298)) (Aside0.mk ((Z229 : gb298 ≠ gb297)))))))))));clear BK296 BK297 HB;obtain ⟨BK296,BK297,HB,BK298,GW298,GE298,NB296_298,NB298_296,NB297_298,NB298_297⟩ := n_;clear hb hbox hg))
  (try simp only [Act.put,List.setIfInBounds_toArray,List.set_cons_zero,List.set_cons_succ])
  go_cut [22] (fun v22 wc => ∃ (kq : Nat) (x22_2 : Bool),v22 = .bool x22_2 ∧ Aside0 (impl_AddWide.j0 kq x22_2 a0_0 a0_1 a0_2 a1_0 a1_1 a1_2 = some (r1,r2,r3,r4)) ∧ Aside0 (kq ≤ k) ∧ Aside0 (wc.heap[gb296]? = some (.cells #[.bool a0_0,.int .u64 a0_1,.int .u64 a0_2] 28 (0,0))) ∧ Aside0 (wc.heap[gb297]? = some (.cells #[.bool a1_0,.int .u64 a1_1,.int .u64 a1_2] 28 (0,0))) ∧ Aside0 (wc.heap[gb298]? = some (.cells #[.bool false,.int .u64 0,.int .u64 0] 28 (0,0))) ∧ Aside0 (Below w.heap.size w wc))
  case first =>
    have H := HC3.out
    clear HC3
    obtain ⟨t299,A70,H⟩ := Option.bind_eq_some_iff.mp H
    have A7 := Aside0.mk A70
    clear A70
    by_cases c8 : t299 = true
    · subst c8
      have H1 : ((impl_WideOk.f a1_0 a1_1 a1_2).bind fun t300 => (impl_AddWide.j0 k (!t300) a0_0 a0_1 a0_2 a1_0 a1_1 a1_2)) = some (r1,r2,r3,r4) := by rw [if_pos rfl] at H;exact H
      clear H
      have H := H1
      clear H1
      obtain ⟨t300,A90,H⟩ := Option.bind_eq_some_iff.mp H
      have A9 := Aside0.mk A90
      clear A90
      have H' := Aside0.mk H
      clear H
      have hnb10 := NB296_297.out
      have hnc10 := NB297_296.out
      have hnb11 := NB296_298.out
      have hnc11 := NB298_296.out
      obtain ⟨hcz12_0,hcz12_1,hcz12_2,hfz12_0,hfz12_1,hfz12_2⟩ := impl_AddWide.cells3 BK296.out
      go_wp2_with (first | ((with_reducible refine gate_callee (f := 31) rfl ?_);refine goesL_ (some 16) rfl rfl Try.func31 Z337 rfl #[.agg #[.bool a0_0,.int .u64 a0_1,.int .u64 a0_2]] rfl Z304 ?_;(with_reducible refine (impl_WideOk.calls a0_0 a0_1 a0_2 true _ A7.out).mono ?_);rintro e w13 ⟨rfl,hb⟩;refine ⟨_,rfl,?_⟩;have n_ := jA (blk_below (g := gb296) (o := .cells #[.bool a0_0,.int .u64 a0_1,.int .u64 a0_2] 28 (0,0)) Z414 hb) (jA (blk_below (g := gb297) (o := .cells #[.bool a1_0,.int .u64 a1_1,.int .u64 a1_2] 28 (0,0)) Z418 hb) (jA (blk_below (g := gb298) (o := .cells #[.bool false,.int .u64 0,.int .u64 0] 28 (0,0)) Z421 hb) (Aside0.mk (below_step Z357 hb))));clear BK296 BK297 BK298 HB;obtain ⟨BK296,BK297,BK298,HB⟩ := n_;(try clear hb);(try clear hb2);(try clear hk);(try clear hi);have hnb14 := NB297_298.out;have hnc14 := NB298_297.out;obtain ⟨hcz15_0,hcz15_1,hcz15_2,hfz15_0,hfz15_1,hfz15_2⟩ := impl_AddWide.cells3 BK297.out) | (go_at_call 31;(with_reducible refine (impl_WideOk.calls a1_0 a1_1 a1_2 t300 _ A9.out).mono ?_);rintro e w16 ⟨rfl,hb⟩;have n_ := jA (blk_below (g := gb296) (o := .cells #[.bool a0_0,.int .u64 a0_1,.int .u64 a0_2] 28 (0,0)) Z414 hb) (jA (blk_below (g := gb297) (o := .cells #[.bool a1_0,.int .u64 a1_1,.int .u64 a1_2] 28 (0,0)) Z418 hb) (jA (blk_below (g := gb298) (o := .cells #[.bool false,.int .u64 0,.int .u64 0] 28 (0,0)) Z421 hb) (Aside0.mk (below_step Z357 hb))));clear BK296 BK297 BK298 HB;obtain ⟨BK296,BK297,BK298,HB⟩ := n_;(try clear hb);(try clear hb2);(try clear hk);(try clear hi)))
      go_meet
      case rel => exact ⟨_,(!t300),Z333,H',⟨Z335⟩,⟨Z414⟩,⟨Z418⟩,⟨Z421⟩,⟨Z357⟩⟩
    · replace c8 := Bool.eq_false_iff.mpr c8
      subst c8
      have H1 : (impl_AddWide.j0 k true a0_0 a0_1 a0_2 a1_0 a1_1 a1_2) = some (r1,r2,r3,r4) := by rw [if_neg (show ¬ (false = true) by decide)] at H;exact H
      clear H
      have H := H1
      clear H1
      have H' := Aside0.mk H
      clear H
      have hnb17 := NB296_297.out
      have hnc17 := NB297_296.out
      have hnb18 := NB296_298.out
      have hnc18 := NB298_296.out
      obtain ⟨hcz19_0,hcz19_1,hcz19_2,hfz19_0,hfz19_1,hfz19_2⟩ := impl_AddWide.cells3 BK296.out
      go_wp2_with (first | ((with_reducible refine gate_callee (f := 31) rfl ?_);refine goesL_ (some 16) rfl rfl Try.func31 Z337 rfl #[.agg #[.bool a0_0,.int .u64 a0_1,.int .u64 a0_2]] rfl Z304 ?_;(with_reducible refine (impl_WideOk.calls a0_0 a0_1 a0_2 false _ A7.out).mono ?_);rintro e w20 ⟨rfl,hb⟩;refine ⟨_,rfl,?_⟩;have n_ := jA (blk_below (g := gb296) (o := .cells #[.bool a0_0,.int .u64 a0_1,.int .u64 a0_2] 28 (0,0)) Z414 hb) (jA (blk_below (g := gb297) (o := .cells #[.bool a1_0,.int .u64 a1_1,.int .u64 a1_2] 28 (0,0)) Z418 hb) (jA (blk_below (g := gb298) (o := .cells #[.bool false,.int .u64 0,.int .u64 0] 28 (0,0)) Z421 hb) (Aside0.mk (below_step Z357 hb))));clear BK296 BK297 BK298 HB;obtain ⟨BK296,BK297,BK298,HB⟩ := n_;(try clear hb);(try clear hb2);(try clear hk);(try clear hi)))
      go_meet
      case rel => exact ⟨_,(true),Z333,H',⟨Z335⟩,⟨Z414⟩,⟨Z418⟩,⟨Z421⟩,⟨Z357⟩⟩
  case rest =>
    clear HC3
    try clear c1
    try clear p2
    try clear c3
    try clear c4
    try clear c8
    try clear c10
    try clear c11
    try clear c14
    try clear c17
    try clear c18
    try clear hcz12_0
    try clear hcz12_1
    try clear hcz12_2
    try clear hcz15_0
    try clear hcz15_1
    try clear hcz15_2
    try clear hcz19_0
    try clear hcz19_1
    try clear hcz19_2
    try clear hfz12_0
    try clear hfz12_1
    try clear hfz12_2
    try clear hfz15_0
    try clear hfz15_1
    try clear hfz15_2
    try clear hfz19_0
    try clear hfz19_1
    try clear hfz19_2
    obtain ⟨kq,x22_2,rfl,HA,HJ2,BK296,BK297,BK298,HB⟩ := hcut
    cases kq with
    | zero => exact absurd HA.out (by simp [impl_AddWide.j0])
    | succ kj2 =>
      have H := HA.out
      clear HA
      simp only [impl_AddWide.j0] at H
      by_cases c21 : x22_2 = true
      · subst c21
        have H1 : (some (false,0,0,false)) = some (r1,r2,r3,r4) := by rw [if_pos rfl] at H;exact H
        clear H
        have H := H1
        clear H1
        simp only [Option.some.injEq,Prod.mk.injEq] at H
        obtain ⟨rfl,rfl,rfl,rfl⟩ := H
        have hnb22 := NB298_296.out
        have hnc22 := NB296_298.out
        have hnb23 := NB298_297.out
        have hnc23 := NB297_298.out
        obtain ⟨hcz24_0,hcz24_1,hcz24_2,hfz24_0,hfz24_1,hfz24_2⟩ := impl_AddWide.cells3 BK298.out
        go_wp2
        refine bodyPost_ret (results_ct rfl _ _ gb298 28 #[.bool false,.int .u64 0,.int .u64 0] (0,0) _ rfl Z52 Try.underlying28 rfl Z337) rfl ?_
        exact ⟨Z329,Z357⟩
      · replace c21 := Bool.eq_false_iff.mpr c21
        subst c21
        have H1 : (if (a0_0 != a1_0) = true then ((impl_compareSizes.f kj2 a0_0 a0_1 a0_2 a1_0 a1_1 a1_2).bind fun t301 => (if t301 < 0 then ((bits_Sub64.f a1_2 a0_2 0).bind fun bt302 => ((bits_Sub64.f a1_1 a0_1 bt302.2).bind fun bt304 => ((impl_wideOf.f a1_0 bt304.1 bt302.1).bind fun bt306 => (some (bt306.1,bt306.2.1,bt306.2.2,true))))) else ((bits_Sub64.f a0_2 a1_2 0).bind fun bt309 => ((bits_Sub64.f a0_1 a1_1 bt309.2).bind fun bt311 => ((impl_wideOf.f a0_0 bt311.1 bt309.1).bind fun bt313 => (some (bt313.1,bt313.2.1,bt313.2.2,true))))))) else ((bits_Add64.f a0_2 a1_2 0).bind fun bt316 => ((bits_Add64.f a0_1 a1_1 bt316.2).bind fun bt318 => ((impl_wideOf.f a0_0 bt318.1 bt316.1).bind fun bt320 => ((impl_WideOk.f bt320.1 bt320.2.1 bt320.2.2).bind fun t324 => (if t324 = true then (some (bt320.1,bt320.2.1,bt320.2.2,true)) else (some (false,0,0,false)))))))) = some (r1,r2,r3,r4) := by rw [if_neg (show ¬ (false = true) by decide)] at H;exact H
        clear H
        have H := H1
        clear H1
        by_cases c25 : (a0_0 != a1_0) = true
        · rw [if_pos c25] at H
          have c25b0 : (a0_0 != a1_0) = true := c25
          (try (have c25b1 : decide (a0_0 = a1_0) = false := by simpa using c25))
          (try (have c25b2 : (a0_0 == a1_0) = false := by simpa using c25))
          (try (have c25b3 : ¬ (a0_0 = a1_0) := by simpa using c25))
          clear c25
          obtain ⟨t301,A260,H⟩ := Option.bind_eq_some_iff.mp H
          have A26 := Aside0.mk A260
          clear A260
          by_cases c27 : t301 < 0
          · rw [if_pos c27] at H
            have c27b0 : decide (t301 < 0) = true := decide_eq_true c27
            clear c27
            obtain ⟨⟨t302,t303⟩,A280,H⟩ := Option.bind_eq_some_iff.mp H
            try dsimp only at H
            have A28 := Aside0.mk A280
            clear A280
            obtain ⟨⟨t304,t305⟩,A290,H⟩ := Option.bind_eq_some_iff.mp H
            try dsimp only at H
            have A29 := Aside0.mk A290
            clear A290
            obtain ⟨⟨t306,t307,t308⟩,A300,H⟩ := Option.bind_eq_some_iff.mp H
            try dsimp only at H
            have A30 := Aside0.mk A300
            clear A300
            simp only [Option.some.injEq,Prod.mk.injEq] at H
            obtain ⟨rfl,rfl,rfl,rfl⟩ := H
            have hnb31 := NB296_297.out
            have hnc31 := NB297_296.out
            have hnb32 := NB296_298.out
            have hnc32 := NB298_296.out
            obtain ⟨hcz33_0,hcz33_1,hcz33_2,hfz33_0,hfz33_1,hfz33_2⟩ := impl_AddWide.cells3 BK296.out
            have hnb34 := NB297_298.out
            have hnc34 := NB298_297.out
            obtain ⟨hcz35_0,hcz35_1,hcz35_2,hfz35_0,hfz35_1,hfz35_2⟩ := impl_AddWide.cells3 BK297.out
            go_wp2_with (first | ((with_reducible refine gate_callee (f := 69) rfl ?_);refine goesL_ (some 31) rfl rfl Try.func69 Z337 rfl #[.agg #[.bool a0_0,.int .u64 a0_1,.int .u64 a0_2],.agg #[.bool a1_0,.int .u64 a1_1,.int .u64 a1_2]] rfl Z304 ?_;(with_reducible refine (impl_compareSizes.calls kj2 a0_0 a0_1 a0_2 a1_0 a1_1 a1_2 t301 _ A26.out).mono ?_);rintro e w36 ⟨rfl,hb⟩;refine ⟨_,rfl,?_⟩;have n_ := jA (blk_below (g := gb296) (o := .cells #[.bool a0_0,.int .u64 a0_1,.int .u64 a0_2] 28 (0,0)) Z414 hb) (jA (blk_below (g := gb297) (o := .cells #[.bool a1_0,.int .u64 a1_1,.int .u64 a1_2] 28 (0,0)) Z418 hb) (jA (blk_below (g := gb298) (o := .cells #[.bool false,.int .u64 0,.int .u64 0] 28 (0,0)) Z421 hb) (Aside0.mk (below_step Z357 hb))));clear BK296 BK297 BK298 HB;obtain ⟨BK296,BK297,BK298,HB⟩ := n_;(try clear hb);(try clear hb2);(try clear hk);(try clear hi);obtain ⟨hcz37_0,hcz37_1,hcz37_2,hfz37_0,hfz37_1,hfz37_2⟩ := impl_AddWide.cells3 BK297.out;obtain ⟨hcz38_0,hcz38_1,hcz38_2,hfz38_0,hfz38_1,hfz38_2⟩ := impl_AddWide.cells3 BK296.out) | (simp only [bits_Sub64.run a1_2 a0_2 0 t302 t303 A28.out]) | (simp only [bits_Sub64.run a1_1 a0_1 t303 t304 t305 A29.out]) | ((with_reducible refine gate_callee (f := 71) rfl ?_);refine goesL_ (some 56) rfl rfl Try.func71 Z337 rfl #[.bool a1_0,.int .u64 t304,.int .u64 t302] rfl Z304 ?_;(with_reducible refine (impl_wideOf.calls a1_0 t304 t302 t306 t307 t308 _ A30.out).mono ?_);rintro e w39 ⟨rfl,hb⟩;refine ⟨_,rfl,?_⟩;have n_ := jA (blk_below (g := gb296) (o := .cells #[.bool a1_0,.int .u64 a1_1,.int .u64 a1_2] 28 (0,0)) (by (with_reducible repeat (first | refine bA ?_ _ | refine bB ?_ | refine bC ?_ _));refine blk_far ?_ NB296_297.out _;(with_reducible repeat (first | refine bA ?_ _ | refine bB ?_ | refine bC ?_ _));refine blk_far ?_ NB296_297.out _;(with_reducible repeat (first | refine bA ?_ _ | refine bB ?_ | refine bC ?_ _));refine blk_far ?_ NB296_297.out _;(with_reducible repeat (first | refine bA ?_ _ | refine bB ?_ | refine bC ?_ _));refine blk_put (cs := #[.bool a1_0,.int .u64 a1_1,.int .u64 a0_2]) ?_ 2 _ rfl;(with_reducible repeat (first | refine bA ?_ _ | refine bB ?_ | refine bC ?_ _));refine blk_put (cs := #[.bool a1_0,.int .u64 a0_1,.int .u64 a0_2]) ?_ 1 _ rfl;(with_reducible repeat (first | refine bA ?_ _ | refine bB ?_ | refine bC ?_ _));refine blk_put (cs := #[.bool a0_0,.int .u64 a0_1,.int .u64 a0_2]) ?_ 0 _ rfl;(with_reducible repeat (first | refine bA ?_ _ | refine bB ?_ | refine bC ?_ _));exact BK296.out) hb) (jA (blk_below (g := gb297) (o := .cells #[.bool a0_0,.int .u64 a0_1,.int .u64 a0_2] 28 (0,0)) (by (with_reducible repeat (first | refine bA ?_ _ | refine bB ?_ | refine bC ?_ _));refine blk_put (cs := #[.bool a0_0,.int .u64 a0_1,.int .u64 a1_2]) ?_ 2 _ rfl;(with_reducible repeat (first | refine bA ?_ _ | refine bB ?_ | refine bC ?_ _));refine blk_put (cs := #[.bool a0_0,.int .u64 a1_1,.int .u64 a1_2]) ?_ 1 _ rfl;(with_reducible repeat (first | refine bA ?_ _ | refine bB ?_ | refine bC ?_ _));refine blk_put (cs := #[.bool a1_0,.int .u64 a1_1,.int .u64 a1_2]) ?_ 0 _ rfl;(with_reducible repeat (first | refine bA ?_ _ | refine bB ?_ | refine bC ?_ _));refine blk_far ?_ NB297_296.out _;(with_reducible repeat (first | refine bA ?_ _ | refine bB ?_ | refine bC ?_ _));refine blk_far ?_ NB297_296.out _;(with_reducible repeat (first | refine bA ?_ _ | refine bB ?_ | refine bC ?_ _));refine blk_far ?_ NB297_296.out _;(with_reducible repeat (first | refine bA ?_ _ | refine bB ?_ | refine bC ?_ _));exact BK297.out) hb) (jA (blk_below (g := gb298) (o := .cells #[.bool false,.int .u64 0,.int .u64 0] 28 (0,0)) (by (with_reducible repeat (first | refine bA ?_ _ | refine bB ?_ | refine bC ?_ _));refine blk_far ?_ NB298_297.out _;(with_reducible repeat (first | refine bA ?_ _ | refine bB ?_ | refine bC ?_ _));refine blk_far ?_ NB298_297.out _;(with_reducible repeat (first | refine bA ?_ _ | refine bB ?_ | refine bC ?_ _));refine blk_far ?_ NB298_297.out _;(with_reducible repeat (first | refine bA ?_ _ | refine bB ?_ | refine bC ?_ _));refine blk_far ?_ NB298_296.out _;(with_reducible repeat (first | refine bA ?_ _ | refine bB ?_ | refine bC ?_ _));refine blk_far ?_ NB298_296.out _;(with_reducible repeat (first | refine bA ?_ _ | refine bB ?_ | refine bC ?_ _));refine blk_far ?_ NB298_296.out _;(with_reducible repeat (first | refine bA ?_ _ | refine bB ?_ | refine bC ?_ _));exact BK298.out) hb) (Aside0.mk (below_step Z357 hb))));clear BK296 BK297 BK298 HB;obtain ⟨BK296,BK297,BK298,HB⟩ := n_;(try clear hb);(try clear hb2);(try clear hk);(try clear hi);obtain ⟨hcz40_0,hcz40_1,hcz40_2,hfz40_0,hfz40_1,hfz40_2⟩ := impl_AddWide.cells3 BK298.out))
            refine bodyPost_ret (results_ct rfl _ _ gb298 28 #[.bool t306,.int .u64 t307,.int .u64 t308] (0,0) _ rfl (by (with_reducible repeat (first | refine bA ?_ _ | refine bB ?_ | refine bC ?_ _));refine blk_put (cs := #[.bool t306,.int .u64 t307,.int .u64 0]) ?_ 2 _ rfl;(with_reducible repeat (first | refine bA ?_ _ | refine bB ?_ | refine bC ?_ _));refine blk_put (cs := #[.bool t306,.int .u64 0,.int .u64 0]) ?_ 1 _ rfl;(with_reducible repeat (first | refine bA ?_ _ | refine bB ?_ | refine bC ?_ _));refine blk_put (cs := #[.bool false,.int .u64 0,.int .u64 0]) ?_ 0 _ rfl;(with_reducible repeat (first | refine bA ?_ _ | refine bB ?_ | refine bC ?_ _));exact BK298.out) Try.underlying28 rfl Z337) rfl ?_
            exact ⟨Z329,Z357⟩
          · rw [if_neg c27] at H
            have c27b0 : decide (t301 < 0) = false := decide_eq_false c27
            clear c27
            obtain ⟨⟨t309,t310⟩,A410,H⟩ := Option.bind_eq_some_iff.mp H
            try dsimp only at H
            have A41 := Aside0.mk A410
            clear A410
            obtain ⟨⟨t311,t312⟩,A420,H⟩ := Option.bind_eq_some_iff.mp H
            try dsimp only at H
            have A42 := Aside0.mk A420
            clear A420
            obtain ⟨⟨t313,t314,t315⟩,A430,H⟩ := Option.bind_eq_some_iff.mp H
            try dsimp only at H
            have A43 := Aside0.mk A430
            clear A430
            simp only [Option.some.injEq,Prod.mk.injEq] at H
            obtain ⟨rfl,rfl,rfl,rfl⟩ := H
            have hnb44 := NB296_297.out
            have hnc44 := NB297_296.out
            have hnb45 := NB296_298.out
            have hnc45 := NB298_296.out
            obtain ⟨hcz46_0,hcz46_1,hcz46_2,hfz46_0,hfz46_1,hfz46_2⟩ := impl_AddWide.cells3 BK296.out
            have hnb47 := NB297_298.out
            have hnc47 := NB298_297.out
            obtain ⟨hcz48_0,hcz48_1,hcz48_2,hfz48_0,hfz48_1,hfz48_2⟩ := impl_AddWide.cells3 BK297.out
            go_wp2_with (first | ((with_reducible refine gate_callee (f := 69) rfl ?_);refine goesL_ (some 31) rfl rfl Try.func69 Z337 rfl #[.agg #[.bool a0_0,.int .u64 a0_1,.int .u64 a0_2],.agg #[.bool a1_0,.int .u64 a1_1,.int .u64 a1_2]] rfl Z304 ?_;(with_reducible refine (impl_compareSizes.calls kj2 a0_0 a0_1 a0_2 a1_0 a1_1 a1_2 t301 _ A26.out).mono ?_);rintro e w49 ⟨rfl,hb⟩;refine ⟨_,rfl,?_⟩;have n_ := jA (blk_below (g := gb296) (o := .cells #[.bool a0_0,.int .u64 a0_1,.int .u64 a0_2] 28 (0,0)) Z414 hb) (jA (blk_below (g := gb297) (o := .cells #[.bool a1_0,.int .u64 a1_1,.int .u64 a1_2] 28 (0,0)) Z418 hb) (jA (blk_below (g := gb298) (o := .cells #[.bool false,.int .u64 0,.int .u64 0] 28 (0,0)) Z421 hb) (Aside0.mk (below_step Z357 hb))));clear BK296 BK297 BK298 HB;obtain ⟨BK296,BK297,BK298,HB⟩ := n_;(try clear hb);(try clear hb2);(try clear hk);(try clear hi);obtain ⟨hcz50_0,hcz50_1,hcz50_2,hfz50_0,hfz50_1,hfz50_2⟩ := impl_AddWide.cells3 BK296.out;obtain ⟨hcz51_0,hcz51_1,hcz51_2,hfz51_0,hfz51_1,hfz51_2⟩ := impl_AddWide.cells3 BK297.out) | (simp only [bits_Sub64.run a0_2 a1_2 0 t309 t310 A41.out];(iterate 4 (try (rw [drewN_self w49];generalize hq_ : World.drewN w49 _ = w49;have n0_ : Aside0 (w49.heap[gb296]? = some (.cells #[.bool a0_0,.int .u64 a0_1,.int .u64 a0_2] 28 (0,0))) := ⟨Z312⟩;have n1_ : Aside0 (w49.heap[gb297]? = some (.cells #[.bool a1_0,.int .u64 a1_1,.int .u64 a1_2] 28 (0,0))) := ⟨Z311⟩;have n2_ : Aside0 (w49.heap[gb298]? = some (.cells #[.bool false,.int .u64 0,.int .u64 0] 28 (0,0))) := ⟨Z310⟩;have n3_ : Aside0 (Below w.heap.size w w49) := ⟨Z150⟩;clear BK296 BK297 BK298 HB hq_;have BK296 := n0_;have BK297 := n1_;have BK298 := n2_;have HB := n3_;clear n0_ n1_ n2_ n3_)));(try (obtain ⟨hcz50_0,hcz50_1,hcz50_2,hfz50_0,hfz50_1,hfz50_2⟩ := impl_AddWide.cells3 BK296.out));(try (obtain ⟨hcz51_0,hcz51_1,hcz51_2,hfz51_0,hfz51_1,hfz51_2⟩ := impl_AddWide.cells3 BK297.out))) | (simp only [bits_Sub64.run a0_1 a1_1 t310 t311 t312 A42.out];(iterate 4 (try (rw [drewN_self w49];generalize hq_ : World.drewN w49 _ = w49;have n0_ : Aside0 (w49.heap[gb296]? = some (.cells #[.bool a0_0,.int .u64 a0_1,.int .u64 a0_2] 28 (0,0))) := ⟨Z312⟩;have n1_ : Aside0 (w49.heap[gb297]? = some (.cells #[.bool a1_0,.int .u64 a1_1,.int .u64 a1_2] 28 (0,0))) := ⟨Z311⟩;have n2_ : Aside0 (w49.heap[gb298]? = some (.cells #[.bool false,.int .u64 0,.int .u64 0] 28 (0,0))) := ⟨Z310⟩;have n3_ : Aside0 (Below w.heap.size w w49) := ⟨Z150⟩;clear BK296 BK297 BK298 HB hq_;have BK296 := n0_;have BK297 := n1_;have BK298 := n2_;have HB := n3_;clear n0_ n1_ n2_ n3_)));(try (obtain ⟨hcz50_0,hcz50_1,hcz50_2,hfz50_0,hfz50_1,hfz50_2⟩ := impl_AddWide.cells3 BK296.out));(try (obtain ⟨hcz51_0,hcz51_1,hcz51_2,hfz51_0,hfz51_1,hfz51_2⟩ := impl_AddWide.cells3 BK297.out))) | ((with_reducible refine gate_callee (f := 71) rfl ?_);refine goesL_ (some 56) rfl rfl Try.func71 Z337 rfl #[.bool a0_0,.int .u64 t311,.int .u64 t309] rfl Z304 ?_;(with_reducible refine (impl_wideOf.calls a0_0 t311 t309 t313 t314 t315 _ A43.out).mono ?_);rintro e w52 ⟨rfl,hb⟩;refine ⟨_,rfl,?_⟩;have n_ := jA (blk_below (g := gb296) (o := .cells #[.bool a0_0,.int .u64 a0_1,.int .u64 a0_2] 28 (0,0)) Z414 hb) (jA (blk_below (g := gb297) (o := .cells #[.bool a1_0,.int .u64 a1_1,.int .u64 a1_2] 28 (0,0)) Z418 hb) (jA (blk_below (g := gb298) (o := .cells #[.bool false,.int .u64 0,.int .u64 0] 28 (0,0)) Z421 hb) (Aside0.mk (below_step Z357 hb))));clear BK296 BK297 BK298 HB;obtain ⟨BK296,BK297,BK298,HB⟩ := n_;(try clear hb);(try clear hb2);(try clear hk);(try clear hi);obtain ⟨hcz53_0,hcz53_1,hcz53_2,hfz53_0,hfz53_1,hfz53_2⟩ := impl_AddWide.cells3 BK298.out))
            refine bodyPost_ret (results_ct rfl _ _ gb298 28 #[.bool t313,.int .u64 t314,.int .u64 t315] (0,0) _ rfl (by (with_reducible repeat (first | refine bA ?_ _ | refine bB ?_ | refine bC ?_ _));refine blk_put (cs := #[.bool t313,.int .u64 t314,.int .u64 0]) ?_ 2 _ rfl;(with_reducible repeat (first | refine bA ?_ _ | refine bB ?_ | refine bC ?_ _));refine blk_put (cs := #[.bool t313,.int .u64 0,.int .u64 0]) ?_ 1 _ rfl;(with_reducible repeat (first | refine bA ?_ _ | refine bB ?_ | refine bC ?_ _));refine blk_put (cs := #[.bool false,.int .u64 0,.int .u64 0]) ?_ 0 _ rfl;(with_reducible repeat (first | refine bA ?_ _ | refine bB ?_ | refine bC ?_ _));exact BK298.out) Try.underlying28 rfl Z337) rfl ?_
            exact ⟨Z329,Z357⟩
        · rw [if_neg c25] at H
          have c25b0 : (a0_0 != a1_0) = false := by simpa using c25
          (try (have c25b1 : decide (a0_0 = a1_0) = true := by simpa using c25))
          (try (have c25b2 : (a0_0 == a1_0) = true := by simpa using c25))
          clear c25
          obtain ⟨⟨t316,t317⟩,A540,H⟩ := Option.bind_eq_some_iff.mp H
          try dsimp only at H
          have A54 := Aside0.mk A540
          clear A540
          obtain ⟨⟨t318,t319⟩,A550,H⟩ := Option.bind_eq_some_iff.mp H
          try dsimp only at H
          have A55 := Aside0.mk A550
          clear A550
          obtain ⟨⟨t320,t321,t322⟩,A560,H⟩ := Option.bind_eq_some_iff.mp H
          try dsimp only at H
          have A56 := Aside0.mk A560
          clear A560
          obtain ⟨t324,A570,H⟩ := Option.bind_eq_some_iff.mp H
          have A57 := Aside0.mk A570
          clear A570
          by_cases c58 : t324 = true
          · subst c58
            have H1 : (some (t320,t321,t322,true)) = some (r1,r2,r3,r4) := by rw [if_pos rfl] at H;exact H
            clear H
            have H := H1
            clear H1
            simp only [Option.some.injEq,Prod.mk.injEq] at H
            obtain ⟨rfl,rfl,rfl,rfl⟩ := H
            have hnb59 := NB296_297.out
            have hnc59 := NB297_296.out
            have hnb60 := NB296_298.out
            have hnc60 := NB298_296.out
            obtain ⟨hcz61_0,hcz61_1,hcz61_2,hfz61_0,hfz61_1,hfz61_2⟩ := impl_AddWide.cells3 BK296.out
            have hnb62 := NB297_298.out
            have hnc62 := NB298_297.out
            obtain ⟨hcz63_0,hcz63_1,hcz63_2,hfz63_0,hfz63_1,hfz63_2⟩ := impl_AddWide.cells3 BK297.out
            go_wp2_with (first | (simp only [bits_Add64.run a0_2 a1_2 0 t316 t317 A54.out];(iterate 4 (try (rw [drewN_self wc];generalize hq_ : World.drewN wc _ = wc;have n0_ : Aside0 (wc.heap[gb296]? = some (.cells #[.bool a0_0,.int .u64 a0_1,.int .u64 a0_2] 28 (0,0))) := ⟨Z312⟩;have n1_ : Aside0 (wc.heap[gb297]? = some (.cells #[.bool a1_0,.int .u64 a1_1,.int .u64 a1_2] 28 (0,0))) := ⟨Z311⟩;have n2_ : Aside0 (wc.heap[gb298]? = some (.cells #[.bool false,.int .u64 0,.int .u64 0] 28 (0,0))) := ⟨Z310⟩;have n3_ : Aside0 (Below w.heap.size w wc) := ⟨Z150⟩;clear BK296 BK297 BK298 HB hq_;have BK296 := n0_;have BK297 := n1_;have BK298 := n2_;have HB := n3_;clear n0_ n1_ n2_ n3_)));(try (obtain ⟨hcz61_0,hcz61_1,hcz61_2,hfz61_0,hfz61_1,hfz61_2⟩ := impl_AddWide.cells3 BK296.out));(try (obtain ⟨hcz63_0,hcz63_1,hcz63_2,hfz63_0,hfz63_1,hfz63_2⟩ := impl_AddWide.cells3 BK297.out))) | (simp only [bits_Add64.run a0_1 a1_1 t317 t318 t319 A55.out];(iterate 4 (try (rw [drewN_self wc];generalize hq_ : World.drewN wc _ = wc;have n0_ : Aside0 (wc.heap[gb296]? = some (.cells #[.bool a0_0,.int .u64 a0_1,.int .u64 a0_2] 28 (0,0))) := ⟨Z312⟩;have n1_ : Aside0 (wc.heap[gb297]? = some (.cells #[.bool a1_0,.int .u64 a1_1,.int .u64 a1_2] 28 (0,0))) := ⟨Z311⟩;have n2_ : Aside0 (wc.heap[gb298]? = some (.cells #[.bool false,.int .u64 0,.int .u64 0] 28 (0,0))) := ⟨Z310⟩;have n3_ : Aside0 (Below w.heap.size w wc) := ⟨Z150⟩;clear BK296 BK297 BK298 HB hq_;have BK296 := n0_;have BK297 := n1_;have BK298 := n2_;have HB := n3_;clear n0_ n1_ n2_ n3_)));(try (obtain ⟨hcz61_0,hcz61_1,hcz61_2,hfz61_0,hfz61_1,hfz61_2⟩ := impl_AddWide.cells3 BK296.out));(try (obtain ⟨hcz63_0,hcz63_1,hcz63_2,hfz63_0,hfz63_1,hfz63_2⟩ := impl_AddWide.cells3 BK297.out))) | ((with_reducible refine gate_callee (f := 71) rfl ?_);refine goesL_ (some 78) rfl rfl Try.func71 Z337 rfl #[.bool a0_0,.int .u64 t318,.int .u64 t316] rfl Z304 ?_;(with_reducible refine (impl_wideOf.calls a0_0 t318 t316 t320 t321 t322 _ A56.out).mono ?_);rintro e w64 ⟨rfl,hb⟩;refine ⟨_,rfl,?_⟩;have n_ := jA (blk_below (g := gb296) (o := .cells #[.bool a0_0,.int .u64 a0_1,.int .u64 a0_2] 28 (0,0)) Z414 hb) (jA (blk_below (g := gb297) (o := .cells #[.bool a1_0,.int .u64 a1_1,.int .u64 a1_2] 28 (0,0)) Z418 hb) (jA (blk_below (g := gb298) (o := .cells #[.bool false,.int .u64 0,.int .u64 0] 28 (0,0)) Z421 hb) (Aside0.mk (below_step Z357 hb))));clear BK296 BK297 BK298 HB;obtain ⟨BK296,BK297,BK298,HB⟩ := n_;(try clear hb);(try clear hb2);(try clear hk);(try clear hi)) | ((with_reducible refine gate_dst (N := 14) rfl ?_);refine box_event ?hg (N := 14) ?hd (cs := #[.bool false,.int .u64 0,.int .u64 0]) (t := 28) ?hr ?_;(case hd => rfl);(case hg => rfl);(case hr => exact Z334);intro gb323 hg w65 hbox hb;have n_ := jA (blk_below (g := gb296) (o := .cells #[.bool a0_0,.int .u64 a0_1,.int .u64 a0_2] 28 (0,0)) Z414 hb) (jA (blk_below (g := gb297) (o := .cells #[.bool a1_0,.int .u64 a1_1,.int .u64 a1_2] 28 (0,0)) Z418 hb) (jA (blk_below (g := gb298) (o := .cells #[.bool false,.int .u64 0,.int .u64 0] 28 (0,0)) Z421 hb) (jA (below_step Z357 hb) (jA (hbox) (jA ((Z147 : w.heap.size ≤ gb323)) (jA ((Z147 : w.heap.size ≤ gb323)) (jA ((Z221 : gb296 ≠ gb323)) (jA ((Z224 : gb323 ≠ gb296)) (jA ((Z226 : gb297 ≠ gb323)) (jA ((Z229 : gb323 ≠ gb297)) (jA ((Z258 : gb298 ≠ gb323)) (Aside0.mk ((Z259 : gb323 ≠ gb298))))))))))))));clear BK296 BK297 BK298 HB;obtain ⟨BK296,BK297,BK298,HB,BK323,GW323,GE323,NB296_323,NB323_296,NB297_323,NB323_297,NB298_323,NB323_298⟩ := n_;clear hb hbox hg;have hnb66 := NB323_296.out;have hnc66 := NB296_323.out;have hnb67 := NB323_297.out;have hnc67 := NB297_323.out;have hnb68 := NB323_298.out;have hnc68 := NB298_323.out;obtain ⟨hcz69_0,hcz69_1,hcz69_2,hfz69_0,hfz69_1,hfz69_2⟩ := impl_AddWide.cells3 BK323.out) | ((with_reducible refine gate_callee (f := 31) rfl ?_);refine goesL_ (some 80) rfl rfl Try.func31 Z337 rfl #[.agg #[.bool t320,.int .u64 t321,.int .u64 t322]] rfl Z304 ?_;(with_reducible refine (impl_WideOk.calls t320 t321 t322 true _ A57.out).mono ?_);rintro e w70 ⟨rfl,hb⟩;refine ⟨_,rfl,?_⟩;have n_ := jA (blk_below (g := gb296) (o := .cells #[.bool a0_0,.int .u64 a0_1,.int .u64 a0_2] 28 (0,0)) Z82 hb) (jA (blk_below (g := gb297) (o := .cells #[.bool a1_0,.int .u64 a1_1,.int .u64 a1_2] 28 (0,0)) Z81 hb) (jA (blk_below (g := gb298) (o := .cells #[.bool false,.int .u64 0,.int .u64 0] 28 (0,0)) Z80 hb) (jA (blk_below (g := gb323) (o := .cells #[.bool t320,.int .u64 t321,.int .u64 t322] 28 (0,0)) Z44 hb) (Aside0.mk (below_step Z144 hb)))));clear BK296 BK297 BK298 BK323 HB;obtain ⟨BK296,BK297,BK298,BK323,HB⟩ := n_;(try clear hb);(try clear hb2);(try clear hk);(try clear hi);obtain ⟨hcz71_0,hcz71_1,hcz71_2,hfz71_0,hfz71_1,hfz71_2⟩ := impl_AddWide.cells3 BK323.out;obtain ⟨hcz72_0,hcz72_1,hcz72_2,hfz72_0,hfz72_1,hfz72_2⟩ := impl_AddWide.cells3 BK298.out))
            refine bodyPost_ret (results_ct rfl _ _ gb298 28 #[.bool t320,.int .u64 t321,.int .u64 t322] (0,0) _ rfl (by (with_reducible repeat (first | refine bA ?_ _ | refine bB ?_ | refine bC ?_ _));refine blk_put (cs := #[.bool t320,.int .u64 t321,.int .u64 0]) ?_ 2 _ rfl;(with_reducible repeat (first | refine bA ?_ _ | refine bB ?_ | refine bC ?_ _));refine blk_put (cs := #[.bool t320,.int .u64 0,.int .u64 0]) ?_ 1 _ rfl;(with_reducible repeat (first | refine bA ?_ _ | refine bB ?_ | refine bC ?_ _));refine blk_put (cs := #[.bool false,.int .u64 0,.int .u64 0]) ?_ 0 _ rfl;(with_reducible repeat (first | refine bA ?_ _ | refine bB ?_ | refine bC ?_ _));exact BK298.out) Try.underlying28 rfl Z337) rfl ?_
            exact ⟨Z329,Z144⟩
          · replace c58 := Bool.eq_false_iff.mpr c58
            subst c58
            have H1 : (some (false,0,0,false)) = some (r1,r2,r3,r4) := by rw [if_neg (show ¬ (false = true) by decide)] at H;exact H
            clear H
            have H := H1
            clear H1
            simp only [Option.some.injEq,Prod.mk.injEq] at H
            obtain ⟨rfl,rfl,rfl,rfl⟩ := H
            have hnb73 := NB296_297.out
            have hnc73 := NB297_296.out
            have hnb74 := NB296_298.out
            have hnc74 := NB298_296.out
            obtain ⟨hcz75_0,hcz75_1,hcz75_2,hfz75_0,hfz75_1,hfz75_2⟩ := impl_AddWide.cells3 BK296.out
            have hnb76 := NB297_298.out
            have hnc76 := NB298_297.out
            obtain ⟨hcz77_0,hcz77_1,hcz77_2,hfz77_0,hfz77_1,hfz77_2⟩ := impl_AddWide.cells3 BK297.out
            go_wp2_with (first | (simp only [bits_Add64.run a0_2 a1_2 0 t316 t317 A54.out];(iterate 4 (try (rw [drewN_self wc];generalize hq_ : World.drewN wc _ = wc;have n0_ : Aside0 (wc.heap[gb296]? = some (.cells #[.bool a0_0,.int .u64 a0_1,.int .u64 a0_2] 28 (0,0))) := ⟨Z312⟩;have n1_ : Aside0 (wc.heap[gb297]? = some (.cells #[.bool a1_0,.int .u64 a1_1,.int .u64 a1_2] 28 (0,0))) := ⟨Z311⟩;have n2_ : Aside0 (wc.heap[gb298]? = some (.cells #[.bool false,.int .u64 0,.int .u64 0] 28 (0,0))) := ⟨Z310⟩;have n3_ : Aside0 (Below w.heap.size w wc) := ⟨Z150⟩;clear BK296 BK297 BK298 HB hq_;have BK296 := n0_;have BK297 := n1_;have BK298 := n2_;have HB := n3_;clear n0_ n1_ n2_ n3_)));(try (obtain ⟨hcz75_0,hcz75_1,hcz75_2,hfz75_0,hfz75_1,hfz75_2⟩ := impl_AddWide.cells3 BK296.out));(try (obtain ⟨hcz77_0,hcz77_1,hcz77_2,hfz77_0,hfz77_1,hfz77_2⟩ := impl_AddWide.cells3 BK297.out))) | (simp only [bits_Add64.run a0_1 a1_1 t317 t318 t319 A55.out];(iterate 4 (try (rw [drewN_self wc];generalize hq_ : World.drewN wc _ = wc;have n0_ : Aside0 (wc.heap[gb296]? = some (.cells #[.bool a0_0,.int .u64 a0_1,.int .u64 a0_2] 28 (0,0))) := ⟨Z312⟩;have n1_ : Aside0 (wc.heap[gb297]? = some (.cells #[.bool a1_0,.int .u64 a1_1,.int .u64 a1_2] 28 (0,0))) := ⟨Z311⟩;have n2_ : Aside0 (wc.heap[gb298]? = some (.cells #[.bool false,.int .u64 0,.int .u64 0] 28 (0,0))) := ⟨Z310⟩;have n3_ : Aside0 (Below w.heap.size w wc) := ⟨Z150⟩;clear BK296 BK297 BK298 HB hq_;have BK296 := n0_;have BK297 := n1_;have BK298 := n2_;have HB := n3_;clear n0_ n1_ n2_ n3_)));(try (obtain ⟨hcz75_0,hcz75_1,hcz75_2,hfz75_0,hfz75_1,hfz75_2⟩ := impl_AddWide.cells3 BK296.out));(try (obtain ⟨hcz77_0,hcz77_1,hcz77_2,hfz77_0,hfz77_1,hfz77_2⟩ := impl_AddWide.cells3 BK297.out))) | ((with_reducible refine gate_callee (f := 71) rfl ?_);refine goesL_ (some 78) rfl rfl Try.func71 Z337 rfl #[.bool a0_0,.int .u64 t318,.int .u64 t316] rfl Z304 ?_;(with_reducible refine (impl_wideOf.calls a0_0 t318 t316 t320 t321 t322 _ A56.out).mono ?_);rintro e w78 ⟨rfl,hb⟩;refine ⟨_,rfl,?_⟩;have n_ := jA (blk_below (g := gb296) (o := .cells #[.bool a0_0,.int .u64 a0_1,.int .u64 a0_2] 28 (0,0)) Z414 hb) (jA (blk_below (g := gb297) (o := .cells #[.bool a1_0,.int .u64 a1_1,.int .u64 a1_2] 28 (0,0)) Z418 hb) (jA (blk_below (g := gb298) (o := .cells #[.bool false,.int .u64 0,.int .u64 0] 28 (0,0)) Z421 hb) (Aside0.mk (below_step Z357 hb))));clear BK296 BK297 BK298 HB;obtain ⟨BK296,BK297,BK298,HB⟩ := n_;(try clear hb);(try clear hb2);(try clear hk);(try clear hi)) | ((with_reducible refine gate_dst (N := 14) rfl ?_);refine box_event ?hg (N := 14) ?hd (cs := #[.bool false,.int .u64 0,.int .u64 0]) (t := 28) ?hr ?_;(case hd => rfl);(case hg => rfl);(case hr => exact Z334);intro gb323 hg w79 hbox hb;have n_ := jA (blk_below (g := gb296) (o := .cells #[.bool a0_0,.int .u64 a0_1,.int .u64 a0_2] 28 (0,0)) Z414 hb) (jA (blk_below (g := gb297) (o := .cells #[.bool a1_0,.int .u64 a1_1,.int .u64 a1_2] 28 (0,0)) Z418 hb) (jA (blk_below (g := gb298) (o := .cells #[.bool false,.int .u64 0,.int .u64 0] 28 (0,0)) Z421 hb) (jA (below_step Z357 hb) (jA (hbox) (jA ((Z147 : w.heap.size ≤ gb323)) (jA ((Z147 : w.heap.size ≤ gb323)) (jA ((Z221 : gb296 ≠ gb323)) (jA ((Z224 : gb323 ≠ gb296)) (jA ((Z226 : gb297 ≠ gb323)) (jA ((Z229 : gb323 ≠ gb297)) (jA ((Z258 : gb298 ≠ gb323)) (Aside0.mk ((Z259 : gb323 ≠ gb298))))))))))))));clear BK296 BK297 BK298 HB;obtain ⟨BK296,BK297,BK298,HB,BK323,GW323,GE323,NB296_323,NB323_296,NB297_323,NB323_297,NB298_323,NB323_298⟩ := n_;clear hb hbox hg;have hnb80 := NB323_296.out;have hnc80 := NB296_323.out;have hnb81 := NB323_297.out;have hnc81 := NB297_323.out;have hnb82 := NB323_298.out;have hnc82 := NB298_323.out;obtain ⟨hcz83_0,hcz83_1,hcz83_2,hfz83_0,hfz83_1,hfz83_2⟩ := impl_AddWide.cells3 BK323.out) | ((with_reducible refine gate_callee (f := 31) rfl ?_);refine goesL_ (some 80) rfl rfl Try.func31 Z337 rfl #[.agg #[.bool t320,.int .u64 t321,.int .u64 t322]] rfl Z304 ?_;(with_reducible refine (impl_WideOk.calls t320 t321 t322 false _ A57.out).mono ?_);rintro e w84 ⟨rfl,hb⟩;refine ⟨_,rfl,?_⟩;have n_ := jA (blk_below (g := gb296) (o := .cells #[.bool a0_0,.int .u64 a0_1,.int .u64 a0_2] 28 (0,0)) Z82 hb) (jA (blk_below (g := gb297) (o := .cells #[.bool a1_0,.int .u64 a1_1,.int .u64 a1_2] 28 (0,0)) Z81 hb) (jA (blk_below (g := gb298) (o := .cells #[.bool false,.int .u64 0,.int .u64 0] 28 (0,0)) Z80 hb) (jA (blk_below (g := gb323) (o := .cells #[.bool t320,.int .u64 t321,.int .u64 t322] 28 (0,0)) Z44 hb) (Aside0.mk (below_step Z144 hb)))));clear BK296 BK297 BK298 BK323 HB;obtain ⟨BK296,BK297,BK298,BK323,HB⟩ := n_;(try clear hb);(try clear hb2);(try clear hk);(try clear hi);obtain ⟨hcz85_0,hcz85_1,hcz85_2,hfz85_0,hfz85_1,hfz85_2⟩ := impl_AddWide.cells3 BK298.out))
            refine bodyPost_ret (results_ct rfl _ _ gb298 28 #[.bool false,.int .u64 0,.int .u64 0] (0,0) _ rfl Z52 Try.underlying28 rfl Z337) rfl ?_
            exact ⟨Z329,Z144⟩

/-! ### impl_AddFrac: function 26 -/
theorem impl_AddFrac.cells3 {w : World} {g : Nat} {t : TypeId} {a0 a1 a2 : Value} (h : w.heap[g]? = some (.cells #[a0,a1,a2] t (0,0))) : w.cell? ⟨g,0,none⟩ = some a0 ∧ w.cell? ⟨g,1,none⟩ = some a1 ∧ w.cell? ⟨g,2,none⟩ = some a2 ∧ w.frozen? ⟨g,0,none⟩ = false ∧ w.frozen? ⟨g,1,none⟩ = false ∧ w.frozen? ⟨g,2,none⟩ = false := ⟨(blk_cell h 0).trans rfl,(blk_cell h 1).trans rfl,(blk_cell h 2).trans rfl,blk_frozen h 0,blk_frozen h 1,blk_frozen h 2⟩
theorem impl_AddFrac.cells4 {w : World} {g : Nat} {t : TypeId} {a0 a1 a2 a3 : Value} (h : w.heap[g]? = some (.cells #[a0,a1,a2,a3] t (0,0))) : w.cell? ⟨g,0,none⟩ = some a0 ∧ w.cell? ⟨g,1,none⟩ = some a1 ∧ w.cell? ⟨g,2,none⟩ = some a2 ∧ w.cell? ⟨g,3,none⟩ = some a3 ∧ w.frozen? ⟨g,0,none⟩ = false ∧ w.frozen? ⟨g,1,none⟩ = false ∧ w.frozen? ⟨g,2,none⟩ = false ∧ w.frozen? ⟨g,3,none⟩ = false := ⟨(blk_cell h 0).trans rfl,(blk_cell h 1).trans rfl,(blk_cell h 2).trans rfl,(blk_cell h 3).trans rfl,blk_frozen h 0,blk_frozen h 1,blk_frozen h 2,blk_frozen h 3⟩
def impl_AddFrac.f (k : Nat) (a0_0 : Bool) (a0_1 : Int) (a0_2 : Int) (a0_3 : Int) (a1_0 : Bool) (a1_1 : Int) (a1_2 : Int) (a1_3 : Int) : Option (Bool × Int × Int × Int × Bool) := (impl_crossed.f k a0_0 a0_1 a0_2 a0_3 a1_0 a1_1 a1_2 a1_3).bind fun bt328 => (if bt328.2.2.2.2.2.2 = true then ((impl_AddWide.f k bt328.1 bt328.2.1 bt328.2.2.1 bt328.2.2.2.1 bt328.2.2.2.2.1 bt328.2.2.2.2.2.1).bind fun bt337 => (if bt337.2.2.2 = true then ((impl_fracOf.f bt337.1 bt337.2.1 bt337.2.2.1 (wrap64 (a0_3 * a1_3))).bind fun bt342 => (some (bt342.1,bt342.2.1,bt342.2.2.1,bt342.2.2.2.1,bt342.2.2.2.2))) else (some (false,0,0,0,false)))) else (some (false,0,0,0,false)))
theorem impl_AddFrac.mono : ∀ a0 a1 a2 a3 a4 a5 a6 a7 k,LeO (impl_AddFrac.f k a0 a1 a2 a3 a4 a5 a6 a7) (impl_AddFrac.f (k + 1) a0 a1 a2 a3 a4 a5 a6 a7) := by
  intro a0 a1 a2 a3 a4 a5 a6 a7 k
  unfold impl_AddFrac.f
  repeat' first
      | (with_reducible exact impl_AddWide.mono _ _ _ _ _ _ _)
      | (with_reducible exact impl_crossed.mono _ _ _ _ _ _ _ _ _)
      | (with_reducible exact LeO.refl _)
      | (with_reducible exact LeO.none _)
      | (with_reducible refine LeO.ite ?_ ?_)
      | (with_reducible refine LeO.bind ?_ (fun _ => ?_))
      | exact impl_AddWide.mono _ _ _ _ _ _ _
      | exact impl_crossed.mono _ _ _ _ _ _ _ _ _
      | exact LeO.none _
      | refine LeO.ite ?_ ?_
      | refine LeO.bind ?_ (fun _ => ?_)
set_option maxHeartbeats 8000000 in
set_option maxRecDepth 100000 in
theorem impl_AddFrac.calls (k : Nat) (a0_0 : Bool) (a0_1 : Int) (a0_2 : Int) (a0_3 : Int) (a1_0 : Bool) (a1_1 : Int) (a1_2 : Int) (a1_3 : Int) (r1 : Bool) (r2 : Int) (r3 : Int) (r4 : Int) (r5 : Bool) (w : World) (h : impl_AddFrac.f k a0_0 a0_1 a0_2 a0_3 a1_0 a1_1 a1_2 a1_3 = some (r1,r2,r3,r4,r5)) :
    Calls Try.prog 26 #[.agg #[.bool a0_0,.int .u64 a0_1,.int .u64 a0_2,.int .i64 a0_3],.agg #[.bool a1_0,.int .u64 a1_1,.int .u64 a1_2,.int .i64 a1_3]] w fun e w' => e = .returned (.tuple #[.agg #[.bool r1,.int .u64 r2,.int .u64 r3,.int .i64 r4],.bool r5]) ∧ Below w.heap.size w w' := by
  have hu30 := Try.underlying30
  have hu28 := Try.underlying28
  have HB := Aside0.mk (Below.refl w.heap.size w)
  have H : ((impl_crossed.f k a0_0 a0_1 a0_2 a0_3 a1_0 a1_1 a1_2 a1_3).bind fun bt328 => (if bt328.2.2.2.2.2.2 = true then ((impl_AddWide.f k bt328.1 bt328.2.1 bt328.2.2.1 bt328.2.2.2.1 bt328.2.2.2.2.1 bt328.2.2.2.2.2.1).bind fun bt337 => (if bt337.2.2.2 = true then ((impl_fracOf.f bt337.1 bt337.2.1 bt337.2.2.1 (wrap64 (a0_3 * a1_3))).bind fun bt342 => (some (bt342.1,bt342.2.1,bt342.2.2.1,bt342.2.2.2.1,bt342.2.2.2.2))) else (some (false,0,0,0,false)))) else (some (false,0,0,0,false)))) = some (r1,r2,r3,r4,r5) := h
  clear h
  obtain ⟨⟨t328,t329,t330,t331,t332,t333,t334⟩,A30,H⟩ := Option.bind_eq_some_iff.mp H
  try dsimp only at H
  have A3 := Aside0.mk A30
  clear A30
  by_cases c4 : t334 = true
  · subst c4
    have H1 : ((impl_AddWide.f k t328 t329 t330 t331 t332 t333).bind fun bt337 => (if bt337.2.2.2 = true then ((impl_fracOf.f bt337.1 bt337.2.1 bt337.2.2.1 (wrap64 (a0_3 * a1_3))).bind fun bt342 => (some (bt342.1,bt342.2.1,bt342.2.2.1,bt342.2.2.2.1,bt342.2.2.2.2))) else (some (false,0,0,0,false)))) = some (r1,r2,r3,r4,r5) := by rw [if_pos rfl] at H;exact H
    clear H
    have H := H1
    clear H1
    obtain ⟨⟨t337,t338,t339,t340⟩,A50,H⟩ := Option.bind_eq_some_iff.mp H
    try dsimp only at H
    have A5 := Aside0.mk A50
    clear A50
    by_cases c6 : t340 = true
    · subst c6
      have H1 : ((impl_fracOf.f t337 t338 t339 (wrap64 (a0_3 * a1_3))).bind fun bt342 => (some (bt342.1,bt342.2.1,bt342.2.2.1,bt342.2.2.2.1,bt342.2.2.2.2))) = some (r1,r2,r3,r4,r5) := by rw [if_pos rfl] at H;exact H
      clear H
      have H := H1
      clear H1
      obtain ⟨⟨t342,t343,t344,t345,t346⟩,A70,H⟩ := Option.bind_eq_some_iff.mp H
      try dsimp only at H
      have A7 := Aside0.mk A70
      clear A70
      simp only [Option.some.injEq,Prod.mk.injEq] at H
      obtain ⟨rfl,rfl,rfl,rfl,rfl⟩ := H
      go_enter Try.func26,Try.ntmps26
      go_wp2_with (first | ((with_reducible refine gate_dst (N := 2) rfl ?_);refine box_event ?hg (N := 2) ?hd (cs := #[.bool a0_0,.int .u64 a0_1,.int .u64 a0_2,.int .i64 a0_3]) (t := 30) ?hr ?_;(case hd => rfl);(case hg => rfl);(case hr => exact Z334);intro gb325 hg w8 hbox hb;have n_ := jA (below_step Z404 hb) (jA (hbox) (jA ((Z296 : w.heap.size ≤ gb325)) (Aside0.mk ((Z296 : w.heap.size ≤ gb325)))));clear HB;obtain ⟨HB,BK325,GW325,GE325⟩ := n_;clear hb hbox hg) | ((with_reducible refine gate_dst (N := 3) rfl ?_);refine box_event ?hg (N := 3) ?hd (cs := #[.bool a1_0,.int .u64 a1_1,.int .u64 a1_2,.int .i64 a1_3]) (t := 30) ?hr ?_;(case hd => rfl);(case hg => rfl);(case hr => exact Z334);intro gb326 hg w9 hbox hb;have n_ := jA (blk_below (g := gb325) (o := .cells #[.bool a0_0,.int .u64 a0_1,.int .u64 a0_2,.int .i64 a0_3] 30 (0,0)) Z410 hb) (jA (below_step Z389 hb) (jA (hbox) (jA ((Z276 : w.heap.size ≤ gb326)) (jA ((Z276 : w.heap.size ≤ gb326)) (jA ((Z159 : gb325 ≠ gb326)) (Aside0.mk ((Z160 : gb326 ≠ gb325))))))));clear BK325 HB;obtain ⟨BK325,HB,BK326,GW326,GE326,NB325_326,NB326_325⟩ := n_;clear hb hbox hg) | ((with_reducible refine gate_dst (N := 4) rfl ?_);refine box_event ?hg (N := 4) ?hd (cs := #[.bool false,.int .u64 0,.int .u64 0,.int .i64 0]) (t := 30) ?hr ?_;(case hd => rfl);(case hg => rfl);(case hr => exact Z334);intro gb327 hg w10 hbox hb;have n_ := jA (blk_below (g := gb325) (o := .cells #[.bool a0_0,.int .u64 a0_1,.int .u64 a0_2,.int .i64 a0_3] 30 (0,0)) Z410 hb) (jA (blk_below (g := gb326) (o := .cells #[.bool a1_0,.int .u64 a1_1,.int .u64 a1_2,.int .i64 a1_3] 30 (0,0)) Z416 hb) (jA (below_step Z372 hb) (jA (hbox) (jA ((Z183 : w.heap.size ≤ gb327)) (jA ((Z183 : w.heap.size ≤ gb327)) (jA ((Z159 : gb325 ≠ gb327)) (jA ((Z160 : gb327 ≠ gb325)) (jA ((Z161 : gb326 ≠ gb327)) (Aside0.mk ((Z162 : gb327 ≠ gb326)))))))))));clear BK325 BK326 HB;obtain ⟨BK325,BK326,HB,BK327,GW327,GE327,NB325_327,NB327_325,NB326_327,NB327_326⟩ := n_;clear hb hbox hg;have hnb11 := NB325_326.out;have hnc11 := NB326_325.out;have hnb12 := NB325_327.out;have hnc12 := NB327_325.out;obtain ⟨hcz13_0,hcz13_1,hcz13_2,hcz13_3,hfz13_0,hfz13_1,hfz13_2,hfz13_3⟩ := impl_AddFrac.cells4 BK325.out;have hnb14 := NB326_327.out;have hnc14 := NB327_326.out;obtain ⟨hcz15_0,hcz15_1,hcz15_2,hcz15_3,hfz15_0,hfz15_1,hfz15_2,hfz15_3⟩ := impl_AddFrac.cells4 BK326.out) | ((with_reducible refine gate_callee (f := 48) rfl ?_);refine goesL_ (some 13) rfl rfl Try.func48 Z337 rfl #[.agg #[.bool a0_0,.int .u64 a0_1,.int .u64 a0_2,.int .i64 a0_3],.agg #[.bool a1_0,.int .u64 a1_1,.int .u64 a1_2,.int .i64 a1_3]] rfl Z304 ?_;(with_reducible refine (impl_crossed.calls k a0_0 a0_1 a0_2 a0_3 a1_0 a1_1 a1_2 a1_3 t328 t329 t330 t331 t332 t333 true _ A3.out).mono ?_);rintro e w16 ⟨rfl,hb⟩;refine ⟨_,rfl,?_⟩;have n_ := jA (blk_below (g := gb325) (o := .cells #[.bool a0_0,.int .u64 a0_1,.int .u64 a0_2,.int .i64 a0_3] 30 (0,0)) Z410 hb) (jA (blk_below (g := gb326) (o := .cells #[.bool a1_0,.int .u64 a1_1,.int .u64 a1_2,.int .i64 a1_3] 30 (0,0)) Z416 hb) (jA (blk_below (g := gb327) (o := .cells #[.bool false,.int .u64 0,.int .u64 0,.int .i64 0] 30 (0,0)) Z428 hb) (Aside0.mk (below_step Z361 hb))));clear BK325 BK326 BK327 HB;obtain ⟨BK325,BK326,BK327,HB⟩ := n_;(try clear hb);(try clear hb2);(try clear hk);(try clear hi)) | ((with_reducible refine gate_dst (N := 6) rfl ?_);refine box_event ?hg (N := 6) ?hd (cs := #[.bool false,.int .u64 0,.int .u64 0]) (t := 28) ?hr ?_;(case hd => rfl);(case hg => rfl);(case hr => exact Z334);intro gb335 hg w17 hbox hb;have n_ := jA (blk_below (g := gb325) (o := .cells #[.bool a0_0,.int .u64 a0_1,.int .u64 a0_2,.int .i64 a0_3] 30 (0,0)) Z410 hb) (jA (blk_below (g := gb326) (o := .cells #[.bool a1_0,.int .u64 a1_1,.int .u64 a1_2,.int .i64 a1_3] 30 (0,0)) Z416 hb) (jA (blk_below (g := gb327) (o := .cells #[.bool false,.int .u64 0,.int .u64 0,.int .i64 0] 30 (0,0)) Z428 hb) (jA (below_step Z361 hb) (jA (hbox) (jA ((Z142 : w.heap.size ≤ gb335)) (jA ((Z142 : w.heap.size ≤ gb335)) (jA ((Z159 : gb325 ≠ gb335)) (jA ((Z160 : gb335 ≠ gb325)) (jA ((Z161 : gb326 ≠ gb335)) (jA ((Z162 : gb335 ≠ gb326)) (jA ((Z198 : gb327 ≠ gb335)) (Aside0.mk ((Z199 : gb335 ≠ gb327))))))))))))));clear BK325 BK326 BK327 HB;obtain ⟨BK325,BK326,BK327,HB,BK335,GW335,GE335,NB325_335,NB335_325,NB326_335,NB335_326,NB327_335,NB335_327⟩ := n_;clear hb hbox hg) | ((with_reducible refine gate_dst (N := 7) rfl ?_);refine box_event ?hg (N := 7) ?hd (cs := #[.bool false,.int .u64 0,.int .u64 0]) (t := 28) ?hr ?_;(case hd => rfl);(case hg => rfl);(case hr => exact Z334);intro gb336 hg w18 hbox hb;have n_ := jA (blk_below (g := gb325) (o := .cells #[.bool a0_0,.int .u64 a0_1,.int .u64 a0_2,.int .i64 a0_3] 30 (0,0)) Z410 hb) (jA (blk_below (g := gb326) (o := .cells #[.bool a1_0,.int .u64 a1_1,.int .u64 a1_2,.int .i64 a1_3] 30 (0,0)) Z416 hb) (jA (blk_below (g := gb327) (o := .cells #[.bool false,.int .u64 0,.int .u64 0,.int .i64 0] 30 (0,0)) Z428 hb) (jA (blk_below (g := gb335) (o := .cells #[.bool false,.int .u64 0,.int .u64 0] 28 (0,0)) Z434 hb) (jA (below_step Z355 hb) (jA (hbox) (jA ((Z126 : w.heap.size ≤ gb336)) (jA ((Z126 : w.heap.size ≤ gb336)) (jA ((Z159 : gb325 ≠ gb336)) (jA ((Z160 : gb336 ≠ gb325)) (jA ((Z161 : gb326 ≠ gb336)) (jA ((Z162 : gb336 ≠ gb326)) (jA ((Z198 : gb327 ≠ gb336)) (jA ((Z199 : gb336 ≠ gb327)) (jA ((Z256 : gb335 ≠ gb336)) (Aside0.mk ((Z257 : gb336 ≠ gb335)))))))))))))))));clear BK325 BK326 BK327 BK335 HB;obtain ⟨BK325,BK326,BK327,BK335,HB,BK336,GW336,GE336,NB325_336,NB336_325,NB326_336,NB336_326,NB327_336,NB336_327,NB335_336,NB336_335⟩ := n_;clear hb hbox hg;have hnb19 := NB335_325.out;have hnc19 := NB325_335.out;have hnb20 := NB335_326.out;have hnc20 := NB326_335.out;have hnb21 := NB335_327.out;have hnc21 := NB327_335.out;have hnb22 := NB335_336.out;have hnc22 := NB336_335.out;obtain ⟨hcz23_0,hcz23_1,hcz23_2,hfz23_0,hfz23_1,hfz23_2⟩ := impl_AddFrac.cells3 BK335.out;have hnb24 := NB336_325.out;have hnc24 := NB325_336.out;have hnb25 := NB336_326.out;have hnc25 := NB326_336.out;have hnb26 := NB336_327.out;have hnc26 := NB327_336.out;obtain ⟨hcz27_0,hcz27_1,hcz27_2,hfz27_0,hfz27_1,hfz27_2⟩ := impl_AddFrac.cells3 BK336.out) | ((with_reducible refine gate_callee (f := 49) rfl ?_);refine goesL_ (some 23) rfl rfl Try.func49 Z337 rfl #[.agg #[.bool t328,.int .u64 t329,.int .u64 t330],.agg #[.bool t331,.int .u64 t332,.int .u64 t333]] rfl Z304 ?_;(with_reducible refine (impl_AddWide.calls k t328 t329 t330 t331 t332 t333 t337 t338 t339 true _ A5.out).mono ?_);rintro e w28 ⟨rfl,hb⟩;refine ⟨_,rfl,?_⟩;have n_ := jA (blk_below (g := gb325) (o := .cells #[.bool a0_0,.int .u64 a0_1,.int .u64 a0_2,.int .i64 a0_3] 30 (0,0)) Z19 hb) (jA (blk_below (g := gb326) (o := .cells #[.bool a1_0,.int .u64 a1_1,.int .u64 a1_2,.int .i64 a1_3] 30 (0,0)) Z18 hb) (jA (blk_below (g := gb327) (o := .cells #[.bool false,.int .u64 0,.int .u64 0,.int .i64 0] 30 (0,0)) Z17 hb) (jA (blk_below (g := gb335) (o := .cells #[.bool t328,.int .u64 t329,.int .u64 t330] 28 (0,0)) Z8 hb) (jA (blk_below (g := gb336) (o := .cells #[.bool t331,.int .u64 t332,.int .u64 t333] 28 (0,0)) Z5 hb) (Aside0.mk (below_step Z349 hb))))));clear BK325 BK326 BK327 BK335 BK336 HB;obtain ⟨BK325,BK326,BK327,BK335,BK336,HB⟩ := n_;(try clear hb);(try clear hb2);(try clear hk);(try clear hi)) | ((with_reducible refine gate_dst (N := 9) rfl ?_);refine box_event ?hg (N := 9) ?hd (cs := #[.bool false,.int .u64 0,.int .u64 0]) (t := 28) ?hr ?_;(case hd => rfl);(case hg => rfl);(case hr => exact Z334);intro gb341 hg w29 hbox hb;have n_ := jA (blk_below (g := gb325) (o := .cells #[.bool a0_0,.int .u64 a0_1,.int .u64 a0_2,.int .i64 a0_3] 30 (0,0)) Z410 hb) (jA (blk_below (g := gb326) (o := .cells #[.bool a1_0,.int .u64 a1_1,.int .u64 a1_2,.int .i64 a1_3] 30 (0,0)) Z416 hb) (jA (blk_below (g := gb327) (o := .cells #[.bool false,.int .u64 0,.int .u64 0,.int .i64 0] 30 (0,0)) Z428 hb) (jA (blk_below (g := gb335) (o := .cells #[.bool t328,.int .u64 t329,.int .u64 t330] 28 (0,0)) Z434 hb) (jA (blk_below (g := gb336) (o := .cells #[.bool t331,.int .u64 t332,.int .u64 t333] 28 (0,0)) Z447 hb) (jA (below_step Z349 hb) (jA (hbox) (jA ((Z118 : w.heap.size ≤ gb341)) (jA ((Z118 : w.heap.size ≤ gb341)) (jA ((Z159 : gb325 ≠ gb341)) (jA ((Z160 : gb341 ≠ gb325)) (jA ((Z161 : gb326 ≠ gb341)) (jA ((Z162 : gb341 ≠ gb326)) (jA ((Z198 : gb327 ≠ gb341)) (jA ((Z199 : gb341 ≠ gb327)) (jA ((Z233 : gb335 ≠ gb341)) (jA ((Z237 : gb341 ≠ gb335)) (jA ((Z232 : gb336 ≠ gb341)) (Aside0.mk ((Z236 : gb341 ≠ gb336))))))))))))))))))));clear BK325 BK326 BK327 BK335 BK336 HB;obtain ⟨BK325,BK326,BK327,BK335,BK336,HB,BK341,GW341,GE341,NB325_341,NB341_325,NB326_341,NB341_326,NB327_341,NB341_327,NB335_341,NB341_335,NB336_341,NB341_336⟩ := n_;clear hb hbox hg;have hnb30 := NB341_325.out;have hnc30 := NB325_341.out;have hnb31 := NB341_326.out;have hnc31 := NB326_341.out;have hnb32 := NB341_327.out;have hnc32 := NB327_341.out;have hnb33 := NB341_335.out;have hnc33 := NB335_341.out;have hnb34 := NB341_336.out;have hnc34 := NB336_341.out;obtain ⟨hcz35_0,hcz35_1,hcz35_2,hfz35_0,hfz35_1,hfz35_2⟩ := impl_AddFrac.cells3 BK341.out;obtain ⟨hcz36_0,hcz36_1,hcz36_2,hcz36_3,hfz36_0,hfz36_1,hfz36_2,hfz36_3⟩ := impl_AddFrac.cells4 BK325.out;obtain ⟨hcz37_0,hcz37_1,hcz37_2,hcz37_3,hfz37_0,hfz37_1,hfz37_2,hfz37_3⟩ := impl_AddFrac.cells4 BK326.out) | ((with_reducible refine gate_callee (f := 50) rfl ?_);refine goesL_ (some 35) rfl rfl Try.func50 Z337 rfl #[.agg #[.bool t337,.int .u64 t338,.int .u64 t339],.int .i64 (wrap64 (a0_3 * a1_3))] rfl Z304 ?_;(with_reducible refine (impl_fracOf.calls t337 t338 t339 (wrap64 (a0_3 * a1_3)) t342 t343 t344 t345 t346 _ A7.out).mono ?_);rintro e w38 ⟨rfl,hb⟩;refine ⟨_,rfl,?_⟩;have n_ := jA (blk_below (g := gb325) (o := .cells #[.bool a0_0,.int .u64 a0_1,.int .u64 a0_2,.int .i64 a0_3] 30 (0,0)) (by (with_reducible repeat (first | refine bA ?_ _ | refine bB ?_ | refine bC ?_ _));refine blk_far ?_ NB325_341.out _;(with_reducible repeat (first | refine bA ?_ _ | refine bB ?_ | refine bC ?_ _));refine blk_far ?_ NB325_341.out _;(with_reducible repeat (first | refine bA ?_ _ | refine bB ?_ | refine bC ?_ _));refine blk_far ?_ NB325_341.out _;(with_reducible repeat (first | refine bA ?_ _ | refine bB ?_ | refine bC ?_ _));exact BK325.out) hb) (jA (blk_below (g := gb326) (o := .cells #[.bool a1_0,.int .u64 a1_1,.int .u64 a1_2,.int .i64 a1_3] 30 (0,0)) (by (with_reducible repeat (first | refine bA ?_ _ | refine bB ?_ | refine bC ?_ _));refine blk_far ?_ NB326_341.out _;(with_reducible repeat (first | refine bA ?_ _ | refine bB ?_ | refine bC ?_ _));refine blk_far ?_ NB326_341.out _;(with_reducible repeat (first | refine bA ?_ _ | refine bB ?_ | refine bC ?_ _));refine blk_far ?_ NB326_341.out _;(with_reducible repeat (first | refine bA ?_ _ | refine bB ?_ | refine bC ?_ _));exact BK326.out) hb) (jA (blk_below (g := gb327) (o := .cells #[.bool false,.int .u64 0,.int .u64 0,.int .i64 0] 30 (0,0)) (by (with_reducible repeat (first | refine bA ?_ _ | refine bB ?_ | refine bC ?_ _));refine blk_far ?_ NB327_341.out _;(with_reducible repeat (first | refine bA ?_ _ | refine bB ?_ | refine bC ?_ _));refine blk_far ?_ NB327_341.out _;(with_reducible repeat (first | refine bA ?_ _ | refine bB ?_ | refine bC ?_ _));refine blk_far ?_ NB327_341.out _;(with_reducible repeat (first | refine bA ?_ _ | refine bB ?_ | refine bC ?_ _));exact BK327.out) hb) (jA (blk_below (g := gb335) (o := .cells #[.bool t328,.int .u64 t329,.int .u64 t330] 28 (0,0)) (by (with_reducible repeat (first | refine bA ?_ _ | refine bB ?_ | refine bC ?_ _));refine blk_far ?_ NB335_341.out _;(with_reducible repeat (first | refine bA ?_ _ | refine bB ?_ | refine bC ?_ _));refine blk_far ?_ NB335_341.out _;(with_reducible repeat (first | refine bA ?_ _ | refine bB ?_ | refine bC ?_ _));refine blk_far ?_ NB335_341.out _;(with_reducible repeat (first | refine bA ?_ _ | refine bB ?_ | refine bC ?_ _));exact BK335.out) hb) (jA (blk_below (g := gb336) (o := .cells #[.bool t331,.int .u64 t332,.int .u64 t333] 28 (0,0)) (by (with_reducible repeat (first | refine bA ?_ _ | refine bB ?_ | refine bC ?_ _));refine blk_far ?_ NB336_341.out _;(with_reducible repeat (first | refine bA ?_ _ | refine bB ?_ | refine bC ?_ _));refine blk_far ?_ NB336_341.out _;(with_reducible repeat (first | refine bA ?_ _ | refine bB ?_ | refine bC ?_ _));refine blk_far ?_ NB336_341.out _;(with_reducible repeat (first | refine bA ?_ _ | refine bB ?_ | refine bC ?_ _));exact BK336.out) hb) (jA (blk_below (g := gb341) (o := .cells #[.bool t337,.int .u64 t338,.int .u64 t339] 28 (0,0)) (by (with_reducible repeat (first | refine bA ?_ _ | refine bB ?_ | refine bC ?_ _));refine blk_put (cs := #[.bool t337,.int .u64 t338,.int .u64 0]) ?_ 2 _ rfl;(with_reducible repeat (first | refine bA ?_ _ | refine bB ?_ | refine bC ?_ _));refine blk_put (cs := #[.bool t337,.int .u64 0,.int .u64 0]) ?_ 1 _ rfl;(with_reducible repeat (first | refine bA ?_ _ | refine bB ?_ | refine bC ?_ _));refine blk_put (cs := #[.bool false,.int .u64 0,.int .u64 0]) ?_ 0 _ rfl;(with_reducible repeat (first | refine bA ?_ _ | refine bB ?_ | refine bC ?_ _));exact BK341.out) hb) (Aside0.mk (below_step Z123 hb)))))));clear BK325 BK326 BK327 BK335 BK336 BK341 HB;obtain ⟨BK325,BK326,BK327,BK335,BK336,BK341,HB⟩ := n_;(try clear hb);(try clear hb2);(try clear hk);(try clear hi);obtain ⟨hcz39_0,hcz39_1,hcz39_2,hcz39_3,hfz39_0,hfz39_1,hfz39_2,hfz39_3⟩ := impl_AddFrac.cells4 BK327.out))
      refine bodyPost_ret (results_ct rfl _ _ gb327 30 #[.bool t342,.int .u64 t343,.int .u64 t344,.int .i64 t345] (0,0) _ rfl (by (with_reducible repeat (first | refine bA ?_ _ | refine bB ?_ | refine bC ?_ _));refine blk_put (cs := #[.bool t342,.int .u64 t343,.int .u64 t344,.int .i64 0]) ?_ 3 _ rfl;(with_reducible repeat (first | refine bA ?_ _ | refine bB ?_ | refine bC ?_ _));refine blk_put (cs := #[.bool t342,.int .u64 t343,.int .u64 0,.int .i64 0]) ?_ 2 _ rfl;(with_reducible repeat (first | refine bA ?_ _ | refine bB ?_ | refine bC ?_ _));refine blk_put (cs := #[.bool t342,.int .u64 0,.int .u64 0,.int .i64 0]) ?_ 1 _ rfl;(with_reducible repeat (first | refine bA ?_ _ | refine bB ?_ | refine bC ?_ _));refine blk_put (cs := #[.bool false,.int .u64 0,.int .u64 0,.int .i64 0]) ?_ 0 _ rfl;(with_reducible repeat (first | refine bA ?_ _ | refine bB ?_ | refine bC ?_ _));exact BK327.out) Try.underlying30 rfl Z337) rfl ?_
      exact ⟨Z329,Z123⟩
    · replace c6 := Bool.eq_false_iff.mpr c6
      subst c6
      have H1 : (some (false,0,0,0,false)) = some (r1,r2,r3,r4,r5) := by rw [if_neg (show ¬ (false = true) by decide)] at H;exact H
      clear H
      have H := H1
      clear H1
      simp only [Option.some.injEq,Prod.mk.injEq] at H
      obtain ⟨rfl,rfl,rfl,rfl,rfl⟩ := H
      go_enter Try.func26,Try.ntmps26
      go_wp2_with (first | ((with_reducible refine gate_dst (N := 2) rfl ?_);refine box_event ?hg (N := 2) ?hd (cs := #[.bool a0_0,.int .u64 a0_1,.int .u64 a0_2,.int .i64 a0_3]) (t := 30) ?hr ?_;(case hd => rfl);(case hg => rfl);(case hr => exact Z334);intro gb325 hg w40 hbox hb;have n_ := jA (below_step Z404 hb) (jA (hbox) (jA ((Z296 : w.heap.size ≤ gb325)) (Aside0.mk ((Z296 : w.heap.size ≤ gb325)))));clear HB;obtain ⟨HB,BK325,GW325,GE325⟩ := n_;clear hb hbox hg) | ((with_reducible refine gate_dst (N := 3) rfl ?_);refine box_event ?hg (N := 3) ?hd (cs := #[.bool a1_0,.int .u64 a1_1,.int .u64 a1_2,.int .i64 a1_3]) (t := 30) ?hr ?_;(case hd => rfl);(case hg => rfl);(case hr => exact Z334);intro gb326 hg w41 hbox hb;have n_ := jA (blk_below (g := gb325) (o := .cells #[.bool a0_0,.int .u64 a0_1,.int .u64 a0_2,.int .i64 a0_3] 30 (0,0)) Z410 hb) (jA (below_step Z389 hb) (jA (hbox) (jA ((Z276 : w.heap.size ≤ gb326)) (jA ((Z276 : w.heap.size ≤ gb326)) (jA ((Z159 : gb325 ≠ gb326)) (Aside0.mk ((Z160 : gb326 ≠ gb325))))))));clear BK325 HB;obtain ⟨BK325,HB,BK326,GW326,GE326,NB325_326,NB326_325⟩ := n_;clear hb hbox hg) | ((with_reducible refine gate_dst (N := 4) rfl ?_);refine box_event ?hg (N := 4) ?hd (cs := #[.bool false,.int .u64 0,.int .u64 0,.int .i64 0]) (t := 30) ?hr ?_;(case hd => rfl);(case hg => rfl);(case hr => exact Z334);intro gb327 hg w42 hbox hb;have n_ := jA (blk_below (g := gb325) (o := .cells #[.bool a0_0,.int .u64 a0_1,.int .u64 a0_2,.int .i64 a0_3] 30 (0,0)) Z410 hb) (jA (blk_below (g := gb326) (o := .cells #[.bool a1_0,.int .u64 a1_1,.int .u64 a1_2,.int .i64 a1_3] 30 (0,0)) Z416 hb) (jA (below_step Z372 hb) (jA (hbox) (jA ((Z183 : w.heap.size ≤ gb327)) (jA ((Z183 : w.heap.size ≤ gb327)) (jA ((Z159 : gb325 ≠ gb327)) (jA ((Z160 : gb327 ≠ gb325)) (jA ((Z161 : gb326 ≠ gb327)) (Aside0.mk ((Z162 : gb327 ≠ gb326)))))))))));clear BK325 BK326 HB;obtain ⟨BK325,BK326,HB,BK327,GW327,GE327,NB325_327,NB327_325,NB326_327,NB327_326⟩ := n_;clear hb hbox hg;have hnb43 := NB325_326.out;have hnc43 := NB326_325.out;have hnb44 := NB325_327.out;have hnc44 := NB327_325.out;obtain ⟨hcz45_0,hcz45_1,hcz45_2,hcz45_3,hfz45_0,hfz45_1,hfz45_2,hfz45_3⟩ := impl_AddFrac.cells4 BK325.out;have hnb46 := NB326_327.out;have hnc46 := NB327_326.out;obtain ⟨hcz47_0,hcz47_1,hcz47_2,hcz47_3,hfz47_0,hfz47_1,hfz47_2,hfz47_3⟩ := impl_AddFrac.cells4 BK326.out) | ((with_reducible refine gate_callee (f := 48) rfl ?_);refine goesL_ (some 13) rfl rfl Try.func48 Z337 rfl #[.agg #[.bool a0_0,.int .u64 a0_1,.int .u64 a0_2,.int .i64 a0_3],.agg #[.bool a1_0,.int .u64 a1_1,.int .u64 a1_2,.int .i64 a1_3]] rfl Z304 ?_;(with_reducible refine (impl_crossed.calls k a0_0 a0_1 a0_2 a0_3 a1_0 a1_1 a1_2 a1_3 t328 t329 t330 t331 t332 t333 true _ A3.out).mono ?_);rintro e w48 ⟨rfl,hb⟩;refine ⟨_,rfl,?_⟩;have n_ := jA (blk_below (g := gb325) (o := .cells #[.bool a0_0,.int .u64 a0_1,.int .u64 a0_2,.int .i64 a0_3] 30 (0,0)) Z410 hb) (jA (blk_below (g := gb326) (o := .cells #[.bool a1_0,.int .u64 a1_1,.int .u64 a1_2,.int .i64 a1_3] 30 (0,0)) Z416 hb) (jA (blk_below (g := gb327) (o := .cells #[.bool false,.int .u64 0,.int .u64 0,.int .i64 0] 30 (0,0)) Z428 hb) (Aside0.mk (below_step Z361 hb))));clear BK325 BK326 BK327 HB;obtain ⟨BK325,BK326,BK327,HB⟩ := n_;(try clear hb);(try clear hb2);(try clear hk);(try clear hi)) | ((with_reducible refine gate_dst (N := 6) rfl ?_);refine box_event ?hg (N := 6) ?hd (cs := #[.bool false,.int .u64 0,.int .u64 0]) (t := 28) ?hr ?_;(case hd => rfl);(case hg => rfl);(case hr => exact Z334);intro gb335 hg w49 hbox hb;have n_ := jA (blk_below (g := gb325) (o := .cells #[.bool a0_0,.int .u64 a0_1,.int .u64 a0_2,.int .i64 a0_3] 30 (0,0)) Z410 hb) (jA (blk_below (g := gb326) (o := .cells #[.bool a1_0,.int .u64 a1_1,.int .u64 a1_2,.int .i64 a1_3] 30 (0,0)) Z416 hb) (jA (blk_below (g := gb327) (o := .cells #[.bool false,.int .u64 0,.int .u64 0,.int .i64 0] 30 (0,0)) Z428 hb) (jA (below_step Z361 hb) (jA (hbox) (jA ((Z142 : w.heap.size ≤ gb335)) (jA ((Z142 : w.heap.size ≤ gb335)) (jA ((Z159 : gb325 ≠ gb335)) (jA ((Z160 : gb335 ≠ gb325)) (jA ((Z161 : gb326 ≠ gb335)) (jA ((Z162 : gb335 ≠ gb326)) (jA ((Z198 : gb327 ≠ gb335)) (Aside0.mk ((Z199 : gb335 ≠ gb327))))))))))))));clear BK325 BK326 BK327 HB;obtain ⟨BK325,BK326,BK327,HB,BK335,GW335,GE335,NB325_335,NB335_325,NB326_335,NB335_326,NB327_335,NB335_327⟩ := n_;clear hb hbox hg) | ((with_reducible refine gate_dst (N := 7) rfl ?_);refine box_event ?hg (N := 7) ?hd (cs := #[.bool false,.int .u64 0,.int .u64 0]) (t := 28) ?hr ?_;(case hd => rfl);(case hg => rfl);(case hr => exact Z334);intro gb336 hg w50 hbox hb;have n_ := jA (blk_below (g := gb325) (o := .cells #[.bool a0_0,.int .u64 a0_1,.int .u64 a0_2,.int .i64 a0_3] 30 (0,0)) Z410 hb) (jA (blk_below (g := gb326) (o := .cells #[.bool a1_0,.int .u64 a1_1,.int .u64 a1_2,.int .i64 a1_3] 30 (0,0)) Z416 hb) (jA (blk_below (g := gb327) (o := .cells #[.bool false,.int .u64 0,.int .u64 0,.int .i64 0] 30 (0,0)) Z428 hb) (jA (blk_below (g := gb335) (o := .cells #[.bool false,.int .u64 0,.int .u64 0] 28 (0,0)) Z434 hb) (jA (below_step Z355 hb) (jA (hbox) (jA ((Z126 : w.heap.size ≤ gb336)) (jA ((Z126 : w.heap.size ≤ gb336)) (jA ((Z159 : gb325 ≠ gb336)) (jA ((Z160 : gb336 ≠ gb325)) (jA ((Z161 : gb326 ≠ gb336)) (jA ((Z162 : gb336 ≠ gb326)) (jA ((Z198 : gb327 ≠ gb336)) (jA ((Z199 : gb336 ≠ gb327)) (jA ((Z256 : gb335 ≠ gb336)) (Aside0.mk ((Z257 : gb336 ≠ gb335)))))))))))))))));clear BK325 BK326 BK327 BK335 HB;obtain ⟨BK325,BK326,BK327,BK335,HB,BK336,GW336,GE336,NB325_336,NB336_325,NB326_336,NB336_326,NB327_336,NB336_327,NB335_336,NB336_335⟩ := n_;clear hb hbox hg;have hnb51 := NB335_325.out;have hnc51 := NB325_335.out;have hnb52 := NB335_326.out;have hnc52 := NB326_335.out;have hnb53 := NB335_327.out;have hnc53 := NB327_335.out;have hnb54 := NB335_336.out;have hnc54 := NB336_335.out;obtain ⟨hcz55_0,hcz55_1,hcz55_2,hfz55_0,hfz55_1,hfz55_2⟩ := impl_AddFrac.cells3 BK335.out;have hnb56 := NB336_325.out;have hnc56 := NB325_336.out;have hnb57 := NB336_326.out;have hnc57 := NB326_336.out;have hnb58 := NB336_327.out;have hnc58 := NB327_336.out;obtain ⟨hcz59_0,hcz59_1,hcz59_2,hfz59_0,hfz59_1,hfz59_2⟩ := impl_AddFrac.cells3 BK336.out) | ((with_reducible refine gate_callee (f := 49) rfl ?_);refine goesL_ (some 23) rfl rfl Try.func49 Z337 rfl #[.agg #[.bool t328,.int .u64 t329,.int .u64 t330],.agg #[.bool t331,.int .u64 t332,.int .u64 t333]] rfl Z304 ?_;(with_reducible refine (impl_AddWide.calls k t328 t329 t330 t331 t332 t333 t337 t338 t339 false _ A5.out).mono ?_);rintro e w60 ⟨rfl,hb⟩;refine ⟨_,rfl,?_⟩;have n_ := jA (blk_below (g := gb325) (o := .cells #[.bool a0_0,.int .u64 a0_1,.int .u64 a0_2,.int .i64 a0_3] 30 (0,0)) Z19 hb) (jA (blk_below (g := gb326) (o := .cells #[.bool a1_0,.int .u64 a1_1,.int .u64 a1_2,.int .i64 a1_3] 30 (0,0)) Z18 hb) (jA (blk_below (g := gb327) (o := .cells #[.bool false,.int .u64 0,.int .u64 0,.int .i64 0] 30 (0,0)) Z17 hb) (jA (blk_below (g := gb335) (o := .cells #[.bool t328,.int .u64 t329,.int .u64 t330] 28 (0,0)) Z8 hb) (jA (blk_below (g := gb336) (o := .cells #[.bool t331,.int .u64 t332,.int .u64 t333] 28 (0,0)) Z5 hb) (Aside0.mk (below_step Z349 hb))))));clear BK325 BK326 BK327 BK335 BK336 HB;obtain ⟨BK325,BK326,BK327,BK335,BK336,HB⟩ := n_;(try clear hb);(try clear hb2);(try clear hk);(try clear hi)) | ((with_reducible refine gate_dst (N := 9) rfl ?_);refine box_event ?hg (N := 9) ?hd (cs := #[.bool false,.int .u64 0,.int .u64 0]) (t := 28) ?hr ?_;(case hd => rfl);(case hg => rfl);(case hr => exact Z334);intro gb341 hg w61 hbox hb;have n_ := jA (blk_below (g := gb325) (o := .cells #[.bool a0_0,.int .u64 a0_1,.int .u64 a0_2,.int .i64 a0_3] 30 (0,0)) Z410 hb) (jA (blk_below (g := gb326) (o := .cells #[.bool a1_0,.int .u64 a1_1,.int .u64 a1_2,.int .i64 a1_3] 30 (0,0)) Z416 hb) (jA (blk_below (g := gb327) (o := .cells #[.bool false,.int .u64 0,.int .u64 0,.int .i64 0] 30 (0,0)) Z428 hb) (jA (blk_below (g := gb335) (o := .cells #[.bool t328,.int .u64 t329,.int .u64 t330] 28 (0,0)) Z434 hb) (jA (blk_below (g := gb336) (o := .cells #[.bool t331,.int .u64 t332,.int .u64 t333] 28 (0,0)) Z447 hb) (jA (below_step Z349 hb) (jA (hbox) (jA ((Z118 : w.heap.size ≤ gb341)) (jA ((Z118 : w.heap.size ≤ gb341)) (jA ((Z159 : gb325 ≠ gb341)) (jA ((Z160 : gb341 ≠ gb325)) (jA ((Z161 : gb326 ≠ gb341)) (jA ((Z162 : gb341 ≠ gb326)) (jA ((Z198 : gb327 ≠ gb341)) (jA ((Z199 : gb341 ≠ gb327)) (jA ((Z233 : gb335 ≠ gb341)) (jA ((Z237 : gb341 ≠ gb335)) (jA ((Z232 : gb336 ≠ gb341)) (Aside0.mk ((Z236 : gb341 ≠ gb336))))))))))))))))))));clear BK325 BK326 BK327 BK335 BK336 HB;obtain ⟨BK325,BK326,BK327,BK335,BK336,HB,BK341,GW341,GE341,NB325_341,NB341_325,NB326_341,NB341_326,NB327_341,NB341_327,NB335_341,NB341_335,NB336_341,NB341_336⟩ := n_;clear hb hbox hg;have hnb62 := NB341_325.out;have hnc62 := NB325_341.out;have hnb63 := NB341_326.out;have hnc63 := NB326_341.out;have hnb64 := NB341_327.out;have hnc64 := NB327_341.out;have hnb65 := NB341_335.out;have hnc65 := NB335_341.out;have hnb66 := NB341_336.out;have hnc66 := NB336_341.out;obtain ⟨hcz67_0,hcz67_1,hcz67_2,hfz67_0,hfz67_1,hfz67_2⟩ := impl_AddFrac.cells3 BK341.out;obtain ⟨hcz68_0,hcz68_1,hcz68_2,hcz68_3,hfz68_0,hfz68_1,hfz68_2,hfz68_3⟩ := impl_AddFrac.cells4 BK327.out))
      refine bodyPost_ret (results_ct rfl _ _ gb327 30 #[.bool false,.int .u64 0,.int .u64 0,.int .i64 0] (0,0) _ rfl (by (with_reducible repeat (first | refine bA ?_ _ | refine bB ?_ | refine bC ?_ _));refine blk_put (cs := #[.bool false,.int .u64 0,.int .u64 0,.int .i64 0]) ?_ 3 _ rfl;(with_reducible repeat (first | refine bA ?_ _ | refine bB ?_ | refine bC ?_ _));refine blk_put (cs := #[.bool false,.int .u64 0,.int .u64 0,.int .i64 0]) ?_ 2 _ rfl;(with_reducible repeat (first | refine bA ?_ _ | refine bB ?_ | refine bC ?_ _));refine blk_put (cs := #[.bool false,.int .u64 0,.int .u64 0,.int .i64 0]) ?_ 1 _ rfl;(with_reducible repeat (first | refine bA ?_ _ | refine bB ?_ | refine bC ?_ _));refine blk_put (cs := #[.bool false,.int .u64 0,.int .u64 0,.int .i64 0]) ?_ 0 _ rfl;(with_reducible repeat (first | refine bA ?_ _ | refine bB ?_ | refine bC ?_ _));refine blk_far ?_ NB327_341.out _;(with_reducible repeat (first | refine bA ?_ _ | refine bB ?_ | refine bC ?_ _));refine blk_far ?_ NB327_341.out _;(with_reducible repeat (first | refine bA ?_ _ | refine bB ?_ | refine bC ?_ _));refine blk_far ?_ NB327_341.out _;(with_reducible repeat (first | refine bA ?_ _ | refine bB ?_ | refine bC ?_ _));exact BK327.out) Try.underlying30 rfl Z337) rfl ?_
      exact ⟨Z329,Z123⟩
  · replace c4 := Bool.eq_false_iff.mpr c4
    subst c4
    have H1 : (some (false,0,0,0,false)) = some (r1,r2,r3,r4,r5) := by rw [if_neg (show ¬ (false = true) by decide)] at H;exact H
    clear H
    have H := H1
    clear H1
    simp only [Option.some.injEq,Prod.mk.injEq] at H
    obtain ⟨rfl,rfl,rfl,rfl,rfl⟩ := H
    go_enter Try.func26,Try.ntmps26
    go_wp2_with (first | ((with_reducible refine gate_dst (N := 2) rfl ?_);refine box_event ?hg (N := 2) ?hd (cs := #[.bool a0_0,.int .u64 a0_1,.int .u64 a0_2,.int .i64 a0_3]) (t := 30) ?hr ?_;(case hd => rfl);(case hg => rfl);(case hr => exact Z334);intro gb325 hg w69 hbox hb;have n_ := jA (below_step Z404 hb) (jA (hbox) (jA ((Z296 : w.heap.size ≤ gb325)) (Aside0.mk ((Z296 : w.heap.size ≤ gb325)))));clear HB;obtain ⟨HB,BK325,GW325,GE325⟩ := n_;clear hb hbox hg) | ((with_reducible refine gate_dst (N := 3) rfl ?_);refine box_event ?hg (N := 3) ?hd (cs := #[.bool a1_0,.int .u64 a1_1,.int .u64 a1_2,.int .i64 a1_3]) (t := 30) ?hr ?_;(case hd => rfl);(case hg => rfl);(case hr => exact Z334);intro gb326 hg w70 hbox hb;have n_ := jA (blk_below (g := gb325) (o := .cells #[.bool a0_0,.int .u64 a0_1,.int .u64 a0_2,.int .i64 a0_3] 30 (0,0)) Z410 hb) (jA (below_step Z389 hb) (jA (hbox) (jA ((Z276 : w.heap.size ≤ gb326)) (jA ((Z276 : w.heap.size ≤ gb326)) (jA ((Z159 : gb325 ≠ gb326)) (Aside0.mk ((Z160 : gb326 ≠ gb325))))))));clear BK325 HB;obtain ⟨BK325,HB,BK326,GW326,GE326,NB325_326,NB326_325⟩ := n_;clear hb hbox hg) | ((with_reducible refine gate_dst (N := 4) rfl ?_);refine box_event ?hg (N := 4) ?hd (cs := #[.bool false,.int .u64 0,.int .u64 0,.int .i64 0]) (t := 30) ?hr ?_;(case hd => rfl);(case hg => rfl);(case hr => exact Z334);intro gb327 hg w71 hbox hb;have n_ := jA (blk_below (g := gb325) (o := .cells #[.bool a0_0,.int .u64 a0_1,.int .u64 a0_2,.int .i64 a0_3] 30 (0,0)) Z410 hb) (jA (blk_below (g := gb326) (o := .cells #[.bool a1_0,.int .u64 a1_1,.int .u64 a1_2,.int .i64 a1_3] 30 (0,0)) Z416 hb) (jA (below_step Z372 hb) (jA (hbox) (jA ((Z183 : w.heap.size ≤ gb327)) (jA ((Z183 : w.heap.size ≤ gb327)) (jA ((Z159 : gb325 ≠ gb327)) (jA ((Z160 : gb327 ≠ gb325)) (jA ((Z161 : gb326 ≠ gb327)) (Aside0.mk ((Z162 : gb327 ≠ gb326)))))))))));clear BK325 BK326 HB;obtain ⟨BK325,BK326,HB,BK327,GW327,GE327,NB325_327,NB327_325,NB326_327,NB327_326⟩ := n_;clear hb hbox hg;have hnb72 := NB325_326.out;have hnc72 := NB326_325.out;have hnb73 := NB325_327.out;have hnc73 := NB327_325.out;obtain ⟨hcz74_0,hcz74_1,hcz74_2,hcz74_3,hfz74_0,hfz74_1,hfz74_2,hfz74_3⟩ := impl_AddFrac.cells4 BK325.out;have hnb75 := NB326_327.out;have hnc75 := NB327_326.out;obtain ⟨hcz76_0,hcz76_1,hcz76_2,hcz76_3,hfz76_0,hfz76_1,hfz76_2,hfz76_3⟩ := impl_AddFrac.cells4 BK326.out) | ((with_reducible refine gate_callee (f := 48) rfl ?_);refine goesL_ (some 13) rfl rfl Try.func48 Z337 rfl #[.agg #[.bool a0_0,.int .u64 a0_1,.int .u64 a0_2,.int .i64 a0_3],.agg #[.bool a1_0,.int .u64 a1_1,.int .u64 a1_2,.int .i64 a1_3]] rfl Z304 ?_;(with_reducible refine (impl_crossed.calls k a0_0 a0_1 a0_2 a0_3 a1_0 a1_1 a1_2 a1_3 t328 t329 t330 t331 t332 t333 false _ A3.out).mono ?_);rintro e w77 ⟨rfl,hb⟩;refine ⟨_,rfl,?_⟩;have n_ := jA (blk_below (g := gb325) (o := .cells #[.bool a0_0,.int .u64 a0_1,.int .u64 a0_2,.int .i64 a0_3] 30 (0,0)) Z410 hb) (jA (blk_below (g := gb326) (o := .cells #[.bool a1_0,.int .u64 a1_1,.int .u64 a1_2,.int .i64 a1_3] 30 (0,0)) Z416 hb) (jA (blk_below (g := gb327) (o := .cells #[.bool false,.int .u64 0,.int .u64 0,.int .i64 0] 30 (0,0)) Z428 hb) (Aside0.mk (below_step Z361 hb))));clear BK325 BK326 BK327 HB;obtain ⟨BK325,BK326,BK327,HB⟩ := n_;(try clear hb);(try clear hb2);(try clear hk);(try clear hi)) | ((with_reducible refine gate_dst (N := 6) rfl ?_);refine box_event ?hg (N := 6) ?hd (cs := #[.bool false,.int .u64 0,.int .u64 0]) (t := 28) ?hr ?_;(case hd => rfl);(case hg => rfl);(case hr => exact Z334);intro gb335 hg w78 hbox hb;have n_ := jA (blk_below (g := gb325) (o := .cells #[.bool a0_0,.int .u64 a0_1,.int .u64 a0_2,.int .i64 a0_3] 30 (0,0)) Z410 hb) (jA (blk_below (g := gb326) (o := .cells #[.bool a1_0,.int .u64 a1_1,.int .u64 a1_2,.int .i64 a1_3] 30 (0,0)) Z416 hb) (jA (blk_below (g := gb327) (o := .cells #[.bool false,.int .u64 0,.int .u64 0,.int .i64 0] 30 (0,0)) Z428 hb) (jA (below_step Z361 hb) (jA (hbox) (jA ((Z142 : w.heap.size ≤ gb335)) (jA ((Z142 : w.heap.size ≤ gb335)) (jA ((Z159 : gb325 ≠ gb335)) (jA ((Z160 : gb335 ≠ gb325)) (jA ((Z161 : gb326 ≠ gb335)) (jA ((Z162 : gb335 ≠ gb326)) (jA ((Z198 : gb327 ≠ gb335)) (Aside0.mk ((Z199 : gb335 ≠ gb327))))))))))))));clear BK325 BK326 BK327 HB;obtain ⟨BK325,BK326,BK327,HB,BK335,GW335,GE335,NB325_335,NB335_325,NB326_335,NB335_326,NB327_335,NB335_327⟩ := n_;clear hb hbox hg) | ((with_reducible refine gate_dst (N := 7) rfl ?_);refine box_event ?hg (N := 7) ?hd (cs := #[.bool false,.int .u64 0,.int .u64 0]) (t := 28) ?hr ?_;(case hd => rfl);(case hg => rfl);(case hr => exact Z334);intro gb336 hg w79 hbox hb;have n_ := jA (blk_below (g := gb325) (o := .cells #[.bool a0_0,.int .u64 a0_1,.int .u64 a0_2,.int .i64 a0_3] 30 (0,0)) Z410 hb) (jA (blk_below (g := gb326) (o := .cells #[.bool a1_0,.int .u64 a1_1,.int .u64 a1_2,.int .i64 a1_3] 30 (0,0)) Z416 hb) (jA (blk_below (g := gb327) (o := .cells #[.bool false,.int .u64 0,.int .u64 0,.int .i64 0] 30 (0,0)) Z428 hb) (jA (blk_below (g := gb335) (o := .cells #[.bool false,.int .u64 0,.int .u64 0] 28 (0,0)) Z434 hb) (jA (below_step Z355 hb) (jA (hbox) (jA ((Z126 : w.heap.size ≤ gb336)) (jA ((Z126 : w.heap.size ≤ gb336)) (jA ((Z159 : gb325 ≠ gb336)) (jA ((Z160 : gb336 ≠ gb325)) (jA ((Z161 : gb326 ≠ gb336)) (jA ((Z162 : gb336 ≠ gb326)) (jA ((Z198 : gb327 ≠ gb336)) (jA ((Z199 : gb336 ≠ gb327)) (jA ((Z256 : gb335 ≠ gb336)) (Aside0.mk ((Z257 : gb336 ≠ gb335)))))))))))))))));clear BK325 BK326 BK327 BK335 HB;obtain ⟨BK325,BK326,BK327,BK335,HB,BK336,GW336,GE336,NB325_336,NB336_325,NB326_336,NB336_326,NB327_336,NB336_327,NB335_336,NB336_335⟩ := n_;clear hb hbox hg;have hnb80 := NB335_325.out;have hnc80 := NB325_335.out;have hnb81 := NB335_326.out;have hnc81 := NB326_335.out;have hnb82 := NB335_327.out;have hnc82 := NB327_335.out;have hnb83 := NB335_336.out;have hnc83 := NB336_335.out;obtain ⟨hcz84_0,hcz84_1,hcz84_2,hfz84_0,hfz84_1,hfz84_2⟩ := impl_AddFrac.cells3 BK335.out;have hnb85 := NB336_325.out;have hnc85 := NB325_336.out;have hnb86 := NB336_326.out;have hnc86 := NB326_336.out;have hnb87 := NB336_327.out;have hnc87 := NB327_336.out;obtain ⟨hcz88_0,hcz88_1,hcz88_2,hfz88_0,hfz88_1,hfz88_2⟩ := impl_AddFrac.cells3 BK336.out;obtain ⟨hcz89_0,hcz89_1,hcz89_2,hcz89_3,hfz89_0,hfz89_1,hfz89_2,hfz89_3⟩ := impl_AddFrac.cells4 BK327.out))
    refine bodyPost_ret (results_ct rfl _ _ gb327 30 #[.bool false,.int .u64 0,.int .u64 0,.int .i64 0] (0,0) _ rfl (by (with_reducible repeat (first | refine bA ?_ _ | refine bB ?_ | refine bC ?_ _));refine blk_put (cs := #[.bool false,.int .u64 0,.int .u64 0,.int .i64 0]) ?_ 3 _ rfl;(with_reducible repeat (first | refine bA ?_ _ | refine bB ?_ | refine bC ?_ _));refine blk_put (cs := #[.bool false,.int .u64 0,.int .u64 0,.int .i64 0]) ?_ 2 _ rfl;(with_reducible repeat (first | refine bA ?_ _ | refine bB ?_ | refine bC ?_ _));refine blk_put (cs := #[.bool false,.int .u64 0,.int .u64 0,.int .i64 0]) ?_ 1 _ rfl;(with_reducible repeat (first | refine bA ?_ _ | refine bB ?_ | refine bC ?_ _));refine blk_put (cs := #[.bool false,.int .u64 0,.int .u64 0,.int .i64 0]) ?_ 0 _ rfl;(with_reducible repeat (first | refine bA ?_ _ | refine bB ?_ | refine bC ?_ _));refine blk_far ?_ NB327_336.out _;(with_reducible repeat (first | refine bA ?_ _ | refine bB ?_ | refine bC ?_ _));refine blk_far ?_ NB327_336.out _;(with_reducible repeat (first | refine bA ?_ _ | refine bB ?_ | refine bC ?_ _));refine blk_far ?_ NB327_336.out _;(with_reducible repeat (first | refine bA ?_ _ | refine bB ?_ | refine bC ?_ _));refine blk_far ?_ NB327_335.out _;(with_reducible repeat (first | refine bA ?_ _ | refine bB ?_ | refine bC ?_ _));refine blk_far ?_ NB327_335.out _;(with_reducible repeat (first | refine bA ?_ _ | refine bB ?_ | refine bC ?_ _));refine blk_far ?_ NB327_335.out _;(with_reducible repeat (first | refine bA ?_ _ | refine bB ?_ | refine bC ?_ _));exact BK327.out) Try.underlying30 rfl Z337) rfl ?_
    exact ⟨Z329,Z349⟩

end Go.Proofs.Ytjcjehnjbgklbaa.QFnExactGainOf
