/- The machine side of FnCands: what each Go function that it reaches comes to. Conditions: none. -/
import Derived.Test.YtpcffnhffboccaaQFnCandsx0
import Derived.Test.YtpcffnhffboccaaQFnCandsx1
import Derived.Test.YtpcffnhffboccaaQFnCandsx2
import Derived.Test.YtpcffnhffboccaaQFnCandsx3
import Derived.Test.YtpcffnhffboccaaQFnCandsx4
import Derived.Test.YtpcffnhffboccaaQFnCandsx5
import Derived.Test.YtpcffnhffboccaaQFnCandsx6
import Derived.Test.YtpcffnhffboccaaQFnCandsx7
namespace Go.Proofs.Ytpcffnhffboccaa.QFnCands
open Go.RowKit Go.Proofs.YtpcffnhffboccaaW.PrintWords Go.Proofs.YtpcffnhffboccaaW.PrintLast Go.Proofs.YtpcffnhffboccaaW.PrintMore
attribute [local go_sem] max2_int min2_int max_two min_two max_three min_three max_four min_four   -- for this text's walks alone
set_option linter.unusedVariables false
set_option linter.unusedSimpArgs false

attribute [local go_sem high] eqA32
/-! ### laws_FnCands: function 4 -/
mutual
def laws_FnCands.l0 : Nat → List (List (S32)) → Int → List (S41) → Int → Option (Bool)
  | 0, _, _, _, _ => none
  | k + 1, x3, x4, x5, x6 => if x6 < (x5.length : Int) then (if 0 ≤ x6 then (if ((rd_T41 x5 x6).f0) < 0 then (laws_FnCands.j1 k x3 x4 x5 x6 true ((rd_T41 x5 x6).f0) ((rd_T41 x5 x6).f1) ((rd_T41 x5 x6).f2.f0) ((rd_T41 x5 x6).f2.f1) ((rd_T41 x5 x6).f3.f0) ((rd_T41 x5 x6).f3.f1)) else (if ((rd_T41 x5 x6).f0) ≥ (x3.length : Int) then (laws_FnCands.j1 k x3 x4 x5 x6 true ((rd_T41 x5 x6).f0) ((rd_T41 x5 x6).f1) ((rd_T41 x5 x6).f2.f0) ((rd_T41 x5 x6).f2.f1) ((rd_T41 x5 x6).f3.f0) ((rd_T41 x5 x6).f3.f1)) else (if ((rd_T41 x5 x6).f1) < 0 then (laws_FnCands.j1 k x3 x4 x5 x6 true ((rd_T41 x5 x6).f0) ((rd_T41 x5 x6).f1) ((rd_T41 x5 x6).f2.f0) ((rd_T41 x5 x6).f2.f1) ((rd_T41 x5 x6).f3.f0) ((rd_T41 x5 x6).f3.f1)) else (if 0 ≤ ((rd_T41 x5 x6).f0) then (if ((rd_T41 x5 x6).f0) < (x3.length : Int) then (if (wrap64 (((rd_T41 x5 x6).f1) + 1)) ≥ ((rd_L3 x3 ((rd_T41 x5 x6).f0)).length : Int) then (laws_FnCands.j1 k x3 x4 x5 x6 true ((rd_T41 x5 x6).f0) ((rd_T41 x5 x6).f1) ((rd_T41 x5 x6).f2.f0) ((rd_T41 x5 x6).f2.f1) ((rd_T41 x5 x6).f3.f0) ((rd_T41 x5 x6).f3.f1)) else (if ((rd_T41 x5 x6).f2.f0) < x4 then (laws_FnCands.j1 k x3 x4 x5 x6 true ((rd_T41 x5 x6).f0) ((rd_T41 x5 x6).f1) ((rd_T41 x5 x6).f2.f0) ((rd_T41 x5 x6).f2.f1) ((rd_T41 x5 x6).f3.f0) ((rd_T41 x5 x6).f3.f1)) else (laws_FnCands.j1 k x3 x4 x5 x6 (decide (((rd_T41 x5 x6).f3.f0) < x4)) ((rd_T41 x5 x6).f0) ((rd_T41 x5 x6).f1) ((rd_T41 x5 x6).f2.f0) ((rd_T41 x5 x6).f2.f1) ((rd_T41 x5 x6).f3.f0) ((rd_T41 x5 x6).f3.f1)))) else (none)) else (none))))) else (none)) else (some true)
def laws_FnCands.j1 : Nat → List (List (S32)) → Int → List (S41) → Int → Bool → Int → Int → Int → Int → Int → Int → Option (Bool)
  | 0, _, _, _, _, _, _, _, _, _, _, _ => none
  | k + 1, x3, x4, x5, x6, x79, x327000, x327001, x327002, x327003, x327004, x327005 => if x79 = true then (some false) else (if 0 ≤ x327000 then (if x327000 < (x3.length : Int) then ((spec_TotalOf.f k (rd_L3 x3 x327000)).bind fun bt329 => ((impl_BothOf.f x327000 x327001 x327002 x327003 x327004 x327005).bind fun bt333 => (if bt333.2.2 = true then (if (!(bt333.1 == bt329.1) || (!(bt333.2.1 == bt329.2.1))) = true then (some false) else (if x6 > 0 then (if 0 ≤ (wrap64 (x6 - 1)) then (if (wrap64 (x6 - 1)) < (x5.length : Int) then ((impl_CandLess.f k ((rd_T41 x5 (wrap64 (x6 - 1))).f0) ((rd_T41 x5 (wrap64 (x6 - 1))).f1) ((rd_T41 x5 (wrap64 (x6 - 1))).f2.f0) ((rd_T41 x5 (wrap64 (x6 - 1))).f2.f1) ((rd_T41 x5 (wrap64 (x6 - 1))).f3.f0) ((rd_T41 x5 (wrap64 (x6 - 1))).f3.f1) x327000 x327001 x327002 x327003 x327004 x327005).bind fun t338 => (if t338 = true then (laws_FnCands.l0 k x3 x4 x5 (wrap64 (x6 + 1))) else (some false))) else (none)) else (none)) else (laws_FnCands.l0 k x3 x4 x5 (wrap64 (x6 + 1))))) else (some false)))) else (none)) else (none))
end
def laws_FnCands.f (k : Nat) (l0 : List Int) : Option (Bool) := (laws_big.f l0).bind fun t314 => (if t314 = true then (some true) else ((spec_DrawCandsOf.f k l0).bind fun bt315 => ((impl_CandsOf.f k bt315.1 bt315.2).bind fun t319 => ((spec_CandsOf.f k bt315.1 bt315.2).bind fun t322 => (if (t319.length : Int) = (t322.length : Int) then (laws_FnCands.l0 k bt315.1 bt315.2 t319 0) else (some false))))))
theorem laws_FnCands.mono_l : ∀ k, (∀ y0 y1 y2 y3, LeO (laws_FnCands.l0 k y0 y1 y2 y3) (laws_FnCands.l0 (k + 1) y0 y1 y2 y3)) ∧ (∀ y0 y1 y2 y3 y4 y5 y6 y7 y8 y9 y10, LeO (laws_FnCands.j1 k y0 y1 y2 y3 y4 y5 y6 y7 y8 y9 y10) (laws_FnCands.j1 (k + 1) y0 y1 y2 y3 y4 y5 y6 y7 y8 y9 y10))
  | 0 => ⟨fun _ _ _ _ r h => by simp [laws_FnCands.l0] at h, fun _ _ _ _ _ _ _ _ _ _ _ r h => by simp [laws_FnCands.j1] at h⟩
  | k + 1 => by
    obtain ⟨ih0, ih1⟩ := laws_FnCands.mono_l k
    refine ⟨?_, ?_⟩
    · intro y0 y1 y2 y3
      unfold laws_FnCands.l0
      repeat' first
      | (with_reducible exact ih0 _ _ _ _)
      | (with_reducible exact ih1 _ _ _ _ _ _ _ _ _ _ _)
      | (with_reducible exact impl_CandLess.mono _ _ _ _ _ _ _ _ _ _ _ _ _)
      | (with_reducible exact impl_CandsOf.mono _ _ _)
      | (with_reducible exact spec_CandsOf.mono _ _ _)
      | (with_reducible exact spec_DrawCandsOf.mono _ _)
      | (with_reducible exact spec_TotalOf.mono _ _)
      | (with_reducible exact LeO.refl _)
      | (with_reducible exact LeO.none _)
      | (with_reducible refine LeO.ite ?_ ?_)
      | (with_reducible refine LeO.bind ?_ (fun _ => ?_))
      | exact ih0 _ _ _ _
      | exact ih1 _ _ _ _ _ _ _ _ _ _ _
      | exact impl_CandLess.mono _ _ _ _ _ _ _ _ _ _ _ _ _
      | exact impl_CandsOf.mono _ _ _
      | exact spec_CandsOf.mono _ _ _
      | exact spec_DrawCandsOf.mono _ _
      | exact spec_TotalOf.mono _ _
      | exact LeO.none _
      | refine LeO.ite ?_ ?_
      | refine LeO.bind ?_ (fun _ => ?_)
    · intro y0 y1 y2 y3 y4 y5 y6 y7 y8 y9 y10
      unfold laws_FnCands.j1
      repeat' first
      | (with_reducible exact ih0 _ _ _ _)
      | (with_reducible exact ih1 _ _ _ _ _ _ _ _ _ _ _)
      | (with_reducible exact impl_CandLess.mono _ _ _ _ _ _ _ _ _ _ _ _ _)
      | (with_reducible exact impl_CandsOf.mono _ _ _)
      | (with_reducible exact spec_CandsOf.mono _ _ _)
      | (with_reducible exact spec_DrawCandsOf.mono _ _)
      | (with_reducible exact spec_TotalOf.mono _ _)
      | (with_reducible exact LeO.refl _)
      | (with_reducible exact LeO.none _)
      | (with_reducible refine LeO.ite ?_ ?_)
      | (with_reducible refine LeO.bind ?_ (fun _ => ?_))
      | exact ih0 _ _ _ _
      | exact ih1 _ _ _ _ _ _ _ _ _ _ _
      | exact impl_CandLess.mono _ _ _ _ _ _ _ _ _ _ _ _ _
      | exact impl_CandsOf.mono _ _ _
      | exact spec_CandsOf.mono _ _ _
      | exact spec_DrawCandsOf.mono _ _
      | exact spec_TotalOf.mono _ _
      | exact LeO.none _
      | refine LeO.ite ?_ ?_
      | refine LeO.bind ?_ (fun _ => ?_)
theorem laws_FnCands.mono : ∀ a0 k, LeO (laws_FnCands.f k a0) (laws_FnCands.f (k + 1) a0) := by
  intro a0 k
  obtain ⟨ih0, ih1⟩ := laws_FnCands.mono_l k
  unfold laws_FnCands.f
  repeat' first
      | (with_reducible exact ih0 _ _ _ _)
      | (with_reducible exact ih1 _ _ _ _ _ _ _ _ _ _ _)
      | (with_reducible exact impl_CandLess.mono _ _ _ _ _ _ _ _ _ _ _ _ _)
      | (with_reducible exact impl_CandsOf.mono _ _ _)
      | (with_reducible exact spec_CandsOf.mono _ _ _)
      | (with_reducible exact spec_DrawCandsOf.mono _ _)
      | (with_reducible exact spec_TotalOf.mono _ _)
      | (with_reducible exact LeO.refl _)
      | (with_reducible exact LeO.none _)
      | (with_reducible refine LeO.ite ?_ ?_)
      | (with_reducible refine LeO.bind ?_ (fun _ => ?_))
      | exact ih0 _ _ _ _
      | exact ih1 _ _ _ _ _ _ _ _ _ _ _
      | exact impl_CandLess.mono _ _ _ _ _ _ _ _ _ _ _ _ _
      | exact impl_CandsOf.mono _ _ _
      | exact spec_CandsOf.mono _ _ _
      | exact spec_DrawCandsOf.mono _ _
      | exact spec_TotalOf.mono _ _
      | exact LeO.none _
      | refine LeO.ite ?_ ?_
      | refine LeO.bind ?_ (fun _ => ?_)
theorem laws_FnCands.j1_stop {k : Nat} {r : Bool} {y3 : List (List (S32))} {y4 : Int} {y5 : List (S41)} {y6 : Int} {y327000 : Int} {y327001 : Int} {y327002 : Int} {y327003 : Int} {y327004 : Int} {y327005 : Int} (h : laws_FnCands.j1 k y3 y4 y5 y6 true y327000 y327001 y327002 y327003 y327004 y327005 = some r) : r = false := by
  cases k with
  | zero => simp [laws_FnCands.j1] at h
  | succ k =>
    simp only [laws_FnCands.j1] at h
    rw [if_pos trivial] at h
    exact (Option.some.inj h).symm
def laws_FnCands.T11 : Bool × List (List Nat × List Nat) := (true, [([], []), ([0], [0]), ([1], [1]), ([2], [2]), ([3], [3]), ([4, 3], [3, 4]), ([3], [3]), ([6, 3], [3, 6]), ([5, 7, 3], [3, 5, 7]), ([3, 8], [3, 8]), ([9, 3], [9]), ([10], [10]), ([11, 10], [10, 11]), ([12, 10], [10, 12]), ([10, 13], [10, 13]), ([14, 10], [14]), ([15], [15]), ([16, 15], [15, 16]), ([17, 15], [15, 17]), ([15], [15]), ([15], [15]), ([20, 15], [15, 20]), ([19, 21, 15], [15, 19, 21]), ([22, 15], [15, 22]), ([23, 15], [15, 23]), ([18, 24, 15], [15, 18, 24]), ([15, 25], [15, 25]), ([26, 15], [26]), ([27], [27]), ([28, 27], [27, 28]), ([29, 27], [27, 29]), ([27], [27]), ([30, 31, 27], [27, 30, 31]), ([27, 32], [27, 32]), ([33, 27], [33]), ([34], [34]), ([35, 34], [34, 35]), ([36, 34], [34, 36]), ([34], [34]), ([37, 38, 34], [34, 37, 38]), ([34, 39], [34, 39])])
def laws_FnCands.B11 : List Nat := [0, 1, 3, 7, 15, 31, 15, 79, 255, 511, 1023, 2047, 4095, 8191, 16383, 32767, 65535, 131071, 262143, 65535, 65535, 1114111, 3735551, 7929855, 16318463, 33554431, 67108863, 134217727, 268435455, 536870911, 1073741823, 268435455, 4294967295, 8589934591, 17179869183, 34359738367, 68719476735, 137438953471, 34359738367, 549755813887, 1099511627775]
theorem laws_FnCands.tab11 : rtab .any (opsOf Try.f4 11) = laws_FnCands.T11 := by kernel_rfl
theorem laws_FnCands.bits11 : waitsOk laws_FnCands.T11.2 laws_FnCands.B11 = true := by kernel_rfl
def laws_FnCands.T15 : Bool × List (List Nat × List Nat) := (true, [([], []), ([0], [0]), ([1], [1]), ([2], [2]), ([2], [2]), ([3, 4, 2], [2, 3, 4]), ([2, 5], [2, 5]), ([6, 2], [6]), ([7], [7]), ([8, 7], [7, 8]), ([9, 7, 7], [7, 9]), ([10], [10]), ([10], [10]), ([12, 10], [10, 12]), ([11, 13, 10], [10, 11, 13]), ([14, 10], [10, 14]), ([10], [10]), ([15, 16, 10, 10], [10, 15, 16]), ([17, 10], [10, 17]), ([10, 18, 7], [7, 10, 18]), ([7, 19], [7, 19])])
def laws_FnCands.B15 : List Nat := [0, 1, 3, 7, 7, 31, 63, 127, 255, 511, 1023, 2047, 2047, 6143, 16383, 32767, 2047, 131071, 262143, 524287, 1048575]
theorem laws_FnCands.tab15 : rtab .any (opsOf Try.f4 15) = laws_FnCands.T15 := by kernel_rfl
theorem laws_FnCands.bits15 : waitsOk laws_FnCands.T15.2 laws_FnCands.B15 = true := by kernel_rfl
set_option maxHeartbeats 8000000 in
set_option maxRecDepth 100000 in
theorem laws_FnCands.calls (k : Nat) (A0 : Option Addr) (c0 : Nat) (l0 : List Int) (r : Bool) (w : World) (hr0 : Kd.C (Kd.int .u8) w A0 l0.length l0) (hc0 : l0.length ≤ c0) (h : laws_FnCands.f k l0 = some r) (hr_ : r = true) :
    Calls Try.prog 4 #[.slice A0 l0.length c0] w fun e w' => e = .returned (.bool r) ∧ Below w.heap.size w w' := by
  have HRT := Aside0.mk hr_
  clear hr_
  have hu41 := Try.underlying41
  have hu32 := Try.underlying32
  have HR0 := Aside0.mk hr0
  have HC0 := Aside0.mk hc0
  clear hr0 hc0
  have HB := Aside0.mk (Below.refl w.heap.size w)
  have H : ((laws_big.f l0).bind fun t314 => (if t314 = true then (some true) else ((spec_DrawCandsOf.f k l0).bind fun bt315 => ((impl_CandsOf.f k bt315.1 bt315.2).bind fun t319 => ((spec_CandsOf.f k bt315.1 bt315.2).bind fun t322 => (if (t319.length : Int) = (t322.length : Int) then (laws_FnCands.l0 k bt315.1 bt315.2 t319 0) else (some false))))))) = some r := h
  clear h
  replace H := Option.bind_eq_some_iff.mp H
  obtain ⟨t314, A20, H⟩ := H
  replace H : (if t314 = true then (some true) else ((spec_DrawCandsOf.f k l0).bind fun bt315 => ((impl_CandsOf.f k bt315.1 bt315.2).bind fun t319 => ((spec_CandsOf.f k bt315.1 bt315.2).bind fun t322 => (if (t319.length : Int) = (t322.length : Int) then (laws_FnCands.l0 k bt315.1 bt315.2 t319 0) else (some false)))))) = some r := H
  have A2 := Aside0.mk A20
  clear A20
  by_cases c3 : t314 = true
  · subst c3
    have H1 : (some true) = some r := by rw [if_pos rfl] at H; exact H
    clear H
    have H := H1
    clear H1
    obtain rfl := Option.some.inj H
    go_enter Try.func4, Try.ntmps4
    go_wp2_with (first | ((with_reducible refine gate_callee (f := 15) rfl ?_); refine goesL_ (some 13) rfl rfl Try.func15 (by kernel_rfl) rfl #[.slice A0 l0.length c0] rfl (by (try simp only [List.map_toArray, List.map_cons, List.map_nil]); first | done | rfl | (simp only [List.length_drop, List.length_take]; rfl)) ?_; (with_reducible refine (laws_big.calls _ _ l0 true _ ?side1 ?side2 A2.out).mono ?_); (case side1 => repeat (first | exact HR0.out | (with_reducible refine Kd.C_alloc ?_ _) | (with_reducible refine Kd.C_drewN ?_ _) | (with_reducible refine Kd.C_drew ?_))); (case side2 => exact HC0.out); rintro e w' ⟨rfl, ⟨nd, rfl⟩⟩; refine ⟨_, rfl, ?_⟩))
    go_ret
    exact ⟨by first | rfl | (simp [errW_none, errW_some] <;> rfl) | (simp [*, errW_none, errW_some] <;> rfl), by repeat (first | (with_reducible first | exact HB.out | apply below_alloc | apply pw_below_drewN | apply below_drew1) | exact HB.out)⟩
  · replace c3 := Bool.eq_false_iff.mpr c3
    subst c3
    have H1 : ((spec_DrawCandsOf.f k l0).bind fun bt315 => ((impl_CandsOf.f k bt315.1 bt315.2).bind fun t319 => ((spec_CandsOf.f k bt315.1 bt315.2).bind fun t322 => (if (t319.length : Int) = (t322.length : Int) then (laws_FnCands.l0 k bt315.1 bt315.2 t319 0) else (some false))))) = some r := by rw [if_neg (show ¬ (false = true) by decide)] at H; exact H
    clear H
    have H := H1
    clear H1
    replace H := Option.bind_eq_some_iff.mp H
    obtain ⟨⟨t315, t316⟩, A40, H⟩ := H
    replace H : ((impl_CandsOf.f k t315 t316).bind fun t319 => ((spec_CandsOf.f k t315 t316).bind fun t322 => (if (t319.length : Int) = (t322.length : Int) then (laws_FnCands.l0 k t315 t316 t319 0) else (some false)))) = some r := H
    have A4 := Aside0.mk A40
    clear A40
    replace H := Option.bind_eq_some_iff.mp H
    obtain ⟨t319, A50, H⟩ := H
    replace H : ((spec_CandsOf.f k t315 t316).bind fun t322 => (if (t319.length : Int) = (t322.length : Int) then (laws_FnCands.l0 k t315 t316 t319 0) else (some false))) = some r := H
    have A5 := Aside0.mk A50
    clear A50
    replace H := Option.bind_eq_some_iff.mp H
    obtain ⟨t322, A60, H⟩ := H
    replace H : (if (t319.length : Int) = (t322.length : Int) then (laws_FnCands.l0 k t315 t316 t319 0) else (some false)) = some r := H
    have A6 := Aside0.mk A60
    clear A60
    by_cases c7 : (t319.length : Int) = (t322.length : Int)
    · rw [if_pos c7] at H
      have c7b0 : ((t319.length : Int) == (t322.length : Int)) = true := beq_iff_eq.mpr c7
      have c7b1 : ((t319.length : Int) != (t322.length : Int)) = false := bne_eq_false_iff_eq.mpr c7
      have c7b2 : (t319.length == t322.length) = true := by first | simpa using c7 | (simp at c7 ⊢; omega)
      clear c7
      have H' := Aside0.mk H
      clear H
      go_enter Try.func4, Try.ntmps4
      go_wp2_with (first | ((with_reducible refine gate_callee (f := 15) rfl ?_); refine goesL_ (some 13) rfl rfl Try.func15 (by kernel_rfl) rfl #[.slice A0 l0.length c0] rfl (by (try simp only [List.map_toArray, List.map_cons, List.map_nil]); first | done | rfl | (simp only [List.length_drop, List.length_take]; rfl)) ?_; (with_reducible refine (laws_big.calls _ _ l0 false _ ?side1 ?side2 A2.out).mono ?_); (case side1 => repeat (first | exact HR0.out | (with_reducible refine Kd.C_alloc ?_ _) | (with_reducible refine Kd.C_drewN ?_ _) | (with_reducible refine Kd.C_drew ?_))); (case side2 => exact HC0.out); rintro e w' ⟨rfl, ⟨nd, rfl⟩⟩; refine ⟨_, rfl, ?_⟩) | ((with_reducible refine gate_callee (f := 23) rfl ?_); refine goesL_ (some 16) rfl rfl Try.func23 (by kernel_rfl) rfl #[.slice A0 l0.length c0] rfl (by (try simp only [List.map_toArray, List.map_cons, List.map_nil]); first | done | rfl | (simp only [List.length_drop, List.length_take]; rfl)) ?_; (with_reducible refine (spec_DrawCandsOf.calls k _ _ l0 t315 t316 _ ?side1 ?side2 A4.out).mono ?_); (case side1 => repeat (first | exact HR0.out | (with_reducible refine Kd.C_alloc ?_ _) | (with_reducible refine Kd.C_drewN ?_ _) | (with_reducible refine Kd.C_drew ?_))); (case side2 => exact HC0.out); rintro e w8 ⟨v317, rfl, ho0, hb⟩; refine ⟨_, rfl, ?_⟩; have n0_ := Aside0.mk (Kd.S_lower ho0 (below_size (by repeat (first | (with_reducible first | exact HB.out | apply below_alloc | apply pw_below_drewN | apply below_drew1) | exact HB.out)))); have n1_ := Aside0.mk (below_step (by repeat (first | (with_reducible first | exact HB.out | apply below_alloc | apply pw_below_drewN | apply below_drew1) | exact HB.out)) hb); clear HB; have HO318 := n0_; have HB := n1_; clear n0_ n1_; (try clear hb); (try clear hb2); (try clear hk); (try clear hi); (try clear ho0); obtain ⟨Ao9, co9, eo9⟩ := Kd.S_slice HO318.out; subst eo9) | ((with_reducible refine gate_callee (f := 24) rfl ?_); refine goesL_ (some 21) rfl rfl Try.func24 (by kernel_rfl) rfl #[.slice Ao9 t315.length co9, .int .i64 t316] rfl (by (try simp only [List.map_toArray, List.map_cons, List.map_nil]); first | done | rfl | (simp only [List.length_drop, List.length_take]; rfl)) ?_; (with_reducible refine (impl_CandsOf.calls k _ _ t315 t316 t319 _ ?side1 ?side2 A5.out).mono ?_); (case side1 => repeat (first | exact (Kd.S_reads' HO318.out).2.2 | (with_reducible refine Kd.C_alloc ?_ _) | (with_reducible refine Kd.C_drewN ?_ _) | (with_reducible refine Kd.C_drew ?_))); (case side2 => exact (Kd.S_reads' HO318.out).2.1); rintro e w10 ⟨v320, rfl, ho0, hb⟩; refine ⟨_, rfl, ?_⟩; have n0_ := Aside0.mk (Kd.S_below (by (with_reducible repeat (first | apply Kd.S_alloc | apply Kd.S_drewN | apply Kd.S_drew)); exact HO318.out) hb); have n1_ := Aside0.mk (Kd.R_lower ho0 (below_size (by repeat (first | (with_reducible first | exact HB.out | apply below_alloc | apply pw_below_drewN | apply below_drew1) | exact HB.out)))); have n2_ := Aside0.mk (below_step (by repeat (first | (with_reducible first | exact HB.out | apply below_alloc | apply pw_below_drewN | apply below_drew1) | exact HB.out)) hb); clear HO318; clear HB; have HO318 := n0_; have HO321 := n1_; have HB := n2_; clear n0_ n1_ n2_; (try clear hb); (try clear hb2); (try clear hk); (try clear hi); (try clear ho0); obtain ⟨Ao11, co11, eo11⟩ := Kd.R_slice HO321.out; subst eo11) | ((with_reducible refine gate_callee (f := 25) rfl ?_); refine goesL_ (some 26) rfl rfl Try.func25 (by kernel_rfl) rfl #[.slice Ao9 t315.length co9, .int .i64 t316] rfl (by (try simp only [List.map_toArray, List.map_cons, List.map_nil]); first | done | rfl | (simp only [List.length_drop, List.length_take]; rfl)) ?_; (with_reducible refine (spec_CandsOf.calls k _ _ t315 t316 t322 _ ?side1 ?side2 A6.out).mono ?_); (case side1 => repeat (first | exact (Kd.S_reads' HO318.out).2.2 | (with_reducible refine Kd.C_alloc ?_ _) | (with_reducible refine Kd.C_drewN ?_ _) | (with_reducible refine Kd.C_drew ?_))); (case side2 => exact (Kd.S_reads' HO318.out).2.1); rintro e w12 ⟨v323, rfl, ho0, hb⟩; refine ⟨_, rfl, ?_⟩; have n0_ := Aside0.mk (Kd.S_below (by (with_reducible repeat (first | apply Kd.S_alloc | apply Kd.S_drewN | apply Kd.S_drew)); exact HO318.out) hb); have n1_ := Aside0.mk (Kd.R_elder' (by (with_reducible repeat (first | apply Kd.R_alloc | apply Kd.R_drewN | apply Kd.R_drew)); exact HO321.out) (Kd.R_base ho0) hb); have n2_ := Aside0.mk (Kd.R_lower (Kd.R_new' ho0 (Kd.R_lt (by (with_reducible repeat (first | apply Kd.R_alloc | apply Kd.R_drewN | apply Kd.R_drew)); exact HO321.out))) (below_size (by repeat (first | (with_reducible first | exact HB.out | apply below_alloc | apply pw_below_drewN | apply below_drew1) | exact HB.out)))); have n3_ := Aside0.mk (below_step (by repeat (first | (with_reducible first | exact HB.out | apply below_alloc | apply pw_below_drewN | apply below_drew1) | exact HB.out)) hb); clear HO318; clear HO321; clear HB; have HO318 := n0_; have HO321 := n1_; have HO324 := n2_; have HB := n3_; clear n0_ n1_ n2_ n3_; (try clear hb); (try clear hb2); (try clear hk); (try clear hi); (try clear ho0); obtain ⟨Ao13, co13, eo13⟩ := Kd.R_slice HO324.out; subst eo13))
      go_loopg [6] k (fun kq v6 w' => ∃ (x6_1 : Int), v6 = .int .i64 x6_1 ∧ Aside0 (laws_FnCands.l0 kq t315 t316 t319 x6_1 = some r) ∧ Aside0 (kq ≤ k) ∧ Aside0 (Kd.S (Kd.slice 32 k32) 27 w' w.heap.size (fun _ => True) (.slice Ao9 t315.length co9) t315) ∧ Aside0 (Kd.R k41 41 w' w.heap.size (fun _ => True) (.slice Ao11 t319.length co11) t319) ∧ Aside0 (Below w.heap.size w w'))
      case atStart => exact ⟨(0), (by first | rfl | (simp; done) | (simp [*]; done)), H', ⟨Nat.le_refl _⟩, ⟨by (with_reducible repeat (first | apply Kd.S_alloc | apply Kd.S_drewN | apply Kd.S_drew)); exact HO318.out⟩, ⟨by (with_reducible repeat (first | apply Kd.R_alloc | apply Kd.R_drewN | apply Kd.R_drew)); exact Kd.R_mono HO321.out (fun _ hk => trivial)⟩, ⟨by repeat (first | (with_reducible first | exact HB.out | apply below_alloc | apply pw_below_drewN | apply below_drew1) | exact HB.out)⟩⟩
      case round =>
        clear H'
        try clear c1
        try clear c2
        try clear p2
        try clear c3
        try clear c4
        try clear c7
        try clear c7b0
        try clear c7b1
        try clear c7b2
        obtain ⟨x6_1, rfl, HA, HK1, HO_3, HO_5, HB⟩ := hrel
        cases gk with
        | zero => exact absurd HA.out (by simp [laws_FnCands.l0])
        | succ k1 =>
          have H := HA.out
          clear HA
          simp only [laws_FnCands.l0] at H
          by_cases c14 : x6_1 < (t319.length : Int)
          · rw [if_pos c14] at H
            have c14b0 : decide (x6_1 < (t319.length : Int)) = true := decide_eq_true c14
            clear c14
            by_cases c15 : 0 ≤ x6_1
            · rw [if_pos c15] at H
              have c15b0 : decide (0 ≤ x6_1) = true := decide_eq_true c15
              clear c15
              have HC16 := Aside0.mk H
              clear H
              have p325 : 0 ≤ (x6_1 : Int) := of_decide_eq_true (by first | (with_reducible assumption) | assumption)
              have q325 : x6_1 < (t319.length : Int) := of_decide_eq_true (by first | (with_reducible assumption) | assumption)
              obtain ⟨ad325, e325, hx325_0, hx325_1, hx325_2, hx325_3, hx325_4, hx325_5⟩ := at_T41 (Kd.R_reads' HO_5.out).2.2 x6_1 p325 q325
              cases e325
              replace p325 := eq_true p325
              replace q325 := eq_true q325
              go_upto_region 11 with (first | ((with_reducible refine gate_dst (N := 7) rfl ?_); (try (refine gate_guard (by rfl) ?_; dsimp only)); refine box_event ?hg (N := 7) ?hd (cs := #[.int .i64 0, .int .i64 0, .int .i64 0, .int .i64 0, .int .i64 0, .int .i64 0]) (t := 41) ?hr ?_; (case hd => rfl); (case hg => rfl); (case hr => first | (go_simp; done) | (go_simp; rfl)); intro gb326 hg w17 hbox hb; have n0_ := Aside0.mk (Kd.S_below (by (with_reducible repeat (first | apply Kd.S_alloc | apply Kd.S_drewN | apply Kd.S_drew)); exact HO_3.out) hb); have n1_ := Aside0.mk (Kd.R_below (Kd.R_elderB (by (with_reducible repeat (first | apply Kd.R_alloc | apply Kd.R_drewN | apply Kd.R_drew)); exact HO_5.out) gb326 (Nat.le_of_eq hg.symm)) hb); have n2_ := Aside0.mk (below_step (by repeat (first | (with_reducible first | exact HB.out | apply below_alloc | apply pw_below_drewN | apply below_drew1) | exact HB.out)) hb); have n3_ := Aside0.mk (hbox); have n4_ := Aside0.mk ((by rw [hg]; exact (below_size (by repeat (first | (with_reducible first | exact HB.out | apply below_alloc | apply pw_below_drewN | apply below_drew1) | exact HB.out))) : w.heap.size ≤ gb326)); have n5_ := Aside0.mk ((by rw [hg]; exact (below_size (by repeat (first | (with_reducible first | exact HB.out | apply below_alloc | apply pw_below_drewN | apply below_drew1) | exact HB.out))) : w.heap.size ≤ gb326)); clear HO_3; clear HO_5; clear HB; have HO_3 := n0_; have HO_5 := n1_; have HB := n2_; have BK326 := n3_; have GW326 := n4_; have GE326 := n5_; clear n0_ n1_ n2_ n3_ n4_ n5_; clear hb hbox hg; have hcz18_0 : w17.cell? ⟨gb326, 0, none⟩ = some (.int .i64 0) := (blk_cell BK326.out 0).trans rfl; have hcz18_1 : w17.cell? ⟨gb326, 1, none⟩ = some (.int .i64 0) := (blk_cell BK326.out 1).trans rfl; have hcz18_2 : w17.cell? ⟨gb326, 2, none⟩ = some (.int .i64 0) := (blk_cell BK326.out 2).trans rfl; have hcz18_3 : w17.cell? ⟨gb326, 3, none⟩ = some (.int .i64 0) := (blk_cell BK326.out 3).trans rfl; have hcz18_4 : w17.cell? ⟨gb326, 4, none⟩ = some (.int .i64 0) := (blk_cell BK326.out 4).trans rfl; have hcz18_5 : w17.cell? ⟨gb326, 5, none⟩ = some (.int .i64 0) := (blk_cell BK326.out 5).trans rfl; have hfz18_0 := blk_frozen BK326.out 0; have hfz18_1 := blk_frozen BK326.out 1; have hfz18_2 := blk_frozen BK326.out 2; have hfz18_3 := blk_frozen BK326.out 3; have hfz18_4 := blk_frozen BK326.out 4; have hfz18_5 := blk_frozen BK326.out 5))
              (try simp only [Act.put, List.setIfInBounds_toArray, List.set_cons_zero, List.set_cons_succ])
              go_cut [79] (fun v79 wc => ∃ (kq : Nat) (x79_15 : Bool), v79 = .bool x79_15 ∧ Aside0 (laws_FnCands.j1 kq t315 t316 t319 x6_1 x79_15 ((rd_T41 t319 x6_1).f0) ((rd_T41 t319 x6_1).f1) ((rd_T41 t319 x6_1).f2.f0) ((rd_T41 t319 x6_1).f2.f1) ((rd_T41 t319 x6_1).f3.f0) ((rd_T41 t319 x6_1).f3.f1) = some r) ∧ Aside0 (kq ≤ k1) ∧ Aside0 (Kd.S (Kd.slice 32 k32) 27 wc w.heap.size (fun _ => True) (.slice Ao9 t315.length co9) t315) ∧ Aside0 (Kd.R k41 41 wc w.heap.size (fun k_ => k_ ≠ gb326) (.slice (some ad325) t319.length co11) t319) ∧ Aside0 (wc.heap[gb326]? = some (.cells #[.int .i64 ((rd_T41 t319 x6_1).f0), .int .i64 ((rd_T41 t319 x6_1).f1), .int .i64 ((rd_T41 t319 x6_1).f2.f0), .int .i64 ((rd_T41 t319 x6_1).f2.f1), .int .i64 ((rd_T41 t319 x6_1).f3.f0), .int .i64 ((rd_T41 t319 x6_1).f3.f1)] 41 (0, 0))) ∧ Aside0 (Below w.heap.size w wc))
              case first =>
                have H := HC16.out
                clear HC16
                by_cases c19 : ((rd_T41 t319 x6_1).f0) < 0
                · rw [if_pos c19] at H
                  have c19b0 : decide (((rd_T41 t319 x6_1).f0) < 0) = true := decide_eq_true c19
                  clear c19
                  (first | rw [c19b0] | (simp only [i64_w, i32_w]; rw [c19b0]) | skip)
                  exact absurd ((laws_FnCands.j1_stop H).symm.trans HRT.out) (by decide)
                · rw [if_neg c19] at H
                  have c19b0 : decide (((rd_T41 t319 x6_1).f0) < 0) = false := decide_eq_false c19
                  clear c19
                  (first | rw [c19b0] | (simp only [i64_w, i32_w]; rw [c19b0]) | skip)
                  by_cases c20 : ((rd_T41 t319 x6_1).f0) ≥ (t315.length : Int)
                  · rw [if_pos c20] at H
                    have c20b0 : decide ((t315.length : Int) ≤ ((rd_T41 t319 x6_1).f0)) = true := decide_eq_true c20
                    clear c20
                    exact absurd ((laws_FnCands.j1_stop H).symm.trans HRT.out) (by decide)
                  · rw [if_neg c20] at H
                    have c20b0 : decide ((t315.length : Int) ≤ ((rd_T41 t319 x6_1).f0)) = false := decide_eq_false c20
                    clear c20
                    by_cases c21 : ((rd_T41 t319 x6_1).f1) < 0
                    · rw [if_pos c21] at H
                      have c21b0 : decide (((rd_T41 t319 x6_1).f1) < 0) = true := decide_eq_true c21
                      clear c21
                      exact absurd ((laws_FnCands.j1_stop H).symm.trans HRT.out) (by decide)
                    · rw [if_neg c21] at H
                      have c21b0 : decide (((rd_T41 t319 x6_1).f1) < 0) = false := decide_eq_false c21
                      clear c21
                      by_cases c22 : 0 ≤ ((rd_T41 t319 x6_1).f0)
                      · rw [if_pos c22] at H
                        have c22b0 : decide (0 ≤ ((rd_T41 t319 x6_1).f0)) = true := decide_eq_true c22
                        clear c22
                        by_cases c23 : ((rd_T41 t319 x6_1).f0) < (t315.length : Int)
                        · rw [if_pos c23] at H
                          have c23b0 : decide (((rd_T41 t319 x6_1).f0) < (t315.length : Int)) = true := decide_eq_true c23
                          clear c23
                          by_cases c24 : (wrap64 (((rd_T41 t319 x6_1).f1) + 1)) ≥ ((rd_L3 t315 ((rd_T41 t319 x6_1).f0)).length : Int)
                          · rw [if_pos c24] at H
                            have c24b0 : decide (((rd_L3 t315 ((rd_T41 t319 x6_1).f0)).length : Int) ≤ (wrap64 (((rd_T41 t319 x6_1).f1) + 1))) = true := decide_eq_true c24
                            clear c24
                            exact absurd ((laws_FnCands.j1_stop H).symm.trans HRT.out) (by decide)
                          · rw [if_neg c24] at H
                            have c24b0 : decide (((rd_L3 t315 ((rd_T41 t319 x6_1).f0)).length : Int) ≤ (wrap64 (((rd_T41 t319 x6_1).f1) + 1))) = false := decide_eq_false c24
                            clear c24
                            by_cases c25 : ((rd_T41 t319 x6_1).f2.f0) < t316
                            · rw [if_pos c25] at H
                              have c25b0 : decide (((rd_T41 t319 x6_1).f2.f0) < t316) = true := decide_eq_true c25
                              clear c25
                              exact absurd ((laws_FnCands.j1_stop H).symm.trans HRT.out) (by decide)
                            · rw [if_neg c25] at H
                              have c25b0 : decide (((rd_T41 t319 x6_1).f2.f0) < t316) = false := decide_eq_false c25
                              clear c25
                              have H' := Aside0.mk H
                              clear H
                              try go_wp2
                              have n0_ : Aside0 (Kd.S (Kd.slice 32 k32) 27 ((((((w17.setCell ⟨gb326, 0, none⟩ (.int .i64 ((rd_T41 t319 x6_1).f0))).setCell ⟨gb326, 1, none⟩ (.int .i64 ((rd_T41 t319 x6_1).f1))).setCell ⟨gb326, 2, none⟩ (.int .i64 ((rd_T41 t319 x6_1).f2.f0))).setCell ⟨gb326, 3, none⟩ (.int .i64 ((rd_T41 t319 x6_1).f2.f1))).setCell ⟨gb326, 4, none⟩ (.int .i64 ((rd_T41 t319 x6_1).f3.f0))).setCell ⟨gb326, 5, none⟩ (.int .i64 ((rd_T41 t319 x6_1).f3.f1))) w.heap.size (fun _ => True) (.slice Ao9 t315.length co9) t315) := ⟨by (with_reducible repeat (first | apply Kd.S_alloc | apply Kd.S_drewN | apply Kd.S_drew)); exact Kd.S_mono (Kd.S_far (p := ⟨gb326, 5, none⟩) (Kd.S_far (p := ⟨gb326, 4, none⟩) (Kd.S_far (p := ⟨gb326, 3, none⟩) (Kd.S_far (p := ⟨gb326, 2, none⟩) (Kd.S_far (p := ⟨gb326, 1, none⟩) (Kd.S_far (p := ⟨gb326, 0, none⟩) (Kd.S_types HO_3.out BK326.out (by decide)) (fun _ hk => hk.2) (.int .i64 ((rd_T41 t319 x6_1).f0))) (fun _ hk => hk.2) (.int .i64 ((rd_T41 t319 x6_1).f1))) (fun _ hk => hk.2) (.int .i64 ((rd_T41 t319 x6_1).f2.f0))) (fun _ hk => hk.2) (.int .i64 ((rd_T41 t319 x6_1).f2.f1))) (fun _ hk => hk.2) (.int .i64 ((rd_T41 t319 x6_1).f3.f0))) (fun _ hk => hk.2) (.int .i64 ((rd_T41 t319 x6_1).f3.f1))) (fun _ hk => trivial)⟩
                              have n1_ : Aside0 (Kd.R k41 41 ((((((w17.setCell ⟨gb326, 0, none⟩ (.int .i64 ((rd_T41 t319 x6_1).f0))).setCell ⟨gb326, 1, none⟩ (.int .i64 ((rd_T41 t319 x6_1).f1))).setCell ⟨gb326, 2, none⟩ (.int .i64 ((rd_T41 t319 x6_1).f2.f0))).setCell ⟨gb326, 3, none⟩ (.int .i64 ((rd_T41 t319 x6_1).f2.f1))).setCell ⟨gb326, 4, none⟩ (.int .i64 ((rd_T41 t319 x6_1).f3.f0))).setCell ⟨gb326, 5, none⟩ (.int .i64 ((rd_T41 t319 x6_1).f3.f1))) w.heap.size (fun k_ => k_ ≠ gb326) (.slice (some ad325) t319.length co11) t319) := ⟨by (with_reducible repeat (first | apply Kd.R_alloc | apply Kd.R_drewN | apply Kd.R_drew)); exact Kd.R_mono (Kd.R_far (p := ⟨gb326, 5, none⟩) (Kd.R_far (p := ⟨gb326, 4, none⟩) (Kd.R_far (p := ⟨gb326, 3, none⟩) (Kd.R_far (p := ⟨gb326, 2, none⟩) (Kd.R_far (p := ⟨gb326, 1, none⟩) (Kd.R_far (p := ⟨gb326, 0, none⟩) (Kd.R_mono HO_5.out (fun k_ hk => (⟨hk, hk.2⟩ : _ ∧ k_ ≠ gb326))) (fun _ hk => hk.2) (.int .i64 ((rd_T41 t319 x6_1).f0))) (fun _ hk => hk.2) (.int .i64 ((rd_T41 t319 x6_1).f1))) (fun _ hk => hk.2) (.int .i64 ((rd_T41 t319 x6_1).f2.f0))) (fun _ hk => hk.2) (.int .i64 ((rd_T41 t319 x6_1).f2.f1))) (fun _ hk => hk.2) (.int .i64 ((rd_T41 t319 x6_1).f3.f0))) (fun _ hk => hk.2) (.int .i64 ((rd_T41 t319 x6_1).f3.f1))) (fun _ hk => hk.1.2)⟩
                              have n2_ : Aside0 (((((((w17.setCell ⟨gb326, 0, none⟩ (.int .i64 ((rd_T41 t319 x6_1).f0))).setCell ⟨gb326, 1, none⟩ (.int .i64 ((rd_T41 t319 x6_1).f1))).setCell ⟨gb326, 2, none⟩ (.int .i64 ((rd_T41 t319 x6_1).f2.f0))).setCell ⟨gb326, 3, none⟩ (.int .i64 ((rd_T41 t319 x6_1).f2.f1))).setCell ⟨gb326, 4, none⟩ (.int .i64 ((rd_T41 t319 x6_1).f3.f0))).setCell ⟨gb326, 5, none⟩ (.int .i64 ((rd_T41 t319 x6_1).f3.f1))).heap[gb326]? = some (.cells #[.int .i64 ((rd_T41 t319 x6_1).f0), .int .i64 ((rd_T41 t319 x6_1).f1), .int .i64 ((rd_T41 t319 x6_1).f2.f0), .int .i64 ((rd_T41 t319 x6_1).f2.f1), .int .i64 ((rd_T41 t319 x6_1).f3.f0), .int .i64 ((rd_T41 t319 x6_1).f3.f1)] 41 (0, 0))) := ⟨by (with_reducible repeat (first | refine blk_drewN ?_ _ | refine blk_drew ?_ | refine blk_alloc ?_ _)); refine blk_put (cs := #[.int .i64 ((rd_T41 t319 x6_1).f0), .int .i64 ((rd_T41 t319 x6_1).f1), .int .i64 ((rd_T41 t319 x6_1).f2.f0), .int .i64 ((rd_T41 t319 x6_1).f2.f1), .int .i64 ((rd_T41 t319 x6_1).f3.f0), .int .i64 0]) ?_ 5 _ rfl; (with_reducible repeat (first | refine blk_drewN ?_ _ | refine blk_drew ?_ | refine blk_alloc ?_ _)); refine blk_put (cs := #[.int .i64 ((rd_T41 t319 x6_1).f0), .int .i64 ((rd_T41 t319 x6_1).f1), .int .i64 ((rd_T41 t319 x6_1).f2.f0), .int .i64 ((rd_T41 t319 x6_1).f2.f1), .int .i64 0, .int .i64 0]) ?_ 4 _ rfl; (with_reducible repeat (first | refine blk_drewN ?_ _ | refine blk_drew ?_ | refine blk_alloc ?_ _)); refine blk_put (cs := #[.int .i64 ((rd_T41 t319 x6_1).f0), .int .i64 ((rd_T41 t319 x6_1).f1), .int .i64 ((rd_T41 t319 x6_1).f2.f0), .int .i64 0, .int .i64 0, .int .i64 0]) ?_ 3 _ rfl; (with_reducible repeat (first | refine blk_drewN ?_ _ | refine blk_drew ?_ | refine blk_alloc ?_ _)); refine blk_put (cs := #[.int .i64 ((rd_T41 t319 x6_1).f0), .int .i64 ((rd_T41 t319 x6_1).f1), .int .i64 0, .int .i64 0, .int .i64 0, .int .i64 0]) ?_ 2 _ rfl; (with_reducible repeat (first | refine blk_drewN ?_ _ | refine blk_drew ?_ | refine blk_alloc ?_ _)); refine blk_put (cs := #[.int .i64 ((rd_T41 t319 x6_1).f0), .int .i64 0, .int .i64 0, .int .i64 0, .int .i64 0, .int .i64 0]) ?_ 1 _ rfl; (with_reducible repeat (first | refine blk_drewN ?_ _ | refine blk_drew ?_ | refine blk_alloc ?_ _)); refine blk_put (cs := #[.int .i64 0, .int .i64 0, .int .i64 0, .int .i64 0, .int .i64 0, .int .i64 0]) ?_ 0 _ rfl; (with_reducible repeat (first | refine blk_drewN ?_ _ | refine blk_drew ?_ | refine blk_alloc ?_ _)); exact BK326.out⟩
                              have n3_ : Aside0 (Below w.heap.size w ((((((w17.setCell ⟨gb326, 0, none⟩ (.int .i64 ((rd_T41 t319 x6_1).f0))).setCell ⟨gb326, 1, none⟩ (.int .i64 ((rd_T41 t319 x6_1).f1))).setCell ⟨gb326, 2, none⟩ (.int .i64 ((rd_T41 t319 x6_1).f2.f0))).setCell ⟨gb326, 3, none⟩ (.int .i64 ((rd_T41 t319 x6_1).f2.f1))).setCell ⟨gb326, 4, none⟩ (.int .i64 ((rd_T41 t319 x6_1).f3.f0))).setCell ⟨gb326, 5, none⟩ (.int .i64 ((rd_T41 t319 x6_1).f3.f1)))) := ⟨by repeat (first | (with_reducible first | exact HB.out | apply below_alloc | apply pw_below_drewN | apply below_drew1 | refine below_set ?_ GE326.out) | exact HB.out)⟩
                              (try clear HO_3)
                              (try clear HO_5)
                              (try clear BK326)
                              (try clear HB)
                              generalize ((((((w17.setCell ⟨gb326, 0, none⟩ (.int .i64 ((rd_T41 t319 x6_1).f0))).setCell ⟨gb326, 1, none⟩ (.int .i64 ((rd_T41 t319 x6_1).f1))).setCell ⟨gb326, 2, none⟩ (.int .i64 ((rd_T41 t319 x6_1).f2.f0))).setCell ⟨gb326, 3, none⟩ (.int .i64 ((rd_T41 t319 x6_1).f2.f1))).setCell ⟨gb326, 4, none⟩ (.int .i64 ((rd_T41 t319 x6_1).f3.f0))).setCell ⟨gb326, 5, none⟩ (.int .i64 ((rd_T41 t319 x6_1).f3.f1))) = w26 at n0_ n1_ n2_ n3_ ⊢
                              have HO_3 := n0_
                              have HO_5 := n1_
                              have BK326 := n2_
                              have HB := n3_
                              clear n0_ n1_ n2_ n3_
                              have n0_ := Aside0.mk (Kd.S_drew HO_3.out)
                              have n1_ := Aside0.mk (Kd.R_drew HO_5.out)
                              have n2_ := Aside0.mk (blk_drew BK326.out)
                              have n3_ := Aside0.mk (below_drew1 HB.out)
                              clear HO_3
                              clear HO_5
                              clear BK326
                              clear HB
                              have HO_3 := n0_
                              have HO_5 := n1_
                              have BK326 := n2_
                              have HB := n3_
                              clear n0_ n1_ n2_ n3_
                              have p327 : 0 ≤ (((rd_T41 t319 x6_1).f0) : Int) := of_decide_eq_true (by first | (with_reducible assumption) | assumption)
                              have q327 : ((rd_T41 t319 x6_1).f0) < (t315.length : Int) := of_decide_eq_true (by first | (with_reducible assumption) | assumption)
                              obtain ⟨ad327, A327_0, c327_0, e327, hx327_0, hl327_0, hi327_0⟩ := at_L3 (Kd.S_reads' HO_3.out).2.2 ((rd_T41 t319 x6_1).f0) p327 q327
                              cases e327
                              obtain ⟨ce327, hce327, hMe327, hcc327⟩ := Kd.S_get HO_3.out [] ((rd_T41 t319 x6_1).f0) p327 (by first | exact q327 | exact of_decide_eq_true (by first | (with_reducible assumption) | assumption) | (have e_ := (Kd.S_reads' HO_3.out).1; omega))
                              obtain ⟨ve327_0, rfl, ge327_0⟩ := hMe327
                              have hv327_0 := hcc327 0 _ rfl
                              rw [Nat.add_zero, show ((Kd.slice 32 k32)).sz = 1 from rfl, Nat.mul_one] at hv327_0
                              replace hv327_0 := Option.some.inj (hv327_0.symm.trans hx327_0)
                              rw [hv327_0] at ge327_0
                              have HL327_0 := Aside0.mk (show Kd.R k32 32 _ _ _ _ (rd_L3 t315 ((rd_T41 t319 x6_1).f0)) from ge327_0)
                              clear hv327_0 ge327_0
                              clear hcc327 hce327
                              have HR327_0 := Aside0.mk hi327_0
                              have HC327_0 := Aside0.mk hl327_0
                              clear hi327_0 hl327_0
                              replace p327 := eq_true p327
                              replace q327 := eq_true q327
                              refine start_ (n := 41) (S := fun w' => w'.cell? ⟨gb326, 0, none⟩ = some (.int .i64 ((rd_T41 t319 x6_1).f0)) ∧ w'.cell? ⟨gb326, 1, none⟩ = some (.int .i64 ((rd_T41 t319 x6_1).f1)) ∧ w'.cell? ⟨gb326, 2, none⟩ = some (.int .i64 ((rd_T41 t319 x6_1).f2.f0)) ∧ w'.cell? ⟨gb326, 3, none⟩ = some (.int .i64 ((rd_T41 t319 x6_1).f2.f1)) ∧ w'.cell? ⟨gb326, 4, none⟩ = some (.int .i64 ((rd_T41 t319 x6_1).f3.f0)) ∧ w'.cell? ⟨gb326, 5, none⟩ = some (.int .i64 ((rd_T41 t319 x6_1).f3.f1)) ∧ w'.cell? (ad327.add (((rd_T41 t319 x6_1).f0)).toNat) = some (.slice A327_0 (rd_L3 t315 ((rd_T41 t319 x6_1).f0)).length c327_0)) (ds := []) #[false, false, false, false, false, false, false, false, false, false, false, false, false, false, false, false, false, false, false, false, false, false, false, false, false, false, false, false, false, false, false, false, false, false, false, false, false, false, false, false, false] (by kernel_rfl) rfl rfl ⟨(blk_cell BK326.out 0).trans rfl, (blk_cell BK326.out 1).trans rfl, (blk_cell BK326.out 2).trans rfl, (blk_cell BK326.out 3).trans rfl, (blk_cell BK326.out 4).trans rfl, (blk_cell BK326.out 5).trans rfl, hx327_0⟩ (fun hHeld => ?_); refine with_tabW laws_FnCands.tab11 laws_FnCands.bits11 (fun HT_ HW_ => ?_)
                              generalize w26.drew = w27 at HO_3 HO_5 BK326 HB HL327_0 HR327_0 hx327_0 hHeld ⊢
                              refine pure_ (i := 0) (N := some 39) (v := ?_) (a' := ?_) #[true, false, false, false, false, false, false, false, false, false, false, false, false, false, false, false, false, false, false, false, false, false, false, false, false, false, false, false, false, false, false, false, false, false, false, false, false, false, false, false, false] rfl rfl (any_of HT_.out (by kernel_rfl)) (fun _ _ _ h => h) (Or.inl ⟨by rfl, ?_⟩) ?_ ?_
                              rotate_left
                              · intro w'
                                go_simp
                                with_reducible rfl
                              rotate_left
                              · simp only [Act.put, List.setIfInBounds_toArray, List.set_cons_zero, List.set_cons_succ, i64_w, i32_w]
                                rfl
                              refine take_ (i := 1) (N := some 40) (v := ?_) (a' := ?_) #[true, true, false, false, false, false, false, false, false, false, false, false, false, false, false, false, false, false, false, false, false, false, false, false, false, false, false, false, false, false, false, false, false, false, false, false, false, false, false, false, false] rfl rfl (take_ofW HT_.out HW_.out (by kernel_rfl)) (fun _ _ _ h => h) (Or.inl ⟨by rfl, ?_⟩) hHeld ?_ ?_
                              rotate_left
                              · rintro w' ⟨s0, s1, s2, s3, s4, s5, s6⟩
                                go_simp
                                with_reducible rfl
                              rotate_left
                              · simp only [Act.put, List.setIfInBounds_toArray, List.set_cons_zero, List.set_cons_succ, i64_w, i32_w]
                                rfl
                              refine pure_ (i := 2) (N := some 41) (v := ?_) (a' := ?_) #[true, true, true, false, false, false, false, false, false, false, false, false, false, false, false, false, false, false, false, false, false, false, false, false, false, false, false, false, false, false, false, false, false, false, false, false, false, false, false, false, false] rfl rfl (any_of HT_.out (by kernel_rfl)) (fun _ _ _ h => h) (Or.inl ⟨by rfl, ?_⟩) ?_ ?_
                              rotate_left
                              · intro w'
                                go_simp
                                with_reducible rfl
                              rotate_left
                              · simp only [Act.put, List.setIfInBounds_toArray, List.set_cons_zero, List.set_cons_succ, i64_w, i32_w]
                                rfl
                              refine pure_ (i := 3) (N := some 42) (v := ?_) (a' := ?_) #[true, true, true, true, false, false, false, false, false, false, false, false, false, false, false, false, false, false, false, false, false, false, false, false, false, false, false, false, false, false, false, false, false, false, false, false, false, false, false, false, false] rfl rfl (any_of HT_.out (by kernel_rfl)) (fun _ _ _ h => h) (Or.inl ⟨by rfl, ?_⟩) ?_ ?_
                              rotate_left
                              · intro w'
                                go_simp
                                with_reducible rfl
                              rotate_left
                              · simp only [Act.put, List.setIfInBounds_toArray, List.set_cons_zero, List.set_cons_succ, i64_w, i32_w]
                                rfl
                              refine pure_ (i := 4) (N := some 43) (v := ?_) (a' := ?_) #[true, true, true, true, true, false, false, false, false, false, false, false, false, false, false, false, false, false, false, false, false, false, false, false, false, false, false, false, false, false, false, false, false, false, false, false, false, false, false, false, false] rfl rfl (any_of HT_.out (by kernel_rfl)) (fun _ _ _ h => h) (Or.inl ⟨by rfl, ?_⟩) ?_ ?_
                              rotate_left
                              · intro w'
                                go_simp
                                with_reducible rfl
                              rotate_left
                              · simp only [Act.put, List.setIfInBounds_toArray, List.set_cons_zero, List.set_cons_succ, i64_w, i32_w]
                                rfl
                              refine pure_ (i := 6) (N := some 45) (v := ?_) (a' := ?_) #[true, true, true, true, true, false, true, false, false, false, false, false, false, false, false, false, false, false, false, false, false, false, false, false, false, false, false, false, false, false, false, false, false, false, false, false, false, false, false, false, false] rfl rfl (any_of HT_.out (by kernel_rfl)) (fun _ _ _ h => h) (Or.inl ⟨by rfl, ?_⟩) ?_ ?_
                              rotate_left
                              · intro w'
                                go_simp
                                with_reducible rfl
                              rotate_left
                              · simp only [Act.put, List.setIfInBounds_toArray, List.set_cons_zero, List.set_cons_succ, i64_w, i32_w]
                                rfl
                              refine pure_ (i := 7) (N := some 46) (v := ?_) (a' := ?_) #[true, true, true, true, true, false, true, true, false, false, false, false, false, false, false, false, false, false, false, false, false, false, false, false, false, false, false, false, false, false, false, false, false, false, false, false, false, false, false, false, false] rfl rfl (any_of HT_.out (by kernel_rfl)) (fun _ _ _ h => h) (Or.inl ⟨by rfl, ?_⟩) ?_ ?_
                              rotate_left
                              · intro w'
                                go_simp
                                with_reducible rfl
                              rotate_left
                              · simp only [Act.put, List.setIfInBounds_toArray, List.set_cons_zero, List.set_cons_succ, i64_w, i32_w]
                                rfl
                              refine take_ (i := 5) (N := some 44) (v := ?_) (a' := ?_) #[true, true, true, true, true, true, true, true, false, false, false, false, false, false, false, false, false, false, false, false, false, false, false, false, false, false, false, false, false, false, false, false, false, false, false, false, false, false, false, false, false] rfl rfl (take_ofW HT_.out HW_.out (by kernel_rfl)) (fun _ _ _ h => h) (Or.inl ⟨by rfl, ?_⟩) hHeld ?_ ?_
                              rotate_left
                              · rintro w' ⟨s0, s1, s2, s3, s4, s5, s6⟩
                                go_simp
                                with_reducible rfl
                              rotate_left
                              · simp only [Act.put, List.setIfInBounds_toArray, List.set_cons_zero, List.set_cons_succ, i64_w, i32_w]
                                rfl
                              refine pure_ (i := 8) (N := some 47) (v := ?_) (a' := ?_) #[true, true, true, true, true, true, true, true, true, false, false, false, false, false, false, false, false, false, false, false, false, false, false, false, false, false, false, false, false, false, false, false, false, false, false, false, false, false, false, false, false] rfl rfl (any_of HT_.out (by kernel_rfl)) (fun _ _ _ h => h) (Or.inl ⟨by rfl, ?_⟩) ?_ ?_
                              rotate_left
                              · intro w'
                                go_simp
                                with_reducible rfl
                              rotate_left
                              · simp only [Act.put, List.setIfInBounds_toArray, List.set_cons_zero, List.set_cons_succ, i64_w, i32_w]
                                rfl
                              refine pure_ (i := 9) (N := some 48) (v := ?_) (a' := ?_) #[true, true, true, true, true, true, true, true, true, true, false, false, false, false, false, false, false, false, false, false, false, false, false, false, false, false, false, false, false, false, false, false, false, false, false, false, false, false, false, false, false] rfl rfl (any_of HT_.out (by kernel_rfl)) (fun _ _ _ h => h) (Or.inl ⟨by rfl, ?_⟩) ?_ ?_
                              rotate_left
                              · intro w'
                                go_simp
                                with_reducible rfl
                              rotate_left
                              · simp only [Act.put, List.setIfInBounds_toArray, List.set_cons_zero, List.set_cons_succ, i64_w, i32_w]
                                rfl
                              refine pure_ (i := 10) (N := some 49) (v := ?_) (a' := ?_) #[true, true, true, true, true, true, true, true, true, true, true, false, false, false, false, false, false, false, false, false, false, false, false, false, false, false, false, false, false, false, false, false, false, false, false, false, false, false, false, false, false] rfl rfl (any_of HT_.out (by kernel_rfl)) (fun _ _ _ h => h) (Or.inl ⟨by rfl, ?_⟩) ?_ ?_
                              rotate_left
                              · intro w'
                                go_simp
                                with_reducible rfl
                              rotate_left
                              · simp only [Act.put, List.setIfInBounds_toArray, List.set_cons_zero, List.set_cons_succ, i64_w, i32_w]
                                rfl
                              refine pure_ (i := 11) (N := some 50) (v := ?_) (a' := ?_) #[true, true, true, true, true, true, true, true, true, true, true, true, false, false, false, false, false, false, false, false, false, false, false, false, false, false, false, false, false, false, false, false, false, false, false, false, false, false, false, false, false] rfl rfl (any_of HT_.out (by kernel_rfl)) (fun _ _ _ h => h) (Or.inl ⟨by rfl, ?_⟩) ?_ ?_
                              rotate_left
                              · intro w'
                                go_simp
                                with_reducible rfl
                              rotate_left
                              · simp only [Act.put, List.setIfInBounds_toArray, List.set_cons_zero, List.set_cons_succ, i64_w, i32_w]
                                rfl
                              refine take_ (i := 12) (N := some 51) (v := ?_) (a' := ?_) #[true, true, true, true, true, true, true, true, true, true, true, true, true, false, false, false, false, false, false, false, false, false, false, false, false, false, false, false, false, false, false, false, false, false, false, false, false, false, false, false, false] rfl rfl (take_ofW HT_.out HW_.out (by kernel_rfl)) (fun _ _ _ h => h) (Or.inl ⟨by rfl, ?_⟩) hHeld ?_ ?_
                              rotate_left
                              · rintro w' ⟨s0, s1, s2, s3, s4, s5, s6⟩
                                go_simp
                                with_reducible rfl
                              rotate_left
                              · simp only [Act.put, List.setIfInBounds_toArray, List.set_cons_zero, List.set_cons_succ, i64_w, i32_w]
                                rfl
                              refine pure_ (i := 13) (N := some 52) (v := ?_) (a' := ?_) #[true, true, true, true, true, true, true, true, true, true, true, true, true, true, false, false, false, false, false, false, false, false, false, false, false, false, false, false, false, false, false, false, false, false, false, false, false, false, false, false, false] rfl rfl (any_of HT_.out (by kernel_rfl)) (fun _ _ _ h => h) (Or.inl ⟨by rfl, ?_⟩) ?_ ?_
                              rotate_left
                              · intro w'
                                go_simp
                                with_reducible rfl
                              rotate_left
                              · simp only [Act.put, List.setIfInBounds_toArray, List.set_cons_zero, List.set_cons_succ, i64_w, i32_w]
                                rfl
                              refine pure_ (i := 14) (N := some 53) (v := ?_) (a' := ?_) #[true, true, true, true, true, true, true, true, true, true, true, true, true, true, true, false, false, false, false, false, false, false, false, false, false, false, false, false, false, false, false, false, false, false, false, false, false, false, false, false, false] rfl rfl (any_of HT_.out (by kernel_rfl)) (fun _ _ _ h => h) (Or.inl ⟨by rfl, ?_⟩) ?_ ?_
                              rotate_left
                              · intro w'
                                go_simp
                                with_reducible rfl
                              rotate_left
                              · simp only [Act.put, List.setIfInBounds_toArray, List.set_cons_zero, List.set_cons_succ, i64_w, i32_w]
                                rfl
                              refine pure_ (i := 15) (N := some 54) (v := ?_) (a' := ?_) #[true, true, true, true, true, true, true, true, true, true, true, true, true, true, true, true, false, false, false, false, false, false, false, false, false, false, false, false, false, false, false, false, false, false, false, false, false, false, false, false, false] rfl rfl (any_of HT_.out (by kernel_rfl)) (fun _ _ _ h => h) (Or.inl ⟨by rfl, ?_⟩) ?_ ?_
                              rotate_left
                              · intro w'
                                go_simp
                                with_reducible rfl
                              rotate_left
                              · simp only [Act.put, List.setIfInBounds_toArray, List.set_cons_zero, List.set_cons_succ, i64_w, i32_w]
                                rfl
                              refine pure_ (i := 16) (N := some 55) (v := ?_) (a' := ?_) #[true, true, true, true, true, true, true, true, true, true, true, true, true, true, true, true, true, false, false, false, false, false, false, false, false, false, false, false, false, false, false, false, false, false, false, false, false, false, false, false, false] rfl rfl (any_of HT_.out (by kernel_rfl)) (fun _ _ _ h => h) (Or.inl ⟨by rfl, ?_⟩) ?_ ?_
                              rotate_left
                              · intro w'
                                go_simp
                                with_reducible rfl
                              rotate_left
                              · simp only [Act.put, List.setIfInBounds_toArray, List.set_cons_zero, List.set_cons_succ, i64_w, i32_w]
                                rfl
                              refine pure_ (i := 19) (N := some 58) (v := ?_) (a' := ?_) #[true, true, true, true, true, true, true, true, true, true, true, true, true, true, true, true, true, false, false, true, false, false, false, false, false, false, false, false, false, false, false, false, false, false, false, false, false, false, false, false, false] rfl rfl (any_of HT_.out (by kernel_rfl)) (fun _ _ _ h => h) (Or.inl ⟨by rfl, ?_⟩) ?_ ?_
                              rotate_left
                              · intro w'
                                go_simp
                                with_reducible rfl
                              rotate_left
                              · simp only [Act.put, List.setIfInBounds_toArray, List.set_cons_zero, List.set_cons_succ, i64_w, i32_w]
                                rfl
                              refine pure_ (i := 20) (N := some 59) (v := ?_) (a' := ?_) #[true, true, true, true, true, true, true, true, true, true, true, true, true, true, true, true, true, false, false, true, true, false, false, false, false, false, false, false, false, false, false, false, false, false, false, false, false, false, false, false, false] rfl rfl (any_of HT_.out (by kernel_rfl)) (fun _ _ _ h => h) (Or.inl ⟨by rfl, ?_⟩) ?_ ?_
                              rotate_left
                              · intro w'
                                go_simp
                                with_reducible rfl
                              rotate_left
                              · simp only [Act.put, List.setIfInBounds_toArray, List.set_cons_zero, List.set_cons_succ, i64_w, i32_w]
                                rfl
                              refine take_ (i := 17) (N := some 56) (v := ?_) (a' := ?_) #[true, true, true, true, true, true, true, true, true, true, true, true, true, true, true, true, true, true, false, true, true, false, false, false, false, false, false, false, false, false, false, false, false, false, false, false, false, false, false, false, false] rfl rfl (take_ofW HT_.out HW_.out (by kernel_rfl)) (fun _ _ _ h => h) (Or.inl ⟨by rfl, ?_⟩) hHeld ?_ ?_
                              rotate_left
                              · rintro w' ⟨s0, s1, s2, s3, s4, s5, s6⟩
                                go_simp
                                with_reducible rfl
                              rotate_left
                              · simp only [Act.put, List.setIfInBounds_toArray, List.set_cons_zero, List.set_cons_succ, i64_w, i32_w]
                                rfl
                              refine pure_ (i := 18) (N := some 57) (v := ?_) (a' := ?_) #[true, true, true, true, true, true, true, true, true, true, true, true, true, true, true, true, true, true, true, true, true, false, false, false, false, false, false, false, false, false, false, false, false, false, false, false, false, false, false, false, false] rfl rfl (any_of HT_.out (by kernel_rfl)) (fun _ _ _ h => h) (Or.inl ⟨by rfl, ?_⟩) ?_ ?_
                              rotate_left
                              · intro w'
                                go_simp
                                with_reducible rfl
                              rotate_left
                              · simp only [Act.put, List.setIfInBounds_toArray, List.set_cons_zero, List.set_cons_succ, i64_w, i32_w]
                                rfl
                              refine take_ (i := 21) (N := some 60) (v := ?_) (a' := ?_) #[true, true, true, true, true, true, true, true, true, true, true, true, true, true, true, true, true, true, true, true, true, true, false, false, false, false, false, false, false, false, false, false, false, false, false, false, false, false, false, false, false] rfl rfl (take_ofW HT_.out HW_.out (by kernel_rfl)) (fun _ _ _ h => h) (Or.inl ⟨by rfl, ?_⟩) hHeld ?_ ?_
                              rotate_left
                              · rintro w' ⟨s0, s1, s2, s3, s4, s5, s6⟩
                                go_simp
                                with_reducible rfl
                              rotate_left
                              · simp only [Act.put, List.setIfInBounds_toArray, List.set_cons_zero, List.set_cons_succ, i64_w, i32_w]
                                rfl
                              refine pure_ (i := 22) (N := some 61) (v := ?_) (a' := ?_) #[true, true, true, true, true, true, true, true, true, true, true, true, true, true, true, true, true, true, true, true, true, true, true, false, false, false, false, false, false, false, false, false, false, false, false, false, false, false, false, false, false] rfl rfl (any_of HT_.out (by kernel_rfl)) (fun _ _ _ h => h) (Or.inl ⟨by rfl, ?_⟩) ?_ ?_
                              rotate_left
                              · intro w'
                                go_simp
                                with_reducible rfl
                              rotate_left
                              · simp only [Act.put, List.setIfInBounds_toArray, List.set_cons_zero, List.set_cons_succ, i64_w, i32_w]
                                rfl
                              refine take_ (i := 23) (N := some 62) (v := ?_) (a' := ?_) #[true, true, true, true, true, true, true, true, true, true, true, true, true, true, true, true, true, true, true, true, true, true, true, true, false, false, false, false, false, false, false, false, false, false, false, false, false, false, false, false, false] rfl rfl (take_ofW HT_.out HW_.out (by kernel_rfl)) (fun _ _ _ h => h) (Or.inl ⟨by rfl, ?_⟩) hHeld ?_ ?_
                              rotate_left
                              · rintro w' ⟨s0, s1, s2, s3, s4, s5, s6⟩
                                go_simp
                                with_reducible rfl
                              rotate_left
                              · simp only [Act.put, List.setIfInBounds_toArray, List.set_cons_zero, List.set_cons_succ, i64_w, i32_w]
                                rfl
                              refine pure_ (i := 24) (N := some 63) (v := ?_) (a' := ?_) #[true, true, true, true, true, true, true, true, true, true, true, true, true, true, true, true, true, true, true, true, true, true, true, true, true, false, false, false, false, false, false, false, false, false, false, false, false, false, false, false, false] rfl rfl (any_of HT_.out (by kernel_rfl)) (fun _ _ _ h => h) (Or.inl ⟨by rfl, ?_⟩) ?_ ?_
                              rotate_left
                              · intro w'
                                go_simp
                                with_reducible rfl
                              rotate_left
                              · simp only [Act.put, List.setIfInBounds_toArray, List.set_cons_zero, List.set_cons_succ, i64_w, i32_w]
                                rfl
                              refine pure_ (i := 25) (N := some 64) (v := ?_) (a' := ?_) #[true, true, true, true, true, true, true, true, true, true, true, true, true, true, true, true, true, true, true, true, true, true, true, true, true, true, false, false, false, false, false, false, false, false, false, false, false, false, false, false, false] rfl rfl (any_of HT_.out (by kernel_rfl)) (fun _ _ _ h => h) (Or.inl ⟨by rfl, ?_⟩) ?_ ?_
                              rotate_left
                              · intro w'
                                go_simp
                                with_reducible rfl
                              rotate_left
                              · simp only [Act.put, List.setIfInBounds_toArray, List.set_cons_zero, List.set_cons_succ, i64_w, i32_w]
                                rfl
                              refine pure_ (i := 26) (N := some 65) (v := ?_) (a' := ?_) #[true, true, true, true, true, true, true, true, true, true, true, true, true, true, true, true, true, true, true, true, true, true, true, true, true, true, true, false, false, false, false, false, false, false, false, false, false, false, false, false, false] rfl rfl (any_of HT_.out (by kernel_rfl)) (fun _ _ _ h => h) (Or.inl ⟨by rfl, ?_⟩) ?_ ?_
                              rotate_left
                              · intro w'
                                go_simp
                                with_reducible rfl
                              rotate_left
                              · simp only [Act.put, List.setIfInBounds_toArray, List.set_cons_zero, List.set_cons_succ, i64_w, i32_w]
                                rfl
                              refine pure_ (i := 27) (N := some 66) (v := ?_) (a' := ?_) #[true, true, true, true, true, true, true, true, true, true, true, true, true, true, true, true, true, true, true, true, true, true, true, true, true, true, true, true, false, false, false, false, false, false, false, false, false, false, false, false, false] rfl rfl (any_of HT_.out (by kernel_rfl)) (fun _ _ _ h => h) (Or.inl ⟨by rfl, ?_⟩) ?_ ?_
                              rotate_left
                              · intro w'
                                go_simp
                                with_reducible rfl
                              rotate_left
                              · simp only [Act.put, List.setIfInBounds_toArray, List.set_cons_zero, List.set_cons_succ, i64_w, i32_w]
                                rfl
                              refine pure_ (i := 28) (N := some 67) (v := ?_) (a' := ?_) #[true, true, true, true, true, true, true, true, true, true, true, true, true, true, true, true, true, true, true, true, true, true, true, true, true, true, true, true, true, false, false, false, false, false, false, false, false, false, false, false, false] rfl rfl (any_of HT_.out (by kernel_rfl)) (fun _ _ _ h => h) (Or.inl ⟨by rfl, ?_⟩) ?_ ?_
                              rotate_left
                              · intro w'
                                go_simp
                                with_reducible rfl
                              rotate_left
                              · simp only [Act.put, List.setIfInBounds_toArray, List.set_cons_zero, List.set_cons_succ, i64_w, i32_w]
                                rfl
                              refine pure_ (i := 29) (N := some 68) (v := ?_) (a' := ?_) #[true, true, true, true, true, true, true, true, true, true, true, true, true, true, true, true, true, true, true, true, true, true, true, true, true, true, true, true, true, true, false, false, false, false, false, false, false, false, false, false, false] rfl rfl (any_of HT_.out (by kernel_rfl)) (fun _ _ _ h => h) (Or.inl ⟨by rfl, ?_⟩) ?_ ?_
                              rotate_left
                              · intro w'
                                go_simp
                                with_reducible rfl
                              rotate_left
                              · simp only [Act.put, List.setIfInBounds_toArray, List.set_cons_zero, List.set_cons_succ, i64_w, i32_w]
                                rfl
                              refine pure_ (i := 31) (N := some 70) (v := ?_) (a' := ?_) #[true, true, true, true, true, true, true, true, true, true, true, true, true, true, true, true, true, true, true, true, true, true, true, true, true, true, true, true, true, true, false, true, false, false, false, false, false, false, false, false, false] rfl rfl (any_of HT_.out (by kernel_rfl)) (fun _ _ _ h => h) (Or.inl ⟨by rfl, ?_⟩) ?_ ?_
                              rotate_left
                              · intro w'
                                go_simp
                                with_reducible rfl
                              rotate_left
                              · simp only [Act.put, List.setIfInBounds_toArray, List.set_cons_zero, List.set_cons_succ, i64_w, i32_w]
                                rfl
                              refine take_ (i := 30) (N := some 69) (v := ?_) (a' := ?_) #[true, true, true, true, true, true, true, true, true, true, true, true, true, true, true, true, true, true, true, true, true, true, true, true, true, true, true, true, true, true, true, true, false, false, false, false, false, false, false, false, false] rfl rfl (take_ofW HT_.out HW_.out (by kernel_rfl)) (fun _ _ _ h => h) (Or.inl ⟨by rfl, ?_⟩) hHeld ?_ ?_
                              rotate_left
                              · rintro w' ⟨s0, s1, s2, s3, s4, s5, s6⟩
                                go_simp
                                with_reducible rfl
                              rotate_left
                              · simp only [Act.put, List.setIfInBounds_toArray, List.set_cons_zero, List.set_cons_succ, i64_w, i32_w]
                                rfl
                              refine pure_ (i := 32) (N := some 71) (v := ?_) (a' := ?_) #[true, true, true, true, true, true, true, true, true, true, true, true, true, true, true, true, true, true, true, true, true, true, true, true, true, true, true, true, true, true, true, true, true, false, false, false, false, false, false, false, false] rfl rfl (any_of HT_.out (by kernel_rfl)) (fun _ _ _ h => h) (Or.inl ⟨by rfl, ?_⟩) ?_ ?_
                              rotate_left
                              · intro w'
                                go_simp
                                with_reducible rfl
                              rotate_left
                              · simp only [Act.put, List.setIfInBounds_toArray, List.set_cons_zero, List.set_cons_succ, i64_w, i32_w]
                                rfl
                              refine pure_ (i := 33) (N := some 72) (v := ?_) (a' := ?_) #[true, true, true, true, true, true, true, true, true, true, true, true, true, true, true, true, true, true, true, true, true, true, true, true, true, true, true, true, true, true, true, true, true, true, false, false, false, false, false, false, false] rfl rfl (any_of HT_.out (by kernel_rfl)) (fun _ _ _ h => h) (Or.inl ⟨by rfl, ?_⟩) ?_ ?_
                              rotate_left
                              · intro w'
                                go_simp
                                with_reducible rfl
                              rotate_left
                              · simp only [Act.put, List.setIfInBounds_toArray, List.set_cons_zero, List.set_cons_succ, i64_w, i32_w]
                                rfl
                              refine pure_ (i := 34) (N := some 73) (v := ?_) (a' := ?_) #[true, true, true, true, true, true, true, true, true, true, true, true, true, true, true, true, true, true, true, true, true, true, true, true, true, true, true, true, true, true, true, true, true, true, true, false, false, false, false, false, false] rfl rfl (any_of HT_.out (by kernel_rfl)) (fun _ _ _ h => h) (Or.inl ⟨by rfl, ?_⟩) ?_ ?_
                              rotate_left
                              · intro w'
                                go_simp
                                with_reducible rfl
                              rotate_left
                              · simp only [Act.put, List.setIfInBounds_toArray, List.set_cons_zero, List.set_cons_succ, i64_w, i32_w]
                                rfl
                              refine pure_ (i := 35) (N := some 74) (v := ?_) (a' := ?_) #[true, true, true, true, true, true, true, true, true, true, true, true, true, true, true, true, true, true, true, true, true, true, true, true, true, true, true, true, true, true, true, true, true, true, true, true, false, false, false, false, false] rfl rfl (any_of HT_.out (by kernel_rfl)) (fun _ _ _ h => h) (Or.inl ⟨by rfl, ?_⟩) ?_ ?_
                              rotate_left
                              · intro w'
                                go_simp
                                with_reducible rfl
                              rotate_left
                              · simp only [Act.put, List.setIfInBounds_toArray, List.set_cons_zero, List.set_cons_succ, i64_w, i32_w]
                                rfl
                              refine pure_ (i := 36) (N := some 75) (v := ?_) (a' := ?_) #[true, true, true, true, true, true, true, true, true, true, true, true, true, true, true, true, true, true, true, true, true, true, true, true, true, true, true, true, true, true, true, true, true, true, true, true, true, false, false, false, false] rfl rfl (any_of HT_.out (by kernel_rfl)) (fun _ _ _ h => h) (Or.inl ⟨by rfl, ?_⟩) ?_ ?_
                              rotate_left
                              · intro w'
                                go_simp
                                with_reducible rfl
                              rotate_left
                              · simp only [Act.put, List.setIfInBounds_toArray, List.set_cons_zero, List.set_cons_succ, i64_w, i32_w]
                                rfl
                              refine pure_ (i := 38) (N := some 77) (v := ?_) (a' := ?_) #[true, true, true, true, true, true, true, true, true, true, true, true, true, true, true, true, true, true, true, true, true, true, true, true, true, true, true, true, true, true, true, true, true, true, true, true, true, false, true, false, false] rfl rfl (any_of HT_.out (by kernel_rfl)) (fun _ _ _ h => h) (Or.inl ⟨by rfl, ?_⟩) ?_ ?_
                              rotate_left
                              · intro w'
                                go_simp
                                with_reducible rfl
                              rotate_left
                              · simp only [Act.put, List.setIfInBounds_toArray, List.set_cons_zero, List.set_cons_succ, i64_w, i32_w]
                                rfl
                              refine take_ (i := 37) (N := some 76) (v := ?_) (a' := ?_) #[true, true, true, true, true, true, true, true, true, true, true, true, true, true, true, true, true, true, true, true, true, true, true, true, true, true, true, true, true, true, true, true, true, true, true, true, true, true, true, false, false] rfl rfl (take_ofW HT_.out HW_.out (by kernel_rfl)) (fun _ _ _ h => h) (Or.inl ⟨by rfl, ?_⟩) hHeld ?_ ?_
                              rotate_left
                              · rintro w' ⟨s0, s1, s2, s3, s4, s5, s6⟩
                                go_simp
                                with_reducible rfl
                              rotate_left
                              · simp only [Act.put, List.setIfInBounds_toArray, List.set_cons_zero, List.set_cons_succ, i64_w, i32_w]
                                rfl
                              refine pure_ (i := 39) (N := some 78) (v := ?_) (a' := ?_) #[true, true, true, true, true, true, true, true, true, true, true, true, true, true, true, true, true, true, true, true, true, true, true, true, true, true, true, true, true, true, true, true, true, true, true, true, true, true, true, true, false] rfl rfl (any_of HT_.out (by kernel_rfl)) (fun _ _ _ h => h) (Or.inl ⟨by rfl, ?_⟩) ?_ ?_
                              rotate_left
                              · intro w'
                                go_simp
                                with_reducible rfl
                              rotate_left
                              · simp only [Act.put, List.setIfInBounds_toArray, List.set_cons_zero, List.set_cons_succ, i64_w, i32_w]
                                rfl
                              refine pure_ (i := 40) (N := some 79) (v := ?_) (a' := ?_) #[true, true, true, true, true, true, true, true, true, true, true, true, true, true, true, true, true, true, true, true, true, true, true, true, true, true, true, true, true, true, true, true, true, true, true, true, true, true, true, true, true] rfl rfl (any_of HT_.out (by kernel_rfl)) (fun _ _ _ h => h) (Or.inl ⟨by rfl, ?_⟩) ?_ ?_
                              rotate_left
                              · intro w'
                                go_simp
                                with_reducible rfl
                              rotate_left
                              · simp only [Act.put, List.setIfInBounds_toArray, List.set_cons_zero, List.set_cons_succ, i64_w, i32_w]
                                rfl
                              refine done_ (done_of HT_.out (by kernel_rfl)) ?_
                              try go_wp2
                              go_meet
                              case rel => exact ⟨_, (decide (((rd_T41 t319 x6_1).f3.f0) < t316)), (by first | rfl | (simp; done) | (simp [*]; done)), H', ⟨by have := HK1.out; first | omega | exact Nat.le_refl _⟩, ⟨by (with_reducible repeat (first | apply Kd.S_alloc | apply Kd.S_drewN | apply Kd.S_drew)); exact HO_3.out⟩, ⟨by (with_reducible repeat (first | apply Kd.R_alloc | apply Kd.R_drewN | apply Kd.R_drew)); exact HO_5.out⟩, ⟨by (with_reducible repeat (first | refine blk_drewN ?_ _ | refine blk_drew ?_ | refine blk_alloc ?_ _)); exact BK326.out⟩, ⟨by repeat (first | (with_reducible first | exact HB.out | apply below_alloc | apply pw_below_drewN | apply below_drew1 | refine below_set ?_ GE326.out) | exact HB.out)⟩⟩
                        · rw [if_neg c23] at H
                          exact absurd H (by simp)
                      · rw [if_neg c22] at H
                        exact absurd H (by simp)
              case rest =>
                clear HC16
                try clear c1
                try clear c2
                try clear p2
                try clear c3
                try clear p3
                try clear q3
                try clear hx3
                try clear c4
                try clear p6
                try clear c7
                try clear c7b0
                try clear c7b1
                try clear c7b2
                try clear c14
                try clear c14b0
                try clear c15
                try clear c15b0
                try clear c19
                try clear c19b0
                try clear c20
                try clear c20b0
                try clear c21
                try clear c21b0
                try clear c22
                try clear c22b0
                try clear c23
                try clear c23b0
                try clear c24
                try clear c24b0
                try clear c25
                try clear c25b0
                try clear hcz18_0
                try clear hcz18_1
                try clear hcz18_2
                try clear hcz18_3
                try clear hcz18_4
                try clear hcz18_5
                try clear hfz18_0
                try clear hfz18_1
                try clear hfz18_2
                try clear hfz18_3
                try clear hfz18_4
                try clear hfz18_5
                try clear hx325_0
                try clear hx325_1
                try clear hx325_2
                try clear hx325_3
                try clear hx325_4
                try clear hx325_5
                try clear hx327_0
                try clear p2
                try clear p325
                try clear p327
                try clear q325
                try clear q327
                obtain ⟨kq, x79_15, rfl, HA, HJ15, HO_3, HO_5, BK326, HB⟩ := hcut
                cases kq with
                | zero => exact absurd HA.out (by simp [laws_FnCands.j1])
                | succ kj15 =>
                  have H := HA.out
                  clear HA
                  simp only [laws_FnCands.j1] at H
                  by_cases c28 : x79_15 = true
                  · subst c28
                    have H1 : (some false) = some r := by rw [if_pos rfl] at H; exact H
                    clear H
                    have H := H1
                    clear H1
                    exact absurd ((Option.some.inj H).trans HRT.out) (by decide)
                  · replace c28 := Bool.eq_false_iff.mpr c28
                    subst c28
                    have H1 : (if 0 ≤ ((rd_T41 t319 x6_1).f0) then (if ((rd_T41 t319 x6_1).f0) < (t315.length : Int) then ((spec_TotalOf.f kj15 (rd_L3 t315 ((rd_T41 t319 x6_1).f0))).bind fun bt329 => ((impl_BothOf.f ((rd_T41 t319 x6_1).f0) ((rd_T41 t319 x6_1).f1) ((rd_T41 t319 x6_1).f2.f0) ((rd_T41 t319 x6_1).f2.f1) ((rd_T41 t319 x6_1).f3.f0) ((rd_T41 t319 x6_1).f3.f1)).bind fun bt333 => (if bt333.2.2 = true then (if (!(bt333.1 == bt329.1) || (!(bt333.2.1 == bt329.2.1))) = true then (some false) else (if x6_1 > 0 then (if 0 ≤ (wrap64 (x6_1 - 1)) then (if (wrap64 (x6_1 - 1)) < (t319.length : Int) then ((impl_CandLess.f kj15 ((rd_T41 t319 (wrap64 (x6_1 - 1))).f0) ((rd_T41 t319 (wrap64 (x6_1 - 1))).f1) ((rd_T41 t319 (wrap64 (x6_1 - 1))).f2.f0) ((rd_T41 t319 (wrap64 (x6_1 - 1))).f2.f1) ((rd_T41 t319 (wrap64 (x6_1 - 1))).f3.f0) ((rd_T41 t319 (wrap64 (x6_1 - 1))).f3.f1) ((rd_T41 t319 x6_1).f0) ((rd_T41 t319 x6_1).f1) ((rd_T41 t319 x6_1).f2.f0) ((rd_T41 t319 x6_1).f2.f1) ((rd_T41 t319 x6_1).f3.f0) ((rd_T41 t319 x6_1).f3.f1)).bind fun t338 => (if t338 = true then (laws_FnCands.l0 kj15 t315 t316 t319 (wrap64 (x6_1 + 1))) else (some false))) else (none)) else (none)) else (laws_FnCands.l0 kj15 t315 t316 t319 (wrap64 (x6_1 + 1))))) else (some false)))) else (none)) else (none)) = some r := by rw [if_neg (show ¬ (false = true) by decide)] at H; exact H
                    clear H
                    have H := H1
                    clear H1
                    by_cases c29 : 0 ≤ ((rd_T41 t319 x6_1).f0)
                    · rw [if_pos c29] at H
                      have c29b0 : decide (0 ≤ ((rd_T41 t319 x6_1).f0)) = true := decide_eq_true c29
                      clear c29
                      by_cases c30 : ((rd_T41 t319 x6_1).f0) < (t315.length : Int)
                      · rw [if_pos c30] at H
                        have c30b0 : decide (((rd_T41 t319 x6_1).f0) < (t315.length : Int)) = true := decide_eq_true c30
                        clear c30
                        replace H := Option.bind_eq_some_iff.mp H
                        obtain ⟨⟨t329, t330, t331⟩, A310, H⟩ := H
                        replace H : ((impl_BothOf.f ((rd_T41 t319 x6_1).f0) ((rd_T41 t319 x6_1).f1) ((rd_T41 t319 x6_1).f2.f0) ((rd_T41 t319 x6_1).f2.f1) ((rd_T41 t319 x6_1).f3.f0) ((rd_T41 t319 x6_1).f3.f1)).bind fun bt333 => (if bt333.2.2 = true then (if (!(bt333.1 == t329) || (!(bt333.2.1 == t330))) = true then (some false) else (if x6_1 > 0 then (if 0 ≤ (wrap64 (x6_1 - 1)) then (if (wrap64 (x6_1 - 1)) < (t319.length : Int) then ((impl_CandLess.f kj15 ((rd_T41 t319 (wrap64 (x6_1 - 1))).f0) ((rd_T41 t319 (wrap64 (x6_1 - 1))).f1) ((rd_T41 t319 (wrap64 (x6_1 - 1))).f2.f0) ((rd_T41 t319 (wrap64 (x6_1 - 1))).f2.f1) ((rd_T41 t319 (wrap64 (x6_1 - 1))).f3.f0) ((rd_T41 t319 (wrap64 (x6_1 - 1))).f3.f1) ((rd_T41 t319 x6_1).f0) ((rd_T41 t319 x6_1).f1) ((rd_T41 t319 x6_1).f2.f0) ((rd_T41 t319 x6_1).f2.f1) ((rd_T41 t319 x6_1).f3.f0) ((rd_T41 t319 x6_1).f3.f1)).bind fun t338 => (if t338 = true then (laws_FnCands.l0 kj15 t315 t316 t319 (wrap64 (x6_1 + 1))) else (some false))) else (none)) else (none)) else (laws_FnCands.l0 kj15 t315 t316 t319 (wrap64 (x6_1 + 1))))) else (some false))) = some r := H
                        have A31 := Aside0.mk A310
                        clear A310
                        replace H := Option.bind_eq_some_iff.mp H
                        obtain ⟨⟨t333, t334, t335⟩, A320, H⟩ := H
                        replace H : (if t335 = true then (if (!(t333 == t329) || (!(t334 == t330))) = true then (some false) else (if x6_1 > 0 then (if 0 ≤ (wrap64 (x6_1 - 1)) then (if (wrap64 (x6_1 - 1)) < (t319.length : Int) then ((impl_CandLess.f kj15 ((rd_T41 t319 (wrap64 (x6_1 - 1))).f0) ((rd_T41 t319 (wrap64 (x6_1 - 1))).f1) ((rd_T41 t319 (wrap64 (x6_1 - 1))).f2.f0) ((rd_T41 t319 (wrap64 (x6_1 - 1))).f2.f1) ((rd_T41 t319 (wrap64 (x6_1 - 1))).f3.f0) ((rd_T41 t319 (wrap64 (x6_1 - 1))).f3.f1) ((rd_T41 t319 x6_1).f0) ((rd_T41 t319 x6_1).f1) ((rd_T41 t319 x6_1).f2.f0) ((rd_T41 t319 x6_1).f2.f1) ((rd_T41 t319 x6_1).f3.f0) ((rd_T41 t319 x6_1).f3.f1)).bind fun t338 => (if t338 = true then (laws_FnCands.l0 kj15 t315 t316 t319 (wrap64 (x6_1 + 1))) else (some false))) else (none)) else (none)) else (laws_FnCands.l0 kj15 t315 t316 t319 (wrap64 (x6_1 + 1))))) else (some false)) = some r := H
                        have A32 := Aside0.mk A320
                        clear A320
                        by_cases c33 : t335 = true
                        · subst c33
                          have H1 : (if (!(t333 == t329) || (!(t334 == t330))) = true then (some false) else (if x6_1 > 0 then (if 0 ≤ (wrap64 (x6_1 - 1)) then (if (wrap64 (x6_1 - 1)) < (t319.length : Int) then ((impl_CandLess.f kj15 ((rd_T41 t319 (wrap64 (x6_1 - 1))).f0) ((rd_T41 t319 (wrap64 (x6_1 - 1))).f1) ((rd_T41 t319 (wrap64 (x6_1 - 1))).f2.f0) ((rd_T41 t319 (wrap64 (x6_1 - 1))).f2.f1) ((rd_T41 t319 (wrap64 (x6_1 - 1))).f3.f0) ((rd_T41 t319 (wrap64 (x6_1 - 1))).f3.f1) ((rd_T41 t319 x6_1).f0) ((rd_T41 t319 x6_1).f1) ((rd_T41 t319 x6_1).f2.f0) ((rd_T41 t319 x6_1).f2.f1) ((rd_T41 t319 x6_1).f3.f0) ((rd_T41 t319 x6_1).f3.f1)).bind fun t338 => (if t338 = true then (laws_FnCands.l0 kj15 t315 t316 t319 (wrap64 (x6_1 + 1))) else (some false))) else (none)) else (none)) else (laws_FnCands.l0 kj15 t315 t316 t319 (wrap64 (x6_1 + 1))))) = some r := by rw [if_pos rfl] at H; exact H
                          clear H
                          have H := H1
                          clear H1
                          by_cases c34 : (!(t333 == t329) || (!(t334 == t330))) = true
                          · rw [if_pos c34] at H
                            have c34b0 : (!(t333 == t329) || (!(t334 == t330))) = true := c34
                            clear c34
                            exact absurd ((Option.some.inj H).trans HRT.out) (by decide)
                          · rw [if_neg c34] at H
                            have c34b0 : (!(t333 == t329) || (!(t334 == t330))) = false := by simpa using c34
                            clear c34
                            by_cases c35 : x6_1 > 0
                            · rw [if_pos c35] at H
                              have c35b0 : decide (0 < x6_1) = true := decide_eq_true c35
                              clear c35
                              obtain ⟨ji36, hji36⟩ : ∃ j_ : Int, (wrap64 (x6_1 - 1)) = j_ := ⟨_, rfl⟩
                              replace H : (if 0 ≤ (ji36) then (if (ji36) < (t319.length : Int) then ((impl_CandLess.f kj15 ((rd_T41 t319 (ji36)).f0) ((rd_T41 t319 (ji36)).f1) ((rd_T41 t319 (ji36)).f2.f0) ((rd_T41 t319 (ji36)).f2.f1) ((rd_T41 t319 (ji36)).f3.f0) ((rd_T41 t319 (ji36)).f3.f1) ((rd_T41 t319 x6_1).f0) ((rd_T41 t319 x6_1).f1) ((rd_T41 t319 x6_1).f2.f0) ((rd_T41 t319 x6_1).f2.f1) ((rd_T41 t319 x6_1).f3.f0) ((rd_T41 t319 x6_1).f3.f1)).bind fun t338 => (if t338 = true then (laws_FnCands.l0 kj15 t315 t316 t319 (wrap64 (x6_1 + 1))) else (some false))) else (none)) else (none)) = some r := by first | (rw [hji36] at H; exact H) | (simp only [hji36] at H ⊢; exact H)
                              (try rw [hji36] at A31)
                              (try rw [hji36] at A32)
                              have hji36w : (IntKind.i64.wrap (x6_1 - 1)) = ji36 := (i64_w _).trans hji36
                              by_cases c37 : 0 ≤ (ji36)
                              · rw [if_pos c37] at H
                                have c37b0 : decide (0 ≤ (ji36)) = true := decide_eq_true c37
                                clear c37
                                by_cases c38 : (ji36) < (t319.length : Int)
                                · rw [if_pos c38] at H
                                  have c38b0 : decide ((ji36) < (t319.length : Int)) = true := decide_eq_true c38
                                  clear c38
                                  replace H := Option.bind_eq_some_iff.mp H
                                  obtain ⟨t338, A390, H⟩ := H
                                  replace H : (if t338 = true then (laws_FnCands.l0 kj15 t315 t316 t319 (wrap64 (x6_1 + 1))) else (some false)) = some r := H
                                  have A39 := Aside0.mk A390
                                  clear A390
                                  by_cases c40 : t338 = true
                                  · subst c40
                                    have H1 : (laws_FnCands.l0 kj15 t315 t316 t319 (wrap64 (x6_1 + 1))) = some r := by rw [if_pos rfl] at H; exact H
                                    clear H
                                    have H := H1
                                    clear H1
                                    have H' := Aside0.mk H
                                    clear H
                                    have hcz41_0 : wc.cell? ⟨gb326, 0, none⟩ = some (.int .i64 ((rd_T41 t319 x6_1).f0)) := (blk_cell BK326.out 0).trans rfl
                                    have hcz41_1 : wc.cell? ⟨gb326, 1, none⟩ = some (.int .i64 ((rd_T41 t319 x6_1).f1)) := (blk_cell BK326.out 1).trans rfl
                                    have hcz41_2 : wc.cell? ⟨gb326, 2, none⟩ = some (.int .i64 ((rd_T41 t319 x6_1).f2.f0)) := (blk_cell BK326.out 2).trans rfl
                                    have hcz41_3 : wc.cell? ⟨gb326, 3, none⟩ = some (.int .i64 ((rd_T41 t319 x6_1).f2.f1)) := (blk_cell BK326.out 3).trans rfl
                                    have hcz41_4 : wc.cell? ⟨gb326, 4, none⟩ = some (.int .i64 ((rd_T41 t319 x6_1).f3.f0)) := (blk_cell BK326.out 4).trans rfl
                                    have hcz41_5 : wc.cell? ⟨gb326, 5, none⟩ = some (.int .i64 ((rd_T41 t319 x6_1).f3.f1)) := (blk_cell BK326.out 5).trans rfl
                                    have hfz41_0 := blk_frozen BK326.out 0
                                    have hfz41_1 := blk_frozen BK326.out 1
                                    have hfz41_2 := blk_frozen BK326.out 2
                                    have hfz41_3 := blk_frozen BK326.out 3
                                    have hfz41_4 := blk_frozen BK326.out 4
                                    have hfz41_5 := blk_frozen BK326.out 5
                                    have p328 : 0 ≤ (((rd_T41 t319 x6_1).f0) : Int) := of_decide_eq_true (by first | (with_reducible assumption) | assumption)
                                    have q328 : ((rd_T41 t319 x6_1).f0) < (t315.length : Int) := of_decide_eq_true (by first | (with_reducible assumption) | assumption)
                                    obtain ⟨ad328, A328_0, c328_0, e328, hx328_0, hl328_0, hi328_0⟩ := at_L3 (Kd.S_reads' HO_3.out).2.2 ((rd_T41 t319 x6_1).f0) p328 q328
                                    cases e328
                                    obtain ⟨ce328, hce328, hMe328, hcc328⟩ := Kd.S_get HO_3.out [] ((rd_T41 t319 x6_1).f0) p328 (by first | exact q328 | exact of_decide_eq_true (by first | (with_reducible assumption) | assumption) | (have e_ := (Kd.S_reads' HO_3.out).1; omega))
                                    obtain ⟨ve328_0, rfl, ge328_0⟩ := hMe328
                                    have hv328_0 := hcc328 0 _ rfl
                                    rw [Nat.add_zero, show ((Kd.slice 32 k32)).sz = 1 from rfl, Nat.mul_one] at hv328_0
                                    replace hv328_0 := Option.some.inj (hv328_0.symm.trans hx328_0)
                                    rw [hv328_0] at ge328_0
                                    have HL328_0 := Aside0.mk (show Kd.R k32 32 _ _ _ _ (rd_L3 t315 ((rd_T41 t319 x6_1).f0)) from ge328_0)
                                    clear hv328_0 ge328_0
                                    clear hcc328 hce328
                                    have HR328_0 := Aside0.mk hi328_0
                                    have HC328_0 := Aside0.mk hl328_0
                                    clear hi328_0 hl328_0
                                    replace p328 := eq_true p328
                                    replace q328 := eq_true q328
                                    try go_wp2_with (first | ((with_reducible refine gate_callee (f := 22) rfl ?_); refine goesL_ (some 86) rfl rfl Try.func22 (by kernel_rfl) rfl #[.slice A328_0 (rd_L3 t315 ((rd_T41 t319 x6_1).f0)).length c328_0] rfl (by (try simp only [List.map_toArray, List.map_cons, List.map_nil]); first | done | rfl | (simp only [List.length_drop, List.length_take]; rfl)) ?_; (with_reducible refine (spec_TotalOf.calls kj15 _ _ (rd_L3 t315 ((rd_T41 t319 x6_1).f0)) t329 t330 t331 _ ?side1 ?side2 A31.out).mono ?_); (case side1 => repeat (first | exact (by repeat (first | (with_reducible exact HR328_0.out) | (with_reducible refine Kd.C_alloc ?_ _) | (with_reducible refine Kd.C_drewN ?_ _) | (with_reducible refine Kd.C_drew ?_) | exact HR328_0.out)) | (with_reducible refine Kd.C_alloc ?_ _) | (with_reducible refine Kd.C_drewN ?_ _) | (with_reducible refine Kd.C_drew ?_))); (case side2 => exact HC328_0.out); rintro e w42 ⟨rfl, hb⟩; refine ⟨_, rfl, ?_⟩; have n0_ := Aside0.mk (Kd.S_below (by (with_reducible repeat (first | apply Kd.S_alloc | apply Kd.S_drewN | apply Kd.S_drew)); exact HO_3.out) hb); have n1_ := Aside0.mk (Kd.R_below (by (with_reducible repeat (first | apply Kd.R_alloc | apply Kd.R_drewN | apply Kd.R_drew)); exact HO_5.out) hb); have n2_ := Aside0.mk (Kd.R_below (by (with_reducible repeat (first | apply Kd.R_alloc | apply Kd.R_drewN | apply Kd.R_drew)); exact HL328_0.out) hb); have n3_ := Aside0.mk (blk_below (g := gb326) (o := .cells #[.int .i64 ((rd_T41 t319 x6_1).f0), .int .i64 ((rd_T41 t319 x6_1).f1), .int .i64 ((rd_T41 t319 x6_1).f2.f0), .int .i64 ((rd_T41 t319 x6_1).f2.f1), .int .i64 ((rd_T41 t319 x6_1).f3.f0), .int .i64 ((rd_T41 t319 x6_1).f3.f1)] 41 (0, 0)) (by (with_reducible repeat (first | refine blk_drewN ?_ _ | refine blk_drew ?_ | refine blk_alloc ?_ _)); exact BK326.out) hb); have n4_ := Aside0.mk (Kd.C_below (by repeat (first | (with_reducible exact HR328_0.out) | (with_reducible refine Kd.C_alloc ?_ _) | (with_reducible refine Kd.C_drewN ?_ _) | (with_reducible refine Kd.C_drew ?_) | exact HR328_0.out)) hb); have n5_ := Aside0.mk (below_step (by repeat (first | (with_reducible first | exact HB.out | apply below_alloc | apply pw_below_drewN | apply below_drew1 | refine below_set ?_ GE326.out) | exact HB.out)) hb); clear HO_3; clear HO_5; clear HL328_0; clear BK326; clear HR328_0; clear HB; have HO_3 := n0_; have HO_5 := n1_; have HL328_0 := n2_; have BK326 := n3_; have HR328_0 := n4_; have HB := n5_; clear n0_ n1_ n2_ n3_ n4_ n5_; (try clear hb); (try clear hb2); (try clear hk); (try clear hi)) | ((with_reducible refine gate_dst (N := 8) rfl ?_); (try (refine gate_guard (by rfl) ?_; dsimp only)); refine box_event ?hg (N := 8) ?hd (cs := #[.int .i64 0, .int .i64 0]) (t := 32) ?hr ?_; (case hd => rfl); (case hg => rfl); (case hr => first | (go_simp; done) | (go_simp; rfl)); intro gb332 hg w43 hbox hb; have n0_ := Aside0.mk (Kd.S_below (Kd.S_elderB (by (with_reducible repeat (first | apply Kd.S_alloc | apply Kd.S_drewN | apply Kd.S_drew)); exact HO_3.out) gb332 (Nat.le_of_eq hg.symm)) hb); have n1_ := Aside0.mk (Kd.R_below (by (with_reducible repeat (first | apply Kd.R_alloc | apply Kd.R_drewN | apply Kd.R_drew)); exact HO_5.out) hb); have n2_ := Aside0.mk (Kd.R_below (Kd.R_elderB (by (with_reducible repeat (first | apply Kd.R_alloc | apply Kd.R_drewN | apply Kd.R_drew)); exact HL328_0.out) gb332 (Nat.le_of_eq hg.symm)) hb); have n3_ := Aside0.mk (blk_below (g := gb326) (o := .cells #[.int .i64 ((rd_T41 t319 x6_1).f0), .int .i64 ((rd_T41 t319 x6_1).f1), .int .i64 ((rd_T41 t319 x6_1).f2.f0), .int .i64 ((rd_T41 t319 x6_1).f2.f1), .int .i64 ((rd_T41 t319 x6_1).f3.f0), .int .i64 ((rd_T41 t319 x6_1).f3.f1)] 41 (0, 0)) (by (with_reducible repeat (first | refine blk_drewN ?_ _ | refine blk_drew ?_ | refine blk_alloc ?_ _)); exact BK326.out) hb); have n4_ := Aside0.mk (Kd.C_below (by repeat (first | (with_reducible exact HR328_0.out) | (with_reducible refine Kd.C_alloc ?_ _) | (with_reducible refine Kd.C_drewN ?_ _) | (with_reducible refine Kd.C_drew ?_) | exact HR328_0.out)) hb); have n5_ := Aside0.mk (below_step (by repeat (first | (with_reducible first | exact HB.out | apply below_alloc | apply pw_below_drewN | apply below_drew1 | refine below_set ?_ GE326.out) | exact HB.out)) hb); have n6_ := Aside0.mk (hbox); have n7_ := Aside0.mk ((by rw [hg]; exact (below_size (by repeat (first | (with_reducible first | exact HB.out | apply below_alloc | apply pw_below_drewN | apply below_drew1 | refine below_set ?_ GE326.out) | exact HB.out))) : w.heap.size ≤ gb332)); have n8_ := Aside0.mk ((by rw [hg]; exact (below_size (by repeat (first | (with_reducible first | exact HB.out | apply below_alloc | apply pw_below_drewN | apply below_drew1 | refine below_set ?_ GE326.out) | exact HB.out))) : w.heap.size ≤ gb332)); have n9_ := Aside0.mk ((by rw [hg]; exact Nat.ne_of_lt (blk_lt (g := gb326) (o := .cells #[.int .i64 ((rd_T41 t319 x6_1).f0), .int .i64 ((rd_T41 t319 x6_1).f1), .int .i64 ((rd_T41 t319 x6_1).f2.f0), .int .i64 ((rd_T41 t319 x6_1).f2.f1), .int .i64 ((rd_T41 t319 x6_1).f3.f0), .int .i64 ((rd_T41 t319 x6_1).f3.f1)] 41 (0, 0)) (by (with_reducible repeat (first | refine blk_drewN ?_ _ | refine blk_drew ?_ | refine blk_alloc ?_ _)); exact BK326.out)) : gb326 ≠ gb332)); have n10_ := Aside0.mk ((by rw [hg]; exact Nat.ne_of_gt (blk_lt (g := gb326) (o := .cells #[.int .i64 ((rd_T41 t319 x6_1).f0), .int .i64 ((rd_T41 t319 x6_1).f1), .int .i64 ((rd_T41 t319 x6_1).f2.f0), .int .i64 ((rd_T41 t319 x6_1).f2.f1), .int .i64 ((rd_T41 t319 x6_1).f3.f0), .int .i64 ((rd_T41 t319 x6_1).f3.f1)] 41 (0, 0)) (by (with_reducible repeat (first | refine blk_drewN ?_ _ | refine blk_drew ?_ | refine blk_alloc ?_ _)); exact BK326.out)) : gb332 ≠ gb326)); clear HO_3; clear HO_5; clear HL328_0; clear BK326; clear HR328_0; clear HB; have HO_3 := n0_; have HO_5 := n1_; have HL328_0 := n2_; have BK326 := n3_; have HR328_0 := n4_; have HB := n5_; have BK332 := n6_; have GW332 := n7_; have GE332 := n8_; have NB326_332 := n9_; have NB332_326 := n10_; clear n0_ n1_ n2_ n3_ n4_ n5_ n6_ n7_ n8_ n9_ n10_; clear hb hbox hg; have hnb44 := NB332_326.out; have hnc44 := NB326_332.out; have hcz45_0 : w43.cell? ⟨gb332, 0, none⟩ = some (.int .i64 0) := (blk_cell BK332.out 0).trans rfl; have hcz45_1 : w43.cell? ⟨gb332, 1, none⟩ = some (.int .i64 0) := (blk_cell BK332.out 1).trans rfl; have hfz45_0 := blk_frozen BK332.out 0; have hfz45_1 := blk_frozen BK332.out 1; have hcz46_0 : w43.cell? ⟨gb326, 0, none⟩ = some (.int .i64 ((rd_T41 t319 x6_1).f0)) := (blk_cell BK326.out 0).trans rfl; have hcz46_1 : w43.cell? ⟨gb326, 1, none⟩ = some (.int .i64 ((rd_T41 t319 x6_1).f1)) := (blk_cell BK326.out 1).trans rfl; have hcz46_2 : w43.cell? ⟨gb326, 2, none⟩ = some (.int .i64 ((rd_T41 t319 x6_1).f2.f0)) := (blk_cell BK326.out 2).trans rfl; have hcz46_3 : w43.cell? ⟨gb326, 3, none⟩ = some (.int .i64 ((rd_T41 t319 x6_1).f2.f1)) := (blk_cell BK326.out 3).trans rfl; have hcz46_4 : w43.cell? ⟨gb326, 4, none⟩ = some (.int .i64 ((rd_T41 t319 x6_1).f3.f0)) := (blk_cell BK326.out 4).trans rfl; have hcz46_5 : w43.cell? ⟨gb326, 5, none⟩ = some (.int .i64 ((rd_T41 t319 x6_1).f3.f1)) := (blk_cell BK326.out 5).trans rfl; have hfz46_0 := blk_frozen BK326.out 0; have hfz46_1 := blk_frozen BK326.out 1; have hfz46_2 := blk_frozen BK326.out 2; have hfz46_3 := blk_frozen BK326.out 3; have hfz46_4 := blk_frozen BK326.out 4; have hfz46_5 := blk_frozen BK326.out 5) | ((with_reducible refine gate_callee (f := 26) rfl ?_); refine goesL_ (some 91) rfl rfl Try.func26 (by kernel_rfl) rfl #[.agg #[.int .i64 ((rd_T41 t319 x6_1).f0), .int .i64 ((rd_T41 t319 x6_1).f1), .int .i64 ((rd_T41 t319 x6_1).f2.f0), .int .i64 ((rd_T41 t319 x6_1).f2.f1), .int .i64 ((rd_T41 t319 x6_1).f3.f0), .int .i64 ((rd_T41 t319 x6_1).f3.f1)]] rfl (by (try simp only [List.map_toArray, List.map_cons, List.map_nil]); first | done | rfl | (simp only [List.length_drop, List.length_take]; rfl)) ?_; (with_reducible refine (impl_BothOf.calls ((rd_T41 t319 x6_1).f0) ((rd_T41 t319 x6_1).f1) ((rd_T41 t319 x6_1).f2.f0) ((rd_T41 t319 x6_1).f2.f1) ((rd_T41 t319 x6_1).f3.f0) ((rd_T41 t319 x6_1).f3.f1) t333 t334 true _ A32.out).mono ?_); rintro e w47 ⟨rfl, hb⟩; refine ⟨_, rfl, ?_⟩; have n0_ := Aside0.mk (Kd.S_below (by (with_reducible repeat (first | apply Kd.S_alloc | apply Kd.S_drewN | apply Kd.S_drew)); exact (Kd.S_mono (Kd.S_far (p := ⟨gb332, 1, none⟩) (Kd.S_far (p := ⟨gb332, 0, none⟩) (Kd.S_mono HO_3.out (fun k_ hk => (⟨hk, hk.2⟩ : _ ∧ k_ ≠ gb332))) (fun _ hk => hk.2) (.int .i64 t329)) (fun _ hk => hk.2) (.int .i64 t330)) (fun _ h_ => h_.1))) hb); have n1_ := Aside0.mk (Kd.R_below (by (with_reducible repeat (first | apply Kd.R_alloc | apply Kd.R_drewN | apply Kd.R_drew)); exact (Kd.R_mono (Kd.R_far (p := ⟨gb332, 1, none⟩) (Kd.R_far (p := ⟨gb332, 0, none⟩) (Kd.R_types HO_5.out BK332.out (by decide)) (fun _ hk => hk.2) (.int .i64 t329)) (fun _ hk => hk.2) (.int .i64 t330)) (fun _ h_ => h_.1))) hb); have n2_ := Aside0.mk (Kd.R_below (by (with_reducible repeat (first | apply Kd.R_alloc | apply Kd.R_drewN | apply Kd.R_drew)); exact (Kd.R_mono (Kd.R_far (p := ⟨gb332, 1, none⟩) (Kd.R_far (p := ⟨gb332, 0, none⟩) (Kd.R_mono HL328_0.out (fun k_ hk => (⟨hk, hk.2⟩ : _ ∧ k_ ≠ gb332))) (fun _ hk => hk.2) (.int .i64 t329)) (fun _ hk => hk.2) (.int .i64 t330)) (fun _ h_ => h_.1))) hb); have n3_ := Aside0.mk (blk_below (g := gb326) (o := .cells #[.int .i64 ((rd_T41 t319 x6_1).f0), .int .i64 ((rd_T41 t319 x6_1).f1), .int .i64 ((rd_T41 t319 x6_1).f2.f0), .int .i64 ((rd_T41 t319 x6_1).f2.f1), .int .i64 ((rd_T41 t319 x6_1).f3.f0), .int .i64 ((rd_T41 t319 x6_1).f3.f1)] 41 (0, 0)) (by (with_reducible repeat (first | refine blk_drewN ?_ _ | refine blk_drew ?_ | refine blk_alloc ?_ _)); refine blk_far ?_ NB326_332.out _; (with_reducible repeat (first | refine blk_drewN ?_ _ | refine blk_drew ?_ | refine blk_alloc ?_ _)); refine blk_far ?_ NB326_332.out _; (with_reducible repeat (first | refine blk_drewN ?_ _ | refine blk_drew ?_ | refine blk_alloc ?_ _)); exact BK326.out) hb); have n4_ := Aside0.mk (Kd.C_below ((Kd.R_reads' (by (with_reducible repeat (first | apply Kd.R_alloc | apply Kd.R_drewN | apply Kd.R_drew)); exact (Kd.R_mono (Kd.R_far (p := ⟨gb332, 1, none⟩) (Kd.R_far (p := ⟨gb332, 0, none⟩) (Kd.R_mono HL328_0.out (fun k_ hk => (⟨hk, hk.2⟩ : _ ∧ k_ ≠ gb332))) (fun _ hk => hk.2) (.int .i64 t329)) (fun _ hk => hk.2) (.int .i64 t330)) (fun _ h_ => h_.1)))).2.2) hb); have n5_ := Aside0.mk (blk_below (g := gb332) (o := .cells #[.int .i64 t329, .int .i64 t330] 32 (0, 0)) (by (with_reducible repeat (first | refine blk_drewN ?_ _ | refine blk_drew ?_ | refine blk_alloc ?_ _)); refine blk_put (cs := #[.int .i64 t329, .int .i64 0]) ?_ 1 _ rfl; (with_reducible repeat (first | refine blk_drewN ?_ _ | refine blk_drew ?_ | refine blk_alloc ?_ _)); refine blk_put (cs := #[.int .i64 0, .int .i64 0]) ?_ 0 _ rfl; (with_reducible repeat (first | refine blk_drewN ?_ _ | refine blk_drew ?_ | refine blk_alloc ?_ _)); exact BK332.out) hb); have n6_ := Aside0.mk (below_step (by repeat (first | (with_reducible first | exact HB.out | apply below_alloc | apply pw_below_drewN | apply below_drew1 | refine below_set ?_ GE326.out | refine below_set ?_ GE332.out) | exact HB.out)) hb); clear HO_3; clear HO_5; clear HL328_0; clear BK326; clear HR328_0; clear BK332; clear HB; have HO_3 := n0_; have HO_5 := n1_; have HL328_0 := n2_; have BK326 := n3_; have HR328_0 := n4_; have BK332 := n5_; have HB := n6_; clear n0_ n1_ n2_ n3_ n4_ n5_ n6_; (try clear hb); (try clear hb2); (try clear hk); (try clear hi)) | ((with_reducible refine gate_dst (N := 10) rfl ?_); (try (refine gate_guard (by rfl) ?_; dsimp only)); refine box_event ?hg (N := 10) ?hd (cs := #[.int .i64 0, .int .i64 0]) (t := 32) ?hr ?_; (case hd => rfl); (case hg => rfl); (case hr => first | (go_simp; done) | (go_simp; rfl)); intro gb336 hg w48 hbox hb; have n0_ := Aside0.mk (Kd.S_below (Kd.S_elderB (by (with_reducible repeat (first | apply Kd.S_alloc | apply Kd.S_drewN | apply Kd.S_drew)); exact HO_3.out) gb336 (Nat.le_of_eq hg.symm)) hb); have n1_ := Aside0.mk (Kd.R_below (by (with_reducible repeat (first | apply Kd.R_alloc | apply Kd.R_drewN | apply Kd.R_drew)); exact HO_5.out) hb); have n2_ := Aside0.mk (Kd.R_below (Kd.R_elderB (by (with_reducible repeat (first | apply Kd.R_alloc | apply Kd.R_drewN | apply Kd.R_drew)); exact HL328_0.out) gb336 (Nat.le_of_eq hg.symm)) hb); have n3_ := Aside0.mk (blk_below (g := gb326) (o := .cells #[.int .i64 ((rd_T41 t319 x6_1).f0), .int .i64 ((rd_T41 t319 x6_1).f1), .int .i64 ((rd_T41 t319 x6_1).f2.f0), .int .i64 ((rd_T41 t319 x6_1).f2.f1), .int .i64 ((rd_T41 t319 x6_1).f3.f0), .int .i64 ((rd_T41 t319 x6_1).f3.f1)] 41 (0, 0)) (by (with_reducible repeat (first | refine blk_drewN ?_ _ | refine blk_drew ?_ | refine blk_alloc ?_ _)); exact BK326.out) hb); have n4_ := Aside0.mk (Kd.C_below (by repeat (first | (with_reducible exact HR328_0.out) | (with_reducible refine Kd.C_alloc ?_ _) | (with_reducible refine Kd.C_drewN ?_ _) | (with_reducible refine Kd.C_drew ?_) | exact HR328_0.out)) hb); have n5_ := Aside0.mk (blk_below (g := gb332) (o := .cells #[.int .i64 t329, .int .i64 t330] 32 (0, 0)) (by (with_reducible repeat (first | refine blk_drewN ?_ _ | refine blk_drew ?_ | refine blk_alloc ?_ _)); exact BK332.out) hb); have n6_ := Aside0.mk (below_step (by repeat (first | (with_reducible first | exact HB.out | apply below_alloc | apply pw_below_drewN | apply below_drew1 | refine below_set ?_ GE326.out | refine below_set ?_ GE332.out) | exact HB.out)) hb); have n7_ := Aside0.mk (hbox); have n8_ := Aside0.mk ((by rw [hg]; exact (below_size (by repeat (first | (with_reducible first | exact HB.out | apply below_alloc | apply pw_below_drewN | apply below_drew1 | refine below_set ?_ GE326.out | refine below_set ?_ GE332.out) | exact HB.out))) : w.heap.size ≤ gb336)); have n9_ := Aside0.mk ((by rw [hg]; exact (below_size (by repeat (first | (with_reducible first | exact HB.out | apply below_alloc | apply pw_below_drewN | apply below_drew1 | refine below_set ?_ GE326.out | refine below_set ?_ GE332.out) | exact HB.out))) : w.heap.size ≤ gb336)); have n10_ := Aside0.mk ((by rw [hg]; exact Nat.ne_of_lt (blk_lt (g := gb326) (o := .cells #[.int .i64 ((rd_T41 t319 x6_1).f0), .int .i64 ((rd_T41 t319 x6_1).f1), .int .i64 ((rd_T41 t319 x6_1).f2.f0), .int .i64 ((rd_T41 t319 x6_1).f2.f1), .int .i64 ((rd_T41 t319 x6_1).f3.f0), .int .i64 ((rd_T41 t319 x6_1).f3.f1)] 41 (0, 0)) (by (with_reducible repeat (first | refine blk_drewN ?_ _ | refine blk_drew ?_ | refine blk_alloc ?_ _)); exact BK326.out)) : gb326 ≠ gb336)); have n11_ := Aside0.mk ((by rw [hg]; exact Nat.ne_of_gt (blk_lt (g := gb326) (o := .cells #[.int .i64 ((rd_T41 t319 x6_1).f0), .int .i64 ((rd_T41 t319 x6_1).f1), .int .i64 ((rd_T41 t319 x6_1).f2.f0), .int .i64 ((rd_T41 t319 x6_1).f2.f1), .int .i64 ((rd_T41 t319 x6_1).f3.f0), .int .i64 ((rd_T41 t319 x6_1).f3.f1)] 41 (0, 0)) (by (with_reducible repeat (first | refine blk_drewN ?_ _ | refine blk_drew ?_ | refine blk_alloc ?_ _)); exact BK326.out)) : gb336 ≠ gb326)); have n12_ := Aside0.mk ((by rw [hg]; exact Nat.ne_of_lt (blk_lt (g := gb332) (o := .cells #[.int .i64 t329, .int .i64 t330] 32 (0, 0)) (by (with_reducible repeat (first | refine blk_drewN ?_ _ | refine blk_drew ?_ | refine blk_alloc ?_ _)); exact BK332.out)) : gb332 ≠ gb336)); have n13_ := Aside0.mk ((by rw [hg]; exact Nat.ne_of_gt (blk_lt (g := gb332) (o := .cells #[.int .i64 t329, .int .i64 t330] 32 (0, 0)) (by (with_reducible repeat (first | refine blk_drewN ?_ _ | refine blk_drew ?_ | refine blk_alloc ?_ _)); exact BK332.out)) : gb336 ≠ gb332)); clear HO_3; clear HO_5; clear HL328_0; clear BK326; clear HR328_0; clear BK332; clear HB; have HO_3 := n0_; have HO_5 := n1_; have HL328_0 := n2_; have BK326 := n3_; have HR328_0 := n4_; have BK332 := n5_; have HB := n6_; have BK336 := n7_; have GW336 := n8_; have GE336 := n9_; have NB326_336 := n10_; have NB336_326 := n11_; have NB332_336 := n12_; have NB336_332 := n13_; clear n0_ n1_ n2_ n3_ n4_ n5_ n6_ n7_ n8_ n9_ n10_ n11_ n12_ n13_; clear hb hbox hg; have hnb49 := NB336_326.out; have hnc49 := NB326_336.out; have hnb50 := NB336_332.out; have hnc50 := NB332_336.out; have hcz51_0 : w48.cell? ⟨gb336, 0, none⟩ = some (.int .i64 0) := (blk_cell BK336.out 0).trans rfl; have hcz51_1 : w48.cell? ⟨gb336, 1, none⟩ = some (.int .i64 0) := (blk_cell BK336.out 1).trans rfl; have hfz51_0 := blk_frozen BK336.out 0; have hfz51_1 := blk_frozen BK336.out 1))
                                    have n0_ : Aside0 (Kd.S (Kd.slice 32 k32) 27 ((w48.setCell ⟨gb336, 0, none⟩ (.int .i64 t333)).setCell ⟨gb336, 1, none⟩ (.int .i64 t334)) w.heap.size (fun k_ => k_ ≠ gb332 ∧ k_ ≠ gb336) (.slice (some ad328) t315.length co9) t315) := ⟨by (with_reducible repeat (first | apply Kd.S_alloc | apply Kd.S_drewN | apply Kd.S_drew)); exact Kd.S_mono (Kd.S_far (p := ⟨gb336, 1, none⟩) (Kd.S_far (p := ⟨gb336, 0, none⟩) (Kd.S_mono HO_3.out (fun k_ hk => (⟨hk, hk.2⟩ : _ ∧ k_ ≠ gb336))) (fun _ hk => hk.2) (.int .i64 t333)) (fun _ hk => hk.2) (.int .i64 t334)) (fun _ hk => ⟨hk.1.1.2, hk.1.2⟩)⟩
                                    have n1_ : Aside0 (Kd.R k41 41 ((w48.setCell ⟨gb336, 0, none⟩ (.int .i64 t333)).setCell ⟨gb336, 1, none⟩ (.int .i64 t334)) w.heap.size (fun k_ => k_ ≠ gb326) (.slice (some ad325) t319.length co11) t319) := ⟨by (with_reducible repeat (first | apply Kd.R_alloc | apply Kd.R_drewN | apply Kd.R_drew)); exact Kd.R_mono (Kd.R_far (p := ⟨gb336, 1, none⟩) (Kd.R_far (p := ⟨gb336, 0, none⟩) (Kd.R_types HO_5.out BK336.out (by decide)) (fun _ hk => hk.2) (.int .i64 t333)) (fun _ hk => hk.2) (.int .i64 t334)) (fun _ hk => hk.1)⟩
                                    have n2_ : Aside0 (Kd.R k32 32 ((w48.setCell ⟨gb336, 0, none⟩ (.int .i64 t333)).setCell ⟨gb336, 1, none⟩ (.int .i64 t334)) w.heap.size (fun k_ => some k_ ≠ (.slice (some ad328) t315.length co9 : Value).ownBlock ∧ k_ ≠ gb332 ∧ k_ ≠ gb336) (.slice A328_0 (rd_L3 t315 ((rd_T41 t319 x6_1).f0)).length c328_0) (rd_L3 t315 ((rd_T41 t319 x6_1).f0))) := ⟨by (with_reducible repeat (first | apply Kd.R_alloc | apply Kd.R_drewN | apply Kd.R_drew)); exact Kd.R_mono (Kd.R_far (p := ⟨gb336, 1, none⟩) (Kd.R_far (p := ⟨gb336, 0, none⟩) (Kd.R_mono HL328_0.out (fun k_ hk => (⟨hk, hk.2⟩ : _ ∧ k_ ≠ gb336))) (fun _ hk => hk.2) (.int .i64 t333)) (fun _ hk => hk.2) (.int .i64 t334)) (fun _ hk => ⟨hk.1.1.1.2, ⟨hk.1.1.2, hk.1.2⟩⟩)⟩
                                    have n3_ : Aside0 (((w48.setCell ⟨gb336, 0, none⟩ (.int .i64 t333)).setCell ⟨gb336, 1, none⟩ (.int .i64 t334)).heap[gb326]? = some (.cells #[.int .i64 ((rd_T41 t319 x6_1).f0), .int .i64 ((rd_T41 t319 x6_1).f1), .int .i64 ((rd_T41 t319 x6_1).f2.f0), .int .i64 ((rd_T41 t319 x6_1).f2.f1), .int .i64 ((rd_T41 t319 x6_1).f3.f0), .int .i64 ((rd_T41 t319 x6_1).f3.f1)] 41 (0, 0))) := ⟨by (with_reducible repeat (first | refine blk_drewN ?_ _ | refine blk_drew ?_ | refine blk_alloc ?_ _)); refine blk_far ?_ NB326_336.out _; (with_reducible repeat (first | refine blk_drewN ?_ _ | refine blk_drew ?_ | refine blk_alloc ?_ _)); refine blk_far ?_ NB326_336.out _; (with_reducible repeat (first | refine blk_drewN ?_ _ | refine blk_drew ?_ | refine blk_alloc ?_ _)); exact BK326.out⟩
                                    have n4_ : Aside0 (((w48.setCell ⟨gb336, 0, none⟩ (.int .i64 t333)).setCell ⟨gb336, 1, none⟩ (.int .i64 t334)).heap[gb332]? = some (.cells #[.int .i64 t329, .int .i64 t330] 32 (0, 0))) := ⟨by (with_reducible repeat (first | refine blk_drewN ?_ _ | refine blk_drew ?_ | refine blk_alloc ?_ _)); refine blk_far ?_ NB332_336.out _; (with_reducible repeat (first | refine blk_drewN ?_ _ | refine blk_drew ?_ | refine blk_alloc ?_ _)); refine blk_far ?_ NB332_336.out _; (with_reducible repeat (first | refine blk_drewN ?_ _ | refine blk_drew ?_ | refine blk_alloc ?_ _)); exact BK332.out⟩
                                    have n5_ : Aside0 (((w48.setCell ⟨gb336, 0, none⟩ (.int .i64 t333)).setCell ⟨gb336, 1, none⟩ (.int .i64 t334)).heap[gb336]? = some (.cells #[.int .i64 t333, .int .i64 t334] 32 (0, 0))) := ⟨by (with_reducible repeat (first | refine blk_drewN ?_ _ | refine blk_drew ?_ | refine blk_alloc ?_ _)); refine blk_put (cs := #[.int .i64 t333, .int .i64 0]) ?_ 1 _ rfl; (with_reducible repeat (first | refine blk_drewN ?_ _ | refine blk_drew ?_ | refine blk_alloc ?_ _)); refine blk_put (cs := #[.int .i64 0, .int .i64 0]) ?_ 0 _ rfl; (with_reducible repeat (first | refine blk_drewN ?_ _ | refine blk_drew ?_ | refine blk_alloc ?_ _)); exact BK336.out⟩
                                    have n6_ : Aside0 (Below w.heap.size w ((w48.setCell ⟨gb336, 0, none⟩ (.int .i64 t333)).setCell ⟨gb336, 1, none⟩ (.int .i64 t334))) := ⟨by repeat (first | (with_reducible first | exact HB.out | apply below_alloc | apply pw_below_drewN | apply below_drew1 | refine below_set ?_ GE326.out | refine below_set ?_ GE332.out | refine below_set ?_ GE336.out) | exact HB.out)⟩
                                    (try clear HO_3)
                                    (try clear HO_5)
                                    (try clear HL328_0)
                                    (try clear BK326)
                                    (try clear BK332)
                                    (try clear BK336)
                                    (try clear HB)
                                    generalize ((w48.setCell ⟨gb336, 0, none⟩ (.int .i64 t333)).setCell ⟨gb336, 1, none⟩ (.int .i64 t334)) = w52 at n0_ n1_ n2_ n3_ n4_ n5_ n6_ ⊢
                                    have HO_3 := n0_
                                    have HO_5 := n1_
                                    have HL328_0 := n2_
                                    have BK326 := n3_
                                    have BK332 := n4_
                                    have BK336 := n5_
                                    have HB := n6_
                                    clear n0_ n1_ n2_ n3_ n4_ n5_ n6_
                                    have n0_ := Aside0.mk (Kd.S_drew HO_3.out)
                                    have n1_ := Aside0.mk (Kd.R_drew HO_5.out)
                                    have n2_ := Aside0.mk (Kd.R_drew HL328_0.out)
                                    have n3_ := Aside0.mk (blk_drew BK326.out)
                                    have n4_ := Aside0.mk (blk_drew BK332.out)
                                    have n5_ := Aside0.mk (blk_drew BK336.out)
                                    have n6_ := Aside0.mk (below_drew1 HB.out)
                                    clear HO_3
                                    clear HO_5
                                    clear HL328_0
                                    clear BK326
                                    clear BK332
                                    clear BK336
                                    clear HB
                                    have HO_3 := n0_
                                    have HO_5 := n1_
                                    have HL328_0 := n2_
                                    have BK326 := n3_
                                    have BK332 := n4_
                                    have BK336 := n5_
                                    have HB := n6_
                                    clear n0_ n1_ n2_ n3_ n4_ n5_ n6_
                                    have p337 : 0 ≤ ((ji36) : Int) := of_decide_eq_true (by first | (with_reducible assumption) | assumption)
                                    have q337 : (ji36) < (t319.length : Int) := of_decide_eq_true (by first | (with_reducible assumption) | assumption)
                                    obtain ⟨ad337, e337, hx337_0, hx337_1, hx337_2, hx337_3, hx337_4, hx337_5⟩ := at_T41 (Kd.R_reads' HO_5.out).2.2 (ji36) p337 q337
                                    obtain rfl : ad325 = ad337 := (by injection e337)
                                    replace p337 := eq_true p337
                                    replace q337 := eq_true q337
                                    refine start_ (n := 21) (S := fun w' => w'.cell? ⟨gb336, 0, none⟩ = some (.int .i64 t333) ∧ w'.cell? ⟨gb336, 1, none⟩ = some (.int .i64 t334) ∧ w'.cell? ⟨gb332, 0, none⟩ = some (.int .i64 t329) ∧ w'.cell? ⟨gb332, 1, none⟩ = some (.int .i64 t330) ∧ w'.cell? ⟨gb326, 0, none⟩ = some (.int .i64 ((rd_T41 t319 x6_1).f0)) ∧ w'.cell? ⟨gb326, 1, none⟩ = some (.int .i64 ((rd_T41 t319 x6_1).f1)) ∧ w'.cell? ⟨gb326, 2, none⟩ = some (.int .i64 ((rd_T41 t319 x6_1).f2.f0)) ∧ w'.cell? ⟨gb326, 3, none⟩ = some (.int .i64 ((rd_T41 t319 x6_1).f2.f1)) ∧ w'.cell? ⟨gb326, 4, none⟩ = some (.int .i64 ((rd_T41 t319 x6_1).f3.f0)) ∧ w'.cell? ⟨gb326, 5, none⟩ = some (.int .i64 ((rd_T41 t319 x6_1).f3.f1)) ∧ w'.cell? (ad325.add (((ji36)).toNat * 6)) = some (.int .i64 ((rd_T41 t319 (ji36)).f0)) ∧ w'.cell? ⟨(ad325.add (((ji36)).toNat * 6)).block, (ad325.add (((ji36)).toNat * 6)).off + 1, none⟩ = some (.int .i64 ((rd_T41 t319 (ji36)).f1)) ∧ w'.cell? ⟨(ad325.add (((ji36)).toNat * 6)).block, (ad325.add (((ji36)).toNat * 6)).off + 2, none⟩ = some (.int .i64 ((rd_T41 t319 (ji36)).f2.f0)) ∧ w'.cell? ⟨(ad325.add (((ji36)).toNat * 6)).block, (ad325.add (((ji36)).toNat * 6)).off + 3, none⟩ = some (.int .i64 ((rd_T41 t319 (ji36)).f2.f1)) ∧ w'.cell? ⟨(ad325.add (((ji36)).toNat * 6)).block, (ad325.add (((ji36)).toNat * 6)).off + 4, none⟩ = some (.int .i64 ((rd_T41 t319 (ji36)).f3.f0)) ∧ w'.cell? ⟨(ad325.add (((ji36)).toNat * 6)).block, (ad325.add (((ji36)).toNat * 6)).off + 5, none⟩ = some (.int .i64 ((rd_T41 t319 (ji36)).f3.f1))) (ds := []) #[false, false, false, false, false, false, false, false, false, false, false, false, false, false, false, false, false, false, false, false, false] (by kernel_rfl) rfl rfl ⟨(blk_cell BK336.out 0).trans rfl, (blk_cell BK336.out 1).trans rfl, (blk_cell BK332.out 0).trans rfl, (blk_cell BK332.out 1).trans rfl, (blk_cell BK326.out 0).trans rfl, (blk_cell BK326.out 1).trans rfl, (blk_cell BK326.out 2).trans rfl, (blk_cell BK326.out 3).trans rfl, (blk_cell BK326.out 4).trans rfl, (blk_cell BK326.out 5).trans rfl, hx337_0, hx337_1, hx337_2, hx337_3, hx337_4, hx337_5⟩ (fun hHeld => ?_); refine with_tabW laws_FnCands.tab15 laws_FnCands.bits15 (fun HT_ HW_ => ?_)
                                    generalize w52.drew = w53 at HO_3 HO_5 HL328_0 BK326 BK332 BK336 HB hx337_0 hx337_1 hx337_2 hx337_3 hx337_4 hx337_5 hHeld ⊢
                                    refine pure_ (i := 0) (N := some 94) (v := ?_) (a' := ?_) #[true, false, false, false, false, false, false, false, false, false, false, false, false, false, false, false, false, false, false, false, false] rfl rfl (any_of HT_.out (by kernel_rfl)) (fun _ _ _ h => h) (Or.inl ⟨by rfl, ?_⟩) ?_ ?_
                                    rotate_left
                                    · intro w'
                                      go_simp
                                      with_reducible rfl
                                    rotate_left
                                    · simp only [Act.put, List.setIfInBounds_toArray, List.set_cons_zero, List.set_cons_succ, i64_w, i32_w]
                                      rfl
                                    refine pure_ (i := 1) (N := some 95) (v := ?_) (a' := ?_) #[true, true, false, false, false, false, false, false, false, false, false, false, false, false, false, false, false, false, false, false, false] rfl rfl (any_of HT_.out (by kernel_rfl)) (fun _ _ _ h => h) (Or.inl ⟨by rfl, ?_⟩) ?_ ?_
                                    rotate_left
                                    · intro w'
                                      go_simp
                                      with_reducible rfl
                                    rotate_left
                                    · simp only [Act.put, List.setIfInBounds_toArray, List.set_cons_zero, List.set_cons_succ, i64_w, i32_w]
                                      rfl
                                    refine pure_ (i := 2) (N := some 96) (v := ?_) (a' := ?_) #[true, true, true, false, false, false, false, false, false, false, false, false, false, false, false, false, false, false, false, false, false] rfl rfl (any_of HT_.out (by kernel_rfl)) (fun _ _ _ h => h) (Or.inl ⟨by rfl, ?_⟩) ?_ ?_
                                    rotate_left
                                    · intro w'
                                      go_simp
                                      with_reducible rfl
                                    rotate_left
                                    · simp only [Act.put, List.setIfInBounds_toArray, List.set_cons_zero, List.set_cons_succ, i64_w, i32_w]
                                      rfl
                                    refine take_ (i := 3) (N := some 97) (v := ?_) (a' := ?_) #[true, true, true, true, false, false, false, false, false, false, false, false, false, false, false, false, false, false, false, false, false] rfl rfl (take_ofW HT_.out HW_.out (by kernel_rfl)) (fun _ _ _ h => h) (Or.inl ⟨by rfl, ?_⟩) hHeld ?_ ?_
                                    rotate_left
                                    · rintro w' ⟨s0, s1, s2, s3, s4, s5, s6, s7, s8, s9, s10, s11, s12, s13, s14, s15⟩
                                      go_simp
                                      with_reducible rfl
                                    rotate_left
                                    · simp only [Act.put, List.setIfInBounds_toArray, List.set_cons_zero, List.set_cons_succ, i64_w, i32_w]
                                      rfl
                                    refine take_ (i := 4) (N := some 98) (v := ?_) (a' := ?_) #[true, true, true, true, true, false, false, false, false, false, false, false, false, false, false, false, false, false, false, false, false] rfl rfl (take_ofW HT_.out HW_.out (by kernel_rfl)) (fun _ _ _ h => h) (Or.inl ⟨by rfl, ?_⟩) hHeld ?_ ?_
                                    rotate_left
                                    · rintro w' ⟨s0, s1, s2, s3, s4, s5, s6, s7, s8, s9, s10, s11, s12, s13, s14, s15⟩
                                      go_simp
                                      with_reducible rfl
                                    rotate_left
                                    · simp only [Act.put, List.setIfInBounds_toArray, List.set_cons_zero, List.set_cons_succ, i64_w, i32_w]
                                      rfl
                                    refine pure_ (i := 5) (N := some 99) (v := ?_) (a' := ?_) #[true, true, true, true, true, true, false, false, false, false, false, false, false, false, false, false, false, false, false, false, false] rfl rfl (any_of HT_.out (by kernel_rfl)) (fun _ _ _ h => h) (Or.inl ⟨by rfl, ?_⟩) ?_ ?_
                                    rotate_left
                                    · intro w'
                                      go_simp
                                      with_reducible rfl
                                    rotate_left
                                    · simp only [Act.put, List.setIfInBounds_toArray, List.set_cons_zero, List.set_cons_succ, i64_w, i32_w]
                                      rfl
                                    refine pure_ (i := 6) (N := some 100) (v := ?_) (a' := ?_) #[true, true, true, true, true, true, true, false, false, false, false, false, false, false, false, false, false, false, false, false, false] rfl rfl (any_of HT_.out (by kernel_rfl)) (fun _ _ _ h => h) (Or.inl ⟨by rfl, ?_⟩) ?_ ?_
                                    rotate_left
                                    · intro w'
                                      go_simp
                                      with_reducible rfl
                                    rotate_left
                                    · simp only [Act.put, List.setIfInBounds_toArray, List.set_cons_zero, List.set_cons_succ, i64_w, i32_w]
                                      rfl
                                    refine pure_ (i := 7) (N := some 101) (v := ?_) (a' := ?_) #[true, true, true, true, true, true, true, true, false, false, false, false, false, false, false, false, false, false, false, false, false] rfl rfl (any_of HT_.out (by kernel_rfl)) (fun _ _ _ h => h) (Or.inl ⟨by rfl, ?_⟩) ?_ ?_
                                    rotate_left
                                    · intro w'
                                      go_simp
                                      with_reducible rfl
                                    rotate_left
                                    · simp only [Act.put, List.setIfInBounds_toArray, List.set_cons_zero, List.set_cons_succ, i64_w, i32_w]
                                      rfl
                                    refine pure_ (i := 8) (N := some 102) (v := ?_) (a' := ?_) #[true, true, true, true, true, true, true, true, true, false, false, false, false, false, false, false, false, false, false, false, false] rfl rfl (any_of HT_.out (by kernel_rfl)) (fun _ _ _ h => h) (Or.inl ⟨by rfl, ?_⟩) ?_ ?_
                                    rotate_left
                                    · intro w'
                                      go_simp
                                      with_reducible rfl
                                    rotate_left
                                    · simp only [Act.put, List.setIfInBounds_toArray, List.set_cons_zero, List.set_cons_succ, i64_w, i32_w]
                                      rfl
                                    refine pure_ (i := 9) (N := some 103) (v := ?_) (a' := ?_) #[true, true, true, true, true, true, true, true, true, true, false, false, false, false, false, false, false, false, false, false, false] rfl rfl (any_of HT_.out (by kernel_rfl)) (fun _ _ _ h => h) (Or.inl ⟨by rfl, ?_⟩) ?_ ?_
                                    rotate_left
                                    · intro w'
                                      go_simp
                                      with_reducible rfl
                                    rotate_left
                                    · simp only [Act.put, List.setIfInBounds_toArray, List.set_cons_zero, List.set_cons_succ, i64_w, i32_w]
                                      rfl
                                    refine pure_ (i := 10) (N := some 104) (v := ?_) (a' := ?_) #[true, true, true, true, true, true, true, true, true, true, true, false, false, false, false, false, false, false, false, false, false] rfl rfl (any_of HT_.out (by kernel_rfl)) (fun _ _ _ h => h) (Or.inl ⟨by rfl, ?_⟩) ?_ ?_
                                    rotate_left
                                    · intro w'
                                      go_simp
                                      with_reducible rfl
                                    rotate_left
                                    · simp only [Act.put, List.setIfInBounds_toArray, List.set_cons_zero, List.set_cons_succ, i64_w, i32_w]
                                      rfl
                                    refine pure_ (i := 11) (N := some 105) (v := ?_) (a' := ?_) #[true, true, true, true, true, true, true, true, true, true, true, true, false, false, false, false, false, false, false, false, false] rfl rfl (any_of HT_.out (by kernel_rfl)) (fun _ _ _ h => h) (Or.inl ⟨by rfl, ?_⟩) ?_ ?_
                                    rotate_left
                                    · intro w'
                                      go_simp
                                      with_reducible rfl
                                    rotate_left
                                    · simp only [Act.put, List.setIfInBounds_toArray, List.set_cons_zero, List.set_cons_succ, i64_w, i32_w]
                                      rfl
                                    refine pure_ (i := 12) (N := some 106) (v := ?_) (a' := ?_) #[true, true, true, true, true, true, true, true, true, true, true, true, true, false, false, false, false, false, false, false, false] rfl rfl (any_of HT_.out (by kernel_rfl)) (fun _ _ _ h => h) (Or.inl ⟨by rfl, ?_⟩) ?_ ?_
                                    rotate_left
                                    · intro w'
                                      go_simp
                                      with_reducible rfl
                                    rotate_left
                                    · simp only [Act.put, List.setIfInBounds_toArray, List.set_cons_zero, List.set_cons_succ, i64_w, i32_w]
                                      rfl
                                    refine pure_ (i := 13) (N := some 107) (v := ?_) (a' := ?_) #[true, true, true, true, true, true, true, true, true, true, true, true, true, true, false, false, false, false, false, false, false] rfl rfl (any_of HT_.out (by kernel_rfl)) (fun _ _ _ h => h) (Or.inl ⟨by rfl, ?_⟩) ?_ ?_
                                    rotate_left
                                    · intro w'
                                      go_simp
                                      with_reducible rfl
                                    rotate_left
                                    · simp only [Act.put, List.setIfInBounds_toArray, List.set_cons_zero, List.set_cons_succ, i64_w, i32_w]
                                      rfl
                                    refine pure_ (i := 14) (N := some 108) (v := ?_) (a' := ?_) #[true, true, true, true, true, true, true, true, true, true, true, true, true, true, true, false, false, false, false, false, false] rfl rfl (any_of HT_.out (by kernel_rfl)) (fun _ _ _ h => h) (Or.inl ⟨by rfl, ?_⟩) ?_ ?_
                                    rotate_left
                                    · intro w'
                                      go_simp
                                      with_reducible rfl
                                    rotate_left
                                    · simp only [Act.put, List.setIfInBounds_toArray, List.set_cons_zero, List.set_cons_succ, i64_w, i32_w]
                                      rfl
                                    refine take_ (i := 15) (N := some 109) (v := ?_) (a' := ?_) #[true, true, true, true, true, true, true, true, true, true, true, true, true, true, true, true, false, false, false, false, false] rfl rfl (take_ofW HT_.out HW_.out (by kernel_rfl)) (fun _ _ _ h => h) (Or.inl ⟨by rfl, ?_⟩) hHeld ?_ ?_
                                    rotate_left
                                    · rintro w' ⟨s0, s1, s2, s3, s4, s5, s6, s7, s8, s9, s10, s11, s12, s13, s14, s15⟩
                                      go_simp
                                      with_reducible rfl
                                    rotate_left
                                    · simp only [Act.put, List.setIfInBounds_toArray, List.set_cons_zero, List.set_cons_succ, i64_w, i32_w]
                                      rfl
                                    refine take_ (i := 16) (N := some 110) (v := ?_) (a' := ?_) #[true, true, true, true, true, true, true, true, true, true, true, true, true, true, true, true, true, false, false, false, false] rfl rfl (take_ofW HT_.out HW_.out (by kernel_rfl)) (fun _ _ _ h => h) (Or.inl ⟨by rfl, ?_⟩) hHeld ?_ ?_
                                    rotate_left
                                    · rintro w' ⟨s0, s1, s2, s3, s4, s5, s6, s7, s8, s9, s10, s11, s12, s13, s14, s15⟩
                                      go_simp
                                      with_reducible rfl
                                    rotate_left
                                    · simp only [Act.put, List.setIfInBounds_toArray, List.set_cons_zero, List.set_cons_succ, i64_w, i32_w]
                                      rfl
                                    refine one_ (i := 17) (N := some 111) #[true, true, true, true, true, true, true, true, true, true, true, true, true, true, true, true, true, true, false, false, false] rfl rfl (one_of HT_.out (by kernel_rfl)) (by decide) (fun K hK => ?_)
                                    refine goes_ Try.func27 (by kernel_rfl) rfl #[.agg #[.int .i64 ((rd_T41 t319 (ji36)).f0), .int .i64 ((rd_T41 t319 (ji36)).f1), .int .i64 ((rd_T41 t319 (ji36)).f2.f0), .int .i64 ((rd_T41 t319 (ji36)).f2.f1), .int .i64 ((rd_T41 t319 (ji36)).f3.f0), .int .i64 ((rd_T41 t319 (ji36)).f3.f1)], .agg #[.int .i64 ((rd_T41 t319 x6_1).f0), .int .i64 ((rd_T41 t319 x6_1).f1), .int .i64 ((rd_T41 t319 x6_1).f2.f0), .int .i64 ((rd_T41 t319 x6_1).f2.f1), .int .i64 ((rd_T41 t319 x6_1).f3.f0), .int .i64 ((rd_T41 t319 x6_1).f3.f1)]] (by rfl) rfl rfl (by (try simp only [List.map_toArray, List.map_cons, List.map_nil]); first | done | (simp only [hji36]; rfl) | rfl | (simp only [List.length_drop, List.length_take]; rfl)) ?_
                                    with_reducible refine (impl_CandLess.calls kj15 ((rd_T41 t319 (ji36)).f0) ((rd_T41 t319 (ji36)).f1) ((rd_T41 t319 (ji36)).f2.f0) ((rd_T41 t319 (ji36)).f2.f1) ((rd_T41 t319 (ji36)).f3.f0) ((rd_T41 t319 (ji36)).f3.f1) ((rd_T41 t319 x6_1).f0) ((rd_T41 t319 x6_1).f1) ((rd_T41 t319 x6_1).f2.f0) ((rd_T41 t319 x6_1).f2.f1) ((rd_T41 t319 x6_1).f3.f0) ((rd_T41 t319 x6_1).f3.f1) true _ A39.out).mono ?_
                                    rintro e w54 ⟨rfl, hb⟩
                                    have HS10_ := (hb.cell (World.block_lt_of_cell? _ _ (hHeld.2.2.2.2.2.2.2.2.2.2.1))).trans (hHeld.2.2.2.2.2.2.2.2.2.2.1)
                                    have HS11_ := (hb.cell (World.block_lt_of_cell? _ _ (hHeld.2.2.2.2.2.2.2.2.2.2.2.1))).trans (hHeld.2.2.2.2.2.2.2.2.2.2.2.1)
                                    have HS12_ := (hb.cell (World.block_lt_of_cell? _ _ (hHeld.2.2.2.2.2.2.2.2.2.2.2.2.1))).trans (hHeld.2.2.2.2.2.2.2.2.2.2.2.2.1)
                                    have HS13_ := (hb.cell (World.block_lt_of_cell? _ _ (hHeld.2.2.2.2.2.2.2.2.2.2.2.2.2.1))).trans (hHeld.2.2.2.2.2.2.2.2.2.2.2.2.2.1)
                                    have HS14_ := (hb.cell (World.block_lt_of_cell? _ _ (hHeld.2.2.2.2.2.2.2.2.2.2.2.2.2.2.1))).trans (hHeld.2.2.2.2.2.2.2.2.2.2.2.2.2.2.1)
                                    have HS15_ := (hb.cell (World.block_lt_of_cell? _ _ (hHeld.2.2.2.2.2.2.2.2.2.2.2.2.2.2.2))).trans (hHeld.2.2.2.2.2.2.2.2.2.2.2.2.2.2.2)
                                    refine ⟨_, rfl, ?_⟩
                                    have n0_ := Aside0.mk (Kd.S_below (by (with_reducible repeat (first | apply Kd.S_alloc | apply Kd.S_drewN | apply Kd.S_drew)); exact HO_3.out) hb)
                                    have n1_ := Aside0.mk (Kd.R_below (by (with_reducible repeat (first | apply Kd.R_alloc | apply Kd.R_drewN | apply Kd.R_drew)); exact HO_5.out) hb)
                                    have n2_ := Aside0.mk (Kd.R_below (by (with_reducible repeat (first | apply Kd.R_alloc | apply Kd.R_drewN | apply Kd.R_drew)); exact HL328_0.out) hb)
                                    have n3_ := Aside0.mk (blk_below (g := gb326) (o := .cells #[.int .i64 ((rd_T41 t319 x6_1).f0), .int .i64 ((rd_T41 t319 x6_1).f1), .int .i64 ((rd_T41 t319 x6_1).f2.f0), .int .i64 ((rd_T41 t319 x6_1).f2.f1), .int .i64 ((rd_T41 t319 x6_1).f3.f0), .int .i64 ((rd_T41 t319 x6_1).f3.f1)] 41 (0, 0)) (by (with_reducible repeat (first | refine blk_drewN ?_ _ | refine blk_drew ?_ | refine blk_alloc ?_ _)); exact BK326.out) hb)
                                    have n4_ := Aside0.mk (blk_below (g := gb332) (o := .cells #[.int .i64 t329, .int .i64 t330] 32 (0, 0)) (by (with_reducible repeat (first | refine blk_drewN ?_ _ | refine blk_drew ?_ | refine blk_alloc ?_ _)); exact BK332.out) hb)
                                    have n5_ := Aside0.mk (blk_below (g := gb336) (o := .cells #[.int .i64 t333, .int .i64 t334] 32 (0, 0)) (by (with_reducible repeat (first | refine blk_drewN ?_ _ | refine blk_drew ?_ | refine blk_alloc ?_ _)); exact BK336.out) hb)
                                    have n6_ := Aside0.mk (below_step (by repeat (first | (with_reducible first | exact HB.out | apply below_alloc | apply pw_below_drewN | apply below_drew1 | refine below_set ?_ GE326.out | refine below_set ?_ GE332.out | refine below_set ?_ GE336.out) | exact HB.out)) hb)
                                    clear HO_3
                                    clear HO_5
                                    clear HL328_0
                                    clear BK326
                                    clear BK332
                                    clear BK336
                                    clear HB
                                    have HO_3 := n0_
                                    have HO_5 := n1_
                                    have HL328_0 := n2_
                                    have BK326 := n3_
                                    have BK332 := n4_
                                    have BK336 := n5_
                                    have HB := n6_
                                    clear n0_ n1_ n2_ n3_ n4_ n5_ n6_
                                    (try clear hb)
                                    (try clear hb2)
                                    (try clear hk)
                                    (try clear hi)
                                    refine hK.out _ _ ⟨(blk_cell BK336.out 0).trans rfl, (blk_cell BK336.out 1).trans rfl, (blk_cell BK332.out 0).trans rfl, (blk_cell BK332.out 1).trans rfl, (blk_cell BK326.out 0).trans rfl, (blk_cell BK326.out 1).trans rfl, (blk_cell BK326.out 2).trans rfl, (blk_cell BK326.out 3).trans rfl, (blk_cell BK326.out 4).trans rfl, (blk_cell BK326.out 5).trans rfl, HS10_, HS11_, HS12_, HS13_, HS14_, HS15_⟩ (fun hHeld => ?_)
                                    clear hK K
                                    refine norm_ (a' := ?_) ?_ ?_
                                    rotate_left
                                    · show Act.put _ (some 111) _ = _
                                      simp only [Act.put, List.setIfInBounds_toArray, List.set_cons_zero, List.set_cons_succ, i64_w, i32_w]
                                      rfl
                                    refine pure_ (i := 18) (N := some 112) (v := ?_) (a' := ?_) #[true, true, true, true, true, true, true, true, true, true, true, true, true, true, true, true, true, true, true, false, false] rfl rfl (any_of HT_.out (by kernel_rfl)) (fun _ _ _ h => h) (Or.inl ⟨by rfl, ?_⟩) ?_ ?_
                                    rotate_left
                                    · intro w'
                                      go_simp
                                      with_reducible rfl
                                    rotate_left
                                    · simp only [Act.put, List.setIfInBounds_toArray, List.set_cons_zero, List.set_cons_succ, i64_w, i32_w]
                                      rfl
                                    refine pure_ (i := 19) (N := some 113) (v := ?_) (a' := ?_) #[true, true, true, true, true, true, true, true, true, true, true, true, true, true, true, true, true, true, true, true, false] rfl rfl (any_of HT_.out (by kernel_rfl)) (fun _ _ _ h => h) (Or.inl ⟨by rfl, ?_⟩) ?_ ?_
                                    rotate_left
                                    · intro w'
                                      go_simp
                                      with_reducible rfl
                                    rotate_left
                                    · simp only [Act.put, List.setIfInBounds_toArray, List.set_cons_zero, List.set_cons_succ, i64_w, i32_w]
                                      rfl
                                    refine pure_ (i := 20) (N := some 114) (v := ?_) (a' := ?_) #[true, true, true, true, true, true, true, true, true, true, true, true, true, true, true, true, true, true, true, true, true] rfl rfl (any_of HT_.out (by kernel_rfl)) (fun _ _ _ h => h) (Or.inl ⟨by rfl, ?_⟩) ?_ ?_
                                    rotate_left
                                    · intro w'
                                      go_simp
                                      with_reducible rfl
                                    rotate_left
                                    · simp only [Act.put, List.setIfInBounds_toArray, List.set_cons_zero, List.set_cons_succ, i64_w, i32_w]
                                      rfl
                                    refine done_ (done_of HT_.out (by kernel_rfl)) ?_
                                    try go_wp2
                                    go_roundg kj15
                                    case measure => have := HK1.out; have := HJ15.out; omega
                                    case rel => exact ⟨(wrap64 (x6_1 + 1)), (by first | rfl | (simp; done) | (simp [*]; done)), H', ⟨by have := HK1.out; have := HJ15.out; omega⟩, ⟨by (with_reducible repeat (first | apply Kd.S_alloc | apply Kd.S_drewN | apply Kd.S_drew)); exact Kd.S_mono HO_3.out (fun _ hk => trivial)⟩, ⟨by (with_reducible repeat (first | apply Kd.R_alloc | apply Kd.R_drewN | apply Kd.R_drew)); exact Kd.R_mono HO_5.out (fun _ hk => trivial)⟩, ⟨by repeat (first | (with_reducible first | exact HB.out | apply below_alloc | apply pw_below_drewN | apply below_drew1 | refine below_set ?_ GE326.out | refine below_set ?_ GE332.out | refine below_set ?_ GE336.out) | exact HB.out)⟩⟩
                                  · replace c40 := Bool.eq_false_iff.mpr c40
                                    subst c40
                                    have H1 : (some false) = some r := by rw [if_neg (show ¬ (false = true) by decide)] at H; exact H
                                    clear H
                                    have H := H1
                                    clear H1
                                    exact absurd ((Option.some.inj H).trans HRT.out) (by decide)
                                · rw [if_neg c38] at H
                                  exact absurd H (by simp)
                              · rw [if_neg c37] at H
                                exact absurd H (by simp)
                            · rw [if_neg c35] at H
                              have c35b0 : decide (0 < x6_1) = false := decide_eq_false c35
                              clear c35
                              have H' := Aside0.mk H
                              clear H
                              have hcz55_0 : wc.cell? ⟨gb326, 0, none⟩ = some (.int .i64 ((rd_T41 t319 x6_1).f0)) := (blk_cell BK326.out 0).trans rfl
                              have hcz55_1 : wc.cell? ⟨gb326, 1, none⟩ = some (.int .i64 ((rd_T41 t319 x6_1).f1)) := (blk_cell BK326.out 1).trans rfl
                              have hcz55_2 : wc.cell? ⟨gb326, 2, none⟩ = some (.int .i64 ((rd_T41 t319 x6_1).f2.f0)) := (blk_cell BK326.out 2).trans rfl
                              have hcz55_3 : wc.cell? ⟨gb326, 3, none⟩ = some (.int .i64 ((rd_T41 t319 x6_1).f2.f1)) := (blk_cell BK326.out 3).trans rfl
                              have hcz55_4 : wc.cell? ⟨gb326, 4, none⟩ = some (.int .i64 ((rd_T41 t319 x6_1).f3.f0)) := (blk_cell BK326.out 4).trans rfl
                              have hcz55_5 : wc.cell? ⟨gb326, 5, none⟩ = some (.int .i64 ((rd_T41 t319 x6_1).f3.f1)) := (blk_cell BK326.out 5).trans rfl
                              have hfz55_0 := blk_frozen BK326.out 0
                              have hfz55_1 := blk_frozen BK326.out 1
                              have hfz55_2 := blk_frozen BK326.out 2
                              have hfz55_3 := blk_frozen BK326.out 3
                              have hfz55_4 := blk_frozen BK326.out 4
                              have hfz55_5 := blk_frozen BK326.out 5
                              have p328 : 0 ≤ (((rd_T41 t319 x6_1).f0) : Int) := of_decide_eq_true (by first | (with_reducible assumption) | assumption)
                              have q328 : ((rd_T41 t319 x6_1).f0) < (t315.length : Int) := of_decide_eq_true (by first | (with_reducible assumption) | assumption)
                              obtain ⟨ad328, A328_0, c328_0, e328, hx328_0, hl328_0, hi328_0⟩ := at_L3 (Kd.S_reads' HO_3.out).2.2 ((rd_T41 t319 x6_1).f0) p328 q328
                              cases e328
                              obtain ⟨ce328, hce328, hMe328, hcc328⟩ := Kd.S_get HO_3.out [] ((rd_T41 t319 x6_1).f0) p328 (by first | exact q328 | exact of_decide_eq_true (by first | (with_reducible assumption) | assumption) | (have e_ := (Kd.S_reads' HO_3.out).1; omega))
                              obtain ⟨ve328_0, rfl, ge328_0⟩ := hMe328
                              have hv328_0 := hcc328 0 _ rfl
                              rw [Nat.add_zero, show ((Kd.slice 32 k32)).sz = 1 from rfl, Nat.mul_one] at hv328_0
                              replace hv328_0 := Option.some.inj (hv328_0.symm.trans hx328_0)
                              rw [hv328_0] at ge328_0
                              have HL328_0 := Aside0.mk (show Kd.R k32 32 _ _ _ _ (rd_L3 t315 ((rd_T41 t319 x6_1).f0)) from ge328_0)
                              clear hv328_0 ge328_0
                              clear hcc328 hce328
                              have HR328_0 := Aside0.mk hi328_0
                              have HC328_0 := Aside0.mk hl328_0
                              clear hi328_0 hl328_0
                              replace p328 := eq_true p328
                              replace q328 := eq_true q328
                              try go_wp2_with (first | ((with_reducible refine gate_callee (f := 22) rfl ?_); refine goesL_ (some 86) rfl rfl Try.func22 (by kernel_rfl) rfl #[.slice A328_0 (rd_L3 t315 ((rd_T41 t319 x6_1).f0)).length c328_0] rfl (by (try simp only [List.map_toArray, List.map_cons, List.map_nil]); first | done | rfl | (simp only [List.length_drop, List.length_take]; rfl)) ?_; (with_reducible refine (spec_TotalOf.calls kj15 _ _ (rd_L3 t315 ((rd_T41 t319 x6_1).f0)) t329 t330 t331 _ ?side1 ?side2 A31.out).mono ?_); (case side1 => repeat (first | exact (by repeat (first | (with_reducible exact HR328_0.out) | (with_reducible refine Kd.C_alloc ?_ _) | (with_reducible refine Kd.C_drewN ?_ _) | (with_reducible refine Kd.C_drew ?_) | exact HR328_0.out)) | (with_reducible refine Kd.C_alloc ?_ _) | (with_reducible refine Kd.C_drewN ?_ _) | (with_reducible refine Kd.C_drew ?_))); (case side2 => exact HC328_0.out); rintro e w56 ⟨rfl, hb⟩; refine ⟨_, rfl, ?_⟩; have n0_ := Aside0.mk (Kd.S_below (by (with_reducible repeat (first | apply Kd.S_alloc | apply Kd.S_drewN | apply Kd.S_drew)); exact HO_3.out) hb); have n1_ := Aside0.mk (Kd.R_below (by (with_reducible repeat (first | apply Kd.R_alloc | apply Kd.R_drewN | apply Kd.R_drew)); exact HO_5.out) hb); have n2_ := Aside0.mk (Kd.R_below (by (with_reducible repeat (first | apply Kd.R_alloc | apply Kd.R_drewN | apply Kd.R_drew)); exact HL328_0.out) hb); have n3_ := Aside0.mk (blk_below (g := gb326) (o := .cells #[.int .i64 ((rd_T41 t319 x6_1).f0), .int .i64 ((rd_T41 t319 x6_1).f1), .int .i64 ((rd_T41 t319 x6_1).f2.f0), .int .i64 ((rd_T41 t319 x6_1).f2.f1), .int .i64 ((rd_T41 t319 x6_1).f3.f0), .int .i64 ((rd_T41 t319 x6_1).f3.f1)] 41 (0, 0)) (by (with_reducible repeat (first | refine blk_drewN ?_ _ | refine blk_drew ?_ | refine blk_alloc ?_ _)); exact BK326.out) hb); have n4_ := Aside0.mk (Kd.C_below (by repeat (first | (with_reducible exact HR328_0.out) | (with_reducible refine Kd.C_alloc ?_ _) | (with_reducible refine Kd.C_drewN ?_ _) | (with_reducible refine Kd.C_drew ?_) | exact HR328_0.out)) hb); have n5_ := Aside0.mk (below_step (by repeat (first | (with_reducible first | exact HB.out | apply below_alloc | apply pw_below_drewN | apply below_drew1 | refine below_set ?_ GE326.out) | exact HB.out)) hb); clear HO_3; clear HO_5; clear HL328_0; clear BK326; clear HR328_0; clear HB; have HO_3 := n0_; have HO_5 := n1_; have HL328_0 := n2_; have BK326 := n3_; have HR328_0 := n4_; have HB := n5_; clear n0_ n1_ n2_ n3_ n4_ n5_; (try clear hb); (try clear hb2); (try clear hk); (try clear hi)) | ((with_reducible refine gate_dst (N := 8) rfl ?_); (try (refine gate_guard (by rfl) ?_; dsimp only)); refine box_event ?hg (N := 8) ?hd (cs := #[.int .i64 0, .int .i64 0]) (t := 32) ?hr ?_; (case hd => rfl); (case hg => rfl); (case hr => first | (go_simp; done) | (go_simp; rfl)); intro gb332 hg w57 hbox hb; have n0_ := Aside0.mk (Kd.S_below (Kd.S_elderB (by (with_reducible repeat (first | apply Kd.S_alloc | apply Kd.S_drewN | apply Kd.S_drew)); exact HO_3.out) gb332 (Nat.le_of_eq hg.symm)) hb); have n1_ := Aside0.mk (Kd.R_below (by (with_reducible repeat (first | apply Kd.R_alloc | apply Kd.R_drewN | apply Kd.R_drew)); exact HO_5.out) hb); have n2_ := Aside0.mk (Kd.R_below (Kd.R_elderB (by (with_reducible repeat (first | apply Kd.R_alloc | apply Kd.R_drewN | apply Kd.R_drew)); exact HL328_0.out) gb332 (Nat.le_of_eq hg.symm)) hb); have n3_ := Aside0.mk (blk_below (g := gb326) (o := .cells #[.int .i64 ((rd_T41 t319 x6_1).f0), .int .i64 ((rd_T41 t319 x6_1).f1), .int .i64 ((rd_T41 t319 x6_1).f2.f0), .int .i64 ((rd_T41 t319 x6_1).f2.f1), .int .i64 ((rd_T41 t319 x6_1).f3.f0), .int .i64 ((rd_T41 t319 x6_1).f3.f1)] 41 (0, 0)) (by (with_reducible repeat (first | refine blk_drewN ?_ _ | refine blk_drew ?_ | refine blk_alloc ?_ _)); exact BK326.out) hb); have n4_ := Aside0.mk (Kd.C_below (by repeat (first | (with_reducible exact HR328_0.out) | (with_reducible refine Kd.C_alloc ?_ _) | (with_reducible refine Kd.C_drewN ?_ _) | (with_reducible refine Kd.C_drew ?_) | exact HR328_0.out)) hb); have n5_ := Aside0.mk (below_step (by repeat (first | (with_reducible first | exact HB.out | apply below_alloc | apply pw_below_drewN | apply below_drew1 | refine below_set ?_ GE326.out) | exact HB.out)) hb); have n6_ := Aside0.mk (hbox); have n7_ := Aside0.mk ((by rw [hg]; exact (below_size (by repeat (first | (with_reducible first | exact HB.out | apply below_alloc | apply pw_below_drewN | apply below_drew1 | refine below_set ?_ GE326.out) | exact HB.out))) : w.heap.size ≤ gb332)); have n8_ := Aside0.mk ((by rw [hg]; exact (below_size (by repeat (first | (with_reducible first | exact HB.out | apply below_alloc | apply pw_below_drewN | apply below_drew1 | refine below_set ?_ GE326.out) | exact HB.out))) : w.heap.size ≤ gb332)); have n9_ := Aside0.mk ((by rw [hg]; exact Nat.ne_of_lt (blk_lt (g := gb326) (o := .cells #[.int .i64 ((rd_T41 t319 x6_1).f0), .int .i64 ((rd_T41 t319 x6_1).f1), .int .i64 ((rd_T41 t319 x6_1).f2.f0), .int .i64 ((rd_T41 t319 x6_1).f2.f1), .int .i64 ((rd_T41 t319 x6_1).f3.f0), .int .i64 ((rd_T41 t319 x6_1).f3.f1)] 41 (0, 0)) (by (with_reducible repeat (first | refine blk_drewN ?_ _ | refine blk_drew ?_ | refine blk_alloc ?_ _)); exact BK326.out)) : gb326 ≠ gb332)); have n10_ := Aside0.mk ((by rw [hg]; exact Nat.ne_of_gt (blk_lt (g := gb326) (o := .cells #[.int .i64 ((rd_T41 t319 x6_1).f0), .int .i64 ((rd_T41 t319 x6_1).f1), .int .i64 ((rd_T41 t319 x6_1).f2.f0), .int .i64 ((rd_T41 t319 x6_1).f2.f1), .int .i64 ((rd_T41 t319 x6_1).f3.f0), .int .i64 ((rd_T41 t319 x6_1).f3.f1)] 41 (0, 0)) (by (with_reducible repeat (first | refine blk_drewN ?_ _ | refine blk_drew ?_ | refine blk_alloc ?_ _)); exact BK326.out)) : gb332 ≠ gb326)); clear HO_3; clear HO_5; clear HL328_0; clear BK326; clear HR328_0; clear HB; have HO_3 := n0_; have HO_5 := n1_; have HL328_0 := n2_; have BK326 := n3_; have HR328_0 := n4_; have HB := n5_; have BK332 := n6_; have GW332 := n7_; have GE332 := n8_; have NB326_332 := n9_; have NB332_326 := n10_; clear n0_ n1_ n2_ n3_ n4_ n5_ n6_ n7_ n8_ n9_ n10_; clear hb hbox hg; have hnb58 := NB332_326.out; have hnc58 := NB326_332.out; have hcz59_0 : w57.cell? ⟨gb332, 0, none⟩ = some (.int .i64 0) := (blk_cell BK332.out 0).trans rfl; have hcz59_1 : w57.cell? ⟨gb332, 1, none⟩ = some (.int .i64 0) := (blk_cell BK332.out 1).trans rfl; have hfz59_0 := blk_frozen BK332.out 0; have hfz59_1 := blk_frozen BK332.out 1; have hcz60_0 : w57.cell? ⟨gb326, 0, none⟩ = some (.int .i64 ((rd_T41 t319 x6_1).f0)) := (blk_cell BK326.out 0).trans rfl; have hcz60_1 : w57.cell? ⟨gb326, 1, none⟩ = some (.int .i64 ((rd_T41 t319 x6_1).f1)) := (blk_cell BK326.out 1).trans rfl; have hcz60_2 : w57.cell? ⟨gb326, 2, none⟩ = some (.int .i64 ((rd_T41 t319 x6_1).f2.f0)) := (blk_cell BK326.out 2).trans rfl; have hcz60_3 : w57.cell? ⟨gb326, 3, none⟩ = some (.int .i64 ((rd_T41 t319 x6_1).f2.f1)) := (blk_cell BK326.out 3).trans rfl; have hcz60_4 : w57.cell? ⟨gb326, 4, none⟩ = some (.int .i64 ((rd_T41 t319 x6_1).f3.f0)) := (blk_cell BK326.out 4).trans rfl; have hcz60_5 : w57.cell? ⟨gb326, 5, none⟩ = some (.int .i64 ((rd_T41 t319 x6_1).f3.f1)) := (blk_cell BK326.out 5).trans rfl; have hfz60_0 := blk_frozen BK326.out 0; have hfz60_1 := blk_frozen BK326.out 1; have hfz60_2 := blk_frozen BK326.out 2; have hfz60_3 := blk_frozen BK326.out 3; have hfz60_4 := blk_frozen BK326.out 4; have hfz60_5 := blk_frozen BK326.out 5) | ((with_reducible refine gate_callee (f := 26) rfl ?_); refine goesL_ (some 91) rfl rfl Try.func26 (by kernel_rfl) rfl #[.agg #[.int .i64 ((rd_T41 t319 x6_1).f0), .int .i64 ((rd_T41 t319 x6_1).f1), .int .i64 ((rd_T41 t319 x6_1).f2.f0), .int .i64 ((rd_T41 t319 x6_1).f2.f1), .int .i64 ((rd_T41 t319 x6_1).f3.f0), .int .i64 ((rd_T41 t319 x6_1).f3.f1)]] rfl (by (try simp only [List.map_toArray, List.map_cons, List.map_nil]); first | done | rfl | (simp only [List.length_drop, List.length_take]; rfl)) ?_; (with_reducible refine (impl_BothOf.calls ((rd_T41 t319 x6_1).f0) ((rd_T41 t319 x6_1).f1) ((rd_T41 t319 x6_1).f2.f0) ((rd_T41 t319 x6_1).f2.f1) ((rd_T41 t319 x6_1).f3.f0) ((rd_T41 t319 x6_1).f3.f1) t333 t334 true _ A32.out).mono ?_); rintro e w61 ⟨rfl, hb⟩; refine ⟨_, rfl, ?_⟩; have n0_ := Aside0.mk (Kd.S_below (by (with_reducible repeat (first | apply Kd.S_alloc | apply Kd.S_drewN | apply Kd.S_drew)); exact (Kd.S_mono (Kd.S_far (p := ⟨gb332, 1, none⟩) (Kd.S_far (p := ⟨gb332, 0, none⟩) (Kd.S_mono HO_3.out (fun k_ hk => (⟨hk, hk.2⟩ : _ ∧ k_ ≠ gb332))) (fun _ hk => hk.2) (.int .i64 t329)) (fun _ hk => hk.2) (.int .i64 t330)) (fun _ h_ => h_.1))) hb); have n1_ := Aside0.mk (Kd.R_below (by (with_reducible repeat (first | apply Kd.R_alloc | apply Kd.R_drewN | apply Kd.R_drew)); exact (Kd.R_mono (Kd.R_far (p := ⟨gb332, 1, none⟩) (Kd.R_far (p := ⟨gb332, 0, none⟩) (Kd.R_types HO_5.out BK332.out (by decide)) (fun _ hk => hk.2) (.int .i64 t329)) (fun _ hk => hk.2) (.int .i64 t330)) (fun _ h_ => h_.1))) hb); have n2_ := Aside0.mk (Kd.R_below (by (with_reducible repeat (first | apply Kd.R_alloc | apply Kd.R_drewN | apply Kd.R_drew)); exact (Kd.R_mono (Kd.R_far (p := ⟨gb332, 1, none⟩) (Kd.R_far (p := ⟨gb332, 0, none⟩) (Kd.R_mono HL328_0.out (fun k_ hk => (⟨hk, hk.2⟩ : _ ∧ k_ ≠ gb332))) (fun _ hk => hk.2) (.int .i64 t329)) (fun _ hk => hk.2) (.int .i64 t330)) (fun _ h_ => h_.1))) hb); have n3_ := Aside0.mk (blk_below (g := gb326) (o := .cells #[.int .i64 ((rd_T41 t319 x6_1).f0), .int .i64 ((rd_T41 t319 x6_1).f1), .int .i64 ((rd_T41 t319 x6_1).f2.f0), .int .i64 ((rd_T41 t319 x6_1).f2.f1), .int .i64 ((rd_T41 t319 x6_1).f3.f0), .int .i64 ((rd_T41 t319 x6_1).f3.f1)] 41 (0, 0)) (by (with_reducible repeat (first | refine blk_drewN ?_ _ | refine blk_drew ?_ | refine blk_alloc ?_ _)); refine blk_far ?_ NB326_332.out _; (with_reducible repeat (first | refine blk_drewN ?_ _ | refine blk_drew ?_ | refine blk_alloc ?_ _)); refine blk_far ?_ NB326_332.out _; (with_reducible repeat (first | refine blk_drewN ?_ _ | refine blk_drew ?_ | refine blk_alloc ?_ _)); exact BK326.out) hb); have n4_ := Aside0.mk (Kd.C_below ((Kd.R_reads' (by (with_reducible repeat (first | apply Kd.R_alloc | apply Kd.R_drewN | apply Kd.R_drew)); exact (Kd.R_mono (Kd.R_far (p := ⟨gb332, 1, none⟩) (Kd.R_far (p := ⟨gb332, 0, none⟩) (Kd.R_mono HL328_0.out (fun k_ hk => (⟨hk, hk.2⟩ : _ ∧ k_ ≠ gb332))) (fun _ hk => hk.2) (.int .i64 t329)) (fun _ hk => hk.2) (.int .i64 t330)) (fun _ h_ => h_.1)))).2.2) hb); have n5_ := Aside0.mk (blk_below (g := gb332) (o := .cells #[.int .i64 t329, .int .i64 t330] 32 (0, 0)) (by (with_reducible repeat (first | refine blk_drewN ?_ _ | refine blk_drew ?_ | refine blk_alloc ?_ _)); refine blk_put (cs := #[.int .i64 t329, .int .i64 0]) ?_ 1 _ rfl; (with_reducible repeat (first | refine blk_drewN ?_ _ | refine blk_drew ?_ | refine blk_alloc ?_ _)); refine blk_put (cs := #[.int .i64 0, .int .i64 0]) ?_ 0 _ rfl; (with_reducible repeat (first | refine blk_drewN ?_ _ | refine blk_drew ?_ | refine blk_alloc ?_ _)); exact BK332.out) hb); have n6_ := Aside0.mk (below_step (by repeat (first | (with_reducible first | exact HB.out | apply below_alloc | apply pw_below_drewN | apply below_drew1 | refine below_set ?_ GE326.out | refine below_set ?_ GE332.out) | exact HB.out)) hb); clear HO_3; clear HO_5; clear HL328_0; clear BK326; clear HR328_0; clear BK332; clear HB; have HO_3 := n0_; have HO_5 := n1_; have HL328_0 := n2_; have BK326 := n3_; have HR328_0 := n4_; have BK332 := n5_; have HB := n6_; clear n0_ n1_ n2_ n3_ n4_ n5_ n6_; (try clear hb); (try clear hb2); (try clear hk); (try clear hi)) | ((with_reducible refine gate_dst (N := 10) rfl ?_); (try (refine gate_guard (by rfl) ?_; dsimp only)); refine box_event ?hg (N := 10) ?hd (cs := #[.int .i64 0, .int .i64 0]) (t := 32) ?hr ?_; (case hd => rfl); (case hg => rfl); (case hr => first | (go_simp; done) | (go_simp; rfl)); intro gb336 hg w62 hbox hb; have n0_ := Aside0.mk (Kd.S_below (Kd.S_elderB (by (with_reducible repeat (first | apply Kd.S_alloc | apply Kd.S_drewN | apply Kd.S_drew)); exact HO_3.out) gb336 (Nat.le_of_eq hg.symm)) hb); have n1_ := Aside0.mk (Kd.R_below (by (with_reducible repeat (first | apply Kd.R_alloc | apply Kd.R_drewN | apply Kd.R_drew)); exact HO_5.out) hb); have n2_ := Aside0.mk (Kd.R_below (Kd.R_elderB (by (with_reducible repeat (first | apply Kd.R_alloc | apply Kd.R_drewN | apply Kd.R_drew)); exact HL328_0.out) gb336 (Nat.le_of_eq hg.symm)) hb); have n3_ := Aside0.mk (blk_below (g := gb326) (o := .cells #[.int .i64 ((rd_T41 t319 x6_1).f0), .int .i64 ((rd_T41 t319 x6_1).f1), .int .i64 ((rd_T41 t319 x6_1).f2.f0), .int .i64 ((rd_T41 t319 x6_1).f2.f1), .int .i64 ((rd_T41 t319 x6_1).f3.f0), .int .i64 ((rd_T41 t319 x6_1).f3.f1)] 41 (0, 0)) (by (with_reducible repeat (first | refine blk_drewN ?_ _ | refine blk_drew ?_ | refine blk_alloc ?_ _)); exact BK326.out) hb); have n4_ := Aside0.mk (Kd.C_below (by repeat (first | (with_reducible exact HR328_0.out) | (with_reducible refine Kd.C_alloc ?_ _) | (with_reducible refine Kd.C_drewN ?_ _) | (with_reducible refine Kd.C_drew ?_) | exact HR328_0.out)) hb); have n5_ := Aside0.mk (blk_below (g := gb332) (o := .cells #[.int .i64 t329, .int .i64 t330] 32 (0, 0)) (by (with_reducible repeat (first | refine blk_drewN ?_ _ | refine blk_drew ?_ | refine blk_alloc ?_ _)); exact BK332.out) hb); have n6_ := Aside0.mk (below_step (by repeat (first | (with_reducible first | exact HB.out | apply below_alloc | apply pw_below_drewN | apply below_drew1 | refine below_set ?_ GE326.out | refine below_set ?_ GE332.out) | exact HB.out)) hb); have n7_ := Aside0.mk (hbox); have n8_ := Aside0.mk ((by rw [hg]; exact (below_size (by repeat (first | (with_reducible first | exact HB.out | apply below_alloc | apply pw_below_drewN | apply below_drew1 | refine below_set ?_ GE326.out | refine below_set ?_ GE332.out) | exact HB.out))) : w.heap.size ≤ gb336)); have n9_ := Aside0.mk ((by rw [hg]; exact (below_size (by repeat (first | (with_reducible first | exact HB.out | apply below_alloc | apply pw_below_drewN | apply below_drew1 | refine below_set ?_ GE326.out | refine below_set ?_ GE332.out) | exact HB.out))) : w.heap.size ≤ gb336)); have n10_ := Aside0.mk ((by rw [hg]; exact Nat.ne_of_lt (blk_lt (g := gb326) (o := .cells #[.int .i64 ((rd_T41 t319 x6_1).f0), .int .i64 ((rd_T41 t319 x6_1).f1), .int .i64 ((rd_T41 t319 x6_1).f2.f0), .int .i64 ((rd_T41 t319 x6_1).f2.f1), .int .i64 ((rd_T41 t319 x6_1).f3.f0), .int .i64 ((rd_T41 t319 x6_1).f3.f1)] 41 (0, 0)) (by (with_reducible repeat (first | refine blk_drewN ?_ _ | refine blk_drew ?_ | refine blk_alloc ?_ _)); exact BK326.out)) : gb326 ≠ gb336)); have n11_ := Aside0.mk ((by rw [hg]; exact Nat.ne_of_gt (blk_lt (g := gb326) (o := .cells #[.int .i64 ((rd_T41 t319 x6_1).f0), .int .i64 ((rd_T41 t319 x6_1).f1), .int .i64 ((rd_T41 t319 x6_1).f2.f0), .int .i64 ((rd_T41 t319 x6_1).f2.f1), .int .i64 ((rd_T41 t319 x6_1).f3.f0), .int .i64 ((rd_T41 t319 x6_1).f3.f1)] 41 (0, 0)) (by (with_reducible repeat (first | refine blk_drewN ?_ _ | refine blk_drew ?_ | refine blk_alloc ?_ _)); exact BK326.out)) : gb336 ≠ gb326)); have n12_ := Aside0.mk ((by rw [hg]; exact Nat.ne_of_lt (blk_lt (g := gb332) (o := .cells #[.int .i64 t329, .int .i64 t330] 32 (0, 0)) (by (with_reducible repeat (first | refine blk_drewN ?_ _ | refine blk_drew ?_ | refine blk_alloc ?_ _)); exact BK332.out)) : gb332 ≠ gb336)); have n13_ := Aside0.mk ((by rw [hg]; exact Nat.ne_of_gt (blk_lt (g := gb332) (o := .cells #[.int .i64 t329, .int .i64 t330] 32 (0, 0)) (by (with_reducible repeat (first | refine blk_drewN ?_ _ | refine blk_drew ?_ | refine blk_alloc ?_ _)); exact BK332.out)) : gb336 ≠ gb332)); clear HO_3; clear HO_5; clear HL328_0; clear BK326; clear HR328_0; clear BK332; clear HB; have HO_3 := n0_; have HO_5 := n1_; have HL328_0 := n2_; have BK326 := n3_; have HR328_0 := n4_; have BK332 := n5_; have HB := n6_; have BK336 := n7_; have GW336 := n8_; have GE336 := n9_; have NB326_336 := n10_; have NB336_326 := n11_; have NB332_336 := n12_; have NB336_332 := n13_; clear n0_ n1_ n2_ n3_ n4_ n5_ n6_ n7_ n8_ n9_ n10_ n11_ n12_ n13_; clear hb hbox hg; have hnb63 := NB336_326.out; have hnc63 := NB326_336.out; have hnb64 := NB336_332.out; have hnc64 := NB332_336.out; have hcz65_0 : w62.cell? ⟨gb336, 0, none⟩ = some (.int .i64 0) := (blk_cell BK336.out 0).trans rfl; have hcz65_1 : w62.cell? ⟨gb336, 1, none⟩ = some (.int .i64 0) := (blk_cell BK336.out 1).trans rfl; have hfz65_0 := blk_frozen BK336.out 0; have hfz65_1 := blk_frozen BK336.out 1))
                              have n0_ : Aside0 (Kd.S (Kd.slice 32 k32) 27 ((w62.setCell ⟨gb336, 0, none⟩ (.int .i64 t333)).setCell ⟨gb336, 1, none⟩ (.int .i64 t334)) w.heap.size (fun k_ => k_ ≠ gb332 ∧ k_ ≠ gb336) (.slice (some ad328) t315.length co9) t315) := ⟨by (with_reducible repeat (first | apply Kd.S_alloc | apply Kd.S_drewN | apply Kd.S_drew)); exact Kd.S_mono (Kd.S_far (p := ⟨gb336, 1, none⟩) (Kd.S_far (p := ⟨gb336, 0, none⟩) (Kd.S_mono HO_3.out (fun k_ hk => (⟨hk, hk.2⟩ : _ ∧ k_ ≠ gb336))) (fun _ hk => hk.2) (.int .i64 t333)) (fun _ hk => hk.2) (.int .i64 t334)) (fun _ hk => ⟨hk.1.1.2, hk.1.2⟩)⟩
                              have n1_ : Aside0 (Kd.R k41 41 ((w62.setCell ⟨gb336, 0, none⟩ (.int .i64 t333)).setCell ⟨gb336, 1, none⟩ (.int .i64 t334)) w.heap.size (fun k_ => k_ ≠ gb326) (.slice (some ad325) t319.length co11) t319) := ⟨by (with_reducible repeat (first | apply Kd.R_alloc | apply Kd.R_drewN | apply Kd.R_drew)); exact Kd.R_mono (Kd.R_far (p := ⟨gb336, 1, none⟩) (Kd.R_far (p := ⟨gb336, 0, none⟩) (Kd.R_types HO_5.out BK336.out (by decide)) (fun _ hk => hk.2) (.int .i64 t333)) (fun _ hk => hk.2) (.int .i64 t334)) (fun _ hk => hk.1)⟩
                              have n2_ : Aside0 (Kd.R k32 32 ((w62.setCell ⟨gb336, 0, none⟩ (.int .i64 t333)).setCell ⟨gb336, 1, none⟩ (.int .i64 t334)) w.heap.size (fun k_ => some k_ ≠ (.slice (some ad328) t315.length co9 : Value).ownBlock ∧ k_ ≠ gb332 ∧ k_ ≠ gb336) (.slice A328_0 (rd_L3 t315 ((rd_T41 t319 x6_1).f0)).length c328_0) (rd_L3 t315 ((rd_T41 t319 x6_1).f0))) := ⟨by (with_reducible repeat (first | apply Kd.R_alloc | apply Kd.R_drewN | apply Kd.R_drew)); exact Kd.R_mono (Kd.R_far (p := ⟨gb336, 1, none⟩) (Kd.R_far (p := ⟨gb336, 0, none⟩) (Kd.R_mono HL328_0.out (fun k_ hk => (⟨hk, hk.2⟩ : _ ∧ k_ ≠ gb336))) (fun _ hk => hk.2) (.int .i64 t333)) (fun _ hk => hk.2) (.int .i64 t334)) (fun _ hk => ⟨hk.1.1.1.2, ⟨hk.1.1.2, hk.1.2⟩⟩)⟩
                              have n3_ : Aside0 (((w62.setCell ⟨gb336, 0, none⟩ (.int .i64 t333)).setCell ⟨gb336, 1, none⟩ (.int .i64 t334)).heap[gb326]? = some (.cells #[.int .i64 ((rd_T41 t319 x6_1).f0), .int .i64 ((rd_T41 t319 x6_1).f1), .int .i64 ((rd_T41 t319 x6_1).f2.f0), .int .i64 ((rd_T41 t319 x6_1).f2.f1), .int .i64 ((rd_T41 t319 x6_1).f3.f0), .int .i64 ((rd_T41 t319 x6_1).f3.f1)] 41 (0, 0))) := ⟨by (with_reducible repeat (first | refine blk_drewN ?_ _ | refine blk_drew ?_ | refine blk_alloc ?_ _)); refine blk_far ?_ NB326_336.out _; (with_reducible repeat (first | refine blk_drewN ?_ _ | refine blk_drew ?_ | refine blk_alloc ?_ _)); refine blk_far ?_ NB326_336.out _; (with_reducible repeat (first | refine blk_drewN ?_ _ | refine blk_drew ?_ | refine blk_alloc ?_ _)); exact BK326.out⟩
                              have n4_ : Aside0 (((w62.setCell ⟨gb336, 0, none⟩ (.int .i64 t333)).setCell ⟨gb336, 1, none⟩ (.int .i64 t334)).heap[gb332]? = some (.cells #[.int .i64 t329, .int .i64 t330] 32 (0, 0))) := ⟨by (with_reducible repeat (first | refine blk_drewN ?_ _ | refine blk_drew ?_ | refine blk_alloc ?_ _)); refine blk_far ?_ NB332_336.out _; (with_reducible repeat (first | refine blk_drewN ?_ _ | refine blk_drew ?_ | refine blk_alloc ?_ _)); refine blk_far ?_ NB332_336.out _; (with_reducible repeat (first | refine blk_drewN ?_ _ | refine blk_drew ?_ | refine blk_alloc ?_ _)); exact BK332.out⟩
                              have n5_ : Aside0 (((w62.setCell ⟨gb336, 0, none⟩ (.int .i64 t333)).setCell ⟨gb336, 1, none⟩ (.int .i64 t334)).heap[gb336]? = some (.cells #[.int .i64 t333, .int .i64 t334] 32 (0, 0))) := ⟨by (with_reducible repeat (first | refine blk_drewN ?_ _ | refine blk_drew ?_ | refine blk_alloc ?_ _)); refine blk_put (cs := #[.int .i64 t333, .int .i64 0]) ?_ 1 _ rfl; (with_reducible repeat (first | refine blk_drewN ?_ _ | refine blk_drew ?_ | refine blk_alloc ?_ _)); refine blk_put (cs := #[.int .i64 0, .int .i64 0]) ?_ 0 _ rfl; (with_reducible repeat (first | refine blk_drewN ?_ _ | refine blk_drew ?_ | refine blk_alloc ?_ _)); exact BK336.out⟩
                              have n6_ : Aside0 (Below w.heap.size w ((w62.setCell ⟨gb336, 0, none⟩ (.int .i64 t333)).setCell ⟨gb336, 1, none⟩ (.int .i64 t334))) := ⟨by repeat (first | (with_reducible first | exact HB.out | apply below_alloc | apply pw_below_drewN | apply below_drew1 | refine below_set ?_ GE326.out | refine below_set ?_ GE332.out | refine below_set ?_ GE336.out) | exact HB.out)⟩
                              (try clear HO_3)
                              (try clear HO_5)
                              (try clear HL328_0)
                              (try clear BK326)
                              (try clear BK332)
                              (try clear BK336)
                              (try clear HB)
                              generalize ((w62.setCell ⟨gb336, 0, none⟩ (.int .i64 t333)).setCell ⟨gb336, 1, none⟩ (.int .i64 t334)) = w66 at n0_ n1_ n2_ n3_ n4_ n5_ n6_ ⊢
                              have HO_3 := n0_
                              have HO_5 := n1_
                              have HL328_0 := n2_
                              have BK326 := n3_
                              have BK332 := n4_
                              have BK336 := n5_
                              have HB := n6_
                              clear n0_ n1_ n2_ n3_ n4_ n5_ n6_
                              have n0_ := Aside0.mk (Kd.S_drew HO_3.out)
                              have n1_ := Aside0.mk (Kd.R_drew HO_5.out)
                              have n2_ := Aside0.mk (Kd.R_drew HL328_0.out)
                              have n3_ := Aside0.mk (blk_drew BK326.out)
                              have n4_ := Aside0.mk (blk_drew BK332.out)
                              have n5_ := Aside0.mk (blk_drew BK336.out)
                              have n6_ := Aside0.mk (below_drew1 HB.out)
                              clear HO_3
                              clear HO_5
                              clear HL328_0
                              clear BK326
                              clear BK332
                              clear BK336
                              clear HB
                              have HO_3 := n0_
                              have HO_5 := n1_
                              have HL328_0 := n2_
                              have BK326 := n3_
                              have BK332 := n4_
                              have BK336 := n5_
                              have HB := n6_
                              clear n0_ n1_ n2_ n3_ n4_ n5_ n6_
                              refine start_ (n := 21) (S := fun w' => w'.cell? ⟨gb336, 0, none⟩ = some (.int .i64 t333) ∧ w'.cell? ⟨gb336, 1, none⟩ = some (.int .i64 t334) ∧ w'.cell? ⟨gb332, 0, none⟩ = some (.int .i64 t329) ∧ w'.cell? ⟨gb332, 1, none⟩ = some (.int .i64 t330)) (ds := []) #[false, false, false, false, false, false, false, false, false, false, false, false, false, false, false, false, false, false, false, false, false] (by kernel_rfl) rfl rfl ⟨(blk_cell BK336.out 0).trans rfl, (blk_cell BK336.out 1).trans rfl, (blk_cell BK332.out 0).trans rfl, (blk_cell BK332.out 1).trans rfl⟩ (fun hHeld => ?_); refine with_tabW laws_FnCands.tab15 laws_FnCands.bits15 (fun HT_ HW_ => ?_)
                              generalize w66.drew = w67 at HO_3 HO_5 HL328_0 BK326 BK332 BK336 HB hHeld ⊢
                              refine pure_ (i := 0) (N := some 94) (v := ?_) (a' := ?_) #[true, false, false, false, false, false, false, false, false, false, false, false, false, false, false, false, false, false, false, false, false] rfl rfl (any_of HT_.out (by kernel_rfl)) (fun _ _ _ h => h) (Or.inl ⟨by rfl, ?_⟩) ?_ ?_
                              rotate_left
                              · intro w'
                                go_simp
                                with_reducible rfl
                              rotate_left
                              · simp only [Act.put, List.setIfInBounds_toArray, List.set_cons_zero, List.set_cons_succ, i64_w, i32_w]
                                rfl
                              refine pure_ (i := 1) (N := some 95) (v := ?_) (a' := ?_) #[true, true, false, false, false, false, false, false, false, false, false, false, false, false, false, false, false, false, false, false, false] rfl rfl (any_of HT_.out (by kernel_rfl)) (fun _ _ _ h => h) (Or.inl ⟨by rfl, ?_⟩) ?_ ?_
                              rotate_left
                              · intro w'
                                go_simp
                                with_reducible rfl
                              rotate_left
                              · simp only [Act.put, List.setIfInBounds_toArray, List.set_cons_zero, List.set_cons_succ, i64_w, i32_w]
                                rfl
                              refine pure_ (i := 2) (N := some 96) (v := ?_) (a' := ?_) #[true, true, true, false, false, false, false, false, false, false, false, false, false, false, false, false, false, false, false, false, false] rfl rfl (any_of HT_.out (by kernel_rfl)) (fun _ _ _ h => h) (Or.inl ⟨by rfl, ?_⟩) ?_ ?_
                              rotate_left
                              · intro w'
                                go_simp
                                with_reducible rfl
                              rotate_left
                              · simp only [Act.put, List.setIfInBounds_toArray, List.set_cons_zero, List.set_cons_succ, i64_w, i32_w]
                                rfl
                              refine take_ (i := 3) (N := some 97) (v := ?_) (a' := ?_) #[true, true, true, true, false, false, false, false, false, false, false, false, false, false, false, false, false, false, false, false, false] rfl rfl (take_ofW HT_.out HW_.out (by kernel_rfl)) (fun _ _ _ h => h) (Or.inl ⟨by rfl, ?_⟩) hHeld ?_ ?_
                              rotate_left
                              · rintro w' ⟨s0, s1, s2, s3⟩
                                go_simp
                                with_reducible rfl
                              rotate_left
                              · simp only [Act.put, List.setIfInBounds_toArray, List.set_cons_zero, List.set_cons_succ, i64_w, i32_w]
                                rfl
                              refine take_ (i := 4) (N := some 98) (v := ?_) (a' := ?_) #[true, true, true, true, true, false, false, false, false, false, false, false, false, false, false, false, false, false, false, false, false] rfl rfl (take_ofW HT_.out HW_.out (by kernel_rfl)) (fun _ _ _ h => h) (Or.inl ⟨by rfl, ?_⟩) hHeld ?_ ?_
                              rotate_left
                              · rintro w' ⟨s0, s1, s2, s3⟩
                                go_simp
                                with_reducible rfl
                              rotate_left
                              · simp only [Act.put, List.setIfInBounds_toArray, List.set_cons_zero, List.set_cons_succ, i64_w, i32_w]
                                rfl
                              refine pure_ (i := 5) (N := some 99) (v := ?_) (a' := ?_) #[true, true, true, true, true, true, false, false, false, false, false, false, false, false, false, false, false, false, false, false, false] rfl rfl (any_of HT_.out (by kernel_rfl)) (fun _ _ _ h => h) (Or.inl ⟨by rfl, ?_⟩) ?_ ?_
                              rotate_left
                              · intro w'
                                go_simp
                                with_reducible rfl
                              rotate_left
                              · simp only [Act.put, List.setIfInBounds_toArray, List.set_cons_zero, List.set_cons_succ, i64_w, i32_w]
                                rfl
                              refine pure_ (i := 6) (N := some 100) (v := ?_) (a' := ?_) #[true, true, true, true, true, true, true, false, false, false, false, false, false, false, false, false, false, false, false, false, false] rfl rfl (any_of HT_.out (by kernel_rfl)) (fun _ _ _ h => h) (Or.inl ⟨by rfl, ?_⟩) ?_ ?_
                              rotate_left
                              · intro w'
                                go_simp
                                with_reducible rfl
                              rotate_left
                              · simp only [Act.put, List.setIfInBounds_toArray, List.set_cons_zero, List.set_cons_succ, i64_w, i32_w]
                                rfl
                              refine pure_ (i := 7) (N := some 101) (v := ?_) (a' := ?_) #[true, true, true, true, true, true, true, true, false, false, false, false, false, false, false, false, false, false, false, false, false] rfl rfl (any_of HT_.out (by kernel_rfl)) (fun _ _ _ h => h) (Or.inl ⟨by rfl, ?_⟩) ?_ ?_
                              rotate_left
                              · intro w'
                                go_simp
                                with_reducible rfl
                              rotate_left
                              · simp only [Act.put, List.setIfInBounds_toArray, List.set_cons_zero, List.set_cons_succ, i64_w, i32_w]
                                rfl
                              refine pure_ (i := 8) (N := some 102) (v := ?_) (a' := ?_) #[true, true, true, true, true, true, true, true, true, false, false, false, false, false, false, false, false, false, false, false, false] rfl rfl (any_of HT_.out (by kernel_rfl)) (fun _ _ _ h => h) (Or.inl ⟨by rfl, ?_⟩) ?_ ?_
                              rotate_left
                              · intro w'
                                go_simp
                                with_reducible rfl
                              rotate_left
                              · simp only [Act.put, List.setIfInBounds_toArray, List.set_cons_zero, List.set_cons_succ, i64_w, i32_w]
                                rfl
                              refine pure_ (i := 9) (N := some 103) (v := ?_) (a' := ?_) #[true, true, true, true, true, true, true, true, true, true, false, false, false, false, false, false, false, false, false, false, false] rfl rfl (any_of HT_.out (by kernel_rfl)) (fun _ _ _ h => h) (Or.inl ⟨by rfl, ?_⟩) ?_ ?_
                              rotate_left
                              · intro w'
                                go_simp
                                with_reducible rfl
                              rotate_left
                              · simp only [Act.put, List.setIfInBounds_toArray, List.set_cons_zero, List.set_cons_succ, i64_w, i32_w]
                                rfl
                              refine pure_ (i := 10) (N := some 104) (v := ?_) (a' := ?_) #[true, true, true, true, true, true, true, true, true, true, true, false, false, false, false, false, false, false, false, false, false] rfl rfl (any_of HT_.out (by kernel_rfl)) (fun _ _ _ h => h) (Or.inl ⟨by rfl, ?_⟩) ?_ ?_
                              rotate_left
                              · intro w'
                                go_simp
                                with_reducible rfl
                              rotate_left
                              · simp only [Act.put, List.setIfInBounds_toArray, List.set_cons_zero, List.set_cons_succ, i64_w, i32_w]
                                rfl
                              refine pure_ (i := 11) (N := some 105) (v := undef) (a' := ?_) #[true, true, true, true, true, true, true, true, true, true, true, true, false, false, false, false, false, false, false, false, false] rfl rfl (any_of HT_.out (by kernel_rfl)) (fun _ _ _ h => h) (Or.inr ⟨by rfl, rfl⟩) ?_ ?_
                              rotate_left
                              · simp only [Act.put, List.setIfInBounds_toArray, List.set_cons_zero, List.set_cons_succ, i64_w, i32_w]
                                rfl
                              refine pure_ (i := 12) (N := some 106) (v := undef) (a' := ?_) #[true, true, true, true, true, true, true, true, true, true, true, true, true, false, false, false, false, false, false, false, false] rfl rfl (any_of HT_.out (by kernel_rfl)) (fun _ _ _ h => h) (Or.inr ⟨by rfl, rfl⟩) ?_ ?_
                              rotate_left
                              · simp only [Act.put, List.setIfInBounds_toArray, List.set_cons_zero, List.set_cons_succ, i64_w, i32_w]
                                rfl
                              refine pure_ (i := 13) (N := some 107) (v := undef) (a' := ?_) #[true, true, true, true, true, true, true, true, true, true, true, true, true, true, false, false, false, false, false, false, false] rfl rfl (any_of HT_.out (by kernel_rfl)) (fun _ _ _ h => h) (Or.inr ⟨by rfl, rfl⟩) ?_ ?_
                              rotate_left
                              · simp only [Act.put, List.setIfInBounds_toArray, List.set_cons_zero, List.set_cons_succ, i64_w, i32_w]
                                rfl
                              refine pure_ (i := 14) (N := some 108) (v := undef) (a' := ?_) #[true, true, true, true, true, true, true, true, true, true, true, true, true, true, true, false, false, false, false, false, false] rfl rfl (any_of HT_.out (by kernel_rfl)) (fun _ _ _ h => h) (Or.inr ⟨by rfl, rfl⟩) ?_ ?_
                              rotate_left
                              · simp only [Act.put, List.setIfInBounds_toArray, List.set_cons_zero, List.set_cons_succ, i64_w, i32_w]
                                rfl
                              refine pure_ (i := 15) (N := some 109) (v := undef) (a' := ?_) #[true, true, true, true, true, true, true, true, true, true, true, true, true, true, true, true, false, false, false, false, false] rfl rfl (any_of HT_.out (by kernel_rfl)) (fun _ _ _ h => h) (Or.inr ⟨by rfl, rfl⟩) ?_ ?_
                              rotate_left
                              · simp only [Act.put, List.setIfInBounds_toArray, List.set_cons_zero, List.set_cons_succ, i64_w, i32_w]
                                rfl
                              refine pure_ (i := 16) (N := some 110) (v := undef) (a' := ?_) #[true, true, true, true, true, true, true, true, true, true, true, true, true, true, true, true, true, false, false, false, false] rfl rfl (any_of HT_.out (by kernel_rfl)) (fun _ _ _ h => h) (Or.inr ⟨by rfl, rfl⟩) ?_ ?_
                              rotate_left
                              · simp only [Act.put, List.setIfInBounds_toArray, List.set_cons_zero, List.set_cons_succ, i64_w, i32_w]
                                rfl
                              refine pure_ (i := 17) (N := some 111) (v := undef) (a' := ?_) #[true, true, true, true, true, true, true, true, true, true, true, true, true, true, true, true, true, true, false, false, false] rfl rfl (any_of HT_.out (by kernel_rfl)) (fun _ _ _ h => h) (Or.inr ⟨by rfl, rfl⟩) ?_ ?_
                              rotate_left
                              · simp only [Act.put, List.setIfInBounds_toArray, List.set_cons_zero, List.set_cons_succ, i64_w, i32_w]
                                rfl
                              refine pure_ (i := 18) (N := some 112) (v := undef) (a' := ?_) #[true, true, true, true, true, true, true, true, true, true, true, true, true, true, true, true, true, true, true, false, false] rfl rfl (any_of HT_.out (by kernel_rfl)) (fun _ _ _ h => h) (Or.inr ⟨by rfl, rfl⟩) ?_ ?_
                              rotate_left
                              · simp only [Act.put, List.setIfInBounds_toArray, List.set_cons_zero, List.set_cons_succ, i64_w, i32_w]
                                rfl
                              refine pure_ (i := 19) (N := some 113) (v := ?_) (a' := ?_) #[true, true, true, true, true, true, true, true, true, true, true, true, true, true, true, true, true, true, true, true, false] rfl rfl (any_of HT_.out (by kernel_rfl)) (fun _ _ _ h => h) (Or.inl ⟨by rfl, ?_⟩) ?_ ?_
                              rotate_left
                              · intro w'
                                go_simp
                                with_reducible rfl
                              rotate_left
                              · simp only [Act.put, List.setIfInBounds_toArray, List.set_cons_zero, List.set_cons_succ, i64_w, i32_w]
                                rfl
                              refine pure_ (i := 20) (N := some 114) (v := ?_) (a' := ?_) #[true, true, true, true, true, true, true, true, true, true, true, true, true, true, true, true, true, true, true, true, true] rfl rfl (any_of HT_.out (by kernel_rfl)) (fun _ _ _ h => h) (Or.inl ⟨by rfl, ?_⟩) ?_ ?_
                              rotate_left
                              · intro w'
                                go_simp
                                with_reducible rfl
                              rotate_left
                              · simp only [Act.put, List.setIfInBounds_toArray, List.set_cons_zero, List.set_cons_succ, i64_w, i32_w]
                                rfl
                              refine done_ (done_of HT_.out (by kernel_rfl)) ?_
                              try go_wp2
                              go_roundg kj15
                              case measure => have := HK1.out; have := HJ15.out; omega
                              case rel => exact ⟨(wrap64 (x6_1 + 1)), (by first | rfl | (simp; done) | (simp [*]; done)), H', ⟨by have := HK1.out; have := HJ15.out; omega⟩, ⟨by (with_reducible repeat (first | apply Kd.S_alloc | apply Kd.S_drewN | apply Kd.S_drew)); exact Kd.S_mono HO_3.out (fun _ hk => trivial)⟩, ⟨by (with_reducible repeat (first | apply Kd.R_alloc | apply Kd.R_drewN | apply Kd.R_drew)); exact Kd.R_mono HO_5.out (fun _ hk => trivial)⟩, ⟨by repeat (first | (with_reducible first | exact HB.out | apply below_alloc | apply pw_below_drewN | apply below_drew1 | refine below_set ?_ GE326.out | refine below_set ?_ GE332.out | refine below_set ?_ GE336.out) | exact HB.out)⟩⟩
                        · replace c33 := Bool.eq_false_iff.mpr c33
                          subst c33
                          have H1 : (some false) = some r := by rw [if_neg (show ¬ (false = true) by decide)] at H; exact H
                          clear H
                          have H := H1
                          clear H1
                          exact absurd ((Option.some.inj H).trans HRT.out) (by decide)
                      · rw [if_neg c30] at H
                        exact absurd H (by simp)
                    · rw [if_neg c29] at H
                      exact absurd H (by simp)
            · rw [if_neg c15] at H
              exact absurd H (by simp)
          · rw [if_neg c14] at H
            have c14b0 : decide (x6_1 < (t319.length : Int)) = false := decide_eq_false c14
            clear c14
            obtain rfl := Option.some.inj H
            go_wp2
            go_ret
            exact ⟨by first | rfl | (simp [errW_none, errW_some] <;> rfl) | (simp [*, errW_none, errW_some] <;> rfl), by repeat (first | (with_reducible first | exact HB.out | apply below_alloc | apply pw_below_drewN | apply below_drew1) | exact HB.out)⟩
    · rw [if_neg c7] at H
      have c7b0 : ((t319.length : Int) == (t322.length : Int)) = false := beq_eq_false_iff_ne.mpr c7
      have c7b1 : ((t319.length : Int) != (t322.length : Int)) = true := bne_iff_ne.mpr c7
      have c7b2 : (t319.length == t322.length) = false := by first | simpa using c7 | (simp at c7 ⊢; omega)
      exact absurd ((Option.some.inj H).trans HRT.out) (by decide)

/-- THE ONE PURE STATEMENT of laws_FnCands: yours. -/
def laws_FnCands.Pure : Prop := ∀ (l0 : List Int), l0.length ≤ maxLen → l0.length * 1 ≤ 140737488351232 → (∀ x ∈ l0, (Lit.int .u8 x).wf = true) → ∃ k, laws_FnCands.f k l0 = some true
theorem laws_FnCands.walk (P : laws_FnCands.Pure) (a0 : Option Addr) (len0 cap0 : Nat) (z0 : List Int) (w : World) (w0 : (a0 = none ∧ len0 = 0 ∧ cap0 = 0 ∧ z0 = []) ∨ ∃ x, a0 = some x ∧ len0 ≤ cap0 ∧ cap0 ≤ maxLen ∧ z0.length = cap0 ∧ (∀ i, i < z0.length → w.cell? (x.add i) = some (.int .u8 (z0.getD i 0))) ∧ ∀ n ∈ z0, (Lit.int .u8 n).wf = true) (y0 : len0 * 1 ≤ 140737488351232) :
    Calls Try.prog 4 #[.slice a0 len0 cap0] w fun e w' => e = .returned (.bool true) ∧ Below w.heap.size w w' := by
  obtain ⟨l0, rfl, hr0, hm0, hw0, hc0⟩ := ReadsInt.ofRowC w0
  obtain ⟨k, h⟩ := P l0 hm0 y0 hw0
  refine (laws_FnCands.calls k _ _ l0 true w (Kd.C_of_reads (d := (0 : Int)) (h1 := fun _ => rfl) hr0) hc0 h rfl).mono ?_
  rintro e w' ⟨rfl, hd⟩
  exact ⟨rfl, hd⟩

end Go.Proofs.Ytpcffnhffboccaa.QFnCands
