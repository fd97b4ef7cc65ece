/- The machine side of this seat's laws: what each Go function that they reach comes to. Conditions: none. -/
import Derived.Test.YtohngimlmcdiiaaQx0
import Derived.Test.YtohngimlmcdiiaaQx38
import Derived.Test.YtohngimlmcdiiaaQx39
namespace Go.Proofs.Ytohngimlmcdiiaa.Q
open Go.RowKit Go.Proofs.YtohngimlmcdiiaaW.PrintWords Go.Proofs.YtohngimlmcdiiaaW.PrintLast Go.Proofs.YtohngimlmcdiiaaW.PrintMore
attribute [local go_sem] max2_int min2_int max_two min_two max_three min_three max_four min_four   -- for this text's walks alone
set_option linter.unusedVariables false
set_option linter.unusedSimpArgs false

/-! ### laws_FnExactSideValues: function 9 -/
def laws_FnExactSideValues.j0 : Nat → Bool → Int → Int → Int → Int → Int → Int → Int → List Int → Int → Int → Int → Int → Int → Int → Int → List Int → Option (Bool)
  | 0, _, _, _, _, _, _, _, _, _, _, _, _, _, _, _, _, _ => none
  | k + 1, x55, x713000, x713001, x713002, x713003, x713004, x713005, x713006, x713007, x748000, x748001, x748002, x748003, x748004, x748005, x748006, x748007 => if x55 = true then (some false) else ((laws_toConfig.f k x713000 x713001 x713002 x713003 x713004 x713005 x713006 x713007).bind fun bt759 => ((laws_eqConfig.f k x748000 x748001 x748002 x748003 x748004 x748005 x748006 x748007 bt759.1 bt759.2.1 bt759.2.2.1 bt759.2.2.2.1 bt759.2.2.2.2.1 bt759.2.2.2.2.2.1 bt759.2.2.2.2.2.2.1 bt759.2.2.2.2.2.2.2).bind fun t769 => (if t769 = true then (some true) else (some false))))
def laws_FnExactSideValues.f (k : Nat) (a0_0 : Int) (a0_1 : Int) (a0_2 : Int) (a0_3 : Int) (a0_4 : Int) (a0_5 : Int) (a0_6 : Int) (l0_7 : List Int) (a1_0 : Int) (a1_1 : Int) (a2_0 : Int) (a2_1 : Int) (a2_2 : Int) (a2_3 : Int) (a2_4 : Int) (a2_5 : Int) : Option (Bool) := (laws_szConfig.f a0_0 a0_1 a0_2 a0_3 a0_4 a0_5 a0_6 l0_7 1048576).bind fun t715 => (if t715 < 0 then (some true) else ((laws_toConfig.f k a0_0 a0_1 a0_2 a0_3 a0_4 a0_5 a0_6 l0_7).bind fun bt716 => ((laws_toBound.f a1_0 a1_1).bind fun bt726 => ((laws_toCand.f a2_0 a2_1 a2_2 a2_3 a2_4 a2_5).bind fun bt728 => ((spec_SideValues.f k bt716.1 bt716.2.1 bt716.2.2.1 bt716.2.2.2.1 bt716.2.2.2.2.1 bt716.2.2.2.2.2.1 bt716.2.2.2.2.2.2.1 bt716.2.2.2.2.2.2.2 bt726.1 bt726.2 bt728.1 bt728.2.1 bt728.2.2.1 bt728.2.2.2.1 bt728.2.2.2.2.1 bt728.2.2.2.2.2).bind fun bt734 => ((laws_toConfig.f k a0_0 a0_1 a0_2 a0_3 a0_4 a0_5 a0_6 l0_7).bind fun bt737 => ((laws_toBound.f a1_0 a1_1).bind fun bt748 => ((laws_toCand.f a2_0 a2_1 a2_2 a2_3 a2_4 a2_5).bind fun bt750 => ((impl_SideValues.f k bt737.1 bt737.2.1 bt737.2.2.1 bt737.2.2.2.1 bt737.2.2.2.2.1 bt737.2.2.2.2.2.1 bt737.2.2.2.2.2.2.1 bt737.2.2.2.2.2.2.2 bt748.1 bt748.2 bt750.1 bt750.2.1 bt750.2.2.1 bt750.2.2.2.1 bt750.2.2.2.2.1 bt750.2.2.2.2.2).bind fun bt756 => (if bt756.1 = bt734.1 then (if bt756.2.1 = bt734.2.1 then (laws_FnExactSideValues.j0 k (bt756.2.2 != bt734.2.2) a0_0 a0_1 a0_2 a0_3 a0_4 a0_5 a0_6 l0_7 bt737.1 bt737.2.1 bt737.2.2.1 bt737.2.2.2.1 bt737.2.2.2.2.1 bt737.2.2.2.2.2.1 bt737.2.2.2.2.2.2.1 bt737.2.2.2.2.2.2.2) else (laws_FnExactSideValues.j0 k true a0_0 a0_1 a0_2 a0_3 a0_4 a0_5 a0_6 l0_7 bt737.1 bt737.2.1 bt737.2.2.1 bt737.2.2.2.1 bt737.2.2.2.2.1 bt737.2.2.2.2.2.1 bt737.2.2.2.2.2.2.1 bt737.2.2.2.2.2.2.2)) else (laws_FnExactSideValues.j0 k true a0_0 a0_1 a0_2 a0_3 a0_4 a0_5 a0_6 l0_7 bt737.1 bt737.2.1 bt737.2.2.1 bt737.2.2.2.1 bt737.2.2.2.2.1 bt737.2.2.2.2.2.1 bt737.2.2.2.2.2.2.1 bt737.2.2.2.2.2.2.2)))))))))))
theorem laws_FnExactSideValues.mono_l : ∀ k, (∀ y0 y1 y2 y3 y4 y5 y6 y7 y8 y9 y10 y11 y12 y13 y14 y15 y16, LeO (laws_FnExactSideValues.j0 k y0 y1 y2 y3 y4 y5 y6 y7 y8 y9 y10 y11 y12 y13 y14 y15 y16) (laws_FnExactSideValues.j0 (k + 1) y0 y1 y2 y3 y4 y5 y6 y7 y8 y9 y10 y11 y12 y13 y14 y15 y16))
  | 0 => fun _ _ _ _ _ _ _ _ _ _ _ _ _ _ _ _ _ r h => by simp [laws_FnExactSideValues.j0] at h
  | k + 1 => by
    have ih0 := laws_FnExactSideValues.mono_l k
    · intro y0 y1 y2 y3 y4 y5 y6 y7 y8 y9 y10 y11 y12 y13 y14 y15 y16
      unfold laws_FnExactSideValues.j0
      repeat' first
      | (with_reducible exact ih0 _ _ _ _ _ _ _ _ _ _ _ _ _ _ _ _ _)
      | (with_reducible exact impl_SideValues.mono _ _ _ _ _ _ _ _ _ _ _ _ _ _ _ _ _)
      | (with_reducible exact laws_eqConfig.mono _ _ _ _ _ _ _ _ _ _ _ _ _ _ _ _ _)
      | (with_reducible exact laws_toConfig.mono _ _ _ _ _ _ _ _ _)
      | (with_reducible exact spec_SideValues.mono _ _ _ _ _ _ _ _ _ _ _ _ _ _ _ _ _)
      | (with_reducible exact LeO.refl _)
      | (with_reducible exact LeO.none _)
      | (with_reducible refine LeO.ite ?_ ?_)
      | (with_reducible refine LeO.bind ?_ (fun _ => ?_))
      | exact ih0 _ _ _ _ _ _ _ _ _ _ _ _ _ _ _ _ _
      | exact impl_SideValues.mono _ _ _ _ _ _ _ _ _ _ _ _ _ _ _ _ _
      | exact laws_eqConfig.mono _ _ _ _ _ _ _ _ _ _ _ _ _ _ _ _ _
      | exact laws_toConfig.mono _ _ _ _ _ _ _ _ _
      | exact spec_SideValues.mono _ _ _ _ _ _ _ _ _ _ _ _ _ _ _ _ _
      | exact LeO.none _
      | refine LeO.ite ?_ ?_
      | refine LeO.bind ?_ (fun _ => ?_)
theorem laws_FnExactSideValues.mono : ∀ a0 a1 a2 a3 a4 a5 a6 a7 a8 a9 a10 a11 a12 a13 a14 a15 k, LeO (laws_FnExactSideValues.f k a0 a1 a2 a3 a4 a5 a6 a7 a8 a9 a10 a11 a12 a13 a14 a15) (laws_FnExactSideValues.f (k + 1) a0 a1 a2 a3 a4 a5 a6 a7 a8 a9 a10 a11 a12 a13 a14 a15) := by
  intro a0 a1 a2 a3 a4 a5 a6 a7 a8 a9 a10 a11 a12 a13 a14 a15 k
  have ih0 := laws_FnExactSideValues.mono_l k
  unfold laws_FnExactSideValues.f
  repeat' first
      | (with_reducible exact ih0 _ _ _ _ _ _ _ _ _ _ _ _ _ _ _ _ _)
      | (with_reducible exact impl_SideValues.mono _ _ _ _ _ _ _ _ _ _ _ _ _ _ _ _ _)
      | (with_reducible exact laws_eqConfig.mono _ _ _ _ _ _ _ _ _ _ _ _ _ _ _ _ _)
      | (with_reducible exact laws_toConfig.mono _ _ _ _ _ _ _ _ _)
      | (with_reducible exact spec_SideValues.mono _ _ _ _ _ _ _ _ _ _ _ _ _ _ _ _ _)
      | (with_reducible exact LeO.refl _)
      | (with_reducible exact LeO.none _)
      | (with_reducible refine LeO.ite ?_ ?_)
      | (with_reducible refine LeO.bind ?_ (fun _ => ?_))
      | exact ih0 _ _ _ _ _ _ _ _ _ _ _ _ _ _ _ _ _
      | exact impl_SideValues.mono _ _ _ _ _ _ _ _ _ _ _ _ _ _ _ _ _
      | exact laws_eqConfig.mono _ _ _ _ _ _ _ _ _ _ _ _ _ _ _ _ _
      | exact laws_toConfig.mono _ _ _ _ _ _ _ _ _
      | exact spec_SideValues.mono _ _ _ _ _ _ _ _ _ _ _ _ _ _ _ _ _
      | exact LeO.none _
      | refine LeO.ite ?_ ?_
      | refine LeO.bind ?_ (fun _ => ?_)
def laws_FnExactSideValues.T5 : Bool × List (List Nat × List Nat) := (true, [([], []), ([0], [0]), ([], []), ([2, 1], [2]), ([], []), ([4, 3], [4]), ([1, 3, 5, 5], [1, 3, 5]), ([6], [6]), ([7], [7]), ([7], [7]), ([7], [7]), ([8, 6, 0, 1, 2, 3, 4, 5, 6, 7, 8], [8]), ([9, 11, 0, 1, 2, 3, 4, 5, 6, 7, 8, 9, 11], [9]), ([10, 12, 0, 1, 2, 3, 4, 5, 6, 7, 8, 9, 10, 11, 12], [10])])
def laws_FnExactSideValues.B5 : List Nat := [0, 1, 0, 7, 0, 31, 63, 127, 255, 255, 255, 511, 3071, 8191]
theorem laws_FnExactSideValues.tab5 : rtab .any (opsOf Try.f9 5) = laws_FnExactSideValues.T5 := by kernel_rfl
theorem laws_FnExactSideValues.bits5 : waitsOk laws_FnExactSideValues.T5.2 laws_FnExactSideValues.B5 = true := by kernel_rfl
def laws_FnExactSideValues.T7 : Bool × List (List Nat × List Nat) := (true, [([], []), ([], []), ([1], [1]), ([], []), ([3, 2], [3]), ([0, 2, 4, 4], [0, 2, 4]), ([5], [5]), ([6], [6]), ([6], [6]), ([6], [6]), ([7, 5, 0, 1, 2, 3, 4, 5, 6, 7], [7]), ([8, 10, 0, 1, 2, 3, 4, 5, 6, 7, 8, 10], [8]), ([9, 11, 0, 1, 2, 3, 4, 5, 6, 7, 8, 9, 10, 11], [9])])
def laws_FnExactSideValues.B7 : List Nat := [0, 0, 2, 0, 14, 31, 63, 127, 127, 127, 255, 1535, 4095]
theorem laws_FnExactSideValues.tab7 : rtab .any (opsOf Try.f9 7) = laws_FnExactSideValues.T7 := by kernel_rfl
theorem laws_FnExactSideValues.bits7 : waitsOk laws_FnExactSideValues.T7.2 laws_FnExactSideValues.B7 = true := by kernel_rfl
set_option maxHeartbeats 8000000 in
set_option maxRecDepth 100000 in
theorem laws_FnExactSideValues.calls (k : Nat) (a0_0 : Int) (a0_1 : Int) (a0_2 : Int) (a0_3 : Int) (a0_4 : Int) (a0_5 : Int) (a0_6 : Int) (A0_7 : Option Addr) (c0_7 : Nat) (l0_7 : List Int) (a1_0 : Int) (a1_1 : Int) (a2_0 : Int) (a2_1 : Int) (a2_2 : Int) (a2_3 : Int) (a2_4 : Int) (a2_5 : Int) (r : Bool) (w : World) (hr0_7 : Kd.C (Kd.int .i64) w A0_7 l0_7.length l0_7) (hc0_7 : l0_7.length ≤ c0_7) (h : laws_FnExactSideValues.f k a0_0 a0_1 a0_2 a0_3 a0_4 a0_5 a0_6 l0_7 a1_0 a1_1 a2_0 a2_1 a2_2 a2_3 a2_4 a2_5 = some r) (hr_ : r = true) :
    Calls Try.prog 9 #[.agg #[.int .i64 a0_0, .int .i64 a0_1, .int .i64 a0_2, .int .i64 a0_3, .int .i64 a0_4, .int .i64 a0_5, .int .i64 a0_6, .slice A0_7 l0_7.length c0_7], .agg #[.int .i64 a1_0, .int .i64 a1_1], .agg #[.int .i64 a2_0, .int .i64 a2_1, .int .i64 a2_2, .int .i64 a2_3, .int .i64 a2_4, .int .i64 a2_5]] w fun e w' => e = .returned (.bool r) ∧ Below w.heap.size w w' := by
  have HRT := Aside0.mk hr_
  clear hr_
  have hu65 := Try.underlying65
  have hu66 := Try.underlying66
  have hu69 := Try.underlying69
  have hu73 := Try.underlying73
  have HR0_7 := Aside0.mk hr0_7
  have HC0_7 := Aside0.mk hc0_7
  clear hr0_7 hc0_7
  have HB := Aside0.mk (Below.refl w.heap.size w)
  have H : ((laws_szConfig.f a0_0 a0_1 a0_2 a0_3 a0_4 a0_5 a0_6 l0_7 1048576).bind fun t715 => (if t715 < 0 then (some true) else ((laws_toConfig.f k a0_0 a0_1 a0_2 a0_3 a0_4 a0_5 a0_6 l0_7).bind fun bt716 => ((laws_toBound.f a1_0 a1_1).bind fun bt726 => ((laws_toCand.f a2_0 a2_1 a2_2 a2_3 a2_4 a2_5).bind fun bt728 => ((spec_SideValues.f k bt716.1 bt716.2.1 bt716.2.2.1 bt716.2.2.2.1 bt716.2.2.2.2.1 bt716.2.2.2.2.2.1 bt716.2.2.2.2.2.2.1 bt716.2.2.2.2.2.2.2 bt726.1 bt726.2 bt728.1 bt728.2.1 bt728.2.2.1 bt728.2.2.2.1 bt728.2.2.2.2.1 bt728.2.2.2.2.2).bind fun bt734 => ((laws_toConfig.f k a0_0 a0_1 a0_2 a0_3 a0_4 a0_5 a0_6 l0_7).bind fun bt737 => ((laws_toBound.f a1_0 a1_1).bind fun bt748 => ((laws_toCand.f a2_0 a2_1 a2_2 a2_3 a2_4 a2_5).bind fun bt750 => ((impl_SideValues.f k bt737.1 bt737.2.1 bt737.2.2.1 bt737.2.2.2.1 bt737.2.2.2.2.1 bt737.2.2.2.2.2.1 bt737.2.2.2.2.2.2.1 bt737.2.2.2.2.2.2.2 bt748.1 bt748.2 bt750.1 bt750.2.1 bt750.2.2.1 bt750.2.2.2.1 bt750.2.2.2.2.1 bt750.2.2.2.2.2).bind fun bt756 => (if bt756.1 = bt734.1 then (if bt756.2.1 = bt734.2.1 then (laws_FnExactSideValues.j0 k (bt756.2.2 != bt734.2.2) a0_0 a0_1 a0_2 a0_3 a0_4 a0_5 a0_6 l0_7 bt737.1 bt737.2.1 bt737.2.2.1 bt737.2.2.2.1 bt737.2.2.2.2.1 bt737.2.2.2.2.2.1 bt737.2.2.2.2.2.2.1 bt737.2.2.2.2.2.2.2) else (laws_FnExactSideValues.j0 k true a0_0 a0_1 a0_2 a0_3 a0_4 a0_5 a0_6 l0_7 bt737.1 bt737.2.1 bt737.2.2.1 bt737.2.2.2.1 bt737.2.2.2.2.1 bt737.2.2.2.2.2.1 bt737.2.2.2.2.2.2.1 bt737.2.2.2.2.2.2.2)) else (laws_FnExactSideValues.j0 k true a0_0 a0_1 a0_2 a0_3 a0_4 a0_5 a0_6 l0_7 bt737.1 bt737.2.1 bt737.2.2.1 bt737.2.2.2.1 bt737.2.2.2.2.1 bt737.2.2.2.2.2.1 bt737.2.2.2.2.2.2.1 bt737.2.2.2.2.2.2.2)))))))))))) = some r := h
  clear h
  replace H := Option.bind_eq_some_iff.mp H
  obtain ⟨t715, A40, H⟩ := H
  replace H : (if t715 < 0 then (some true) else ((laws_toConfig.f k a0_0 a0_1 a0_2 a0_3 a0_4 a0_5 a0_6 l0_7).bind fun bt716 => ((laws_toBound.f a1_0 a1_1).bind fun bt726 => ((laws_toCand.f a2_0 a2_1 a2_2 a2_3 a2_4 a2_5).bind fun bt728 => ((spec_SideValues.f k bt716.1 bt716.2.1 bt716.2.2.1 bt716.2.2.2.1 bt716.2.2.2.2.1 bt716.2.2.2.2.2.1 bt716.2.2.2.2.2.2.1 bt716.2.2.2.2.2.2.2 bt726.1 bt726.2 bt728.1 bt728.2.1 bt728.2.2.1 bt728.2.2.2.1 bt728.2.2.2.2.1 bt728.2.2.2.2.2).bind fun bt734 => ((laws_toConfig.f k a0_0 a0_1 a0_2 a0_3 a0_4 a0_5 a0_6 l0_7).bind fun bt737 => ((laws_toBound.f a1_0 a1_1).bind fun bt748 => ((laws_toCand.f a2_0 a2_1 a2_2 a2_3 a2_4 a2_5).bind fun bt750 => ((impl_SideValues.f k bt737.1 bt737.2.1 bt737.2.2.1 bt737.2.2.2.1 bt737.2.2.2.2.1 bt737.2.2.2.2.2.1 bt737.2.2.2.2.2.2.1 bt737.2.2.2.2.2.2.2 bt748.1 bt748.2 bt750.1 bt750.2.1 bt750.2.2.1 bt750.2.2.2.1 bt750.2.2.2.2.1 bt750.2.2.2.2.2).bind fun bt756 => (if bt756.1 = bt734.1 then (if bt756.2.1 = bt734.2.1 then (laws_FnExactSideValues.j0 k (bt756.2.2 != bt734.2.2) a0_0 a0_1 a0_2 a0_3 a0_4 a0_5 a0_6 l0_7 bt737.1 bt737.2.1 bt737.2.2.1 bt737.2.2.2.1 bt737.2.2.2.2.1 bt737.2.2.2.2.2.1 bt737.2.2.2.2.2.2.1 bt737.2.2.2.2.2.2.2) else (laws_FnExactSideValues.j0 k true a0_0 a0_1 a0_2 a0_3 a0_4 a0_5 a0_6 l0_7 bt737.1 bt737.2.1 bt737.2.2.1 bt737.2.2.2.1 bt737.2.2.2.2.1 bt737.2.2.2.2.2.1 bt737.2.2.2.2.2.2.1 bt737.2.2.2.2.2.2.2)) else (laws_FnExactSideValues.j0 k true a0_0 a0_1 a0_2 a0_3 a0_4 a0_5 a0_6 l0_7 bt737.1 bt737.2.1 bt737.2.2.1 bt737.2.2.2.1 bt737.2.2.2.2.1 bt737.2.2.2.2.2.1 bt737.2.2.2.2.2.2.1 bt737.2.2.2.2.2.2.2))))))))))) = some r := H
  have A4 := Aside0.mk A40
  clear A40
  by_cases c5 : t715 < 0
  · rw [if_pos c5] at H
    have c5b0 : decide (t715 < 0) = true := decide_eq_true c5
    clear c5
    obtain rfl := Option.some.inj H
    go_enter Try.func9, Try.ntmps9
    go_wp2_with (first | ((with_reducible refine gate_dst (N := 3) rfl ?_); refine box_event ?hg (N := 3) ?hd (cs := #[.int .i64 a0_0, .int .i64 a0_1, .int .i64 a0_2, .int .i64 a0_3, .int .i64 a0_4, .int .i64 a0_5, .int .i64 a0_6, .slice A0_7 l0_7.length c0_7]) (t := 65) ?hr ?_; (case hd => rfl); (case hg => rfl); (case hr => first | (go_simp; done) | (go_simp; rfl)); intro gb712 hg w6 hbox hb; have n0_ := Aside0.mk (below_step (by repeat (first | (with_reducible first | exact HB.out | apply below_alloc | apply pw_below_drewN | apply below_drew1) | exact HB.out)) hb); have n1_ := Aside0.mk (hbox); have n2_ := Aside0.mk ((by rw [hg]; exact (below_size (by repeat (first | (with_reducible first | exact HB.out | apply below_alloc | apply pw_below_drewN | apply below_drew1) | exact HB.out))) : w.heap.size ≤ gb712)); have n3_ := Aside0.mk ((by rw [hg]; exact (below_size (by repeat (first | (with_reducible first | exact HB.out | apply below_alloc | apply pw_below_drewN | apply below_drew1) | exact HB.out))) : w.heap.size ≤ gb712)); clear HB; have HB := n0_; have BK712 := n1_; have GW712 := n2_; have GE712 := n3_; clear n0_ n1_ n2_ n3_; clear hb hbox hg) | ((with_reducible refine gate_dst (N := 4) rfl ?_); refine box_event ?hg (N := 4) ?hd (cs := #[.int .i64 a1_0, .int .i64 a1_1]) (t := 66) ?hr ?_; (case hd => rfl); (case hg => rfl); (case hr => first | (go_simp; done) | (go_simp; rfl)); intro gb713 hg w7 hbox hb; have n0_ := Aside0.mk (blk_below (g := gb712) (o := .cells #[.int .i64 a0_0, .int .i64 a0_1, .int .i64 a0_2, .int .i64 a0_3, .int .i64 a0_4, .int .i64 a0_5, .int .i64 a0_6, .slice A0_7 l0_7.length c0_7] 65 (0, 0)) (by (with_reducible repeat (first | refine blk_drewN ?_ _ | refine blk_drew ?_ | refine blk_alloc ?_ _)); exact BK712.out) hb); have n1_ := Aside0.mk (below_step (by repeat (first | (with_reducible first | exact HB.out | apply below_alloc | apply pw_below_drewN | apply below_drew1 | refine below_set ?_ GE712.out) | exact HB.out)) hb); have n2_ := Aside0.mk (hbox); have n3_ := Aside0.mk ((by rw [hg]; exact (below_size (by repeat (first | (with_reducible first | exact HB.out | apply below_alloc | apply pw_below_drewN | apply below_drew1 | refine below_set ?_ GE712.out) | exact HB.out))) : w.heap.size ≤ gb713)); have n4_ := Aside0.mk ((by rw [hg]; exact (below_size (by repeat (first | (with_reducible first | exact HB.out | apply below_alloc | apply pw_below_drewN | apply below_drew1 | refine below_set ?_ GE712.out) | exact HB.out))) : w.heap.size ≤ gb713)); have n5_ := Aside0.mk ((by rw [hg]; exact Nat.ne_of_lt (blk_lt (g := gb712) (o := .cells #[.int .i64 a0_0, .int .i64 a0_1, .int .i64 a0_2, .int .i64 a0_3, .int .i64 a0_4, .int .i64 a0_5, .int .i64 a0_6, .slice A0_7 l0_7.length c0_7] 65 (0, 0)) (by (with_reducible repeat (first | refine blk_drewN ?_ _ | refine blk_drew ?_ | refine blk_alloc ?_ _)); exact BK712.out)) : gb712 ≠ gb713)); have n6_ := Aside0.mk ((by rw [hg]; exact Nat.ne_of_gt (blk_lt (g := gb712) (o := .cells #[.int .i64 a0_0, .int .i64 a0_1, .int .i64 a0_2, .int .i64 a0_3, .int .i64 a0_4, .int .i64 a0_5, .int .i64 a0_6, .slice A0_7 l0_7.length c0_7] 65 (0, 0)) (by (with_reducible repeat (first | refine blk_drewN ?_ _ | refine blk_drew ?_ | refine blk_alloc ?_ _)); exact BK712.out)) : gb713 ≠ gb712)); clear BK712; clear HB; have BK712 := n0_; have HB := n1_; have BK713 := n2_; have GW713 := n3_; have GE713 := n4_; have NB712_713 := n5_; have NB713_712 := n6_; clear n0_ n1_ n2_ n3_ n4_ n5_ n6_; clear hb hbox hg) | ((with_reducible refine gate_dst (N := 5) rfl ?_); refine box_event ?hg (N := 5) ?hd (cs := #[.int .i64 a2_0, .int .i64 a2_1, .int .i64 a2_2, .int .i64 a2_3, .int .i64 a2_4, .int .i64 a2_5]) (t := 69) ?hr ?_; (case hd => rfl); (case hg => rfl); (case hr => first | (go_simp; done) | (go_simp; rfl)); intro gb714 hg w8 hbox hb; have n0_ := Aside0.mk (blk_below (g := gb712) (o := .cells #[.int .i64 a0_0, .int .i64 a0_1, .int .i64 a0_2, .int .i64 a0_3, .int .i64 a0_4, .int .i64 a0_5, .int .i64 a0_6, .slice A0_7 l0_7.length c0_7] 65 (0, 0)) (by (with_reducible repeat (first | refine blk_drewN ?_ _ | refine blk_drew ?_ | refine blk_alloc ?_ _)); exact BK712.out) hb); have n1_ := Aside0.mk (blk_below (g := gb713) (o := .cells #[.int .i64 a1_0, .int .i64 a1_1] 66 (0, 0)) (by (with_reducible repeat (first | refine blk_drewN ?_ _ | refine blk_drew ?_ | refine blk_alloc ?_ _)); exact BK713.out) hb); have n2_ := Aside0.mk (below_step (by repeat (first | (with_reducible first | exact HB.out | apply below_alloc | apply pw_below_drewN | apply below_drew1 | refine below_set ?_ GE712.out | refine below_set ?_ GE713.out) | exact HB.out)) hb); have n3_ := Aside0.mk (hbox); have n4_ := Aside0.mk ((by rw [hg]; exact (below_size (by repeat (first | (with_reducible first | exact HB.out | apply below_alloc | apply pw_below_drewN | apply below_drew1 | refine below_set ?_ GE712.out | refine below_set ?_ GE713.out) | exact HB.out))) : w.heap.size ≤ gb714)); have n5_ := Aside0.mk ((by rw [hg]; exact (below_size (by repeat (first | (with_reducible first | exact HB.out | apply below_alloc | apply pw_below_drewN | apply below_drew1 | refine below_set ?_ GE712.out | refine below_set ?_ GE713.out) | exact HB.out))) : w.heap.size ≤ gb714)); have n6_ := Aside0.mk ((by rw [hg]; exact Nat.ne_of_lt (blk_lt (g := gb712) (o := .cells #[.int .i64 a0_0, .int .i64 a0_1, .int .i64 a0_2, .int .i64 a0_3, .int .i64 a0_4, .int .i64 a0_5, .int .i64 a0_6, .slice A0_7 l0_7.length c0_7] 65 (0, 0)) (by (with_reducible repeat (first | refine blk_drewN ?_ _ | refine blk_drew ?_ | refine blk_alloc ?_ _)); exact BK712.out)) : gb712 ≠ gb714)); have n7_ := Aside0.mk ((by rw [hg]; exact Nat.ne_of_gt (blk_lt (g := gb712) (o := .cells #[.int .i64 a0_0, .int .i64 a0_1, .int .i64 a0_2, .int .i64 a0_3, .int .i64 a0_4, .int .i64 a0_5, .int .i64 a0_6, .slice A0_7 l0_7.length c0_7] 65 (0, 0)) (by (with_reducible repeat (first | refine blk_drewN ?_ _ | refine blk_drew ?_ | refine blk_alloc ?_ _)); exact BK712.out)) : gb714 ≠ gb712)); have n8_ := Aside0.mk ((by rw [hg]; exact Nat.ne_of_lt (blk_lt (g := gb713) (o := .cells #[.int .i64 a1_0, .int .i64 a1_1] 66 (0, 0)) (by (with_reducible repeat (first | refine blk_drewN ?_ _ | refine blk_drew ?_ | refine blk_alloc ?_ _)); exact BK713.out)) : gb713 ≠ gb714)); have n9_ := Aside0.mk ((by rw [hg]; exact Nat.ne_of_gt (blk_lt (g := gb713) (o := .cells #[.int .i64 a1_0, .int .i64 a1_1] 66 (0, 0)) (by (with_reducible repeat (first | refine blk_drewN ?_ _ | refine blk_drew ?_ | refine blk_alloc ?_ _)); exact BK713.out)) : gb714 ≠ gb713)); clear BK712; clear BK713; clear HB; have BK712 := n0_; have BK713 := n1_; have HB := n2_; have BK714 := n3_; have GW714 := n4_; have GE714 := n5_; have NB712_714 := n6_; have NB714_712 := n7_; have NB713_714 := n8_; have NB714_713 := n9_; clear n0_ n1_ n2_ n3_ n4_ n5_ n6_ n7_ n8_ n9_; clear hb hbox hg; have hnb9 := NB712_713.out; have hnc9 := NB713_712.out; have hnb10 := NB712_714.out; have hnc10 := NB714_712.out; have hcz11_0 : w8.cell? ⟨gb712, 0, none⟩ = some (.int .i64 a0_0) := (blk_cell BK712.out 0).trans rfl; have hcz11_1 : w8.cell? ⟨gb712, 1, none⟩ = some (.int .i64 a0_1) := (blk_cell BK712.out 1).trans rfl; have hcz11_2 : w8.cell? ⟨gb712, 2, none⟩ = some (.int .i64 a0_2) := (blk_cell BK712.out 2).trans rfl; have hcz11_3 : w8.cell? ⟨gb712, 3, none⟩ = some (.int .i64 a0_3) := (blk_cell BK712.out 3).trans rfl; have hcz11_4 : w8.cell? ⟨gb712, 4, none⟩ = some (.int .i64 a0_4) := (blk_cell BK712.out 4).trans rfl; have hcz11_5 : w8.cell? ⟨gb712, 5, none⟩ = some (.int .i64 a0_5) := (blk_cell BK712.out 5).trans rfl; have hcz11_6 : w8.cell? ⟨gb712, 6, none⟩ = some (.int .i64 a0_6) := (blk_cell BK712.out 6).trans rfl; have hcz11_7 : w8.cell? ⟨gb712, 7, none⟩ = some (.slice A0_7 l0_7.length c0_7) := (blk_cell BK712.out 7).trans rfl; have hfz11_0 := blk_frozen BK712.out 0; have hfz11_1 := blk_frozen BK712.out 1; have hfz11_2 := blk_frozen BK712.out 2; have hfz11_3 := blk_frozen BK712.out 3; have hfz11_4 := blk_frozen BK712.out 4; have hfz11_5 := blk_frozen BK712.out 5; have hfz11_6 := blk_frozen BK712.out 6; have hfz11_7 := blk_frozen BK712.out 7) | ((with_reducible refine gate_callee (f := 46) rfl ?_); refine goesL_ (some 17) rfl rfl Try.func46 (by kernel_rfl) rfl #[.agg #[.int .i64 a0_0, .int .i64 a0_1, .int .i64 a0_2, .int .i64 a0_3, .int .i64 a0_4, .int .i64 a0_5, .int .i64 a0_6, .slice A0_7 l0_7.length c0_7], .int .i64 1048576] rfl (by (try simp only [List.map_toArray, List.map_cons, List.map_nil]); first | done | rfl | (simp only [List.length_drop, List.length_take]; rfl)) ?_; (with_reducible refine (laws_szConfig.calls a0_0 a0_1 a0_2 a0_3 a0_4 a0_5 a0_6 _ _ l0_7 1048576 t715 _ ?side1 ?side2 A4.out).mono ?_); (case side1 => repeat (first | exact (Kd.C_below HR0_7.out HB.out) | (with_reducible refine Kd.C_alloc ?_ _) | (with_reducible refine Kd.C_drewN ?_ _) | (with_reducible refine Kd.C_drew ?_))); (case side2 => exact HC0_7.out); rintro e w12 ⟨rfl, hb⟩; refine ⟨_, rfl, ?_⟩; have n0_ := Aside0.mk (blk_below (g := gb712) (o := .cells #[.int .i64 a0_0, .int .i64 a0_1, .int .i64 a0_2, .int .i64 a0_3, .int .i64 a0_4, .int .i64 a0_5, .int .i64 a0_6, .slice A0_7 l0_7.length c0_7] 65 (0, 0)) (by (with_reducible repeat (first | refine blk_drewN ?_ _ | refine blk_drew ?_ | refine blk_alloc ?_ _)); exact BK712.out) hb); have n1_ := Aside0.mk (blk_below (g := gb713) (o := .cells #[.int .i64 a1_0, .int .i64 a1_1] 66 (0, 0)) (by (with_reducible repeat (first | refine blk_drewN ?_ _ | refine blk_drew ?_ | refine blk_alloc ?_ _)); exact BK713.out) hb); have n2_ := Aside0.mk (blk_below (g := gb714) (o := .cells #[.int .i64 a2_0, .int .i64 a2_1, .int .i64 a2_2, .int .i64 a2_3, .int .i64 a2_4, .int .i64 a2_5] 69 (0, 0)) (by (with_reducible repeat (first | refine blk_drewN ?_ _ | refine blk_drew ?_ | refine blk_alloc ?_ _)); exact BK714.out) hb); have n3_ := Aside0.mk (below_step (by repeat (first | (with_reducible first | exact HB.out | apply below_alloc | apply pw_below_drewN | apply below_drew1 | refine below_set ?_ GE712.out | refine below_set ?_ GE713.out | refine below_set ?_ GE714.out) | exact HB.out)) hb); clear BK712; clear BK713; clear BK714; clear HB; have BK712 := n0_; have BK713 := n1_; have BK714 := n2_; have HB := n3_; clear n0_ n1_ n2_ n3_; (try clear hb); (try clear hb2); (try clear hk); (try clear hi)))
    go_ret
    exact ⟨by first | rfl | (simp [errW_none, errW_some] <;> rfl) | (simp [*, errW_none, errW_some] <;> rfl), by repeat (first | (with_reducible first | exact HB.out | apply below_alloc | apply pw_below_drewN | apply below_drew1 | refine below_set ?_ GE712.out | refine below_set ?_ GE713.out | refine below_set ?_ GE714.out) | exact HB.out)⟩
  · rw [if_neg c5] at H
    have c5b0 : decide (t715 < 0) = false := decide_eq_false c5
    clear c5
    replace H := Option.bind_eq_some_iff.mp H
    obtain ⟨⟨t716, t717, t718, t719, t720, t721, t722, t723⟩, A130, H⟩ := H
    replace H : ((laws_toBound.f a1_0 a1_1).bind fun bt726 => ((laws_toCand.f a2_0 a2_1 a2_2 a2_3 a2_4 a2_5).bind fun bt728 => ((spec_SideValues.f k t716 t717 t718 t719 t720 t721 t722 t723 bt726.1 bt726.2 bt728.1 bt728.2.1 bt728.2.2.1 bt728.2.2.2.1 bt728.2.2.2.2.1 bt728.2.2.2.2.2).bind fun bt734 => ((laws_toConfig.f k a0_0 a0_1 a0_2 a0_3 a0_4 a0_5 a0_6 l0_7).bind fun bt737 => ((laws_toBound.f a1_0 a1_1).bind fun bt748 => ((laws_toCand.f a2_0 a2_1 a2_2 a2_3 a2_4 a2_5).bind fun bt750 => ((impl_SideValues.f k bt737.1 bt737.2.1 bt737.2.2.1 bt737.2.2.2.1 bt737.2.2.2.2.1 bt737.2.2.2.2.2.1 bt737.2.2.2.2.2.2.1 bt737.2.2.2.2.2.2.2 bt748.1 bt748.2 bt750.1 bt750.2.1 bt750.2.2.1 bt750.2.2.2.1 bt750.2.2.2.2.1 bt750.2.2.2.2.2).bind fun bt756 => (if bt756.1 = bt734.1 then (if bt756.2.1 = bt734.2.1 then (laws_FnExactSideValues.j0 k (bt756.2.2 != bt734.2.2) a0_0 a0_1 a0_2 a0_3 a0_4 a0_5 a0_6 l0_7 bt737.1 bt737.2.1 bt737.2.2.1 bt737.2.2.2.1 bt737.2.2.2.2.1 bt737.2.2.2.2.2.1 bt737.2.2.2.2.2.2.1 bt737.2.2.2.2.2.2.2) else (laws_FnExactSideValues.j0 k true a0_0 a0_1 a0_2 a0_3 a0_4 a0_5 a0_6 l0_7 bt737.1 bt737.2.1 bt737.2.2.1 bt737.2.2.2.1 bt737.2.2.2.2.1 bt737.2.2.2.2.2.1 bt737.2.2.2.2.2.2.1 bt737.2.2.2.2.2.2.2)) else (laws_FnExactSideValues.j0 k true a0_0 a0_1 a0_2 a0_3 a0_4 a0_5 a0_6 l0_7 bt737.1 bt737.2.1 bt737.2.2.1 bt737.2.2.2.1 bt737.2.2.2.2.1 bt737.2.2.2.2.2.1 bt737.2.2.2.2.2.2.1 bt737.2.2.2.2.2.2.2))))))))) = some r := H
    have A13 := Aside0.mk A130
    clear A130
    replace H := Option.bind_eq_some_iff.mp H
    obtain ⟨⟨t726, t727⟩, A140, H⟩ := H
    replace H : ((laws_toCand.f a2_0 a2_1 a2_2 a2_3 a2_4 a2_5).bind fun bt728 => ((spec_SideValues.f k t716 t717 t718 t719 t720 t721 t722 t723 t726 t727 bt728.1 bt728.2.1 bt728.2.2.1 bt728.2.2.2.1 bt728.2.2.2.2.1 bt728.2.2.2.2.2).bind fun bt734 => ((laws_toConfig.f k a0_0 a0_1 a0_2 a0_3 a0_4 a0_5 a0_6 l0_7).bind fun bt737 => ((laws_toBound.f a1_0 a1_1).bind fun bt748 => ((laws_toCand.f a2_0 a2_1 a2_2 a2_3 a2_4 a2_5).bind fun bt750 => ((impl_SideValues.f k bt737.1 bt737.2.1 bt737.2.2.1 bt737.2.2.2.1 bt737.2.2.2.2.1 bt737.2.2.2.2.2.1 bt737.2.2.2.2.2.2.1 bt737.2.2.2.2.2.2.2 bt748.1 bt748.2 bt750.1 bt750.2.1 bt750.2.2.1 bt750.2.2.2.1 bt750.2.2.2.2.1 bt750.2.2.2.2.2).bind fun bt756 => (if bt756.1 = bt734.1 then (if bt756.2.1 = bt734.2.1 then (laws_FnExactSideValues.j0 k (bt756.2.2 != bt734.2.2) a0_0 a0_1 a0_2 a0_3 a0_4 a0_5 a0_6 l0_7 bt737.1 bt737.2.1 bt737.2.2.1 bt737.2.2.2.1 bt737.2.2.2.2.1 bt737.2.2.2.2.2.1 bt737.2.2.2.2.2.2.1 bt737.2.2.2.2.2.2.2) else (laws_FnExactSideValues.j0 k true a0_0 a0_1 a0_2 a0_3 a0_4 a0_5 a0_6 l0_7 bt737.1 bt737.2.1 bt737.2.2.1 bt737.2.2.2.1 bt737.2.2.2.2.1 bt737.2.2.2.2.2.1 bt737.2.2.2.2.2.2.1 bt737.2.2.2.2.2.2.2)) else (laws_FnExactSideValues.j0 k true a0_0 a0_1 a0_2 a0_3 a0_4 a0_5 a0_6 l0_7 bt737.1 bt737.2.1 bt737.2.2.1 bt737.2.2.2.1 bt737.2.2.2.2.1 bt737.2.2.2.2.2.1 bt737.2.2.2.2.2.2.1 bt737.2.2.2.2.2.2.2)))))))) = some r := H
    have A14 := Aside0.mk A140
    clear A140
    replace H := Option.bind_eq_some_iff.mp H
    obtain ⟨⟨t728, t729, t730, t731, t732, t733⟩, A150, H⟩ := H
    replace H : ((spec_SideValues.f k t716 t717 t718 t719 t720 t721 t722 t723 t726 t727 t728 t729 t730 t731 t732 t733).bind fun bt734 => ((laws_toConfig.f k a0_0 a0_1 a0_2 a0_3 a0_4 a0_5 a0_6 l0_7).bind fun bt737 => ((laws_toBound.f a1_0 a1_1).bind fun bt748 => ((laws_toCand.f a2_0 a2_1 a2_2 a2_3 a2_4 a2_5).bind fun bt750 => ((impl_SideValues.f k bt737.1 bt737.2.1 bt737.2.2.1 bt737.2.2.2.1 bt737.2.2.2.2.1 bt737.2.2.2.2.2.1 bt737.2.2.2.2.2.2.1 bt737.2.2.2.2.2.2.2 bt748.1 bt748.2 bt750.1 bt750.2.1 bt750.2.2.1 bt750.2.2.2.1 bt750.2.2.2.2.1 bt750.2.2.2.2.2).bind fun bt756 => (if bt756.1 = bt734.1 then (if bt756.2.1 = bt734.2.1 then (laws_FnExactSideValues.j0 k (bt756.2.2 != bt734.2.2) a0_0 a0_1 a0_2 a0_3 a0_4 a0_5 a0_6 l0_7 bt737.1 bt737.2.1 bt737.2.2.1 bt737.2.2.2.1 bt737.2.2.2.2.1 bt737.2.2.2.2.2.1 bt737.2.2.2.2.2.2.1 bt737.2.2.2.2.2.2.2) else (laws_FnExactSideValues.j0 k true a0_0 a0_1 a0_2 a0_3 a0_4 a0_5 a0_6 l0_7 bt737.1 bt737.2.1 bt737.2.2.1 bt737.2.2.2.1 bt737.2.2.2.2.1 bt737.2.2.2.2.2.1 bt737.2.2.2.2.2.2.1 bt737.2.2.2.2.2.2.2)) else (laws_FnExactSideValues.j0 k true a0_0 a0_1 a0_2 a0_3 a0_4 a0_5 a0_6 l0_7 bt737.1 bt737.2.1 bt737.2.2.1 bt737.2.2.2.1 bt737.2.2.2.2.1 bt737.2.2.2.2.2.1 bt737.2.2.2.2.2.2.1 bt737.2.2.2.2.2.2.2))))))) = some r := H
    have A15 := Aside0.mk A150
    clear A150
    replace H := Option.bind_eq_some_iff.mp H
    obtain ⟨⟨t734, t735, t736⟩, A160, H⟩ := H
    replace H : ((laws_toConfig.f k a0_0 a0_1 a0_2 a0_3 a0_4 a0_5 a0_6 l0_7).bind fun bt737 => ((laws_toBound.f a1_0 a1_1).bind fun bt748 => ((laws_toCand.f a2_0 a2_1 a2_2 a2_3 a2_4 a2_5).bind fun bt750 => ((impl_SideValues.f k bt737.1 bt737.2.1 bt737.2.2.1 bt737.2.2.2.1 bt737.2.2.2.2.1 bt737.2.2.2.2.2.1 bt737.2.2.2.2.2.2.1 bt737.2.2.2.2.2.2.2 bt748.1 bt748.2 bt750.1 bt750.2.1 bt750.2.2.1 bt750.2.2.2.1 bt750.2.2.2.2.1 bt750.2.2.2.2.2).bind fun bt756 => (if bt756.1 = t734 then (if bt756.2.1 = t735 then (laws_FnExactSideValues.j0 k (bt756.2.2 != t736) a0_0 a0_1 a0_2 a0_3 a0_4 a0_5 a0_6 l0_7 bt737.1 bt737.2.1 bt737.2.2.1 bt737.2.2.2.1 bt737.2.2.2.2.1 bt737.2.2.2.2.2.1 bt737.2.2.2.2.2.2.1 bt737.2.2.2.2.2.2.2) else (laws_FnExactSideValues.j0 k true a0_0 a0_1 a0_2 a0_3 a0_4 a0_5 a0_6 l0_7 bt737.1 bt737.2.1 bt737.2.2.1 bt737.2.2.2.1 bt737.2.2.2.2.1 bt737.2.2.2.2.2.1 bt737.2.2.2.2.2.2.1 bt737.2.2.2.2.2.2.2)) else (laws_FnExactSideValues.j0 k true a0_0 a0_1 a0_2 a0_3 a0_4 a0_5 a0_6 l0_7 bt737.1 bt737.2.1 bt737.2.2.1 bt737.2.2.2.1 bt737.2.2.2.2.1 bt737.2.2.2.2.2.1 bt737.2.2.2.2.2.2.1 bt737.2.2.2.2.2.2.2)))))) = some r := H
    have A16 := Aside0.mk A160
    clear A160
    replace H := Option.bind_eq_some_iff.mp H
    obtain ⟨⟨t737, t738, t739, t740, t741, t742, t743, t744⟩, A170, H⟩ := H
    replace H : ((laws_toBound.f a1_0 a1_1).bind fun bt748 => ((laws_toCand.f a2_0 a2_1 a2_2 a2_3 a2_4 a2_5).bind fun bt750 => ((impl_SideValues.f k t737 t738 t739 t740 t741 t742 t743 t744 bt748.1 bt748.2 bt750.1 bt750.2.1 bt750.2.2.1 bt750.2.2.2.1 bt750.2.2.2.2.1 bt750.2.2.2.2.2).bind fun bt756 => (if bt756.1 = t734 then (if bt756.2.1 = t735 then (laws_FnExactSideValues.j0 k (bt756.2.2 != t736) a0_0 a0_1 a0_2 a0_3 a0_4 a0_5 a0_6 l0_7 t737 t738 t739 t740 t741 t742 t743 t744) else (laws_FnExactSideValues.j0 k true a0_0 a0_1 a0_2 a0_3 a0_4 a0_5 a0_6 l0_7 t737 t738 t739 t740 t741 t742 t743 t744)) else (laws_FnExactSideValues.j0 k true a0_0 a0_1 a0_2 a0_3 a0_4 a0_5 a0_6 l0_7 t737 t738 t739 t740 t741 t742 t743 t744))))) = some r := H
    have A17 := Aside0.mk A170
    clear A170
    replace H := Option.bind_eq_some_iff.mp H
    obtain ⟨⟨t748, t749⟩, A180, H⟩ := H
    replace H : ((laws_toCand.f a2_0 a2_1 a2_2 a2_3 a2_4 a2_5).bind fun bt750 => ((impl_SideValues.f k t737 t738 t739 t740 t741 t742 t743 t744 t748 t749 bt750.1 bt750.2.1 bt750.2.2.1 bt750.2.2.2.1 bt750.2.2.2.2.1 bt750.2.2.2.2.2).bind fun bt756 => (if bt756.1 = t734 then (if bt756.2.1 = t735 then (laws_FnExactSideValues.j0 k (bt756.2.2 != t736) a0_0 a0_1 a0_2 a0_3 a0_4 a0_5 a0_6 l0_7 t737 t738 t739 t740 t741 t742 t743 t744) else (laws_FnExactSideValues.j0 k true a0_0 a0_1 a0_2 a0_3 a0_4 a0_5 a0_6 l0_7 t737 t738 t739 t740 t741 t742 t743 t744)) else (laws_FnExactSideValues.j0 k true a0_0 a0_1 a0_2 a0_3 a0_4 a0_5 a0_6 l0_7 t737 t738 t739 t740 t741 t742 t743 t744)))) = some r := H
    have A18 := Aside0.mk A180
    clear A180
    replace H := Option.bind_eq_some_iff.mp H
    obtain ⟨⟨t750, t751, t752, t753, t754, t755⟩, A190, H⟩ := H
    replace H : ((impl_SideValues.f k t737 t738 t739 t740 t741 t742 t743 t744 t748 t749 t750 t751 t752 t753 t754 t755).bind fun bt756 => (if bt756.1 = t734 then (if bt756.2.1 = t735 then (laws_FnExactSideValues.j0 k (bt756.2.2 != t736) a0_0 a0_1 a0_2 a0_3 a0_4 a0_5 a0_6 l0_7 t737 t738 t739 t740 t741 t742 t743 t744) else (laws_FnExactSideValues.j0 k true a0_0 a0_1 a0_2 a0_3 a0_4 a0_5 a0_6 l0_7 t737 t738 t739 t740 t741 t742 t743 t744)) else (laws_FnExactSideValues.j0 k true a0_0 a0_1 a0_2 a0_3 a0_4 a0_5 a0_6 l0_7 t737 t738 t739 t740 t741 t742 t743 t744))) = some r := H
    have A19 := Aside0.mk A190
    clear A190
    replace H := Option.bind_eq_some_iff.mp H
    obtain ⟨⟨t756, t757, t758⟩, A200, H⟩ := H
    replace H : (if t756 = t734 then (if t757 = t735 then (laws_FnExactSideValues.j0 k (t758 != t736) a0_0 a0_1 a0_2 a0_3 a0_4 a0_5 a0_6 l0_7 t737 t738 t739 t740 t741 t742 t743 t744) else (laws_FnExactSideValues.j0 k true a0_0 a0_1 a0_2 a0_3 a0_4 a0_5 a0_6 l0_7 t737 t738 t739 t740 t741 t742 t743 t744)) else (laws_FnExactSideValues.j0 k true a0_0 a0_1 a0_2 a0_3 a0_4 a0_5 a0_6 l0_7 t737 t738 t739 t740 t741 t742 t743 t744)) = some r := H
    have A20 := Aside0.mk A200
    clear A200
    have HC21 := Aside0.mk H
    clear H
    go_enter Try.func9, Try.ntmps9
    try go_wp2_with (first | ((with_reducible refine gate_dst (N := 3) rfl ?_); refine box_event ?hg (N := 3) ?hd (cs := #[.int .i64 a0_0, .int .i64 a0_1, .int .i64 a0_2, .int .i64 a0_3, .int .i64 a0_4, .int .i64 a0_5, .int .i64 a0_6, .slice A0_7 l0_7.length c0_7]) (t := 65) ?hr ?_; (case hd => rfl); (case hg => rfl); (case hr => first | (go_simp; done) | (go_simp; rfl)); intro gb712 hg w22 hbox hb; have n0_ := Aside0.mk (below_step (by repeat (first | (with_reducible first | exact HB.out | apply below_alloc | apply pw_below_drewN | apply below_drew1) | exact HB.out)) hb); have n1_ := Aside0.mk (hbox); have n2_ := Aside0.mk ((by rw [hg]; exact (below_size (by repeat (first | (with_reducible first | exact HB.out | apply below_alloc | apply pw_below_drewN | apply below_drew1) | exact HB.out))) : w.heap.size ≤ gb712)); have n3_ := Aside0.mk ((by rw [hg]; exact (below_size (by repeat (first | (with_reducible first | exact HB.out | apply below_alloc | apply pw_below_drewN | apply below_drew1) | exact HB.out))) : w.heap.size ≤ gb712)); clear HB; have HB := n0_; have BK712 := n1_; have GW712 := n2_; have GE712 := n3_; clear n0_ n1_ n2_ n3_; clear hb hbox hg) | ((with_reducible refine gate_dst (N := 4) rfl ?_); refine box_event ?hg (N := 4) ?hd (cs := #[.int .i64 a1_0, .int .i64 a1_1]) (t := 66) ?hr ?_; (case hd => rfl); (case hg => rfl); (case hr => first | (go_simp; done) | (go_simp; rfl)); intro gb713 hg w23 hbox hb; have n0_ := Aside0.mk (blk_below (g := gb712) (o := .cells #[.int .i64 a0_0, .int .i64 a0_1, .int .i64 a0_2, .int .i64 a0_3, .int .i64 a0_4, .int .i64 a0_5, .int .i64 a0_6, .slice A0_7 l0_7.length c0_7] 65 (0, 0)) (by (with_reducible repeat (first | refine blk_drewN ?_ _ | refine blk_drew ?_ | refine blk_alloc ?_ _)); exact BK712.out) hb); have n1_ := Aside0.mk (below_step (by repeat (first | (with_reducible first | exact HB.out | apply below_alloc | apply pw_below_drewN | apply below_drew1 | refine below_set ?_ GE712.out) | exact HB.out)) hb); have n2_ := Aside0.mk (hbox); have n3_ := Aside0.mk ((by rw [hg]; exact (below_size (by repeat (first | (with_reducible first | exact HB.out | apply below_alloc | apply pw_below_drewN | apply below_drew1 | refine below_set ?_ GE712.out) | exact HB.out))) : w.heap.size ≤ gb713)); have n4_ := Aside0.mk ((by rw [hg]; exact (below_size (by repeat (first | (with_reducible first | exact HB.out | apply below_alloc | apply pw_below_drewN | apply below_drew1 | refine below_set ?_ GE712.out) | exact HB.out))) : w.heap.size ≤ gb713)); have n5_ := Aside0.mk ((by rw [hg]; exact Nat.ne_of_lt (blk_lt (g := gb712) (o := .cells #[.int .i64 a0_0, .int .i64 a0_1, .int .i64 a0_2, .int .i64 a0_3, .int .i64 a0_4, .int .i64 a0_5, .int .i64 a0_6, .slice A0_7 l0_7.length c0_7] 65 (0, 0)) (by (with_reducible repeat (first | refine blk_drewN ?_ _ | refine blk_drew ?_ | refine blk_alloc ?_ _)); exact BK712.out)) : gb712 ≠ gb713)); have n6_ := Aside0.mk ((by rw [hg]; exact Nat.ne_of_gt (blk_lt (g := gb712) (o := .cells #[.int .i64 a0_0, .int .i64 a0_1, .int .i64 a0_2, .int .i64 a0_3, .int .i64 a0_4, .int .i64 a0_5, .int .i64 a0_6, .slice A0_7 l0_7.length c0_7] 65 (0, 0)) (by (with_reducible repeat (first | refine blk_drewN ?_ _ | refine blk_drew ?_ | refine blk_alloc ?_ _)); exact BK712.out)) : gb713 ≠ gb712)); clear BK712; clear HB; have BK712 := n0_; have HB := n1_; have BK713 := n2_; have GW713 := n3_; have GE713 := n4_; have NB712_713 := n5_; have NB713_712 := n6_; clear n0_ n1_ n2_ n3_ n4_ n5_ n6_; clear hb hbox hg) | ((with_reducible refine gate_dst (N := 5) rfl ?_); refine box_event ?hg (N := 5) ?hd (cs := #[.int .i64 a2_0, .int .i64 a2_1, .int .i64 a2_2, .int .i64 a2_3, .int .i64 a2_4, .int .i64 a2_5]) (t := 69) ?hr ?_; (case hd => rfl); (case hg => rfl); (case hr => first | (go_simp; done) | (go_simp; rfl)); intro gb714 hg w24 hbox hb; have n0_ := Aside0.mk (blk_below (g := gb712) (o := .cells #[.int .i64 a0_0, .int .i64 a0_1, .int .i64 a0_2, .int .i64 a0_3, .int .i64 a0_4, .int .i64 a0_5, .int .i64 a0_6, .slice A0_7 l0_7.length c0_7] 65 (0, 0)) (by (with_reducible repeat (first | refine blk_drewN ?_ _ | refine blk_drew ?_ | refine blk_alloc ?_ _)); exact BK712.out) hb); have n1_ := Aside0.mk (blk_below (g := gb713) (o := .cells #[.int .i64 a1_0, .int .i64 a1_1] 66 (0, 0)) (by (with_reducible repeat (first | refine blk_drewN ?_ _ | refine blk_drew ?_ | refine blk_alloc ?_ _)); exact BK713.out) hb); have n2_ := Aside0.mk (below_step (by repeat (first | (with_reducible first | exact HB.out | apply below_alloc | apply pw_below_drewN | apply below_drew1 | refine below_set ?_ GE712.out | refine below_set ?_ GE713.out) | exact HB.out)) hb); have n3_ := Aside0.mk (hbox); have n4_ := Aside0.mk ((by rw [hg]; exact (below_size (by repeat (first | (with_reducible first | exact HB.out | apply below_alloc | apply pw_below_drewN | apply below_drew1 | refine below_set ?_ GE712.out | refine below_set ?_ GE713.out) | exact HB.out))) : w.heap.size ≤ gb714)); have n5_ := Aside0.mk ((by rw [hg]; exact (below_size (by repeat (first | (with_reducible first | exact HB.out | apply below_alloc | apply pw_below_drewN | apply below_drew1 | refine below_set ?_ GE712.out | refine below_set ?_ GE713.out) | exact HB.out))) : w.heap.size ≤ gb714)); have n6_ := Aside0.mk ((by rw [hg]; exact Nat.ne_of_lt (blk_lt (g := gb712) (o := .cells #[.int .i64 a0_0, .int .i64 a0_1, .int .i64 a0_2, .int .i64 a0_3, .int .i64 a0_4, .int .i64 a0_5, .int .i64 a0_6, .slice A0_7 l0_7.length c0_7] 65 (0, 0)) (by (with_reducible repeat (first | refine blk_drewN ?_ _ | refine blk_drew ?_ | refine blk_alloc ?_ _)); exact BK712.out)) : gb712 ≠ gb714)); have n7_ := Aside0.mk ((by rw [hg]; exact Nat.ne_of_gt (blk_lt (g := gb712) (o := .cells #[.int .i64 a0_0, .int .i64 a0_1, .int .i64 a0_2, .int .i64 a0_3, .int .i64 a0_4, .int .i64 a0_5, .int .i64 a0_6, .slice A0_7 l0_7.length c0_7] 65 (0, 0)) (by (with_reducible repeat (first | refine blk_drewN ?_ _ | refine blk_drew ?_ | refine blk_alloc ?_ _)); exact BK712.out)) : gb714 ≠ gb712)); have n8_ := Aside0.mk ((by rw [hg]; exact Nat.ne_of_lt (blk_lt (g := gb713) (o := .cells #[.int .i64 a1_0, .int .i64 a1_1] 66 (0, 0)) (by (with_reducible repeat (first | refine blk_drewN ?_ _ | refine blk_drew ?_ | refine blk_alloc ?_ _)); exact BK713.out)) : gb713 ≠ gb714)); have n9_ := Aside0.mk ((by rw [hg]; exact Nat.ne_of_gt (blk_lt (g := gb713) (o := .cells #[.int .i64 a1_0, .int .i64 a1_1] 66 (0, 0)) (by (with_reducible repeat (first | refine blk_drewN ?_ _ | refine blk_drew ?_ | refine blk_alloc ?_ _)); exact BK713.out)) : gb714 ≠ gb713)); clear BK712; clear BK713; clear HB; have BK712 := n0_; have BK713 := n1_; have HB := n2_; have BK714 := n3_; have GW714 := n4_; have GE714 := n5_; have NB712_714 := n6_; have NB714_712 := n7_; have NB713_714 := n8_; have NB714_713 := n9_; clear n0_ n1_ n2_ n3_ n4_ n5_ n6_ n7_ n8_ n9_; clear hb hbox hg; have hnb25 := NB712_713.out; have hnc25 := NB713_712.out; have hnb26 := NB712_714.out; have hnc26 := NB714_712.out; have hcz27_0 : w24.cell? ⟨gb712, 0, none⟩ = some (.int .i64 a0_0) := (blk_cell BK712.out 0).trans rfl; have hcz27_1 : w24.cell? ⟨gb712, 1, none⟩ = some (.int .i64 a0_1) := (blk_cell BK712.out 1).trans rfl; have hcz27_2 : w24.cell? ⟨gb712, 2, none⟩ = some (.int .i64 a0_2) := (blk_cell BK712.out 2).trans rfl; have hcz27_3 : w24.cell? ⟨gb712, 3, none⟩ = some (.int .i64 a0_3) := (blk_cell BK712.out 3).trans rfl; have hcz27_4 : w24.cell? ⟨gb712, 4, none⟩ = some (.int .i64 a0_4) := (blk_cell BK712.out 4).trans rfl; have hcz27_5 : w24.cell? ⟨gb712, 5, none⟩ = some (.int .i64 a0_5) := (blk_cell BK712.out 5).trans rfl; have hcz27_6 : w24.cell? ⟨gb712, 6, none⟩ = some (.int .i64 a0_6) := (blk_cell BK712.out 6).trans rfl; have hcz27_7 : w24.cell? ⟨gb712, 7, none⟩ = some (.slice A0_7 l0_7.length c0_7) := (blk_cell BK712.out 7).trans rfl; have hfz27_0 := blk_frozen BK712.out 0; have hfz27_1 := blk_frozen BK712.out 1; have hfz27_2 := blk_frozen BK712.out 2; have hfz27_3 := blk_frozen BK712.out 3; have hfz27_4 := blk_frozen BK712.out 4; have hfz27_5 := blk_frozen BK712.out 5; have hfz27_6 := blk_frozen BK712.out 6; have hfz27_7 := blk_frozen BK712.out 7) | ((with_reducible refine gate_callee (f := 46) rfl ?_); refine goesL_ (some 17) rfl rfl Try.func46 (by kernel_rfl) rfl #[.agg #[.int .i64 a0_0, .int .i64 a0_1, .int .i64 a0_2, .int .i64 a0_3, .int .i64 a0_4, .int .i64 a0_5, .int .i64 a0_6, .slice A0_7 l0_7.length c0_7], .int .i64 1048576] rfl (by (try simp only [List.map_toArray, List.map_cons, List.map_nil]); first | done | rfl | (simp only [List.length_drop, List.length_take]; rfl)) ?_; (with_reducible refine (laws_szConfig.calls a0_0 a0_1 a0_2 a0_3 a0_4 a0_5 a0_6 _ _ l0_7 1048576 t715 _ ?side1 ?side2 A4.out).mono ?_); (case side1 => repeat (first | exact (Kd.C_below HR0_7.out HB.out) | (with_reducible refine Kd.C_alloc ?_ _) | (with_reducible refine Kd.C_drewN ?_ _) | (with_reducible refine Kd.C_drew ?_))); (case side2 => exact HC0_7.out); rintro e w28 ⟨rfl, hb⟩; refine ⟨_, rfl, ?_⟩; have n0_ := Aside0.mk (blk_below (g := gb712) (o := .cells #[.int .i64 a0_0, .int .i64 a0_1, .int .i64 a0_2, .int .i64 a0_3, .int .i64 a0_4, .int .i64 a0_5, .int .i64 a0_6, .slice A0_7 l0_7.length c0_7] 65 (0, 0)) (by (with_reducible repeat (first | refine blk_drewN ?_ _ | refine blk_drew ?_ | refine blk_alloc ?_ _)); exact BK712.out) hb); have n1_ := Aside0.mk (blk_below (g := gb713) (o := .cells #[.int .i64 a1_0, .int .i64 a1_1] 66 (0, 0)) (by (with_reducible repeat (first | refine blk_drewN ?_ _ | refine blk_drew ?_ | refine blk_alloc ?_ _)); exact BK713.out) hb); have n2_ := Aside0.mk (blk_below (g := gb714) (o := .cells #[.int .i64 a2_0, .int .i64 a2_1, .int .i64 a2_2, .int .i64 a2_3, .int .i64 a2_4, .int .i64 a2_5] 69 (0, 0)) (by (with_reducible repeat (first | refine blk_drewN ?_ _ | refine blk_drew ?_ | refine blk_alloc ?_ _)); exact BK714.out) hb); have n3_ := Aside0.mk (below_step (by repeat (first | (with_reducible first | exact HB.out | apply below_alloc | apply pw_below_drewN | apply below_drew1 | refine below_set ?_ GE712.out | refine below_set ?_ GE713.out | refine below_set ?_ GE714.out) | exact HB.out)) hb); clear BK712; clear BK713; clear BK714; clear HB; have BK712 := n0_; have BK713 := n1_; have BK714 := n2_; have HB := n3_; clear n0_ n1_ n2_ n3_; (try clear hb); (try clear hb2); (try clear hk); (try clear hi)))
    have n0_ := Aside0.mk (blk_drew BK712.out)
    have n1_ := Aside0.mk (blk_drew BK713.out)
    have n2_ := Aside0.mk (blk_drew BK714.out)
    have n3_ := Aside0.mk (below_drew1 HB.out)
    clear BK712
    clear BK713
    clear BK714
    clear HB
    have BK712 := n0_
    have BK713 := n1_
    have BK714 := n2_
    have HB := n3_
    clear n0_ n1_ n2_ n3_
    refine start_ (n := 14) (S := fun w' => w'.cell? ⟨gb712, 0, none⟩ = some (.int .i64 a0_0) ∧ w'.cell? ⟨gb712, 1, none⟩ = some (.int .i64 a0_1) ∧ w'.cell? ⟨gb712, 2, none⟩ = some (.int .i64 a0_2) ∧ w'.cell? ⟨gb712, 3, none⟩ = some (.int .i64 a0_3) ∧ w'.cell? ⟨gb712, 4, none⟩ = some (.int .i64 a0_4) ∧ w'.cell? ⟨gb712, 5, none⟩ = some (.int .i64 a0_5) ∧ w'.cell? ⟨gb712, 6, none⟩ = some (.int .i64 a0_6) ∧ w'.cell? ⟨gb712, 7, none⟩ = some (.slice A0_7 l0_7.length c0_7) ∧ w'.cell? ⟨gb713, 0, none⟩ = some (.int .i64 a1_0) ∧ w'.cell? ⟨gb713, 1, none⟩ = some (.int .i64 a1_1) ∧ w'.cell? ⟨gb714, 0, none⟩ = some (.int .i64 a2_0) ∧ w'.cell? ⟨gb714, 1, none⟩ = some (.int .i64 a2_1) ∧ w'.cell? ⟨gb714, 2, none⟩ = some (.int .i64 a2_2) ∧ w'.cell? ⟨gb714, 3, none⟩ = some (.int .i64 a2_3) ∧ w'.cell? ⟨gb714, 4, none⟩ = some (.int .i64 a2_4) ∧ w'.cell? ⟨gb714, 5, none⟩ = some (.int .i64 a2_5)) (ds := []) #[false, false, false, false, false, false, false, false, false, false, false, false, false, false] (by kernel_rfl) rfl rfl ⟨(blk_cell BK712.out 0).trans rfl, (blk_cell BK712.out 1).trans rfl, (blk_cell BK712.out 2).trans rfl, (blk_cell BK712.out 3).trans rfl, (blk_cell BK712.out 4).trans rfl, (blk_cell BK712.out 5).trans rfl, (blk_cell BK712.out 6).trans rfl, (blk_cell BK712.out 7).trans rfl, (blk_cell BK713.out 0).trans rfl, (blk_cell BK713.out 1).trans rfl, (blk_cell BK714.out 0).trans rfl, (blk_cell BK714.out 1).trans rfl, (blk_cell BK714.out 2).trans rfl, (blk_cell BK714.out 3).trans rfl, (blk_cell BK714.out 4).trans rfl, (blk_cell BK714.out 5).trans rfl⟩ (fun hHeld => ?_); refine with_tabW laws_FnExactSideValues.tab5 laws_FnExactSideValues.bits5 (fun HT_ HW_ => ?_)
    generalize w28.drew = w29 at BK712 BK713 BK714 HB hHeld ⊢
    refine take_ (i := 0) (N := some 21) (v := ?_) (a' := ?_) #[true, false, false, false, false, false, false, false, false, false, false, false, false, false] rfl rfl (take_ofW HT_.out HW_.out (by kernel_rfl)) (fun _ _ _ h => h) (Or.inl ⟨by rfl, ?_⟩) hHeld ?_ ?_
    rotate_left
    · rintro w' ⟨s0, s1, s2, s3, s4, s5, s6, s7, s8, s9, s10, s11, s12, s13, s14, s15⟩
      go_simp
      with_reducible rfl
    rotate_left
    · simp only [Act.put, List.setIfInBounds_toArray, List.set_cons_zero, List.set_cons_succ, i64_w, i32_w]
      rfl
    refine take_ (i := 2) (N := some 23) (v := ?_) (a' := ?_) #[true, false, true, false, false, false, false, false, false, false, false, false, false, false] rfl rfl (take_ofW HT_.out HW_.out (by kernel_rfl)) (fun _ _ _ h => h) (Or.inl ⟨by rfl, ?_⟩) hHeld ?_ ?_
    rotate_left
    · rintro w' ⟨s0, s1, s2, s3, s4, s5, s6, s7, s8, s9, s10, s11, s12, s13, s14, s15⟩
      go_simp
      with_reducible rfl
    rotate_left
    · simp only [Act.put, List.setIfInBounds_toArray, List.set_cons_zero, List.set_cons_succ, i64_w, i32_w]
      rfl
    refine take_ (i := 4) (N := some 25) (v := ?_) (a' := ?_) #[true, false, true, false, true, false, false, false, false, false, false, false, false, false] rfl rfl (take_ofW HT_.out HW_.out (by kernel_rfl)) (fun _ _ _ h => h) (Or.inl ⟨by rfl, ?_⟩) hHeld ?_ ?_
    rotate_left
    · rintro w' ⟨s0, s1, s2, s3, s4, s5, s6, s7, s8, s9, s10, s11, s12, s13, s14, s15⟩
      go_simp
      with_reducible rfl
    rotate_left
    · simp only [Act.put, List.setIfInBounds_toArray, List.set_cons_zero, List.set_cons_succ, i64_w, i32_w]
      rfl
    refine one_ (i := 1) (N := some 22) #[true, true, true, false, true, false, false, false, false, false, false, false, false, false] rfl rfl (one_of HT_.out (by kernel_rfl)) (by decide) (fun K hK => ?_)
    refine goes_ Try.func48 (by kernel_rfl) rfl #[.agg #[.int .i64 a0_0, .int .i64 a0_1, .int .i64 a0_2, .int .i64 a0_3, .int .i64 a0_4, .int .i64 a0_5, .int .i64 a0_6, .slice A0_7 l0_7.length c0_7]] (by rfl) rfl rfl (by (try simp only [List.map_toArray, List.map_cons, List.map_nil]); first | done | rfl | (simp only [List.length_drop, List.length_take]; rfl)) ?_
    with_reducible refine (laws_toConfig.calls k a0_0 a0_1 a0_2 a0_3 a0_4 a0_5 a0_6 _ _ l0_7 t716 t717 t718 t719 t720 t721 t722 t723 _ ?side1 ?side2 A13.out).mono ?_
    (case side1 => repeat (first | exact (Kd.C_below HR0_7.out HB.out) | (with_reducible refine Kd.C_alloc ?_ _) | (with_reducible refine Kd.C_drewN ?_ _) | (with_reducible refine Kd.C_drew ?_)))
    (case side2 => exact HC0_7.out)
    rintro e w30 ⟨v724, rfl, ho0, hb⟩
    refine ⟨_, rfl, ?_⟩
    have n0_ := Aside0.mk (Kd.R_lower ho0 (below_size (by repeat (first | (with_reducible first | exact HB.out | apply below_alloc | apply pw_below_drewN | apply below_drew1 | refine below_set ?_ GE712.out | refine below_set ?_ GE713.out | refine below_set ?_ GE714.out) | exact HB.out))))
    have n1_ := Aside0.mk (blk_below (g := gb712) (o := .cells #[.int .i64 a0_0, .int .i64 a0_1, .int .i64 a0_2, .int .i64 a0_3, .int .i64 a0_4, .int .i64 a0_5, .int .i64 a0_6, .slice A0_7 l0_7.length c0_7] 65 (0, 0)) (by (with_reducible repeat (first | refine blk_drewN ?_ _ | refine blk_drew ?_ | refine blk_alloc ?_ _)); exact BK712.out) hb)
    have n2_ := Aside0.mk (blk_below (g := gb713) (o := .cells #[.int .i64 a1_0, .int .i64 a1_1] 66 (0, 0)) (by (with_reducible repeat (first | refine blk_drewN ?_ _ | refine blk_drew ?_ | refine blk_alloc ?_ _)); exact BK713.out) hb)
    have n3_ := Aside0.mk (blk_below (g := gb714) (o := .cells #[.int .i64 a2_0, .int .i64 a2_1, .int .i64 a2_2, .int .i64 a2_3, .int .i64 a2_4, .int .i64 a2_5] 69 (0, 0)) (by (with_reducible repeat (first | refine blk_drewN ?_ _ | refine blk_drew ?_ | refine blk_alloc ?_ _)); exact BK714.out) hb)
    have n4_ := Aside0.mk (below_step (by repeat (first | (with_reducible first | exact HB.out | apply below_alloc | apply pw_below_drewN | apply below_drew1 | refine below_set ?_ GE712.out | refine below_set ?_ GE713.out | refine below_set ?_ GE714.out) | exact HB.out)) hb)
    clear BK712
    clear BK713
    clear BK714
    clear HB
    have HO725 := n0_
    have BK712 := n1_
    have BK713 := n2_
    have BK714 := n3_
    have HB := n4_
    clear n0_ n1_ n2_ n3_ n4_
    (try clear hb)
    (try clear hb2)
    (try clear hk)
    (try clear hi)
    (try clear ho0)
    refine hK.out _ _ ⟨(blk_cell BK712.out 0).trans rfl, (blk_cell BK712.out 1).trans rfl, (blk_cell BK712.out 2).trans rfl, (blk_cell BK712.out 3).trans rfl, (blk_cell BK712.out 4).trans rfl, (blk_cell BK712.out 5).trans rfl, (blk_cell BK712.out 6).trans rfl, (blk_cell BK712.out 7).trans rfl, (blk_cell BK713.out 0).trans rfl, (blk_cell BK713.out 1).trans rfl, (blk_cell BK714.out 0).trans rfl, (blk_cell BK714.out 1).trans rfl, (blk_cell BK714.out 2).trans rfl, (blk_cell BK714.out 3).trans rfl, (blk_cell BK714.out 4).trans rfl, (blk_cell BK714.out 5).trans rfl⟩ (fun hHeld => ?_)
    clear hK K
    refine norm_ (a' := ?_) ?_ ?_
    rotate_left
    · show Act.put _ (some 22) _ = _
      simp only [Act.put, List.setIfInBounds_toArray, List.set_cons_zero, List.set_cons_succ, i64_w, i32_w]
      rfl
    refine one_ (i := 3) (N := some 24) #[true, true, true, true, true, false, false, false, false, false, false, false, false, false] rfl rfl (one_of HT_.out (by kernel_rfl)) (by decide) (fun K hK => ?_)
    refine goes_ Try.func49 (by kernel_rfl) rfl #[.agg #[.int .i64 a1_0, .int .i64 a1_1]] (by rfl) rfl rfl (by (try simp only [List.map_toArray, List.map_cons, List.map_nil]); first | done | rfl | (simp only [List.length_drop, List.length_take]; rfl)) ?_
    with_reducible refine (laws_toBound.calls a1_0 a1_1 t726 t727 _ A14.out).mono ?_
    rintro e w31 ⟨rfl, hb⟩
    refine ⟨_, rfl, ?_⟩
    have n0_ := Aside0.mk (Kd.R_below (by (with_reducible repeat (first | apply Kd.R_alloc | apply Kd.R_drewN | apply Kd.R_drew)); exact HO725.out) hb)
    have n1_ := Aside0.mk (blk_below (g := gb712) (o := .cells #[.int .i64 a0_0, .int .i64 a0_1, .int .i64 a0_2, .int .i64 a0_3, .int .i64 a0_4, .int .i64 a0_5, .int .i64 a0_6, .slice A0_7 l0_7.length c0_7] 65 (0, 0)) (by (with_reducible repeat (first | refine blk_drewN ?_ _ | refine blk_drew ?_ | refine blk_alloc ?_ _)); exact BK712.out) hb)
    have n2_ := Aside0.mk (blk_below (g := gb713) (o := .cells #[.int .i64 a1_0, .int .i64 a1_1] 66 (0, 0)) (by (with_reducible repeat (first | refine blk_drewN ?_ _ | refine blk_drew ?_ | refine blk_alloc ?_ _)); exact BK713.out) hb)
    have n3_ := Aside0.mk (blk_below (g := gb714) (o := .cells #[.int .i64 a2_0, .int .i64 a2_1, .int .i64 a2_2, .int .i64 a2_3, .int .i64 a2_4, .int .i64 a2_5] 69 (0, 0)) (by (with_reducible repeat (first | refine blk_drewN ?_ _ | refine blk_drew ?_ | refine blk_alloc ?_ _)); exact BK714.out) hb)
    have n4_ := Aside0.mk (below_step (by repeat (first | (with_reducible first | exact HB.out | apply below_alloc | apply pw_below_drewN | apply below_drew1 | refine below_set ?_ GE712.out | refine below_set ?_ GE713.out | refine below_set ?_ GE714.out) | exact HB.out)) hb)
    clear HO725
    clear BK712
    clear BK713
    clear BK714
    clear HB
    have HO725 := n0_
    have BK712 := n1_
    have BK713 := n2_
    have BK714 := n3_
    have HB := n4_
    clear n0_ n1_ n2_ n3_ n4_
    (try clear hb)
    (try clear hb2)
    (try clear hk)
    (try clear hi)
    refine hK.out _ _ ⟨(blk_cell BK712.out 0).trans rfl, (blk_cell BK712.out 1).trans rfl, (blk_cell BK712.out 2).trans rfl, (blk_cell BK712.out 3).trans rfl, (blk_cell BK712.out 4).trans rfl, (blk_cell BK712.out 5).trans rfl, (blk_cell BK712.out 6).trans rfl, (blk_cell BK712.out 7).trans rfl, (blk_cell BK713.out 0).trans rfl, (blk_cell BK713.out 1).trans rfl, (blk_cell BK714.out 0).trans rfl, (blk_cell BK714.out 1).trans rfl, (blk_cell BK714.out 2).trans rfl, (blk_cell BK714.out 3).trans rfl, (blk_cell BK714.out 4).trans rfl, (blk_cell BK714.out 5).trans rfl⟩ (fun hHeld => ?_)
    clear hK K
    refine norm_ (a' := ?_) ?_ ?_
    rotate_left
    · show Act.put _ (some 24) _ = _
      simp only [Act.put, List.setIfInBounds_toArray, List.set_cons_zero, List.set_cons_succ, i64_w, i32_w]
      rfl
    refine one_ (i := 5) (N := some 26) #[true, true, true, true, true, true, false, false, false, false, false, false, false, false] rfl rfl (one_of HT_.out (by kernel_rfl)) (by decide) (fun K hK => ?_)
    refine goes_ Try.func50 (by kernel_rfl) rfl #[.agg #[.int .i64 a2_0, .int .i64 a2_1, .int .i64 a2_2, .int .i64 a2_3, .int .i64 a2_4, .int .i64 a2_5]] (by rfl) rfl rfl (by (try simp only [List.map_toArray, List.map_cons, List.map_nil]); first | done | rfl | (simp only [List.length_drop, List.length_take]; rfl)) ?_
    with_reducible refine (laws_toCand.calls a2_0 a2_1 a2_2 a2_3 a2_4 a2_5 t728 t729 t730 t731 t732 t733 _ A15.out).mono ?_
    rintro e w32 ⟨rfl, hb⟩
    refine ⟨_, rfl, ?_⟩
    have n0_ := Aside0.mk (Kd.R_below (by (with_reducible repeat (first | apply Kd.R_alloc | apply Kd.R_drewN | apply Kd.R_drew)); exact HO725.out) hb)
    have n1_ := Aside0.mk (blk_below (g := gb712) (o := .cells #[.int .i64 a0_0, .int .i64 a0_1, .int .i64 a0_2, .int .i64 a0_3, .int .i64 a0_4, .int .i64 a0_5, .int .i64 a0_6, .slice A0_7 l0_7.length c0_7] 65 (0, 0)) (by (with_reducible repeat (first | refine blk_drewN ?_ _ | refine blk_drew ?_ | refine blk_alloc ?_ _)); exact BK712.out) hb)
    have n2_ := Aside0.mk (blk_below (g := gb713) (o := .cells #[.int .i64 a1_0, .int .i64 a1_1] 66 (0, 0)) (by (with_reducible repeat (first | refine blk_drewN ?_ _ | refine blk_drew ?_ | refine blk_alloc ?_ _)); exact BK713.out) hb)
    have n3_ := Aside0.mk (blk_below (g := gb714) (o := .cells #[.int .i64 a2_0, .int .i64 a2_1, .int .i64 a2_2, .int .i64 a2_3, .int .i64 a2_4, .int .i64 a2_5] 69 (0, 0)) (by (with_reducible repeat (first | refine blk_drewN ?_ _ | refine blk_drew ?_ | refine blk_alloc ?_ _)); exact BK714.out) hb)
    have n4_ := Aside0.mk (below_step (by repeat (first | (with_reducible first | exact HB.out | apply below_alloc | apply pw_below_drewN | apply below_drew1 | refine below_set ?_ GE712.out | refine below_set ?_ GE713.out | refine below_set ?_ GE714.out) | exact HB.out)) hb)
    clear HO725
    clear BK712
    clear BK713
    clear BK714
    clear HB
    have HO725 := n0_
    have BK712 := n1_
    have BK713 := n2_
    have BK714 := n3_
    have HB := n4_
    clear n0_ n1_ n2_ n3_ n4_
    (try clear hb)
    (try clear hb2)
    (try clear hk)
    (try clear hi)
    obtain ⟨Ao33, co33, eo33⟩ := Kd.R_slice HO725.out
    (first | subst eo33 | (injection eo33 with f1_ f2_ f3_; have f4_ := f1_.symm; have f5_ := f3_.symm; clear f1_ f2_ f3_; subst f4_; subst f5_))
    refine hK.out _ _ ⟨(blk_cell BK712.out 0).trans rfl, (blk_cell BK712.out 1).trans rfl, (blk_cell BK712.out 2).trans rfl, (blk_cell BK712.out 3).trans rfl, (blk_cell BK712.out 4).trans rfl, (blk_cell BK712.out 5).trans rfl, (blk_cell BK712.out 6).trans rfl, (blk_cell BK712.out 7).trans rfl, (blk_cell BK713.out 0).trans rfl, (blk_cell BK713.out 1).trans rfl, (blk_cell BK714.out 0).trans rfl, (blk_cell BK714.out 1).trans rfl, (blk_cell BK714.out 2).trans rfl, (blk_cell BK714.out 3).trans rfl, (blk_cell BK714.out 4).trans rfl, (blk_cell BK714.out 5).trans rfl⟩ (fun hHeld => ?_)
    clear hK K
    refine norm_ (a' := ?_) ?_ ?_
    rotate_left
    · show Act.put _ (some 26) _ = _
      simp only [Act.put, List.setIfInBounds_toArray, List.set_cons_zero, List.set_cons_succ, i64_w, i32_w]
      rfl
    refine one_ (i := 6) (N := some 27) #[true, true, true, true, true, true, true, false, false, false, false, false, false, false] rfl rfl (one_of HT_.out (by kernel_rfl)) (by decide) (fun K hK => ?_)
    refine goes_ Try.func47 (by kernel_rfl) rfl #[.agg #[.int .i64 t716, .int .i64 t717, .int .i64 t718, .int .i64 t719, .int .i64 t720, .int .i64 t721, .int .i64 t722, .slice Ao33 t723.length co33], .agg #[.int .i64 t726, .int .i64 t727], .agg #[.int .i64 t728, .int .i64 t729, .int .i64 t730, .int .i64 t731, .int .i64 t732, .int .i64 t733]] (by rfl) rfl rfl (by (try simp only [List.map_toArray, List.map_cons, List.map_nil]); first | done | rfl | (simp only [List.length_drop, List.length_take]; rfl)) ?_
    with_reducible refine (spec_SideValues.calls k t716 t717 t718 t719 t720 t721 t722 _ _ t723 t726 t727 t728 t729 t730 t731 t732 t733 t734 t735 t736 _ ?side1 ?side2 A16.out).mono ?_
    (case side1 => repeat (first | exact (Kd.R_reads' HO725.out).2.2 | (with_reducible refine Kd.C_alloc ?_ _) | (with_reducible refine Kd.C_drewN ?_ _) | (with_reducible refine Kd.C_drew ?_)))
    (case side2 => exact (Kd.R_reads' HO725.out).2.1)
    rintro e w34 ⟨rfl, hb⟩
    refine ⟨_, rfl, ?_⟩
    have n0_ := Aside0.mk (Kd.R_below (by (with_reducible repeat (first | apply Kd.R_alloc | apply Kd.R_drewN | apply Kd.R_drew)); exact HO725.out) hb)
    have n1_ := Aside0.mk (blk_below (g := gb712) (o := .cells #[.int .i64 a0_0, .int .i64 a0_1, .int .i64 a0_2, .int .i64 a0_3, .int .i64 a0_4, .int .i64 a0_5, .int .i64 a0_6, .slice A0_7 l0_7.length c0_7] 65 (0, 0)) (by (with_reducible repeat (first | refine blk_drewN ?_ _ | refine blk_drew ?_ | refine blk_alloc ?_ _)); exact BK712.out) hb)
    have n2_ := Aside0.mk (blk_below (g := gb713) (o := .cells #[.int .i64 a1_0, .int .i64 a1_1] 66 (0, 0)) (by (with_reducible repeat (first | refine blk_drewN ?_ _ | refine blk_drew ?_ | refine blk_alloc ?_ _)); exact BK713.out) hb)
    have n3_ := Aside0.mk (blk_below (g := gb714) (o := .cells #[.int .i64 a2_0, .int .i64 a2_1, .int .i64 a2_2, .int .i64 a2_3, .int .i64 a2_4, .int .i64 a2_5] 69 (0, 0)) (by (with_reducible repeat (first | refine blk_drewN ?_ _ | refine blk_drew ?_ | refine blk_alloc ?_ _)); exact BK714.out) hb)
    have n4_ := Aside0.mk (below_step (by repeat (first | (with_reducible first | exact HB.out | apply below_alloc | apply pw_below_drewN | apply below_drew1 | refine below_set ?_ GE712.out | refine below_set ?_ GE713.out | refine below_set ?_ GE714.out) | exact HB.out)) hb)
    clear HO725
    clear BK712
    clear BK713
    clear BK714
    clear HB
    have HO725 := n0_
    have BK712 := n1_
    have BK713 := n2_
    have BK714 := n3_
    have HB := n4_
    clear n0_ n1_ n2_ n3_ n4_
    (try clear hb)
    (try clear hb2)
    (try clear hk)
    (try clear hi)
    refine hK.out _ _ ⟨(blk_cell BK712.out 0).trans rfl, (blk_cell BK712.out 1).trans rfl, (blk_cell BK712.out 2).trans rfl, (blk_cell BK712.out 3).trans rfl, (blk_cell BK712.out 4).trans rfl, (blk_cell BK712.out 5).trans rfl, (blk_cell BK712.out 6).trans rfl, (blk_cell BK712.out 7).trans rfl, (blk_cell BK713.out 0).trans rfl, (blk_cell BK713.out 1).trans rfl, (blk_cell BK714.out 0).trans rfl, (blk_cell BK714.out 1).trans rfl, (blk_cell BK714.out 2).trans rfl, (blk_cell BK714.out 3).trans rfl, (blk_cell BK714.out 4).trans rfl, (blk_cell BK714.out 5).trans rfl⟩ (fun hHeld => ?_)
    clear hK K
    refine norm_ (a' := ?_) ?_ ?_
    rotate_left
    · show Act.put _ (some 27) _ = _
      simp only [Act.put, List.setIfInBounds_toArray, List.set_cons_zero, List.set_cons_succ, i64_w, i32_w]
      rfl
    refine pure_ (i := 7) (N := some 20) (v := ?_) (a' := ?_) #[true, true, true, true, true, true, true, true, false, false, false, false, false, false] rfl rfl (any_of HT_.out (by kernel_rfl)) (fun _ _ _ h => h) (Or.inl ⟨by rfl, ?_⟩) ?_ ?_
    rotate_left
    · intro w'
      go_simp
      with_reducible rfl
    rotate_left
    · simp only [Act.put, List.setIfInBounds_toArray, List.set_cons_zero, List.set_cons_succ, i64_w, i32_w]
      rfl
    refine pure_ (i := 8) (N := some 28) (v := ?_) (a' := ?_) #[true, true, true, true, true, true, true, true, true, false, false, false, false, false] rfl rfl (any_of HT_.out (by kernel_rfl)) (fun _ _ _ h => h) (Or.inl ⟨by rfl, ?_⟩) ?_ ?_
    rotate_left
    · intro w'
      go_simp
      with_reducible rfl
    rotate_left
    · simp only [Act.put, List.setIfInBounds_toArray, List.set_cons_zero, List.set_cons_succ, i64_w, i32_w]
      rfl
    refine pure_ (i := 9) (N := some 29) (v := ?_) (a' := ?_) #[true, true, true, true, true, true, true, true, true, true, false, false, false, false] rfl rfl (any_of HT_.out (by kernel_rfl)) (fun _ _ _ h => h) (Or.inl ⟨by rfl, ?_⟩) ?_ ?_
    rotate_left
    · intro w'
      go_simp
      with_reducible rfl
    rotate_left
    · simp only [Act.put, List.setIfInBounds_toArray, List.set_cons_zero, List.set_cons_succ, i64_w, i32_w]
      rfl
    refine pure_ (i := 10) (N := some 30) (v := ?_) (a' := ?_) #[true, true, true, true, true, true, true, true, true, true, true, false, false, false] rfl rfl (any_of HT_.out (by kernel_rfl)) (fun _ _ _ h => h) (Or.inl ⟨by rfl, ?_⟩) ?_ ?_
    rotate_left
    · intro w'
      go_simp
      with_reducible rfl
    rotate_left
    · simp only [Act.put, List.setIfInBounds_toArray, List.set_cons_zero, List.set_cons_succ, i64_w, i32_w]
      rfl
    refine pure_ (i := 11) (N := some 8) (v := ?_) (a' := ?_) #[true, true, true, true, true, true, true, true, true, true, true, true, false, false] rfl rfl (any_of HT_.out (by kernel_rfl)) (fun _ _ _ h => h) (Or.inl ⟨by rfl, ?_⟩) ?_ ?_
    rotate_left
    · intro w'
      go_simp
      with_reducible rfl
    rotate_left
    · simp only [Act.put, List.setIfInBounds_toArray, List.set_cons_zero, List.set_cons_succ, i64_w, i32_w]
      rfl
    refine pure_ (i := 12) (N := some 9) (v := ?_) (a' := ?_) #[true, true, true, true, true, true, true, true, true, true, true, true, true, false] rfl rfl (any_of HT_.out (by kernel_rfl)) (fun _ _ _ h => h) (Or.inl ⟨by rfl, ?_⟩) ?_ ?_
    rotate_left
    · intro w'
      go_simp
      with_reducible rfl
    rotate_left
    · simp only [Act.put, List.setIfInBounds_toArray, List.set_cons_zero, List.set_cons_succ, i64_w, i32_w]
      rfl
    refine pure_ (i := 13) (N := some 10) (v := ?_) (a' := ?_) #[true, true, true, true, true, true, true, true, true, true, true, true, true, true] rfl rfl (any_of HT_.out (by kernel_rfl)) (fun _ _ _ h => h) (Or.inl ⟨by rfl, ?_⟩) ?_ ?_
    rotate_left
    · intro w'
      go_simp
      with_reducible rfl
    rotate_left
    · simp only [Act.put, List.setIfInBounds_toArray, List.set_cons_zero, List.set_cons_succ, i64_w, i32_w]
      rfl
    refine done_ (done_of HT_.out (by kernel_rfl)) ?_
    have hcz35_0 : w34.cell? ⟨gb712, 0, none⟩ = some (.int .i64 a0_0) := (blk_cell BK712.out 0).trans rfl
    have hcz35_1 : w34.cell? ⟨gb712, 1, none⟩ = some (.int .i64 a0_1) := (blk_cell BK712.out 1).trans rfl
    have hcz35_2 : w34.cell? ⟨gb712, 2, none⟩ = some (.int .i64 a0_2) := (blk_cell BK712.out 2).trans rfl
    have hcz35_3 : w34.cell? ⟨gb712, 3, none⟩ = some (.int .i64 a0_3) := (blk_cell BK712.out 3).trans rfl
    have hcz35_4 : w34.cell? ⟨gb712, 4, none⟩ = some (.int .i64 a0_4) := (blk_cell BK712.out 4).trans rfl
    have hcz35_5 : w34.cell? ⟨gb712, 5, none⟩ = some (.int .i64 a0_5) := (blk_cell BK712.out 5).trans rfl
    have hcz35_6 : w34.cell? ⟨gb712, 6, none⟩ = some (.int .i64 a0_6) := (blk_cell BK712.out 6).trans rfl
    have hcz35_7 : w34.cell? ⟨gb712, 7, none⟩ = some (.slice A0_7 l0_7.length c0_7) := (blk_cell BK712.out 7).trans rfl
    have hfz35_0 := blk_frozen BK712.out 0
    have hfz35_1 := blk_frozen BK712.out 1
    have hfz35_2 := blk_frozen BK712.out 2
    have hfz35_3 := blk_frozen BK712.out 3
    have hfz35_4 := blk_frozen BK712.out 4
    have hfz35_5 := blk_frozen BK712.out 5
    have hfz35_6 := blk_frozen BK712.out 6
    have hfz35_7 := blk_frozen BK712.out 7
    try go_wp2_with (first | ((with_reducible refine gate_callee (f := 48) rfl ?_); refine goesL_ (some 32) rfl rfl Try.func48 (by kernel_rfl) rfl #[.agg #[.int .i64 a0_0, .int .i64 a0_1, .int .i64 a0_2, .int .i64 a0_3, .int .i64 a0_4, .int .i64 a0_5, .int .i64 a0_6, .slice A0_7 l0_7.length c0_7]] rfl (by (try simp only [List.map_toArray, List.map_cons, List.map_nil]); first | done | rfl | (simp only [List.length_drop, List.length_take]; rfl)) ?_; (with_reducible refine (laws_toConfig.calls k a0_0 a0_1 a0_2 a0_3 a0_4 a0_5 a0_6 _ _ l0_7 t737 t738 t739 t740 t741 t742 t743 t744 _ ?side1 ?side2 A17.out).mono ?_); (case side1 => repeat (first | exact (Kd.C_below HR0_7.out HB.out) | (with_reducible refine Kd.C_alloc ?_ _) | (with_reducible refine Kd.C_drewN ?_ _) | (with_reducible refine Kd.C_drew ?_))); (case side2 => exact HC0_7.out); rintro e w36 ⟨v745, rfl, ho0, hb⟩; refine ⟨_, rfl, ?_⟩; have n0_ := Aside0.mk (Kd.R_elder' (by (with_reducible repeat (first | apply Kd.R_alloc | apply Kd.R_drewN | apply Kd.R_drew)); exact HO725.out) (Kd.R_base ho0) hb); have n1_ := Aside0.mk (Kd.R_lower (Kd.R_new' ho0 (Kd.R_lt (by (with_reducible repeat (first | apply Kd.R_alloc | apply Kd.R_drewN | apply Kd.R_drew)); exact HO725.out))) (below_size (by repeat (first | (with_reducible first | exact HB.out | apply below_alloc | apply pw_below_drewN | apply below_drew1 | refine below_set ?_ GE712.out | refine below_set ?_ GE713.out | refine below_set ?_ GE714.out) | exact HB.out)))); have n2_ := Aside0.mk (blk_below (g := gb712) (o := .cells #[.int .i64 a0_0, .int .i64 a0_1, .int .i64 a0_2, .int .i64 a0_3, .int .i64 a0_4, .int .i64 a0_5, .int .i64 a0_6, .slice A0_7 l0_7.length c0_7] 65 (0, 0)) (by (with_reducible repeat (first | refine blk_drewN ?_ _ | refine blk_drew ?_ | refine blk_alloc ?_ _)); exact BK712.out) hb); have n3_ := Aside0.mk (blk_below (g := gb713) (o := .cells #[.int .i64 a1_0, .int .i64 a1_1] 66 (0, 0)) (by (with_reducible repeat (first | refine blk_drewN ?_ _ | refine blk_drew ?_ | refine blk_alloc ?_ _)); exact BK713.out) hb); have n4_ := Aside0.mk (blk_below (g := gb714) (o := .cells #[.int .i64 a2_0, .int .i64 a2_1, .int .i64 a2_2, .int .i64 a2_3, .int .i64 a2_4, .int .i64 a2_5] 69 (0, 0)) (by (with_reducible repeat (first | refine blk_drewN ?_ _ | refine blk_drew ?_ | refine blk_alloc ?_ _)); exact BK714.out) hb); have n5_ := Aside0.mk (below_step (by repeat (first | (with_reducible first | exact HB.out | apply below_alloc | apply pw_below_drewN | apply below_drew1 | refine below_set ?_ GE712.out | refine below_set ?_ GE713.out | refine below_set ?_ GE714.out) | exact HB.out)) hb); clear HO725; clear BK712; clear BK713; clear BK714; clear HB; have HO725 := n0_; have HO746 := n1_; have BK712 := n2_; have BK713 := n3_; have BK714 := n4_; have HB := n5_; clear n0_ n1_ n2_ n3_ n4_ n5_; (try clear hb); (try clear hb2); (try clear hk); (try clear hi); (try clear ho0)) | ((with_reducible refine gate_dst (N := 11) rfl ?_); refine box_event ?hg (N := 11) ?hd (cs := #[.int .i64 0, .int .i64 0, .int .i64 0, .int .i64 0, .int .i64 0, .int .i64 0, .int .i64 0, .slice none 0 0]) (t := 73) ?hr ?_; (case hd => rfl); (case hg => rfl); (case hr => first | (go_simp; done) | (go_simp; rfl)); intro gb747 hg w37 hbox hb; have n0_ := Aside0.mk (Kd.R_below (by (with_reducible repeat (first | apply Kd.R_alloc | apply Kd.R_drewN | apply Kd.R_drew)); exact HO725.out) hb); have n1_ := Aside0.mk (Kd.R_below (by (with_reducible repeat (first | apply Kd.R_alloc | apply Kd.R_drewN | apply Kd.R_drew)); exact HO746.out) hb); have n2_ := Aside0.mk (blk_below (g := gb712) (o := .cells #[.int .i64 a0_0, .int .i64 a0_1, .int .i64 a0_2, .int .i64 a0_3, .int .i64 a0_4, .int .i64 a0_5, .int .i64 a0_6, .slice A0_7 l0_7.length c0_7] 65 (0, 0)) (by (with_reducible repeat (first | refine blk_drewN ?_ _ | refine blk_drew ?_ | refine blk_alloc ?_ _)); exact BK712.out) hb); have n3_ := Aside0.mk (blk_below (g := gb713) (o := .cells #[.int .i64 a1_0, .int .i64 a1_1] 66 (0, 0)) (by (with_reducible repeat (first | refine blk_drewN ?_ _ | refine blk_drew ?_ | refine blk_alloc ?_ _)); exact BK713.out) hb); have n4_ := Aside0.mk (blk_below (g := gb714) (o := .cells #[.int .i64 a2_0, .int .i64 a2_1, .int .i64 a2_2, .int .i64 a2_3, .int .i64 a2_4, .int .i64 a2_5] 69 (0, 0)) (by (with_reducible repeat (first | refine blk_drewN ?_ _ | refine blk_drew ?_ | refine blk_alloc ?_ _)); exact BK714.out) hb); have n5_ := Aside0.mk (below_step (by repeat (first | (with_reducible first | exact HB.out | apply below_alloc | apply pw_below_drewN | apply below_drew1 | refine below_set ?_ GE712.out | refine below_set ?_ GE713.out | refine below_set ?_ GE714.out) | exact HB.out)) hb); have n6_ := Aside0.mk (hbox); have n7_ := Aside0.mk ((by rw [hg]; exact (below_size (by repeat (first | (with_reducible first | exact HB.out | apply below_alloc | apply pw_below_drewN | apply below_drew1 | refine below_set ?_ GE712.out | refine below_set ?_ GE713.out | refine below_set ?_ GE714.out) | exact HB.out))) : w.heap.size ≤ gb747)); have n8_ := Aside0.mk ((by rw [hg]; exact (below_size (by repeat (first | (with_reducible first | exact HB.out | apply below_alloc | apply pw_below_drewN | apply below_drew1 | refine below_set ?_ GE712.out | refine below_set ?_ GE713.out | refine below_set ?_ GE714.out) | exact HB.out))) : w.heap.size ≤ gb747)); have n9_ := Aside0.mk ((by rw [hg]; exact Nat.ne_of_lt (blk_lt (g := gb712) (o := .cells #[.int .i64 a0_0, .int .i64 a0_1, .int .i64 a0_2, .int .i64 a0_3, .int .i64 a0_4, .int .i64 a0_5, .int .i64 a0_6, .slice A0_7 l0_7.length c0_7] 65 (0, 0)) (by (with_reducible repeat (first | refine blk_drewN ?_ _ | refine blk_drew ?_ | refine blk_alloc ?_ _)); exact BK712.out)) : gb712 ≠ gb747)); have n10_ := Aside0.mk ((by rw [hg]; exact Nat.ne_of_gt (blk_lt (g := gb712) (o := .cells #[.int .i64 a0_0, .int .i64 a0_1, .int .i64 a0_2, .int .i64 a0_3, .int .i64 a0_4, .int .i64 a0_5, .int .i64 a0_6, .slice A0_7 l0_7.length c0_7] 65 (0, 0)) (by (with_reducible repeat (first | refine blk_drewN ?_ _ | refine blk_drew ?_ | refine blk_alloc ?_ _)); exact BK712.out)) : gb747 ≠ gb712)); have n11_ := Aside0.mk ((by rw [hg]; exact Nat.ne_of_lt (blk_lt (g := gb713) (o := .cells #[.int .i64 a1_0, .int .i64 a1_1] 66 (0, 0)) (by (with_reducible repeat (first | refine blk_drewN ?_ _ | refine blk_drew ?_ | refine blk_alloc ?_ _)); exact BK713.out)) : gb713 ≠ gb747)); have n12_ := Aside0.mk ((by rw [hg]; exact Nat.ne_of_gt (blk_lt (g := gb713) (o := .cells #[.int .i64 a1_0, .int .i64 a1_1] 66 (0, 0)) (by (with_reducible repeat (first | refine blk_drewN ?_ _ | refine blk_drew ?_ | refine blk_alloc ?_ _)); exact BK713.out)) : gb747 ≠ gb713)); have n13_ := Aside0.mk ((by rw [hg]; exact Nat.ne_of_lt (blk_lt (g := gb714) (o := .cells #[.int .i64 a2_0, .int .i64 a2_1, .int .i64 a2_2, .int .i64 a2_3, .int .i64 a2_4, .int .i64 a2_5] 69 (0, 0)) (by (with_reducible repeat (first | refine blk_drewN ?_ _ | refine blk_drew ?_ | refine blk_alloc ?_ _)); exact BK714.out)) : gb714 ≠ gb747)); have n14_ := Aside0.mk ((by rw [hg]; exact Nat.ne_of_gt (blk_lt (g := gb714) (o := .cells #[.int .i64 a2_0, .int .i64 a2_1, .int .i64 a2_2, .int .i64 a2_3, .int .i64 a2_4, .int .i64 a2_5] 69 (0, 0)) (by (with_reducible repeat (first | refine blk_drewN ?_ _ | refine blk_drew ?_ | refine blk_alloc ?_ _)); exact BK714.out)) : gb747 ≠ gb714)); clear HO725; clear HO746; clear BK712; clear BK713; clear BK714; clear HB; have HO725 := n0_; have HO746 := n1_; have BK712 := n2_; have BK713 := n3_; have BK714 := n4_; have HB := n5_; have BK747 := n6_; have GW747 := n7_; have GE747 := n8_; have NB712_747 := n9_; have NB747_712 := n10_; have NB713_747 := n11_; have NB747_713 := n12_; have NB714_747 := n13_; have NB747_714 := n14_; clear n0_ n1_ n2_ n3_ n4_ n5_ n6_ n7_ n8_ n9_ n10_ n11_ n12_ n13_ n14_; clear hb hbox hg; have hnb38 := NB747_712.out; have hnc38 := NB712_747.out; have hnb39 := NB747_713.out; have hnc39 := NB713_747.out; have hnb40 := NB747_714.out; have hnc40 := NB714_747.out; have hcz41_0 : w37.cell? ⟨gb747, 0, none⟩ = some (.int .i64 0) := (blk_cell BK747.out 0).trans rfl; have hcz41_1 : w37.cell? ⟨gb747, 1, none⟩ = some (.int .i64 0) := (blk_cell BK747.out 1).trans rfl; have hcz41_2 : w37.cell? ⟨gb747, 2, none⟩ = some (.int .i64 0) := (blk_cell BK747.out 2).trans rfl; have hcz41_3 : w37.cell? ⟨gb747, 3, none⟩ = some (.int .i64 0) := (blk_cell BK747.out 3).trans rfl; have hcz41_4 : w37.cell? ⟨gb747, 4, none⟩ = some (.int .i64 0) := (blk_cell BK747.out 4).trans rfl; have hcz41_5 : w37.cell? ⟨gb747, 5, none⟩ = some (.int .i64 0) := (blk_cell BK747.out 5).trans rfl; have hcz41_6 : w37.cell? ⟨gb747, 6, none⟩ = some (.int .i64 0) := (blk_cell BK747.out 6).trans rfl; have hcz41_7 : w37.cell? ⟨gb747, 7, none⟩ = some (.slice none 0 0) := (blk_cell BK747.out 7).trans rfl; have hfz41_0 := blk_frozen BK747.out 0; have hfz41_1 := blk_frozen BK747.out 1; have hfz41_2 := blk_frozen BK747.out 2; have hfz41_3 := blk_frozen BK747.out 3; have hfz41_4 := blk_frozen BK747.out 4; have hfz41_5 := blk_frozen BK747.out 5; have hfz41_6 := blk_frozen BK747.out 6; have hfz41_7 := blk_frozen BK747.out 7; obtain ⟨Ao42, co42, eo42⟩ := Kd.R_slice HO746.out; subst eo42))
    have n0_ : Aside0 (Kd.R (Kd.int .i64) 3 ((((((((w37.setCell ⟨gb747, 0, none⟩ (.int .i64 t737)).setCell ⟨gb747, 1, none⟩ (.int .i64 t738)).setCell ⟨gb747, 2, none⟩ (.int .i64 t739)).setCell ⟨gb747, 3, none⟩ (.int .i64 t740)).setCell ⟨gb747, 4, none⟩ (.int .i64 t741)).setCell ⟨gb747, 5, none⟩ (.int .i64 t742)).setCell ⟨gb747, 6, none⟩ (.int .i64 t743)).setCell ⟨gb747, 7, none⟩ (.slice Ao42 t744.length co42)) w.heap.size (fun k_ => some k_ ≠ (.slice Ao42 t744.length co42 : Value).ownBlock) (.slice Ao33 t723.length co33) t723) := ⟨by (with_reducible repeat (first | apply Kd.R_alloc | apply Kd.R_drewN | apply Kd.R_drew)); exact Kd.R_mono (Kd.R_far (p := ⟨gb747, 7, none⟩) (Kd.R_far (p := ⟨gb747, 6, none⟩) (Kd.R_far (p := ⟨gb747, 5, none⟩) (Kd.R_far (p := ⟨gb747, 4, none⟩) (Kd.R_far (p := ⟨gb747, 3, none⟩) (Kd.R_far (p := ⟨gb747, 2, none⟩) (Kd.R_far (p := ⟨gb747, 1, none⟩) (Kd.R_far (p := ⟨gb747, 0, none⟩) (Kd.R_types HO725.out BK747.out (by decide)) (fun _ hk => hk.2) (.int .i64 t737)) (fun _ hk => hk.2) (.int .i64 t738)) (fun _ hk => hk.2) (.int .i64 t739)) (fun _ hk => hk.2) (.int .i64 t740)) (fun _ hk => hk.2) (.int .i64 t741)) (fun _ hk => hk.2) (.int .i64 t742)) (fun _ hk => hk.2) (.int .i64 t743)) (fun _ hk => hk.2) (.slice Ao42 t744.length co42)) (fun _ hk => hk.1.2)⟩
    have n1_ : Aside0 (Kd.R (Kd.int .i64) 3 ((((((((w37.setCell ⟨gb747, 0, none⟩ (.int .i64 t737)).setCell ⟨gb747, 1, none⟩ (.int .i64 t738)).setCell ⟨gb747, 2, none⟩ (.int .i64 t739)).setCell ⟨gb747, 3, none⟩ (.int .i64 t740)).setCell ⟨gb747, 4, none⟩ (.int .i64 t741)).setCell ⟨gb747, 5, none⟩ (.int .i64 t742)).setCell ⟨gb747, 6, none⟩ (.int .i64 t743)).setCell ⟨gb747, 7, none⟩ (.slice Ao42 t744.length co42)) w.heap.size (fun k_ => some k_ ≠ (.slice Ao33 t723.length co33 : Value).ownBlock) (.slice Ao42 t744.length co42) t744) := ⟨by (with_reducible repeat (first | apply Kd.R_alloc | apply Kd.R_drewN | apply Kd.R_drew)); exact Kd.R_mono (Kd.R_far (p := ⟨gb747, 7, none⟩) (Kd.R_far (p := ⟨gb747, 6, none⟩) (Kd.R_far (p := ⟨gb747, 5, none⟩) (Kd.R_far (p := ⟨gb747, 4, none⟩) (Kd.R_far (p := ⟨gb747, 3, none⟩) (Kd.R_far (p := ⟨gb747, 2, none⟩) (Kd.R_far (p := ⟨gb747, 1, none⟩) (Kd.R_far (p := ⟨gb747, 0, none⟩) (Kd.R_types HO746.out BK747.out (by decide)) (fun _ hk => hk.2) (.int .i64 t737)) (fun _ hk => hk.2) (.int .i64 t738)) (fun _ hk => hk.2) (.int .i64 t739)) (fun _ hk => hk.2) (.int .i64 t740)) (fun _ hk => hk.2) (.int .i64 t741)) (fun _ hk => hk.2) (.int .i64 t742)) (fun _ hk => hk.2) (.int .i64 t743)) (fun _ hk => hk.2) (.slice Ao42 t744.length co42)) (fun _ hk => hk.1.2)⟩
    have n2_ : Aside0 (((((((((w37.setCell ⟨gb747, 0, none⟩ (.int .i64 t737)).setCell ⟨gb747, 1, none⟩ (.int .i64 t738)).setCell ⟨gb747, 2, none⟩ (.int .i64 t739)).setCell ⟨gb747, 3, none⟩ (.int .i64 t740)).setCell ⟨gb747, 4, none⟩ (.int .i64 t741)).setCell ⟨gb747, 5, none⟩ (.int .i64 t742)).setCell ⟨gb747, 6, none⟩ (.int .i64 t743)).setCell ⟨gb747, 7, none⟩ (.slice Ao42 t744.length co42)).heap[gb712]? = some (.cells #[.int .i64 a0_0, .int .i64 a0_1, .int .i64 a0_2, .int .i64 a0_3, .int .i64 a0_4, .int .i64 a0_5, .int .i64 a0_6, .slice A0_7 l0_7.length c0_7] 65 (0, 0))) := ⟨by (with_reducible repeat (first | refine blk_drewN ?_ _ | refine blk_drew ?_ | refine blk_alloc ?_ _)); refine blk_far ?_ NB712_747.out _; (with_reducible repeat (first | refine blk_drewN ?_ _ | refine blk_drew ?_ | refine blk_alloc ?_ _)); refine blk_far ?_ NB712_747.out _; (with_reducible repeat (first | refine blk_drewN ?_ _ | refine blk_drew ?_ | refine blk_alloc ?_ _)); refine blk_far ?_ NB712_747.out _; (with_reducible repeat (first | refine blk_drewN ?_ _ | refine blk_drew ?_ | refine blk_alloc ?_ _)); refine blk_far ?_ NB712_747.out _; (with_reducible repeat (first | refine blk_drewN ?_ _ | refine blk_drew ?_ | refine blk_alloc ?_ _)); refine blk_far ?_ NB712_747.out _; (with_reducible repeat (first | refine blk_drewN ?_ _ | refine blk_drew ?_ | refine blk_alloc ?_ _)); refine blk_far ?_ NB712_747.out _; (with_reducible repeat (first | refine blk_drewN ?_ _ | refine blk_drew ?_ | refine blk_alloc ?_ _)); refine blk_far ?_ NB712_747.out _; (with_reducible repeat (first | refine blk_drewN ?_ _ | refine blk_drew ?_ | refine blk_alloc ?_ _)); refine blk_far ?_ NB712_747.out _; (with_reducible repeat (first | refine blk_drewN ?_ _ | refine blk_drew ?_ | refine blk_alloc ?_ _)); exact BK712.out⟩
    have n3_ : Aside0 (((((((((w37.setCell ⟨gb747, 0, none⟩ (.int .i64 t737)).setCell ⟨gb747, 1, none⟩ (.int .i64 t738)).setCell ⟨gb747, 2, none⟩ (.int .i64 t739)).setCell ⟨gb747, 3, none⟩ (.int .i64 t740)).setCell ⟨gb747, 4, none⟩ (.int .i64 t741)).setCell ⟨gb747, 5, none⟩ (.int .i64 t742)).setCell ⟨gb747, 6, none⟩ (.int .i64 t743)).setCell ⟨gb747, 7, none⟩ (.slice Ao42 t744.length co42)).heap[gb713]? = some (.cells #[.int .i64 a1_0, .int .i64 a1_1] 66 (0, 0))) := ⟨by (with_reducible repeat (first | refine blk_drewN ?_ _ | refine blk_drew ?_ | refine blk_alloc ?_ _)); refine blk_far ?_ NB713_747.out _; (with_reducible repeat (first | refine blk_drewN ?_ _ | refine blk_drew ?_ | refine blk_alloc ?_ _)); refine blk_far ?_ NB713_747.out _; (with_reducible repeat (first | refine blk_drewN ?_ _ | refine blk_drew ?_ | refine blk_alloc ?_ _)); refine blk_far ?_ NB713_747.out _; (with_reducible repeat (first | refine blk_drewN ?_ _ | refine blk_drew ?_ | refine blk_alloc ?_ _)); refine blk_far ?_ NB713_747.out _; (with_reducible repeat (first | refine blk_drewN ?_ _ | refine blk_drew ?_ | refine blk_alloc ?_ _)); refine blk_far ?_ NB713_747.out _; (with_reducible repeat (first | refine blk_drewN ?_ _ | refine blk_drew ?_ | refine blk_alloc ?_ _)); refine blk_far ?_ NB713_747.out _; (with_reducible repeat (first | refine blk_drewN ?_ _ | refine blk_drew ?_ | refine blk_alloc ?_ _)); refine blk_far ?_ NB713_747.out _; (with_reducible repeat (first | refine blk_drewN ?_ _ | refine blk_drew ?_ | refine blk_alloc ?_ _)); refine blk_far ?_ NB713_747.out _; (with_reducible repeat (first | refine blk_drewN ?_ _ | refine blk_drew ?_ | refine blk_alloc ?_ _)); exact BK713.out⟩
    have n4_ : Aside0 (((((((((w37.setCell ⟨gb747, 0, none⟩ (.int .i64 t737)).setCell ⟨gb747, 1, none⟩ (.int .i64 t738)).setCell ⟨gb747, 2, none⟩ (.int .i64 t739)).setCell ⟨gb747, 3, none⟩ (.int .i64 t740)).setCell ⟨gb747, 4, none⟩ (.int .i64 t741)).setCell ⟨gb747, 5, none⟩ (.int .i64 t742)).setCell ⟨gb747, 6, none⟩ (.int .i64 t743)).setCell ⟨gb747, 7, none⟩ (.slice Ao42 t744.length co42)).heap[gb714]? = some (.cells #[.int .i64 a2_0, .int .i64 a2_1, .int .i64 a2_2, .int .i64 a2_3, .int .i64 a2_4, .int .i64 a2_5] 69 (0, 0))) := ⟨by (with_reducible repeat (first | refine blk_drewN ?_ _ | refine blk_drew ?_ | refine blk_alloc ?_ _)); refine blk_far ?_ NB714_747.out _; (with_reducible repeat (first | refine blk_drewN ?_ _ | refine blk_drew ?_ | refine blk_alloc ?_ _)); refine blk_far ?_ NB714_747.out _; (with_reducible repeat (first | refine blk_drewN ?_ _ | refine blk_drew ?_ | refine blk_alloc ?_ _)); refine blk_far ?_ NB714_747.out _; (with_reducible repeat (first | refine blk_drewN ?_ _ | refine blk_drew ?_ | refine blk_alloc ?_ _)); refine blk_far ?_ NB714_747.out _; (with_reducible repeat (first | refine blk_drewN ?_ _ | refine blk_drew ?_ | refine blk_alloc ?_ _)); refine blk_far ?_ NB714_747.out _; (with_reducible repeat (first | refine blk_drewN ?_ _ | refine blk_drew ?_ | refine blk_alloc ?_ _)); refine blk_far ?_ NB714_747.out _; (with_reducible repeat (first | refine blk_drewN ?_ _ | refine blk_drew ?_ | refine blk_alloc ?_ _)); refine blk_far ?_ NB714_747.out _; (with_reducible repeat (first | refine blk_drewN ?_ _ | refine blk_drew ?_ | refine blk_alloc ?_ _)); refine blk_far ?_ NB714_747.out _; (with_reducible repeat (first | refine blk_drewN ?_ _ | refine blk_drew ?_ | refine blk_alloc ?_ _)); exact BK714.out⟩
    have n5_ : Aside0 (((((((((w37.setCell ⟨gb747, 0, none⟩ (.int .i64 t737)).setCell ⟨gb747, 1, none⟩ (.int .i64 t738)).setCell ⟨gb747, 2, none⟩ (.int .i64 t739)).setCell ⟨gb747, 3, none⟩ (.int .i64 t740)).setCell ⟨gb747, 4, none⟩ (.int .i64 t741)).setCell ⟨gb747, 5, none⟩ (.int .i64 t742)).setCell ⟨gb747, 6, none⟩ (.int .i64 t743)).setCell ⟨gb747, 7, none⟩ (.slice Ao42 t744.length co42)).heap[gb747]? = some (.cells #[.int .i64 t737, .int .i64 t738, .int .i64 t739, .int .i64 t740, .int .i64 t741, .int .i64 t742, .int .i64 t743, .slice Ao42 t744.length co42] 73 (0, 0))) := ⟨by (with_reducible repeat (first | refine blk_drewN ?_ _ | refine blk_drew ?_ | refine blk_alloc ?_ _)); refine blk_put (cs := #[.int .i64 t737, .int .i64 t738, .int .i64 t739, .int .i64 t740, .int .i64 t741, .int .i64 t742, .int .i64 t743, .slice none 0 0]) ?_ 7 _ rfl; (with_reducible repeat (first | refine blk_drewN ?_ _ | refine blk_drew ?_ | refine blk_alloc ?_ _)); refine blk_put (cs := #[.int .i64 t737, .int .i64 t738, .int .i64 t739, .int .i64 t740, .int .i64 t741, .int .i64 t742, .int .i64 0, .slice none 0 0]) ?_ 6 _ rfl; (with_reducible repeat (first | refine blk_drewN ?_ _ | refine blk_drew ?_ | refine blk_alloc ?_ _)); refine blk_put (cs := #[.int .i64 t737, .int .i64 t738, .int .i64 t739, .int .i64 t740, .int .i64 t741, .int .i64 0, .int .i64 0, .slice none 0 0]) ?_ 5 _ rfl; (with_reducible repeat (first | refine blk_drewN ?_ _ | refine blk_drew ?_ | refine blk_alloc ?_ _)); refine blk_put (cs := #[.int .i64 t737, .int .i64 t738, .int .i64 t739, .int .i64 t740, .int .i64 0, .int .i64 0, .int .i64 0, .slice none 0 0]) ?_ 4 _ rfl; (with_reducible repeat (first | refine blk_drewN ?_ _ | refine blk_drew ?_ | refine blk_alloc ?_ _)); refine blk_put (cs := #[.int .i64 t737, .int .i64 t738, .int .i64 t739, .int .i64 0, .int .i64 0, .int .i64 0, .int .i64 0, .slice none 0 0]) ?_ 3 _ rfl; (with_reducible repeat (first | refine blk_drewN ?_ _ | refine blk_drew ?_ | refine blk_alloc ?_ _)); refine blk_put (cs := #[.int .i64 t737, .int .i64 t738, .int .i64 0, .int .i64 0, .int .i64 0, .int .i64 0, .int .i64 0, .slice none 0 0]) ?_ 2 _ rfl; (with_reducible repeat (first | refine blk_drewN ?_ _ | refine blk_drew ?_ | refine blk_alloc ?_ _)); refine blk_put (cs := #[.int .i64 t737, .int .i64 0, .int .i64 0, .int .i64 0, .int .i64 0, .int .i64 0, .int .i64 0, .slice none 0 0]) ?_ 1 _ rfl; (with_reducible repeat (first | refine blk_drewN ?_ _ | refine blk_drew ?_ | refine blk_alloc ?_ _)); refine blk_put (cs := #[.int .i64 0, .int .i64 0, .int .i64 0, .int .i64 0, .int .i64 0, .int .i64 0, .int .i64 0, .slice none 0 0]) ?_ 0 _ rfl; (with_reducible repeat (first | refine blk_drewN ?_ _ | refine blk_drew ?_ | refine blk_alloc ?_ _)); exact BK747.out⟩
    have n6_ : Aside0 (Below w.heap.size w ((((((((w37.setCell ⟨gb747, 0, none⟩ (.int .i64 t737)).setCell ⟨gb747, 1, none⟩ (.int .i64 t738)).setCell ⟨gb747, 2, none⟩ (.int .i64 t739)).setCell ⟨gb747, 3, none⟩ (.int .i64 t740)).setCell ⟨gb747, 4, none⟩ (.int .i64 t741)).setCell ⟨gb747, 5, none⟩ (.int .i64 t742)).setCell ⟨gb747, 6, none⟩ (.int .i64 t743)).setCell ⟨gb747, 7, none⟩ (.slice Ao42 t744.length co42))) := ⟨by repeat (first | (with_reducible first | exact HB.out | apply below_alloc | apply pw_below_drewN | apply below_drew1 | refine below_set ?_ GE712.out | refine below_set ?_ GE713.out | refine below_set ?_ GE714.out | refine below_set ?_ GE747.out) | exact HB.out)⟩
    (try clear HO725)
    (try clear HO746)
    (try clear BK712)
    (try clear BK713)
    (try clear BK714)
    (try clear BK747)
    (try clear HB)
    generalize ((((((((w37.setCell ⟨gb747, 0, none⟩ (.int .i64 t737)).setCell ⟨gb747, 1, none⟩ (.int .i64 t738)).setCell ⟨gb747, 2, none⟩ (.int .i64 t739)).setCell ⟨gb747, 3, none⟩ (.int .i64 t740)).setCell ⟨gb747, 4, none⟩ (.int .i64 t741)).setCell ⟨gb747, 5, none⟩ (.int .i64 t742)).setCell ⟨gb747, 6, none⟩ (.int .i64 t743)).setCell ⟨gb747, 7, none⟩ (.slice Ao42 t744.length co42)) = w43 at n0_ n1_ n2_ n3_ n4_ n5_ n6_ ⊢
    have HO725 := n0_
    have HO746 := n1_
    have BK712 := n2_
    have BK713 := n3_
    have BK714 := n4_
    have BK747 := n5_
    have HB := n6_
    clear n0_ n1_ n2_ n3_ n4_ n5_ n6_
    have n0_ := Aside0.mk (Kd.R_drew HO725.out)
    have n1_ := Aside0.mk (Kd.R_drew HO746.out)
    have n2_ := Aside0.mk (blk_drew BK712.out)
    have n3_ := Aside0.mk (blk_drew BK713.out)
    have n4_ := Aside0.mk (blk_drew BK714.out)
    have n5_ := Aside0.mk (blk_drew BK747.out)
    have n6_ := Aside0.mk (below_drew1 HB.out)
    clear HO725
    clear HO746
    clear BK712
    clear BK713
    clear BK714
    clear BK747
    clear HB
    have HO725 := n0_
    have HO746 := n1_
    have BK712 := n2_
    have BK713 := n3_
    have BK714 := n4_
    have BK747 := n5_
    have HB := n6_
    clear n0_ n1_ n2_ n3_ n4_ n5_ n6_
    refine start_ (n := 13) (S := fun w' => w'.cell? ⟨gb747, 0, none⟩ = some (.int .i64 t737) ∧ w'.cell? ⟨gb747, 1, none⟩ = some (.int .i64 t738) ∧ w'.cell? ⟨gb747, 2, none⟩ = some (.int .i64 t739) ∧ w'.cell? ⟨gb747, 3, none⟩ = some (.int .i64 t740) ∧ w'.cell? ⟨gb747, 4, none⟩ = some (.int .i64 t741) ∧ w'.cell? ⟨gb747, 5, none⟩ = some (.int .i64 t742) ∧ w'.cell? ⟨gb747, 6, none⟩ = some (.int .i64 t743) ∧ w'.cell? ⟨gb747, 7, none⟩ = some (.slice Ao42 t744.length co42) ∧ w'.cell? ⟨gb713, 0, none⟩ = some (.int .i64 a1_0) ∧ w'.cell? ⟨gb713, 1, none⟩ = some (.int .i64 a1_1) ∧ w'.cell? ⟨gb714, 0, none⟩ = some (.int .i64 a2_0) ∧ w'.cell? ⟨gb714, 1, none⟩ = some (.int .i64 a2_1) ∧ w'.cell? ⟨gb714, 2, none⟩ = some (.int .i64 a2_2) ∧ w'.cell? ⟨gb714, 3, none⟩ = some (.int .i64 a2_3) ∧ w'.cell? ⟨gb714, 4, none⟩ = some (.int .i64 a2_4) ∧ w'.cell? ⟨gb714, 5, none⟩ = some (.int .i64 a2_5)) (ds := []) #[false, false, false, false, false, false, false, false, false, false, false, false, false] (by kernel_rfl) rfl rfl ⟨(blk_cell BK747.out 0).trans rfl, (blk_cell BK747.out 1).trans rfl, (blk_cell BK747.out 2).trans rfl, (blk_cell BK747.out 3).trans rfl, (blk_cell BK747.out 4).trans rfl, (blk_cell BK747.out 5).trans rfl, (blk_cell BK747.out 6).trans rfl, (blk_cell BK747.out 7).trans rfl, (blk_cell BK713.out 0).trans rfl, (blk_cell BK713.out 1).trans rfl, (blk_cell BK714.out 0).trans rfl, (blk_cell BK714.out 1).trans rfl, (blk_cell BK714.out 2).trans rfl, (blk_cell BK714.out 3).trans rfl, (blk_cell BK714.out 4).trans rfl, (blk_cell BK714.out 5).trans rfl⟩ (fun hHeld => ?_); refine with_tabW laws_FnExactSideValues.tab7 laws_FnExactSideValues.bits7 (fun HT_ HW_ => ?_)
    generalize w43.drew = w44 at HO725 HO746 BK712 BK713 BK714 BK747 HB hHeld ⊢
    refine take_ (i := 0) (N := some 34) (v := ?_) (a' := ?_) #[true, false, false, false, false, false, false, false, false, false, false, false, false] rfl rfl (take_ofW HT_.out HW_.out (by kernel_rfl)) (fun _ _ _ h => h) (Or.inl ⟨by rfl, ?_⟩) hHeld ?_ ?_
    rotate_left
    · rintro w' ⟨s0, s1, s2, s3, s4, s5, s6, s7, s8, s9, s10, s11, s12, s13, s14, s15⟩
      go_simp
      with_reducible rfl
    rotate_left
    · simp only [Act.put, List.setIfInBounds_toArray, List.set_cons_zero, List.set_cons_succ, i64_w, i32_w]
      rfl
    refine take_ (i := 1) (N := some 35) (v := ?_) (a' := ?_) #[true, true, false, false, false, false, false, false, false, false, false, false, false] rfl rfl (take_ofW HT_.out HW_.out (by kernel_rfl)) (fun _ _ _ h => h) (Or.inl ⟨by rfl, ?_⟩) hHeld ?_ ?_
    rotate_left
    · rintro w' ⟨s0, s1, s2, s3, s4, s5, s6, s7, s8, s9, s10, s11, s12, s13, s14, s15⟩
      go_simp
      with_reducible rfl
    rotate_left
    · simp only [Act.put, List.setIfInBounds_toArray, List.set_cons_zero, List.set_cons_succ, i64_w, i32_w]
      rfl
    refine take_ (i := 3) (N := some 37) (v := ?_) (a' := ?_) #[true, true, false, true, false, false, false, false, false, false, false, false, false] rfl rfl (take_ofW HT_.out HW_.out (by kernel_rfl)) (fun _ _ _ h => h) (Or.inl ⟨by rfl, ?_⟩) hHeld ?_ ?_
    rotate_left
    · rintro w' ⟨s0, s1, s2, s3, s4, s5, s6, s7, s8, s9, s10, s11, s12, s13, s14, s15⟩
      go_simp
      with_reducible rfl
    rotate_left
    · simp only [Act.put, List.setIfInBounds_toArray, List.set_cons_zero, List.set_cons_succ, i64_w, i32_w]
      rfl
    refine one_ (i := 2) (N := some 36) #[true, true, true, true, false, false, false, false, false, false, false, false, false] rfl rfl (one_of HT_.out (by kernel_rfl)) (by decide) (fun K hK => ?_)
    refine goes_ Try.func49 (by kernel_rfl) rfl #[.agg #[.int .i64 a1_0, .int .i64 a1_1]] (by rfl) rfl rfl (by (try simp only [List.map_toArray, List.map_cons, List.map_nil]); first | done | rfl | (simp only [List.length_drop, List.length_take]; rfl)) ?_
    with_reducible refine (laws_toBound.calls a1_0 a1_1 t748 t749 _ A18.out).mono ?_
    rintro e w45 ⟨rfl, hb⟩
    refine ⟨_, rfl, ?_⟩
    have n0_ := Aside0.mk (Kd.R_below (by (with_reducible repeat (first | apply Kd.R_alloc | apply Kd.R_drewN | apply Kd.R_drew)); exact HO725.out) hb)
    have n1_ := Aside0.mk (Kd.R_below (by (with_reducible repeat (first | apply Kd.R_alloc | apply Kd.R_drewN | apply Kd.R_drew)); exact HO746.out) hb)
    have n2_ := Aside0.mk (blk_below (g := gb712) (o := .cells #[.int .i64 a0_0, .int .i64 a0_1, .int .i64 a0_2, .int .i64 a0_3, .int .i64 a0_4, .int .i64 a0_5, .int .i64 a0_6, .slice A0_7 l0_7.length c0_7] 65 (0, 0)) (by (with_reducible repeat (first | refine blk_drewN ?_ _ | refine blk_drew ?_ | refine blk_alloc ?_ _)); exact BK712.out) hb)
    have n3_ := Aside0.mk (blk_below (g := gb713) (o := .cells #[.int .i64 a1_0, .int .i64 a1_1] 66 (0, 0)) (by (with_reducible repeat (first | refine blk_drewN ?_ _ | refine blk_drew ?_ | refine blk_alloc ?_ _)); exact BK713.out) hb)
    have n4_ := Aside0.mk (blk_below (g := gb714) (o := .cells #[.int .i64 a2_0, .int .i64 a2_1, .int .i64 a2_2, .int .i64 a2_3, .int .i64 a2_4, .int .i64 a2_5] 69 (0, 0)) (by (with_reducible repeat (first | refine blk_drewN ?_ _ | refine blk_drew ?_ | refine blk_alloc ?_ _)); exact BK714.out) hb)
    have n5_ := Aside0.mk (blk_below (g := gb747) (o := .cells #[.int .i64 t737, .int .i64 t738, .int .i64 t739, .int .i64 t740, .int .i64 t741, .int .i64 t742, .int .i64 t743, .slice Ao42 t744.length co42] 73 (0, 0)) (by (with_reducible repeat (first | refine blk_drewN ?_ _ | refine blk_drew ?_ | refine blk_alloc ?_ _)); exact BK747.out) hb)
    have n6_ := Aside0.mk (below_step (by repeat (first | (with_reducible first | exact HB.out | apply below_alloc | apply pw_below_drewN | apply below_drew1 | refine below_set ?_ GE712.out | refine below_set ?_ GE713.out | refine below_set ?_ GE714.out | refine below_set ?_ GE747.out) | exact HB.out)) hb)
    clear HO725
    clear HO746
    clear BK712
    clear BK713
    clear BK714
    clear BK747
    clear HB
    have HO725 := n0_
    have HO746 := n1_
    have BK712 := n2_
    have BK713 := n3_
    have BK714 := n4_
    have BK747 := n5_
    have HB := n6_
    clear n0_ n1_ n2_ n3_ n4_ n5_ n6_
    (try clear hb)
    (try clear hb2)
    (try clear hk)
    (try clear hi)
    refine hK.out _ _ ⟨(blk_cell BK747.out 0).trans rfl, (blk_cell BK747.out 1).trans rfl, (blk_cell BK747.out 2).trans rfl, (blk_cell BK747.out 3).trans rfl, (blk_cell BK747.out 4).trans rfl, (blk_cell BK747.out 5).trans rfl, (blk_cell BK747.out 6).trans rfl, (blk_cell BK747.out 7).trans rfl, (blk_cell BK713.out 0).trans rfl, (blk_cell BK713.out 1).trans rfl, (blk_cell BK714.out 0).trans rfl, (blk_cell BK714.out 1).trans rfl, (blk_cell BK714.out 2).trans rfl, (blk_cell BK714.out 3).trans rfl, (blk_cell BK714.out 4).trans rfl, (blk_cell BK714.out 5).trans rfl⟩ (fun hHeld => ?_)
    clear hK K
    refine norm_ (a' := ?_) ?_ ?_
    rotate_left
    · show Act.put _ (some 36) _ = _
      simp only [Act.put, List.setIfInBounds_toArray, List.set_cons_zero, List.set_cons_succ, i64_w, i32_w]
      rfl
    refine one_ (i := 4) (N := some 38) #[true, true, true, true, true, false, false, false, false, false, false, false, false] rfl rfl (one_of HT_.out (by kernel_rfl)) (by decide) (fun K hK => ?_)
    refine goes_ Try.func50 (by kernel_rfl) rfl #[.agg #[.int .i64 a2_0, .int .i64 a2_1, .int .i64 a2_2, .int .i64 a2_3, .int .i64 a2_4, .int .i64 a2_5]] (by rfl) rfl rfl (by (try simp only [List.map_toArray, List.map_cons, List.map_nil]); first | done | rfl | (simp only [List.length_drop, List.length_take]; rfl)) ?_
    with_reducible refine (laws_toCand.calls a2_0 a2_1 a2_2 a2_3 a2_4 a2_5 t750 t751 t752 t753 t754 t755 _ A19.out).mono ?_
    rintro e w46 ⟨rfl, hb⟩
    refine ⟨_, rfl, ?_⟩
    have n0_ := Aside0.mk (Kd.R_below (by (with_reducible repeat (first | apply Kd.R_alloc | apply Kd.R_drewN | apply Kd.R_drew)); exact HO725.out) hb)
    have n1_ := Aside0.mk (Kd.R_below (by (with_reducible repeat (first | apply Kd.R_alloc | apply Kd.R_drewN | apply Kd.R_drew)); exact HO746.out) hb)
    have n2_ := Aside0.mk (blk_below (g := gb712) (o := .cells #[.int .i64 a0_0, .int .i64 a0_1, .int .i64 a0_2, .int .i64 a0_3, .int .i64 a0_4, .int .i64 a0_5, .int .i64 a0_6, .slice A0_7 l0_7.length c0_7] 65 (0, 0)) (by (with_reducible repeat (first | refine blk_drewN ?_ _ | refine blk_drew ?_ | refine blk_alloc ?_ _)); exact BK712.out) hb)
    have n3_ := Aside0.mk (blk_below (g := gb713) (o := .cells #[.int .i64 a1_0, .int .i64 a1_1] 66 (0, 0)) (by (with_reducible repeat (first | refine blk_drewN ?_ _ | refine blk_drew ?_ | refine blk_alloc ?_ _)); exact BK713.out) hb)
    have n4_ := Aside0.mk (blk_below (g := gb714) (o := .cells #[.int .i64 a2_0, .int .i64 a2_1, .int .i64 a2_2, .int .i64 a2_3, .int .i64 a2_4, .int .i64 a2_5] 69 (0, 0)) (by (with_reducible repeat (first | refine blk_drewN ?_ _ | refine blk_drew ?_ | refine blk_alloc ?_ _)); exact BK714.out) hb)
    have n5_ := Aside0.mk (blk_below (g := gb747) (o := .cells #[.int .i64 t737, .int .i64 t738, .int .i64 t739, .int .i64 t740, .int .i64 t741, .int .i64 t742, .int .i64 t743, .slice Ao42 t744.length co42] 73 (0, 0)) (by (with_reducible repeat (first | refine blk_drewN ?_ _ | refine blk_drew ?_ | refine blk_alloc ?_ _)); exact BK747.out) hb)
    have n6_ := Aside0.mk (below_step (by repeat (first | (with_reducible first | exact HB.out | apply below_alloc | apply pw_below_drewN | apply below_drew1 | refine below_set ?_ GE712.out | refine below_set ?_ GE713.out | refine below_set ?_ GE714.out | refine below_set ?_ GE747.out) | exact HB.out)) hb)
    clear HO725
    clear HO746
    clear BK712
    clear BK713
    clear BK714
    clear BK747
    clear HB
    have HO725 := n0_
    have HO746 := n1_
    have BK712 := n2_
    have BK713 := n3_
    have BK714 := n4_
    have BK747 := n5_
    have HB := n6_
    clear n0_ n1_ n2_ n3_ n4_ n5_ n6_
    (try clear hb)
    (try clear hb2)
    (try clear hk)
    (try clear hi)
    refine hK.out _ _ ⟨(blk_cell BK747.out 0).trans rfl, (blk_cell BK747.out 1).trans rfl, (blk_cell BK747.out 2).trans rfl, (blk_cell BK747.out 3).trans rfl, (blk_cell BK747.out 4).trans rfl, (blk_cell BK747.out 5).trans rfl, (blk_cell BK747.out 6).trans rfl, (blk_cell BK747.out 7).trans rfl, (blk_cell BK713.out 0).trans rfl, (blk_cell BK713.out 1).trans rfl, (blk_cell BK714.out 0).trans rfl, (blk_cell BK714.out 1).trans rfl, (blk_cell BK714.out 2).trans rfl, (blk_cell BK714.out 3).trans rfl, (blk_cell BK714.out 4).trans rfl, (blk_cell BK714.out 5).trans rfl⟩ (fun hHeld => ?_)
    clear hK K
    refine norm_ (a' := ?_) ?_ ?_
    rotate_left
    · show Act.put _ (some 38) _ = _
      simp only [Act.put, List.setIfInBounds_toArray, List.set_cons_zero, List.set_cons_succ, i64_w, i32_w]
      rfl
    refine one_ (i := 5) (N := some 39) #[true, true, true, true, true, true, false, false, false, false, false, false, false] rfl rfl (one_of HT_.out (by kernel_rfl)) (by decide) (fun K hK => ?_)
    refine goes_ Try.func51 (by kernel_rfl) rfl #[.agg #[.int .i64 t737, .int .i64 t738, .int .i64 t739, .int .i64 t740, .int .i64 t741, .int .i64 t742, .int .i64 t743, .slice Ao42 t744.length co42], .agg #[.int .i64 t748, .int .i64 t749], .agg #[.int .i64 t750, .int .i64 t751, .int .i64 t752, .int .i64 t753, .int .i64 t754, .int .i64 t755]] (by rfl) rfl rfl (by (try simp only [List.map_toArray, List.map_cons, List.map_nil]); first | done | rfl | (simp only [List.length_drop, List.length_take]; rfl)) ?_
    with_reducible refine (impl_SideValues.calls k t737 t738 t739 t740 t741 t742 t743 _ _ t744 t748 t749 t750 t751 t752 t753 t754 t755 t756 t757 t758 _ ?side1 ?side2 A20.out).mono ?_
    (case side1 => repeat (first | exact (Kd.R_reads' HO746.out).2.2 | (with_reducible refine Kd.C_alloc ?_ _) | (with_reducible refine Kd.C_drewN ?_ _) | (with_reducible refine Kd.C_drew ?_)))
    (case side2 => exact (Kd.R_reads' HO746.out).2.1)
    rintro e w47 ⟨rfl, hb⟩
    refine ⟨_, rfl, ?_⟩
    have n0_ := Aside0.mk (Kd.R_below (by (with_reducible repeat (first | apply Kd.R_alloc | apply Kd.R_drewN | apply Kd.R_drew)); exact HO725.out) hb)
    have n1_ := Aside0.mk (Kd.R_below (by (with_reducible repeat (first | apply Kd.R_alloc | apply Kd.R_drewN | apply Kd.R_drew)); exact HO746.out) hb)
    have n2_ := Aside0.mk (blk_below (g := gb712) (o := .cells #[.int .i64 a0_0, .int .i64 a0_1, .int .i64 a0_2, .int .i64 a0_3, .int .i64 a0_4, .int .i64 a0_5, .int .i64 a0_6, .slice A0_7 l0_7.length c0_7] 65 (0, 0)) (by (with_reducible repeat (first | refine blk_drewN ?_ _ | refine blk_drew ?_ | refine blk_alloc ?_ _)); exact BK712.out) hb)
    have n3_ := Aside0.mk (blk_below (g := gb713) (o := .cells #[.int .i64 a1_0, .int .i64 a1_1] 66 (0, 0)) (by (with_reducible repeat (first | refine blk_drewN ?_ _ | refine blk_drew ?_ | refine blk_alloc ?_ _)); exact BK713.out) hb)
    have n4_ := Aside0.mk (blk_below (g := gb714) (o := .cells #[.int .i64 a2_0, .int .i64 a2_1, .int .i64 a2_2, .int .i64 a2_3, .int .i64 a2_4, .int .i64 a2_5] 69 (0, 0)) (by (with_reducible repeat (first | refine blk_drewN ?_ _ | refine blk_drew ?_ | refine blk_alloc ?_ _)); exact BK714.out) hb)
    have n5_ := Aside0.mk (blk_below (g := gb747) (o := .cells #[.int .i64 t737, .int .i64 t738, .int .i64 t739, .int .i64 t740, .int .i64 t741, .int .i64 t742, .int .i64 t743, .slice Ao42 t744.length co42] 73 (0, 0)) (by (with_reducible repeat (first | refine blk_drewN ?_ _ | refine blk_drew ?_ | refine blk_alloc ?_ _)); exact BK747.out) hb)
    have n6_ := Aside0.mk (below_step (by repeat (first | (with_reducible first | exact HB.out | apply below_alloc | apply pw_below_drewN | apply below_drew1 | refine below_set ?_ GE712.out | refine below_set ?_ GE713.out | refine below_set ?_ GE714.out | refine below_set ?_ GE747.out) | exact HB.out)) hb)
    clear HO725
    clear HO746
    clear BK712
    clear BK713
    clear BK714
    clear BK747
    clear HB
    have HO725 := n0_
    have HO746 := n1_
    have BK712 := n2_
    have BK713 := n3_
    have BK714 := n4_
    have BK747 := n5_
    have HB := n6_
    clear n0_ n1_ n2_ n3_ n4_ n5_ n6_
    (try clear hb)
    (try clear hb2)
    (try clear hk)
    (try clear hi)
    refine hK.out _ _ ⟨(blk_cell BK747.out 0).trans rfl, (blk_cell BK747.out 1).trans rfl, (blk_cell BK747.out 2).trans rfl, (blk_cell BK747.out 3).trans rfl, (blk_cell BK747.out 4).trans rfl, (blk_cell BK747.out 5).trans rfl, (blk_cell BK747.out 6).trans rfl, (blk_cell BK747.out 7).trans rfl, (blk_cell BK713.out 0).trans rfl, (blk_cell BK713.out 1).trans rfl, (blk_cell BK714.out 0).trans rfl, (blk_cell BK714.out 1).trans rfl, (blk_cell BK714.out 2).trans rfl, (blk_cell BK714.out 3).trans rfl, (blk_cell BK714.out 4).trans rfl, (blk_cell BK714.out 5).trans rfl⟩ (fun hHeld => ?_)
    clear hK K
    refine norm_ (a' := ?_) ?_ ?_
    rotate_left
    · show Act.put _ (some 39) _ = _
      simp only [Act.put, List.setIfInBounds_toArray, List.set_cons_zero, List.set_cons_succ, i64_w, i32_w]
      rfl
    refine pure_ (i := 6) (N := some 33) (v := ?_) (a' := ?_) #[true, true, true, true, true, true, true, false, false, false, false, false, false] rfl rfl (any_of HT_.out (by kernel_rfl)) (fun _ _ _ h => h) (Or.inl ⟨by rfl, ?_⟩) ?_ ?_
    rotate_left
    · intro w'
      go_simp
      with_reducible rfl
    rotate_left
    · simp only [Act.put, List.setIfInBounds_toArray, List.set_cons_zero, List.set_cons_succ, i64_w, i32_w]
      rfl
    refine pure_ (i := 7) (N := some 40) (v := ?_) (a' := ?_) #[true, true, true, true, true, true, true, true, false, false, false, false, false] rfl rfl (any_of HT_.out (by kernel_rfl)) (fun _ _ _ h => h) (Or.inl ⟨by rfl, ?_⟩) ?_ ?_
    rotate_left
    · intro w'
      go_simp
      with_reducible rfl
    rotate_left
    · simp only [Act.put, List.setIfInBounds_toArray, List.set_cons_zero, List.set_cons_succ, i64_w, i32_w]
      rfl
    refine pure_ (i := 8) (N := some 41) (v := ?_) (a' := ?_) #[true, true, true, true, true, true, true, true, true, false, false, false, false] rfl rfl (any_of HT_.out (by kernel_rfl)) (fun _ _ _ h => h) (Or.inl ⟨by rfl, ?_⟩) ?_ ?_
    rotate_left
    · intro w'
      go_simp
      with_reducible rfl
    rotate_left
    · simp only [Act.put, List.setIfInBounds_toArray, List.set_cons_zero, List.set_cons_succ, i64_w, i32_w]
      rfl
    refine pure_ (i := 9) (N := some 42) (v := ?_) (a' := ?_) #[true, true, true, true, true, true, true, true, true, true, false, false, false] rfl rfl (any_of HT_.out (by kernel_rfl)) (fun _ _ _ h => h) (Or.inl ⟨by rfl, ?_⟩) ?_ ?_
    rotate_left
    · intro w'
      go_simp
      with_reducible rfl
    rotate_left
    · simp only [Act.put, List.setIfInBounds_toArray, List.set_cons_zero, List.set_cons_succ, i64_w, i32_w]
      rfl
    refine pure_ (i := 10) (N := some 12) (v := ?_) (a' := ?_) #[true, true, true, true, true, true, true, true, true, true, true, false, false] rfl rfl (any_of HT_.out (by kernel_rfl)) (fun _ _ _ h => h) (Or.inl ⟨by rfl, ?_⟩) ?_ ?_
    rotate_left
    · intro w'
      go_simp
      with_reducible rfl
    rotate_left
    · simp only [Act.put, List.setIfInBounds_toArray, List.set_cons_zero, List.set_cons_succ, i64_w, i32_w]
      rfl
    refine pure_ (i := 11) (N := some 13) (v := ?_) (a' := ?_) #[true, true, true, true, true, true, true, true, true, true, true, true, false] rfl rfl (any_of HT_.out (by kernel_rfl)) (fun _ _ _ h => h) (Or.inl ⟨by rfl, ?_⟩) ?_ ?_
    rotate_left
    · intro w'
      go_simp
      with_reducible rfl
    rotate_left
    · simp only [Act.put, List.setIfInBounds_toArray, List.set_cons_zero, List.set_cons_succ, i64_w, i32_w]
      rfl
    refine pure_ (i := 12) (N := some 14) (v := ?_) (a' := ?_) #[true, true, true, true, true, true, true, true, true, true, true, true, true] rfl rfl (any_of HT_.out (by kernel_rfl)) (fun _ _ _ h => h) (Or.inl ⟨by rfl, ?_⟩) ?_ ?_
    rotate_left
    · intro w'
      go_simp
      with_reducible rfl
    rotate_left
    · simp only [Act.put, List.setIfInBounds_toArray, List.set_cons_zero, List.set_cons_succ, i64_w, i32_w]
      rfl
    refine done_ (done_of HT_.out (by kernel_rfl)) ?_
    go_upto_region 8 with (fail)
    go_cut [55] (fun v55 wc => ∃ (kq : Nat) (x55_20 : Bool), v55 = .bool x55_20 ∧ Aside0 (laws_FnExactSideValues.j0 kq x55_20 a0_0 a0_1 a0_2 a0_3 a0_4 a0_5 a0_6 l0_7 t737 t738 t739 t740 t741 t742 t743 t744 = some r) ∧ Aside0 (kq ≤ k) ∧ Aside0 (Kd.R (Kd.int .i64) 3 wc w.heap.size (fun _ => True) (.slice Ao42 t744.length co42) t744) ∧ Aside0 (wc.heap[gb712]? = some (.cells #[.int .i64 a0_0, .int .i64 a0_1, .int .i64 a0_2, .int .i64 a0_3, .int .i64 a0_4, .int .i64 a0_5, .int .i64 a0_6, (.slice A0_7 l0_7.length c0_7)] 65 (0, 0))) ∧ Aside0 (wc.heap[gb713]? = some (.cells #[.int .i64 a1_0, .int .i64 a1_1] 66 (0, 0))) ∧ Aside0 (wc.heap[gb714]? = some (.cells #[.int .i64 a2_0, .int .i64 a2_1, .int .i64 a2_2, .int .i64 a2_3, .int .i64 a2_4, .int .i64 a2_5] 69 (0, 0))) ∧ Aside0 (wc.heap[gb747]? = some (.cells #[.int .i64 t737, .int .i64 t738, .int .i64 t739, .int .i64 t740, .int .i64 t741, .int .i64 t742, .int .i64 t743, (.slice Ao42 t744.length co42)] 73 (0, 0))) ∧ Aside0 (Below w.heap.size w wc))
    case first =>
      have H := HC21.out
      clear HC21
      by_cases c48 : t756 = t734
      · rw [if_pos c48] at H
        have c48b0 : (t756 == t734) = true := beq_iff_eq.mpr c48
        have c48b1 : (t756 != t734) = false := bne_eq_false_iff_eq.mpr c48
        clear c48
        (first | rw [c48b0] | (simp only [i64_w, i32_w]; rw [c48b0]) | skip)
        by_cases c49 : t757 = t735
        · rw [if_pos c49] at H
          have c49b0 : (t757 == t735) = true := beq_iff_eq.mpr c49
          have c49b1 : (t757 != t735) = false := bne_eq_false_iff_eq.mpr c49
          clear c49
          have H' := Aside0.mk H
          clear H
          go_wp2
          go_meet
          case rel => exact ⟨_, ((t758 != t736)), (by first | rfl | (simp; done) | (simp [*]; done)), H', ⟨by first | omega | exact Nat.le_refl _⟩, ⟨by (with_reducible repeat (first | apply Kd.R_alloc | apply Kd.R_drewN | apply Kd.R_drew)); exact Kd.R_mono HO746.out (fun _ hk => trivial)⟩, ⟨by (with_reducible repeat (first | refine blk_drewN ?_ _ | refine blk_drew ?_ | refine blk_alloc ?_ _)); exact BK712.out⟩, ⟨by (with_reducible repeat (first | refine blk_drewN ?_ _ | refine blk_drew ?_ | refine blk_alloc ?_ _)); exact BK713.out⟩, ⟨by (with_reducible repeat (first | refine blk_drewN ?_ _ | refine blk_drew ?_ | refine blk_alloc ?_ _)); exact BK714.out⟩, ⟨by (with_reducible repeat (first | refine blk_drewN ?_ _ | refine blk_drew ?_ | refine blk_alloc ?_ _)); exact BK747.out⟩, ⟨by repeat (first | (with_reducible first | exact HB.out | apply below_alloc | apply pw_below_drewN | apply below_drew1 | refine below_set ?_ GE712.out | refine below_set ?_ GE713.out | refine below_set ?_ GE714.out | refine below_set ?_ GE747.out) | exact HB.out)⟩⟩
        · rw [if_neg c49] at H
          have c49b0 : (t757 == t735) = false := beq_eq_false_iff_ne.mpr c49
          have c49b1 : (t757 != t735) = true := bne_iff_ne.mpr c49
          have H' := Aside0.mk H
          clear H
          go_wp2
          go_meet
          case rel => exact ⟨_, (true), (by first | rfl | (simp; done) | (simp [*]; done)), H', ⟨by first | omega | exact Nat.le_refl _⟩, ⟨by (with_reducible repeat (first | apply Kd.R_alloc | apply Kd.R_drewN | apply Kd.R_drew)); exact Kd.R_mono HO746.out (fun _ hk => trivial)⟩, ⟨by (with_reducible repeat (first | refine blk_drewN ?_ _ | refine blk_drew ?_ | refine blk_alloc ?_ _)); exact BK712.out⟩, ⟨by (with_reducible repeat (first | refine blk_drewN ?_ _ | refine blk_drew ?_ | refine blk_alloc ?_ _)); exact BK713.out⟩, ⟨by (with_reducible repeat (first | refine blk_drewN ?_ _ | refine blk_drew ?_ | refine blk_alloc ?_ _)); exact BK714.out⟩, ⟨by (with_reducible repeat (first | refine blk_drewN ?_ _ | refine blk_drew ?_ | refine blk_alloc ?_ _)); exact BK747.out⟩, ⟨by repeat (first | (with_reducible first | exact HB.out | apply below_alloc | apply pw_below_drewN | apply below_drew1 | refine below_set ?_ GE712.out | refine below_set ?_ GE713.out | refine below_set ?_ GE714.out | refine below_set ?_ GE747.out) | exact HB.out)⟩⟩
      · rw [if_neg c48] at H
        have c48b0 : (t756 == t734) = false := beq_eq_false_iff_ne.mpr c48
        have c48b1 : (t756 != t734) = true := bne_iff_ne.mpr c48
        (first | rw [c48b0] | (simp only [i64_w, i32_w]; rw [c48b0]) | skip)
        have H' := Aside0.mk H
        clear H
        go_wp2
        go_meet
        case rel => exact ⟨_, (true), (by first | rfl | (simp; done) | (simp [*]; done)), H', ⟨by first | omega | exact Nat.le_refl _⟩, ⟨by (with_reducible repeat (first | apply Kd.R_alloc | apply Kd.R_drewN | apply Kd.R_drew)); exact Kd.R_mono HO746.out (fun _ hk => trivial)⟩, ⟨by (with_reducible repeat (first | refine blk_drewN ?_ _ | refine blk_drew ?_ | refine blk_alloc ?_ _)); exact BK712.out⟩, ⟨by (with_reducible repeat (first | refine blk_drewN ?_ _ | refine blk_drew ?_ | refine blk_alloc ?_ _)); exact BK713.out⟩, ⟨by (with_reducible repeat (first | refine blk_drewN ?_ _ | refine blk_drew ?_ | refine blk_alloc ?_ _)); exact BK714.out⟩, ⟨by (with_reducible repeat (first | refine blk_drewN ?_ _ | refine blk_drew ?_ | refine blk_alloc ?_ _)); exact BK747.out⟩, ⟨by repeat (first | (with_reducible first | exact HB.out | apply below_alloc | apply pw_below_drewN | apply below_drew1 | refine below_set ?_ GE712.out | refine below_set ?_ GE713.out | refine below_set ?_ GE714.out | refine below_set ?_ GE747.out) | exact HB.out)⟩⟩
    case rest =>
      clear HC21
      try clear c1
      try clear c2
      try clear p2
      try clear c3
      try clear c4
      try clear c5
      try clear c5b0
      try clear c9
      try clear c10
      try clear c25
      try clear c26
      try clear c38
      try clear c39
      try clear c40
      try clear c46
      try clear c47
      try clear c48
      try clear c48b0
      try clear c48b1
      try clear c49
      try clear c49b0
      try clear c49b1
      try clear hcz11_0
      try clear hcz11_1
      try clear hcz11_2
      try clear hcz11_3
      try clear hcz11_4
      try clear hcz11_5
      try clear hcz11_6
      try clear hcz11_7
      try clear hcz27_0
      try clear hcz27_1
      try clear hcz27_2
      try clear hcz27_3
      try clear hcz27_4
      try clear hcz27_5
      try clear hcz27_6
      try clear hcz27_7
      try clear hcz35_0
      try clear hcz35_1
      try clear hcz35_2
      try clear hcz35_3
      try clear hcz35_4
      try clear hcz35_5
      try clear hcz35_6
      try clear hcz35_7
      try clear hcz41_0
      try clear hcz41_1
      try clear hcz41_2
      try clear hcz41_3
      try clear hcz41_4
      try clear hcz41_5
      try clear hcz41_6
      try clear hcz41_7
      try clear hfz11_0
      try clear hfz11_1
      try clear hfz11_2
      try clear hfz11_3
      try clear hfz11_4
      try clear hfz11_5
      try clear hfz11_6
      try clear hfz11_7
      try clear hfz27_0
      try clear hfz27_1
      try clear hfz27_2
      try clear hfz27_3
      try clear hfz27_4
      try clear hfz27_5
      try clear hfz27_6
      try clear hfz27_7
      try clear hfz35_0
      try clear hfz35_1
      try clear hfz35_2
      try clear hfz35_3
      try clear hfz35_4
      try clear hfz35_5
      try clear hfz35_6
      try clear hfz35_7
      try clear hfz41_0
      try clear hfz41_1
      try clear hfz41_2
      try clear hfz41_3
      try clear hfz41_4
      try clear hfz41_5
      try clear hfz41_6
      try clear hfz41_7
      obtain ⟨kq, x55_20, rfl, HA, HJ20, HO_748007, BK712, BK713, BK714, BK747, HB⟩ := hcut
      cases kq with
      | zero => exact absurd HA.out (by simp [laws_FnExactSideValues.j0])
      | succ kj20 =>
        have H := HA.out
        clear HA
        simp only [laws_FnExactSideValues.j0] at H
        by_cases c50 : x55_20 = true
        · subst c50
          have H1 : (some false) = some r := by rw [if_pos rfl] at H; exact H
          clear H
          have H := H1
          clear H1
          exact absurd ((Option.some.inj H).trans HRT.out) (by decide)
        · replace c50 := Bool.eq_false_iff.mpr c50
          subst c50
          have H1 : ((laws_toConfig.f kj20 a0_0 a0_1 a0_2 a0_3 a0_4 a0_5 a0_6 l0_7).bind fun bt759 => ((laws_eqConfig.f kj20 t737 t738 t739 t740 t741 t742 t743 t744 bt759.1 bt759.2.1 bt759.2.2.1 bt759.2.2.2.1 bt759.2.2.2.2.1 bt759.2.2.2.2.2.1 bt759.2.2.2.2.2.2.1 bt759.2.2.2.2.2.2.2).bind fun t769 => (if t769 = true then (some true) else (some false)))) = some r := by rw [if_neg (show ¬ (false = true) by decide)] at H; exact H
          clear H
          have H := H1
          clear H1
          replace H := Option.bind_eq_some_iff.mp H
          obtain ⟨⟨t759, t760, t761, t762, t763, t764, t765, t766⟩, A510, H⟩ := H
          replace H : ((laws_eqConfig.f kj20 t737 t738 t739 t740 t741 t742 t743 t744 t759 t760 t761 t762 t763 t764 t765 t766).bind fun t769 => (if t769 = true then (some true) else (some false))) = some r := H
          have A51 := Aside0.mk A510
          clear A510
          replace H := Option.bind_eq_some_iff.mp H
          obtain ⟨t769, A520, H⟩ := H
          replace H : (if t769 = true then (some true) else (some false)) = some r := H
          have A52 := Aside0.mk A520
          clear A520
          by_cases c53 : t769 = true
          · subst c53
            have H1 : (some true) = some r := by rw [if_pos rfl] at H; exact H
            clear H
            have H := H1
            clear H1
            obtain rfl := Option.some.inj H
            try go_wp2
            have n0_ := Aside0.mk (Kd.R_drew HO_748007.out)
            have n1_ := Aside0.mk (blk_drew BK712.out)
            have n2_ := Aside0.mk (blk_drew BK713.out)
            have n3_ := Aside0.mk (blk_drew BK714.out)
            have n4_ := Aside0.mk (blk_drew BK747.out)
            have n5_ := Aside0.mk (below_drew1 HB.out)
            clear HO_748007
            clear BK712
            clear BK713
            clear BK714
            clear BK747
            clear HB
            have HO_748007 := n0_
            have BK712 := n1_
            have BK713 := n2_
            have BK714 := n3_
            have BK747 := n4_
            have HB := n5_
            clear n0_ n1_ n2_ n3_ n4_ n5_
            refine start_ (n := 5) (S := fun w' => w'.cell? ⟨gb747, 0, none⟩ = some (.int .i64 t737) ∧ w'.cell? ⟨gb747, 1, none⟩ = some (.int .i64 t738) ∧ w'.cell? ⟨gb747, 2, none⟩ = some (.int .i64 t739) ∧ w'.cell? ⟨gb747, 3, none⟩ = some (.int .i64 t740) ∧ w'.cell? ⟨gb747, 4, none⟩ = some (.int .i64 t741) ∧ w'.cell? ⟨gb747, 5, none⟩ = some (.int .i64 t742) ∧ w'.cell? ⟨gb747, 6, none⟩ = some (.int .i64 t743) ∧ w'.cell? ⟨gb747, 7, none⟩ = some (.slice Ao42 t744.length co42) ∧ w'.cell? ⟨gb712, 0, none⟩ = some (.int .i64 a0_0) ∧ w'.cell? ⟨gb712, 1, none⟩ = some (.int .i64 a0_1) ∧ w'.cell? ⟨gb712, 2, none⟩ = some (.int .i64 a0_2) ∧ w'.cell? ⟨gb712, 3, none⟩ = some (.int .i64 a0_3) ∧ w'.cell? ⟨gb712, 4, none⟩ = some (.int .i64 a0_4) ∧ w'.cell? ⟨gb712, 5, none⟩ = some (.int .i64 a0_5) ∧ w'.cell? ⟨gb712, 6, none⟩ = some (.int .i64 a0_6) ∧ w'.cell? ⟨gb712, 7, none⟩ = some (.slice A0_7 l0_7.length c0_7)) (ds := []) #[false, false, false, false, false] (by kernel_rfl) rfl rfl ⟨(blk_cell BK747.out 0).trans rfl, (blk_cell BK747.out 1).trans rfl, (blk_cell BK747.out 2).trans rfl, (blk_cell BK747.out 3).trans rfl, (blk_cell BK747.out 4).trans rfl, (blk_cell BK747.out 5).trans rfl, (blk_cell BK747.out 6).trans rfl, (blk_cell BK747.out 7).trans rfl, (blk_cell BK712.out 0).trans rfl, (blk_cell BK712.out 1).trans rfl, (blk_cell BK712.out 2).trans rfl, (blk_cell BK712.out 3).trans rfl, (blk_cell BK712.out 4).trans rfl, (blk_cell BK712.out 5).trans rfl, (blk_cell BK712.out 6).trans rfl, (blk_cell BK712.out 7).trans rfl⟩ (fun hHeld => ?_)
            generalize wc.drew = w54 at HO_748007 BK712 BK713 BK714 BK747 HB hHeld ⊢
            refine take_ (i := 0) (N := some 56) (v := ?_) (a' := ?_) #[true, false, false, false, false] rfl rfl (by kernel_rfl) (fun _ _ _ h => h) (Or.inl ⟨by rfl, ?_⟩) hHeld ?_ ?_
            rotate_left
            · rintro w' ⟨s0, s1, s2, s3, s4, s5, s6, s7, s8, s9, s10, s11, s12, s13, s14, s15⟩
              go_simp
              with_reducible rfl
            rotate_left
            · simp only [Act.put, List.setIfInBounds_toArray, List.set_cons_zero, List.set_cons_succ, i64_w, i32_w]
              rfl
            refine take_ (i := 1) (N := some 57) (v := ?_) (a' := ?_) #[true, true, false, false, false] rfl rfl (by kernel_rfl) (fun _ _ _ h => h) (Or.inl ⟨by rfl, ?_⟩) hHeld ?_ ?_
            rotate_left
            · rintro w' ⟨s0, s1, s2, s3, s4, s5, s6, s7, s8, s9, s10, s11, s12, s13, s14, s15⟩
              go_simp
              with_reducible rfl
            rotate_left
            · simp only [Act.put, List.setIfInBounds_toArray, List.set_cons_zero, List.set_cons_succ, i64_w, i32_w]
              rfl
            refine one_ (i := 2) (N := some 58) #[true, true, true, false, false] rfl rfl (by kernel_rfl) (by decide) (fun K hK => ?_)
            refine goes_ Try.func48 (by kernel_rfl) rfl #[.agg #[.int .i64 a0_0, .int .i64 a0_1, .int .i64 a0_2, .int .i64 a0_3, .int .i64 a0_4, .int .i64 a0_5, .int .i64 a0_6, .slice A0_7 l0_7.length c0_7]] (by rfl) rfl rfl (by (try simp only [List.map_toArray, List.map_cons, List.map_nil]); first | done | rfl | (simp only [List.length_drop, List.length_take]; rfl)) ?_
            with_reducible refine (laws_toConfig.calls kj20 a0_0 a0_1 a0_2 a0_3 a0_4 a0_5 a0_6 _ _ l0_7 t759 t760 t761 t762 t763 t764 t765 t766 _ ?side1 ?side2 A51.out).mono ?_
            (case side1 => repeat (first | exact (Kd.C_below HR0_7.out HB.out) | (with_reducible refine Kd.C_alloc ?_ _) | (with_reducible refine Kd.C_drewN ?_ _) | (with_reducible refine Kd.C_drew ?_)))
            (case side2 => exact HC0_7.out)
            rintro e w55 ⟨v767, rfl, ho0, hb⟩
            refine ⟨_, rfl, ?_⟩
            have n0_ := Aside0.mk (Kd.R_elder' (by (with_reducible repeat (first | apply Kd.R_alloc | apply Kd.R_drewN | apply Kd.R_drew)); exact HO_748007.out) (Kd.R_base ho0) hb)
            have n1_ := Aside0.mk (Kd.R_lower (Kd.R_new' ho0 (Kd.R_lt (by (with_reducible repeat (first | apply Kd.R_alloc | apply Kd.R_drewN | apply Kd.R_drew)); exact HO_748007.out))) (below_size (by repeat (first | (with_reducible first | exact HB.out | apply below_alloc | apply pw_below_drewN | apply below_drew1 | refine below_set ?_ GE712.out | refine below_set ?_ GE713.out | refine below_set ?_ GE714.out | refine below_set ?_ GE747.out) | exact HB.out))))
            have n2_ := Aside0.mk (blk_below (g := gb712) (o := .cells #[.int .i64 a0_0, .int .i64 a0_1, .int .i64 a0_2, .int .i64 a0_3, .int .i64 a0_4, .int .i64 a0_5, .int .i64 a0_6, .slice A0_7 l0_7.length c0_7] 65 (0, 0)) (by (with_reducible repeat (first | refine blk_drewN ?_ _ | refine blk_drew ?_ | refine blk_alloc ?_ _)); exact BK712.out) hb)
            have n3_ := Aside0.mk (blk_below (g := gb713) (o := .cells #[.int .i64 a1_0, .int .i64 a1_1] 66 (0, 0)) (by (with_reducible repeat (first | refine blk_drewN ?_ _ | refine blk_drew ?_ | refine blk_alloc ?_ _)); exact BK713.out) hb)
            have n4_ := Aside0.mk (blk_below (g := gb714) (o := .cells #[.int .i64 a2_0, .int .i64 a2_1, .int .i64 a2_2, .int .i64 a2_3, .int .i64 a2_4, .int .i64 a2_5] 69 (0, 0)) (by (with_reducible repeat (first | refine blk_drewN ?_ _ | refine blk_drew ?_ | refine blk_alloc ?_ _)); exact BK714.out) hb)
            have n5_ := Aside0.mk (blk_below (g := gb747) (o := .cells #[.int .i64 t737, .int .i64 t738, .int .i64 t739, .int .i64 t740, .int .i64 t741, .int .i64 t742, .int .i64 t743, .slice Ao42 t744.length co42] 73 (0, 0)) (by (with_reducible repeat (first | refine blk_drewN ?_ _ | refine blk_drew ?_ | refine blk_alloc ?_ _)); exact BK747.out) hb)
            have n6_ := Aside0.mk (below_step (by repeat (first | (with_reducible first | exact HB.out | apply below_alloc | apply pw_below_drewN | apply below_drew1 | refine below_set ?_ GE712.out | refine below_set ?_ GE713.out | refine below_set ?_ GE714.out | refine below_set ?_ GE747.out) | exact HB.out)) hb)
            clear HO_748007
            clear BK712
            clear BK713
            clear BK714
            clear BK747
            clear HB
            have HO_748007 := n0_
            have HO768 := n1_
            have BK712 := n2_
            have BK713 := n3_
            have BK714 := n4_
            have BK747 := n5_
            have HB := n6_
            clear n0_ n1_ n2_ n3_ n4_ n5_ n6_
            (try clear hb)
            (try clear hb2)
            (try clear hk)
            (try clear hi)
            (try clear ho0)
            obtain ⟨Ao56, co56, eo56⟩ := Kd.R_slice HO768.out
            (first | subst eo56 | (injection eo56 with f1_ f2_ f3_; have f4_ := f1_.symm; have f5_ := f3_.symm; clear f1_ f2_ f3_; subst f4_; subst f5_))
            refine hK.out _ _ ⟨(blk_cell BK747.out 0).trans rfl, (blk_cell BK747.out 1).trans rfl, (blk_cell BK747.out 2).trans rfl, (blk_cell BK747.out 3).trans rfl, (blk_cell BK747.out 4).trans rfl, (blk_cell BK747.out 5).trans rfl, (blk_cell BK747.out 6).trans rfl, (blk_cell BK747.out 7).trans rfl, (blk_cell BK712.out 0).trans rfl, (blk_cell BK712.out 1).trans rfl, (blk_cell BK712.out 2).trans rfl, (blk_cell BK712.out 3).trans rfl, (blk_cell BK712.out 4).trans rfl, (blk_cell BK712.out 5).trans rfl, (blk_cell BK712.out 6).trans rfl, (blk_cell BK712.out 7).trans rfl⟩ (fun hHeld => ?_)
            clear hK K
            refine norm_ (a' := ?_) ?_ ?_
            rotate_left
            · show Act.put _ (some 58) _ = _
              simp only [Act.put, List.setIfInBounds_toArray, List.set_cons_zero, List.set_cons_succ, i64_w, i32_w]
              rfl
            refine one_ (i := 3) (N := some 59) #[true, true, true, true, false] rfl rfl (by kernel_rfl) (by decide) (fun K hK => ?_)
            refine goes_ Try.func52 (by kernel_rfl) rfl #[.agg #[.int .i64 t737, .int .i64 t738, .int .i64 t739, .int .i64 t740, .int .i64 t741, .int .i64 t742, .int .i64 t743, .slice Ao42 t744.length co42], .agg #[.int .i64 t759, .int .i64 t760, .int .i64 t761, .int .i64 t762, .int .i64 t763, .int .i64 t764, .int .i64 t765, .slice Ao56 t766.length co56]] (by rfl) rfl rfl (by (try simp only [List.map_toArray, List.map_cons, List.map_nil]); first | done | rfl | (simp only [List.length_drop, List.length_take]; rfl)) ?_
            with_reducible refine (laws_eqConfig.calls kj20 t737 t738 t739 t740 t741 t742 t743 _ _ t744 t759 t760 t761 t762 t763 t764 t765 _ _ t766 true _ ?side1 ?side2 ?side3 ?side4 A52.out).mono ?_
            (case side1 => repeat (first | exact (Kd.R_reads' HO_748007.out).2.2 | (with_reducible refine Kd.C_alloc ?_ _) | (with_reducible refine Kd.C_drewN ?_ _) | (with_reducible refine Kd.C_drew ?_)))
            (case side2 => exact (Kd.R_reads' HO_748007.out).2.1)
            (case side3 => repeat (first | exact (Kd.R_reads' HO768.out).2.2 | (with_reducible refine Kd.C_alloc ?_ _) | (with_reducible refine Kd.C_drewN ?_ _) | (with_reducible refine Kd.C_drew ?_)))
            (case side4 => exact (Kd.R_reads' HO768.out).2.1)
            rintro e w57 ⟨rfl, hb⟩
            refine ⟨_, rfl, ?_⟩
            have n0_ := Aside0.mk (Kd.R_below (by (with_reducible repeat (first | apply Kd.R_alloc | apply Kd.R_drewN | apply Kd.R_drew)); exact HO_748007.out) hb)
            have n1_ := Aside0.mk (Kd.R_below (by (with_reducible repeat (first | apply Kd.R_alloc | apply Kd.R_drewN | apply Kd.R_drew)); exact HO768.out) hb)
            have n2_ := Aside0.mk (blk_below (g := gb712) (o := .cells #[.int .i64 a0_0, .int .i64 a0_1, .int .i64 a0_2, .int .i64 a0_3, .int .i64 a0_4, .int .i64 a0_5, .int .i64 a0_6, .slice A0_7 l0_7.length c0_7] 65 (0, 0)) (by (with_reducible repeat (first | refine blk_drewN ?_ _ | refine blk_drew ?_ | refine blk_alloc ?_ _)); exact BK712.out) hb)
            have n3_ := Aside0.mk (blk_below (g := gb713) (o := .cells #[.int .i64 a1_0, .int .i64 a1_1] 66 (0, 0)) (by (with_reducible repeat (first | refine blk_drewN ?_ _ | refine blk_drew ?_ | refine blk_alloc ?_ _)); exact BK713.out) hb)
            have n4_ := Aside0.mk (blk_below (g := gb714) (o := .cells #[.int .i64 a2_0, .int .i64 a2_1, .int .i64 a2_2, .int .i64 a2_3, .int .i64 a2_4, .int .i64 a2_5] 69 (0, 0)) (by (with_reducible repeat (first | refine blk_drewN ?_ _ | refine blk_drew ?_ | refine blk_alloc ?_ _)); exact BK714.out) hb)
            have n5_ := Aside0.mk (blk_below (g := gb747) (o := .cells #[.int .i64 t737, .int .i64 t738, .int .i64 t739, .int .i64 t740, .int .i64 t741, .int .i64 t742, .int .i64 t743, .slice Ao42 t744.length co42] 73 (0, 0)) (by (with_reducible repeat (first | refine blk_drewN ?_ _ | refine blk_drew ?_ | refine blk_alloc ?_ _)); exact BK747.out) hb)
            have n6_ := Aside0.mk (below_step (by repeat (first | (with_reducible first | exact HB.out | apply below_alloc | apply pw_below_drewN | apply below_drew1 | refine below_set ?_ GE712.out | refine below_set ?_ GE713.out | refine below_set ?_ GE714.out | refine below_set ?_ GE747.out) | exact HB.out)) hb)
            clear HO_748007
            clear HO768
            clear BK712
            clear BK713
            clear BK714
            clear BK747
            clear HB
            have HO_748007 := n0_
            have HO768 := n1_
            have BK712 := n2_
            have BK713 := n3_
            have BK714 := n4_
            have BK747 := n5_
            have HB := n6_
            clear n0_ n1_ n2_ n3_ n4_ n5_ n6_
            (try clear hb)
            (try clear hb2)
            (try clear hk)
            (try clear hi)
            refine hK.out _ _ ⟨(blk_cell BK747.out 0).trans rfl, (blk_cell BK747.out 1).trans rfl, (blk_cell BK747.out 2).trans rfl, (blk_cell BK747.out 3).trans rfl, (blk_cell BK747.out 4).trans rfl, (blk_cell BK747.out 5).trans rfl, (blk_cell BK747.out 6).trans rfl, (blk_cell BK747.out 7).trans rfl, (blk_cell BK712.out 0).trans rfl, (blk_cell BK712.out 1).trans rfl, (blk_cell BK712.out 2).trans rfl, (blk_cell BK712.out 3).trans rfl, (blk_cell BK712.out 4).trans rfl, (blk_cell BK712.out 5).trans rfl, (blk_cell BK712.out 6).trans rfl, (blk_cell BK712.out 7).trans rfl⟩ (fun hHeld => ?_)
            clear hK K
            refine norm_ (a' := ?_) ?_ ?_
            rotate_left
            · show Act.put _ (some 59) _ = _
              simp only [Act.put, List.setIfInBounds_toArray, List.set_cons_zero, List.set_cons_succ, i64_w, i32_w]
              rfl
            refine pure_ (i := 4) (N := some 60) (v := ?_) (a' := ?_) #[true, true, true, true, true] rfl rfl (by kernel_rfl) (fun _ _ _ h => h) (Or.inl ⟨by rfl, ?_⟩) ?_ ?_
            rotate_left
            · intro w'
              go_simp
              with_reducible rfl
            rotate_left
            · simp only [Act.put, List.setIfInBounds_toArray, List.set_cons_zero, List.set_cons_succ, i64_w, i32_w]
              rfl
            refine done_ (by kernel_rfl) ?_
            try go_wp2
            go_ret
            exact ⟨by first | rfl | (simp [errW_none, errW_some] <;> rfl) | (simp [*, errW_none, errW_some] <;> rfl), by repeat (first | (with_reducible first | exact HB.out | apply below_alloc | apply pw_below_drewN | apply below_drew1 | refine below_set ?_ GE712.out | refine below_set ?_ GE713.out | refine below_set ?_ GE714.out | refine below_set ?_ GE747.out) | exact HB.out)⟩
          · replace c53 := Bool.eq_false_iff.mpr c53
            subst c53
            have H1 : (some false) = some r := by rw [if_neg (show ¬ (false = true) by decide)] at H; exact H
            clear H
            have H := H1
            clear H1
            exact absurd ((Option.some.inj H).trans HRT.out) (by decide)

end Go.Proofs.Ytohngimlmcdiiaa.Q
