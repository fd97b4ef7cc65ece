/- The machine side of this seat's laws: what each Go function that they reach comes to. Conditions: none. -/
import Derived.Test.YtohngimlmcdiiaaQx0
import Derived.Test.YtohngimlmcdiiaaQx1
import Derived.Test.YtohngimlmcdiiaaQx11
import Derived.Test.YtohngimlmcdiiaaQx14
import Derived.Test.YtohngimlmcdiiaaQx15
import Derived.Test.YtohngimlmcdiiaaQx16
import Derived.Test.YtohngimlmcdiiaaQx17
import Derived.Test.YtohngimlmcdiiaaQx18
namespace Go.Proofs.Ytohngimlmcdiiaa.Q
open Go.RowKit Go.Proofs.YtohngimlmcdiiaaW.PrintWords Go.Proofs.YtohngimlmcdiiaaW.PrintLast Go.Proofs.YtohngimlmcdiiaaW.PrintMore
attribute [local go_sem] max2_int min2_int max_two min_two max_three min_three max_four min_four   -- for this text's walks alone
set_option linter.unusedVariables false
set_option linter.unusedSimpArgs false

attribute [local go_sem high] eqA34
/-! ### laws_FnSides: function 4 -/
def laws_FnSides.j0 : Nat → Int → Bool → Int → Int → Int → Int → Int → Int → Option (Bool)
  | 0, _, _, _, _, _, _, _, _ => none
  | k + 1, x3, x43, x333000, x333001, x338000, x338001, x339000, x339001 => if x43 = true then (some false) else ((spec_BoundOk.f x333000 x333001).bind fun t345 => (if t345 = true then ((impl_BoundOk.f x338000 x338001).bind fun t347 => (if t347 = true then ((impl_BoundOk.f x339000 x339001).bind fun t348 => (if t348 = true then (if x338000 < x333000 then (some false) else (if x339001 > x333001 then (some false) else (if x339000 < x333000 then (some false) else (if x338001 > x333001 then (some false) else (if x3 = 1 then (if x338001 ≤ x339000 then (if x3 = (-1) then (if x339001 ≤ x338000 then (some true) else (some false)) else (some true)) else (some false)) else (if x3 = (-1) then (if x339001 ≤ x338000 then (some true) else (some false)) else (if (x338000 == x333000 && (x338001 == x333001)) = true then (some (x339000 == x333000 && (x339001 == x333001))) else (some false)))))))) else (some false))) else (some false))) else (if (x338000 == x333000 && (x338001 == x333001)) = true then (if (x339000 == x333000 && (x339001 == x333001)) = true then ((impl_BoundOk.f x333000 x333001).bind fun t346 => (some (!t346))) else (some false)) else (some false))))
def laws_FnSides.f (k : Nat) (l0 : List Int) : Option (Bool) := (laws_big.f l0).bind fun t326 => (if t326 = true then (some true) else ((spec_DrawSidesOf.f k l0).bind fun bt327 => ((impl_SidesOf.f bt327.1 bt327.2.1 bt327.2.2.1 bt327.2.2.2.1 bt327.2.2.2.2).bind fun bt333 => ((spec_SidesOf.f bt327.1 bt327.2.1 bt327.2.2.1 bt327.2.2.2.1 bt327.2.2.2.2).bind fun bt339 => (if (!(bt333.1 == bt339.1) || (!(bt333.2.1 == bt339.2.1))) = true then (laws_FnSides.j0 k bt327.1 true bt327.2.1 bt327.2.2.1 bt333.1 bt333.2.1 bt333.2.2.1 bt333.2.2.2) else (laws_FnSides.j0 k bt327.1 (!(bt333.2.2.1 == bt339.2.2.1) || (!(bt333.2.2.2 == bt339.2.2.2))) bt327.2.1 bt327.2.2.1 bt333.1 bt333.2.1 bt333.2.2.1 bt333.2.2.2))))))
theorem laws_FnSides.mono_l : ∀ k, (∀ y0 y1 y2 y3 y4 y5 y6 y7, LeO (laws_FnSides.j0 k y0 y1 y2 y3 y4 y5 y6 y7) (laws_FnSides.j0 (k + 1) y0 y1 y2 y3 y4 y5 y6 y7))
  | 0 => fun _ _ _ _ _ _ _ _ r h => by simp [laws_FnSides.j0] at h
  | k + 1 => by
    have ih0 := laws_FnSides.mono_l k
    · intro y0 y1 y2 y3 y4 y5 y6 y7
      unfold laws_FnSides.j0
      repeat' first
      | (with_reducible exact ih0 _ _ _ _ _ _ _ _)
      | (with_reducible exact spec_DrawSidesOf.mono _ _)
      | (with_reducible exact LeO.refl _)
      | (with_reducible exact LeO.none _)
      | (with_reducible refine LeO.ite ?_ ?_)
      | (with_reducible refine LeO.bind ?_ (fun _ => ?_))
      | exact ih0 _ _ _ _ _ _ _ _
      | exact spec_DrawSidesOf.mono _ _
      | exact LeO.none _
      | refine LeO.ite ?_ ?_
      | refine LeO.bind ?_ (fun _ => ?_)
theorem laws_FnSides.mono : ∀ a0 k, LeO (laws_FnSides.f k a0) (laws_FnSides.f (k + 1) a0) := by
  intro a0 k
  have ih0 := laws_FnSides.mono_l k
  unfold laws_FnSides.f
  repeat' first
      | (with_reducible exact ih0 _ _ _ _ _ _ _ _)
      | (with_reducible exact spec_DrawSidesOf.mono _ _)
      | (with_reducible exact LeO.refl _)
      | (with_reducible exact LeO.none _)
      | (with_reducible refine LeO.ite ?_ ?_)
      | (with_reducible refine LeO.bind ?_ (fun _ => ?_))
      | exact ih0 _ _ _ _ _ _ _ _
      | exact spec_DrawSidesOf.mono _ _
      | exact LeO.none _
      | refine LeO.ite ?_ ?_
      | refine LeO.bind ?_ (fun _ => ?_)
set_option maxHeartbeats 8000000 in
set_option maxRecDepth 100000 in
theorem laws_FnSides.calls (k : Nat) (A0 : Option Addr) (c0 : Nat) (l0 : List Int) (r : Bool) (w : World) (hr0 : Kd.C (Kd.int .u8) w A0 l0.length l0) (hc0 : l0.length ≤ c0) (h : laws_FnSides.f k l0 = some r) (hr_ : r = true) :
    Calls Try.prog 4 #[.slice A0 l0.length c0] w fun e w' => e = .returned (.bool r) ∧ Below w.heap.size w w' := by
  have HRT := Aside0.mk hr_
  clear hr_
  have hu34 := Try.underlying34
  have HR0 := Aside0.mk hr0
  have HC0 := Aside0.mk hc0
  clear hr0 hc0
  have HB := Aside0.mk (Below.refl w.heap.size w)
  have H : ((laws_big.f l0).bind fun t326 => (if t326 = true then (some true) else ((spec_DrawSidesOf.f k l0).bind fun bt327 => ((impl_SidesOf.f bt327.1 bt327.2.1 bt327.2.2.1 bt327.2.2.2.1 bt327.2.2.2.2).bind fun bt333 => ((spec_SidesOf.f bt327.1 bt327.2.1 bt327.2.2.1 bt327.2.2.2.1 bt327.2.2.2.2).bind fun bt339 => (if (!(bt333.1 == bt339.1) || (!(bt333.2.1 == bt339.2.1))) = true then (laws_FnSides.j0 k bt327.1 true bt327.2.1 bt327.2.2.1 bt333.1 bt333.2.1 bt333.2.2.1 bt333.2.2.2) else (laws_FnSides.j0 k bt327.1 (!(bt333.2.2.1 == bt339.2.2.1) || (!(bt333.2.2.2 == bt339.2.2.2))) bt327.2.1 bt327.2.2.1 bt333.1 bt333.2.1 bt333.2.2.1 bt333.2.2.2))))))) = some r := h
  clear h
  replace H := Option.bind_eq_some_iff.mp H
  obtain ⟨t326, A20, H⟩ := H
  replace H : (if t326 = true then (some true) else ((spec_DrawSidesOf.f k l0).bind fun bt327 => ((impl_SidesOf.f bt327.1 bt327.2.1 bt327.2.2.1 bt327.2.2.2.1 bt327.2.2.2.2).bind fun bt333 => ((spec_SidesOf.f bt327.1 bt327.2.1 bt327.2.2.1 bt327.2.2.2.1 bt327.2.2.2.2).bind fun bt339 => (if (!(bt333.1 == bt339.1) || (!(bt333.2.1 == bt339.2.1))) = true then (laws_FnSides.j0 k bt327.1 true bt327.2.1 bt327.2.2.1 bt333.1 bt333.2.1 bt333.2.2.1 bt333.2.2.2) else (laws_FnSides.j0 k bt327.1 (!(bt333.2.2.1 == bt339.2.2.1) || (!(bt333.2.2.2 == bt339.2.2.2))) bt327.2.1 bt327.2.2.1 bt333.1 bt333.2.1 bt333.2.2.1 bt333.2.2.2)))))) = some r := H
  have A2 := Aside0.mk A20
  clear A20
  by_cases c3 : t326 = true
  · subst c3
    have H1 : (some true) = some r := by rw [if_pos rfl] at H; exact H
    clear H
    have H := H1
    clear H1
    obtain rfl := Option.some.inj H
    go_enter Try.func4, Try.ntmps4
    go_wp2_with (first | ((with_reducible refine gate_callee (f := 22) rfl ?_); refine goesL_ (some 12) rfl rfl Try.func22 (by kernel_rfl) rfl #[.slice A0 l0.length c0] rfl (by (try simp only [List.map_toArray, List.map_cons, List.map_nil]); first | done | rfl | (simp only [List.length_drop, List.length_take]; rfl)) ?_; (with_reducible refine (laws_big.calls _ _ l0 true _ ?side1 ?side2 A2.out).mono ?_); (case side1 => repeat (first | exact HR0.out | (with_reducible refine Kd.C_alloc ?_ _) | (with_reducible refine Kd.C_drewN ?_ _) | (with_reducible refine Kd.C_drew ?_))); (case side2 => exact HC0.out); rintro e w' ⟨rfl, ⟨nd, rfl⟩⟩; refine ⟨_, rfl, ?_⟩))
    go_ret
    exact ⟨by first | rfl | (simp [errW_none, errW_some] <;> rfl) | (simp [*, errW_none, errW_some] <;> rfl), by repeat (first | (with_reducible first | exact HB.out | apply below_alloc | apply pw_below_drewN | apply below_drew1) | exact HB.out)⟩
  · replace c3 := Bool.eq_false_iff.mpr c3
    subst c3
    have H1 : ((spec_DrawSidesOf.f k l0).bind fun bt327 => ((impl_SidesOf.f bt327.1 bt327.2.1 bt327.2.2.1 bt327.2.2.2.1 bt327.2.2.2.2).bind fun bt333 => ((spec_SidesOf.f bt327.1 bt327.2.1 bt327.2.2.1 bt327.2.2.2.1 bt327.2.2.2.2).bind fun bt339 => (if (!(bt333.1 == bt339.1) || (!(bt333.2.1 == bt339.2.1))) = true then (laws_FnSides.j0 k bt327.1 true bt327.2.1 bt327.2.2.1 bt333.1 bt333.2.1 bt333.2.2.1 bt333.2.2.2) else (laws_FnSides.j0 k bt327.1 (!(bt333.2.2.1 == bt339.2.2.1) || (!(bt333.2.2.2 == bt339.2.2.2))) bt327.2.1 bt327.2.2.1 bt333.1 bt333.2.1 bt333.2.2.1 bt333.2.2.2))))) = some r := by rw [if_neg (show ¬ (false = true) by decide)] at H; exact H
    clear H
    have H := H1
    clear H1
    replace H := Option.bind_eq_some_iff.mp H
    obtain ⟨⟨t327, t328, t329, t330, t331⟩, A40, H⟩ := H
    replace H : ((impl_SidesOf.f t327 t328 t329 t330 t331).bind fun bt333 => ((spec_SidesOf.f t327 t328 t329 t330 t331).bind fun bt339 => (if (!(bt333.1 == bt339.1) || (!(bt333.2.1 == bt339.2.1))) = true then (laws_FnSides.j0 k t327 true t328 t329 bt333.1 bt333.2.1 bt333.2.2.1 bt333.2.2.2) else (laws_FnSides.j0 k t327 (!(bt333.2.2.1 == bt339.2.2.1) || (!(bt333.2.2.2 == bt339.2.2.2))) t328 t329 bt333.1 bt333.2.1 bt333.2.2.1 bt333.2.2.2)))) = some r := H
    have A4 := Aside0.mk A40
    clear A40
    replace H := Option.bind_eq_some_iff.mp H
    obtain ⟨⟨t333, t334, t335, t336⟩, A50, H⟩ := H
    replace H : ((spec_SidesOf.f t327 t328 t329 t330 t331).bind fun bt339 => (if (!(t333 == bt339.1) || (!(t334 == bt339.2.1))) = true then (laws_FnSides.j0 k t327 true t328 t329 t333 t334 t335 t336) else (laws_FnSides.j0 k t327 (!(t335 == bt339.2.2.1) || (!(t336 == bt339.2.2.2))) t328 t329 t333 t334 t335 t336))) = some r := H
    have A5 := Aside0.mk A50
    clear A50
    replace H := Option.bind_eq_some_iff.mp H
    obtain ⟨⟨t339, t340, t341, t342⟩, A60, H⟩ := H
    replace H : (if (!(t333 == t339) || (!(t334 == t340))) = true then (laws_FnSides.j0 k t327 true t328 t329 t333 t334 t335 t336) else (laws_FnSides.j0 k t327 (!(t335 == t341) || (!(t336 == t342))) t328 t329 t333 t334 t335 t336)) = some r := H
    have A6 := Aside0.mk A60
    clear A60
    have HC7 := Aside0.mk H
    clear H
    go_enter Try.func4, Try.ntmps4
    go_upto_region 6 with (first | ((with_reducible refine gate_callee (f := 22) rfl ?_); refine goesL_ (some 12) rfl rfl Try.func22 (by kernel_rfl) rfl #[.slice A0 l0.length c0] rfl (by (try simp only [List.map_toArray, List.map_cons, List.map_nil]); first | done | rfl | (simp only [List.length_drop, List.length_take]; rfl)) ?_; (with_reducible refine (laws_big.calls _ _ l0 false _ ?side1 ?side2 A2.out).mono ?_); (case side1 => repeat (first | exact HR0.out | (with_reducible refine Kd.C_alloc ?_ _) | (with_reducible refine Kd.C_drewN ?_ _) | (with_reducible refine Kd.C_drew ?_))); (case side2 => exact HC0.out); rintro e w' ⟨rfl, ⟨nd, rfl⟩⟩; refine ⟨_, rfl, ?_⟩) | ((with_reducible refine gate_callee (f := 23) rfl ?_); refine goesL_ (some 15) rfl rfl Try.func23 (by kernel_rfl) rfl #[.slice A0 l0.length c0] rfl (by (try simp only [List.map_toArray, List.map_cons, List.map_nil]); first | done | rfl | (simp only [List.length_drop, List.length_take]; rfl)) ?_; (with_reducible refine (spec_DrawSidesOf.calls k _ _ l0 t327 t328 t329 t330 t331 _ ?side1 ?side2 A4.out).mono ?_); (case side1 => repeat (first | exact HR0.out | (with_reducible refine Kd.C_alloc ?_ _) | (with_reducible refine Kd.C_drewN ?_ _) | (with_reducible refine Kd.C_drew ?_))); (case side2 => exact HC0.out); rintro e w8 ⟨rfl, hb⟩; refine ⟨_, rfl, ?_⟩; have n0_ := Aside0.mk (below_step (by repeat (first | (with_reducible first | exact HB.out | apply below_alloc | apply pw_below_drewN | apply below_drew1) | exact HB.out)) hb); clear HB; have HB := n0_; clear n0_; (try clear hb); (try clear hb2); (try clear hk); (try clear hi)) | ((with_reducible refine gate_dst (N := 4) rfl ?_); refine box_event ?hg (N := 4) ?hd (cs := #[.int .i64 0, .int .i64 0]) (t := 34) ?hr ?_; (case hd => rfl); (case hg => rfl); (case hr => first | (go_simp; done) | (go_simp; rfl)); intro gb332 hg w9 hbox hb; have n0_ := Aside0.mk (below_step (by repeat (first | (with_reducible first | exact HB.out | apply below_alloc | apply pw_below_drewN | apply below_drew1) | exact HB.out)) hb); have n1_ := Aside0.mk (hbox); have n2_ := Aside0.mk ((by rw [hg]; exact (below_size (by repeat (first | (with_reducible first | exact HB.out | apply below_alloc | apply pw_below_drewN | apply below_drew1) | exact HB.out))) : w.heap.size ≤ gb332)); have n3_ := Aside0.mk ((by rw [hg]; exact (below_size (by repeat (first | (with_reducible first | exact HB.out | apply below_alloc | apply pw_below_drewN | apply below_drew1) | exact HB.out))) : w.heap.size ≤ gb332)); clear HB; have HB := n0_; have BK332 := n1_; have GW332 := n2_; have GE332 := n3_; clear n0_ n1_ n2_ n3_; clear hb hbox hg; have hcz10_0 : w9.cell? ⟨gb332, 0, none⟩ = some (.int .i64 0) := (blk_cell BK332.out 0).trans rfl; have hcz10_1 : w9.cell? ⟨gb332, 1, none⟩ = some (.int .i64 0) := (blk_cell BK332.out 1).trans rfl; have hfz10_0 := blk_frozen BK332.out 0; have hfz10_1 := blk_frozen BK332.out 1) | ((with_reducible refine gate_callee (f := 24) rfl ?_); refine goesL_ (some 25) rfl rfl Try.func24 (by kernel_rfl) rfl #[.int .i64 t327, .agg #[.int .i64 t328, .int .i64 t329], .int .i64 t330, .int .i64 t331] rfl (by (try simp only [List.map_toArray, List.map_cons, List.map_nil]); first | done | rfl | (simp only [List.length_drop, List.length_take]; rfl)) ?_; (with_reducible refine (impl_SidesOf.calls t327 t328 t329 t330 t331 t333 t334 t335 t336 _ A5.out).mono ?_); rintro e w11 ⟨rfl, hb⟩; refine ⟨_, rfl, ?_⟩; have n0_ := Aside0.mk (blk_below (g := gb332) (o := .cells #[.int .i64 t328, .int .i64 t329] 34 (0, 0)) (by (with_reducible repeat (first | refine blk_drewN ?_ _ | refine blk_drew ?_ | refine blk_alloc ?_ _)); refine blk_put (cs := #[.int .i64 t328, .int .i64 0]) ?_ 1 _ rfl; (with_reducible repeat (first | refine blk_drewN ?_ _ | refine blk_drew ?_ | refine blk_alloc ?_ _)); refine blk_put (cs := #[.int .i64 0, .int .i64 0]) ?_ 0 _ rfl; (with_reducible repeat (first | refine blk_drewN ?_ _ | refine blk_drew ?_ | refine blk_alloc ?_ _)); exact BK332.out) hb); have n1_ := Aside0.mk (below_step (by repeat (first | (with_reducible first | exact HB.out | apply below_alloc | apply pw_below_drewN | apply below_drew1 | refine below_set ?_ GE332.out) | exact HB.out)) hb); clear BK332; clear HB; have BK332 := n0_; have HB := n1_; clear n0_ n1_; (try clear hb); (try clear hb2); (try clear hk); (try clear hi)) | ((with_reducible refine gate_dst (N := 7) rfl ?_); refine box_event ?hg (N := 7) ?hd (cs := #[.int .i64 0, .int .i64 0]) (t := 34) ?hr ?_; (case hd => rfl); (case hg => rfl); (case hr => first | (go_simp; done) | (go_simp; rfl)); intro gb337 hg w12 hbox hb; have n0_ := Aside0.mk (blk_below (g := gb332) (o := .cells #[.int .i64 t328, .int .i64 t329] 34 (0, 0)) (by (with_reducible repeat (first | refine blk_drewN ?_ _ | refine blk_drew ?_ | refine blk_alloc ?_ _)); exact BK332.out) hb); have n1_ := Aside0.mk (below_step (by repeat (first | (with_reducible first | exact HB.out | apply below_alloc | apply pw_below_drewN | apply below_drew1 | refine below_set ?_ GE332.out) | exact HB.out)) hb); have n2_ := Aside0.mk (hbox); have n3_ := Aside0.mk ((by rw [hg]; exact (below_size (by repeat (first | (with_reducible first | exact HB.out | apply below_alloc | apply pw_below_drewN | apply below_drew1 | refine below_set ?_ GE332.out) | exact HB.out))) : w.heap.size ≤ gb337)); have n4_ := Aside0.mk ((by rw [hg]; exact (below_size (by repeat (first | (with_reducible first | exact HB.out | apply below_alloc | apply pw_below_drewN | apply below_drew1 | refine below_set ?_ GE332.out) | exact HB.out))) : w.heap.size ≤ gb337)); have n5_ := Aside0.mk ((by rw [hg]; exact Nat.ne_of_lt (blk_lt (g := gb332) (o := .cells #[.int .i64 t328, .int .i64 t329] 34 (0, 0)) (by (with_reducible repeat (first | refine blk_drewN ?_ _ | refine blk_drew ?_ | refine blk_alloc ?_ _)); exact BK332.out)) : gb332 ≠ gb337)); have n6_ := Aside0.mk ((by rw [hg]; exact Nat.ne_of_gt (blk_lt (g := gb332) (o := .cells #[.int .i64 t328, .int .i64 t329] 34 (0, 0)) (by (with_reducible repeat (first | refine blk_drewN ?_ _ | refine blk_drew ?_ | refine blk_alloc ?_ _)); exact BK332.out)) : gb337 ≠ gb332)); clear BK332; clear HB; have BK332 := n0_; have HB := n1_; have BK337 := n2_; have GW337 := n3_; have GE337 := n4_; have NB332_337 := n5_; have NB337_332 := n6_; clear n0_ n1_ n2_ n3_ n4_ n5_ n6_; clear hb hbox hg) | ((with_reducible refine gate_dst (N := 8) rfl ?_); refine box_event ?hg (N := 8) ?hd (cs := #[.int .i64 0, .int .i64 0]) (t := 34) ?hr ?_; (case hd => rfl); (case hg => rfl); (case hr => first | (go_simp; done) | (go_simp; rfl)); intro gb338 hg w13 hbox hb; have n0_ := Aside0.mk (blk_below (g := gb332) (o := .cells #[.int .i64 t328, .int .i64 t329] 34 (0, 0)) (by (with_reducible repeat (first | refine blk_drewN ?_ _ | refine blk_drew ?_ | refine blk_alloc ?_ _)); exact BK332.out) hb); have n1_ := Aside0.mk (blk_below (g := gb337) (o := .cells #[.int .i64 0, .int .i64 0] 34 (0, 0)) (by (with_reducible repeat (first | refine blk_drewN ?_ _ | refine blk_drew ?_ | refine blk_alloc ?_ _)); exact BK337.out) hb); have n2_ := Aside0.mk (below_step (by repeat (first | (with_reducible first | exact HB.out | apply below_alloc | apply pw_below_drewN | apply below_drew1 | refine below_set ?_ GE332.out | refine below_set ?_ GE337.out) | exact HB.out)) hb); have n3_ := Aside0.mk (hbox); have n4_ := Aside0.mk ((by rw [hg]; exact (below_size (by repeat (first | (with_reducible first | exact HB.out | apply below_alloc | apply pw_below_drewN | apply below_drew1 | refine below_set ?_ GE332.out | refine below_set ?_ GE337.out) | exact HB.out))) : w.heap.size ≤ gb338)); have n5_ := Aside0.mk ((by rw [hg]; exact (below_size (by repeat (first | (with_reducible first | exact HB.out | apply below_alloc | apply pw_below_drewN | apply below_drew1 | refine below_set ?_ GE332.out | refine below_set ?_ GE337.out) | exact HB.out))) : w.heap.size ≤ gb338)); have n6_ := Aside0.mk ((by rw [hg]; exact Nat.ne_of_lt (blk_lt (g := gb332) (o := .cells #[.int .i64 t328, .int .i64 t329] 34 (0, 0)) (by (with_reducible repeat (first | refine blk_drewN ?_ _ | refine blk_drew ?_ | refine blk_alloc ?_ _)); exact BK332.out)) : gb332 ≠ gb338)); have n7_ := Aside0.mk ((by rw [hg]; exact Nat.ne_of_gt (blk_lt (g := gb332) (o := .cells #[.int .i64 t328, .int .i64 t329] 34 (0, 0)) (by (with_reducible repeat (first | refine blk_drewN ?_ _ | refine blk_drew ?_ | refine blk_alloc ?_ _)); exact BK332.out)) : gb338 ≠ gb332)); have n8_ := Aside0.mk ((by rw [hg]; exact Nat.ne_of_lt (blk_lt (g := gb337) (o := .cells #[.int .i64 0, .int .i64 0] 34 (0, 0)) (by (with_reducible repeat (first | refine blk_drewN ?_ _ | refine blk_drew ?_ | refine blk_alloc ?_ _)); exact BK337.out)) : gb337 ≠ gb338)); have n9_ := Aside0.mk ((by rw [hg]; exact Nat.ne_of_gt (blk_lt (g := gb337) (o := .cells #[.int .i64 0, .int .i64 0] 34 (0, 0)) (by (with_reducible repeat (first | refine blk_drewN ?_ _ | refine blk_drew ?_ | refine blk_alloc ?_ _)); exact BK337.out)) : gb338 ≠ gb337)); clear BK332; clear BK337; clear HB; have BK332 := n0_; have BK337 := n1_; have HB := n2_; have BK338 := n3_; have GW338 := n4_; have GE338 := n5_; have NB332_338 := n6_; have NB338_332 := n7_; have NB337_338 := n8_; have NB338_337 := n9_; clear n0_ n1_ n2_ n3_ n4_ n5_ n6_ n7_ n8_ n9_; clear hb hbox hg; have hnb14 := NB337_332.out; have hnc14 := NB332_337.out; have hnb15 := NB337_338.out; have hnc15 := NB338_337.out; have hcz16_0 : w13.cell? ⟨gb337, 0, none⟩ = some (.int .i64 0) := (blk_cell BK337.out 0).trans rfl; have hcz16_1 : w13.cell? ⟨gb337, 1, none⟩ = some (.int .i64 0) := (blk_cell BK337.out 1).trans rfl; have hfz16_0 := blk_frozen BK337.out 0; have hfz16_1 := blk_frozen BK337.out 1; have hnb17 := NB338_332.out; have hnc17 := NB332_338.out; have hcz18_0 : w13.cell? ⟨gb338, 0, none⟩ = some (.int .i64 0) := (blk_cell BK338.out 0).trans rfl; have hcz18_1 : w13.cell? ⟨gb338, 1, none⟩ = some (.int .i64 0) := (blk_cell BK338.out 1).trans rfl; have hfz18_0 := blk_frozen BK338.out 0; have hfz18_1 := blk_frozen BK338.out 1; have hcz19_0 : w13.cell? ⟨gb332, 0, none⟩ = some (.int .i64 t328) := (blk_cell BK332.out 0).trans rfl; have hcz19_1 : w13.cell? ⟨gb332, 1, none⟩ = some (.int .i64 t329) := (blk_cell BK332.out 1).trans rfl; have hfz19_0 := blk_frozen BK332.out 0; have hfz19_1 := blk_frozen BK332.out 1) | ((with_reducible refine gate_callee (f := 25) rfl ?_); refine goesL_ (some 33) rfl rfl Try.func25 (by kernel_rfl) rfl #[.int .i64 t327, .agg #[.int .i64 t328, .int .i64 t329], .int .i64 t330, .int .i64 t331] rfl (by (try simp only [List.map_toArray, List.map_cons, List.map_nil]); first | done | rfl | (simp only [List.length_drop, List.length_take]; rfl)) ?_; (with_reducible refine (spec_SidesOf.calls t327 t328 t329 t330 t331 t339 t340 t341 t342 _ A6.out).mono ?_); rintro e w20 ⟨rfl, hb⟩; refine ⟨_, rfl, ?_⟩; have n0_ := Aside0.mk (blk_below (g := gb332) (o := .cells #[.int .i64 t328, .int .i64 t329] 34 (0, 0)) (by (with_reducible repeat (first | refine blk_drewN ?_ _ | refine blk_drew ?_ | refine blk_alloc ?_ _)); refine blk_far ?_ NB332_338.out _; (with_reducible repeat (first | refine blk_drewN ?_ _ | refine blk_drew ?_ | refine blk_alloc ?_ _)); refine blk_far ?_ NB332_338.out _; (with_reducible repeat (first | refine blk_drewN ?_ _ | refine blk_drew ?_ | refine blk_alloc ?_ _)); refine blk_far ?_ NB332_337.out _; (with_reducible repeat (first | refine blk_drewN ?_ _ | refine blk_drew ?_ | refine blk_alloc ?_ _)); refine blk_far ?_ NB332_337.out _; (with_reducible repeat (first | refine blk_drewN ?_ _ | refine blk_drew ?_ | refine blk_alloc ?_ _)); exact BK332.out) hb); have n1_ := Aside0.mk (blk_below (g := gb337) (o := .cells #[.int .i64 t333, .int .i64 t334] 34 (0, 0)) (by (with_reducible repeat (first | refine blk_drewN ?_ _ | refine blk_drew ?_ | refine blk_alloc ?_ _)); refine blk_far ?_ NB337_338.out _; (with_reducible repeat (first | refine blk_drewN ?_ _ | refine blk_drew ?_ | refine blk_alloc ?_ _)); refine blk_far ?_ NB337_338.out _; (with_reducible repeat (first | refine blk_drewN ?_ _ | refine blk_drew ?_ | refine blk_alloc ?_ _)); refine blk_put (cs := #[.int .i64 t333, .int .i64 0]) ?_ 1 _ rfl; (with_reducible repeat (first | refine blk_drewN ?_ _ | refine blk_drew ?_ | refine blk_alloc ?_ _)); refine blk_put (cs := #[.int .i64 0, .int .i64 0]) ?_ 0 _ rfl; (with_reducible repeat (first | refine blk_drewN ?_ _ | refine blk_drew ?_ | refine blk_alloc ?_ _)); exact BK337.out) hb); have n2_ := Aside0.mk (blk_below (g := gb338) (o := .cells #[.int .i64 t335, .int .i64 t336] 34 (0, 0)) (by (with_reducible repeat (first | refine blk_drewN ?_ _ | refine blk_drew ?_ | refine blk_alloc ?_ _)); refine blk_put (cs := #[.int .i64 t335, .int .i64 0]) ?_ 1 _ rfl; (with_reducible repeat (first | refine blk_drewN ?_ _ | refine blk_drew ?_ | refine blk_alloc ?_ _)); refine blk_put (cs := #[.int .i64 0, .int .i64 0]) ?_ 0 _ rfl; (with_reducible repeat (first | refine blk_drewN ?_ _ | refine blk_drew ?_ | refine blk_alloc ?_ _)); refine blk_far ?_ NB338_337.out _; (with_reducible repeat (first | refine blk_drewN ?_ _ | refine blk_drew ?_ | refine blk_alloc ?_ _)); refine blk_far ?_ NB338_337.out _; (with_reducible repeat (first | refine blk_drewN ?_ _ | refine blk_drew ?_ | refine blk_alloc ?_ _)); exact BK338.out) hb); have n3_ := Aside0.mk (below_step (by repeat (first | (with_reducible first | exact HB.out | apply below_alloc | apply pw_below_drewN | apply below_drew1 | refine below_set ?_ GE332.out | refine below_set ?_ GE337.out | refine below_set ?_ GE338.out) | exact HB.out)) hb); clear BK332; clear BK337; clear BK338; clear HB; have BK332 := n0_; have BK337 := n1_; have BK338 := n2_; have HB := n3_; clear n0_ n1_ n2_ n3_; (try clear hb); (try clear hb2); (try clear hk); (try clear hi)) | ((with_reducible refine gate_dst (N := 9) rfl ?_); refine box_event ?hg (N := 9) ?hd (cs := #[.int .i64 0, .int .i64 0]) (t := 34) ?hr ?_; (case hd => rfl); (case hg => rfl); (case hr => first | (go_simp; done) | (go_simp; rfl)); intro gb343 hg w21 hbox hb; have n0_ := Aside0.mk (blk_below (g := gb332) (o := .cells #[.int .i64 t328, .int .i64 t329] 34 (0, 0)) (by (with_reducible repeat (first | refine blk_drewN ?_ _ | refine blk_drew ?_ | refine blk_alloc ?_ _)); exact BK332.out) hb); have n1_ := Aside0.mk (blk_below (g := gb337) (o := .cells #[.int .i64 t333, .int .i64 t334] 34 (0, 0)) (by (with_reducible repeat (first | refine blk_drewN ?_ _ | refine blk_drew ?_ | refine blk_alloc ?_ _)); exact BK337.out) hb); have n2_ := Aside0.mk (blk_below (g := gb338) (o := .cells #[.int .i64 t335, .int .i64 t336] 34 (0, 0)) (by (with_reducible repeat (first | refine blk_drewN ?_ _ | refine blk_drew ?_ | refine blk_alloc ?_ _)); exact BK338.out) hb); have n3_ := Aside0.mk (below_step (by repeat (first | (with_reducible first | exact HB.out | apply below_alloc | apply pw_below_drewN | apply below_drew1 | refine below_set ?_ GE332.out | refine below_set ?_ GE337.out | refine below_set ?_ GE338.out) | exact HB.out)) hb); have n4_ := Aside0.mk (hbox); have n5_ := Aside0.mk ((by rw [hg]; exact (below_size (by repeat (first | (with_reducible first | exact HB.out | apply below_alloc | apply pw_below_drewN | apply below_drew1 | refine below_set ?_ GE332.out | refine below_set ?_ GE337.out | refine below_set ?_ GE338.out) | exact HB.out))) : w.heap.size ≤ gb343)); have n6_ := Aside0.mk ((by rw [hg]; exact (below_size (by repeat (first | (with_reducible first | exact HB.out | apply below_alloc | apply pw_below_drewN | apply below_drew1 | refine below_set ?_ GE332.out | refine below_set ?_ GE337.out | refine below_set ?_ GE338.out) | exact HB.out))) : w.heap.size ≤ gb343)); have n7_ := Aside0.mk ((by rw [hg]; exact Nat.ne_of_lt (blk_lt (g := gb332) (o := .cells #[.int .i64 t328, .int .i64 t329] 34 (0, 0)) (by (with_reducible repeat (first | refine blk_drewN ?_ _ | refine blk_drew ?_ | refine blk_alloc ?_ _)); exact BK332.out)) : gb332 ≠ gb343)); have n8_ := Aside0.mk ((by rw [hg]; exact Nat.ne_of_gt (blk_lt (g := gb332) (o := .cells #[.int .i64 t328, .int .i64 t329] 34 (0, 0)) (by (with_reducible repeat (first | refine blk_drewN ?_ _ | refine blk_drew ?_ | refine blk_alloc ?_ _)); exact BK332.out)) : gb343 ≠ gb332)); have n9_ := Aside0.mk ((by rw [hg]; exact Nat.ne_of_lt (blk_lt (g := gb337) (o := .cells #[.int .i64 t333, .int .i64 t334] 34 (0, 0)) (by (with_reducible repeat (first | refine blk_drewN ?_ _ | refine blk_drew ?_ | refine blk_alloc ?_ _)); exact BK337.out)) : gb337 ≠ gb343)); have n10_ := Aside0.mk ((by rw [hg]; exact Nat.ne_of_gt (blk_lt (g := gb337) (o := .cells #[.int .i64 t333, .int .i64 t334] 34 (0, 0)) (by (with_reducible repeat (first | refine blk_drewN ?_ _ | refine blk_drew ?_ | refine blk_alloc ?_ _)); exact BK337.out)) : gb343 ≠ gb337)); have n11_ := Aside0.mk ((by rw [hg]; exact Nat.ne_of_lt (blk_lt (g := gb338) (o := .cells #[.int .i64 t335, .int .i64 t336] 34 (0, 0)) (by (with_reducible repeat (first | refine blk_drewN ?_ _ | refine blk_drew ?_ | refine blk_alloc ?_ _)); exact BK338.out)) : gb338 ≠ gb343)); have n12_ := Aside0.mk ((by rw [hg]; exact Nat.ne_of_gt (blk_lt (g := gb338) (o := .cells #[.int .i64 t335, .int .i64 t336] 34 (0, 0)) (by (with_reducible repeat (first | refine blk_drewN ?_ _ | refine blk_drew ?_ | refine blk_alloc ?_ _)); exact BK338.out)) : gb343 ≠ gb338)); clear BK332; clear BK337; clear BK338; clear HB; have BK332 := n0_; have BK337 := n1_; have BK338 := n2_; have HB := n3_; have BK343 := n4_; have GW343 := n5_; have GE343 := n6_; have NB332_343 := n7_; have NB343_332 := n8_; have NB337_343 := n9_; have NB343_337 := n10_; have NB338_343 := n11_; have NB343_338 := n12_; clear n0_ n1_ n2_ n3_ n4_ n5_ n6_ n7_ n8_ n9_ n10_ n11_ n12_; clear hb hbox hg) | ((with_reducible refine gate_dst (N := 10) rfl ?_); refine box_event ?hg (N := 10) ?hd (cs := #[.int .i64 0, .int .i64 0]) (t := 34) ?hr ?_; (case hd => rfl); (case hg => rfl); (case hr => first | (go_simp; done) | (go_simp; rfl)); intro gb344 hg w22 hbox hb; have n0_ := Aside0.mk (blk_below (g := gb332) (o := .cells #[.int .i64 t328, .int .i64 t329] 34 (0, 0)) (by (with_reducible repeat (first | refine blk_drewN ?_ _ | refine blk_drew ?_ | refine blk_alloc ?_ _)); exact BK332.out) hb); have n1_ := Aside0.mk (blk_below (g := gb337) (o := .cells #[.int .i64 t333, .int .i64 t334] 34 (0, 0)) (by (with_reducible repeat (first | refine blk_drewN ?_ _ | refine blk_drew ?_ | refine blk_alloc ?_ _)); exact BK337.out) hb); have n2_ := Aside0.mk (blk_below (g := gb338) (o := .cells #[.int .i64 t335, .int .i64 t336] 34 (0, 0)) (by (with_reducible repeat (first | refine blk_drewN ?_ _ | refine blk_drew ?_ | refine blk_alloc ?_ _)); exact BK338.out) hb); have n3_ := Aside0.mk (blk_below (g := gb343) (o := .cells #[.int .i64 0, .int .i64 0] 34 (0, 0)) (by (with_reducible repeat (first | refine blk_drewN ?_ _ | refine blk_drew ?_ | refine blk_alloc ?_ _)); exact BK343.out) hb); have n4_ := Aside0.mk (below_step (by repeat (first | (with_reducible first | exact HB.out | apply below_alloc | apply pw_below_drewN | apply below_drew1 | refine below_set ?_ GE332.out | refine below_set ?_ GE337.out | refine below_set ?_ GE338.out | refine below_set ?_ GE343.out) | exact HB.out)) hb); have n5_ := Aside0.mk (hbox); have n6_ := Aside0.mk ((by rw [hg]; exact (below_size (by repeat (first | (with_reducible first | exact HB.out | apply below_alloc | apply pw_below_drewN | apply below_drew1 | refine below_set ?_ GE332.out | refine below_set ?_ GE337.out | refine below_set ?_ GE338.out | refine below_set ?_ GE343.out) | exact HB.out))) : w.heap.size ≤ gb344)); have n7_ := Aside0.mk ((by rw [hg]; exact (below_size (by repeat (first | (with_reducible first | exact HB.out | apply below_alloc | apply pw_below_drewN | apply below_drew1 | refine below_set ?_ GE332.out | refine below_set ?_ GE337.out | refine below_set ?_ GE338.out | refine below_set ?_ GE343.out) | exact HB.out))) : w.heap.size ≤ gb344)); have n8_ := Aside0.mk ((by rw [hg]; exact Nat.ne_of_lt (blk_lt (g := gb332) (o := .cells #[.int .i64 t328, .int .i64 t329] 34 (0, 0)) (by (with_reducible repeat (first | refine blk_drewN ?_ _ | refine blk_drew ?_ | refine blk_alloc ?_ _)); exact BK332.out)) : gb332 ≠ gb344)); have n9_ := Aside0.mk ((by rw [hg]; exact Nat.ne_of_gt (blk_lt (g := gb332) (o := .cells #[.int .i64 t328, .int .i64 t329] 34 (0, 0)) (by (with_reducible repeat (first | refine blk_drewN ?_ _ | refine blk_drew ?_ | refine blk_alloc ?_ _)); exact BK332.out)) : gb344 ≠ gb332)); have n10_ := Aside0.mk ((by rw [hg]; exact Nat.ne_of_lt (blk_lt (g := gb337) (o := .cells #[.int .i64 t333, .int .i64 t334] 34 (0, 0)) (by (with_reducible repeat (first | refine blk_drewN ?_ _ | refine blk_drew ?_ | refine blk_alloc ?_ _)); exact BK337.out)) : gb337 ≠ gb344)); have n11_ := Aside0.mk ((by rw [hg]; exact Nat.ne_of_gt (blk_lt (g := gb337) (o := .cells #[.int .i64 t333, .int .i64 t334] 34 (0, 0)) (by (with_reducible repeat (first | refine blk_drewN ?_ _ | refine blk_drew ?_ | refine blk_alloc ?_ _)); exact BK337.out)) : gb344 ≠ gb337)); have n12_ := Aside0.mk ((by rw [hg]; exact Nat.ne_of_lt (blk_lt (g := gb338) (o := .cells #[.int .i64 t335, .int .i64 t336] 34 (0, 0)) (by (with_reducible repeat (first | refine blk_drewN ?_ _ | refine blk_drew ?_ | refine blk_alloc ?_ _)); exact BK338.out)) : gb338 ≠ gb344)); have n13_ := Aside0.mk ((by rw [hg]; exact Nat.ne_of_gt (blk_lt (g := gb338) (o := .cells #[.int .i64 t335, .int .i64 t336] 34 (0, 0)) (by (with_reducible repeat (first | refine blk_drewN ?_ _ | refine blk_drew ?_ | refine blk_alloc ?_ _)); exact BK338.out)) : gb344 ≠ gb338)); have n14_ := Aside0.mk ((by rw [hg]; exact Nat.ne_of_lt (blk_lt (g := gb343) (o := .cells #[.int .i64 0, .int .i64 0] 34 (0, 0)) (by (with_reducible repeat (first | refine blk_drewN ?_ _ | refine blk_drew ?_ | refine blk_alloc ?_ _)); exact BK343.out)) : gb343 ≠ gb344)); have n15_ := Aside0.mk ((by rw [hg]; exact Nat.ne_of_gt (blk_lt (g := gb343) (o := .cells #[.int .i64 0, .int .i64 0] 34 (0, 0)) (by (with_reducible repeat (first | refine blk_drewN ?_ _ | refine blk_drew ?_ | refine blk_alloc ?_ _)); exact BK343.out)) : gb344 ≠ gb343)); clear BK332; clear BK337; clear BK338; clear BK343; clear HB; have BK332 := n0_; have BK337 := n1_; have BK338 := n2_; have BK343 := n3_; have HB := n4_; have BK344 := n5_; have GW344 := n6_; have GE344 := n7_; have NB332_344 := n8_; have NB344_332 := n9_; have NB337_344 := n10_; have NB344_337 := n11_; have NB338_344 := n12_; have NB344_338 := n13_; have NB343_344 := n14_; have NB344_343 := n15_; clear n0_ n1_ n2_ n3_ n4_ n5_ n6_ n7_ n8_ n9_ n10_ n11_ n12_ n13_ n14_ n15_; clear hb hbox hg; have hnb23 := NB343_332.out; have hnc23 := NB332_343.out; have hnb24 := NB343_337.out; have hnc24 := NB337_343.out; have hnb25 := NB343_338.out; have hnc25 := NB338_343.out; have hnb26 := NB343_344.out; have hnc26 := NB344_343.out; have hcz27_0 : w22.cell? ⟨gb343, 0, none⟩ = some (.int .i64 0) := (blk_cell BK343.out 0).trans rfl; have hcz27_1 : w22.cell? ⟨gb343, 1, none⟩ = some (.int .i64 0) := (blk_cell BK343.out 1).trans rfl; have hfz27_0 := blk_frozen BK343.out 0; have hfz27_1 := blk_frozen BK343.out 1; have hnb28 := NB344_332.out; have hnc28 := NB332_344.out; have hnb29 := NB344_337.out; have hnc29 := NB337_344.out; have hnb30 := NB344_338.out; have hnc30 := NB338_344.out; have hcz31_0 : w22.cell? ⟨gb344, 0, none⟩ = some (.int .i64 0) := (blk_cell BK344.out 0).trans rfl; have hcz31_1 : w22.cell? ⟨gb344, 1, none⟩ = some (.int .i64 0) := (blk_cell BK344.out 1).trans rfl; have hfz31_0 := blk_frozen BK344.out 0; have hfz31_1 := blk_frozen BK344.out 1))
    (try simp only [Act.put, List.setIfInBounds_toArray, List.set_cons_zero, List.set_cons_succ])
    go_cut [43] (fun v43 wc => ∃ (kq : Nat) (x43_6 : Bool), v43 = .bool x43_6 ∧ Aside0 (laws_FnSides.j0 kq t327 x43_6 t328 t329 t333 t334 t335 t336 = some r) ∧ Aside0 (kq ≤ k) ∧ Aside0 (wc.heap[gb332]? = some (.cells #[.int .i64 t328, .int .i64 t329] 34 (0, 0))) ∧ Aside0 (wc.heap[gb337]? = some (.cells #[.int .i64 t333, .int .i64 t334] 34 (0, 0))) ∧ Aside0 (wc.heap[gb338]? = some (.cells #[.int .i64 t335, .int .i64 t336] 34 (0, 0))) ∧ Aside0 (wc.heap[gb343]? = some (.cells #[.int .i64 t339, .int .i64 t340] 34 (0, 0))) ∧ Aside0 (wc.heap[gb344]? = some (.cells #[.int .i64 t341, .int .i64 t342] 34 (0, 0))) ∧ Aside0 (Below w.heap.size w wc))
    case first =>
      have H := HC7.out
      clear HC7
      by_cases c32 : (!(t333 == t339) || (!(t334 == t340))) = true
      · rw [if_pos c32] at H
        have c32b0 : (!(t333 == t339) || (!(t334 == t340))) = true := c32
        clear c32
        (first | rw [c32b0] | (simp only [i64_w, i32_w]; rw [c32b0]) | skip)
        have H' := Aside0.mk H
        clear H
        have hnb33 := NB337_332.out
        have hnc33 := NB332_337.out
        have hnb34 := NB337_338.out
        have hnc34 := NB338_337.out
        have hnb35 := NB337_343.out
        have hnc35 := NB343_337.out
        have hnb36 := NB337_344.out
        have hnc36 := NB344_337.out
        have hcz37_0 : w22.cell? ⟨gb337, 0, none⟩ = some (.int .i64 t333) := (blk_cell BK337.out 0).trans rfl
        have hcz37_1 : w22.cell? ⟨gb337, 1, none⟩ = some (.int .i64 t334) := (blk_cell BK337.out 1).trans rfl
        have hfz37_0 := blk_frozen BK337.out 0
        have hfz37_1 := blk_frozen BK337.out 1
        have hnb38 := NB343_332.out
        have hnc38 := NB332_343.out
        have hnb39 := NB343_338.out
        have hnc39 := NB338_343.out
        have hnb40 := NB343_344.out
        have hnc40 := NB344_343.out
        have hcz41_0 : w22.cell? ⟨gb343, 0, none⟩ = some (.int .i64 0) := (blk_cell BK343.out 0).trans rfl
        have hcz41_1 : w22.cell? ⟨gb343, 1, none⟩ = some (.int .i64 0) := (blk_cell BK343.out 1).trans rfl
        have hfz41_0 := blk_frozen BK343.out 0
        have hfz41_1 := blk_frozen BK343.out 1
        go_wp2
        go_meet
        case rel => exact ⟨_, (true), (by first | rfl | (simp; done) | (simp [*]; done)), H', ⟨by first | omega | exact Nat.le_refl _⟩, ⟨by (with_reducible repeat (first | refine blk_drewN ?_ _ | refine blk_drew ?_ | refine blk_alloc ?_ _)); refine blk_far ?_ NB332_344.out _; (with_reducible repeat (first | refine blk_drewN ?_ _ | refine blk_drew ?_ | refine blk_alloc ?_ _)); refine blk_far ?_ NB332_344.out _; (with_reducible repeat (first | refine blk_drewN ?_ _ | refine blk_drew ?_ | refine blk_alloc ?_ _)); refine blk_far ?_ NB332_343.out _; (with_reducible repeat (first | refine blk_drewN ?_ _ | refine blk_drew ?_ | refine blk_alloc ?_ _)); refine blk_far ?_ NB332_343.out _; (with_reducible repeat (first | refine blk_drewN ?_ _ | refine blk_drew ?_ | refine blk_alloc ?_ _)); exact BK332.out⟩, ⟨by (with_reducible repeat (first | refine blk_drewN ?_ _ | refine blk_drew ?_ | refine blk_alloc ?_ _)); refine blk_far ?_ NB337_344.out _; (with_reducible repeat (first | refine blk_drewN ?_ _ | refine blk_drew ?_ | refine blk_alloc ?_ _)); refine blk_far ?_ NB337_344.out _; (with_reducible repeat (first | refine blk_drewN ?_ _ | refine blk_drew ?_ | refine blk_alloc ?_ _)); refine blk_far ?_ NB337_343.out _; (with_reducible repeat (first | refine blk_drewN ?_ _ | refine blk_drew ?_ | refine blk_alloc ?_ _)); refine blk_far ?_ NB337_343.out _; (with_reducible repeat (first | refine blk_drewN ?_ _ | refine blk_drew ?_ | refine blk_alloc ?_ _)); exact BK337.out⟩, ⟨by (with_reducible repeat (first | refine blk_drewN ?_ _ | refine blk_drew ?_ | refine blk_alloc ?_ _)); refine blk_far ?_ NB338_344.out _; (with_reducible repeat (first | refine blk_drewN ?_ _ | refine blk_drew ?_ | refine blk_alloc ?_ _)); refine blk_far ?_ NB338_344.out _; (with_reducible repeat (first | refine blk_drewN ?_ _ | refine blk_drew ?_ | refine blk_alloc ?_ _)); refine blk_far ?_ NB338_343.out _; (with_reducible repeat (first | refine blk_drewN ?_ _ | refine blk_drew ?_ | refine blk_alloc ?_ _)); refine blk_far ?_ NB338_343.out _; (with_reducible repeat (first | refine blk_drewN ?_ _ | refine blk_drew ?_ | refine blk_alloc ?_ _)); exact BK338.out⟩, ⟨by (with_reducible repeat (first | refine blk_drewN ?_ _ | refine blk_drew ?_ | refine blk_alloc ?_ _)); refine blk_far ?_ NB343_344.out _; (with_reducible repeat (first | refine blk_drewN ?_ _ | refine blk_drew ?_ | refine blk_alloc ?_ _)); refine blk_far ?_ NB343_344.out _; (with_reducible repeat (first | refine blk_drewN ?_ _ | refine blk_drew ?_ | refine blk_alloc ?_ _)); refine blk_put (cs := #[.int .i64 t339, .int .i64 0]) ?_ 1 _ rfl; (with_reducible repeat (first | refine blk_drewN ?_ _ | refine blk_drew ?_ | refine blk_alloc ?_ _)); refine blk_put (cs := #[.int .i64 0, .int .i64 0]) ?_ 0 _ rfl; (with_reducible repeat (first | refine blk_drewN ?_ _ | refine blk_drew ?_ | refine blk_alloc ?_ _)); exact BK343.out⟩, ⟨by (with_reducible repeat (first | refine blk_drewN ?_ _ | refine blk_drew ?_ | refine blk_alloc ?_ _)); refine blk_put (cs := #[.int .i64 t341, .int .i64 0]) ?_ 1 _ rfl; (with_reducible repeat (first | refine blk_drewN ?_ _ | refine blk_drew ?_ | refine blk_alloc ?_ _)); refine blk_put (cs := #[.int .i64 0, .int .i64 0]) ?_ 0 _ rfl; (with_reducible repeat (first | refine blk_drewN ?_ _ | refine blk_drew ?_ | refine blk_alloc ?_ _)); refine blk_far ?_ NB344_343.out _; (with_reducible repeat (first | refine blk_drewN ?_ _ | refine blk_drew ?_ | refine blk_alloc ?_ _)); refine blk_far ?_ NB344_343.out _; (with_reducible repeat (first | refine blk_drewN ?_ _ | refine blk_drew ?_ | refine blk_alloc ?_ _)); exact BK344.out⟩, ⟨by repeat (first | (with_reducible first | exact HB.out | apply below_alloc | apply pw_below_drewN | apply below_drew1 | refine below_set ?_ GE332.out | refine below_set ?_ GE337.out | refine below_set ?_ GE338.out | refine below_set ?_ GE343.out | refine below_set ?_ GE344.out) | exact HB.out)⟩⟩
      · rw [if_neg c32] at H
        have c32b0 : (!(t333 == t339) || (!(t334 == t340))) = false := by simpa using c32
        clear c32
        (first | rw [c32b0] | (simp only [i64_w, i32_w]; rw [c32b0]) | skip)
        have H' := Aside0.mk H
        clear H
        have hnb42 := NB337_332.out
        have hnc42 := NB332_337.out
        have hnb43 := NB337_338.out
        have hnc43 := NB338_337.out
        have hnb44 := NB337_343.out
        have hnc44 := NB343_337.out
        have hnb45 := NB337_344.out
        have hnc45 := NB344_337.out
        have hcz46_0 : w22.cell? ⟨gb337, 0, none⟩ = some (.int .i64 t333) := (blk_cell BK337.out 0).trans rfl
        have hcz46_1 : w22.cell? ⟨gb337, 1, none⟩ = some (.int .i64 t334) := (blk_cell BK337.out 1).trans rfl
        have hfz46_0 := blk_frozen BK337.out 0
        have hfz46_1 := blk_frozen BK337.out 1
        have hnb47 := NB343_332.out
        have hnc47 := NB332_343.out
        have hnb48 := NB343_338.out
        have hnc48 := NB338_343.out
        have hnb49 := NB343_344.out
        have hnc49 := NB344_343.out
        have hcz50_0 : w22.cell? ⟨gb343, 0, none⟩ = some (.int .i64 0) := (blk_cell BK343.out 0).trans rfl
        have hcz50_1 : w22.cell? ⟨gb343, 1, none⟩ = some (.int .i64 0) := (blk_cell BK343.out 1).trans rfl
        have hfz50_0 := blk_frozen BK343.out 0
        have hfz50_1 := blk_frozen BK343.out 1
        have hnb51 := NB338_332.out
        have hnc51 := NB332_338.out
        have hnb52 := NB338_344.out
        have hnc52 := NB344_338.out
        have hcz53_0 : w22.cell? ⟨gb338, 0, none⟩ = some (.int .i64 t335) := (blk_cell BK338.out 0).trans rfl
        have hcz53_1 : w22.cell? ⟨gb338, 1, none⟩ = some (.int .i64 t336) := (blk_cell BK338.out 1).trans rfl
        have hfz53_0 := blk_frozen BK338.out 0
        have hfz53_1 := blk_frozen BK338.out 1
        have hnb54 := NB344_332.out
        have hnc54 := NB332_344.out
        have hcz55_0 : w22.cell? ⟨gb344, 0, none⟩ = some (.int .i64 0) := (blk_cell BK344.out 0).trans rfl
        have hcz55_1 : w22.cell? ⟨gb344, 1, none⟩ = some (.int .i64 0) := (blk_cell BK344.out 1).trans rfl
        have hfz55_0 := blk_frozen BK344.out 0
        have hfz55_1 := blk_frozen BK344.out 1
        go_wp2
        go_meet
        case rel => exact ⟨_, ((!(t335 == t341) || (!(t336 == t342)))), (by first | rfl | (simp; done) | (simp [*]; done)), H', ⟨by first | omega | exact Nat.le_refl _⟩, ⟨by (with_reducible repeat (first | refine blk_drewN ?_ _ | refine blk_drew ?_ | refine blk_alloc ?_ _)); refine blk_far ?_ NB332_344.out _; (with_reducible repeat (first | refine blk_drewN ?_ _ | refine blk_drew ?_ | refine blk_alloc ?_ _)); refine blk_far ?_ NB332_344.out _; (with_reducible repeat (first | refine blk_drewN ?_ _ | refine blk_drew ?_ | refine blk_alloc ?_ _)); refine blk_far ?_ NB332_343.out _; (with_reducible repeat (first | refine blk_drewN ?_ _ | refine blk_drew ?_ | refine blk_alloc ?_ _)); refine blk_far ?_ NB332_343.out _; (with_reducible repeat (first | refine blk_drewN ?_ _ | refine blk_drew ?_ | refine blk_alloc ?_ _)); exact BK332.out⟩, ⟨by (with_reducible repeat (first | refine blk_drewN ?_ _ | refine blk_drew ?_ | refine blk_alloc ?_ _)); refine blk_far ?_ NB337_344.out _; (with_reducible repeat (first | refine blk_drewN ?_ _ | refine blk_drew ?_ | refine blk_alloc ?_ _)); refine blk_far ?_ NB337_344.out _; (with_reducible repeat (first | refine blk_drewN ?_ _ | refine blk_drew ?_ | refine blk_alloc ?_ _)); refine blk_far ?_ NB337_343.out _; (with_reducible repeat (first | refine blk_drewN ?_ _ | refine blk_drew ?_ | refine blk_alloc ?_ _)); refine blk_far ?_ NB337_343.out _; (with_reducible repeat (first | refine blk_drewN ?_ _ | refine blk_drew ?_ | refine blk_alloc ?_ _)); exact BK337.out⟩, ⟨by (with_reducible repeat (first | refine blk_drewN ?_ _ | refine blk_drew ?_ | refine blk_alloc ?_ _)); refine blk_far ?_ NB338_344.out _; (with_reducible repeat (first | refine blk_drewN ?_ _ | refine blk_drew ?_ | refine blk_alloc ?_ _)); refine blk_far ?_ NB338_344.out _; (with_reducible repeat (first | refine blk_drewN ?_ _ | refine blk_drew ?_ | refine blk_alloc ?_ _)); refine blk_far ?_ NB338_343.out _; (with_reducible repeat (first | refine blk_drewN ?_ _ | refine blk_drew ?_ | refine blk_alloc ?_ _)); refine blk_far ?_ NB338_343.out _; (with_reducible repeat (first | refine blk_drewN ?_ _ | refine blk_drew ?_ | refine blk_alloc ?_ _)); exact BK338.out⟩, ⟨by (with_reducible repeat (first | refine blk_drewN ?_ _ | refine blk_drew ?_ | refine blk_alloc ?_ _)); refine blk_far ?_ NB343_344.out _; (with_reducible repeat (first | refine blk_drewN ?_ _ | refine blk_drew ?_ | refine blk_alloc ?_ _)); refine blk_far ?_ NB343_344.out _; (with_reducible repeat (first | refine blk_drewN ?_ _ | refine blk_drew ?_ | refine blk_alloc ?_ _)); refine blk_put (cs := #[.int .i64 t339, .int .i64 0]) ?_ 1 _ rfl; (with_reducible repeat (first | refine blk_drewN ?_ _ | refine blk_drew ?_ | refine blk_alloc ?_ _)); refine blk_put (cs := #[.int .i64 0, .int .i64 0]) ?_ 0 _ rfl; (with_reducible repeat (first | refine blk_drewN ?_ _ | refine blk_drew ?_ | refine blk_alloc ?_ _)); exact BK343.out⟩, ⟨by (with_reducible repeat (first | refine blk_drewN ?_ _ | refine blk_drew ?_ | refine blk_alloc ?_ _)); refine blk_put (cs := #[.int .i64 t341, .int .i64 0]) ?_ 1 _ rfl; (with_reducible repeat (first | refine blk_drewN ?_ _ | refine blk_drew ?_ | refine blk_alloc ?_ _)); refine blk_put (cs := #[.int .i64 0, .int .i64 0]) ?_ 0 _ rfl; (with_reducible repeat (first | refine blk_drewN ?_ _ | refine blk_drew ?_ | refine blk_alloc ?_ _)); refine blk_far ?_ NB344_343.out _; (with_reducible repeat (first | refine blk_drewN ?_ _ | refine blk_drew ?_ | refine blk_alloc ?_ _)); refine blk_far ?_ NB344_343.out _; (with_reducible repeat (first | refine blk_drewN ?_ _ | refine blk_drew ?_ | refine blk_alloc ?_ _)); exact BK344.out⟩, ⟨by repeat (first | (with_reducible first | exact HB.out | apply below_alloc | apply pw_below_drewN | apply below_drew1 | refine below_set ?_ GE332.out | refine below_set ?_ GE337.out | refine below_set ?_ GE338.out | refine below_set ?_ GE343.out | refine below_set ?_ GE344.out) | exact HB.out)⟩⟩
    case rest =>
      clear HC7
      try clear c1
      try clear c2
      try clear p2
      try clear c3
      try clear c4
      try clear c5
      try clear c14
      try clear c15
      try clear c17
      try clear c22
      try clear c23
      try clear c24
      try clear c25
      try clear c26
      try clear c28
      try clear c29
      try clear c30
      try clear c32
      try clear c32b0
      try clear c33
      try clear c34
      try clear c35
      try clear c36
      try clear c38
      try clear c39
      try clear c40
      try clear c42
      try clear c43
      try clear c44
      try clear c45
      try clear c47
      try clear c48
      try clear c49
      try clear c51
      try clear c52
      try clear c54
      try clear hcz10_0
      try clear hcz10_1
      try clear hcz16_0
      try clear hcz16_1
      try clear hcz18_0
      try clear hcz18_1
      try clear hcz19_0
      try clear hcz19_1
      try clear hcz27_0
      try clear hcz27_1
      try clear hcz31_0
      try clear hcz31_1
      try clear hcz37_0
      try clear hcz37_1
      try clear hcz41_0
      try clear hcz41_1
      try clear hcz46_0
      try clear hcz46_1
      try clear hcz50_0
      try clear hcz50_1
      try clear hcz53_0
      try clear hcz53_1
      try clear hcz55_0
      try clear hcz55_1
      try clear hfz10_0
      try clear hfz10_1
      try clear hfz16_0
      try clear hfz16_1
      try clear hfz18_0
      try clear hfz18_1
      try clear hfz19_0
      try clear hfz19_1
      try clear hfz27_0
      try clear hfz27_1
      try clear hfz31_0
      try clear hfz31_1
      try clear hfz37_0
      try clear hfz37_1
      try clear hfz41_0
      try clear hfz41_1
      try clear hfz46_0
      try clear hfz46_1
      try clear hfz50_0
      try clear hfz50_1
      try clear hfz53_0
      try clear hfz53_1
      try clear hfz55_0
      try clear hfz55_1
      obtain ⟨kq, x43_6, rfl, HA, HJ6, BK332, BK337, BK338, BK343, BK344, HB⟩ := hcut
      cases kq with
      | zero => exact absurd HA.out (by simp [laws_FnSides.j0])
      | succ kj6 =>
        have H := HA.out
        clear HA
        simp only [laws_FnSides.j0] at H
        by_cases c56 : x43_6 = true
        · subst c56
          have H1 : (some false) = some r := by rw [if_pos rfl] at H; exact H
          clear H
          have H := H1
          clear H1
          exact absurd ((Option.some.inj H).trans HRT.out) (by decide)
        · replace c56 := Bool.eq_false_iff.mpr c56
          subst c56
          have H1 : ((spec_BoundOk.f t328 t329).bind fun t345 => (if t345 = true then ((impl_BoundOk.f t333 t334).bind fun t347 => (if t347 = true then ((impl_BoundOk.f t335 t336).bind fun t348 => (if t348 = true then (if t333 < t328 then (some false) else (if t336 > t329 then (some false) else (if t335 < t328 then (some false) else (if t334 > t329 then (some false) else (if t327 = 1 then (if t334 ≤ t335 then (if t327 = (-1) then (if t336 ≤ t333 then (some true) else (some false)) else (some true)) else (some false)) else (if t327 = (-1) then (if t336 ≤ t333 then (some true) else (some false)) else (if (t333 == t328 && (t334 == t329)) = true then (some (t335 == t328 && (t336 == t329))) else (some false)))))))) else (some false))) else (some false))) else (if (t333 == t328 && (t334 == t329)) = true then (if (t335 == t328 && (t336 == t329)) = true then ((impl_BoundOk.f t328 t329).bind fun t346 => (some (!t346))) else (some false)) else (some false)))) = some r := by rw [if_neg (show ¬ (false = true) by decide)] at H; exact H
          clear H
          have H := H1
          clear H1
          replace H := Option.bind_eq_some_iff.mp H
          obtain ⟨t345, A570, H⟩ := H
          replace H : (if t345 = true then ((impl_BoundOk.f t333 t334).bind fun t347 => (if t347 = true then ((impl_BoundOk.f t335 t336).bind fun t348 => (if t348 = true then (if t333 < t328 then (some false) else (if t336 > t329 then (some false) else (if t335 < t328 then (some false) else (if t334 > t329 then (some false) else (if t327 = 1 then (if t334 ≤ t335 then (if t327 = (-1) then (if t336 ≤ t333 then (some true) else (some false)) else (some true)) else (some false)) else (if t327 = (-1) then (if t336 ≤ t333 then (some true) else (some false)) else (if (t333 == t328 && (t334 == t329)) = true then (some (t335 == t328 && (t336 == t329))) else (some false)))))))) else (some false))) else (some false))) else (if (t333 == t328 && (t334 == t329)) = true then (if (t335 == t328 && (t336 == t329)) = true then ((impl_BoundOk.f t328 t329).bind fun t346 => (some (!t346))) else (some false)) else (some false))) = some r := H
          have A57 := Aside0.mk A570
          clear A570
          by_cases c58 : t345 = true
          · subst c58
            have H1 : ((impl_BoundOk.f t333 t334).bind fun t347 => (if t347 = true then ((impl_BoundOk.f t335 t336).bind fun t348 => (if t348 = true then (if t333 < t328 then (some false) else (if t336 > t329 then (some false) else (if t335 < t328 then (some false) else (if t334 > t329 then (some false) else (if t327 = 1 then (if t334 ≤ t335 then (if t327 = (-1) then (if t336 ≤ t333 then (some true) else (some false)) else (some true)) else (some false)) else (if t327 = (-1) then (if t336 ≤ t333 then (some true) else (some false)) else (if (t333 == t328 && (t334 == t329)) = true then (some (t335 == t328 && (t336 == t329))) else (some false)))))))) else (some false))) else (some false))) = some r := by rw [if_pos rfl] at H; exact H
            clear H
            have H := H1
            clear H1
            replace H := Option.bind_eq_some_iff.mp H
            obtain ⟨t347, A590, H⟩ := H
            replace H : (if t347 = true then ((impl_BoundOk.f t335 t336).bind fun t348 => (if t348 = true then (if t333 < t328 then (some false) else (if t336 > t329 then (some false) else (if t335 < t328 then (some false) else (if t334 > t329 then (some false) else (if t327 = 1 then (if t334 ≤ t335 then (if t327 = (-1) then (if t336 ≤ t333 then (some true) else (some false)) else (some true)) else (some false)) else (if t327 = (-1) then (if t336 ≤ t333 then (some true) else (some false)) else (if (t333 == t328 && (t334 == t329)) = true then (some (t335 == t328 && (t336 == t329))) else (some false)))))))) else (some false))) else (some false)) = some r := H
            have A59 := Aside0.mk A590
            clear A590
            by_cases c60 : t347 = true
            · subst c60
              have H1 : ((impl_BoundOk.f t335 t336).bind fun t348 => (if t348 = true then (if t333 < t328 then (some false) else (if t336 > t329 then (some false) else (if t335 < t328 then (some false) else (if t334 > t329 then (some false) else (if t327 = 1 then (if t334 ≤ t335 then (if t327 = (-1) then (if t336 ≤ t333 then (some true) else (some false)) else (some true)) else (some false)) else (if t327 = (-1) then (if t336 ≤ t333 then (some true) else (some false)) else (if (t333 == t328 && (t334 == t329)) = true then (some (t335 == t328 && (t336 == t329))) else (some false)))))))) else (some false))) = some r := by rw [if_pos rfl] at H; exact H
              clear H
              have H := H1
              clear H1
              replace H := Option.bind_eq_some_iff.mp H
              obtain ⟨t348, A610, H⟩ := H
              replace H : (if t348 = true then (if t333 < t328 then (some false) else (if t336 > t329 then (some false) else (if t335 < t328 then (some false) else (if t334 > t329 then (some false) else (if t327 = 1 then (if t334 ≤ t335 then (if t327 = (-1) then (if t336 ≤ t333 then (some true) else (some false)) else (some true)) else (some false)) else (if t327 = (-1) then (if t336 ≤ t333 then (some true) else (some false)) else (if (t333 == t328 && (t334 == t329)) = true then (some (t335 == t328 && (t336 == t329))) else (some false)))))))) else (some false)) = some r := H
              have A61 := Aside0.mk A610
              clear A610
              by_cases c62 : t348 = true
              · subst c62
                have H1 : (if t333 < t328 then (some false) else (if t336 > t329 then (some false) else (if t335 < t328 then (some false) else (if t334 > t329 then (some false) else (if t327 = 1 then (if t334 ≤ t335 then (if t327 = (-1) then (if t336 ≤ t333 then (some true) else (some false)) else (some true)) else (some false)) else (if t327 = (-1) then (if t336 ≤ t333 then (some true) else (some false)) else (if (t333 == t328 && (t334 == t329)) = true then (some (t335 == t328 && (t336 == t329))) else (some false)))))))) = some r := by rw [if_pos rfl] at H; exact H
                clear H
                have H := H1
                clear H1
                by_cases c63 : t333 < t328
                · rw [if_pos c63] at H
                  have c63b0 : decide (t333 < t328) = true := decide_eq_true c63
                  clear c63
                  exact absurd ((Option.some.inj H).trans HRT.out) (by decide)
                · rw [if_neg c63] at H
                  have c63b0 : decide (t333 < t328) = false := decide_eq_false c63
                  clear c63
                  by_cases c64 : t336 > t329
                  · rw [if_pos c64] at H
                    have c64b0 : decide (t329 < t336) = true := decide_eq_true c64
                    clear c64
                    exact absurd ((Option.some.inj H).trans HRT.out) (by decide)
                  · rw [if_neg c64] at H
                    have c64b0 : decide (t329 < t336) = false := decide_eq_false c64
                    clear c64
                    by_cases c65 : t335 < t328
                    · rw [if_pos c65] at H
                      have c65b0 : decide (t335 < t328) = true := decide_eq_true c65
                      clear c65
                      exact absurd ((Option.some.inj H).trans HRT.out) (by decide)
                    · rw [if_neg c65] at H
                      have c65b0 : decide (t335 < t328) = false := decide_eq_false c65
                      clear c65
                      by_cases c66 : t334 > t329
                      · rw [if_pos c66] at H
                        have c66b0 : decide (t329 < t334) = true := decide_eq_true c66
                        clear c66
                        exact absurd ((Option.some.inj H).trans HRT.out) (by decide)
                      · rw [if_neg c66] at H
                        have c66b0 : decide (t329 < t334) = false := decide_eq_false c66
                        clear c66
                        by_cases c67 : t327 = 1
                        · rw [if_pos c67] at H
                          have c67b0 : (t327 == 1) = true := beq_iff_eq.mpr c67
                          have c67b1 : (t327 != 1) = false := bne_eq_false_iff_eq.mpr c67
                          clear c67
                          by_cases c68 : t334 ≤ t335
                          · rw [if_pos c68] at H
                            have c68b0 : decide (t334 ≤ t335) = true := decide_eq_true c68
                            clear c68
                            by_cases c69 : t327 = (-1)
                            · rw [if_pos c69] at H
                              have c69b0 : (t327 == (-1)) = true := beq_iff_eq.mpr c69
                              have c69b1 : (t327 != (-1)) = false := bne_eq_false_iff_eq.mpr c69
                              clear c69
                              by_cases c70 : t336 ≤ t333
                              · rw [if_pos c70] at H
                                have c70b0 : decide (t336 ≤ t333) = true := decide_eq_true c70
                                clear c70
                                obtain rfl := Option.some.inj H
                                have hnb71 := NB332_337.out
                                have hnc71 := NB337_332.out
                                have hnb72 := NB332_338.out
                                have hnc72 := NB338_332.out
                                have hnb73 := NB332_343.out
                                have hnc73 := NB343_332.out
                                have hnb74 := NB332_344.out
                                have hnc74 := NB344_332.out
                                have hcz75_0 : wc.cell? ⟨gb332, 0, none⟩ = some (.int .i64 t328) := (blk_cell BK332.out 0).trans rfl
                                have hcz75_1 : wc.cell? ⟨gb332, 1, none⟩ = some (.int .i64 t329) := (blk_cell BK332.out 1).trans rfl
                                have hfz75_0 := blk_frozen BK332.out 0
                                have hfz75_1 := blk_frozen BK332.out 1
                                go_wp2_with (first | ((with_reducible refine gate_callee (f := 26) rfl ?_); refine goesL_ (some 45) rfl rfl Try.func26 (by kernel_rfl) rfl #[.agg #[.int .i64 t328, .int .i64 t329]] rfl (by (try simp only [List.map_toArray, List.map_cons, List.map_nil]); first | done | rfl | (simp only [List.length_drop, List.length_take]; rfl)) ?_; (with_reducible refine (spec_BoundOk.calls t328 t329 true _ A57.out).mono ?_); rintro e w76 ⟨rfl, hb⟩; refine ⟨_, rfl, ?_⟩; have n0_ := Aside0.mk (blk_below (g := gb332) (o := .cells #[.int .i64 t328, .int .i64 t329] 34 (0, 0)) (by (with_reducible repeat (first | refine blk_drewN ?_ _ | refine blk_drew ?_ | refine blk_alloc ?_ _)); exact BK332.out) hb); have n1_ := Aside0.mk (blk_below (g := gb337) (o := .cells #[.int .i64 t333, .int .i64 t334] 34 (0, 0)) (by (with_reducible repeat (first | refine blk_drewN ?_ _ | refine blk_drew ?_ | refine blk_alloc ?_ _)); exact BK337.out) hb); have n2_ := Aside0.mk (blk_below (g := gb338) (o := .cells #[.int .i64 t335, .int .i64 t336] 34 (0, 0)) (by (with_reducible repeat (first | refine blk_drewN ?_ _ | refine blk_drew ?_ | refine blk_alloc ?_ _)); exact BK338.out) hb); have n3_ := Aside0.mk (blk_below (g := gb343) (o := .cells #[.int .i64 t339, .int .i64 t340] 34 (0, 0)) (by (with_reducible repeat (first | refine blk_drewN ?_ _ | refine blk_drew ?_ | refine blk_alloc ?_ _)); exact BK343.out) hb); have n4_ := Aside0.mk (blk_below (g := gb344) (o := .cells #[.int .i64 t341, .int .i64 t342] 34 (0, 0)) (by (with_reducible repeat (first | refine blk_drewN ?_ _ | refine blk_drew ?_ | refine blk_alloc ?_ _)); exact BK344.out) hb); have n5_ := Aside0.mk (below_step (by repeat (first | (with_reducible first | exact HB.out | apply below_alloc | apply pw_below_drewN | apply below_drew1 | refine below_set ?_ GE332.out | refine below_set ?_ GE337.out | refine below_set ?_ GE338.out | refine below_set ?_ GE343.out | refine below_set ?_ GE344.out) | exact HB.out)) hb); clear BK332; clear BK337; clear BK338; clear BK343; clear BK344; clear HB; have BK332 := n0_; have BK337 := n1_; have BK338 := n2_; have BK343 := n3_; have BK344 := n4_; have HB := n5_; clear n0_ n1_ n2_ n3_ n4_ n5_; (try clear hb); (try clear hb2); (try clear hk); (try clear hi); have hnb77 := NB337_338.out; have hnc77 := NB338_337.out; have hnb78 := NB337_343.out; have hnc78 := NB343_337.out; have hnb79 := NB337_344.out; have hnc79 := NB344_337.out; have hcz80_0 : w76.cell? ⟨gb337, 0, none⟩ = some (.int .i64 t333) := (blk_cell BK337.out 0).trans rfl; have hcz80_1 : w76.cell? ⟨gb337, 1, none⟩ = some (.int .i64 t334) := (blk_cell BK337.out 1).trans rfl; have hfz80_0 := blk_frozen BK337.out 0; have hfz80_1 := blk_frozen BK337.out 1) | ((with_reducible refine gate_callee (f := 27) rfl ?_); refine goesL_ (some 61) rfl rfl Try.func27 (by kernel_rfl) rfl #[.agg #[.int .i64 t333, .int .i64 t334]] rfl (by (try simp only [List.map_toArray, List.map_cons, List.map_nil]); first | done | rfl | (simp only [List.length_drop, List.length_take]; rfl)) ?_; (with_reducible refine (impl_BoundOk.calls t333 t334 true _ A59.out).mono ?_); rintro e w81 ⟨rfl, hb⟩; refine ⟨_, rfl, ?_⟩; have n0_ := Aside0.mk (blk_below (g := gb332) (o := .cells #[.int .i64 t328, .int .i64 t329] 34 (0, 0)) (by (with_reducible repeat (first | refine blk_drewN ?_ _ | refine blk_drew ?_ | refine blk_alloc ?_ _)); exact BK332.out) hb); have n1_ := Aside0.mk (blk_below (g := gb337) (o := .cells #[.int .i64 t333, .int .i64 t334] 34 (0, 0)) (by (with_reducible repeat (first | refine blk_drewN ?_ _ | refine blk_drew ?_ | refine blk_alloc ?_ _)); exact BK337.out) hb); have n2_ := Aside0.mk (blk_below (g := gb338) (o := .cells #[.int .i64 t335, .int .i64 t336] 34 (0, 0)) (by (with_reducible repeat (first | refine blk_drewN ?_ _ | refine blk_drew ?_ | refine blk_alloc ?_ _)); exact BK338.out) hb); have n3_ := Aside0.mk (blk_below (g := gb343) (o := .cells #[.int .i64 t339, .int .i64 t340] 34 (0, 0)) (by (with_reducible repeat (first | refine blk_drewN ?_ _ | refine blk_drew ?_ | refine blk_alloc ?_ _)); exact BK343.out) hb); have n4_ := Aside0.mk (blk_below (g := gb344) (o := .cells #[.int .i64 t341, .int .i64 t342] 34 (0, 0)) (by (with_reducible repeat (first | refine blk_drewN ?_ _ | refine blk_drew ?_ | refine blk_alloc ?_ _)); exact BK344.out) hb); have n5_ := Aside0.mk (below_step (by repeat (first | (with_reducible first | exact HB.out | apply below_alloc | apply pw_below_drewN | apply below_drew1 | refine below_set ?_ GE332.out | refine below_set ?_ GE337.out | refine below_set ?_ GE338.out | refine below_set ?_ GE343.out | refine below_set ?_ GE344.out) | exact HB.out)) hb); clear BK332; clear BK337; clear BK338; clear BK343; clear BK344; clear HB; have BK332 := n0_; have BK337 := n1_; have BK338 := n2_; have BK343 := n3_; have BK344 := n4_; have HB := n5_; clear n0_ n1_ n2_ n3_ n4_ n5_; (try clear hb); (try clear hb2); (try clear hk); (try clear hi); have hnb82 := NB338_343.out; have hnc82 := NB343_338.out; have hnb83 := NB338_344.out; have hnc83 := NB344_338.out; have hcz84_0 : w81.cell? ⟨gb338, 0, none⟩ = some (.int .i64 t335) := (blk_cell BK338.out 0).trans rfl; have hcz84_1 : w81.cell? ⟨gb338, 1, none⟩ = some (.int .i64 t336) := (blk_cell BK338.out 1).trans rfl; have hfz84_0 := blk_frozen BK338.out 0; have hfz84_1 := blk_frozen BK338.out 1) | (go_at_call 27; (with_reducible refine (impl_BoundOk.calls t335 t336 true _ A61.out).mono ?_); rintro e w85 ⟨rfl, hb⟩; have n0_ := Aside0.mk (blk_below (g := gb332) (o := .cells #[.int .i64 t328, .int .i64 t329] 34 (0, 0)) (by (with_reducible repeat (first | refine blk_drewN ?_ _ | refine blk_drew ?_ | refine blk_alloc ?_ _)); exact BK332.out) hb); have n1_ := Aside0.mk (blk_below (g := gb337) (o := .cells #[.int .i64 t333, .int .i64 t334] 34 (0, 0)) (by (with_reducible repeat (first | refine blk_drewN ?_ _ | refine blk_drew ?_ | refine blk_alloc ?_ _)); exact BK337.out) hb); have n2_ := Aside0.mk (blk_below (g := gb338) (o := .cells #[.int .i64 t335, .int .i64 t336] 34 (0, 0)) (by (with_reducible repeat (first | refine blk_drewN ?_ _ | refine blk_drew ?_ | refine blk_alloc ?_ _)); exact BK338.out) hb); have n3_ := Aside0.mk (blk_below (g := gb343) (o := .cells #[.int .i64 t339, .int .i64 t340] 34 (0, 0)) (by (with_reducible repeat (first | refine blk_drewN ?_ _ | refine blk_drew ?_ | refine blk_alloc ?_ _)); exact BK343.out) hb); have n4_ := Aside0.mk (blk_below (g := gb344) (o := .cells #[.int .i64 t341, .int .i64 t342] 34 (0, 0)) (by (with_reducible repeat (first | refine blk_drewN ?_ _ | refine blk_drew ?_ | refine blk_alloc ?_ _)); exact BK344.out) hb); have n5_ := Aside0.mk (below_step (by repeat (first | (with_reducible first | exact HB.out | apply below_alloc | apply pw_below_drewN | apply below_drew1 | refine below_set ?_ GE332.out | refine below_set ?_ GE337.out | refine below_set ?_ GE338.out | refine below_set ?_ GE343.out | refine below_set ?_ GE344.out) | exact HB.out)) hb); clear BK332; clear BK337; clear BK338; clear BK343; clear BK344; clear HB; have BK332 := n0_; have BK337 := n1_; have BK338 := n2_; have BK343 := n3_; have BK344 := n4_; have HB := n5_; clear n0_ n1_ n2_ n3_ n4_ n5_; (try clear hb); (try clear hb2); (try clear hk); (try clear hi); have hcz86_0 : w85.cell? ⟨gb337, 0, none⟩ = some (.int .i64 t333) := (blk_cell BK337.out 0).trans rfl; have hcz86_1 : w85.cell? ⟨gb337, 1, none⟩ = some (.int .i64 t334) := (blk_cell BK337.out 1).trans rfl; have hfz86_0 := blk_frozen BK337.out 0; have hfz86_1 := blk_frozen BK337.out 1; have hcz87_0 : w85.cell? ⟨gb332, 0, none⟩ = some (.int .i64 t328) := (blk_cell BK332.out 0).trans rfl; have hcz87_1 : w85.cell? ⟨gb332, 1, none⟩ = some (.int .i64 t329) := (blk_cell BK332.out 1).trans rfl; have hfz87_0 := blk_frozen BK332.out 0; have hfz87_1 := blk_frozen BK332.out 1; have hcz88_0 : w85.cell? ⟨gb338, 0, none⟩ = some (.int .i64 t335) := (blk_cell BK338.out 0).trans rfl; have hcz88_1 : w85.cell? ⟨gb338, 1, none⟩ = some (.int .i64 t336) := (blk_cell BK338.out 1).trans rfl; have hfz88_0 := blk_frozen BK338.out 0; have hfz88_1 := blk_frozen BK338.out 1))
                                go_ret
                                exact ⟨by first | rfl | (simp [errW_none, errW_some] <;> rfl) | (simp [*, errW_none, errW_some] <;> rfl), by repeat (first | (with_reducible first | exact HB.out | apply below_alloc | apply pw_below_drewN | apply below_drew1 | refine below_set ?_ GE332.out | refine below_set ?_ GE337.out | refine below_set ?_ GE338.out | refine below_set ?_ GE343.out | refine below_set ?_ GE344.out) | exact HB.out)⟩
                              · rw [if_neg c70] at H
                                have c70b0 : decide (t336 ≤ t333) = false := decide_eq_false c70
                                clear c70
                                exact absurd ((Option.some.inj H).trans HRT.out) (by decide)
                            · rw [if_neg c69] at H
                              have c69b0 : (t327 == (-1)) = false := beq_eq_false_iff_ne.mpr c69
                              have c69b1 : (t327 != (-1)) = true := bne_iff_ne.mpr c69
                              obtain rfl := Option.some.inj H
                              have hnb89 := NB332_337.out
                              have hnc89 := NB337_332.out
                              have hnb90 := NB332_338.out
                              have hnc90 := NB338_332.out
                              have hnb91 := NB332_343.out
                              have hnc91 := NB343_332.out
                              have hnb92 := NB332_344.out
                              have hnc92 := NB344_332.out
                              have hcz93_0 : wc.cell? ⟨gb332, 0, none⟩ = some (.int .i64 t328) := (blk_cell BK332.out 0).trans rfl
                              have hcz93_1 : wc.cell? ⟨gb332, 1, none⟩ = some (.int .i64 t329) := (blk_cell BK332.out 1).trans rfl
                              have hfz93_0 := blk_frozen BK332.out 0
                              have hfz93_1 := blk_frozen BK332.out 1
                              go_wp2_with (first | ((with_reducible refine gate_callee (f := 26) rfl ?_); refine goesL_ (some 45) rfl rfl Try.func26 (by kernel_rfl) rfl #[.agg #[.int .i64 t328, .int .i64 t329]] rfl (by (try simp only [List.map_toArray, List.map_cons, List.map_nil]); first | done | rfl | (simp only [List.length_drop, List.length_take]; rfl)) ?_; (with_reducible refine (spec_BoundOk.calls t328 t329 true _ A57.out).mono ?_); rintro e w94 ⟨rfl, hb⟩; refine ⟨_, rfl, ?_⟩; have n0_ := Aside0.mk (blk_below (g := gb332) (o := .cells #[.int .i64 t328, .int .i64 t329] 34 (0, 0)) (by (with_reducible repeat (first | refine blk_drewN ?_ _ | refine blk_drew ?_ | refine blk_alloc ?_ _)); exact BK332.out) hb); have n1_ := Aside0.mk (blk_below (g := gb337) (o := .cells #[.int .i64 t333, .int .i64 t334] 34 (0, 0)) (by (with_reducible repeat (first | refine blk_drewN ?_ _ | refine blk_drew ?_ | refine blk_alloc ?_ _)); exact BK337.out) hb); have n2_ := Aside0.mk (blk_below (g := gb338) (o := .cells #[.int .i64 t335, .int .i64 t336] 34 (0, 0)) (by (with_reducible repeat (first | refine blk_drewN ?_ _ | refine blk_drew ?_ | refine blk_alloc ?_ _)); exact BK338.out) hb); have n3_ := Aside0.mk (blk_below (g := gb343) (o := .cells #[.int .i64 t339, .int .i64 t340] 34 (0, 0)) (by (with_reducible repeat (first | refine blk_drewN ?_ _ | refine blk_drew ?_ | refine blk_alloc ?_ _)); exact BK343.out) hb); have n4_ := Aside0.mk (blk_below (g := gb344) (o := .cells #[.int .i64 t341, .int .i64 t342] 34 (0, 0)) (by (with_reducible repeat (first | refine blk_drewN ?_ _ | refine blk_drew ?_ | refine blk_alloc ?_ _)); exact BK344.out) hb); have n5_ := Aside0.mk (below_step (by repeat (first | (with_reducible first | exact HB.out | apply below_alloc | apply pw_below_drewN | apply below_drew1 | refine below_set ?_ GE332.out | refine below_set ?_ GE337.out | refine below_set ?_ GE338.out | refine below_set ?_ GE343.out | refine below_set ?_ GE344.out) | exact HB.out)) hb); clear BK332; clear BK337; clear BK338; clear BK343; clear BK344; clear HB; have BK332 := n0_; have BK337 := n1_; have BK338 := n2_; have BK343 := n3_; have BK344 := n4_; have HB := n5_; clear n0_ n1_ n2_ n3_ n4_ n5_; (try clear hb); (try clear hb2); (try clear hk); (try clear hi); have hnb95 := NB337_338.out; have hnc95 := NB338_337.out; have hnb96 := NB337_343.out; have hnc96 := NB343_337.out; have hnb97 := NB337_344.out; have hnc97 := NB344_337.out; have hcz98_0 : w94.cell? ⟨gb337, 0, none⟩ = some (.int .i64 t333) := (blk_cell BK337.out 0).trans rfl; have hcz98_1 : w94.cell? ⟨gb337, 1, none⟩ = some (.int .i64 t334) := (blk_cell BK337.out 1).trans rfl; have hfz98_0 := blk_frozen BK337.out 0; have hfz98_1 := blk_frozen BK337.out 1) | ((with_reducible refine gate_callee (f := 27) rfl ?_); refine goesL_ (some 61) rfl rfl Try.func27 (by kernel_rfl) rfl #[.agg #[.int .i64 t333, .int .i64 t334]] rfl (by (try simp only [List.map_toArray, List.map_cons, List.map_nil]); first | done | rfl | (simp only [List.length_drop, List.length_take]; rfl)) ?_; (with_reducible refine (impl_BoundOk.calls t333 t334 true _ A59.out).mono ?_); rintro e w99 ⟨rfl, hb⟩; refine ⟨_, rfl, ?_⟩; have n0_ := Aside0.mk (blk_below (g := gb332) (o := .cells #[.int .i64 t328, .int .i64 t329] 34 (0, 0)) (by (with_reducible repeat (first | refine blk_drewN ?_ _ | refine blk_drew ?_ | refine blk_alloc ?_ _)); exact BK332.out) hb); have n1_ := Aside0.mk (blk_below (g := gb337) (o := .cells #[.int .i64 t333, .int .i64 t334] 34 (0, 0)) (by (with_reducible repeat (first | refine blk_drewN ?_ _ | refine blk_drew ?_ | refine blk_alloc ?_ _)); exact BK337.out) hb); have n2_ := Aside0.mk (blk_below (g := gb338) (o := .cells #[.int .i64 t335, .int .i64 t336] 34 (0, 0)) (by (with_reducible repeat (first | refine blk_drewN ?_ _ | refine blk_drew ?_ | refine blk_alloc ?_ _)); exact BK338.out) hb); have n3_ := Aside0.mk (blk_below (g := gb343) (o := .cells #[.int .i64 t339, .int .i64 t340] 34 (0, 0)) (by (with_reducible repeat (first | refine blk_drewN ?_ _ | refine blk_drew ?_ | refine blk_alloc ?_ _)); exact BK343.out) hb); have n4_ := Aside0.mk (blk_below (g := gb344) (o := .cells #[.int .i64 t341, .int .i64 t342] 34 (0, 0)) (by (with_reducible repeat (first | refine blk_drewN ?_ _ | refine blk_drew ?_ | refine blk_alloc ?_ _)); exact BK344.out) hb); have n5_ := Aside0.mk (below_step (by repeat (first | (with_reducible first | exact HB.out | apply below_alloc | apply pw_below_drewN | apply below_drew1 | refine below_set ?_ GE332.out | refine below_set ?_ GE337.out | refine below_set ?_ GE338.out | refine below_set ?_ GE343.out | refine below_set ?_ GE344.out) | exact HB.out)) hb); clear BK332; clear BK337; clear BK338; clear BK343; clear BK344; clear HB; have BK332 := n0_; have BK337 := n1_; have BK338 := n2_; have BK343 := n3_; have BK344 := n4_; have HB := n5_; clear n0_ n1_ n2_ n3_ n4_ n5_; (try clear hb); (try clear hb2); (try clear hk); (try clear hi); have hnb100 := NB338_343.out; have hnc100 := NB343_338.out; have hnb101 := NB338_344.out; have hnc101 := NB344_338.out; have hcz102_0 : w99.cell? ⟨gb338, 0, none⟩ = some (.int .i64 t335) := (blk_cell BK338.out 0).trans rfl; have hcz102_1 : w99.cell? ⟨gb338, 1, none⟩ = some (.int .i64 t336) := (blk_cell BK338.out 1).trans rfl; have hfz102_0 := blk_frozen BK338.out 0; have hfz102_1 := blk_frozen BK338.out 1) | (go_at_call 27; (with_reducible refine (impl_BoundOk.calls t335 t336 true _ A61.out).mono ?_); rintro e w103 ⟨rfl, hb⟩; have n0_ := Aside0.mk (blk_below (g := gb332) (o := .cells #[.int .i64 t328, .int .i64 t329] 34 (0, 0)) (by (with_reducible repeat (first | refine blk_drewN ?_ _ | refine blk_drew ?_ | refine blk_alloc ?_ _)); exact BK332.out) hb); have n1_ := Aside0.mk (blk_below (g := gb337) (o := .cells #[.int .i64 t333, .int .i64 t334] 34 (0, 0)) (by (with_reducible repeat (first | refine blk_drewN ?_ _ | refine blk_drew ?_ | refine blk_alloc ?_ _)); exact BK337.out) hb); have n2_ := Aside0.mk (blk_below (g := gb338) (o := .cells #[.int .i64 t335, .int .i64 t336] 34 (0, 0)) (by (with_reducible repeat (first | refine blk_drewN ?_ _ | refine blk_drew ?_ | refine blk_alloc ?_ _)); exact BK338.out) hb); have n3_ := Aside0.mk (blk_below (g := gb343) (o := .cells #[.int .i64 t339, .int .i64 t340] 34 (0, 0)) (by (with_reducible repeat (first | refine blk_drewN ?_ _ | refine blk_drew ?_ | refine blk_alloc ?_ _)); exact BK343.out) hb); have n4_ := Aside0.mk (blk_below (g := gb344) (o := .cells #[.int .i64 t341, .int .i64 t342] 34 (0, 0)) (by (with_reducible repeat (first | refine blk_drewN ?_ _ | refine blk_drew ?_ | refine blk_alloc ?_ _)); exact BK344.out) hb); have n5_ := Aside0.mk (below_step (by repeat (first | (with_reducible first | exact HB.out | apply below_alloc | apply pw_below_drewN | apply below_drew1 | refine below_set ?_ GE332.out | refine below_set ?_ GE337.out | refine below_set ?_ GE338.out | refine below_set ?_ GE343.out | refine below_set ?_ GE344.out) | exact HB.out)) hb); clear BK332; clear BK337; clear BK338; clear BK343; clear BK344; clear HB; have BK332 := n0_; have BK337 := n1_; have BK338 := n2_; have BK343 := n3_; have BK344 := n4_; have HB := n5_; clear n0_ n1_ n2_ n3_ n4_ n5_; (try clear hb); (try clear hb2); (try clear hk); (try clear hi); have hcz104_0 : w103.cell? ⟨gb337, 0, none⟩ = some (.int .i64 t333) := (blk_cell BK337.out 0).trans rfl; have hcz104_1 : w103.cell? ⟨gb337, 1, none⟩ = some (.int .i64 t334) := (blk_cell BK337.out 1).trans rfl; have hfz104_0 := blk_frozen BK337.out 0; have hfz104_1 := blk_frozen BK337.out 1; have hcz105_0 : w103.cell? ⟨gb332, 0, none⟩ = some (.int .i64 t328) := (blk_cell BK332.out 0).trans rfl; have hcz105_1 : w103.cell? ⟨gb332, 1, none⟩ = some (.int .i64 t329) := (blk_cell BK332.out 1).trans rfl; have hfz105_0 := blk_frozen BK332.out 0; have hfz105_1 := blk_frozen BK332.out 1; have hcz106_0 : w103.cell? ⟨gb338, 0, none⟩ = some (.int .i64 t335) := (blk_cell BK338.out 0).trans rfl; have hcz106_1 : w103.cell? ⟨gb338, 1, none⟩ = some (.int .i64 t336) := (blk_cell BK338.out 1).trans rfl; have hfz106_0 := blk_frozen BK338.out 0; have hfz106_1 := blk_frozen BK338.out 1))
                              go_ret
                              exact ⟨by first | rfl | (simp [errW_none, errW_some] <;> rfl) | (simp [*, errW_none, errW_some] <;> rfl), by repeat (first | (with_reducible first | exact HB.out | apply below_alloc | apply pw_below_drewN | apply below_drew1 | refine below_set ?_ GE332.out | refine below_set ?_ GE337.out | refine below_set ?_ GE338.out | refine below_set ?_ GE343.out | refine below_set ?_ GE344.out) | exact HB.out)⟩
                          · rw [if_neg c68] at H
                            have c68b0 : decide (t334 ≤ t335) = false := decide_eq_false c68
                            clear c68
                            exact absurd ((Option.some.inj H).trans HRT.out) (by decide)
                        · rw [if_neg c67] at H
                          have c67b0 : (t327 == 1) = false := beq_eq_false_iff_ne.mpr c67
                          have c67b1 : (t327 != 1) = true := bne_iff_ne.mpr c67
                          by_cases c107 : t327 = (-1)
                          · rw [if_pos c107] at H
                            have c107b0 : (t327 == (-1)) = true := beq_iff_eq.mpr c107
                            have c107b1 : (t327 != (-1)) = false := bne_eq_false_iff_eq.mpr c107
                            clear c107
                            by_cases c108 : t336 ≤ t333
                            · rw [if_pos c108] at H
                              have c108b0 : decide (t336 ≤ t333) = true := decide_eq_true c108
                              clear c108
                              obtain rfl := Option.some.inj H
                              have hnb109 := NB332_337.out
                              have hnc109 := NB337_332.out
                              have hnb110 := NB332_338.out
                              have hnc110 := NB338_332.out
                              have hnb111 := NB332_343.out
                              have hnc111 := NB343_332.out
                              have hnb112 := NB332_344.out
                              have hnc112 := NB344_332.out
                              have hcz113_0 : wc.cell? ⟨gb332, 0, none⟩ = some (.int .i64 t328) := (blk_cell BK332.out 0).trans rfl
                              have hcz113_1 : wc.cell? ⟨gb332, 1, none⟩ = some (.int .i64 t329) := (blk_cell BK332.out 1).trans rfl
                              have hfz113_0 := blk_frozen BK332.out 0
                              have hfz113_1 := blk_frozen BK332.out 1
                              go_wp2_with (first | ((with_reducible refine gate_callee (f := 26) rfl ?_); refine goesL_ (some 45) rfl rfl Try.func26 (by kernel_rfl) rfl #[.agg #[.int .i64 t328, .int .i64 t329]] rfl (by (try simp only [List.map_toArray, List.map_cons, List.map_nil]); first | done | rfl | (simp only [List.length_drop, List.length_take]; rfl)) ?_; (with_reducible refine (spec_BoundOk.calls t328 t329 true _ A57.out).mono ?_); rintro e w114 ⟨rfl, hb⟩; refine ⟨_, rfl, ?_⟩; have n0_ := Aside0.mk (blk_below (g := gb332) (o := .cells #[.int .i64 t328, .int .i64 t329] 34 (0, 0)) (by (with_reducible repeat (first | refine blk_drewN ?_ _ | refine blk_drew ?_ | refine blk_alloc ?_ _)); exact BK332.out) hb); have n1_ := Aside0.mk (blk_below (g := gb337) (o := .cells #[.int .i64 t333, .int .i64 t334] 34 (0, 0)) (by (with_reducible repeat (first | refine blk_drewN ?_ _ | refine blk_drew ?_ | refine blk_alloc ?_ _)); exact BK337.out) hb); have n2_ := Aside0.mk (blk_below (g := gb338) (o := .cells #[.int .i64 t335, .int .i64 t336] 34 (0, 0)) (by (with_reducible repeat (first | refine blk_drewN ?_ _ | refine blk_drew ?_ | refine blk_alloc ?_ _)); exact BK338.out) hb); have n3_ := Aside0.mk (blk_below (g := gb343) (o := .cells #[.int .i64 t339, .int .i64 t340] 34 (0, 0)) (by (with_reducible repeat (first | refine blk_drewN ?_ _ | refine blk_drew ?_ | refine blk_alloc ?_ _)); exact BK343.out) hb); have n4_ := Aside0.mk (blk_below (g := gb344) (o := .cells #[.int .i64 t341, .int .i64 t342] 34 (0, 0)) (by (with_reducible repeat (first | refine blk_drewN ?_ _ | refine blk_drew ?_ | refine blk_alloc ?_ _)); exact BK344.out) hb); have n5_ := Aside0.mk (below_step (by repeat (first | (with_reducible first | exact HB.out | apply below_alloc | apply pw_below_drewN | apply below_drew1 | refine below_set ?_ GE332.out | refine below_set ?_ GE337.out | refine below_set ?_ GE338.out | refine below_set ?_ GE343.out | refine below_set ?_ GE344.out) | exact HB.out)) hb); clear BK332; clear BK337; clear BK338; clear BK343; clear BK344; clear HB; have BK332 := n0_; have BK337 := n1_; have BK338 := n2_; have BK343 := n3_; have BK344 := n4_; have HB := n5_; clear n0_ n1_ n2_ n3_ n4_ n5_; (try clear hb); (try clear hb2); (try clear hk); (try clear hi); have hnb115 := NB337_338.out; have hnc115 := NB338_337.out; have hnb116 := NB337_343.out; have hnc116 := NB343_337.out; have hnb117 := NB337_344.out; have hnc117 := NB344_337.out; have hcz118_0 : w114.cell? ⟨gb337, 0, none⟩ = some (.int .i64 t333) := (blk_cell BK337.out 0).trans rfl; have hcz118_1 : w114.cell? ⟨gb337, 1, none⟩ = some (.int .i64 t334) := (blk_cell BK337.out 1).trans rfl; have hfz118_0 := blk_frozen BK337.out 0; have hfz118_1 := blk_frozen BK337.out 1) | ((with_reducible refine gate_callee (f := 27) rfl ?_); refine goesL_ (some 61) rfl rfl Try.func27 (by kernel_rfl) rfl #[.agg #[.int .i64 t333, .int .i64 t334]] rfl (by (try simp only [List.map_toArray, List.map_cons, List.map_nil]); first | done | rfl | (simp only [List.length_drop, List.length_take]; rfl)) ?_; (with_reducible refine (impl_BoundOk.calls t333 t334 true _ A59.out).mono ?_); rintro e w119 ⟨rfl, hb⟩; refine ⟨_, rfl, ?_⟩; have n0_ := Aside0.mk (blk_below (g := gb332) (o := .cells #[.int .i64 t328, .int .i64 t329] 34 (0, 0)) (by (with_reducible repeat (first | refine blk_drewN ?_ _ | refine blk_drew ?_ | refine blk_alloc ?_ _)); exact BK332.out) hb); have n1_ := Aside0.mk (blk_below (g := gb337) (o := .cells #[.int .i64 t333, .int .i64 t334] 34 (0, 0)) (by (with_reducible repeat (first | refine blk_drewN ?_ _ | refine blk_drew ?_ | refine blk_alloc ?_ _)); exact BK337.out) hb); have n2_ := Aside0.mk (blk_below (g := gb338) (o := .cells #[.int .i64 t335, .int .i64 t336] 34 (0, 0)) (by (with_reducible repeat (first | refine blk_drewN ?_ _ | refine blk_drew ?_ | refine blk_alloc ?_ _)); exact BK338.out) hb); have n3_ := Aside0.mk (blk_below (g := gb343) (o := .cells #[.int .i64 t339, .int .i64 t340] 34 (0, 0)) (by (with_reducible repeat (first | refine blk_drewN ?_ _ | refine blk_drew ?_ | refine blk_alloc ?_ _)); exact BK343.out) hb); have n4_ := Aside0.mk (blk_below (g := gb344) (o := .cells #[.int .i64 t341, .int .i64 t342] 34 (0, 0)) (by (with_reducible repeat (first | refine blk_drewN ?_ _ | refine blk_drew ?_ | refine blk_alloc ?_ _)); exact BK344.out) hb); have n5_ := Aside0.mk (below_step (by repeat (first | (with_reducible first | exact HB.out | apply below_alloc | apply pw_below_drewN | apply below_drew1 | refine below_set ?_ GE332.out | refine below_set ?_ GE337.out | refine below_set ?_ GE338.out | refine below_set ?_ GE343.out | refine below_set ?_ GE344.out) | exact HB.out)) hb); clear BK332; clear BK337; clear BK338; clear BK343; clear BK344; clear HB; have BK332 := n0_; have BK337 := n1_; have BK338 := n2_; have BK343 := n3_; have BK344 := n4_; have HB := n5_; clear n0_ n1_ n2_ n3_ n4_ n5_; (try clear hb); (try clear hb2); (try clear hk); (try clear hi); have hnb120 := NB338_343.out; have hnc120 := NB343_338.out; have hnb121 := NB338_344.out; have hnc121 := NB344_338.out; have hcz122_0 : w119.cell? ⟨gb338, 0, none⟩ = some (.int .i64 t335) := (blk_cell BK338.out 0).trans rfl; have hcz122_1 : w119.cell? ⟨gb338, 1, none⟩ = some (.int .i64 t336) := (blk_cell BK338.out 1).trans rfl; have hfz122_0 := blk_frozen BK338.out 0; have hfz122_1 := blk_frozen BK338.out 1) | (go_at_call 27; (with_reducible refine (impl_BoundOk.calls t335 t336 true _ A61.out).mono ?_); rintro e w123 ⟨rfl, hb⟩; have n0_ := Aside0.mk (blk_below (g := gb332) (o := .cells #[.int .i64 t328, .int .i64 t329] 34 (0, 0)) (by (with_reducible repeat (first | refine blk_drewN ?_ _ | refine blk_drew ?_ | refine blk_alloc ?_ _)); exact BK332.out) hb); have n1_ := Aside0.mk (blk_below (g := gb337) (o := .cells #[.int .i64 t333, .int .i64 t334] 34 (0, 0)) (by (with_reducible repeat (first | refine blk_drewN ?_ _ | refine blk_drew ?_ | refine blk_alloc ?_ _)); exact BK337.out) hb); have n2_ := Aside0.mk (blk_below (g := gb338) (o := .cells #[.int .i64 t335, .int .i64 t336] 34 (0, 0)) (by (with_reducible repeat (first | refine blk_drewN ?_ _ | refine blk_drew ?_ | refine blk_alloc ?_ _)); exact BK338.out) hb); have n3_ := Aside0.mk (blk_below (g := gb343) (o := .cells #[.int .i64 t339, .int .i64 t340] 34 (0, 0)) (by (with_reducible repeat (first | refine blk_drewN ?_ _ | refine blk_drew ?_ | refine blk_alloc ?_ _)); exact BK343.out) hb); have n4_ := Aside0.mk (blk_below (g := gb344) (o := .cells #[.int .i64 t341, .int .i64 t342] 34 (0, 0)) (by (with_reducible repeat (first | refine blk_drewN ?_ _ | refine blk_drew ?_ | refine blk_alloc ?_ _)); exact BK344.out) hb); have n5_ := Aside0.mk (below_step (by repeat (first | (with_reducible first | exact HB.out | apply below_alloc | apply pw_below_drewN | apply below_drew1 | refine below_set ?_ GE332.out | refine below_set ?_ GE337.out | refine below_set ?_ GE338.out | refine below_set ?_ GE343.out | refine below_set ?_ GE344.out) | exact HB.out)) hb); clear BK332; clear BK337; clear BK338; clear BK343; clear BK344; clear HB; have BK332 := n0_; have BK337 := n1_; have BK338 := n2_; have BK343 := n3_; have BK344 := n4_; have HB := n5_; clear n0_ n1_ n2_ n3_ n4_ n5_; (try clear hb); (try clear hb2); (try clear hk); (try clear hi); have hcz124_0 : w123.cell? ⟨gb337, 0, none⟩ = some (.int .i64 t333) := (blk_cell BK337.out 0).trans rfl; have hcz124_1 : w123.cell? ⟨gb337, 1, none⟩ = some (.int .i64 t334) := (blk_cell BK337.out 1).trans rfl; have hfz124_0 := blk_frozen BK337.out 0; have hfz124_1 := blk_frozen BK337.out 1; have hcz125_0 : w123.cell? ⟨gb332, 0, none⟩ = some (.int .i64 t328) := (blk_cell BK332.out 0).trans rfl; have hcz125_1 : w123.cell? ⟨gb332, 1, none⟩ = some (.int .i64 t329) := (blk_cell BK332.out 1).trans rfl; have hfz125_0 := blk_frozen BK332.out 0; have hfz125_1 := blk_frozen BK332.out 1; have hcz126_0 : w123.cell? ⟨gb338, 0, none⟩ = some (.int .i64 t335) := (blk_cell BK338.out 0).trans rfl; have hcz126_1 : w123.cell? ⟨gb338, 1, none⟩ = some (.int .i64 t336) := (blk_cell BK338.out 1).trans rfl; have hfz126_0 := blk_frozen BK338.out 0; have hfz126_1 := blk_frozen BK338.out 1))
                              go_ret
                              exact ⟨by first | rfl | (simp [errW_none, errW_some] <;> rfl) | (simp [*, errW_none, errW_some] <;> rfl), by repeat (first | (with_reducible first | exact HB.out | apply below_alloc | apply pw_below_drewN | apply below_drew1 | refine below_set ?_ GE332.out | refine below_set ?_ GE337.out | refine below_set ?_ GE338.out | refine below_set ?_ GE343.out | refine below_set ?_ GE344.out) | exact HB.out)⟩
                            · rw [if_neg c108] at H
                              have c108b0 : decide (t336 ≤ t333) = false := decide_eq_false c108
                              clear c108
                              exact absurd ((Option.some.inj H).trans HRT.out) (by decide)
                          · rw [if_neg c107] at H
                            have c107b0 : (t327 == (-1)) = false := beq_eq_false_iff_ne.mpr c107
                            have c107b1 : (t327 != (-1)) = true := bne_iff_ne.mpr c107
                            by_cases c127 : (t333 == t328 && (t334 == t329)) = true
                            · rw [if_pos c127] at H
                              have c127b0 : (t333 == t328 && (t334 == t329)) = true := c127
                              (try (have c127b1 : decide (t333 = t328 && (t334 == t329)) = true := by simpa using c127))
                              (try (have c127b2 : (t333 == t328 && (t334 == t329)) = true := by simpa using c127))
                              clear c127
                              obtain rfl := Option.some.inj H
                              have hnb128 := NB332_337.out
                              have hnc128 := NB337_332.out
                              have hnb129 := NB332_338.out
                              have hnc129 := NB338_332.out
                              have hnb130 := NB332_343.out
                              have hnc130 := NB343_332.out
                              have hnb131 := NB332_344.out
                              have hnc131 := NB344_332.out
                              have hcz132_0 : wc.cell? ⟨gb332, 0, none⟩ = some (.int .i64 t328) := (blk_cell BK332.out 0).trans rfl
                              have hcz132_1 : wc.cell? ⟨gb332, 1, none⟩ = some (.int .i64 t329) := (blk_cell BK332.out 1).trans rfl
                              have hfz132_0 := blk_frozen BK332.out 0
                              have hfz132_1 := blk_frozen BK332.out 1
                              go_wp2_with (first | ((with_reducible refine gate_callee (f := 26) rfl ?_); refine goesL_ (some 45) rfl rfl Try.func26 (by kernel_rfl) rfl #[.agg #[.int .i64 t328, .int .i64 t329]] rfl (by (try simp only [List.map_toArray, List.map_cons, List.map_nil]); first | done | rfl | (simp only [List.length_drop, List.length_take]; rfl)) ?_; (with_reducible refine (spec_BoundOk.calls t328 t329 true _ A57.out).mono ?_); rintro e w133 ⟨rfl, hb⟩; refine ⟨_, rfl, ?_⟩; have n0_ := Aside0.mk (blk_below (g := gb332) (o := .cells #[.int .i64 t328, .int .i64 t329] 34 (0, 0)) (by (with_reducible repeat (first | refine blk_drewN ?_ _ | refine blk_drew ?_ | refine blk_alloc ?_ _)); exact BK332.out) hb); have n1_ := Aside0.mk (blk_below (g := gb337) (o := .cells #[.int .i64 t333, .int .i64 t334] 34 (0, 0)) (by (with_reducible repeat (first | refine blk_drewN ?_ _ | refine blk_drew ?_ | refine blk_alloc ?_ _)); exact BK337.out) hb); have n2_ := Aside0.mk (blk_below (g := gb338) (o := .cells #[.int .i64 t335, .int .i64 t336] 34 (0, 0)) (by (with_reducible repeat (first | refine blk_drewN ?_ _ | refine blk_drew ?_ | refine blk_alloc ?_ _)); exact BK338.out) hb); have n3_ := Aside0.mk (blk_below (g := gb343) (o := .cells #[.int .i64 t339, .int .i64 t340] 34 (0, 0)) (by (with_reducible repeat (first | refine blk_drewN ?_ _ | refine blk_drew ?_ | refine blk_alloc ?_ _)); exact BK343.out) hb); have n4_ := Aside0.mk (blk_below (g := gb344) (o := .cells #[.int .i64 t341, .int .i64 t342] 34 (0, 0)) (by (with_reducible repeat (first | refine blk_drewN ?_ _ | refine blk_drew ?_ | refine blk_alloc ?_ _)); exact BK344.out) hb); have n5_ := Aside0.mk (below_step (by repeat (first | (with_reducible first | exact HB.out | apply below_alloc | apply pw_below_drewN | apply below_drew1 | refine below_set ?_ GE332.out | refine below_set ?_ GE337.out | refine below_set ?_ GE338.out | refine below_set ?_ GE343.out | refine below_set ?_ GE344.out) | exact HB.out)) hb); clear BK332; clear BK337; clear BK338; clear BK343; clear BK344; clear HB; have BK332 := n0_; have BK337 := n1_; have BK338 := n2_; have BK343 := n3_; have BK344 := n4_; have HB := n5_; clear n0_ n1_ n2_ n3_ n4_ n5_; (try clear hb); (try clear hb2); (try clear hk); (try clear hi); have hnb134 := NB337_338.out; have hnc134 := NB338_337.out; have hnb135 := NB337_343.out; have hnc135 := NB343_337.out; have hnb136 := NB337_344.out; have hnc136 := NB344_337.out; have hcz137_0 : w133.cell? ⟨gb337, 0, none⟩ = some (.int .i64 t333) := (blk_cell BK337.out 0).trans rfl; have hcz137_1 : w133.cell? ⟨gb337, 1, none⟩ = some (.int .i64 t334) := (blk_cell BK337.out 1).trans rfl; have hfz137_0 := blk_frozen BK337.out 0; have hfz137_1 := blk_frozen BK337.out 1) | ((with_reducible refine gate_callee (f := 27) rfl ?_); refine goesL_ (some 61) rfl rfl Try.func27 (by kernel_rfl) rfl #[.agg #[.int .i64 t333, .int .i64 t334]] rfl (by (try simp only [List.map_toArray, List.map_cons, List.map_nil]); first | done | rfl | (simp only [List.length_drop, List.length_take]; rfl)) ?_; (with_reducible refine (impl_BoundOk.calls t333 t334 true _ A59.out).mono ?_); rintro e w138 ⟨rfl, hb⟩; refine ⟨_, rfl, ?_⟩; have n0_ := Aside0.mk (blk_below (g := gb332) (o := .cells #[.int .i64 t328, .int .i64 t329] 34 (0, 0)) (by (with_reducible repeat (first | refine blk_drewN ?_ _ | refine blk_drew ?_ | refine blk_alloc ?_ _)); exact BK332.out) hb); have n1_ := Aside0.mk (blk_below (g := gb337) (o := .cells #[.int .i64 t333, .int .i64 t334] 34 (0, 0)) (by (with_reducible repeat (first | refine blk_drewN ?_ _ | refine blk_drew ?_ | refine blk_alloc ?_ _)); exact BK337.out) hb); have n2_ := Aside0.mk (blk_below (g := gb338) (o := .cells #[.int .i64 t335, .int .i64 t336] 34 (0, 0)) (by (with_reducible repeat (first | refine blk_drewN ?_ _ | refine blk_drew ?_ | refine blk_alloc ?_ _)); exact BK338.out) hb); have n3_ := Aside0.mk (blk_below (g := gb343) (o := .cells #[.int .i64 t339, .int .i64 t340] 34 (0, 0)) (by (with_reducible repeat (first | refine blk_drewN ?_ _ | refine blk_drew ?_ | refine blk_alloc ?_ _)); exact BK343.out) hb); have n4_ := Aside0.mk (blk_below (g := gb344) (o := .cells #[.int .i64 t341, .int .i64 t342] 34 (0, 0)) (by (with_reducible repeat (first | refine blk_drewN ?_ _ | refine blk_drew ?_ | refine blk_alloc ?_ _)); exact BK344.out) hb); have n5_ := Aside0.mk (below_step (by repeat (first | (with_reducible first | exact HB.out | apply below_alloc | apply pw_below_drewN | apply below_drew1 | refine below_set ?_ GE332.out | refine below_set ?_ GE337.out | refine below_set ?_ GE338.out | refine below_set ?_ GE343.out | refine below_set ?_ GE344.out) | exact HB.out)) hb); clear BK332; clear BK337; clear BK338; clear BK343; clear BK344; clear HB; have BK332 := n0_; have BK337 := n1_; have BK338 := n2_; have BK343 := n3_; have BK344 := n4_; have HB := n5_; clear n0_ n1_ n2_ n3_ n4_ n5_; (try clear hb); (try clear hb2); (try clear hk); (try clear hi); have hnb139 := NB338_343.out; have hnc139 := NB343_338.out; have hnb140 := NB338_344.out; have hnc140 := NB344_338.out; have hcz141_0 : w138.cell? ⟨gb338, 0, none⟩ = some (.int .i64 t335) := (blk_cell BK338.out 0).trans rfl; have hcz141_1 : w138.cell? ⟨gb338, 1, none⟩ = some (.int .i64 t336) := (blk_cell BK338.out 1).trans rfl; have hfz141_0 := blk_frozen BK338.out 0; have hfz141_1 := blk_frozen BK338.out 1) | (go_at_call 27; (with_reducible refine (impl_BoundOk.calls t335 t336 true _ A61.out).mono ?_); rintro e w142 ⟨rfl, hb⟩; have n0_ := Aside0.mk (blk_below (g := gb332) (o := .cells #[.int .i64 t328, .int .i64 t329] 34 (0, 0)) (by (with_reducible repeat (first | refine blk_drewN ?_ _ | refine blk_drew ?_ | refine blk_alloc ?_ _)); exact BK332.out) hb); have n1_ := Aside0.mk (blk_below (g := gb337) (o := .cells #[.int .i64 t333, .int .i64 t334] 34 (0, 0)) (by (with_reducible repeat (first | refine blk_drewN ?_ _ | refine blk_drew ?_ | refine blk_alloc ?_ _)); exact BK337.out) hb); have n2_ := Aside0.mk (blk_below (g := gb338) (o := .cells #[.int .i64 t335, .int .i64 t336] 34 (0, 0)) (by (with_reducible repeat (first | refine blk_drewN ?_ _ | refine blk_drew ?_ | refine blk_alloc ?_ _)); exact BK338.out) hb); have n3_ := Aside0.mk (blk_below (g := gb343) (o := .cells #[.int .i64 t339, .int .i64 t340] 34 (0, 0)) (by (with_reducible repeat (first | refine blk_drewN ?_ _ | refine blk_drew ?_ | refine blk_alloc ?_ _)); exact BK343.out) hb); have n4_ := Aside0.mk (blk_below (g := gb344) (o := .cells #[.int .i64 t341, .int .i64 t342] 34 (0, 0)) (by (with_reducible repeat (first | refine blk_drewN ?_ _ | refine blk_drew ?_ | refine blk_alloc ?_ _)); exact BK344.out) hb); have n5_ := Aside0.mk (below_step (by repeat (first | (with_reducible first | exact HB.out | apply below_alloc | apply pw_below_drewN | apply below_drew1 | refine below_set ?_ GE332.out | refine below_set ?_ GE337.out | refine below_set ?_ GE338.out | refine below_set ?_ GE343.out | refine below_set ?_ GE344.out) | exact HB.out)) hb); clear BK332; clear BK337; clear BK338; clear BK343; clear BK344; clear HB; have BK332 := n0_; have BK337 := n1_; have BK338 := n2_; have BK343 := n3_; have BK344 := n4_; have HB := n5_; clear n0_ n1_ n2_ n3_ n4_ n5_; (try clear hb); (try clear hb2); (try clear hk); (try clear hi); have hcz143_0 : w142.cell? ⟨gb337, 0, none⟩ = some (.int .i64 t333) := (blk_cell BK337.out 0).trans rfl; have hcz143_1 : w142.cell? ⟨gb337, 1, none⟩ = some (.int .i64 t334) := (blk_cell BK337.out 1).trans rfl; have hfz143_0 := blk_frozen BK337.out 0; have hfz143_1 := blk_frozen BK337.out 1; have hcz144_0 : w142.cell? ⟨gb332, 0, none⟩ = some (.int .i64 t328) := (blk_cell BK332.out 0).trans rfl; have hcz144_1 : w142.cell? ⟨gb332, 1, none⟩ = some (.int .i64 t329) := (blk_cell BK332.out 1).trans rfl; have hfz144_0 := blk_frozen BK332.out 0; have hfz144_1 := blk_frozen BK332.out 1; have hcz145_0 : w142.cell? ⟨gb338, 0, none⟩ = some (.int .i64 t335) := (blk_cell BK338.out 0).trans rfl; have hcz145_1 : w142.cell? ⟨gb338, 1, none⟩ = some (.int .i64 t336) := (blk_cell BK338.out 1).trans rfl; have hfz145_0 := blk_frozen BK338.out 0; have hfz145_1 := blk_frozen BK338.out 1))
                              go_ret
                              exact ⟨by first | rfl | (simp [errW_none, errW_some] <;> rfl) | (simp [*, errW_none, errW_some] <;> rfl), by repeat (first | (with_reducible first | exact HB.out | apply below_alloc | apply pw_below_drewN | apply below_drew1 | refine below_set ?_ GE332.out | refine below_set ?_ GE337.out | refine below_set ?_ GE338.out | refine below_set ?_ GE343.out | refine below_set ?_ GE344.out) | exact HB.out)⟩
                            · rw [if_neg c127] at H
                              have c127b0 : (t333 == t328 && (t334 == t329)) = false := by simpa using c127
                              (try (have c127b1 : decide (t333 = t328 && (t334 == t329)) = false := by simpa using c127))
                              (try (have c127b2 : (t333 == t328 && (t334 == t329)) = false := by simpa using c127))
                              (try (have c127b3 : ¬ (t333 = t328 && (t334 == t329)) := by simpa using c127))
                              clear c127
                              exact absurd ((Option.some.inj H).trans HRT.out) (by decide)
              · replace c62 := Bool.eq_false_iff.mpr c62
                subst c62
                have H1 : (some false) = some r := by rw [if_neg (show ¬ (false = true) by decide)] at H; exact H
                clear H
                have H := H1
                clear H1
                exact absurd ((Option.some.inj H).trans HRT.out) (by decide)
            · replace c60 := Bool.eq_false_iff.mpr c60
              subst c60
              have H1 : (some false) = some r := by rw [if_neg (show ¬ (false = true) by decide)] at H; exact H
              clear H
              have H := H1
              clear H1
              exact absurd ((Option.some.inj H).trans HRT.out) (by decide)
          · replace c58 := Bool.eq_false_iff.mpr c58
            subst c58
            have H1 : (if (t333 == t328 && (t334 == t329)) = true then (if (t335 == t328 && (t336 == t329)) = true then ((impl_BoundOk.f t328 t329).bind fun t346 => (some (!t346))) else (some false)) else (some false)) = some r := by rw [if_neg (show ¬ (false = true) by decide)] at H; exact H
            clear H
            have H := H1
            clear H1
            by_cases c146 : (t333 == t328 && (t334 == t329)) = true
            · rw [if_pos c146] at H
              have c146b0 : (t333 == t328 && (t334 == t329)) = true := c146
              (try (have c146b1 : decide (t333 = t328 && (t334 == t329)) = true := by simpa using c146))
              (try (have c146b2 : (t333 == t328 && (t334 == t329)) = true := by simpa using c146))
              clear c146
              by_cases c147 : (t335 == t328 && (t336 == t329)) = true
              · rw [if_pos c147] at H
                have c147b0 : (t335 == t328 && (t336 == t329)) = true := c147
                (try (have c147b1 : decide (t335 = t328 && (t336 == t329)) = true := by simpa using c147))
                (try (have c147b2 : (t335 == t328 && (t336 == t329)) = true := by simpa using c147))
                clear c147
                replace H := Option.bind_eq_some_iff.mp H
                obtain ⟨t346, A1480, H⟩ := H
                replace H : (some (!t346)) = some r := H
                have A148 := Aside0.mk A1480
                clear A1480
                obtain rfl := Option.some.inj H
                have hnb149 := NB332_337.out
                have hnc149 := NB337_332.out
                have hnb150 := NB332_338.out
                have hnc150 := NB338_332.out
                have hnb151 := NB332_343.out
                have hnc151 := NB343_332.out
                have hnb152 := NB332_344.out
                have hnc152 := NB344_332.out
                have hcz153_0 : wc.cell? ⟨gb332, 0, none⟩ = some (.int .i64 t328) := (blk_cell BK332.out 0).trans rfl
                have hcz153_1 : wc.cell? ⟨gb332, 1, none⟩ = some (.int .i64 t329) := (blk_cell BK332.out 1).trans rfl
                have hfz153_0 := blk_frozen BK332.out 0
                have hfz153_1 := blk_frozen BK332.out 1
                go_wp2_with (first | ((with_reducible refine gate_callee (f := 26) rfl ?_); refine goesL_ (some 45) rfl rfl Try.func26 (by kernel_rfl) rfl #[.agg #[.int .i64 t328, .int .i64 t329]] rfl (by (try simp only [List.map_toArray, List.map_cons, List.map_nil]); first | done | rfl | (simp only [List.length_drop, List.length_take]; rfl)) ?_; (with_reducible refine (spec_BoundOk.calls t328 t329 false _ A57.out).mono ?_); rintro e w154 ⟨rfl, hb⟩; refine ⟨_, rfl, ?_⟩; have n0_ := Aside0.mk (blk_below (g := gb332) (o := .cells #[.int .i64 t328, .int .i64 t329] 34 (0, 0)) (by (with_reducible repeat (first | refine blk_drewN ?_ _ | refine blk_drew ?_ | refine blk_alloc ?_ _)); exact BK332.out) hb); have n1_ := Aside0.mk (blk_below (g := gb337) (o := .cells #[.int .i64 t333, .int .i64 t334] 34 (0, 0)) (by (with_reducible repeat (first | refine blk_drewN ?_ _ | refine blk_drew ?_ | refine blk_alloc ?_ _)); exact BK337.out) hb); have n2_ := Aside0.mk (blk_below (g := gb338) (o := .cells #[.int .i64 t335, .int .i64 t336] 34 (0, 0)) (by (with_reducible repeat (first | refine blk_drewN ?_ _ | refine blk_drew ?_ | refine blk_alloc ?_ _)); exact BK338.out) hb); have n3_ := Aside0.mk (blk_below (g := gb343) (o := .cells #[.int .i64 t339, .int .i64 t340] 34 (0, 0)) (by (with_reducible repeat (first | refine blk_drewN ?_ _ | refine blk_drew ?_ | refine blk_alloc ?_ _)); exact BK343.out) hb); have n4_ := Aside0.mk (blk_below (g := gb344) (o := .cells #[.int .i64 t341, .int .i64 t342] 34 (0, 0)) (by (with_reducible repeat (first | refine blk_drewN ?_ _ | refine blk_drew ?_ | refine blk_alloc ?_ _)); exact BK344.out) hb); have n5_ := Aside0.mk (below_step (by repeat (first | (with_reducible first | exact HB.out | apply below_alloc | apply pw_below_drewN | apply below_drew1 | refine below_set ?_ GE332.out | refine below_set ?_ GE337.out | refine below_set ?_ GE338.out | refine below_set ?_ GE343.out | refine below_set ?_ GE344.out) | exact HB.out)) hb); clear BK332; clear BK337; clear BK338; clear BK343; clear BK344; clear HB; have BK332 := n0_; have BK337 := n1_; have BK338 := n2_; have BK343 := n3_; have BK344 := n4_; have HB := n5_; clear n0_ n1_ n2_ n3_ n4_ n5_; (try clear hb); (try clear hb2); (try clear hk); (try clear hi); have hnb155 := NB337_338.out; have hnc155 := NB338_337.out; have hnb156 := NB337_343.out; have hnc156 := NB343_337.out; have hnb157 := NB337_344.out; have hnc157 := NB344_337.out; have hcz158_0 : w154.cell? ⟨gb337, 0, none⟩ = some (.int .i64 t333) := (blk_cell BK337.out 0).trans rfl; have hcz158_1 : w154.cell? ⟨gb337, 1, none⟩ = some (.int .i64 t334) := (blk_cell BK337.out 1).trans rfl; have hfz158_0 := blk_frozen BK337.out 0; have hfz158_1 := blk_frozen BK337.out 1; have hcz159_0 : w154.cell? ⟨gb332, 0, none⟩ = some (.int .i64 t328) := (blk_cell BK332.out 0).trans rfl; have hcz159_1 : w154.cell? ⟨gb332, 1, none⟩ = some (.int .i64 t329) := (blk_cell BK332.out 1).trans rfl; have hfz159_0 := blk_frozen BK332.out 0; have hfz159_1 := blk_frozen BK332.out 1; have hnb160 := NB338_343.out; have hnc160 := NB343_338.out; have hnb161 := NB338_344.out; have hnc161 := NB344_338.out; have hcz162_0 : w154.cell? ⟨gb338, 0, none⟩ = some (.int .i64 t335) := (blk_cell BK338.out 0).trans rfl; have hcz162_1 : w154.cell? ⟨gb338, 1, none⟩ = some (.int .i64 t336) := (blk_cell BK338.out 1).trans rfl; have hfz162_0 := blk_frozen BK338.out 0; have hfz162_1 := blk_frozen BK338.out 1) | (go_at_call 27; (with_reducible refine (impl_BoundOk.calls t328 t329 t346 _ A148.out).mono ?_); rintro e w163 ⟨rfl, hb⟩; have n0_ := Aside0.mk (blk_below (g := gb332) (o := .cells #[.int .i64 t328, .int .i64 t329] 34 (0, 0)) (by (with_reducible repeat (first | refine blk_drewN ?_ _ | refine blk_drew ?_ | refine blk_alloc ?_ _)); exact BK332.out) hb); have n1_ := Aside0.mk (blk_below (g := gb337) (o := .cells #[.int .i64 t333, .int .i64 t334] 34 (0, 0)) (by (with_reducible repeat (first | refine blk_drewN ?_ _ | refine blk_drew ?_ | refine blk_alloc ?_ _)); exact BK337.out) hb); have n2_ := Aside0.mk (blk_below (g := gb338) (o := .cells #[.int .i64 t335, .int .i64 t336] 34 (0, 0)) (by (with_reducible repeat (first | refine blk_drewN ?_ _ | refine blk_drew ?_ | refine blk_alloc ?_ _)); exact BK338.out) hb); have n3_ := Aside0.mk (blk_below (g := gb343) (o := .cells #[.int .i64 t339, .int .i64 t340] 34 (0, 0)) (by (with_reducible repeat (first | refine blk_drewN ?_ _ | refine blk_drew ?_ | refine blk_alloc ?_ _)); exact BK343.out) hb); have n4_ := Aside0.mk (blk_below (g := gb344) (o := .cells #[.int .i64 t341, .int .i64 t342] 34 (0, 0)) (by (with_reducible repeat (first | refine blk_drewN ?_ _ | refine blk_drew ?_ | refine blk_alloc ?_ _)); exact BK344.out) hb); have n5_ := Aside0.mk (below_step (by repeat (first | (with_reducible first | exact HB.out | apply below_alloc | apply pw_below_drewN | apply below_drew1 | refine below_set ?_ GE332.out | refine below_set ?_ GE337.out | refine below_set ?_ GE338.out | refine below_set ?_ GE343.out | refine below_set ?_ GE344.out) | exact HB.out)) hb); clear BK332; clear BK337; clear BK338; clear BK343; clear BK344; clear HB; have BK332 := n0_; have BK337 := n1_; have BK338 := n2_; have BK343 := n3_; have BK344 := n4_; have HB := n5_; clear n0_ n1_ n2_ n3_ n4_ n5_; (try clear hb); (try clear hb2); (try clear hk); (try clear hi)))
                go_ret
                exact ⟨by first | rfl | (simp [errW_none, errW_some] <;> rfl) | (simp [*, errW_none, errW_some] <;> rfl), by repeat (first | (with_reducible first | exact HB.out | apply below_alloc | apply pw_below_drewN | apply below_drew1 | refine below_set ?_ GE332.out | refine below_set ?_ GE337.out | refine below_set ?_ GE338.out | refine below_set ?_ GE343.out | refine below_set ?_ GE344.out) | exact HB.out)⟩
              · rw [if_neg c147] at H
                have c147b0 : (t335 == t328 && (t336 == t329)) = false := by simpa using c147
                (try (have c147b1 : decide (t335 = t328 && (t336 == t329)) = false := by simpa using c147))
                (try (have c147b2 : (t335 == t328 && (t336 == t329)) = false := by simpa using c147))
                (try (have c147b3 : ¬ (t335 = t328 && (t336 == t329)) := by simpa using c147))
                clear c147
                exact absurd ((Option.some.inj H).trans HRT.out) (by decide)
            · rw [if_neg c146] at H
              have c146b0 : (t333 == t328 && (t334 == t329)) = false := by simpa using c146
              (try (have c146b1 : decide (t333 = t328 && (t334 == t329)) = false := by simpa using c146))
              (try (have c146b2 : (t333 == t328 && (t334 == t329)) = false := by simpa using c146))
              (try (have c146b3 : ¬ (t333 = t328 && (t334 == t329)) := by simpa using c146))
              clear c146
              exact absurd ((Option.some.inj H).trans HRT.out) (by decide)

/-- THE ONE PURE STATEMENT of laws_FnSides: yours. -/
def laws_FnSides.Pure : Prop := ∀ (l0 : List Int), l0.length ≤ maxLen → l0.length * 1 ≤ 140737488351232 → (∀ x ∈ l0, (Lit.int .u8 x).wf = true) → ∃ k, laws_FnSides.f k l0 = some true
theorem laws_FnSides.walk (P : laws_FnSides.Pure) (a0 : Option Addr) (len0 cap0 : Nat) (z0 : List Int) (w : World) (w0 : (a0 = none ∧ len0 = 0 ∧ cap0 = 0 ∧ z0 = []) ∨ ∃ x, a0 = some x ∧ len0 ≤ cap0 ∧ cap0 ≤ maxLen ∧ z0.length = cap0 ∧ (∀ i, i < z0.length → w.cell? (x.add i) = some (.int .u8 (z0.getD i 0))) ∧ ∀ n ∈ z0, (Lit.int .u8 n).wf = true) (y0 : len0 * 1 ≤ 140737488351232) :
    Calls Try.prog 4 #[.slice a0 len0 cap0] w fun e w' => e = .returned (.bool true) ∧ Below w.heap.size w w' := by
  obtain ⟨l0, rfl, hr0, hm0, hw0, hc0⟩ := ReadsInt.ofRowC w0
  obtain ⟨k, h⟩ := P l0 hm0 y0 hw0
  refine (laws_FnSides.calls k _ _ l0 true w (Kd.C_of_reads (d := (0 : Int)) (h1 := fun _ => rfl) hr0) hc0 h rfl).mono ?_
  rintro e w' ⟨rfl, hd⟩
  exact ⟨rfl, hd⟩

end Go.Proofs.Ytohngimlmcdiiaa.Q
