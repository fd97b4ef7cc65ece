/- The machine side of FnGain: what each Go function that it reaches comes to. Conditions: none. -/
import Derived.Test.YtjcjehnjbgklbaaQFnGainx0
import Derived.Test.YtjcjehnjbgklbaaQFnGainx1
import Derived.Test.YtjcjehnjbgklbaaQFnGainx6
import Derived.Test.YtjcjehnjbgklbaaQFnGainx8
import Derived.Test.YtjcjehnjbgklbaaQFnGainx9
namespace Go.Proofs.Ytjcjehnjbgklbaa.QFnGain
open Go.RowKit Go.Proofs.YtjcjehnjbgklbaaW.PrintWords Go.Proofs.YtjcjehnjbgklbaaW.PrintLast Go.Proofs.YtjcjehnjbgklbaaW.PrintMore
attribute [local go_sem] max2_int min2_int max_two min_two max_three min_three max_four min_four   -- for this text's walks alone
set_option linter.unusedVariables false
set_option linter.unusedSimpArgs false

attribute [local go_sem high] eqA30
/-! ### laws_FnGain: function 4 -/
theorem laws_FnGain.cells2 {w : World} {g : Nat} {t : TypeId} {a0 a1 : Value} (h : w.heap[g]? = some (.cells #[a0,a1] t (0,0))) : w.cell? ⟨g,0,none⟩ = some a0 ∧ w.cell? ⟨g,1,none⟩ = some a1 ∧ w.frozen? ⟨g,0,none⟩ = false ∧ w.frozen? ⟨g,1,none⟩ = false := ⟨(blk_cell h 0).trans rfl,(blk_cell h 1).trans rfl,blk_frozen h 0,blk_frozen h 1⟩
theorem laws_FnGain.cells4 {w : World} {g : Nat} {t : TypeId} {a0 a1 a2 a3 : Value} (h : w.heap[g]? = some (.cells #[a0,a1,a2,a3] t (0,0))) : w.cell? ⟨g,0,none⟩ = some a0 ∧ w.cell? ⟨g,1,none⟩ = some a1 ∧ w.cell? ⟨g,2,none⟩ = some a2 ∧ w.cell? ⟨g,3,none⟩ = some a3 ∧ w.frozen? ⟨g,0,none⟩ = false ∧ w.frozen? ⟨g,1,none⟩ = false ∧ w.frozen? ⟨g,2,none⟩ = false ∧ w.frozen? ⟨g,3,none⟩ = false := ⟨(blk_cell h 0).trans rfl,(blk_cell h 1).trans rfl,(blk_cell h 2).trans rfl,(blk_cell h 3).trans rfl,blk_frozen h 0,blk_frozen h 1,blk_frozen h 2,blk_frozen h 3⟩
theorem laws_FnGain.cells6 {w : World} {g : Nat} {t : TypeId} {a0 a1 a2 a3 a4 a5 : Value} (h : w.heap[g]? = some (.cells #[a0,a1,a2,a3,a4,a5] t (0,0))) : w.cell? ⟨g,0,none⟩ = some a0 ∧ w.cell? ⟨g,1,none⟩ = some a1 ∧ w.cell? ⟨g,2,none⟩ = some a2 ∧ w.cell? ⟨g,3,none⟩ = some a3 ∧ w.cell? ⟨g,4,none⟩ = some a4 ∧ w.cell? ⟨g,5,none⟩ = some a5 ∧ w.frozen? ⟨g,0,none⟩ = false ∧ w.frozen? ⟨g,1,none⟩ = false ∧ w.frozen? ⟨g,2,none⟩ = false ∧ w.frozen? ⟨g,3,none⟩ = false ∧ w.frozen? ⟨g,4,none⟩ = false ∧ w.frozen? ⟨g,5,none⟩ = false := ⟨(blk_cell h 0).trans rfl,(blk_cell h 1).trans rfl,(blk_cell h 2).trans rfl,(blk_cell h 3).trans rfl,(blk_cell h 4).trans rfl,(blk_cell h 5).trans rfl,blk_frozen h 0,blk_frozen h 1,blk_frozen h 2,blk_frozen h 3,blk_frozen h 4,blk_frozen h 5⟩
def laws_FnGain.j0 : Nat → Int → Bool → Bool → Int → Int → Int → Int → Int → Int → Bool → Int → Int → Int → Option (Bool)
  | 0,_,_,_,_,_,_,_,_,_,_,_,_,_ => none
  | k + 1,x4,x6,x40,x469000,x469001,x469002,x469003,x469004,x469005,x475000,x475001,x475002,x475003 => if x40 = true then (some false) else ((impl_GainOf.f k x469000 x469001 x469004 x469005 x469002 x469003 x4).bind fun bt482 => (if (bt482.2.2.2.2 != x6) = true then (some false) else ((impl_GainOf.f k x469000 x469001 x469004 (wrap64 (-x469005)) x469002 (wrap64 (-x469003)) x4).bind fun bt488 => (if (bt488.2.2.2.2 == x6) = true then (if x6 = true then (if ((bt482.1 == x475000 && (bt482.2.1 == x475001 && (bt482.2.2.1 == x475002))) && (bt482.2.2.2.1 == x475003)) = true then (if ((bt488.1 == x475000 && (bt488.2.1 == x475001 && (bt488.2.2.1 == x475002))) && (bt488.2.2.2.1 == x475003)) = true then ((impl_FracOk.f x475000 x475001 x475002 x475003).bind fun t494 => (some t494)) else (some false)) else (some false)) else (some true)) else (some false)))))
def laws_FnGain.f (k : Nat) (l0 : List Int) : Option (Bool) := (laws_big.f l0).bind fun t460 => (if t460 = true then (some true) else ((spec_DrawGainOf.f k l0).bind fun bt461 => ((impl_GainOf.f k bt461.1 bt461.2.1 bt461.2.2.1 bt461.2.2.2.1 bt461.2.2.2.2.1 bt461.2.2.2.2.2.1 bt461.2.2.2.2.2.2).bind fun bt469 => ((spec_GainOf.f k bt461.1 bt461.2.1 bt461.2.2.1 bt461.2.2.2.1 bt461.2.2.2.2.1 bt461.2.2.2.2.2.1 bt461.2.2.2.2.2.2).bind fun bt475 => (if (bt469.2.2.2.2 != bt475.2.2.2.2) = true then (laws_FnGain.j0 k bt461.2.2.2.2.2.2 bt469.2.2.2.2 true bt461.1 bt461.2.1 bt461.2.2.1 bt461.2.2.2.1 bt461.2.2.2.2.1 bt461.2.2.2.2.2.1 bt469.1 bt469.2.1 bt469.2.2.1 bt469.2.2.2.1) else (laws_FnGain.j0 k bt461.2.2.2.2.2.2 bt469.2.2.2.2 ((!(bt469.1 == bt475.1) || (!(bt469.2.1 == bt475.2.1) || (!(bt469.2.2.1 == bt475.2.2.1)))) || (!(bt469.2.2.2.1 == bt475.2.2.2.1))) bt461.1 bt461.2.1 bt461.2.2.1 bt461.2.2.2.1 bt461.2.2.2.2.1 bt461.2.2.2.2.2.1 bt469.1 bt469.2.1 bt469.2.2.1 bt469.2.2.2.1))))))
theorem laws_FnGain.mono_l : ∀ k,(∀ y0 y1 y2 y3 y4 y5 y6 y7 y8 y9 y10 y11 y12,LeO (laws_FnGain.j0 k y0 y1 y2 y3 y4 y5 y6 y7 y8 y9 y10 y11 y12) (laws_FnGain.j0 (k + 1) y0 y1 y2 y3 y4 y5 y6 y7 y8 y9 y10 y11 y12))
  | 0 => fun _ _ _ _ _ _ _ _ _ _ _ _ _ r h => by simp [laws_FnGain.j0] at h
  | k + 1 => by
    have ih0 := laws_FnGain.mono_l k
    · intro y0 y1 y2 y3 y4 y5 y6 y7 y8 y9 y10 y11 y12
      unfold laws_FnGain.j0
      repeat' first
      | (with_reducible exact ih0 _ _ _ _ _ _ _ _ _ _ _ _ _)
      | (with_reducible exact impl_GainOf.mono _ _ _ _ _ _ _ _)
      | (with_reducible exact spec_DrawGainOf.mono _ _)
      | (with_reducible exact spec_GainOf.mono _ _ _ _ _ _ _ _)
      | (with_reducible exact LeO.refl _)
      | (with_reducible exact LeO.none _)
      | (with_reducible refine LeO.ite ?_ ?_)
      | (with_reducible refine LeO.bind ?_ (fun _ => ?_))
      | exact ih0 _ _ _ _ _ _ _ _ _ _ _ _ _
      | exact impl_GainOf.mono _ _ _ _ _ _ _ _
      | exact spec_DrawGainOf.mono _ _
      | exact spec_GainOf.mono _ _ _ _ _ _ _ _
      | exact LeO.none _
      | refine LeO.ite ?_ ?_
      | refine LeO.bind ?_ (fun _ => ?_)
theorem laws_FnGain.mono : ∀ a0 k,LeO (laws_FnGain.f k a0) (laws_FnGain.f (k + 1) a0) := by
  intro a0 k
  have ih0 := laws_FnGain.mono_l k
  unfold laws_FnGain.f
  repeat' first
      | (with_reducible exact ih0 _ _ _ _ _ _ _ _ _ _ _ _ _)
      | (with_reducible exact impl_GainOf.mono _ _ _ _ _ _ _ _)
      | (with_reducible exact spec_DrawGainOf.mono _ _)
      | (with_reducible exact spec_GainOf.mono _ _ _ _ _ _ _ _)
      | (with_reducible exact LeO.refl _)
      | (with_reducible exact LeO.none _)
      | (with_reducible refine LeO.ite ?_ ?_)
      | (with_reducible refine LeO.bind ?_ (fun _ => ?_))
      | exact ih0 _ _ _ _ _ _ _ _ _ _ _ _ _
      | exact impl_GainOf.mono _ _ _ _ _ _ _ _
      | exact spec_DrawGainOf.mono _ _
      | exact spec_GainOf.mono _ _ _ _ _ _ _ _
      | exact LeO.none _
      | refine LeO.ite ?_ ?_
      | refine LeO.bind ?_ (fun _ => ?_)
theorem laws_FnGain.j0_stop {k : Nat} {r : Bool} {y4 : Int} {y6 : Bool} {y469000 : Int} {y469001 : Int} {y469002 : Int} {y469003 : Int} {y469004 : Int} {y469005 : Int} {y475000 : Bool} {y475001 : Int} {y475002 : Int} {y475003 : Int} (h : laws_FnGain.j0 k y4 y6 true y469000 y469001 y469002 y469003 y469004 y469005 y475000 y475001 y475002 y475003 = some r) : r = false := by
  cases k with
  | zero => simp [laws_FnGain.j0] at h
  | succ k =>
    simp only [laws_FnGain.j0] at h
    rw [if_pos trivial] at h
    exact (Option.some.inj h).symm
set_option maxHeartbeats 8000000 in
set_option maxRecDepth 100000 in
theorem laws_FnGain.calls (k : Nat) (A0 : Option Addr) (c0 : Nat) (l0 : List Int) (r : Bool) (w : World) (hr0 : Kd.C (Kd.int .u8) w A0 l0.length l0) (hc0 : l0.length ≤ c0) (h : laws_FnGain.f k l0 = some r) (hr_ : r = true) :
    Calls Try.prog 4 #[.slice A0 l0.length c0] w fun e w' => e = .returned (.bool r) ∧ Below w.heap.size w w' := by
  have HRT := Aside0.mk hr_
  clear hr_
  have hu35 := Try.underlying35
  have hu30 := Try.underlying30
  have hu33 := Try.underlying33
  have HR0 := Aside0.mk hr0
  have HC0 := Aside0.mk hc0
  clear hr0 hc0
  have HB := Aside0.mk (Below.refl w.heap.size w)
  have H : ((laws_big.f l0).bind fun t460 => (if t460 = true then (some true) else ((spec_DrawGainOf.f k l0).bind fun bt461 => ((impl_GainOf.f k bt461.1 bt461.2.1 bt461.2.2.1 bt461.2.2.2.1 bt461.2.2.2.2.1 bt461.2.2.2.2.2.1 bt461.2.2.2.2.2.2).bind fun bt469 => ((spec_GainOf.f k bt461.1 bt461.2.1 bt461.2.2.1 bt461.2.2.2.1 bt461.2.2.2.2.1 bt461.2.2.2.2.2.1 bt461.2.2.2.2.2.2).bind fun bt475 => (if (bt469.2.2.2.2 != bt475.2.2.2.2) = true then (laws_FnGain.j0 k bt461.2.2.2.2.2.2 bt469.2.2.2.2 true bt461.1 bt461.2.1 bt461.2.2.1 bt461.2.2.2.1 bt461.2.2.2.2.1 bt461.2.2.2.2.2.1 bt469.1 bt469.2.1 bt469.2.2.1 bt469.2.2.2.1) else (laws_FnGain.j0 k bt461.2.2.2.2.2.2 bt469.2.2.2.2 ((!(bt469.1 == bt475.1) || (!(bt469.2.1 == bt475.2.1) || (!(bt469.2.2.1 == bt475.2.2.1)))) || (!(bt469.2.2.2.1 == bt475.2.2.2.1))) bt461.1 bt461.2.1 bt461.2.2.1 bt461.2.2.2.1 bt461.2.2.2.2.1 bt461.2.2.2.2.2.1 bt469.1 bt469.2.1 bt469.2.2.1 bt469.2.2.2.1))))))) = some r := h
  clear h
  obtain ⟨t460,A20,H⟩ := Option.bind_eq_some_iff.mp H
  have A2 := Aside0.mk A20
  clear A20
  by_cases c3 : t460 = true
  · subst c3
    have H1 : (some true) = some r := by rw [if_pos rfl] at H;exact H
    clear H
    have H := H1
    clear H1
    obtain rfl := Option.some.inj H
    go_enter Try.func4,Try.ntmps4
    go_wp2_with (first | ((with_reducible refine gate_callee (f := 13) rfl ?_);refine goesL_ (some 15) rfl rfl Try.func13 Z363 rfl #[.slice A0 l0.length c0] rfl Z330 ?_;(with_reducible refine (laws_big.calls _ _ l0 true _ ?side1 ?side2 A2.out).mono ?_);(case side1 => exact Z329);(case side2 => exact HC0.out);rintro e w' ⟨rfl,⟨nd,rfl⟩⟩;refine ⟨_,rfl,?_⟩))
    go_ret
    exact ⟨Z354,Z430⟩
  · replace c3 := Bool.eq_false_iff.mpr c3
    subst c3
    have H1 : ((spec_DrawGainOf.f k l0).bind fun bt461 => ((impl_GainOf.f k bt461.1 bt461.2.1 bt461.2.2.1 bt461.2.2.2.1 bt461.2.2.2.2.1 bt461.2.2.2.2.2.1 bt461.2.2.2.2.2.2).bind fun bt469 => ((spec_GainOf.f k bt461.1 bt461.2.1 bt461.2.2.1 bt461.2.2.2.1 bt461.2.2.2.2.1 bt461.2.2.2.2.2.1 bt461.2.2.2.2.2.2).bind fun bt475 => (if (bt469.2.2.2.2 != bt475.2.2.2.2) = true then (laws_FnGain.j0 k bt461.2.2.2.2.2.2 bt469.2.2.2.2 true bt461.1 bt461.2.1 bt461.2.2.1 bt461.2.2.2.1 bt461.2.2.2.2.1 bt461.2.2.2.2.2.1 bt469.1 bt469.2.1 bt469.2.2.1 bt469.2.2.2.1) else (laws_FnGain.j0 k bt461.2.2.2.2.2.2 bt469.2.2.2.2 ((!(bt469.1 == bt475.1) || (!(bt469.2.1 == bt475.2.1) || (!(bt469.2.2.1 == bt475.2.2.1)))) || (!(bt469.2.2.2.1 == bt475.2.2.2.1))) bt461.1 bt461.2.1 bt461.2.2.1 bt461.2.2.2.1 bt461.2.2.2.2.1 bt461.2.2.2.2.2.1 bt469.1 bt469.2.1 bt469.2.2.1 bt469.2.2.2.1))))) = some r := by rw [if_neg (show ¬ (false = true) by decide)] at H;exact H
    clear H
    have H := H1
    clear H1
    obtain ⟨⟨t461,t462,t463,t464,t465,t466,t467⟩,A40,H⟩ := Option.bind_eq_some_iff.mp H
    try dsimp only at H
    have A4 := Aside0.mk A40
    clear A40
    obtain ⟨⟨t469,t470,t471,t472,t473⟩,A50,H⟩ := Option.bind_eq_some_iff.mp H
    try dsimp only at H
    have A5 := Aside0.mk A50
    clear A50
    obtain ⟨⟨t475,t476,t477,t478,t479⟩,A60,H⟩ := Option.bind_eq_some_iff.mp H
    try dsimp only at H
    have A6 := Aside0.mk A60
    clear A60
    have HC7 := Aside0.mk H
    clear H
    go_enter Try.func4,Try.ntmps4
    go_upto_region 6 with (first | ((with_reducible refine gate_callee (f := 13) rfl ?_);refine goesL_ (some 15) rfl rfl Try.func13 Z363 rfl #[.slice A0 l0.length c0] rfl Z330 ?_;(with_reducible refine (laws_big.calls _ _ l0 false _ ?side1 ?side2 A2.out).mono ?_);(case side1 => exact Z329);(case side2 => exact HC0.out);rintro e w' ⟨rfl,⟨nd,rfl⟩⟩;refine ⟨_,rfl,?_⟩) | ((with_reducible refine gate_callee (f := 14) rfl ?_);refine goesL_ (some 18) rfl rfl Try.func14 Z363 rfl #[.slice A0 l0.length c0] rfl Z330 ?_;(with_reducible refine (spec_DrawGainOf.calls k _ _ l0 t461 t462 t463 t464 t465 t466 t467 _ ?side1 ?side2 A4.out).mono ?_);(case side1 => exact Z329);(case side2 => exact HC0.out);rintro e w8 ⟨rfl,hb⟩;refine ⟨_,rfl,?_⟩;have n0_ := Aside0.mk (below_step Z430 hb);clear HB;have HB := n0_;clear n0_;(try clear hb);(try clear hb2);(try clear hk);(try clear hi)) | ((with_reducible refine gate_dst (N := 3) rfl ?_);refine box_event ?hg (N := 3) ?hd (cs := #[.int .i64 0,.int .i64 0,.int .i64 0,.int .i64 0,.int .i64 0,.int .i64 0]) (t := 35) ?hr ?_;(case hd => rfl);(case hg => rfl);(case hr => exact Z359);intro gb468 hg w9 hbox hb;have n_ := jA (below_step Z430 hb) (jA (hbox) (jA ((Z321 : w.heap.size ≤ gb468)) (Aside0.mk ((Z321 : w.heap.size ≤ gb468)))));clear HB;obtain ⟨HB,BK468,GW468,GE468⟩ := n_;clear hb hbox hg;obtain ⟨hcz10_0,hcz10_1,hcz10_2,hcz10_3,hcz10_4,hcz10_5,hfz10_0,hfz10_1,hfz10_2,hfz10_3,hfz10_4,hfz10_5⟩ := laws_FnGain.cells6 BK468.out) | ((with_reducible refine gate_callee (f := 11) rfl ?_);refine goesL_ (some 24) rfl rfl Try.func11 Z363 rfl #[.agg #[.int .i64 t461,.int .i64 t462,.int .i64 t463,.int .i64 t464,.int .i64 t465,.int .i64 t466],.int .i64 t467] rfl Z330 ?_;(with_reducible refine (impl_GainOf.calls k t461 t462 t463 t464 t465 t466 t467 t469 t470 t471 t472 t473 _ A5.out).mono ?_);rintro e w11 ⟨rfl,hb⟩;refine ⟨_,rfl,?_⟩;have n_ := jA (blk_below (g := gb468) (o := .cells #[.int .i64 t461,.int .i64 t462,.int .i64 t463,.int .i64 t464,.int .i64 t465,.int .i64 t466] 35 (0,0)) (by (with_reducible repeat (first | refine bA ?_ _ | refine bB ?_ | refine bC ?_ _));refine blk_put (cs := #[.int .i64 t461,.int .i64 t462,.int .i64 t463,.int .i64 t464,.int .i64 t465,.int .i64 0]) ?_ 5 _ rfl;(with_reducible repeat (first | refine bA ?_ _ | refine bB ?_ | refine bC ?_ _));refine blk_put (cs := #[.int .i64 t461,.int .i64 t462,.int .i64 t463,.int .i64 t464,.int .i64 0,.int .i64 0]) ?_ 4 _ rfl;(with_reducible repeat (first | refine bA ?_ _ | refine bB ?_ | refine bC ?_ _));refine blk_put (cs := #[.int .i64 t461,.int .i64 t462,.int .i64 t463,.int .i64 0,.int .i64 0,.int .i64 0]) ?_ 3 _ rfl;(with_reducible repeat (first | refine bA ?_ _ | refine bB ?_ | refine bC ?_ _));refine blk_put (cs := #[.int .i64 t461,.int .i64 t462,.int .i64 0,.int .i64 0,.int .i64 0,.int .i64 0]) ?_ 2 _ rfl;(with_reducible repeat (first | refine bA ?_ _ | refine bB ?_ | refine bC ?_ _));refine blk_put (cs := #[.int .i64 t461,.int .i64 0,.int .i64 0,.int .i64 0,.int .i64 0,.int .i64 0]) ?_ 1 _ rfl;(with_reducible repeat (first | refine bA ?_ _ | refine bB ?_ | refine bC ?_ _));refine blk_put (cs := #[.int .i64 0,.int .i64 0,.int .i64 0,.int .i64 0,.int .i64 0,.int .i64 0]) ?_ 0 _ rfl;(with_reducible repeat (first | refine bA ?_ _ | refine bB ?_ | refine bC ?_ _));exact BK468.out) hb) (Aside0.mk (below_step Z418 hb));clear BK468 HB;obtain ⟨BK468,HB⟩ := n_;(try clear hb);(try clear hb2);(try clear hk);(try clear hi)) | ((with_reducible refine gate_dst (N := 5) rfl ?_);refine box_event ?hg (N := 5) ?hd (cs := #[.bool false,.int .u64 0,.int .u64 0,.int .i64 0]) (t := 30) ?hr ?_;(case hd => rfl);(case hg => rfl);(case hr => exact Z359);intro gb474 hg w12 hbox hb;have n_ := jA (blk_below (g := gb468) (o := .cells #[.int .i64 t461,.int .i64 t462,.int .i64 t463,.int .i64 t464,.int .i64 t465,.int .i64 t466] 35 (0,0)) Z451 hb) (jA (below_step Z418 hb) (jA (hbox) (jA ((Z308 : w.heap.size ≤ gb474)) (jA ((Z308 : w.heap.size ≤ gb474)) (jA ((Z149 : gb468 ≠ gb474)) (Aside0.mk ((Z150 : gb474 ≠ gb468))))))));clear BK468 HB;obtain ⟨BK468,HB,BK474,GW474,GE474,NB468_474,NB474_468⟩ := n_;clear hb hbox hg;have hnb13 := NB474_468.out;have hnc13 := NB468_474.out;obtain ⟨hcz14_0,hcz14_1,hcz14_2,hcz14_3,hfz14_0,hfz14_1,hfz14_2,hfz14_3⟩ := laws_FnGain.cells4 BK474.out;obtain ⟨hcz15_0,hcz15_1,hcz15_2,hcz15_3,hcz15_4,hcz15_5,hfz15_0,hfz15_1,hfz15_2,hfz15_3,hfz15_4,hfz15_5⟩ := laws_FnGain.cells6 BK468.out) | ((with_reducible refine gate_callee (f := 9) rfl ?_);refine goesL_ (some 30) rfl rfl Try.func9 Z363 rfl #[.agg #[.int .i64 t461,.int .i64 t462,.int .i64 t463,.int .i64 t464,.int .i64 t465,.int .i64 t466],.int .i64 t467] rfl Z330 ?_;(with_reducible refine (spec_GainOf.calls k t461 t462 t463 t464 t465 t466 t467 t475 t476 t477 t478 t479 _ A6.out).mono ?_);rintro e w16 ⟨rfl,hb⟩;refine ⟨_,rfl,?_⟩;have n_ := jA (blk_below (g := gb468) (o := .cells #[.int .i64 t461,.int .i64 t462,.int .i64 t463,.int .i64 t464,.int .i64 t465,.int .i64 t466] 35 (0,0)) (by (with_reducible repeat (first | refine bA ?_ _ | refine bB ?_ | refine bC ?_ _));refine blk_far ?_ NB468_474.out _;(with_reducible repeat (first | refine bA ?_ _ | refine bB ?_ | refine bC ?_ _));refine blk_far ?_ NB468_474.out _;(with_reducible repeat (first | refine bA ?_ _ | refine bB ?_ | refine bC ?_ _));refine blk_far ?_ NB468_474.out _;(with_reducible repeat (first | refine bA ?_ _ | refine bB ?_ | refine bC ?_ _));refine blk_far ?_ NB468_474.out _;(with_reducible repeat (first | refine bA ?_ _ | refine bB ?_ | refine bC ?_ _));exact BK468.out) hb) (jA (blk_below (g := gb474) (o := .cells #[.bool t469,.int .u64 t470,.int .u64 t471,.int .i64 t472] 30 (0,0)) (by (with_reducible repeat (first | refine bA ?_ _ | refine bB ?_ | refine bC ?_ _));refine blk_put (cs := #[.bool t469,.int .u64 t470,.int .u64 t471,.int .i64 0]) ?_ 3 _ rfl;(with_reducible repeat (first | refine bA ?_ _ | refine bB ?_ | refine bC ?_ _));refine blk_put (cs := #[.bool t469,.int .u64 t470,.int .u64 0,.int .i64 0]) ?_ 2 _ rfl;(with_reducible repeat (first | refine bA ?_ _ | refine bB ?_ | refine bC ?_ _));refine blk_put (cs := #[.bool t469,.int .u64 0,.int .u64 0,.int .i64 0]) ?_ 1 _ rfl;(with_reducible repeat (first | refine bA ?_ _ | refine bB ?_ | refine bC ?_ _));refine blk_put (cs := #[.bool false,.int .u64 0,.int .u64 0,.int .i64 0]) ?_ 0 _ rfl;(with_reducible repeat (first | refine bA ?_ _ | refine bB ?_ | refine bC ?_ _));exact BK474.out) hb) (Aside0.mk (below_step Z402 hb)));clear BK468 BK474 HB;obtain ⟨BK468,BK474,HB⟩ := n_;(try clear hb);(try clear hb2);(try clear hk);(try clear hi)) | ((with_reducible refine gate_dst (N := 7) rfl ?_);refine box_event ?hg (N := 7) ?hd (cs := #[.bool false,.int .u64 0,.int .u64 0,.int .i64 0]) (t := 30) ?hr ?_;(case hd => rfl);(case hg => rfl);(case hr => exact Z359);intro gb480 hg w17 hbox hb;have n_ := jA (blk_below (g := gb468) (o := .cells #[.int .i64 t461,.int .i64 t462,.int .i64 t463,.int .i64 t464,.int .i64 t465,.int .i64 t466] 35 (0,0)) Z451 hb) (jA (blk_below (g := gb474) (o := .cells #[.bool t469,.int .u64 t470,.int .u64 t471,.int .i64 t472] 30 (0,0)) Z462 hb) (jA (below_step Z402 hb) (jA (hbox) (jA ((Z212 : w.heap.size ≤ gb480)) (jA ((Z212 : w.heap.size ≤ gb480)) (jA ((Z149 : gb468 ≠ gb480)) (jA ((Z150 : gb480 ≠ gb468)) (jA ((Z184 : gb474 ≠ gb480)) (Aside0.mk ((Z187 : gb480 ≠ gb474)))))))))));clear BK468 BK474 HB;obtain ⟨BK468,BK474,HB,BK480,GW480,GE480,NB468_480,NB480_468,NB474_480,NB480_474⟩ := n_;clear hb hbox hg;have hnb18 := NB480_468.out;have hnc18 := NB468_480.out;have hnb19 := NB480_474.out;have hnc19 := NB474_480.out;obtain ⟨hcz20_0,hcz20_1,hcz20_2,hcz20_3,hfz20_0,hfz20_1,hfz20_2,hfz20_3⟩ := laws_FnGain.cells4 BK480.out))
    (try simp only [Act.put,List.setIfInBounds_toArray,List.set_cons_zero,List.set_cons_succ])
    go_cut [40] (fun v40 wc => ∃ (kq : Nat) (x40_6 : Bool),v40 = .bool x40_6 ∧ Aside0 (laws_FnGain.j0 kq t467 t473 x40_6 t461 t462 t463 t464 t465 t466 t469 t470 t471 t472 = some r) ∧ Aside0 (kq ≤ k) ∧ Aside0 (wc.heap[gb468]? = some (.cells #[.int .i64 t461,.int .i64 t462,.int .i64 t463,.int .i64 t464,.int .i64 t465,.int .i64 t466] 35 (0,0))) ∧ Aside0 (wc.heap[gb474]? = some (.cells #[.bool t469,.int .u64 t470,.int .u64 t471,.int .i64 t472] 30 (0,0))) ∧ Aside0 (wc.heap[gb480]? = some (.cells #[.bool t475,.int .u64 t476,.int .u64 t477,.int .i64 t478] 30 (0,0))) ∧ Aside0 (Below w.heap.size w wc))
    case first =>
      have H := HC7.out
      clear HC7
      by_cases c21 : (t473 != t479) = true
      · rw [if_pos c21] at H
        have c21b0 : (t473 != t479) = true := c21
        (try (have c21b1 : decide (t473 = t479) = false := by simpa using c21))
        (try (have c21b2 : (t473 == t479) = false := by simpa using c21))
        (try (have c21b3 : ¬ (t473 = t479) := by simpa using c21))
        clear c21
        (first | rw [c21b0] | (simp only [i64_w,i32_w];rw [c21b0]) | skip)
        exact absurd ((laws_FnGain.j0_stop H).symm.trans HRT.out) Z364
      · rw [if_neg c21] at H
        have c21b0 : (t473 != t479) = false := by simpa using c21
        (try (have c21b1 : decide (t473 = t479) = true := by simpa using c21))
        (try (have c21b2 : (t473 == t479) = true := by simpa using c21))
        clear c21
        (first | rw [c21b0] | (simp only [i64_w,i32_w];rw [c21b0]) | skip)
        have H' := Aside0.mk H
        clear H
        have hnb22 := NB474_468.out
        have hnc22 := NB468_474.out
        have hnb23 := NB474_480.out
        have hnc23 := NB480_474.out
        obtain ⟨hcz24_0,hcz24_1,hcz24_2,hcz24_3,hfz24_0,hfz24_1,hfz24_2,hfz24_3⟩ := laws_FnGain.cells4 BK474.out
        have hnb25 := NB480_468.out
        have hnc25 := NB468_480.out
        obtain ⟨hcz26_0,hcz26_1,hcz26_2,hcz26_3,hfz26_0,hfz26_1,hfz26_2,hfz26_3⟩ := laws_FnGain.cells4 BK480.out
        go_wp2
        go_meet
        case rel => exact ⟨_,(((!(t469 == t475) || (!(t470 == t476) || (!(t471 == t477)))) || (!(t472 == t478)))),Z358,H',⟨Z360⟩,⟨by (with_reducible repeat (first | refine bA ?_ _ | refine bB ?_ | refine bC ?_ _));refine blk_far ?_ NB468_480.out _;(with_reducible repeat (first | refine bA ?_ _ | refine bB ?_ | refine bC ?_ _));refine blk_far ?_ NB468_480.out _;(with_reducible repeat (first | refine bA ?_ _ | refine bB ?_ | refine bC ?_ _));refine blk_far ?_ NB468_480.out _;(with_reducible repeat (first | refine bA ?_ _ | refine bB ?_ | refine bC ?_ _));refine blk_far ?_ NB468_480.out _;(with_reducible repeat (first | refine bA ?_ _ | refine bB ?_ | refine bC ?_ _));exact BK468.out⟩,⟨by (with_reducible repeat (first | refine bA ?_ _ | refine bB ?_ | refine bC ?_ _));refine blk_far ?_ NB474_480.out _;(with_reducible repeat (first | refine bA ?_ _ | refine bB ?_ | refine bC ?_ _));refine blk_far ?_ NB474_480.out _;(with_reducible repeat (first | refine bA ?_ _ | refine bB ?_ | refine bC ?_ _));refine blk_far ?_ NB474_480.out _;(with_reducible repeat (first | refine bA ?_ _ | refine bB ?_ | refine bC ?_ _));refine blk_far ?_ NB474_480.out _;(with_reducible repeat (first | refine bA ?_ _ | refine bB ?_ | refine bC ?_ _));exact BK474.out⟩,⟨by (with_reducible repeat (first | refine bA ?_ _ | refine bB ?_ | refine bC ?_ _));refine blk_put (cs := #[.bool t475,.int .u64 t476,.int .u64 t477,.int .i64 0]) ?_ 3 _ rfl;(with_reducible repeat (first | refine bA ?_ _ | refine bB ?_ | refine bC ?_ _));refine blk_put (cs := #[.bool t475,.int .u64 t476,.int .u64 0,.int .i64 0]) ?_ 2 _ rfl;(with_reducible repeat (first | refine bA ?_ _ | refine bB ?_ | refine bC ?_ _));refine blk_put (cs := #[.bool t475,.int .u64 0,.int .u64 0,.int .i64 0]) ?_ 1 _ rfl;(with_reducible repeat (first | refine bA ?_ _ | refine bB ?_ | refine bC ?_ _));refine blk_put (cs := #[.bool false,.int .u64 0,.int .u64 0,.int .i64 0]) ?_ 0 _ rfl;(with_reducible repeat (first | refine bA ?_ _ | refine bB ?_ | refine bC ?_ _));exact BK480.out⟩,⟨Z391⟩⟩
    case rest =>
      clear HC7
      try clear c1
      try clear c2
      try clear p2
      try clear c3
      try clear c4
      try clear c9
      try clear c11
      try clear c13
      try clear c14
      try clear c18
      try clear c19
      try clear c21
      try clear c21b0
      try clear c21b1
      try clear c21b2
      try clear c22
      try clear c23
      try clear c25
      try clear hcz10_0
      try clear hcz10_1
      try clear hcz10_2
      try clear hcz10_3
      try clear hcz10_4
      try clear hcz10_5
      try clear hcz14_0
      try clear hcz14_1
      try clear hcz14_2
      try clear hcz14_3
      try clear hcz15_0
      try clear hcz15_1
      try clear hcz15_2
      try clear hcz15_3
      try clear hcz15_4
      try clear hcz15_5
      try clear hcz20_0
      try clear hcz20_1
      try clear hcz20_2
      try clear hcz20_3
      try clear hcz24_0
      try clear hcz24_1
      try clear hcz24_2
      try clear hcz24_3
      try clear hcz26_0
      try clear hcz26_1
      try clear hcz26_2
      try clear hcz26_3
      try clear hfz10_0
      try clear hfz10_1
      try clear hfz10_2
      try clear hfz10_3
      try clear hfz10_4
      try clear hfz10_5
      try clear hfz14_0
      try clear hfz14_1
      try clear hfz14_2
      try clear hfz14_3
      try clear hfz15_0
      try clear hfz15_1
      try clear hfz15_2
      try clear hfz15_3
      try clear hfz15_4
      try clear hfz15_5
      try clear hfz20_0
      try clear hfz20_1
      try clear hfz20_2
      try clear hfz20_3
      try clear hfz24_0
      try clear hfz24_1
      try clear hfz24_2
      try clear hfz24_3
      try clear hfz26_0
      try clear hfz26_1
      try clear hfz26_2
      try clear hfz26_3
      obtain ⟨kq,x40_6,rfl,HA,HJ6,BK468,BK474,BK480,HB⟩ := hcut
      cases kq with
      | zero => exact absurd HA.out (by simp [laws_FnGain.j0])
      | succ kj6 =>
        have H := HA.out
        clear HA
        simp only [laws_FnGain.j0] at H
        by_cases c27 : x40_6 = true
        · subst c27
          have H1 : (some false) = some r := by rw [if_pos rfl] at H;exact H
          clear H
          have H := H1
          clear H1
          exact absurd ((Option.some.inj H).trans HRT.out) Z364
        · replace c27 := Bool.eq_false_iff.mpr c27
          subst c27
          have H1 : ((impl_GainOf.f kj6 t461 t462 t465 t466 t463 t464 t467).bind fun bt482 => (if (bt482.2.2.2.2 != t473) = true then (some false) else ((impl_GainOf.f kj6 t461 t462 t465 (wrap64 (-t466)) t463 (wrap64 (-t464)) t467).bind fun bt488 => (if (bt488.2.2.2.2 == t473) = true then (if t473 = true then (if ((bt482.1 == t469 && (bt482.2.1 == t470 && (bt482.2.2.1 == t471))) && (bt482.2.2.2.1 == t472)) = true then (if ((bt488.1 == t469 && (bt488.2.1 == t470 && (bt488.2.2.1 == t471))) && (bt488.2.2.2.1 == t472)) = true then ((impl_FracOk.f t469 t470 t471 t472).bind fun t494 => (some t494)) else (some false)) else (some false)) else (some true)) else (some false))))) = some r := by rw [if_neg (show ¬ (false = true) by decide)] at H;exact H
          clear H
          have H := H1
          clear H1
          obtain ⟨⟨t482,t483,t484,t485,t486⟩,A280,H⟩ := Option.bind_eq_some_iff.mp H
          try dsimp only at H
          have A28 := Aside0.mk A280
          clear A280
          by_cases c29 : (t486 != t473) = true
          · rw [if_pos c29] at H
            have c29b0 : (t486 != t473) = true := c29
            (try (have c29b1 : decide (t486 = t473) = false := by simpa using c29))
            (try (have c29b2 : (t486 == t473) = false := by simpa using c29))
            (try (have c29b3 : ¬ (t486 = t473) := by simpa using c29))
            clear c29
            exact absurd ((Option.some.inj H).trans HRT.out) Z364
          · rw [if_neg c29] at H
            have c29b0 : (t486 != t473) = false := by simpa using c29
            (try (have c29b1 : decide (t486 = t473) = true := by simpa using c29))
            (try (have c29b2 : (t486 == t473) = true := by simpa using c29))
            clear c29
            obtain ⟨⟨t488,t489,t490,t491,t492⟩,A300,H⟩ := Option.bind_eq_some_iff.mp H
            try dsimp only at H
            have A30 := Aside0.mk A300
            clear A300
            by_cases c31 : (t492 == t473) = true
            · rw [if_pos c31] at H
              have c31b0 : (t492 == t473) = true := c31
              (try (have c31b1 : decide (t492 = t473) = true := by simpa using c31))
              (try (have c31b2 : (t492 == t473) = true := by simpa using c31))
              clear c31
              by_cases c32 : t473 = true
              · subst c32
                have H1 : (if ((t482 == t469 && (t483 == t470 && (t484 == t471))) && (t485 == t472)) = true then (if ((t488 == t469 && (t489 == t470 && (t490 == t471))) && (t491 == t472)) = true then ((impl_FracOk.f t469 t470 t471 t472).bind fun t494 => (some t494)) else (some false)) else (some false)) = some r := by rw [if_pos rfl] at H;exact H
                clear H
                have H := H1
                clear H1
                by_cases c33 : ((t482 == t469 && (t483 == t470 && (t484 == t471))) && (t485 == t472)) = true
                · rw [if_pos c33] at H
                  have c33b0 : ((t482 == t469 && (t483 == t470 && (t484 == t471))) && (t485 == t472)) = true := c33
                  clear c33
                  by_cases c34 : ((t488 == t469 && (t489 == t470 && (t490 == t471))) && (t491 == t472)) = true
                  · rw [if_pos c34] at H
                    have c34b0 : ((t488 == t469 && (t489 == t470 && (t490 == t471))) && (t491 == t472)) = true := c34
                    clear c34
                    obtain ⟨t494,A350,H⟩ := Option.bind_eq_some_iff.mp H
                    have A35 := Aside0.mk A350
                    clear A350
                    obtain rfl := Option.some.inj H
                    have hnb36 := NB468_474.out
                    have hnc36 := NB474_468.out
                    have hnb37 := NB468_480.out
                    have hnc37 := NB480_468.out
                    obtain ⟨hcz38_0,hcz38_1,hcz38_2,hcz38_3,hcz38_4,hcz38_5,hfz38_0,hfz38_1,hfz38_2,hfz38_3,hfz38_4,hfz38_5⟩ := laws_FnGain.cells6 BK468.out
                    go_wp2_with (first | ((with_reducible refine gate_dst (N := 9) rfl ?_);refine box_event ?hg (N := 9) ?hd (cs := #[.int .i64 0,.int .i64 0]) (t := 33) ?hr ?_;(case hd => rfl);(case hg => rfl);(case hr => exact Z359);intro gb481 hg w39 hbox hb;have n_ := jA (blk_below (g := gb468) (o := .cells #[.int .i64 t461,.int .i64 t462,.int .i64 t463,.int .i64 t464,.int .i64 t465,.int .i64 t466] 35 (0,0)) Z451 hb) (jA (blk_below (g := gb474) (o := .cells #[.bool t469,.int .u64 t470,.int .u64 t471,.int .i64 t472] 30 (0,0)) Z462 hb) (jA (blk_below (g := gb480) (o := .cells #[.bool t475,.int .u64 t476,.int .u64 t477,.int .i64 t478] 30 (0,0)) Z464 hb) (jA (below_step Z391 hb) (jA (hbox) (jA ((Z162 : w.heap.size ≤ gb481)) (jA ((Z162 : w.heap.size ≤ gb481)) (jA ((Z149 : gb468 ≠ gb481)) (jA ((Z150 : gb481 ≠ gb468)) (jA ((Z184 : gb474 ≠ gb481)) (jA ((Z187 : gb481 ≠ gb474)) (jA ((Z190 : gb480 ≠ gb481)) (Aside0.mk ((Z193 : gb481 ≠ gb480))))))))))))));clear BK468 BK474 BK480 HB;obtain ⟨BK468,BK474,BK480,HB,BK481,GW481,GE481,NB468_481,NB481_468,NB474_481,NB481_474,NB480_481,NB481_480⟩ := n_;clear hb hbox hg;have hnb40 := NB481_468.out;have hnc40 := NB468_481.out;have hnb41 := NB481_474.out;have hnc41 := NB474_481.out;have hnb42 := NB481_480.out;have hnc42 := NB480_481.out;obtain ⟨hcz43_0,hcz43_1,hfz43_0,hfz43_1⟩ := laws_FnGain.cells2 BK481.out;obtain ⟨hcz44_0,hcz44_1,hcz44_2,hcz44_3,hcz44_4,hcz44_5,hfz44_0,hfz44_1,hfz44_2,hfz44_3,hfz44_4,hfz44_5⟩ := laws_FnGain.cells6 BK468.out) | ((with_reducible refine gate_callee (f := 11) rfl ?_);refine goesL_ (some 51) rfl rfl Try.func11 Z363 rfl #[.agg #[.int .i64 t461,.int .i64 t462,.int .i64 t465,.int .i64 t466,.int .i64 t463,.int .i64 t464],.int .i64 t467] rfl Z330 ?_;(with_reducible refine (impl_GainOf.calls kj6 t461 t462 t465 t466 t463 t464 t467 t482 t483 t484 t485 t486 _ A28.out).mono ?_);rintro e w45 ⟨rfl,hb⟩;refine ⟨_,rfl,?_⟩;have n_ := jA (blk_below (g := gb468) (o := .cells #[.int .i64 t461,.int .i64 t462,.int .i64 t465,.int .i64 t466,.int .i64 t463,.int .i64 t464] 35 (0,0)) Z5 hb) (jA (blk_below (g := gb474) (o := .cells #[.bool t469,.int .u64 t470,.int .u64 t471,.int .i64 t472] 30 (0,0)) Z28 hb) (jA (blk_below (g := gb480) (o := .cells #[.bool t475,.int .u64 t476,.int .u64 t477,.int .i64 t478] 30 (0,0)) Z26 hb) (jA (blk_below (g := gb481) (o := .cells #[.int .i64 t463,.int .i64 t464] 33 (0,0)) Z18 hb) (Aside0.mk (below_step Z381 hb)))));clear BK468 BK474 BK480 BK481 HB;obtain ⟨BK468,BK474,BK480,BK481,HB⟩ := n_;(try clear hb);(try clear hb2);(try clear hk);(try clear hi)) | ((with_reducible refine gate_dst (N := 10) rfl ?_);refine box_event ?hg (N := 10) ?hd (cs := #[.bool false,.int .u64 0,.int .u64 0,.int .i64 0]) (t := 30) ?hr ?_;(case hd => rfl);(case hg => rfl);(case hr => exact Z359);intro gb487 hg w46 hbox hb;have n_ := jA (blk_below (g := gb468) (o := .cells #[.int .i64 t461,.int .i64 t462,.int .i64 t465,.int .i64 t466,.int .i64 t463,.int .i64 t464] 35 (0,0)) Z451 hb) (jA (blk_below (g := gb474) (o := .cells #[.bool t469,.int .u64 t470,.int .u64 t471,.int .i64 t472] 30 (0,0)) Z462 hb) (jA (blk_below (g := gb480) (o := .cells #[.bool t475,.int .u64 t476,.int .u64 t477,.int .i64 t478] 30 (0,0)) Z464 hb) (jA (blk_below (g := gb481) (o := .cells #[.int .i64 t463,.int .i64 t464] 33 (0,0)) Z468 hb) (jA (below_step Z381 hb) (jA (hbox) (jA ((Z139 : w.heap.size ≤ gb487)) (jA ((Z139 : w.heap.size ≤ gb487)) (jA ((Z151 : gb468 ≠ gb487)) (jA ((Z152 : gb487 ≠ gb468)) (jA ((Z184 : gb474 ≠ gb487)) (jA ((Z187 : gb487 ≠ gb474)) (jA ((Z190 : gb480 ≠ gb487)) (jA ((Z193 : gb487 ≠ gb480)) (jA ((Z287 : gb481 ≠ gb487)) (Aside0.mk ((Z288 : gb487 ≠ gb481)))))))))))))))));clear BK468 BK474 BK480 BK481 HB;obtain ⟨BK468,BK474,BK480,BK481,HB,BK487,GW487,GE487,NB468_487,NB487_468,NB474_487,NB487_474,NB480_487,NB487_480,NB481_487,NB487_481⟩ := n_;clear hb hbox hg;have hnb47 := NB487_468.out;have hnc47 := NB468_487.out;have hnb48 := NB487_474.out;have hnc48 := NB474_487.out;have hnb49 := NB487_480.out;have hnc49 := NB480_487.out;have hnb50 := NB487_481.out;have hnc50 := NB481_487.out;obtain ⟨hcz51_0,hcz51_1,hcz51_2,hcz51_3,hfz51_0,hfz51_1,hfz51_2,hfz51_3⟩ := laws_FnGain.cells4 BK487.out;obtain ⟨hcz52_0,hcz52_1,hcz52_2,hcz52_3,hcz52_4,hcz52_5,hfz52_0,hfz52_1,hfz52_2,hfz52_3,hfz52_4,hfz52_5⟩ := laws_FnGain.cells6 BK468.out) | ((with_reducible refine gate_callee (f := 11) rfl ?_);refine goesL_ (some 72) rfl rfl Try.func11 Z363 rfl #[.agg #[.int .i64 t461,.int .i64 t462,.int .i64 t465,.int .i64 (wrap64 (-t466)),.int .i64 t463,.int .i64 (wrap64 (-t464))],.int .i64 t467] rfl Z330 ?_;(with_reducible refine (impl_GainOf.calls kj6 t461 t462 t465 (wrap64 (-t466)) t463 (wrap64 (-t464)) t467 t488 t489 t490 t491 t492 _ A30.out).mono ?_);rintro e w53 ⟨rfl,hb⟩;refine ⟨_,rfl,?_⟩;have n_ := jA (blk_below (g := gb468) (o := .cells #[.int .i64 t461,.int .i64 t462,.int .i64 t465,.int .i64 (wrap64 (-t466)),.int .i64 t463,.int .i64 (wrap64 (-t464))] 35 (0,0)) Z7 hb) (jA (blk_below (g := gb474) (o := .cells #[.bool t469,.int .u64 t470,.int .u64 t471,.int .i64 t472] 30 (0,0)) Z27 hb) (jA (blk_below (g := gb480) (o := .cells #[.bool t475,.int .u64 t476,.int .u64 t477,.int .i64 t478] 30 (0,0)) Z25 hb) (jA (blk_below (g := gb481) (o := .cells #[.int .i64 t463,.int .i64 t464] 33 (0,0)) Z24 hb) (jA (blk_below (g := gb487) (o := .cells #[.bool t482,.int .u64 t483,.int .u64 t484,.int .i64 t485] 30 (0,0)) Z6 hb) (Aside0.mk (below_step Z376 hb))))));clear BK468 BK474 BK480 BK481 BK487 HB;obtain ⟨BK468,BK474,BK480,BK481,BK487,HB⟩ := n_;(try clear hb);(try clear hb2);(try clear hk);(try clear hi)) | ((with_reducible refine gate_dst (N := 12) rfl ?_);refine box_event ?hg (N := 12) ?hd (cs := #[.bool false,.int .u64 0,.int .u64 0,.int .i64 0]) (t := 30) ?hr ?_;(case hd => rfl);(case hg => rfl);(case hr => exact Z359);intro gb493 hg w54 hbox hb;have n_ := jA (blk_below (g := gb468) (o := .cells #[.int .i64 t461,.int .i64 t462,.int .i64 t465,.int .i64 (wrap64 (-t466)),.int .i64 t463,.int .i64 (wrap64 (-t464))] 35 (0,0)) Z451 hb) (jA (blk_below (g := gb474) (o := .cells #[.bool t469,.int .u64 t470,.int .u64 t471,.int .i64 t472] 30 (0,0)) Z462 hb) (jA (blk_below (g := gb480) (o := .cells #[.bool t475,.int .u64 t476,.int .u64 t477,.int .i64 t478] 30 (0,0)) Z464 hb) (jA (blk_below (g := gb481) (o := .cells #[.int .i64 t463,.int .i64 t464] 33 (0,0)) Z468 hb) (jA (blk_below (g := gb487) (o := .cells #[.bool t482,.int .u64 t483,.int .u64 t484,.int .i64 t485] 30 (0,0)) Z475 hb) (jA (below_step Z376 hb) (jA (hbox) (jA ((Z128 : w.heap.size ≤ gb493)) (jA ((Z128 : w.heap.size ≤ gb493)) (jA ((Z143 : gb468 ≠ gb493)) (jA ((Z144 : gb493 ≠ gb468)) (jA ((Z184 : gb474 ≠ gb493)) (jA ((Z187 : gb493 ≠ gb474)) (jA ((Z190 : gb480 ≠ gb493)) (jA ((Z193 : gb493 ≠ gb480)) (jA ((Z287 : gb481 ≠ gb493)) (jA ((Z288 : gb493 ≠ gb481)) (jA ((Z200 : gb487 ≠ gb493)) (Aside0.mk ((Z201 : gb493 ≠ gb487))))))))))))))))))));clear BK468 BK474 BK480 BK481 BK487 HB;obtain ⟨BK468,BK474,BK480,BK481,BK487,HB,BK493,GW493,GE493,NB468_493,NB493_468,NB474_493,NB493_474,NB480_493,NB493_480,NB481_493,NB493_481,NB487_493,NB493_487⟩ := n_;clear hb hbox hg;have hnb55 := NB493_468.out;have hnc55 := NB468_493.out;have hnb56 := NB493_474.out;have hnc56 := NB474_493.out;have hnb57 := NB493_480.out;have hnc57 := NB480_493.out;have hnb58 := NB493_481.out;have hnc58 := NB481_493.out;have hnb59 := NB493_487.out;have hnc59 := NB487_493.out;obtain ⟨hcz60_0,hcz60_1,hcz60_2,hcz60_3,hfz60_0,hfz60_1,hfz60_2,hfz60_3⟩ := laws_FnGain.cells4 BK493.out;obtain ⟨hcz61_0,hcz61_1,hcz61_2,hcz61_3,hfz61_0,hfz61_1,hfz61_2,hfz61_3⟩ := laws_FnGain.cells4 BK487.out;have hnb62 := NB474_480.out;have hnc62 := NB480_474.out;obtain ⟨hcz63_0,hcz63_1,hcz63_2,hcz63_3,hfz63_0,hfz63_1,hfz63_2,hfz63_3⟩ := laws_FnGain.cells4 BK474.out) | (go_at_call 15;(with_reducible refine (impl_FracOk.calls t469 t470 t471 t472 t494 _ A35.out).mono ?_);rintro e w64 ⟨rfl,hb⟩;have n_ := jA (blk_below (g := gb468) (o := .cells #[.int .i64 t461,.int .i64 t462,.int .i64 t465,.int .i64 (wrap64 (-t466)),.int .i64 t463,.int .i64 (wrap64 (-t464))] 35 (0,0)) (by (with_reducible repeat (first | refine bA ?_ _ | refine bB ?_ | refine bC ?_ _));refine blk_far ?_ NB468_493.out _;(with_reducible repeat (first | refine bA ?_ _ | refine bB ?_ | refine bC ?_ _));refine blk_far ?_ NB468_493.out _;(with_reducible repeat (first | refine bA ?_ _ | refine bB ?_ | refine bC ?_ _));refine blk_far ?_ NB468_493.out _;(with_reducible repeat (first | refine bA ?_ _ | refine bB ?_ | refine bC ?_ _));refine blk_far ?_ NB468_493.out _;(with_reducible repeat (first | refine bA ?_ _ | refine bB ?_ | refine bC ?_ _));exact BK468.out) hb) (jA (blk_below (g := gb474) (o := .cells #[.bool t469,.int .u64 t470,.int .u64 t471,.int .i64 t472] 30 (0,0)) (by (with_reducible repeat (first | refine bA ?_ _ | refine bB ?_ | refine bC ?_ _));refine blk_far ?_ NB474_493.out _;(with_reducible repeat (first | refine bA ?_ _ | refine bB ?_ | refine bC ?_ _));refine blk_far ?_ NB474_493.out _;(with_reducible repeat (first | refine bA ?_ _ | refine bB ?_ | refine bC ?_ _));refine blk_far ?_ NB474_493.out _;(with_reducible repeat (first | refine bA ?_ _ | refine bB ?_ | refine bC ?_ _));refine blk_far ?_ NB474_493.out _;(with_reducible repeat (first | refine bA ?_ _ | refine bB ?_ | refine bC ?_ _));exact BK474.out) hb) (jA (blk_below (g := gb480) (o := .cells #[.bool t475,.int .u64 t476,.int .u64 t477,.int .i64 t478] 30 (0,0)) (by (with_reducible repeat (first | refine bA ?_ _ | refine bB ?_ | refine bC ?_ _));refine blk_far ?_ NB480_493.out _;(with_reducible repeat (first | refine bA ?_ _ | refine bB ?_ | refine bC ?_ _));refine blk_far ?_ NB480_493.out _;(with_reducible repeat (first | refine bA ?_ _ | refine bB ?_ | refine bC ?_ _));refine blk_far ?_ NB480_493.out _;(with_reducible repeat (first | refine bA ?_ _ | refine bB ?_ | refine bC ?_ _));refine blk_far ?_ NB480_493.out _;(with_reducible repeat (first | refine bA ?_ _ | refine bB ?_ | refine bC ?_ _));exact BK480.out) hb) (jA (blk_below (g := gb481) (o := .cells #[.int .i64 t463,.int .i64 t464] 33 (0,0)) (by (with_reducible repeat (first | refine bA ?_ _ | refine bB ?_ | refine bC ?_ _));refine blk_far ?_ NB481_493.out _;(with_reducible repeat (first | refine bA ?_ _ | refine bB ?_ | refine bC ?_ _));refine blk_far ?_ NB481_493.out _;(with_reducible repeat (first | refine bA ?_ _ | refine bB ?_ | refine bC ?_ _));refine blk_far ?_ NB481_493.out _;(with_reducible repeat (first | refine bA ?_ _ | refine bB ?_ | refine bC ?_ _));refine blk_far ?_ NB481_493.out _;(with_reducible repeat (first | refine bA ?_ _ | refine bB ?_ | refine bC ?_ _));exact BK481.out) hb) (jA (blk_below (g := gb487) (o := .cells #[.bool t482,.int .u64 t483,.int .u64 t484,.int .i64 t485] 30 (0,0)) (by (with_reducible repeat (first | refine bA ?_ _ | refine bB ?_ | refine bC ?_ _));refine blk_far ?_ NB487_493.out _;(with_reducible repeat (first | refine bA ?_ _ | refine bB ?_ | refine bC ?_ _));refine blk_far ?_ NB487_493.out _;(with_reducible repeat (first | refine bA ?_ _ | refine bB ?_ | refine bC ?_ _));refine blk_far ?_ NB487_493.out _;(with_reducible repeat (first | refine bA ?_ _ | refine bB ?_ | refine bC ?_ _));refine blk_far ?_ NB487_493.out _;(with_reducible repeat (first | refine bA ?_ _ | refine bB ?_ | refine bC ?_ _));exact BK487.out) hb) (jA (blk_below (g := gb493) (o := .cells #[.bool t488,.int .u64 t489,.int .u64 t490,.int .i64 t491] 30 (0,0)) (by (with_reducible repeat (first | refine bA ?_ _ | refine bB ?_ | refine bC ?_ _));refine blk_put (cs := #[.bool t488,.int .u64 t489,.int .u64 t490,.int .i64 0]) ?_ 3 _ rfl;(with_reducible repeat (first | refine bA ?_ _ | refine bB ?_ | refine bC ?_ _));refine blk_put (cs := #[.bool t488,.int .u64 t489,.int .u64 0,.int .i64 0]) ?_ 2 _ rfl;(with_reducible repeat (first | refine bA ?_ _ | refine bB ?_ | refine bC ?_ _));refine blk_put (cs := #[.bool t488,.int .u64 0,.int .u64 0,.int .i64 0]) ?_ 1 _ rfl;(with_reducible repeat (first | refine bA ?_ _ | refine bB ?_ | refine bC ?_ _));refine blk_put (cs := #[.bool false,.int .u64 0,.int .u64 0,.int .i64 0]) ?_ 0 _ rfl;(with_reducible repeat (first | refine bA ?_ _ | refine bB ?_ | refine bC ?_ _));exact BK493.out) hb) (Aside0.mk (below_step Z134 hb)))))));clear BK468 BK474 BK480 BK481 BK487 BK493 HB;obtain ⟨BK468,BK474,BK480,BK481,BK487,BK493,HB⟩ := n_;(try clear hb);(try clear hb2);(try clear hk);(try clear hi)))
                    go_ret
                    exact ⟨Z354,Z134⟩
                  · rw [if_neg c34] at H
                    have c34b0 : ((t488 == t469 && (t489 == t470 && (t490 == t471))) && (t491 == t472)) = false := by simpa using c34
                    clear c34
                    exact absurd ((Option.some.inj H).trans HRT.out) Z364
                · rw [if_neg c33] at H
                  have c33b0 : ((t482 == t469 && (t483 == t470 && (t484 == t471))) && (t485 == t472)) = false := by simpa using c33
                  clear c33
                  exact absurd ((Option.some.inj H).trans HRT.out) Z364
              · replace c32 := Bool.eq_false_iff.mpr c32
                subst c32
                have H1 : (some true) = some r := by rw [if_neg (show ¬ (false = true) by decide)] at H;exact H
                clear H
                have H := H1
                clear H1
                obtain rfl := Option.some.inj H
                have hnb65 := NB468_474.out
                have hnc65 := NB474_468.out
                have hnb66 := NB468_480.out
                have hnc66 := NB480_468.out
                obtain ⟨hcz67_0,hcz67_1,hcz67_2,hcz67_3,hcz67_4,hcz67_5,hfz67_0,hfz67_1,hfz67_2,hfz67_3,hfz67_4,hfz67_5⟩ := laws_FnGain.cells6 BK468.out
                go_wp2_with (first | ((with_reducible refine gate_dst (N := 9) rfl ?_);refine box_event ?hg (N := 9) ?hd (cs := #[.int .i64 0,.int .i64 0]) (t := 33) ?hr ?_;(case hd => rfl);(case hg => rfl);(case hr => exact Z359);intro gb481 hg w68 hbox hb;have n_ := jA (blk_below (g := gb468) (o := .cells #[.int .i64 t461,.int .i64 t462,.int .i64 t463,.int .i64 t464,.int .i64 t465,.int .i64 t466] 35 (0,0)) Z451 hb) (jA (blk_below (g := gb474) (o := .cells #[.bool t469,.int .u64 t470,.int .u64 t471,.int .i64 t472] 30 (0,0)) Z462 hb) (jA (blk_below (g := gb480) (o := .cells #[.bool t475,.int .u64 t476,.int .u64 t477,.int .i64 t478] 30 (0,0)) Z464 hb) (jA (below_step Z391 hb) (jA (hbox) (jA ((Z162 : w.heap.size ≤ gb481)) (jA ((Z162 : w.heap.size ≤ gb481)) (jA ((Z149 : gb468 ≠ gb481)) (jA ((Z150 : gb481 ≠ gb468)) (jA ((Z184 : gb474 ≠ gb481)) (jA ((Z187 : gb481 ≠ gb474)) (jA ((Z190 : gb480 ≠ gb481)) (Aside0.mk ((Z193 : gb481 ≠ gb480))))))))))))));clear BK468 BK474 BK480 HB;obtain ⟨BK468,BK474,BK480,HB,BK481,GW481,GE481,NB468_481,NB481_468,NB474_481,NB481_474,NB480_481,NB481_480⟩ := n_;clear hb hbox hg;have hnb69 := NB481_468.out;have hnc69 := NB468_481.out;have hnb70 := NB481_474.out;have hnc70 := NB474_481.out;have hnb71 := NB481_480.out;have hnc71 := NB480_481.out;obtain ⟨hcz72_0,hcz72_1,hfz72_0,hfz72_1⟩ := laws_FnGain.cells2 BK481.out;obtain ⟨hcz73_0,hcz73_1,hcz73_2,hcz73_3,hcz73_4,hcz73_5,hfz73_0,hfz73_1,hfz73_2,hfz73_3,hfz73_4,hfz73_5⟩ := laws_FnGain.cells6 BK468.out) | ((with_reducible refine gate_callee (f := 11) rfl ?_);refine goesL_ (some 51) rfl rfl Try.func11 Z363 rfl #[.agg #[.int .i64 t461,.int .i64 t462,.int .i64 t465,.int .i64 t466,.int .i64 t463,.int .i64 t464],.int .i64 t467] rfl Z330 ?_;(with_reducible refine (impl_GainOf.calls kj6 t461 t462 t465 t466 t463 t464 t467 t482 t483 t484 t485 t486 _ A28.out).mono ?_);rintro e w74 ⟨rfl,hb⟩;refine ⟨_,rfl,?_⟩;have n_ := jA (blk_below (g := gb468) (o := .cells #[.int .i64 t461,.int .i64 t462,.int .i64 t465,.int .i64 t466,.int .i64 t463,.int .i64 t464] 35 (0,0)) Z5 hb) (jA (blk_below (g := gb474) (o := .cells #[.bool t469,.int .u64 t470,.int .u64 t471,.int .i64 t472] 30 (0,0)) Z28 hb) (jA (blk_below (g := gb480) (o := .cells #[.bool t475,.int .u64 t476,.int .u64 t477,.int .i64 t478] 30 (0,0)) Z26 hb) (jA (blk_below (g := gb481) (o := .cells #[.int .i64 t463,.int .i64 t464] 33 (0,0)) Z18 hb) (Aside0.mk (below_step Z381 hb)))));clear BK468 BK474 BK480 BK481 HB;obtain ⟨BK468,BK474,BK480,BK481,HB⟩ := n_;(try clear hb);(try clear hb2);(try clear hk);(try clear hi)) | ((with_reducible refine gate_dst (N := 10) rfl ?_);refine box_event ?hg (N := 10) ?hd (cs := #[.bool false,.int .u64 0,.int .u64 0,.int .i64 0]) (t := 30) ?hr ?_;(case hd => rfl);(case hg => rfl);(case hr => exact Z359);intro gb487 hg w75 hbox hb;have n_ := jA (blk_below (g := gb468) (o := .cells #[.int .i64 t461,.int .i64 t462,.int .i64 t465,.int .i64 t466,.int .i64 t463,.int .i64 t464] 35 (0,0)) Z451 hb) (jA (blk_below (g := gb474) (o := .cells #[.bool t469,.int .u64 t470,.int .u64 t471,.int .i64 t472] 30 (0,0)) Z462 hb) (jA (blk_below (g := gb480) (o := .cells #[.bool t475,.int .u64 t476,.int .u64 t477,.int .i64 t478] 30 (0,0)) Z464 hb) (jA (blk_below (g := gb481) (o := .cells #[.int .i64 t463,.int .i64 t464] 33 (0,0)) Z468 hb) (jA (below_step Z381 hb) (jA (hbox) (jA ((Z139 : w.heap.size ≤ gb487)) (jA ((Z139 : w.heap.size ≤ gb487)) (jA ((Z151 : gb468 ≠ gb487)) (jA ((Z152 : gb487 ≠ gb468)) (jA ((Z184 : gb474 ≠ gb487)) (jA ((Z187 : gb487 ≠ gb474)) (jA ((Z190 : gb480 ≠ gb487)) (jA ((Z193 : gb487 ≠ gb480)) (jA ((Z287 : gb481 ≠ gb487)) (Aside0.mk ((Z288 : gb487 ≠ gb481)))))))))))))))));clear BK468 BK474 BK480 BK481 HB;obtain ⟨BK468,BK474,BK480,BK481,HB,BK487,GW487,GE487,NB468_487,NB487_468,NB474_487,NB487_474,NB480_487,NB487_480,NB481_487,NB487_481⟩ := n_;clear hb hbox hg;have hnb76 := NB487_468.out;have hnc76 := NB468_487.out;have hnb77 := NB487_474.out;have hnc77 := NB474_487.out;have hnb78 := NB487_480.out;have hnc78 := NB480_487.out;have hnb79 := NB487_481.out;have hnc79 := NB481_487.out;obtain ⟨hcz80_0,hcz80_1,hcz80_2,hcz80_3,hfz80_0,hfz80_1,hfz80_2,hfz80_3⟩ := laws_FnGain.cells4 BK487.out;obtain ⟨hcz81_0,hcz81_1,hcz81_2,hcz81_3,hcz81_4,hcz81_5,hfz81_0,hfz81_1,hfz81_2,hfz81_3,hfz81_4,hfz81_5⟩ := laws_FnGain.cells6 BK468.out) | ((with_reducible refine gate_callee (f := 11) rfl ?_);refine goesL_ (some 72) rfl rfl Try.func11 Z363 rfl #[.agg #[.int .i64 t461,.int .i64 t462,.int .i64 t465,.int .i64 (wrap64 (-t466)),.int .i64 t463,.int .i64 (wrap64 (-t464))],.int .i64 t467] rfl Z330 ?_;(with_reducible refine (impl_GainOf.calls kj6 t461 t462 t465 (wrap64 (-t466)) t463 (wrap64 (-t464)) t467 t488 t489 t490 t491 t492 _ A30.out).mono ?_);rintro e w82 ⟨rfl,hb⟩;refine ⟨_,rfl,?_⟩;have n_ := jA (blk_below (g := gb468) (o := .cells #[.int .i64 t461,.int .i64 t462,.int .i64 t465,.int .i64 (wrap64 (-t466)),.int .i64 t463,.int .i64 (wrap64 (-t464))] 35 (0,0)) Z7 hb) (jA (blk_below (g := gb474) (o := .cells #[.bool t469,.int .u64 t470,.int .u64 t471,.int .i64 t472] 30 (0,0)) Z27 hb) (jA (blk_below (g := gb480) (o := .cells #[.bool t475,.int .u64 t476,.int .u64 t477,.int .i64 t478] 30 (0,0)) Z25 hb) (jA (blk_below (g := gb481) (o := .cells #[.int .i64 t463,.int .i64 t464] 33 (0,0)) Z24 hb) (jA (blk_below (g := gb487) (o := .cells #[.bool t482,.int .u64 t483,.int .u64 t484,.int .i64 t485] 30 (0,0)) Z6 hb) (Aside0.mk (below_step Z376 hb))))));clear BK468 BK474 BK480 BK481 BK487 HB;obtain ⟨BK468,BK474,BK480,BK481,BK487,HB⟩ := n_;(try clear hb);(try clear hb2);(try clear hk);(try clear hi)) | ((with_reducible refine gate_dst (N := 12) rfl ?_);refine box_event ?hg (N := 12) ?hd (cs := #[.bool false,.int .u64 0,.int .u64 0,.int .i64 0]) (t := 30) ?hr ?_;(case hd => rfl);(case hg => rfl);(case hr => exact Z359);intro gb493 hg w83 hbox hb;have n_ := jA (blk_below (g := gb468) (o := .cells #[.int .i64 t461,.int .i64 t462,.int .i64 t465,.int .i64 (wrap64 (-t466)),.int .i64 t463,.int .i64 (wrap64 (-t464))] 35 (0,0)) Z451 hb) (jA (blk_below (g := gb474) (o := .cells #[.bool t469,.int .u64 t470,.int .u64 t471,.int .i64 t472] 30 (0,0)) Z462 hb) (jA (blk_below (g := gb480) (o := .cells #[.bool t475,.int .u64 t476,.int .u64 t477,.int .i64 t478] 30 (0,0)) Z464 hb) (jA (blk_below (g := gb481) (o := .cells #[.int .i64 t463,.int .i64 t464] 33 (0,0)) Z468 hb) (jA (blk_below (g := gb487) (o := .cells #[.bool t482,.int .u64 t483,.int .u64 t484,.int .i64 t485] 30 (0,0)) Z475 hb) (jA (below_step Z376 hb) (jA (hbox) (jA ((Z128 : w.heap.size ≤ gb493)) (jA ((Z128 : w.heap.size ≤ gb493)) (jA ((Z143 : gb468 ≠ gb493)) (jA ((Z144 : gb493 ≠ gb468)) (jA ((Z184 : gb474 ≠ gb493)) (jA ((Z187 : gb493 ≠ gb474)) (jA ((Z190 : gb480 ≠ gb493)) (jA ((Z193 : gb493 ≠ gb480)) (jA ((Z287 : gb481 ≠ gb493)) (jA ((Z288 : gb493 ≠ gb481)) (jA ((Z200 : gb487 ≠ gb493)) (Aside0.mk ((Z201 : gb493 ≠ gb487))))))))))))))))))));clear BK468 BK474 BK480 BK481 BK487 HB;obtain ⟨BK468,BK474,BK480,BK481,BK487,HB,BK493,GW493,GE493,NB468_493,NB493_468,NB474_493,NB493_474,NB480_493,NB493_480,NB481_493,NB493_481,NB487_493,NB493_487⟩ := n_;clear hb hbox hg;have hnb84 := NB493_468.out;have hnc84 := NB468_493.out;have hnb85 := NB493_474.out;have hnc85 := NB474_493.out;have hnb86 := NB493_480.out;have hnc86 := NB480_493.out;have hnb87 := NB493_481.out;have hnc87 := NB481_493.out;have hnb88 := NB493_487.out;have hnc88 := NB487_493.out;obtain ⟨hcz89_0,hcz89_1,hcz89_2,hcz89_3,hfz89_0,hfz89_1,hfz89_2,hfz89_3⟩ := laws_FnGain.cells4 BK493.out))
                go_ret
                exact ⟨Z354,Z134⟩
            · rw [if_neg c31] at H
              have c31b0 : (t492 == t473) = false := by simpa using c31
              (try (have c31b1 : decide (t492 = t473) = false := by simpa using c31))
              (try (have c31b2 : (t492 == t473) = false := by simpa using c31))
              (try (have c31b3 : ¬ (t492 = t473) := by simpa using c31))
              clear c31
              exact absurd ((Option.some.inj H).trans HRT.out) Z364

/-- THE ONE PURE STATEMENT of laws_FnGain: yours. -/
def laws_FnGain.Pure : Prop := ∀ (l0 : List Int),l0.length ≤ maxLen → l0.length * 1 ≤ 140737488351232 → (∀ x ∈ l0,(Lit.int .u8 x).wf = true) → ∃ k,laws_FnGain.f k l0 = some true
theorem laws_FnGain.walk (P : laws_FnGain.Pure) (a0 : Option Addr) (len0 cap0 : Nat) (z0 : List Int) (w : World) (w0 : (a0 = none ∧ len0 = 0 ∧ cap0 = 0 ∧ z0 = []) ∨ ∃ x,a0 = some x ∧ len0 ≤ cap0 ∧ cap0 ≤ maxLen ∧ z0.length = cap0 ∧ (∀ i,i < z0.length → w.cell? (x.add i) = some (.int .u8 (z0.getD i 0))) ∧ ∀ n ∈ z0,(Lit.int .u8 n).wf = true) (y0 : len0 * 1 ≤ 140737488351232) :
    Calls Try.prog 4 #[.slice a0 len0 cap0] w fun e w' => e = .returned (.bool true) ∧ Below w.heap.size w w' := by
  obtain ⟨l0,rfl,hr0,hm0,hw0,hc0⟩ := ReadsInt.ofRowC w0
  obtain ⟨k,h⟩ := P l0 hm0 y0 hw0
  refine (laws_FnGain.calls k _ _ l0 true w (Kd.C_of_reads (d := (0 : Int)) (h1 := fun _ => rfl) hr0) hc0 h rfl).mono ?_
  rintro e w' ⟨rfl,hd⟩
  exact ⟨rfl,hd⟩

end Go.Proofs.Ytjcjehnjbgklbaa.QFnGain
