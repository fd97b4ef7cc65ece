/- The machine side of FnExactImproves: what each Go function that it reaches comes to. Conditions: none. -/
import Derived.Test.YtjcjehnjbgklbaaQFnExactImprovesx0
import Derived.Test.YtjcjehnjbgklbaaQFnExactImprovesx1
import Derived.Test.YtjcjehnjbgklbaaQFnExactImprovesx6
import Derived.Test.YtjcjehnjbgklbaaQFnExactImprovesx9
namespace Go.Proofs.Ytjcjehnjbgklbaa.QFnExactImproves
open Go.RowKit Go.Proofs.YtjcjehnjbgklbaaW.PrintWords Go.Proofs.YtjcjehnjbgklbaaW.PrintLast Go.Proofs.YtjcjehnjbgklbaaW.PrintMore
attribute [local go_sem] max2_int min2_int max_two min_two max_three min_three max_four min_four   -- for this text's walks alone
set_option linter.unusedVariables false
set_option linter.unusedSimpArgs false

/-! ### laws_FnExactImproves: function 6 -/
theorem laws_FnExactImproves.cells6 {w : World} {g : Nat} {t : TypeId} {a0 a1 a2 a3 a4 a5 : Value} (h : w.heap[g]? = some (.cells #[a0,a1,a2,a3,a4,a5] t (0,0))) : w.cell? ⟨g,0,none⟩ = some a0 ∧ w.cell? ⟨g,1,none⟩ = some a1 ∧ w.cell? ⟨g,2,none⟩ = some a2 ∧ w.cell? ⟨g,3,none⟩ = some a3 ∧ w.cell? ⟨g,4,none⟩ = some a4 ∧ w.cell? ⟨g,5,none⟩ = some a5 ∧ w.frozen? ⟨g,0,none⟩ = false ∧ w.frozen? ⟨g,1,none⟩ = false ∧ w.frozen? ⟨g,2,none⟩ = false ∧ w.frozen? ⟨g,3,none⟩ = false ∧ w.frozen? ⟨g,4,none⟩ = false ∧ w.frozen? ⟨g,5,none⟩ = false := ⟨(blk_cell h 0).trans rfl,(blk_cell h 1).trans rfl,(blk_cell h 2).trans rfl,(blk_cell h 3).trans rfl,(blk_cell h 4).trans rfl,(blk_cell h 5).trans rfl,blk_frozen h 0,blk_frozen h 1,blk_frozen h 2,blk_frozen h 3,blk_frozen h 4,blk_frozen h 5⟩
def laws_FnExactImproves.f (k : Nat) (a0_0 : Int) (a0_1 : Int) (a0_2 : Int) (a0_3 : Int) (a0_4 : Int) (a0_5 : Int) (a1 : Int) : Option (Bool) := (laws_toCand.f a0_0 a0_1 a0_2 a0_3 a0_4 a0_5).bind fun bt469 => ((spec_Improves.f k bt469.1 bt469.2.1 bt469.2.2.1 bt469.2.2.2.1 bt469.2.2.2.2.1 bt469.2.2.2.2.2 a1).bind fun t475 => ((laws_toCand.f a0_0 a0_1 a0_2 a0_3 a0_4 a0_5).bind fun bt476 => ((impl_Improves.f k bt476.1 bt476.2.1 bt476.2.2.1 bt476.2.2.2.1 bt476.2.2.2.2.1 bt476.2.2.2.2.2 a1).bind fun t482 => (if (t482 != t475) = true then (some false) else (some true)))))
theorem laws_FnExactImproves.mono : ∀ a0 a1 a2 a3 a4 a5 a6 k,LeO (laws_FnExactImproves.f k a0 a1 a2 a3 a4 a5 a6) (laws_FnExactImproves.f (k + 1) a0 a1 a2 a3 a4 a5 a6) := by
  intro a0 a1 a2 a3 a4 a5 a6 k
  unfold laws_FnExactImproves.f
  repeat' first
      | (with_reducible exact impl_Improves.mono _ _ _ _ _ _ _ _)
      | (with_reducible exact spec_Improves.mono _ _ _ _ _ _ _ _)
      | (with_reducible exact LeO.refl _)
      | (with_reducible exact LeO.none _)
      | (with_reducible refine LeO.ite ?_ ?_)
      | (with_reducible refine LeO.bind ?_ (fun _ => ?_))
      | exact impl_Improves.mono _ _ _ _ _ _ _ _
      | exact spec_Improves.mono _ _ _ _ _ _ _ _
      | exact LeO.none _
      | refine LeO.ite ?_ ?_
      | refine LeO.bind ?_ (fun _ => ?_)
set_option maxHeartbeats 8000000 in
set_option maxRecDepth 100000 in
theorem laws_FnExactImproves.calls (k : Nat) (a0_0 : Int) (a0_1 : Int) (a0_2 : Int) (a0_3 : Int) (a0_4 : Int) (a0_5 : Int) (a1 : Int) (r : Bool) (w : World) (h : laws_FnExactImproves.f k a0_0 a0_1 a0_2 a0_3 a0_4 a0_5 a1 = some r) (hr_ : r = true) :
    Calls Try.prog 6 #[.agg #[.int .i64 a0_0,.int .i64 a0_1,.int .i64 a0_2,.int .i64 a0_3,.int .i64 a0_4,.int .i64 a0_5],.int .i64 a1] w fun e w' => e = .returned (.bool r) ∧ Below w.heap.size w w' := by
  have HRT := Aside0.mk hr_
  clear hr_
  have hu25 := Try.underlying25
  have HB := Aside0.mk (Below.refl w.heap.size w)
  have H : ((laws_toCand.f a0_0 a0_1 a0_2 a0_3 a0_4 a0_5).bind fun bt469 => ((spec_Improves.f k bt469.1 bt469.2.1 bt469.2.2.1 bt469.2.2.2.1 bt469.2.2.2.2.1 bt469.2.2.2.2.2 a1).bind fun t475 => ((laws_toCand.f a0_0 a0_1 a0_2 a0_3 a0_4 a0_5).bind fun bt476 => ((impl_Improves.f k bt476.1 bt476.2.1 bt476.2.2.1 bt476.2.2.2.1 bt476.2.2.2.2.1 bt476.2.2.2.2.2 a1).bind fun t482 => (if (t482 != t475) = true then (some false) else (some true)))))) = some r := h
  clear h
  obtain ⟨⟨t469,t470,t471,t472,t473,t474⟩,A30,H⟩ := Option.bind_eq_some_iff.mp H
  try dsimp only at H
  have A3 := Aside0.mk A30
  clear A30
  obtain ⟨t475,A40,H⟩ := Option.bind_eq_some_iff.mp H
  have A4 := Aside0.mk A40
  clear A40
  obtain ⟨⟨t476,t477,t478,t479,t480,t481⟩,A50,H⟩ := Option.bind_eq_some_iff.mp H
  try dsimp only at H
  have A5 := Aside0.mk A50
  clear A50
  obtain ⟨t482,A60,H⟩ := Option.bind_eq_some_iff.mp H
  have A6 := Aside0.mk A60
  clear A60
  by_cases c7 : (t482 != t475) = true
  · rw [if_pos c7] at H
    have c7b0 : (t482 != t475) = true := c7
    (try (have c7b1 : decide (t482 = t475) = false := by simpa using c7))
    (try (have c7b2 : (t482 == t475) = false := by simpa using c7))
    (try (have c7b3 : ¬ (t482 = t475) := by simpa using c7))
    clear c7
    exact absurd ((Option.some.inj H).trans HRT.out) Z570
  · rw [if_neg c7] at H
    have c7b0 : (t482 != t475) = false := by simpa using c7
    (try (have c7b1 : decide (t482 = t475) = true := by simpa using c7))
    (try (have c7b2 : (t482 == t475) = true := by simpa using c7))
    clear c7
    obtain rfl := Option.some.inj H
    go_enter Try.func6,Try.ntmps6
    go_wp2_with (first | ((with_reducible refine gate_dst (N := 2) rfl ?_);refine box_event ?hg (N := 2) ?hd (cs := #[.int .i64 a0_0,.int .i64 a0_1,.int .i64 a0_2,.int .i64 a0_3,.int .i64 a0_4,.int .i64 a0_5]) (t := 25) ?hr ?_;(case hd => rfl);(case hg => rfl);(case hr => exact Z566);intro gb468 hg w8 hbox hb;have n_ := jA (below_step Z483 hb) (jA (hbox) (jA ((Z366 : w.heap.size ≤ gb468)) (Aside0.mk ((Z366 : w.heap.size ≤ gb468)))));clear HB;obtain ⟨HB,BK468,GW468,GE468⟩ := n_;clear hb hbox hg;obtain ⟨hcz9_0,hcz9_1,hcz9_2,hcz9_3,hcz9_4,hcz9_5,hfz9_0,hfz9_1,hfz9_2,hfz9_3,hfz9_4,hfz9_5⟩ := laws_FnExactImproves.cells6 BK468.out) | ((with_reducible refine gate_callee (f := 10) rfl ?_);refine goesL_ (some 8) rfl rfl Try.func10 Z569 rfl #[.agg #[.int .i64 a0_0,.int .i64 a0_1,.int .i64 a0_2,.int .i64 a0_3,.int .i64 a0_4,.int .i64 a0_5]] rfl Z375 ?_;(with_reducible refine (laws_toCand.calls a0_0 a0_1 a0_2 a0_3 a0_4 a0_5 t469 t470 t471 t472 t473 t474 _ A3.out).mono ?_);rintro e w10 ⟨rfl,hb⟩;refine ⟨_,rfl,?_⟩;have n_ := jA (blk_below (g := gb468) (o := .cells #[.int .i64 a0_0,.int .i64 a0_1,.int .i64 a0_2,.int .i64 a0_3,.int .i64 a0_4,.int .i64 a0_5] 25 (0,0)) Z400 hb) (Aside0.mk (below_step Z367 hb));clear BK468 HB;obtain ⟨BK468,HB⟩ := n_;(try clear hb);(try clear hb2);(try clear hk);(try clear hi)) | ((with_reducible refine gate_callee (f := 18) rfl ?_);refine goesL_ (some 10) rfl rfl Try.func18 Z569 rfl #[.agg #[.int .i64 t469,.int .i64 t470,.int .i64 t471,.int .i64 t472,.int .i64 t473,.int .i64 t474],.int .i64 a1] rfl Z375 ?_;(with_reducible refine (spec_Improves.calls k t469 t470 t471 t472 t473 t474 a1 t475 _ A4.out).mono ?_);rintro e w11 ⟨rfl,hb⟩;refine ⟨_,rfl,?_⟩;have n_ := jA (blk_below (g := gb468) (o := .cells #[.int .i64 a0_0,.int .i64 a0_1,.int .i64 a0_2,.int .i64 a0_3,.int .i64 a0_4,.int .i64 a0_5] 25 (0,0)) Z400 hb) (Aside0.mk (below_step Z367 hb));clear BK468 HB;obtain ⟨BK468,HB⟩ := n_;(try clear hb);(try clear hb2);(try clear hk);(try clear hi);obtain ⟨hcz12_0,hcz12_1,hcz12_2,hcz12_3,hcz12_4,hcz12_5,hfz12_0,hfz12_1,hfz12_2,hfz12_3,hfz12_4,hfz12_5⟩ := laws_FnExactImproves.cells6 BK468.out) | ((with_reducible refine gate_callee (f := 10) rfl ?_);refine goesL_ (some 12) rfl rfl Try.func10 Z569 rfl #[.agg #[.int .i64 a0_0,.int .i64 a0_1,.int .i64 a0_2,.int .i64 a0_3,.int .i64 a0_4,.int .i64 a0_5]] rfl Z375 ?_;(with_reducible refine (laws_toCand.calls a0_0 a0_1 a0_2 a0_3 a0_4 a0_5 t476 t477 t478 t479 t480 t481 _ A5.out).mono ?_);rintro e w13 ⟨rfl,hb⟩;refine ⟨_,rfl,?_⟩;have n_ := jA (blk_below (g := gb468) (o := .cells #[.int .i64 a0_0,.int .i64 a0_1,.int .i64 a0_2,.int .i64 a0_3,.int .i64 a0_4,.int .i64 a0_5] 25 (0,0)) Z400 hb) (Aside0.mk (below_step Z367 hb));clear BK468 HB;obtain ⟨BK468,HB⟩ := n_;(try clear hb);(try clear hb2);(try clear hk);(try clear hi)) | ((with_reducible refine gate_callee (f := 19) rfl ?_);refine goesL_ (some 14) rfl rfl Try.func19 Z569 rfl #[.agg #[.int .i64 t476,.int .i64 t477,.int .i64 t478,.int .i64 t479,.int .i64 t480,.int .i64 t481],.int .i64 a1] rfl Z375 ?_;(with_reducible refine (impl_Improves.calls k t476 t477 t478 t479 t480 t481 a1 t482 _ A6.out).mono ?_);rintro e w14 ⟨rfl,hb⟩;refine ⟨_,rfl,?_⟩;have n_ := jA (blk_below (g := gb468) (o := .cells #[.int .i64 a0_0,.int .i64 a0_1,.int .i64 a0_2,.int .i64 a0_3,.int .i64 a0_4,.int .i64 a0_5] 25 (0,0)) Z400 hb) (Aside0.mk (below_step Z367 hb));clear BK468 HB;obtain ⟨BK468,HB⟩ := n_;(try clear hb);(try clear hb2);(try clear hk);(try clear hi)))
    go_ret
    exact ⟨Z558,Z367⟩

end Go.Proofs.Ytjcjehnjbgklbaa.QFnExactImproves
