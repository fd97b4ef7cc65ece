/- The machine side of FnImproves: what each Go function that it reaches comes to. Conditions: none. -/
import Derived.Test.YtjcjehnjbgklbaaQFnImprovesx0
import Derived.Test.YtjcjehnjbgklbaaQFnImprovesx1
import Derived.Test.YtjcjehnjbgklbaaQFnImprovesx6
import Derived.Test.YtjcjehnjbgklbaaQFnImprovesx9
import Derived.Test.YtjcjehnjbgklbaaQFnImprovesx10
namespace Go.Proofs.Ytjcjehnjbgklbaa.QFnImproves
open Go.RowKit Go.Proofs.YtjcjehnjbgklbaaW.PrintWords Go.Proofs.YtjcjehnjbgklbaaW.PrintLast Go.Proofs.YtjcjehnjbgklbaaW.PrintMore
attribute [local go_sem] max2_int min2_int max_two min_two max_three min_three max_four min_four   -- for this text's walks alone
set_option linter.unusedVariables false
set_option linter.unusedSimpArgs false

/-! ### laws_FnImproves: function 7 -/
theorem laws_FnImproves.cells2 {w : World} {g : Nat} {t : TypeId} {a0 a1 : Value} (h : w.heap[g]? = some (.cells #[a0,a1] t (0,0))) : w.cell? ⟨g,0,none⟩ = some a0 ∧ w.cell? ⟨g,1,none⟩ = some a1 ∧ w.frozen? ⟨g,0,none⟩ = false ∧ w.frozen? ⟨g,1,none⟩ = false := ⟨(blk_cell h 0).trans rfl,(blk_cell h 1).trans rfl,blk_frozen h 0,blk_frozen h 1⟩
theorem laws_FnImproves.cells4 {w : World} {g : Nat} {t : TypeId} {a0 a1 a2 a3 : Value} (h : w.heap[g]? = some (.cells #[a0,a1,a2,a3] t (0,0))) : w.cell? ⟨g,0,none⟩ = some a0 ∧ w.cell? ⟨g,1,none⟩ = some a1 ∧ w.cell? ⟨g,2,none⟩ = some a2 ∧ w.cell? ⟨g,3,none⟩ = some a3 ∧ w.frozen? ⟨g,0,none⟩ = false ∧ w.frozen? ⟨g,1,none⟩ = false ∧ w.frozen? ⟨g,2,none⟩ = false ∧ w.frozen? ⟨g,3,none⟩ = false := ⟨(blk_cell h 0).trans rfl,(blk_cell h 1).trans rfl,(blk_cell h 2).trans rfl,(blk_cell h 3).trans rfl,blk_frozen h 0,blk_frozen h 1,blk_frozen h 2,blk_frozen h 3⟩
theorem laws_FnImproves.cells6 {w : World} {g : Nat} {t : TypeId} {a0 a1 a2 a3 a4 a5 : Value} (h : w.heap[g]? = some (.cells #[a0,a1,a2,a3,a4,a5] t (0,0))) : w.cell? ⟨g,0,none⟩ = some a0 ∧ w.cell? ⟨g,1,none⟩ = some a1 ∧ w.cell? ⟨g,2,none⟩ = some a2 ∧ w.cell? ⟨g,3,none⟩ = some a3 ∧ w.cell? ⟨g,4,none⟩ = some a4 ∧ w.cell? ⟨g,5,none⟩ = some a5 ∧ w.frozen? ⟨g,0,none⟩ = false ∧ w.frozen? ⟨g,1,none⟩ = false ∧ w.frozen? ⟨g,2,none⟩ = false ∧ w.frozen? ⟨g,3,none⟩ = false ∧ w.frozen? ⟨g,4,none⟩ = false ∧ w.frozen? ⟨g,5,none⟩ = false := ⟨(blk_cell h 0).trans rfl,(blk_cell h 1).trans rfl,(blk_cell h 2).trans rfl,(blk_cell h 3).trans rfl,(blk_cell h 4).trans rfl,(blk_cell h 5).trans rfl,blk_frozen h 0,blk_frozen h 1,blk_frozen h 2,blk_frozen h 3,blk_frozen h 4,blk_frozen h 5⟩
def laws_FnImproves.j0 : Nat → Int → Bool → Bool → Bool → Int → Int → Bool → Int → Int → Int → Option (Bool)
  | 0,_,_,_,_,_,_,_,_,_,_ => none
  | k + 1,x4,x8,x10,x47,x582000,x582001,x588000,x588001,x588002,x588003 => if x47 = true then (some (x8 == x10)) else ((impl_FracOk.f x588000 x588001 x588002 x588003).bind fun t595 => (if t595 = true then ((impl_Improves.f k 0 0 x582000 x582001 0 0 x4).bind fun t596 => (some (!t596))) else (some false)))
def laws_FnImproves.f (k : Nat) (l0 : List Int) : Option (Bool) := (laws_big.f l0).bind fun t570 => (if t570 = true then (some true) else ((spec_DrawImproves.f k l0).bind fun bt571 => ((impl_Improves.f k bt571.1 bt571.2.1 bt571.2.2.1 bt571.2.2.2.1 bt571.2.2.2.2.1 bt571.2.2.2.2.2.1 bt571.2.2.2.2.2.2).bind fun t579 => ((spec_Improves.f k bt571.1 bt571.2.1 bt571.2.2.1 bt571.2.2.2.1 bt571.2.2.2.2.1 bt571.2.2.2.2.2.1 bt571.2.2.2.2.2.2).bind fun t580 => (if (t579 != t580) = true then (some false) else ((impl_PlainGain.f bt571.2.2.1 bt571.2.2.2.1 bt571.2.2.2.2.2.2).bind fun bt582 => ((spec_PlainGain.f bt571.2.2.1 bt571.2.2.2.1 bt571.2.2.2.2.2.2).bind fun bt588 => (if (bt582.2.2.2.2 != bt588.2.2.2.2) = true then (laws_FnImproves.j0 k bt571.2.2.2.2.2.2 bt582.2.2.2.2 bt588.2.2.2.2 true bt571.2.2.1 bt571.2.2.2.1 bt582.1 bt582.2.1 bt582.2.2.1 bt582.2.2.2.1) else (laws_FnImproves.j0 k bt571.2.2.2.2.2.2 bt582.2.2.2.2 bt588.2.2.2.2 (!bt582.2.2.2.2) bt571.2.2.1 bt571.2.2.2.1 bt582.1 bt582.2.1 bt582.2.2.1 bt582.2.2.2.1)))))))))
theorem laws_FnImproves.mono_l : ∀ k,(∀ y0 y1 y2 y3 y4 y5 y6 y7 y8 y9,LeO (laws_FnImproves.j0 k y0 y1 y2 y3 y4 y5 y6 y7 y8 y9) (laws_FnImproves.j0 (k + 1) y0 y1 y2 y3 y4 y5 y6 y7 y8 y9))
  | 0 => fun _ _ _ _ _ _ _ _ _ _ r h => by simp [laws_FnImproves.j0] at h
  | k + 1 => by
    have ih0 := laws_FnImproves.mono_l k
    · intro y0 y1 y2 y3 y4 y5 y6 y7 y8 y9
      unfold laws_FnImproves.j0
      repeat' first
      | (with_reducible exact ih0 _ _ _ _ _ _ _ _ _ _)
      | (with_reducible exact impl_Improves.mono _ _ _ _ _ _ _ _)
      | (with_reducible exact spec_DrawImproves.mono _ _)
      | (with_reducible exact spec_Improves.mono _ _ _ _ _ _ _ _)
      | (with_reducible exact LeO.refl _)
      | (with_reducible exact LeO.none _)
      | (with_reducible refine LeO.ite ?_ ?_)
      | (with_reducible refine LeO.bind ?_ (fun _ => ?_))
      | exact ih0 _ _ _ _ _ _ _ _ _ _
      | exact impl_Improves.mono _ _ _ _ _ _ _ _
      | exact spec_DrawImproves.mono _ _
      | exact spec_Improves.mono _ _ _ _ _ _ _ _
      | exact LeO.none _
      | refine LeO.ite ?_ ?_
      | refine LeO.bind ?_ (fun _ => ?_)
theorem laws_FnImproves.mono : ∀ a0 k,LeO (laws_FnImproves.f k a0) (laws_FnImproves.f (k + 1) a0) := by
  intro a0 k
  have ih0 := laws_FnImproves.mono_l k
  unfold laws_FnImproves.f
  repeat' first
      | (with_reducible exact ih0 _ _ _ _ _ _ _ _ _ _)
      | (with_reducible exact impl_Improves.mono _ _ _ _ _ _ _ _)
      | (with_reducible exact spec_DrawImproves.mono _ _)
      | (with_reducible exact spec_Improves.mono _ _ _ _ _ _ _ _)
      | (with_reducible exact LeO.refl _)
      | (with_reducible exact LeO.none _)
      | (with_reducible refine LeO.ite ?_ ?_)
      | (with_reducible refine LeO.bind ?_ (fun _ => ?_))
      | exact ih0 _ _ _ _ _ _ _ _ _ _
      | exact impl_Improves.mono _ _ _ _ _ _ _ _
      | exact spec_DrawImproves.mono _ _
      | exact spec_Improves.mono _ _ _ _ _ _ _ _
      | exact LeO.none _
      | refine LeO.ite ?_ ?_
      | refine LeO.bind ?_ (fun _ => ?_)
set_option maxHeartbeats 8000000 in
set_option maxRecDepth 100000 in
theorem laws_FnImproves.calls (k : Nat) (A0 : Option Addr) (c0 : Nat) (l0 : List Int) (r : Bool) (w : World) (hr0 : Kd.C (Kd.int .u8) w A0 l0.length l0) (hc0 : l0.length ≤ c0) (h : laws_FnImproves.f k l0 = some r) (hr_ : r = true) :
    Calls Try.prog 7 #[.slice A0 l0.length c0] w fun e w' => e = .returned (.bool r) ∧ Below w.heap.size w w' := by
  have HRT := Aside0.mk hr_
  clear hr_
  have hu35 := Try.underlying35
  have hu33 := Try.underlying33
  have hu30 := Try.underlying30
  have HR0 := Aside0.mk hr0
  have HC0 := Aside0.mk hc0
  clear hr0 hc0
  have HB := Aside0.mk (Below.refl w.heap.size w)
  have H : ((laws_big.f l0).bind fun t570 => (if t570 = true then (some true) else ((spec_DrawImproves.f k l0).bind fun bt571 => ((impl_Improves.f k bt571.1 bt571.2.1 bt571.2.2.1 bt571.2.2.2.1 bt571.2.2.2.2.1 bt571.2.2.2.2.2.1 bt571.2.2.2.2.2.2).bind fun t579 => ((spec_Improves.f k bt571.1 bt571.2.1 bt571.2.2.1 bt571.2.2.2.1 bt571.2.2.2.2.1 bt571.2.2.2.2.2.1 bt571.2.2.2.2.2.2).bind fun t580 => (if (t579 != t580) = true then (some false) else ((impl_PlainGain.f bt571.2.2.1 bt571.2.2.2.1 bt571.2.2.2.2.2.2).bind fun bt582 => ((spec_PlainGain.f bt571.2.2.1 bt571.2.2.2.1 bt571.2.2.2.2.2.2).bind fun bt588 => (if (bt582.2.2.2.2 != bt588.2.2.2.2) = true then (laws_FnImproves.j0 k bt571.2.2.2.2.2.2 bt582.2.2.2.2 bt588.2.2.2.2 true bt571.2.2.1 bt571.2.2.2.1 bt582.1 bt582.2.1 bt582.2.2.1 bt582.2.2.2.1) else (laws_FnImproves.j0 k bt571.2.2.2.2.2.2 bt582.2.2.2.2 bt588.2.2.2.2 (!bt582.2.2.2.2) bt571.2.2.1 bt571.2.2.2.1 bt582.1 bt582.2.1 bt582.2.2.1 bt582.2.2.2.1)))))))))) = some r := h
  clear h
  obtain ⟨t570,A20,H⟩ := Option.bind_eq_some_iff.mp H
  have A2 := Aside0.mk A20
  clear A20
  by_cases c3 : t570 = true
  · subst c3
    have H1 : (some true) = some r := by rw [if_pos rfl] at H;exact H
    clear H
    have H := H1
    clear H1
    obtain rfl := Option.some.inj H
    go_enter Try.func7,Try.ntmps7
    go_wp2_with (first | ((with_reducible refine gate_callee (f := 13) rfl ?_);refine goesL_ (some 13) rfl rfl Try.func13 Z580 rfl #[.slice A0 l0.length c0] rfl Z395 ?_;(with_reducible refine (laws_big.calls _ _ l0 true _ ?side1 ?side2 A2.out).mono ?_);(case side1 => exact Z326);(case side2 => exact HC0.out);rintro e w' ⟨rfl,⟨nd,rfl⟩⟩;refine ⟨_,rfl,?_⟩))
    go_ret
    exact ⟨Z400,Z486⟩
  · replace c3 := Bool.eq_false_iff.mpr c3
    subst c3
    have H1 : ((spec_DrawImproves.f k l0).bind fun bt571 => ((impl_Improves.f k bt571.1 bt571.2.1 bt571.2.2.1 bt571.2.2.2.1 bt571.2.2.2.2.1 bt571.2.2.2.2.2.1 bt571.2.2.2.2.2.2).bind fun t579 => ((spec_Improves.f k bt571.1 bt571.2.1 bt571.2.2.1 bt571.2.2.2.1 bt571.2.2.2.2.1 bt571.2.2.2.2.2.1 bt571.2.2.2.2.2.2).bind fun t580 => (if (t579 != t580) = true then (some false) else ((impl_PlainGain.f bt571.2.2.1 bt571.2.2.2.1 bt571.2.2.2.2.2.2).bind fun bt582 => ((spec_PlainGain.f bt571.2.2.1 bt571.2.2.2.1 bt571.2.2.2.2.2.2).bind fun bt588 => (if (bt582.2.2.2.2 != bt588.2.2.2.2) = true then (laws_FnImproves.j0 k bt571.2.2.2.2.2.2 bt582.2.2.2.2 bt588.2.2.2.2 true bt571.2.2.1 bt571.2.2.2.1 bt582.1 bt582.2.1 bt582.2.2.1 bt582.2.2.2.1) else (laws_FnImproves.j0 k bt571.2.2.2.2.2.2 bt582.2.2.2.2 bt588.2.2.2.2 (!bt582.2.2.2.2) bt571.2.2.1 bt571.2.2.2.1 bt582.1 bt582.2.1 bt582.2.2.1 bt582.2.2.2.1)))))))) = some r := by rw [if_neg (show ¬ (false = true) by decide)] at H;exact H
    clear H
    have H := H1
    clear H1
    obtain ⟨⟨t571,t572,t573,t574,t575,t576,t577⟩,A40,H⟩ := Option.bind_eq_some_iff.mp H
    try dsimp only at H
    have A4 := Aside0.mk A40
    clear A40
    obtain ⟨t579,A50,H⟩ := Option.bind_eq_some_iff.mp H
    have A5 := Aside0.mk A50
    clear A50
    obtain ⟨t580,A60,H⟩ := Option.bind_eq_some_iff.mp H
    have A6 := Aside0.mk A60
    clear A60
    by_cases c7 : (t579 != t580) = true
    · rw [if_pos c7] at H
      have c7b0 : (t579 != t580) = true := c7
      (try (have c7b1 : decide (t579 = t580) = false := by simpa using c7))
      (try (have c7b2 : (t579 == t580) = false := by simpa using c7))
      (try (have c7b3 : ¬ (t579 = t580) := by simpa using c7))
      clear c7
      exact absurd ((Option.some.inj H).trans HRT.out) Z581
    · rw [if_neg c7] at H
      have c7b0 : (t579 != t580) = false := by simpa using c7
      (try (have c7b1 : decide (t579 = t580) = true := by simpa using c7))
      (try (have c7b2 : (t579 == t580) = true := by simpa using c7))
      clear c7
      obtain ⟨⟨t582,t583,t584,t585,t586⟩,A80,H⟩ := Option.bind_eq_some_iff.mp H
      try dsimp only at H
      have A8 := Aside0.mk A80
      clear A80
      obtain ⟨⟨t588,t589,t590,t591,t592⟩,A90,H⟩ := Option.bind_eq_some_iff.mp H
      try dsimp only at H
      have A9 := Aside0.mk A90
      clear A90
      have HC10 := Aside0.mk H
      clear H
      go_enter Try.func7,Try.ntmps7
      go_upto_region 10 with (first | ((with_reducible refine gate_callee (f := 13) rfl ?_);refine goesL_ (some 13) rfl rfl Try.func13 Z580 rfl #[.slice A0 l0.length c0] rfl Z395 ?_;(with_reducible refine (laws_big.calls _ _ l0 false _ ?side1 ?side2 A2.out).mono ?_);(case side1 => exact Z326);(case side2 => exact HC0.out);rintro e w' ⟨rfl,⟨nd,rfl⟩⟩;refine ⟨_,rfl,?_⟩) | ((with_reducible refine gate_callee (f := 20) rfl ?_);refine goesL_ (some 16) rfl rfl Try.func20 Z580 rfl #[.slice A0 l0.length c0] rfl Z395 ?_;(with_reducible refine (spec_DrawImproves.calls k _ _ l0 t571 t572 t573 t574 t575 t576 t577 _ ?side1 ?side2 A4.out).mono ?_);(case side1 => exact Z326);(case side2 => exact HC0.out);rintro e w11 ⟨rfl,hb⟩;refine ⟨_,rfl,?_⟩;have n0_ := Aside0.mk (below_step Z486 hb);clear HB;have HB := n0_;clear n0_;(try clear hb);(try clear hb2);(try clear hk);(try clear hi)) | ((with_reducible refine gate_dst (N := 3) rfl ?_);refine box_event ?hg (N := 3) ?hd (cs := #[.int .i64 0,.int .i64 0,.int .i64 0,.int .i64 0,.int .i64 0,.int .i64 0]) (t := 35) ?hr ?_;(case hd => rfl);(case hg => rfl);(case hr => exact Z515);intro gb578 hg w12 hbox hb;have n_ := jA (below_step Z486 hb) (jA (hbox) (jA ((Z271 : w.heap.size ≤ gb578)) (Aside0.mk ((Z271 : w.heap.size ≤ gb578)))));clear HB;obtain ⟨HB,BK578,GW578,GE578⟩ := n_;clear hb hbox hg;obtain ⟨hcz13_0,hcz13_1,hcz13_2,hcz13_3,hcz13_4,hcz13_5,hfz13_0,hfz13_1,hfz13_2,hfz13_3,hfz13_4,hfz13_5⟩ := laws_FnImproves.cells6 BK578.out) | ((with_reducible refine gate_callee (f := 19) rfl ?_);refine goesL_ (some 21) rfl rfl Try.func19 Z580 rfl #[.agg #[.int .i64 t571,.int .i64 t572,.int .i64 t573,.int .i64 t574,.int .i64 t575,.int .i64 t576],.int .i64 t577] rfl Z395 ?_;(with_reducible refine (impl_Improves.calls k t571 t572 t573 t574 t575 t576 t577 t579 _ A5.out).mono ?_);rintro e w14 ⟨rfl,hb⟩;refine ⟨_,rfl,?_⟩;have n_ := jA (blk_below (g := gb578) (o := .cells #[.int .i64 t571,.int .i64 t572,.int .i64 t573,.int .i64 t574,.int .i64 t575,.int .i64 t576] 35 (0,0)) (by refine bP ?_;refine blk_put (cs := #[.int .i64 t571,.int .i64 t572,.int .i64 t573,.int .i64 t574,.int .i64 t575,.int .i64 0]) ?_ 5 _ rfl;refine bP ?_;refine blk_put (cs := #[.int .i64 t571,.int .i64 t572,.int .i64 t573,.int .i64 t574,.int .i64 0,.int .i64 0]) ?_ 4 _ rfl;refine bP ?_;refine blk_put (cs := #[.int .i64 t571,.int .i64 t572,.int .i64 t573,.int .i64 0,.int .i64 0,.int .i64 0]) ?_ 3 _ rfl;refine bP ?_;refine blk_put (cs := #[.int .i64 t571,.int .i64 t572,.int .i64 0,.int .i64 0,.int .i64 0,.int .i64 0]) ?_ 2 _ rfl;refine bP ?_;refine blk_put (cs := #[.int .i64 t571,.int .i64 0,.int .i64 0,.int .i64 0,.int .i64 0,.int .i64 0]) ?_ 1 _ rfl;refine bP ?_;refine blk_put (cs := #[.int .i64 0,.int .i64 0,.int .i64 0,.int .i64 0,.int .i64 0,.int .i64 0]) ?_ 0 _ rfl;refine bP ?_;exact BK578.out) hb) (Aside0.mk (below_step Z461 hb));clear BK578 HB;obtain ⟨BK578,HB⟩ := n_;(try clear hb);(try clear hb2);(try clear hk);(try clear hi);obtain ⟨hcz15_0,hcz15_1,hcz15_2,hcz15_3,hcz15_4,hcz15_5,hfz15_0,hfz15_1,hfz15_2,hfz15_3,hfz15_4,hfz15_5⟩ := laws_FnImproves.cells6 BK578.out) | ((with_reducible refine gate_callee (f := 18) rfl ?_);refine goesL_ (some 25) rfl rfl Try.func18 Z580 rfl #[.agg #[.int .i64 t571,.int .i64 t572,.int .i64 t573,.int .i64 t574,.int .i64 t575,.int .i64 t576],.int .i64 t577] rfl Z395 ?_;(with_reducible refine (spec_Improves.calls k t571 t572 t573 t574 t575 t576 t577 t580 _ A6.out).mono ?_);rintro e w16 ⟨rfl,hb⟩;refine ⟨_,rfl,?_⟩;have n_ := jA (blk_below (g := gb578) (o := .cells #[.int .i64 t571,.int .i64 t572,.int .i64 t573,.int .i64 t574,.int .i64 t575,.int .i64 t576] 35 (0,0)) Z550 hb) (Aside0.mk (below_step Z461 hb));clear BK578 HB;obtain ⟨BK578,HB⟩ := n_;(try clear hb);(try clear hb2);(try clear hk);(try clear hi);obtain ⟨hcz17_0,hcz17_1,hcz17_2,hcz17_3,hcz17_4,hcz17_5,hfz17_0,hfz17_1,hfz17_2,hfz17_3,hfz17_4,hfz17_5⟩ := laws_FnImproves.cells6 BK578.out) | ((with_reducible refine gate_dst (N := 6) rfl ?_);refine box_event ?hg (N := 6) ?hd (cs := #[.int .i64 0,.int .i64 0]) (t := 33) ?hr ?_;(case hd => rfl);(case hg => rfl);(case hr => exact Z515);intro gb581 hg w18 hbox hb;have n_ := jA (blk_below (g := gb578) (o := .cells #[.int .i64 t571,.int .i64 t572,.int .i64 t573,.int .i64 t574,.int .i64 t575,.int .i64 t576] 35 (0,0)) Z550 hb) (jA (below_step Z461 hb) (jA (hbox) (jA ((Z207 : w.heap.size ≤ gb581)) (jA ((Z207 : w.heap.size ≤ gb581)) (jA ((Z182 : gb578 ≠ gb581)) (Aside0.mk ((Z183 : gb581 ≠ gb578))))))));clear BK578 HB;obtain ⟨BK578,HB,BK581,GW581,GE581,NB578_581,NB581_578⟩ := n_;clear hb hbox hg;have hnb19 := NB581_578.out;have hnc19 := NB578_581.out;obtain ⟨hcz20_0,hcz20_1,hfz20_0,hfz20_1⟩ := laws_FnImproves.cells2 BK581.out) | ((with_reducible refine gate_callee (f := 21) rfl ?_);refine goesL_ (some 32) rfl rfl Try.func21 Z580 rfl #[.agg #[.int .i64 t573,.int .i64 t574],.int .i64 t577] rfl Z395 ?_;(with_reducible refine (impl_PlainGain.calls t573 t574 t577 t582 t583 t584 t585 t586 _ A8.out).mono ?_);rintro e w21 ⟨rfl,hb⟩;refine ⟨_,rfl,?_⟩;have n_ := jA (blk_below (g := gb578) (o := .cells #[.int .i64 t571,.int .i64 t572,.int .i64 t573,.int .i64 t574,.int .i64 t575,.int .i64 t576] 35 (0,0)) (by refine bP ?_;refine blk_far ?_ NB578_581.out _;refine bP ?_;refine blk_far ?_ NB578_581.out _;refine bP ?_;exact BK578.out) hb) (jA (blk_below (g := gb581) (o := .cells #[.int .i64 t573,.int .i64 t574] 33 (0,0)) (by refine bP ?_;refine blk_put (cs := #[.int .i64 t573,.int .i64 0]) ?_ 1 _ rfl;refine bP ?_;refine blk_put (cs := #[.int .i64 0,.int .i64 0]) ?_ 0 _ rfl;refine bP ?_;exact BK581.out) hb) (Aside0.mk (below_step Z443 hb)));clear BK578 BK581 HB;obtain ⟨BK578,BK581,HB⟩ := n_;(try clear hb);(try clear hb2);(try clear hk);(try clear hi)) | ((with_reducible refine gate_dst (N := 7) rfl ?_);refine box_event ?hg (N := 7) ?hd (cs := #[.bool false,.int .u64 0,.int .u64 0,.int .i64 0]) (t := 30) ?hr ?_;(case hd => rfl);(case hg => rfl);(case hr => exact Z515);intro gb587 hg w22 hbox hb;have n_ := jA (blk_below (g := gb578) (o := .cells #[.int .i64 t571,.int .i64 t572,.int .i64 t573,.int .i64 t574,.int .i64 t575,.int .i64 t576] 35 (0,0)) Z550 hb) (jA (blk_below (g := gb581) (o := .cells #[.int .i64 t573,.int .i64 t574] 33 (0,0)) Z558 hb) (jA (below_step Z443 hb) (jA (hbox) (jA ((Z124 : w.heap.size ≤ gb587)) (jA ((Z124 : w.heap.size ≤ gb587)) (jA ((Z182 : gb578 ≠ gb587)) (jA ((Z183 : gb587 ≠ gb578)) (jA ((Z385 : gb581 ≠ gb587)) (Aside0.mk ((Z389 : gb587 ≠ gb581)))))))))));clear BK578 BK581 HB;obtain ⟨BK578,BK581,HB,BK587,GW587,GE587,NB578_587,NB587_578,NB581_587,NB587_581⟩ := n_;clear hb hbox hg;have hnb23 := NB587_578.out;have hnc23 := NB578_587.out;have hnb24 := NB587_581.out;have hnc24 := NB581_587.out;obtain ⟨hcz25_0,hcz25_1,hcz25_2,hcz25_3,hfz25_0,hfz25_1,hfz25_2,hfz25_3⟩ := laws_FnImproves.cells4 BK587.out;obtain ⟨hcz26_0,hcz26_1,hfz26_0,hfz26_1⟩ := laws_FnImproves.cells2 BK581.out) | ((with_reducible refine gate_callee (f := 22) rfl ?_);refine goesL_ (some 38) rfl rfl Try.func22 Z580 rfl #[.agg #[.int .i64 t573,.int .i64 t574],.int .i64 t577] rfl Z395 ?_;(with_reducible refine (spec_PlainGain.calls t573 t574 t577 t588 t589 t590 t591 t592 _ A9.out).mono ?_);rintro e w27 ⟨rfl,hb⟩;refine ⟨_,rfl,?_⟩;have n_ := jA (blk_below (g := gb578) (o := .cells #[.int .i64 t571,.int .i64 t572,.int .i64 t573,.int .i64 t574,.int .i64 t575,.int .i64 t576] 35 (0,0)) (by refine bP ?_;refine blk_far ?_ NB578_587.out _;refine bP ?_;refine blk_far ?_ NB578_587.out _;refine bP ?_;refine blk_far ?_ NB578_587.out _;refine bP ?_;refine blk_far ?_ NB578_587.out _;refine bP ?_;exact BK578.out) hb) (jA (blk_below (g := gb581) (o := .cells #[.int .i64 t573,.int .i64 t574] 33 (0,0)) (by refine bP ?_;refine blk_far ?_ NB581_587.out _;refine bP ?_;refine blk_far ?_ NB581_587.out _;refine bP ?_;refine blk_far ?_ NB581_587.out _;refine bP ?_;refine blk_far ?_ NB581_587.out _;refine bP ?_;exact BK581.out) hb) (jA (blk_below (g := gb587) (o := .cells #[.bool t582,.int .u64 t583,.int .u64 t584,.int .i64 t585] 30 (0,0)) (by refine bP ?_;refine blk_put (cs := #[.bool t582,.int .u64 t583,.int .u64 t584,.int .i64 0]) ?_ 3 _ rfl;refine bP ?_;refine blk_put (cs := #[.bool t582,.int .u64 t583,.int .u64 0,.int .i64 0]) ?_ 2 _ rfl;refine bP ?_;refine blk_put (cs := #[.bool t582,.int .u64 0,.int .u64 0,.int .i64 0]) ?_ 1 _ rfl;refine bP ?_;refine blk_put (cs := #[.bool false,.int .u64 0,.int .u64 0,.int .i64 0]) ?_ 0 _ rfl;refine bP ?_;exact BK587.out) hb) (Aside0.mk (below_step Z424 hb))));clear BK578 BK581 BK587 HB;obtain ⟨BK578,BK581,BK587,HB⟩ := n_;(try clear hb);(try clear hb2);(try clear hk);(try clear hi)) | ((with_reducible refine gate_dst (N := 9) rfl ?_);refine box_event ?hg (N := 9) ?hd (cs := #[.bool false,.int .u64 0,.int .u64 0,.int .i64 0]) (t := 30) ?hr ?_;(case hd => rfl);(case hg => rfl);(case hr => exact Z515);intro gb593 hg w28 hbox hb;have n_ := jA (blk_below (g := gb578) (o := .cells #[.int .i64 t571,.int .i64 t572,.int .i64 t573,.int .i64 t574,.int .i64 t575,.int .i64 t576] 35 (0,0)) Z550 hb) (jA (blk_below (g := gb581) (o := .cells #[.int .i64 t573,.int .i64 t574] 33 (0,0)) Z558 hb) (jA (blk_below (g := gb587) (o := .cells #[.bool t582,.int .u64 t583,.int .u64 t584,.int .i64 t585] 30 (0,0)) Z564 hb) (jA (below_step Z424 hb) (jA (hbox) (jA ((Z99 : w.heap.size ≤ gb593)) (jA ((Z99 : w.heap.size ≤ gb593)) (jA ((Z182 : gb578 ≠ gb593)) (jA ((Z183 : gb593 ≠ gb578)) (jA ((Z385 : gb581 ≠ gb593)) (jA ((Z389 : gb593 ≠ gb581)) (jA ((Z311 : gb587 ≠ gb593)) (Aside0.mk ((Z312 : gb593 ≠ gb587))))))))))))));clear BK578 BK581 BK587 HB;obtain ⟨BK578,BK581,BK587,HB,BK593,GW593,GE593,NB578_593,NB593_578,NB581_593,NB593_581,NB587_593,NB593_587⟩ := n_;clear hb hbox hg;have hnb29 := NB593_578.out;have hnc29 := NB578_593.out;have hnb30 := NB593_581.out;have hnc30 := NB581_593.out;have hnb31 := NB593_587.out;have hnc31 := NB587_593.out;obtain ⟨hcz32_0,hcz32_1,hcz32_2,hcz32_3,hfz32_0,hfz32_1,hfz32_2,hfz32_3⟩ := laws_FnImproves.cells4 BK593.out))
      (try simp only [Act.put,List.setIfInBounds_toArray,List.set_cons_zero,List.set_cons_succ])
      go_cut [47] (fun v47 wc => ∃ (kq : Nat) (x47_9 : Bool),v47 = .bool x47_9 ∧ Aside0 (laws_FnImproves.j0 kq t577 t586 t592 x47_9 t573 t574 t582 t583 t584 t585 = some r) ∧ Aside0 (kq ≤ k) ∧ Aside0 (wc.heap[gb578]? = some (.cells #[.int .i64 t571,.int .i64 t572,.int .i64 t573,.int .i64 t574,.int .i64 t575,.int .i64 t576] 35 (0,0))) ∧ Aside0 (wc.heap[gb581]? = some (.cells #[.int .i64 t573,.int .i64 t574] 33 (0,0))) ∧ Aside0 (wc.heap[gb587]? = some (.cells #[.bool t582,.int .u64 t583,.int .u64 t584,.int .i64 t585] 30 (0,0))) ∧ Aside0 (wc.heap[gb593]? = some (.cells #[.bool t588,.int .u64 t589,.int .u64 t590,.int .i64 t591] 30 (0,0))) ∧ Aside0 (Below w.heap.size w wc))
      case first =>
        have H := HC10.out
        clear HC10
        by_cases c33 : (t586 != t592) = true
        · rw [if_pos c33] at H
          have c33b0 : (t586 != t592) = true := c33
          (try (have c33b1 : decide (t586 = t592) = false := by simpa using c33))
          (try (have c33b2 : (t586 == t592) = false := by simpa using c33))
          (try (have c33b3 : ¬ (t586 = t592) := by simpa using c33))
          clear c33
          (first | rw [c33b0] | (simp only [i64_w,i32_w];rw [c33b0]) | skip)
          have H' := Aside0.mk H
          clear H
          go_wp2
          go_meet
          case rel => exact ⟨_,(true),Z514,H',⟨Z516⟩,⟨Z165⟩,⟨Z164⟩,⟨Z163⟩,⟨Z26⟩,⟨Z411⟩⟩
        · rw [if_neg c33] at H
          have c33b0 : (t586 != t592) = false := by simpa using c33
          (try (have c33b1 : decide (t586 = t592) = true := by simpa using c33))
          (try (have c33b2 : (t586 == t592) = true := by simpa using c33))
          clear c33
          (first | rw [c33b0] | (simp only [i64_w,i32_w];rw [c33b0]) | skip)
          have H' := Aside0.mk H
          clear H
          go_wp2
          go_meet
          case rel => exact ⟨_,(!t586),Z514,H',⟨Z516⟩,⟨Z165⟩,⟨Z164⟩,⟨Z163⟩,⟨Z26⟩,⟨Z411⟩⟩
      case rest =>
        clear HC10
        try clear c1
        try clear c2
        try clear p2
        try clear c3
        try clear c7
        try clear c7b0
        try clear c7b1
        try clear c7b2
        try clear c13
        try clear c18
        try clear c19
        try clear c20
        try clear c21
        try clear c22
        try clear c23
        try clear c24
        try clear c29
        try clear c30
        try clear c31
        try clear c33
        try clear c33b0
        try clear c33b1
        try clear c33b2
        try clear hcz13_0
        try clear hcz13_1
        try clear hcz13_2
        try clear hcz13_3
        try clear hcz13_4
        try clear hcz13_5
        try clear hcz15_0
        try clear hcz15_1
        try clear hcz15_2
        try clear hcz15_3
        try clear hcz15_4
        try clear hcz15_5
        try clear hcz17_0
        try clear hcz17_1
        try clear hcz17_2
        try clear hcz17_3
        try clear hcz17_4
        try clear hcz17_5
        try clear hcz20_0
        try clear hcz20_1
        try clear hcz25_0
        try clear hcz25_1
        try clear hcz25_2
        try clear hcz25_3
        try clear hcz26_0
        try clear hcz26_1
        try clear hcz32_0
        try clear hcz32_1
        try clear hcz32_2
        try clear hcz32_3
        try clear hfz13_0
        try clear hfz13_1
        try clear hfz13_2
        try clear hfz13_3
        try clear hfz13_4
        try clear hfz13_5
        try clear hfz15_0
        try clear hfz15_1
        try clear hfz15_2
        try clear hfz15_3
        try clear hfz15_4
        try clear hfz15_5
        try clear hfz17_0
        try clear hfz17_1
        try clear hfz17_2
        try clear hfz17_3
        try clear hfz17_4
        try clear hfz17_5
        try clear hfz20_0
        try clear hfz20_1
        try clear hfz25_0
        try clear hfz25_1
        try clear hfz25_2
        try clear hfz25_3
        try clear hfz26_0
        try clear hfz26_1
        try clear hfz32_0
        try clear hfz32_1
        try clear hfz32_2
        try clear hfz32_3
        obtain ⟨kq,x47_9,rfl,HA,HJ9,BK578,BK581,BK587,BK593,HB⟩ := hcut
        cases kq with
        | zero => exact absurd HA.out (by simp [laws_FnImproves.j0])
        | succ kj9 =>
          have H := HA.out
          clear HA
          simp only [laws_FnImproves.j0] at H
          by_cases c34 : x47_9 = true
          · subst c34
            have H1 : (some (t586 == t592)) = some r := by rw [if_pos rfl] at H;exact H
            clear H
            have H := H1
            clear H1
            obtain rfl := Option.some.inj H
            go_wp2
            go_ret
            exact ⟨Z400,Z411⟩
          · replace c34 := Bool.eq_false_iff.mpr c34
            subst c34
            have H1 : ((impl_FracOk.f t582 t583 t584 t585).bind fun t595 => (if t595 = true then ((impl_Improves.f kj9 0 0 t573 t574 0 0 t577).bind fun t596 => (some (!t596))) else (some false))) = some r := by rw [if_neg (show ¬ (false = true) by decide)] at H;exact H
            clear H
            have H := H1
            clear H1
            obtain ⟨t595,A350,H⟩ := Option.bind_eq_some_iff.mp H
            have A35 := Aside0.mk A350
            clear A350
            by_cases c36 : t595 = true
            · subst c36
              have H1 : ((impl_Improves.f kj9 0 0 t573 t574 0 0 t577).bind fun t596 => (some (!t596))) = some r := by rw [if_pos rfl] at H;exact H
              clear H
              have H := H1
              clear H1
              obtain ⟨t596,A370,H⟩ := Option.bind_eq_some_iff.mp H
              have A37 := Aside0.mk A370
              clear A370
              obtain rfl := Option.some.inj H
              have hnb38 := NB581_578.out
              have hnc38 := NB578_581.out
              have hnb39 := NB581_587.out
              have hnc39 := NB587_581.out
              have hnb40 := NB581_593.out
              have hnc40 := NB593_581.out
              obtain ⟨hcz41_0,hcz41_1,hfz41_0,hfz41_1⟩ := laws_FnImproves.cells2 BK581.out
              go_wp2_with (first | ((with_reducible refine gate_dst (N := 11) rfl ?_);refine box_event ?hg (N := 11) ?hd (cs := #[.int .i64 0,.int .i64 0,.int .i64 0,.int .i64 0,.int .i64 0,.int .i64 0]) (t := 35) ?hr ?_;(case hd => rfl);(case hg => rfl);(case hr => exact Z515);intro gb594 hg w42 hbox hb;have n_ := jA (blk_below (g := gb578) (o := .cells #[.int .i64 t571,.int .i64 t572,.int .i64 t573,.int .i64 t574,.int .i64 t575,.int .i64 t576] 35 (0,0)) Z550 hb) (jA (blk_below (g := gb581) (o := .cells #[.int .i64 t573,.int .i64 t574] 33 (0,0)) Z558 hb) (jA (blk_below (g := gb587) (o := .cells #[.bool t582,.int .u64 t583,.int .u64 t584,.int .i64 t585] 30 (0,0)) Z564 hb) (jA (blk_below (g := gb593) (o := .cells #[.bool t588,.int .u64 t589,.int .u64 t590,.int .i64 t591] 30 (0,0)) Z568 hb) (jA (below_step Z411 hb) (jA (hbox) (jA ((Z63 : w.heap.size ≤ gb594)) (jA ((Z63 : w.heap.size ≤ gb594)) (jA ((Z182 : gb578 ≠ gb594)) (jA ((Z183 : gb594 ≠ gb578)) (jA ((Z385 : gb581 ≠ gb594)) (jA ((Z389 : gb594 ≠ gb581)) (jA ((Z311 : gb587 ≠ gb594)) (jA ((Z312 : gb594 ≠ gb587)) (jA ((by rw [hg];exact Nat.ne_of_lt (blk_lt (g := gb593) (o := .cells #[.bool t588,.int .u64 t589,.int .u64 t590,.int .i64 t591] 30 (0,0)) Z568) : gb593 ≠ gb594)) (Aside0.mk ((by rw [hg];exact Nat.ne_of_gt (blk_lt (g := gb593) (o := .cells #[.bool t588,.int .u64 t589,.int .u64 t590,.int .i64 t591] 30 (0,0)) Z568) : gb594 ≠ gb593)))))))))))))))));clear BK578 BK581 BK587 BK593 HB;obtain ⟨BK578,BK581,BK587,BK593,HB,BK594,GW594,GE594,NB578_594,NB594_578,NB581_594,NB594_581,NB587_594,NB594_587,NB593_594,NB594_593⟩ := n_;clear hb hbox hg;have hnb43 := NB594_578.out;have hnc43 := NB578_594.out;have hnb44 := NB594_581.out;have hnc44 := NB581_594.out;have hnb45 := NB594_587.out;have hnc45 := NB587_594.out;have hnb46 := NB594_593.out;have hnc46 := NB593_594.out;obtain ⟨hcz47_0,hcz47_1,hcz47_2,hcz47_3,hcz47_4,hcz47_5,hfz47_0,hfz47_1,hfz47_2,hfz47_3,hfz47_4,hfz47_5⟩ := laws_FnImproves.cells6 BK594.out;have hnb48 := NB587_578.out;have hnc48 := NB578_587.out;have hnb49 := NB587_593.out;have hnc49 := NB593_587.out;obtain ⟨hcz50_0,hcz50_1,hcz50_2,hcz50_3,hfz50_0,hfz50_1,hfz50_2,hfz50_3⟩ := laws_FnImproves.cells4 BK587.out) | ((with_reducible refine gate_callee (f := 15) rfl ?_);refine goesL_ (some 54) rfl rfl Try.func15 Z580 rfl #[.agg #[.bool t582,.int .u64 t583,.int .u64 t584,.int .i64 t585]] rfl Z395 ?_;(with_reducible refine (impl_FracOk.calls t582 t583 t584 t585 true _ A35.out).mono ?_);rintro e w51 ⟨rfl,hb⟩;refine ⟨_,rfl,?_⟩;have n_ := jA (blk_below (g := gb578) (o := .cells #[.int .i64 t571,.int .i64 t572,.int .i64 t573,.int .i64 t574,.int .i64 t575,.int .i64 t576] 35 (0,0)) (by refine bP ?_;refine blk_far ?_ NB578_594.out _;refine bP ?_;refine blk_far ?_ NB578_594.out _;refine bP ?_;refine blk_far ?_ NB578_594.out _;refine bP ?_;refine blk_far ?_ NB578_594.out _;refine bP ?_;refine blk_far ?_ NB578_594.out _;refine bP ?_;refine blk_far ?_ NB578_594.out _;refine bP ?_;exact BK578.out) hb) (jA (blk_below (g := gb581) (o := .cells #[.int .i64 t573,.int .i64 t574] 33 (0,0)) (by refine bP ?_;refine blk_far ?_ NB581_594.out _;refine bP ?_;refine blk_far ?_ NB581_594.out _;refine bP ?_;refine blk_far ?_ NB581_594.out _;refine bP ?_;refine blk_far ?_ NB581_594.out _;refine bP ?_;refine blk_far ?_ NB581_594.out _;refine bP ?_;refine blk_far ?_ NB581_594.out _;refine bP ?_;exact BK581.out) hb) (jA (blk_below (g := gb587) (o := .cells #[.bool t582,.int .u64 t583,.int .u64 t584,.int .i64 t585] 30 (0,0)) (by refine bP ?_;refine blk_far ?_ NB587_594.out _;refine bP ?_;refine blk_far ?_ NB587_594.out _;refine bP ?_;refine blk_far ?_ NB587_594.out _;refine bP ?_;refine blk_far ?_ NB587_594.out _;refine bP ?_;refine blk_far ?_ NB587_594.out _;refine bP ?_;refine blk_far ?_ NB587_594.out _;refine bP ?_;exact BK587.out) hb) (jA (blk_below (g := gb593) (o := .cells #[.bool t588,.int .u64 t589,.int .u64 t590,.int .i64 t591] 30 (0,0)) (by refine bP ?_;refine blk_far ?_ NB593_594.out _;refine bP ?_;refine blk_far ?_ NB593_594.out _;refine bP ?_;refine blk_far ?_ NB593_594.out _;refine bP ?_;refine blk_far ?_ NB593_594.out _;refine bP ?_;refine blk_far ?_ NB593_594.out _;refine bP ?_;refine blk_far ?_ NB593_594.out _;refine bP ?_;exact BK593.out) hb) (jA (blk_below (g := gb594) (o := .cells #[.int .i64 0,.int .i64 0,.int .i64 t573,.int .i64 t574,.int .i64 0,.int .i64 0] 35 (0,0)) (by refine bP ?_;refine blk_put (cs := #[.int .i64 0,.int .i64 0,.int .i64 t573,.int .i64 t574,.int .i64 0,.int .i64 0]) ?_ 5 _ rfl;refine bP ?_;refine blk_put (cs := #[.int .i64 0,.int .i64 0,.int .i64 t573,.int .i64 t574,.int .i64 0,.int .i64 0]) ?_ 4 _ rfl;refine bP ?_;refine blk_put (cs := #[.int .i64 0,.int .i64 0,.int .i64 t573,.int .i64 0,.int .i64 0,.int .i64 0]) ?_ 3 _ rfl;refine bP ?_;refine blk_put (cs := #[.int .i64 0,.int .i64 0,.int .i64 0,.int .i64 0,.int .i64 0,.int .i64 0]) ?_ 2 _ rfl;refine bP ?_;refine blk_put (cs := #[.int .i64 0,.int .i64 0,.int .i64 0,.int .i64 0,.int .i64 0,.int .i64 0]) ?_ 1 _ rfl;refine bP ?_;refine blk_put (cs := #[.int .i64 0,.int .i64 0,.int .i64 0,.int .i64 0,.int .i64 0,.int .i64 0]) ?_ 0 _ rfl;refine bP ?_;exact BK594.out) hb) (Aside0.mk (below_step Z62 hb))))));clear BK578 BK581 BK587 BK593 BK594 HB;obtain ⟨BK578,BK581,BK587,BK593,BK594,HB⟩ := n_;(try clear hb);(try clear hb2);(try clear hk);(try clear hi);obtain ⟨hcz52_0,hcz52_1,hcz52_2,hcz52_3,hcz52_4,hcz52_5,hfz52_0,hfz52_1,hfz52_2,hfz52_3,hfz52_4,hfz52_5⟩ := laws_FnImproves.cells6 BK594.out) | (go_at_call 19;(with_reducible refine (impl_Improves.calls kj9 0 0 t573 t574 0 0 t577 t596 _ A37.out).mono ?_);rintro e w53 ⟨rfl,hb⟩;have n_ := jA (blk_below (g := gb578) (o := .cells #[.int .i64 t571,.int .i64 t572,.int .i64 t573,.int .i64 t574,.int .i64 t575,.int .i64 t576] 35 (0,0)) Z550 hb) (jA (blk_below (g := gb581) (o := .cells #[.int .i64 t573,.int .i64 t574] 33 (0,0)) Z558 hb) (jA (blk_below (g := gb587) (o := .cells #[.bool t582,.int .u64 t583,.int .u64 t584,.int .i64 t585] 30 (0,0)) Z564 hb) (jA (blk_below (g := gb593) (o := .cells #[.bool t588,.int .u64 t589,.int .u64 t590,.int .i64 t591] 30 (0,0)) Z568 hb) (jA (blk_below (g := gb594) (o := .cells #[.int .i64 0,.int .i64 0,.int .i64 t573,.int .i64 t574,.int .i64 0,.int .i64 0] 35 (0,0)) (by refine bP ?_;exact BK594.out) hb) (Aside0.mk (below_step Z62 hb))))));clear BK578 BK581 BK587 BK593 BK594 HB;obtain ⟨BK578,BK581,BK587,BK593,BK594,HB⟩ := n_;(try clear hb);(try clear hb2);(try clear hk);(try clear hi)))
              go_ret
              exact ⟨Z400,Z62⟩
            · replace c36 := Bool.eq_false_iff.mpr c36
              subst c36
              have H1 : (some false) = some r := by rw [if_neg (show ¬ (false = true) by decide)] at H;exact H
              clear H
              have H := H1
              clear H1
              exact absurd ((Option.some.inj H).trans HRT.out) Z581

/-- THE ONE PURE STATEMENT of laws_FnImproves: yours. -/
def laws_FnImproves.Pure : Prop := ∀ (l0 : List Int),l0.length ≤ maxLen → l0.length * 1 ≤ 140737488351232 → (∀ x ∈ l0,(Lit.int .u8 x).wf = true) → ∃ k,laws_FnImproves.f k l0 = some true
theorem laws_FnImproves.walk (P : laws_FnImproves.Pure) (a0 : Option Addr) (len0 cap0 : Nat) (z0 : List Int) (w : World) (w0 : (a0 = none ∧ len0 = 0 ∧ cap0 = 0 ∧ z0 = []) ∨ ∃ x,a0 = some x ∧ len0 ≤ cap0 ∧ cap0 ≤ maxLen ∧ z0.length = cap0 ∧ (∀ i,i < z0.length → w.cell? (x.add i) = some (.int .u8 (z0.getD i 0))) ∧ ∀ n ∈ z0,(Lit.int .u8 n).wf = true) (y0 : len0 * 1 ≤ 140737488351232) :
    Calls Try.prog 7 #[.slice a0 len0 cap0] w fun e w' => e = .returned (.bool true) ∧ Below w.heap.size w w' := by
  obtain ⟨l0,rfl,hr0,hm0,hw0,hc0⟩ := ReadsInt.ofRowC w0
  obtain ⟨k,h⟩ := P l0 hm0 y0 hw0
  refine (laws_FnImproves.calls k _ _ l0 true w (Kd.C_of_reads (d := (0 : Int)) (h1 := fun _ => rfl) hr0) hc0 h rfl).mono ?_
  rintro e w' ⟨rfl,hd⟩
  exact ⟨rfl,hd⟩

end Go.Proofs.Ytjcjehnjbgklbaa.QFnImproves
