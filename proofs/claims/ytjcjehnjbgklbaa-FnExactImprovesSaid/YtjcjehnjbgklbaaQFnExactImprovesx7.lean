/- The machine side of FnExactImproves: what each Go function that it reaches comes to. Conditions: none. -/
import Derived.Test.YtjcjehnjbgklbaaQFnExactImprovesx0
import Derived.Test.YtjcjehnjbgklbaaQFnExactImprovesx6
namespace Go.Proofs.Ytjcjehnjbgklbaa.QFnExactImproves
open Go.RowKit Go.Proofs.YtjcjehnjbgklbaaW.PrintWords Go.Proofs.YtjcjehnjbgklbaaW.PrintLast Go.Proofs.YtjcjehnjbgklbaaW.PrintMore
attribute [local go_sem] max2_int min2_int max_two min_two max_three min_three max_four min_four   -- for this text's walks alone
set_option linter.unusedVariables false
set_option linter.unusedSimpArgs false

/-! ### impl_crossed: function 48 -/
theorem impl_crossed.cells3 {w : World} {g : Nat} {t : TypeId} {a0 a1 a2 : Value} (h : w.heap[g]? = some (.cells #[a0,a1,a2] t (0,0))) : w.cell? ⟨g,0,none⟩ = some a0 ∧ w.cell? ⟨g,1,none⟩ = some a1 ∧ w.cell? ⟨g,2,none⟩ = some a2 ∧ w.frozen? ⟨g,0,none⟩ = false ∧ w.frozen? ⟨g,1,none⟩ = false ∧ w.frozen? ⟨g,2,none⟩ = false := ⟨(blk_cell h 0).trans rfl,(blk_cell h 1).trans rfl,(blk_cell h 2).trans rfl,blk_frozen h 0,blk_frozen h 1,blk_frozen h 2⟩
theorem impl_crossed.cells4 {w : World} {g : Nat} {t : TypeId} {a0 a1 a2 a3 : Value} (h : w.heap[g]? = some (.cells #[a0,a1,a2,a3] t (0,0))) : w.cell? ⟨g,0,none⟩ = some a0 ∧ w.cell? ⟨g,1,none⟩ = some a1 ∧ w.cell? ⟨g,2,none⟩ = some a2 ∧ w.cell? ⟨g,3,none⟩ = some a3 ∧ w.frozen? ⟨g,0,none⟩ = false ∧ w.frozen? ⟨g,1,none⟩ = false ∧ w.frozen? ⟨g,2,none⟩ = false ∧ w.frozen? ⟨g,3,none⟩ = false := ⟨(blk_cell h 0).trans rfl,(blk_cell h 1).trans rfl,(blk_cell h 2).trans rfl,(blk_cell h 3).trans rfl,blk_frozen h 0,blk_frozen h 1,blk_frozen h 2,blk_frozen h 3⟩
def impl_crossed.j0 : Nat → Bool → Bool → Int → Int → Int → Bool → Int → Int → Int → Option (Bool × Int × Int × Bool × Int × Int × Bool)
  | 0,_,_,_,_,_,_,_,_,_ => none
  | k + 1,x18,x319000,x319001,x319002,x319003,x320000,x320001,x320002,x320003 => if x18 = true then (some (false,0,0,false,0,0,false)) else ((impl_ScaleWide.f x319000 x319001 x319002 x320003).bind fun bt324 => ((impl_ScaleWide.f x320000 x320001 x320002 x319003).bind fun bt329 => (if bt324.2.2.2 = true then (some (bt324.1,bt324.2.1,bt324.2.2.1,bt329.1,bt329.2.1,bt329.2.2.1,bt329.2.2.2)) else (some (bt324.1,bt324.2.1,bt324.2.2.1,bt329.1,bt329.2.1,bt329.2.2.1,false)))))
def impl_crossed.f (k : Nat) (a0_0 : Bool) (a0_1 : Int) (a0_2 : Int) (a0_3 : Int) (a1_0 : Bool) (a1_1 : Int) (a1_2 : Int) (a1_3 : Int) : Option (Bool × Int × Int × Bool × Int × Int × Bool) := (impl_FracOk.f a0_0 a0_1 a0_2 a0_3).bind fun t322 => (if t322 = true then ((impl_FracOk.f a1_0 a1_1 a1_2 a1_3).bind fun t323 => (impl_crossed.j0 k (!t323) a0_0 a0_1 a0_2 a0_3 a1_0 a1_1 a1_2 a1_3)) else (impl_crossed.j0 k true a0_0 a0_1 a0_2 a0_3 a1_0 a1_1 a1_2 a1_3))
theorem impl_crossed.mono_l : ∀ k,(∀ y0 y1 y2 y3 y4 y5 y6 y7 y8,LeO (impl_crossed.j0 k y0 y1 y2 y3 y4 y5 y6 y7 y8) (impl_crossed.j0 (k + 1) y0 y1 y2 y3 y4 y5 y6 y7 y8))
  | 0 => fun _ _ _ _ _ _ _ _ _ r h => by simp [impl_crossed.j0] at h
  | k + 1 => by
    have ih0 := impl_crossed.mono_l k
    · intro y0 y1 y2 y3 y4 y5 y6 y7 y8
      unfold impl_crossed.j0
      repeat' first
      | (with_reducible exact ih0 _ _ _ _ _ _ _ _ _)
      | (with_reducible exact LeO.refl _)
      | (with_reducible exact LeO.none _)
      | (with_reducible refine LeO.ite ?_ ?_)
      | (with_reducible refine LeO.bind ?_ (fun _ => ?_))
      | exact ih0 _ _ _ _ _ _ _ _ _
      | exact LeO.none _
      | refine LeO.ite ?_ ?_
      | refine LeO.bind ?_ (fun _ => ?_)
theorem impl_crossed.mono : ∀ a0 a1 a2 a3 a4 a5 a6 a7 k,LeO (impl_crossed.f k a0 a1 a2 a3 a4 a5 a6 a7) (impl_crossed.f (k + 1) a0 a1 a2 a3 a4 a5 a6 a7) := by
  intro a0 a1 a2 a3 a4 a5 a6 a7 k
  have ih0 := impl_crossed.mono_l k
  unfold impl_crossed.f
  repeat' first
      | (with_reducible exact ih0 _ _ _ _ _ _ _ _ _)
      | (with_reducible exact LeO.refl _)
      | (with_reducible exact LeO.none _)
      | (with_reducible refine LeO.ite ?_ ?_)
      | (with_reducible refine LeO.bind ?_ (fun _ => ?_))
      | exact ih0 _ _ _ _ _ _ _ _ _
      | exact LeO.none _
      | refine LeO.ite ?_ ?_
      | refine LeO.bind ?_ (fun _ => ?_)
def impl_crossed.T5 : Bool × List (List Nat × List Nat) := (true,[([],[]),([],[]),([],[]),([2],[2]),([3],[3]),([3,4],[3,4]),([0,3,0],[0]),([1,6,0,1,6],[1]),([5,7,0,1,2,3,4,5,6,7],[5])])
def impl_crossed.B5 : List Nat := [0,0,0,4,12,28,13,79,255]
theorem impl_crossed.tab5 : rtab .any (opsOf Try.f48 5) = impl_crossed.T5 := by kernel_rfl
theorem impl_crossed.bits5 : waitsOk impl_crossed.T5.2 impl_crossed.B5 = true := by kernel_rfl
set_option maxHeartbeats 8000000 in
set_option maxRecDepth 100000 in
theorem impl_crossed.calls (k : Nat) (a0_0 : Bool) (a0_1 : Int) (a0_2 : Int) (a0_3 : Int) (a1_0 : Bool) (a1_1 : Int) (a1_2 : Int) (a1_3 : Int) (r1 : Bool) (r2 : Int) (r3 : Int) (r4 : Bool) (r5 : Int) (r6 : Int) (r7 : Bool) (w : World) (h : impl_crossed.f k a0_0 a0_1 a0_2 a0_3 a1_0 a1_1 a1_2 a1_3 = some (r1,r2,r3,r4,r5,r6,r7)) :
    Calls Try.prog 48 #[.agg #[.bool a0_0,.int .u64 a0_1,.int .u64 a0_2,.int .i64 a0_3],.agg #[.bool a1_0,.int .u64 a1_1,.int .u64 a1_2,.int .i64 a1_3]] w fun e w' => e = .returned (.tuple #[.agg #[.bool r1,.int .u64 r2,.int .u64 r3],.agg #[.bool r4,.int .u64 r5,.int .u64 r6],.bool r7]) ∧ Below w.heap.size w w' := by
  have hu30 := Try.underlying30
  have hu28 := Try.underlying28
  have HB := Aside0.mk (Below.refl w.heap.size w)
  have H : ((impl_FracOk.f a0_0 a0_1 a0_2 a0_3).bind fun t322 => (if t322 = true then ((impl_FracOk.f a1_0 a1_1 a1_2 a1_3).bind fun t323 => (impl_crossed.j0 k (!t323) a0_0 a0_1 a0_2 a0_3 a1_0 a1_1 a1_2 a1_3)) else (impl_crossed.j0 k true a0_0 a0_1 a0_2 a0_3 a1_0 a1_1 a1_2 a1_3))) = some (r1,r2,r3,r4,r5,r6,r7) := h
  clear h
  have HC3 := Aside0.mk H
  clear H
  go_enter Try.func48,Try.ntmps48
  go_upto_region 1 with (first | ((with_reducible refine gate_dst (N := 2) rfl ?_);refine box_event ?hg (N := 2) ?hd (cs := #[.bool a0_0,.int .u64 a0_1,.int .u64 a0_2,.int .i64 a0_3]) (t := 30) ?hr ?_;(case hd => rfl);(case hg => rfl);(case hr => exact Z566);intro gb318 hg w4 hbox hb;have n_ := jA (below_step Z483 hb) (jA (hbox) (jA ((Z366 : w.heap.size ≤ gb318)) (Aside0.mk ((Z366 : w.heap.size ≤ gb318)))));clear HB;obtain ⟨HB,BK318,GW318,GE318⟩ := n_;clear hb hbox hg) | ((with_reducible refine gate_dst (N := 3) rfl ?_);refine box_event ?hg (N := 3) ?hd (cs := #[.bool a1_0,.int .u64 a1_1,.int .u64 a1_2,.int .i64 a1_3]) (t := 30) ?hr ?_;(case hd => rfl);(case hg => rfl);(case hr => exact Z566);intro gb319 hg w5 hbox hb;have n_ := jA (blk_below (g := gb318) (o := .cells #[.bool a0_0,.int .u64 a0_1,.int .u64 a0_2,.int .i64 a0_3] 30 (0,0)) Z500 hb) (jA (below_step Z475 hb) (jA (hbox) (jA ((Z356 : w.heap.size ≤ gb319)) (jA ((Z356 : w.heap.size ≤ gb319)) (jA ((Z198 : gb318 ≠ gb319)) (Aside0.mk ((Z200 : gb319 ≠ gb318))))))));clear BK318 HB;obtain ⟨BK318,HB,BK319,GW319,GE319,NB318_319,NB319_318⟩ := n_;clear hb hbox hg) | ((with_reducible refine gate_dst (N := 4) rfl ?_);refine box_event ?hg (N := 4) ?hd (cs := #[.bool false,.int .u64 0,.int .u64 0]) (t := 28) ?hr ?_;(case hd => rfl);(case hg => rfl);(case hr => exact Z566);intro gb320 hg w6 hbox hb;have n_ := jA (blk_below (g := gb318) (o := .cells #[.bool a0_0,.int .u64 a0_1,.int .u64 a0_2,.int .i64 a0_3] 30 (0,0)) Z500 hb) (jA (blk_below (g := gb319) (o := .cells #[.bool a1_0,.int .u64 a1_1,.int .u64 a1_2,.int .i64 a1_3] 30 (0,0)) Z503 hb) (jA (below_step Z448 hb) (jA (hbox) (jA ((Z238 : w.heap.size ≤ gb320)) (jA ((Z238 : w.heap.size ≤ gb320)) (jA ((Z198 : gb318 ≠ gb320)) (jA ((Z200 : gb320 ≠ gb318)) (jA ((Z203 : gb319 ≠ gb320)) (Aside0.mk ((Z207 : gb320 ≠ gb319)))))))))));clear BK318 BK319 HB;obtain ⟨BK318,BK319,HB,BK320,GW320,GE320,NB318_320,NB320_318,NB319_320,NB320_319⟩ := n_;clear hb hbox hg) | ((with_reducible refine gate_dst (N := 5) rfl ?_);refine box_event ?hg (N := 5) ?hd (cs := #[.bool false,.int .u64 0,.int .u64 0]) (t := 28) ?hr ?_;(case hd => rfl);(case hg => rfl);(case hr => exact Z566);intro gb321 hg w7 hbox hb;have n_ := jA (blk_below (g := gb318) (o := .cells #[.bool a0_0,.int .u64 a0_1,.int .u64 a0_2,.int .i64 a0_3] 30 (0,0)) Z500 hb) (jA (blk_below (g := gb319) (o := .cells #[.bool a1_0,.int .u64 a1_1,.int .u64 a1_2,.int .i64 a1_3] 30 (0,0)) Z503 hb) (jA (blk_below (g := gb320) (o := .cells #[.bool false,.int .u64 0,.int .u64 0] 28 (0,0)) Z507 hb) (jA (below_step Z430 hb) (jA (hbox) (jA ((Z179 : w.heap.size ≤ gb321)) (jA ((Z179 : w.heap.size ≤ gb321)) (jA ((Z198 : gb318 ≠ gb321)) (jA ((Z200 : gb321 ≠ gb318)) (jA ((Z203 : gb319 ≠ gb321)) (jA ((Z207 : gb321 ≠ gb319)) (jA ((Z289 : gb320 ≠ gb321)) (Aside0.mk ((Z291 : gb321 ≠ gb320))))))))))))));clear BK318 BK319 BK320 HB;obtain ⟨BK318,BK319,BK320,HB,BK321,GW321,GE321,NB318_321,NB321_318,NB319_321,NB321_319,NB320_321,NB321_320⟩ := n_;clear hb hbox hg))
  (try simp only [Act.put,List.setIfInBounds_toArray,List.set_cons_zero,List.set_cons_succ])
  go_cut [18] (fun v18 wc => ∃ (kq : Nat) (x18_2 : Bool),v18 = .bool x18_2 ∧ Aside0 (impl_crossed.j0 kq x18_2 a0_0 a0_1 a0_2 a0_3 a1_0 a1_1 a1_2 a1_3 = some (r1,r2,r3,r4,r5,r6,r7)) ∧ Aside0 (kq ≤ k) ∧ Aside0 (wc.heap[gb318]? = some (.cells #[.bool a0_0,.int .u64 a0_1,.int .u64 a0_2,.int .i64 a0_3] 30 (0,0))) ∧ Aside0 (wc.heap[gb319]? = some (.cells #[.bool a1_0,.int .u64 a1_1,.int .u64 a1_2,.int .i64 a1_3] 30 (0,0))) ∧ Aside0 (wc.heap[gb320]? = some (.cells #[.bool false,.int .u64 0,.int .u64 0] 28 (0,0))) ∧ Aside0 (wc.heap[gb321]? = some (.cells #[.bool false,.int .u64 0,.int .u64 0] 28 (0,0))) ∧ Aside0 (Below w.heap.size w wc))
  case first =>
    have H := HC3.out
    clear HC3
    obtain ⟨t322,A80,H⟩ := Option.bind_eq_some_iff.mp H
    have A8 := Aside0.mk A80
    clear A80
    by_cases c9 : t322 = true
    · subst c9
      have H1 : ((impl_FracOk.f a1_0 a1_1 a1_2 a1_3).bind fun t323 => (impl_crossed.j0 k (!t323) a0_0 a0_1 a0_2 a0_3 a1_0 a1_1 a1_2 a1_3)) = some (r1,r2,r3,r4,r5,r6,r7) := by rw [if_pos rfl] at H;exact H
      clear H
      have H := H1
      clear H1
      obtain ⟨t323,A100,H⟩ := Option.bind_eq_some_iff.mp H
      have A10 := Aside0.mk A100
      clear A100
      have H' := Aside0.mk H
      clear H
      have hnb11 := NB318_319.out
      have hnc11 := NB319_318.out
      have hnb12 := NB318_320.out
      have hnc12 := NB320_318.out
      have hnb13 := NB318_321.out
      have hnc13 := NB321_318.out
      obtain ⟨hcz14_0,hcz14_1,hcz14_2,hcz14_3,hfz14_0,hfz14_1,hfz14_2,hfz14_3⟩ := impl_crossed.cells4 BK318.out
      go_wp2_with (first | ((with_reducible refine gate_callee (f := 15) rfl ?_);refine goesL_ (some 12) rfl rfl Try.func15 Z569 rfl #[.agg #[.bool a0_0,.int .u64 a0_1,.int .u64 a0_2,.int .i64 a0_3]] rfl Z375 ?_;(with_reducible refine (impl_FracOk.calls a0_0 a0_1 a0_2 a0_3 true _ A8.out).mono ?_);rintro e w15 ⟨rfl,hb⟩;refine ⟨_,rfl,?_⟩;have n_ := jA (blk_below (g := gb318) (o := .cells #[.bool a0_0,.int .u64 a0_1,.int .u64 a0_2,.int .i64 a0_3] 30 (0,0)) Z500 hb) (jA (blk_below (g := gb319) (o := .cells #[.bool a1_0,.int .u64 a1_1,.int .u64 a1_2,.int .i64 a1_3] 30 (0,0)) Z503 hb) (jA (blk_below (g := gb320) (o := .cells #[.bool false,.int .u64 0,.int .u64 0] 28 (0,0)) Z507 hb) (jA (blk_below (g := gb321) (o := .cells #[.bool false,.int .u64 0,.int .u64 0] 28 (0,0)) Z510 hb) (Aside0.mk (below_step Z413 hb)))));clear BK318 BK319 BK320 BK321 HB;obtain ⟨BK318,BK319,BK320,BK321,HB⟩ := n_;(try clear hb);(try clear hb2);(try clear hk);(try clear hi);have hnb16 := NB319_320.out;have hnc16 := NB320_319.out;have hnb17 := NB319_321.out;have hnc17 := NB321_319.out;obtain ⟨hcz18_0,hcz18_1,hcz18_2,hcz18_3,hfz18_0,hfz18_1,hfz18_2,hfz18_3⟩ := impl_crossed.cells4 BK319.out) | (go_at_call 15;(with_reducible refine (impl_FracOk.calls a1_0 a1_1 a1_2 a1_3 t323 _ A10.out).mono ?_);rintro e w19 ⟨rfl,hb⟩;have n_ := jA (blk_below (g := gb318) (o := .cells #[.bool a0_0,.int .u64 a0_1,.int .u64 a0_2,.int .i64 a0_3] 30 (0,0)) Z500 hb) (jA (blk_below (g := gb319) (o := .cells #[.bool a1_0,.int .u64 a1_1,.int .u64 a1_2,.int .i64 a1_3] 30 (0,0)) Z503 hb) (jA (blk_below (g := gb320) (o := .cells #[.bool false,.int .u64 0,.int .u64 0] 28 (0,0)) Z507 hb) (jA (blk_below (g := gb321) (o := .cells #[.bool false,.int .u64 0,.int .u64 0] 28 (0,0)) Z510 hb) (Aside0.mk (below_step Z413 hb)))));clear BK318 BK319 BK320 BK321 HB;obtain ⟨BK318,BK319,BK320,BK321,HB⟩ := n_;(try clear hb);(try clear hb2);(try clear hk);(try clear hi)))
      go_meet
      case rel => exact ⟨_,(!t323),Z565,H',⟨Z567⟩,⟨Z500⟩,⟨Z503⟩,⟨Z507⟩,⟨Z510⟩,⟨Z413⟩⟩
    · replace c9 := Bool.eq_false_iff.mpr c9
      subst c9
      have H1 : (impl_crossed.j0 k true a0_0 a0_1 a0_2 a0_3 a1_0 a1_1 a1_2 a1_3) = some (r1,r2,r3,r4,r5,r6,r7) := by rw [if_neg (show ¬ (false = true) by decide)] at H;exact H
      clear H
      have H := H1
      clear H1
      have H' := Aside0.mk H
      clear H
      have hnb20 := NB318_319.out
      have hnc20 := NB319_318.out
      have hnb21 := NB318_320.out
      have hnc21 := NB320_318.out
      have hnb22 := NB318_321.out
      have hnc22 := NB321_318.out
      obtain ⟨hcz23_0,hcz23_1,hcz23_2,hcz23_3,hfz23_0,hfz23_1,hfz23_2,hfz23_3⟩ := impl_crossed.cells4 BK318.out
      go_wp2_with (first | ((with_reducible refine gate_callee (f := 15) rfl ?_);refine goesL_ (some 12) rfl rfl Try.func15 Z569 rfl #[.agg #[.bool a0_0,.int .u64 a0_1,.int .u64 a0_2,.int .i64 a0_3]] rfl Z375 ?_;(with_reducible refine (impl_FracOk.calls a0_0 a0_1 a0_2 a0_3 false _ A8.out).mono ?_);rintro e w24 ⟨rfl,hb⟩;refine ⟨_,rfl,?_⟩;have n_ := jA (blk_below (g := gb318) (o := .cells #[.bool a0_0,.int .u64 a0_1,.int .u64 a0_2,.int .i64 a0_3] 30 (0,0)) Z500 hb) (jA (blk_below (g := gb319) (o := .cells #[.bool a1_0,.int .u64 a1_1,.int .u64 a1_2,.int .i64 a1_3] 30 (0,0)) Z503 hb) (jA (blk_below (g := gb320) (o := .cells #[.bool false,.int .u64 0,.int .u64 0] 28 (0,0)) Z507 hb) (jA (blk_below (g := gb321) (o := .cells #[.bool false,.int .u64 0,.int .u64 0] 28 (0,0)) Z510 hb) (Aside0.mk (below_step Z413 hb)))));clear BK318 BK319 BK320 BK321 HB;obtain ⟨BK318,BK319,BK320,BK321,HB⟩ := n_;(try clear hb);(try clear hb2);(try clear hk);(try clear hi)))
      go_meet
      case rel => exact ⟨_,(true),Z565,H',⟨Z567⟩,⟨Z500⟩,⟨Z503⟩,⟨Z507⟩,⟨Z510⟩,⟨Z413⟩⟩
  case rest =>
    clear HC3
    try clear c1
    try clear c2
    try clear p2
    try clear c4
    try clear c9
    try clear c11
    try clear c12
    try clear c13
    try clear c15
    try clear c16
    try clear c17
    try clear c20
    try clear c21
    try clear c22
    try clear hcz14_0
    try clear hcz14_1
    try clear hcz14_2
    try clear hcz14_3
    try clear hcz18_0
    try clear hcz18_1
    try clear hcz18_2
    try clear hcz18_3
    try clear hcz23_0
    try clear hcz23_1
    try clear hcz23_2
    try clear hcz23_3
    try clear hfz14_0
    try clear hfz14_1
    try clear hfz14_2
    try clear hfz14_3
    try clear hfz18_0
    try clear hfz18_1
    try clear hfz18_2
    try clear hfz18_3
    try clear hfz23_0
    try clear hfz23_1
    try clear hfz23_2
    try clear hfz23_3
    obtain ⟨kq,x18_2,rfl,HA,HJ2,BK318,BK319,BK320,BK321,HB⟩ := hcut
    cases kq with
    | zero => exact absurd HA.out (by simp [impl_crossed.j0])
    | succ kj2 =>
      have H := HA.out
      clear HA
      simp only [impl_crossed.j0] at H
      by_cases c25 : x18_2 = true
      · subst c25
        have H1 : (some (false,0,0,false,0,0,false)) = some (r1,r2,r3,r4,r5,r6,r7) := by rw [if_pos rfl] at H;exact H
        clear H
        have H := H1
        clear H1
        simp only [Option.some.injEq,Prod.mk.injEq] at H
        obtain ⟨rfl,rfl,rfl,rfl,rfl,rfl,rfl⟩ := H
        have hnb26 := NB320_318.out
        have hnc26 := NB318_320.out
        have hnb27 := NB320_319.out
        have hnc27 := NB319_320.out
        have hnb28 := NB320_321.out
        have hnc28 := NB321_320.out
        obtain ⟨hcz29_0,hcz29_1,hcz29_2,hfz29_0,hfz29_1,hfz29_2⟩ := impl_crossed.cells3 BK320.out
        have hnb30 := NB321_318.out
        have hnc30 := NB318_321.out
        have hnb31 := NB321_319.out
        have hnc31 := NB319_321.out
        obtain ⟨hcz32_0,hcz32_1,hcz32_2,hfz32_0,hfz32_1,hfz32_2⟩ := impl_crossed.cells3 BK321.out
        go_wp2
        refine bodyPost_ret (results_list (rs := [.cell 4 28,.cell 5 28,.tmp 6]) rfl (by simp) (.cell gb320 28 #[.bool false,.int .u64 0,.int .u64 0] (0,0) _ rfl (by (with_reducible repeat (first | refine bA ?_ _ | refine bB ?_ | refine bC ?_ _));refine blk_far ?_ NB320_321.out _;(with_reducible repeat (first | refine bA ?_ _ | refine bB ?_ | refine bC ?_ _));refine blk_far ?_ NB320_321.out _;(with_reducible repeat (first | refine bA ?_ _ | refine bB ?_ | refine bC ?_ _));refine blk_far ?_ NB320_321.out _;(with_reducible repeat (first | refine bA ?_ _ | refine bB ?_ | refine bC ?_ _));refine blk_put (cs := #[.bool false,.int .u64 0,.int .u64 0]) ?_ 2 _ rfl;(with_reducible repeat (first | refine bA ?_ _ | refine bB ?_ | refine bC ?_ _));refine blk_put (cs := #[.bool false,.int .u64 0,.int .u64 0]) ?_ 1 _ rfl;(with_reducible repeat (first | refine bA ?_ _ | refine bB ?_ | refine bC ?_ _));refine blk_put (cs := #[.bool false,.int .u64 0,.int .u64 0]) ?_ 0 _ rfl;(with_reducible repeat (first | refine bA ?_ _ | refine bB ?_ | refine bC ?_ _));exact BK320.out) Try.underlying28 rfl Z569 (.cell gb321 28 #[.bool false,.int .u64 0,.int .u64 0] (0,0) _ rfl (by (with_reducible repeat (first | refine bA ?_ _ | refine bB ?_ | refine bC ?_ _));refine blk_put (cs := #[.bool false,.int .u64 0,.int .u64 0]) ?_ 2 _ rfl;(with_reducible repeat (first | refine bA ?_ _ | refine bB ?_ | refine bC ?_ _));refine blk_put (cs := #[.bool false,.int .u64 0,.int .u64 0]) ?_ 1 _ rfl;(with_reducible repeat (first | refine bA ?_ _ | refine bB ?_ | refine bC ?_ _));refine blk_put (cs := #[.bool false,.int .u64 0,.int .u64 0]) ?_ 0 _ rfl;(with_reducible repeat (first | refine bA ?_ _ | refine bB ?_ | refine bC ?_ _));refine blk_far ?_ NB321_320.out _;(with_reducible repeat (first | refine bA ?_ _ | refine bB ?_ | refine bC ?_ _));refine blk_far ?_ NB321_320.out _;(with_reducible repeat (first | refine bA ?_ _ | refine bB ?_ | refine bC ?_ _));refine blk_far ?_ NB321_320.out _;(with_reducible repeat (first | refine bA ?_ _ | refine bB ?_ | refine bC ?_ _));exact BK321.out) Try.underlying28 rfl Z569 (.tmp .nil)))) rfl ?_
        exact ⟨Z558,Z413⟩
      · replace c25 := Bool.eq_false_iff.mpr c25
        subst c25
        have H1 : ((impl_ScaleWide.f a0_0 a0_1 a0_2 a1_3).bind fun bt324 => ((impl_ScaleWide.f a1_0 a1_1 a1_2 a0_3).bind fun bt329 => (if bt324.2.2.2 = true then (some (bt324.1,bt324.2.1,bt324.2.2.1,bt329.1,bt329.2.1,bt329.2.2.1,bt329.2.2.2)) else (some (bt324.1,bt324.2.1,bt324.2.2.1,bt329.1,bt329.2.1,bt329.2.2.1,false))))) = some (r1,r2,r3,r4,r5,r6,r7) := by rw [if_neg (show ¬ (false = true) by decide)] at H;exact H
        clear H
        have H := H1
        clear H1
        obtain ⟨⟨t324,t325,t326,t327⟩,A330,H⟩ := Option.bind_eq_some_iff.mp H
        try dsimp only at H
        have A33 := Aside0.mk A330
        clear A330
        obtain ⟨⟨t329,t330,t331,t332⟩,A340,H⟩ := Option.bind_eq_some_iff.mp H
        try dsimp only at H
        have A34 := Aside0.mk A340
        clear A340
        by_cases c35 : t327 = true
        · subst c35
          have H1 : (some (t324,t325,t326,t329,t330,t331,t332)) = some (r1,r2,r3,r4,r5,r6,r7) := by rw [if_pos rfl] at H;exact H
          clear H
          have H := H1
          clear H1
          simp only [Option.some.injEq,Prod.mk.injEq] at H
          obtain ⟨rfl,rfl,rfl,rfl,rfl,rfl,rfl⟩ := H
          have hnb36 := NB318_319.out
          have hnc36 := NB319_318.out
          have hnb37 := NB318_320.out
          have hnc37 := NB320_318.out
          have hnb38 := NB318_321.out
          have hnc38 := NB321_318.out
          obtain ⟨hcz39_0,hcz39_1,hcz39_2,hcz39_3,hfz39_0,hfz39_1,hfz39_2,hfz39_3⟩ := impl_crossed.cells4 BK318.out
          have hnb40 := NB319_320.out
          have hnc40 := NB320_319.out
          have hnb41 := NB319_321.out
          have hnc41 := NB321_319.out
          obtain ⟨hcz42_0,hcz42_1,hcz42_2,hcz42_3,hfz42_0,hfz42_1,hfz42_2,hfz42_3⟩ := impl_crossed.cells4 BK319.out
          try go_wp2_with (first | ((with_reducible refine gate_callee (f := 68) rfl ?_);refine goesL_ (some 26) rfl rfl Try.func68 Z569 rfl #[.agg #[.bool a0_0,.int .u64 a0_1,.int .u64 a0_2],.int .i64 a1_3] rfl Z375 ?_;(with_reducible refine (impl_ScaleWide.calls a0_0 a0_1 a0_2 a1_3 t324 t325 t326 true _ A33.out).mono ?_);rintro e w43 ⟨rfl,hb⟩;refine ⟨_,rfl,?_⟩;have n_ := jA (blk_below (g := gb318) (o := .cells #[.bool a0_0,.int .u64 a0_1,.int .u64 a0_2,.int .i64 a0_3] 30 (0,0)) Z500 hb) (jA (blk_below (g := gb319) (o := .cells #[.bool a1_0,.int .u64 a1_1,.int .u64 a1_2,.int .i64 a1_3] 30 (0,0)) Z503 hb) (jA (blk_below (g := gb320) (o := .cells #[.bool false,.int .u64 0,.int .u64 0] 28 (0,0)) Z507 hb) (jA (blk_below (g := gb321) (o := .cells #[.bool false,.int .u64 0,.int .u64 0] 28 (0,0)) Z510 hb) (Aside0.mk (below_step Z413 hb)))));clear BK318 BK319 BK320 BK321 HB;obtain ⟨BK318,BK319,BK320,BK321,HB⟩ := n_;(try clear hb);(try clear hb2);(try clear hk);(try clear hi)) | ((with_reducible refine gate_dst (N := 7) rfl ?_);refine box_event ?hg (N := 7) ?hd (cs := #[.bool false,.int .u64 0,.int .u64 0]) (t := 28) ?hr ?_;(case hd => rfl);(case hg => rfl);(case hr => exact Z566);intro gb328 hg w44 hbox hb;have n_ := jA (blk_below (g := gb318) (o := .cells #[.bool a0_0,.int .u64 a0_1,.int .u64 a0_2,.int .i64 a0_3] 30 (0,0)) Z500 hb) (jA (blk_below (g := gb319) (o := .cells #[.bool a1_0,.int .u64 a1_1,.int .u64 a1_2,.int .i64 a1_3] 30 (0,0)) Z503 hb) (jA (blk_below (g := gb320) (o := .cells #[.bool false,.int .u64 0,.int .u64 0] 28 (0,0)) Z507 hb) (jA (blk_below (g := gb321) (o := .cells #[.bool false,.int .u64 0,.int .u64 0] 28 (0,0)) Z510 hb) (jA (below_step Z413 hb) (jA (hbox) (jA ((Z148 : w.heap.size ≤ gb328)) (jA ((Z148 : w.heap.size ≤ gb328)) (jA ((Z198 : gb318 ≠ gb328)) (jA ((Z200 : gb328 ≠ gb318)) (jA ((Z203 : gb319 ≠ gb328)) (jA ((Z207 : gb328 ≠ gb319)) (jA ((Z289 : gb320 ≠ gb328)) (jA ((Z291 : gb328 ≠ gb320)) (jA ((Z293 : gb321 ≠ gb328)) (Aside0.mk ((Z297 : gb328 ≠ gb321)))))))))))))))));clear BK318 BK319 BK320 BK321 HB;obtain ⟨BK318,BK319,BK320,BK321,HB,BK328,GW328,GE328,NB318_328,NB328_318,NB319_328,NB328_319,NB320_328,NB328_320,NB321_328,NB328_321⟩ := n_;clear hb hbox hg;have hnb45 := NB328_318.out;have hnc45 := NB318_328.out;have hnb46 := NB328_319.out;have hnc46 := NB319_328.out;have hnb47 := NB328_320.out;have hnc47 := NB320_328.out;have hnb48 := NB328_321.out;have hnc48 := NB321_328.out;obtain ⟨hcz49_0,hcz49_1,hcz49_2,hfz49_0,hfz49_1,hfz49_2⟩ := impl_crossed.cells3 BK328.out;obtain ⟨hcz50_0,hcz50_1,hcz50_2,hcz50_3,hfz50_0,hfz50_1,hfz50_2,hfz50_3⟩ := impl_crossed.cells4 BK319.out;obtain ⟨hcz51_0,hcz51_1,hcz51_2,hcz51_3,hfz51_0,hfz51_1,hfz51_2,hfz51_3⟩ := impl_crossed.cells4 BK318.out) | ((with_reducible refine gate_callee (f := 68) rfl ?_);refine goesL_ (some 34) rfl rfl Try.func68 Z569 rfl #[.agg #[.bool a1_0,.int .u64 a1_1,.int .u64 a1_2],.int .i64 a0_3] rfl Z375 ?_;(with_reducible refine (impl_ScaleWide.calls a1_0 a1_1 a1_2 a0_3 t329 t330 t331 t332 _ A34.out).mono ?_);rintro e w52 ⟨rfl,hb⟩;refine ⟨_,rfl,?_⟩;have n_ := jA (blk_below (g := gb318) (o := .cells #[.bool a0_0,.int .u64 a0_1,.int .u64 a0_2,.int .i64 a0_3] 30 (0,0)) Z100 hb) (jA (blk_below (g := gb319) (o := .cells #[.bool a1_0,.int .u64 a1_1,.int .u64 a1_2,.int .i64 a1_3] 30 (0,0)) Z99 hb) (jA (blk_below (g := gb320) (o := .cells #[.bool false,.int .u64 0,.int .u64 0] 28 (0,0)) Z98 hb) (jA (blk_below (g := gb321) (o := .cells #[.bool false,.int .u64 0,.int .u64 0] 28 (0,0)) Z97 hb) (jA (blk_below (g := gb328) (o := .cells #[.bool t324,.int .u64 t325,.int .u64 t326] 28 (0,0)) Z50 hb) (Aside0.mk (below_step Z411 hb))))));clear BK318 BK319 BK320 BK321 BK328 HB;obtain ⟨BK318,BK319,BK320,BK321,BK328,HB⟩ := n_;(try clear hb);(try clear hb2);(try clear hk);(try clear hi)) | ((with_reducible refine gate_dst (N := 9) rfl ?_);refine box_event ?hg (N := 9) ?hd (cs := #[.bool false,.int .u64 0,.int .u64 0]) (t := 28) ?hr ?_;(case hd => rfl);(case hg => rfl);(case hr => exact Z566);intro gb333 hg w53 hbox hb;have n_ := jA (blk_below (g := gb318) (o := .cells #[.bool a0_0,.int .u64 a0_1,.int .u64 a0_2,.int .i64 a0_3] 30 (0,0)) Z500 hb) (jA (blk_below (g := gb319) (o := .cells #[.bool a1_0,.int .u64 a1_1,.int .u64 a1_2,.int .i64 a1_3] 30 (0,0)) Z503 hb) (jA (blk_below (g := gb320) (o := .cells #[.bool false,.int .u64 0,.int .u64 0] 28 (0,0)) Z507 hb) (jA (blk_below (g := gb321) (o := .cells #[.bool false,.int .u64 0,.int .u64 0] 28 (0,0)) Z510 hb) (jA (blk_below (g := gb328) (o := .cells #[.bool t324,.int .u64 t325,.int .u64 t326] 28 (0,0)) Z541 hb) (jA (below_step Z411 hb) (jA (hbox) (jA ((Z140 : w.heap.size ≤ gb333)) (jA ((Z140 : w.heap.size ≤ gb333)) (jA ((Z198 : gb318 ≠ gb333)) (jA ((Z200 : gb333 ≠ gb318)) (jA ((Z203 : gb319 ≠ gb333)) (jA ((Z207 : gb333 ≠ gb319)) (jA ((Z289 : gb320 ≠ gb333)) (jA ((Z291 : gb333 ≠ gb320)) (jA ((Z293 : gb321 ≠ gb333)) (jA ((Z297 : gb333 ≠ gb321)) (jA ((Z279 : gb328 ≠ gb333)) (Aside0.mk ((Z283 : gb333 ≠ gb328))))))))))))))))))));clear BK318 BK319 BK320 BK321 BK328 HB;obtain ⟨BK318,BK319,BK320,BK321,BK328,HB,BK333,GW333,GE333,NB318_333,NB333_318,NB319_333,NB333_319,NB320_333,NB333_320,NB321_333,NB333_321,NB328_333,NB333_328⟩ := n_;clear hb hbox hg;have hnb54 := NB333_318.out;have hnc54 := NB318_333.out;have hnb55 := NB333_319.out;have hnc55 := NB319_333.out;have hnb56 := NB333_320.out;have hnc56 := NB320_333.out;have hnb57 := NB333_321.out;have hnc57 := NB321_333.out;have hnb58 := NB333_328.out;have hnc58 := NB328_333.out;obtain ⟨hcz59_0,hcz59_1,hcz59_2,hfz59_0,hfz59_1,hfz59_2⟩ := impl_crossed.cells3 BK333.out))
          have n0_ : Aside0 ((((w53.setCell ⟨gb333,0,none⟩ (.bool t329)).setCell ⟨gb333,1,none⟩ (.int .u64 t330)).setCell ⟨gb333,2,none⟩ (.int .u64 t331)).heap[gb318]? = some (.cells #[.bool a0_0,.int .u64 a0_1,.int .u64 a0_2,.int .i64 a0_3] 30 (0,0))) := ⟨Z119⟩
          have n1_ : Aside0 ((((w53.setCell ⟨gb333,0,none⟩ (.bool t329)).setCell ⟨gb333,1,none⟩ (.int .u64 t330)).setCell ⟨gb333,2,none⟩ (.int .u64 t331)).heap[gb319]? = some (.cells #[.bool a1_0,.int .u64 a1_1,.int .u64 a1_2,.int .i64 a1_3] 30 (0,0))) := ⟨Z118⟩
          have n2_ : Aside0 ((((w53.setCell ⟨gb333,0,none⟩ (.bool t329)).setCell ⟨gb333,1,none⟩ (.int .u64 t330)).setCell ⟨gb333,2,none⟩ (.int .u64 t331)).heap[gb320]? = some (.cells #[.bool false,.int .u64 0,.int .u64 0] 28 (0,0))) := ⟨Z117⟩
          have n3_ : Aside0 ((((w53.setCell ⟨gb333,0,none⟩ (.bool t329)).setCell ⟨gb333,1,none⟩ (.int .u64 t330)).setCell ⟨gb333,2,none⟩ (.int .u64 t331)).heap[gb321]? = some (.cells #[.bool false,.int .u64 0,.int .u64 0] 28 (0,0))) := ⟨Z116⟩
          have n4_ : Aside0 ((((w53.setCell ⟨gb333,0,none⟩ (.bool t329)).setCell ⟨gb333,1,none⟩ (.int .u64 t330)).setCell ⟨gb333,2,none⟩ (.int .u64 t331)).heap[gb328]? = some (.cells #[.bool t324,.int .u64 t325,.int .u64 t326] 28 (0,0))) := ⟨Z115⟩
          have n5_ : Aside0 ((((w53.setCell ⟨gb333,0,none⟩ (.bool t329)).setCell ⟨gb333,1,none⟩ (.int .u64 t330)).setCell ⟨gb333,2,none⟩ (.int .u64 t331)).heap[gb333]? = some (.cells #[.bool t329,.int .u64 t330,.int .u64 t331] 28 (0,0))) := ⟨Z53⟩
          have n6_ : Aside0 (Below w.heap.size w (((w53.setCell ⟨gb333,0,none⟩ (.bool t329)).setCell ⟨gb333,1,none⟩ (.int .u64 t330)).setCell ⟨gb333,2,none⟩ (.int .u64 t331))) := ⟨Z142⟩
          (try clear BK318)
          (try clear BK319)
          (try clear BK320)
          (try clear BK321)
          (try clear BK328)
          (try clear BK333)
          (try clear HB)
          generalize (((w53.setCell ⟨gb333,0,none⟩ (.bool t329)).setCell ⟨gb333,1,none⟩ (.int .u64 t330)).setCell ⟨gb333,2,none⟩ (.int .u64 t331)) = w60 at n0_ n1_ n2_ n3_ n4_ n5_ n6_ ⊢
          have BK318 := n0_
          have BK319 := n1_
          have BK320 := n2_
          have BK321 := n3_
          have BK328 := n4_
          have BK333 := n5_
          have HB := n6_
          clear n0_ n1_ n2_ n3_ n4_ n5_ n6_
          have n0_ := Aside0.mk (blk_drew BK318.out)
          have n1_ := Aside0.mk (blk_drew BK319.out)
          have n2_ := Aside0.mk (blk_drew BK320.out)
          have n3_ := Aside0.mk (blk_drew BK321.out)
          have n4_ := Aside0.mk (blk_drew BK328.out)
          have n5_ := Aside0.mk (blk_drew BK333.out)
          have n6_ := Aside0.mk (below_drew1 HB.out)
          clear BK318
          clear BK319
          clear BK320
          clear BK321
          clear BK328
          clear BK333
          clear HB
          have BK318 := n0_
          have BK319 := n1_
          have BK320 := n2_
          have BK321 := n3_
          have BK328 := n4_
          have BK333 := n5_
          have HB := n6_
          clear n0_ n1_ n2_ n3_ n4_ n5_ n6_
          refine start_ (n := 9) (S := fun w' => w'.cell? ⟨gb328,0,none⟩ = some (.bool t324) ∧ w'.cell? ⟨gb328,1,none⟩ = some (.int .u64 t325) ∧ w'.cell? ⟨gb328,2,none⟩ = some (.int .u64 t326) ∧ w'.cell? ⟨gb333,0,none⟩ = some (.bool t329) ∧ w'.cell? ⟨gb333,1,none⟩ = some (.int .u64 t330) ∧ w'.cell? ⟨gb333,2,none⟩ = some (.int .u64 t331)) (ds := []) #[false,false,false,false,false,false,false,false,false] Z569 rfl rfl ⟨(blk_cell BK328.out 0).trans rfl,(blk_cell BK328.out 1).trans rfl,(blk_cell BK328.out 2).trans rfl,(blk_cell BK333.out 0).trans rfl,(blk_cell BK333.out 1).trans rfl,(blk_cell BK333.out 2).trans rfl⟩ (fun hHeld => ?_);refine with_tabW impl_crossed.tab5 impl_crossed.bits5 (fun HT_ HW_ => ?_)
          generalize w60.drew = w61 at BK318 BK319 BK320 BK321 BK328 BK333 HB hHeld ⊢
          refine pure_ (i := 2) (N := some 39) (v := ?_) (a' := ?_) #[false,false,true,false,false,false,false,false,false] rfl rfl (any_of HT_.out Z569) (fun _ _ _ h => h) (Or.inl ⟨Z571,?_⟩) ?_ ?_
          rotate_left
          · intro w'
            go_simp
            with_reducible rfl
          rotate_left
          · simp only [Act.put,List.setIfInBounds_toArray,List.set_cons_zero,List.set_cons_succ,i64_w,i32_w]
            rfl
          refine pure_ (i := 3) (N := some 40) (v := ?_) (a' := ?_) #[false,false,true,true,false,false,false,false,false] rfl rfl (any_of HT_.out Z569) (fun _ _ _ h => h) (Or.inl ⟨Z571,?_⟩) ?_ ?_
          rotate_left
          · intro w'
            go_simp
            with_reducible rfl
          rotate_left
          · simp only [Act.put,List.setIfInBounds_toArray,List.set_cons_zero,List.set_cons_succ,i64_w,i32_w]
            rfl
          refine pure_ (i := 4) (N := some 41) (v := ?_) (a' := ?_) #[false,false,true,true,true,false,false,false,false] rfl rfl (any_of HT_.out Z569) (fun _ _ _ h => h) (Or.inl ⟨Z571,?_⟩) ?_ ?_
          rotate_left
          · intro w'
            go_simp
            with_reducible rfl
          rotate_left
          · simp only [Act.put,List.setIfInBounds_toArray,List.set_cons_zero,List.set_cons_succ,i64_w,i32_w]
            rfl
          refine pure_ (i := 5) (N := some 42) (v := ?_) (a' := ?_) #[false,false,true,true,true,true,false,false,false] rfl rfl (any_of HT_.out Z569) (fun _ _ _ h => h) (Or.inl ⟨Z571,?_⟩) ?_ ?_
          rotate_left
          · intro w'
            go_simp
            with_reducible rfl
          rotate_left
          · simp only [Act.put,List.setIfInBounds_toArray,List.set_cons_zero,List.set_cons_succ,i64_w,i32_w]
            rfl
          refine take_ (i := 0) (N := some 37) (v := ?_) (a' := ?_) #[true,false,true,true,true,true,false,false,false] rfl rfl (take_ofW HT_.out HW_.out Z569) (fun _ _ _ h => h) (Or.inl ⟨Z571,?_⟩) hHeld ?_ ?_
          rotate_left
          · rintro w' ⟨s0,s1,s2,s3,s4,s5⟩
            go_simp
            with_reducible rfl
          rotate_left
          · simp only [Act.put,List.setIfInBounds_toArray,List.set_cons_zero,List.set_cons_succ,i64_w,i32_w]
            rfl
          refine take_ (i := 1) (N := some 38) (v := ?_) (a' := ?_) #[true,true,true,true,true,true,false,false,false] rfl rfl (take_ofW HT_.out HW_.out Z569) (fun _ _ _ h => h) (Or.inl ⟨Z571,?_⟩) hHeld ?_ ?_
          rotate_left
          · rintro w' ⟨s0,s1,s2,s3,s4,s5⟩
            go_simp
            with_reducible rfl
          rotate_left
          · simp only [Act.put,List.setIfInBounds_toArray,List.set_cons_zero,List.set_cons_succ,i64_w,i32_w]
            rfl
          refine one_ (i := 6) (N := none) #[true,true,true,true,true,true,true,false,false] rfl rfl (one_of HT_.out Z569) Z570 (fun K hK => ?_)
          have hs62 : w61.cell? ⟨gb320,0,none⟩ = some (.bool false) := (blk_cell BK320.out 0).trans rfl
          have hfs62 := blk_frozen BK320.out 0
          have hns62_0 := NB318_320.out
          have hns62_1 := NB319_320.out
          have hns62_3 := NB321_320.out
          have hns62_4 := NB328_320.out
          have hns62_5 := NB333_320.out
          have hms62_0 := NB320_318.out
          have hms62_1 := NB320_319.out
          have hms62_3 := NB320_321.out
          have hms62_4 := NB320_328.out
          have hms62_5 := NB320_333.out
          have hs63 : w61.cell? ⟨gb320,1,none⟩ = some (.int .u64 0) := (blk_cell BK320.out 1).trans rfl
          have hfs63 := blk_frozen BK320.out 1
          have hns63_0 := NB318_320.out
          have hns63_1 := NB319_320.out
          have hns63_3 := NB321_320.out
          have hns63_4 := NB328_320.out
          have hns63_5 := NB333_320.out
          have hms63_0 := NB320_318.out
          have hms63_1 := NB320_319.out
          have hms63_3 := NB320_321.out
          have hms63_4 := NB320_328.out
          have hms63_5 := NB320_333.out
          have hs64 : w61.cell? ⟨gb320,2,none⟩ = some (.int .u64 0) := (blk_cell BK320.out 2).trans rfl
          have hfs64 := blk_frozen BK320.out 2
          have hns64_0 := NB318_320.out
          have hns64_1 := NB319_320.out
          have hns64_3 := NB321_320.out
          have hns64_4 := NB328_320.out
          have hns64_5 := NB333_320.out
          have hms64_0 := NB320_318.out
          have hms64_1 := NB320_319.out
          have hms64_3 := NB320_321.out
          have hms64_4 := NB320_328.out
          have hms64_5 := NB320_333.out
          refine skip_ (w1 := ?_) Z571 rfl ?_ ?_
          rotate_left
          · go_simp
            rfl
          refine hK.out _ _ ⟨((cell_far (p := ⟨gb320,_,none⟩) NB328_320.out _).trans (((cell_far (p := ⟨gb320,_,none⟩) NB328_320.out _).trans (((cell_far (p := ⟨gb320,_,none⟩) NB328_320.out _).trans (hHeld.1)))))),((cell_far (p := ⟨gb320,_,none⟩) NB328_320.out _).trans (((cell_far (p := ⟨gb320,_,none⟩) NB328_320.out _).trans (((cell_far (p := ⟨gb320,_,none⟩) NB328_320.out _).trans (hHeld.2.1)))))),((cell_far (p := ⟨gb320,_,none⟩) NB328_320.out _).trans (((cell_far (p := ⟨gb320,_,none⟩) NB328_320.out _).trans (((cell_far (p := ⟨gb320,_,none⟩) NB328_320.out _).trans (hHeld.2.2.1)))))),((cell_far (p := ⟨gb320,_,none⟩) NB333_320.out _).trans (((cell_far (p := ⟨gb320,_,none⟩) NB333_320.out _).trans (((cell_far (p := ⟨gb320,_,none⟩) NB333_320.out _).trans (hHeld.2.2.2.1)))))),((cell_far (p := ⟨gb320,_,none⟩) NB333_320.out _).trans (((cell_far (p := ⟨gb320,_,none⟩) NB333_320.out _).trans (((cell_far (p := ⟨gb320,_,none⟩) NB333_320.out _).trans (hHeld.2.2.2.2.1)))))),((cell_far (p := ⟨gb320,_,none⟩) NB333_320.out _).trans (((cell_far (p := ⟨gb320,_,none⟩) NB333_320.out _).trans (((cell_far (p := ⟨gb320,_,none⟩) NB333_320.out _).trans (hHeld.2.2.2.2.2))))))⟩ (fun hHeld => ?_)
          clear hK K
          refine one_ (i := 7) (N := none) #[true,true,true,true,true,true,true,true,false] rfl rfl (one_of HT_.out Z569) Z570 (fun K hK => ?_)
          have hs65 : w61.cell? ⟨gb321,0,none⟩ = some (.bool false) := (blk_cell BK321.out 0).trans rfl
          have hfs65 := blk_frozen BK321.out 0
          have hns65_0 := NB318_321.out
          have hns65_1 := NB319_321.out
          have hns65_2 := NB320_321.out
          have hns65_4 := NB328_321.out
          have hns65_5 := NB333_321.out
          have hms65_0 := NB321_318.out
          have hms65_1 := NB321_319.out
          have hms65_2 := NB321_320.out
          have hms65_4 := NB321_328.out
          have hms65_5 := NB321_333.out
          have hs66 : w61.cell? ⟨gb321,1,none⟩ = some (.int .u64 0) := (blk_cell BK321.out 1).trans rfl
          have hfs66 := blk_frozen BK321.out 1
          have hns66_0 := NB318_321.out
          have hns66_1 := NB319_321.out
          have hns66_2 := NB320_321.out
          have hns66_4 := NB328_321.out
          have hns66_5 := NB333_321.out
          have hms66_0 := NB321_318.out
          have hms66_1 := NB321_319.out
          have hms66_2 := NB321_320.out
          have hms66_4 := NB321_328.out
          have hms66_5 := NB321_333.out
          have hs67 : w61.cell? ⟨gb321,2,none⟩ = some (.int .u64 0) := (blk_cell BK321.out 2).trans rfl
          have hfs67 := blk_frozen BK321.out 2
          have hns67_0 := NB318_321.out
          have hns67_1 := NB319_321.out
          have hns67_2 := NB320_321.out
          have hns67_4 := NB328_321.out
          have hns67_5 := NB333_321.out
          have hms67_0 := NB321_318.out
          have hms67_1 := NB321_319.out
          have hms67_2 := NB321_320.out
          have hms67_4 := NB321_328.out
          have hms67_5 := NB321_333.out
          refine skip_ (w1 := ?_) Z571 rfl ?_ ?_
          rotate_left
          · go_simp
            rfl
          refine hK.out _ _ ⟨((cell_far (p := ⟨gb321,_,none⟩) NB328_321.out _).trans (((cell_far (p := ⟨gb321,_,none⟩) NB328_321.out _).trans (((cell_far (p := ⟨gb321,_,none⟩) NB328_321.out _).trans (hHeld.1)))))),((cell_far (p := ⟨gb321,_,none⟩) NB328_321.out _).trans (((cell_far (p := ⟨gb321,_,none⟩) NB328_321.out _).trans (((cell_far (p := ⟨gb321,_,none⟩) NB328_321.out _).trans (hHeld.2.1)))))),((cell_far (p := ⟨gb321,_,none⟩) NB328_321.out _).trans (((cell_far (p := ⟨gb321,_,none⟩) NB328_321.out _).trans (((cell_far (p := ⟨gb321,_,none⟩) NB328_321.out _).trans (hHeld.2.2.1)))))),((cell_far (p := ⟨gb321,_,none⟩) NB333_321.out _).trans (((cell_far (p := ⟨gb321,_,none⟩) NB333_321.out _).trans (((cell_far (p := ⟨gb321,_,none⟩) NB333_321.out _).trans (hHeld.2.2.2.1)))))),((cell_far (p := ⟨gb321,_,none⟩) NB333_321.out _).trans (((cell_far (p := ⟨gb321,_,none⟩) NB333_321.out _).trans (((cell_far (p := ⟨gb321,_,none⟩) NB333_321.out _).trans (hHeld.2.2.2.2.1)))))),((cell_far (p := ⟨gb321,_,none⟩) NB333_321.out _).trans (((cell_far (p := ⟨gb321,_,none⟩) NB333_321.out _).trans (((cell_far (p := ⟨gb321,_,none⟩) NB333_321.out _).trans (hHeld.2.2.2.2.2))))))⟩ (fun hHeld => ?_)
          clear hK K
          refine pure_ (i := 8) (N := some 6) (v := ?_) (a' := ?_) #[true,true,true,true,true,true,true,true,true] rfl rfl (any_of HT_.out Z569) (fun _ _ _ h => h) (Or.inl ⟨Z571,?_⟩) ?_ ?_
          rotate_left
          · intro w'
            go_simp
            with_reducible rfl
          rotate_left
          · simp only [Act.put,List.setIfInBounds_toArray,List.set_cons_zero,List.set_cons_succ,i64_w,i32_w]
            rfl
          refine done_ (done_of HT_.out Z569) ?_
          try go_wp2
          refine bodyPost_ret (results_list (rs := [.cell 4 28,.cell 5 28,.tmp 6]) rfl (by simp) (.cell gb320 28 #[.bool t324,.int .u64 t325,.int .u64 t326] (0,0) _ rfl Z10 Try.underlying28 rfl Z569 (.cell gb321 28 #[.bool t329,.int .u64 t330,.int .u64 t331] (0,0) _ rfl Z7 Try.underlying28 rfl Z569 (.tmp .nil)))) rfl ?_
          exact ⟨Z558,Z142⟩
        · replace c35 := Bool.eq_false_iff.mpr c35
          subst c35
          have H1 : (some (t324,t325,t326,t329,t330,t331,false)) = some (r1,r2,r3,r4,r5,r6,r7) := by rw [if_neg (show ¬ (false = true) by decide)] at H;exact H
          clear H
          have H := H1
          clear H1
          simp only [Option.some.injEq,Prod.mk.injEq] at H
          obtain ⟨rfl,rfl,rfl,rfl,rfl,rfl,rfl⟩ := H
          have hnb68 := NB318_319.out
          have hnc68 := NB319_318.out
          have hnb69 := NB318_320.out
          have hnc69 := NB320_318.out
          have hnb70 := NB318_321.out
          have hnc70 := NB321_318.out
          obtain ⟨hcz71_0,hcz71_1,hcz71_2,hcz71_3,hfz71_0,hfz71_1,hfz71_2,hfz71_3⟩ := impl_crossed.cells4 BK318.out
          have hnb72 := NB319_320.out
          have hnc72 := NB320_319.out
          have hnb73 := NB319_321.out
          have hnc73 := NB321_319.out
          obtain ⟨hcz74_0,hcz74_1,hcz74_2,hcz74_3,hfz74_0,hfz74_1,hfz74_2,hfz74_3⟩ := impl_crossed.cells4 BK319.out
          try go_wp2_with (first | ((with_reducible refine gate_callee (f := 68) rfl ?_);refine goesL_ (some 26) rfl rfl Try.func68 Z569 rfl #[.agg #[.bool a0_0,.int .u64 a0_1,.int .u64 a0_2],.int .i64 a1_3] rfl Z375 ?_;(with_reducible refine (impl_ScaleWide.calls a0_0 a0_1 a0_2 a1_3 t324 t325 t326 false _ A33.out).mono ?_);rintro e w75 ⟨rfl,hb⟩;refine ⟨_,rfl,?_⟩;have n_ := jA (blk_below (g := gb318) (o := .cells #[.bool a0_0,.int .u64 a0_1,.int .u64 a0_2,.int .i64 a0_3] 30 (0,0)) Z500 hb) (jA (blk_below (g := gb319) (o := .cells #[.bool a1_0,.int .u64 a1_1,.int .u64 a1_2,.int .i64 a1_3] 30 (0,0)) Z503 hb) (jA (blk_below (g := gb320) (o := .cells #[.bool false,.int .u64 0,.int .u64 0] 28 (0,0)) Z507 hb) (jA (blk_below (g := gb321) (o := .cells #[.bool false,.int .u64 0,.int .u64 0] 28 (0,0)) Z510 hb) (Aside0.mk (below_step Z413 hb)))));clear BK318 BK319 BK320 BK321 HB;obtain ⟨BK318,BK319,BK320,BK321,HB⟩ := n_;(try clear hb);(try clear hb2);(try clear hk);(try clear hi)) | ((with_reducible refine gate_dst (N := 7) rfl ?_);refine box_event ?hg (N := 7) ?hd (cs := #[.bool false,.int .u64 0,.int .u64 0]) (t := 28) ?hr ?_;(case hd => rfl);(case hg => rfl);(case hr => exact Z566);intro gb328 hg w76 hbox hb;have n_ := jA (blk_below (g := gb318) (o := .cells #[.bool a0_0,.int .u64 a0_1,.int .u64 a0_2,.int .i64 a0_3] 30 (0,0)) Z500 hb) (jA (blk_below (g := gb319) (o := .cells #[.bool a1_0,.int .u64 a1_1,.int .u64 a1_2,.int .i64 a1_3] 30 (0,0)) Z503 hb) (jA (blk_below (g := gb320) (o := .cells #[.bool false,.int .u64 0,.int .u64 0] 28 (0,0)) Z507 hb) (jA (blk_below (g := gb321) (o := .cells #[.bool false,.int .u64 0,.int .u64 0] 28 (0,0)) Z510 hb) (jA (below_step Z413 hb) (jA (hbox) (jA ((Z148 : w.heap.size ≤ gb328)) (jA ((Z148 : w.heap.size ≤ gb328)) (jA ((Z198 : gb318 ≠ gb328)) (jA ((Z200 : gb328 ≠ gb318)) (jA ((Z203 : gb319 ≠ gb328)) (jA ((Z207 : gb328 ≠ gb319)) (jA ((Z289 : gb320 ≠ gb328)) (jA ((Z291 : gb328 ≠ gb320)) (jA ((Z293 : gb321 ≠ gb328)) (Aside0.mk ((Z297 : gb328 ≠ gb321)))))))))))))))));clear BK318 BK319 BK320 BK321 HB;obtain ⟨BK318,BK319,BK320,BK321,HB,BK328,GW328,GE328,NB318_328,NB328_318,NB319_328,NB328_319,NB320_328,NB328_320,NB321_328,NB328_321⟩ := n_;clear hb hbox hg;have hnb77 := NB328_318.out;have hnc77 := NB318_328.out;have hnb78 := NB328_319.out;have hnc78 := NB319_328.out;have hnb79 := NB328_320.out;have hnc79 := NB320_328.out;have hnb80 := NB328_321.out;have hnc80 := NB321_328.out;obtain ⟨hcz81_0,hcz81_1,hcz81_2,hfz81_0,hfz81_1,hfz81_2⟩ := impl_crossed.cells3 BK328.out;obtain ⟨hcz82_0,hcz82_1,hcz82_2,hcz82_3,hfz82_0,hfz82_1,hfz82_2,hfz82_3⟩ := impl_crossed.cells4 BK319.out;obtain ⟨hcz83_0,hcz83_1,hcz83_2,hcz83_3,hfz83_0,hfz83_1,hfz83_2,hfz83_3⟩ := impl_crossed.cells4 BK318.out) | ((with_reducible refine gate_callee (f := 68) rfl ?_);refine goesL_ (some 34) rfl rfl Try.func68 Z569 rfl #[.agg #[.bool a1_0,.int .u64 a1_1,.int .u64 a1_2],.int .i64 a0_3] rfl Z375 ?_;(with_reducible refine (impl_ScaleWide.calls a1_0 a1_1 a1_2 a0_3 t329 t330 t331 t332 _ A34.out).mono ?_);rintro e w84 ⟨rfl,hb⟩;refine ⟨_,rfl,?_⟩;have n_ := jA (blk_below (g := gb318) (o := .cells #[.bool a0_0,.int .u64 a0_1,.int .u64 a0_2,.int .i64 a0_3] 30 (0,0)) Z100 hb) (jA (blk_below (g := gb319) (o := .cells #[.bool a1_0,.int .u64 a1_1,.int .u64 a1_2,.int .i64 a1_3] 30 (0,0)) Z99 hb) (jA (blk_below (g := gb320) (o := .cells #[.bool false,.int .u64 0,.int .u64 0] 28 (0,0)) Z98 hb) (jA (blk_below (g := gb321) (o := .cells #[.bool false,.int .u64 0,.int .u64 0] 28 (0,0)) Z97 hb) (jA (blk_below (g := gb328) (o := .cells #[.bool t324,.int .u64 t325,.int .u64 t326] 28 (0,0)) Z50 hb) (Aside0.mk (below_step Z411 hb))))));clear BK318 BK319 BK320 BK321 BK328 HB;obtain ⟨BK318,BK319,BK320,BK321,BK328,HB⟩ := n_;(try clear hb);(try clear hb2);(try clear hk);(try clear hi)) | ((with_reducible refine gate_dst (N := 9) rfl ?_);refine box_event ?hg (N := 9) ?hd (cs := #[.bool false,.int .u64 0,.int .u64 0]) (t := 28) ?hr ?_;(case hd => rfl);(case hg => rfl);(case hr => exact Z566);intro gb333 hg w85 hbox hb;have n_ := jA (blk_below (g := gb318) (o := .cells #[.bool a0_0,.int .u64 a0_1,.int .u64 a0_2,.int .i64 a0_3] 30 (0,0)) Z500 hb) (jA (blk_below (g := gb319) (o := .cells #[.bool a1_0,.int .u64 a1_1,.int .u64 a1_2,.int .i64 a1_3] 30 (0,0)) Z503 hb) (jA (blk_below (g := gb320) (o := .cells #[.bool false,.int .u64 0,.int .u64 0] 28 (0,0)) Z507 hb) (jA (blk_below (g := gb321) (o := .cells #[.bool false,.int .u64 0,.int .u64 0] 28 (0,0)) Z510 hb) (jA (blk_below (g := gb328) (o := .cells #[.bool t324,.int .u64 t325,.int .u64 t326] 28 (0,0)) Z541 hb) (jA (below_step Z411 hb) (jA (hbox) (jA ((Z140 : w.heap.size ≤ gb333)) (jA ((Z140 : w.heap.size ≤ gb333)) (jA ((Z198 : gb318 ≠ gb333)) (jA ((Z200 : gb333 ≠ gb318)) (jA ((Z203 : gb319 ≠ gb333)) (jA ((Z207 : gb333 ≠ gb319)) (jA ((Z289 : gb320 ≠ gb333)) (jA ((Z291 : gb333 ≠ gb320)) (jA ((Z293 : gb321 ≠ gb333)) (jA ((Z297 : gb333 ≠ gb321)) (jA ((Z279 : gb328 ≠ gb333)) (Aside0.mk ((Z283 : gb333 ≠ gb328))))))))))))))))))));clear BK318 BK319 BK320 BK321 BK328 HB;obtain ⟨BK318,BK319,BK320,BK321,BK328,HB,BK333,GW333,GE333,NB318_333,NB333_318,NB319_333,NB333_319,NB320_333,NB333_320,NB321_333,NB333_321,NB328_333,NB333_328⟩ := n_;clear hb hbox hg;have hnb86 := NB333_318.out;have hnc86 := NB318_333.out;have hnb87 := NB333_319.out;have hnc87 := NB319_333.out;have hnb88 := NB333_320.out;have hnc88 := NB320_333.out;have hnb89 := NB333_321.out;have hnc89 := NB321_333.out;have hnb90 := NB333_328.out;have hnc90 := NB328_333.out;obtain ⟨hcz91_0,hcz91_1,hcz91_2,hfz91_0,hfz91_1,hfz91_2⟩ := impl_crossed.cells3 BK333.out))
          have n0_ : Aside0 ((((w85.setCell ⟨gb333,0,none⟩ (.bool t329)).setCell ⟨gb333,1,none⟩ (.int .u64 t330)).setCell ⟨gb333,2,none⟩ (.int .u64 t331)).heap[gb318]? = some (.cells #[.bool a0_0,.int .u64 a0_1,.int .u64 a0_2,.int .i64 a0_3] 30 (0,0))) := ⟨Z119⟩
          have n1_ : Aside0 ((((w85.setCell ⟨gb333,0,none⟩ (.bool t329)).setCell ⟨gb333,1,none⟩ (.int .u64 t330)).setCell ⟨gb333,2,none⟩ (.int .u64 t331)).heap[gb319]? = some (.cells #[.bool a1_0,.int .u64 a1_1,.int .u64 a1_2,.int .i64 a1_3] 30 (0,0))) := ⟨Z118⟩
          have n2_ : Aside0 ((((w85.setCell ⟨gb333,0,none⟩ (.bool t329)).setCell ⟨gb333,1,none⟩ (.int .u64 t330)).setCell ⟨gb333,2,none⟩ (.int .u64 t331)).heap[gb320]? = some (.cells #[.bool false,.int .u64 0,.int .u64 0] 28 (0,0))) := ⟨Z117⟩
          have n3_ : Aside0 ((((w85.setCell ⟨gb333,0,none⟩ (.bool t329)).setCell ⟨gb333,1,none⟩ (.int .u64 t330)).setCell ⟨gb333,2,none⟩ (.int .u64 t331)).heap[gb321]? = some (.cells #[.bool false,.int .u64 0,.int .u64 0] 28 (0,0))) := ⟨Z116⟩
          have n4_ : Aside0 ((((w85.setCell ⟨gb333,0,none⟩ (.bool t329)).setCell ⟨gb333,1,none⟩ (.int .u64 t330)).setCell ⟨gb333,2,none⟩ (.int .u64 t331)).heap[gb328]? = some (.cells #[.bool t324,.int .u64 t325,.int .u64 t326] 28 (0,0))) := ⟨Z115⟩
          have n5_ : Aside0 ((((w85.setCell ⟨gb333,0,none⟩ (.bool t329)).setCell ⟨gb333,1,none⟩ (.int .u64 t330)).setCell ⟨gb333,2,none⟩ (.int .u64 t331)).heap[gb333]? = some (.cells #[.bool t329,.int .u64 t330,.int .u64 t331] 28 (0,0))) := ⟨Z53⟩
          have n6_ : Aside0 (Below w.heap.size w (((w85.setCell ⟨gb333,0,none⟩ (.bool t329)).setCell ⟨gb333,1,none⟩ (.int .u64 t330)).setCell ⟨gb333,2,none⟩ (.int .u64 t331))) := ⟨Z142⟩
          (try clear BK318)
          (try clear BK319)
          (try clear BK320)
          (try clear BK321)
          (try clear BK328)
          (try clear BK333)
          (try clear HB)
          generalize (((w85.setCell ⟨gb333,0,none⟩ (.bool t329)).setCell ⟨gb333,1,none⟩ (.int .u64 t330)).setCell ⟨gb333,2,none⟩ (.int .u64 t331)) = w92 at n0_ n1_ n2_ n3_ n4_ n5_ n6_ ⊢
          have BK318 := n0_
          have BK319 := n1_
          have BK320 := n2_
          have BK321 := n3_
          have BK328 := n4_
          have BK333 := n5_
          have HB := n6_
          clear n0_ n1_ n2_ n3_ n4_ n5_ n6_
          have n0_ := Aside0.mk (blk_drew BK318.out)
          have n1_ := Aside0.mk (blk_drew BK319.out)
          have n2_ := Aside0.mk (blk_drew BK320.out)
          have n3_ := Aside0.mk (blk_drew BK321.out)
          have n4_ := Aside0.mk (blk_drew BK328.out)
          have n5_ := Aside0.mk (blk_drew BK333.out)
          have n6_ := Aside0.mk (below_drew1 HB.out)
          clear BK318
          clear BK319
          clear BK320
          clear BK321
          clear BK328
          clear BK333
          clear HB
          have BK318 := n0_
          have BK319 := n1_
          have BK320 := n2_
          have BK321 := n3_
          have BK328 := n4_
          have BK333 := n5_
          have HB := n6_
          clear n0_ n1_ n2_ n3_ n4_ n5_ n6_
          refine start_ (n := 9) (S := fun w' => w'.cell? ⟨gb328,0,none⟩ = some (.bool t324) ∧ w'.cell? ⟨gb328,1,none⟩ = some (.int .u64 t325) ∧ w'.cell? ⟨gb328,2,none⟩ = some (.int .u64 t326) ∧ w'.cell? ⟨gb333,0,none⟩ = some (.bool t329) ∧ w'.cell? ⟨gb333,1,none⟩ = some (.int .u64 t330) ∧ w'.cell? ⟨gb333,2,none⟩ = some (.int .u64 t331)) (ds := []) #[false,false,false,false,false,false,false,false,false] Z569 rfl rfl ⟨(blk_cell BK328.out 0).trans rfl,(blk_cell BK328.out 1).trans rfl,(blk_cell BK328.out 2).trans rfl,(blk_cell BK333.out 0).trans rfl,(blk_cell BK333.out 1).trans rfl,(blk_cell BK333.out 2).trans rfl⟩ (fun hHeld => ?_);refine with_tabW impl_crossed.tab5 impl_crossed.bits5 (fun HT_ HW_ => ?_)
          generalize w92.drew = w93 at BK318 BK319 BK320 BK321 BK328 BK333 HB hHeld ⊢
          refine pure_ (i := 2) (N := some 39) (v := ?_) (a' := ?_) #[false,false,true,false,false,false,false,false,false] rfl rfl (any_of HT_.out Z569) (fun _ _ _ h => h) (Or.inl ⟨Z571,?_⟩) ?_ ?_
          rotate_left
          · intro w'
            go_simp
            with_reducible rfl
          rotate_left
          · simp only [Act.put,List.setIfInBounds_toArray,List.set_cons_zero,List.set_cons_succ,i64_w,i32_w]
            rfl
          refine pure_ (i := 3) (N := some 40) (v := ?_) (a' := ?_) #[false,false,true,true,false,false,false,false,false] rfl rfl (any_of HT_.out Z569) (fun _ _ _ h => h) (Or.inl ⟨Z571,?_⟩) ?_ ?_
          rotate_left
          · intro w'
            go_simp
            with_reducible rfl
          rotate_left
          · simp only [Act.put,List.setIfInBounds_toArray,List.set_cons_zero,List.set_cons_succ,i64_w,i32_w]
            rfl
          refine pure_ (i := 4) (N := some 41) (v := undef) (a' := ?_) #[false,false,true,true,true,false,false,false,false] rfl rfl (any_of HT_.out Z569) (fun _ _ _ h => h) (Or.inr ⟨Z571,rfl⟩) ?_ ?_
          rotate_left
          · simp only [Act.put,List.setIfInBounds_toArray,List.set_cons_zero,List.set_cons_succ,i64_w,i32_w]
            rfl
          refine pure_ (i := 5) (N := some 42) (v := ?_) (a' := ?_) #[false,false,true,true,true,true,false,false,false] rfl rfl (any_of HT_.out Z569) (fun _ _ _ h => h) (Or.inl ⟨Z571,?_⟩) ?_ ?_
          rotate_left
          · intro w'
            go_simp
            with_reducible rfl
          rotate_left
          · simp only [Act.put,List.setIfInBounds_toArray,List.set_cons_zero,List.set_cons_succ,i64_w,i32_w]
            rfl
          refine take_ (i := 0) (N := some 37) (v := ?_) (a' := ?_) #[true,false,true,true,true,true,false,false,false] rfl rfl (take_ofW HT_.out HW_.out Z569) (fun _ _ _ h => h) (Or.inl ⟨Z571,?_⟩) hHeld ?_ ?_
          rotate_left
          · rintro w' ⟨s0,s1,s2,s3,s4,s5⟩
            go_simp
            with_reducible rfl
          rotate_left
          · simp only [Act.put,List.setIfInBounds_toArray,List.set_cons_zero,List.set_cons_succ,i64_w,i32_w]
            rfl
          refine take_ (i := 1) (N := some 38) (v := ?_) (a' := ?_) #[true,true,true,true,true,true,false,false,false] rfl rfl (take_ofW HT_.out HW_.out Z569) (fun _ _ _ h => h) (Or.inl ⟨Z571,?_⟩) hHeld ?_ ?_
          rotate_left
          · rintro w' ⟨s0,s1,s2,s3,s4,s5⟩
            go_simp
            with_reducible rfl
          rotate_left
          · simp only [Act.put,List.setIfInBounds_toArray,List.set_cons_zero,List.set_cons_succ,i64_w,i32_w]
            rfl
          refine one_ (i := 6) (N := none) #[true,true,true,true,true,true,true,false,false] rfl rfl (one_of HT_.out Z569) Z570 (fun K hK => ?_)
          have hs94 : w93.cell? ⟨gb320,0,none⟩ = some (.bool false) := (blk_cell BK320.out 0).trans rfl
          have hfs94 := blk_frozen BK320.out 0
          have hns94_0 := NB318_320.out
          have hns94_1 := NB319_320.out
          have hns94_3 := NB321_320.out
          have hns94_4 := NB328_320.out
          have hns94_5 := NB333_320.out
          have hms94_0 := NB320_318.out
          have hms94_1 := NB320_319.out
          have hms94_3 := NB320_321.out
          have hms94_4 := NB320_328.out
          have hms94_5 := NB320_333.out
          have hs95 : w93.cell? ⟨gb320,1,none⟩ = some (.int .u64 0) := (blk_cell BK320.out 1).trans rfl
          have hfs95 := blk_frozen BK320.out 1
          have hns95_0 := NB318_320.out
          have hns95_1 := NB319_320.out
          have hns95_3 := NB321_320.out
          have hns95_4 := NB328_320.out
          have hns95_5 := NB333_320.out
          have hms95_0 := NB320_318.out
          have hms95_1 := NB320_319.out
          have hms95_3 := NB320_321.out
          have hms95_4 := NB320_328.out
          have hms95_5 := NB320_333.out
          have hs96 : w93.cell? ⟨gb320,2,none⟩ = some (.int .u64 0) := (blk_cell BK320.out 2).trans rfl
          have hfs96 := blk_frozen BK320.out 2
          have hns96_0 := NB318_320.out
          have hns96_1 := NB319_320.out
          have hns96_3 := NB321_320.out
          have hns96_4 := NB328_320.out
          have hns96_5 := NB333_320.out
          have hms96_0 := NB320_318.out
          have hms96_1 := NB320_319.out
          have hms96_3 := NB320_321.out
          have hms96_4 := NB320_328.out
          have hms96_5 := NB320_333.out
          refine skip_ (w1 := ?_) Z571 rfl ?_ ?_
          rotate_left
          · go_simp
            rfl
          refine hK.out _ _ ⟨((cell_far (p := ⟨gb320,_,none⟩) NB328_320.out _).trans (((cell_far (p := ⟨gb320,_,none⟩) NB328_320.out _).trans (((cell_far (p := ⟨gb320,_,none⟩) NB328_320.out _).trans (hHeld.1)))))),((cell_far (p := ⟨gb320,_,none⟩) NB328_320.out _).trans (((cell_far (p := ⟨gb320,_,none⟩) NB328_320.out _).trans (((cell_far (p := ⟨gb320,_,none⟩) NB328_320.out _).trans (hHeld.2.1)))))),((cell_far (p := ⟨gb320,_,none⟩) NB328_320.out _).trans (((cell_far (p := ⟨gb320,_,none⟩) NB328_320.out _).trans (((cell_far (p := ⟨gb320,_,none⟩) NB328_320.out _).trans (hHeld.2.2.1)))))),((cell_far (p := ⟨gb320,_,none⟩) NB333_320.out _).trans (((cell_far (p := ⟨gb320,_,none⟩) NB333_320.out _).trans (((cell_far (p := ⟨gb320,_,none⟩) NB333_320.out _).trans (hHeld.2.2.2.1)))))),((cell_far (p := ⟨gb320,_,none⟩) NB333_320.out _).trans (((cell_far (p := ⟨gb320,_,none⟩) NB333_320.out _).trans (((cell_far (p := ⟨gb320,_,none⟩) NB333_320.out _).trans (hHeld.2.2.2.2.1)))))),((cell_far (p := ⟨gb320,_,none⟩) NB333_320.out _).trans (((cell_far (p := ⟨gb320,_,none⟩) NB333_320.out _).trans (((cell_far (p := ⟨gb320,_,none⟩) NB333_320.out _).trans (hHeld.2.2.2.2.2))))))⟩ (fun hHeld => ?_)
          clear hK K
          refine one_ (i := 7) (N := none) #[true,true,true,true,true,true,true,true,false] rfl rfl (one_of HT_.out Z569) Z570 (fun K hK => ?_)
          have hs97 : w93.cell? ⟨gb321,0,none⟩ = some (.bool false) := (blk_cell BK321.out 0).trans rfl
          have hfs97 := blk_frozen BK321.out 0
          have hns97_0 := NB318_321.out
          have hns97_1 := NB319_321.out
          have hns97_2 := NB320_321.out
          have hns97_4 := NB328_321.out
          have hns97_5 := NB333_321.out
          have hms97_0 := NB321_318.out
          have hms97_1 := NB321_319.out
          have hms97_2 := NB321_320.out
          have hms97_4 := NB321_328.out
          have hms97_5 := NB321_333.out
          have hs98 : w93.cell? ⟨gb321,1,none⟩ = some (.int .u64 0) := (blk_cell BK321.out 1).trans rfl
          have hfs98 := blk_frozen BK321.out 1
          have hns98_0 := NB318_321.out
          have hns98_1 := NB319_321.out
          have hns98_2 := NB320_321.out
          have hns98_4 := NB328_321.out
          have hns98_5 := NB333_321.out
          have hms98_0 := NB321_318.out
          have hms98_1 := NB321_319.out
          have hms98_2 := NB321_320.out
          have hms98_4 := NB321_328.out
          have hms98_5 := NB321_333.out
          have hs99 : w93.cell? ⟨gb321,2,none⟩ = some (.int .u64 0) := (blk_cell BK321.out 2).trans rfl
          have hfs99 := blk_frozen BK321.out 2
          have hns99_0 := NB318_321.out
          have hns99_1 := NB319_321.out
          have hns99_2 := NB320_321.out
          have hns99_4 := NB328_321.out
          have hns99_5 := NB333_321.out
          have hms99_0 := NB321_318.out
          have hms99_1 := NB321_319.out
          have hms99_2 := NB321_320.out
          have hms99_4 := NB321_328.out
          have hms99_5 := NB321_333.out
          refine skip_ (w1 := ?_) Z571 rfl ?_ ?_
          rotate_left
          · go_simp
            rfl
          refine hK.out _ _ ⟨((cell_far (p := ⟨gb321,_,none⟩) NB328_321.out _).trans (((cell_far (p := ⟨gb321,_,none⟩) NB328_321.out _).trans (((cell_far (p := ⟨gb321,_,none⟩) NB328_321.out _).trans (hHeld.1)))))),((cell_far (p := ⟨gb321,_,none⟩) NB328_321.out _).trans (((cell_far (p := ⟨gb321,_,none⟩) NB328_321.out _).trans (((cell_far (p := ⟨gb321,_,none⟩) NB328_321.out _).trans (hHeld.2.1)))))),((cell_far (p := ⟨gb321,_,none⟩) NB328_321.out _).trans (((cell_far (p := ⟨gb321,_,none⟩) NB328_321.out _).trans (((cell_far (p := ⟨gb321,_,none⟩) NB328_321.out _).trans (hHeld.2.2.1)))))),((cell_far (p := ⟨gb321,_,none⟩) NB333_321.out _).trans (((cell_far (p := ⟨gb321,_,none⟩) NB333_321.out _).trans (((cell_far (p := ⟨gb321,_,none⟩) NB333_321.out _).trans (hHeld.2.2.2.1)))))),((cell_far (p := ⟨gb321,_,none⟩) NB333_321.out _).trans (((cell_far (p := ⟨gb321,_,none⟩) NB333_321.out _).trans (((cell_far (p := ⟨gb321,_,none⟩) NB333_321.out _).trans (hHeld.2.2.2.2.1)))))),((cell_far (p := ⟨gb321,_,none⟩) NB333_321.out _).trans (((cell_far (p := ⟨gb321,_,none⟩) NB333_321.out _).trans (((cell_far (p := ⟨gb321,_,none⟩) NB333_321.out _).trans (hHeld.2.2.2.2.2))))))⟩ (fun hHeld => ?_)
          clear hK K
          refine pure_ (i := 8) (N := some 6) (v := ?_) (a' := ?_) #[true,true,true,true,true,true,true,true,true] rfl rfl (any_of HT_.out Z569) (fun _ _ _ h => h) (Or.inl ⟨Z571,?_⟩) ?_ ?_
          rotate_left
          · intro w'
            go_simp
            with_reducible rfl
          rotate_left
          · simp only [Act.put,List.setIfInBounds_toArray,List.set_cons_zero,List.set_cons_succ,i64_w,i32_w]
            rfl
          refine done_ (done_of HT_.out Z569) ?_
          try go_wp2
          refine bodyPost_ret (results_list (rs := [.cell 4 28,.cell 5 28,.tmp 6]) rfl (by simp) (.cell gb320 28 #[.bool t324,.int .u64 t325,.int .u64 t326] (0,0) _ rfl Z10 Try.underlying28 rfl Z569 (.cell gb321 28 #[.bool t329,.int .u64 t330,.int .u64 t331] (0,0) _ rfl Z7 Try.underlying28 rfl Z569 (.tmp .nil)))) rfl ?_
          exact ⟨Z558,Z142⟩

/-! ### cmp_Or_int: function 55 -/
def cmp_Or_int.l0 : Nat → Int → List Int → Int → Int → Option (Int)
  | 0,_,_,_,_ => none
  | k + 1,x3,x6,x7,x8 => if x8 < x7 then (if 0 ≤ x8 then (if x8 < (x6.length : Int) then (if (rd x6 x8) = x3 then (cmp_Or_int.l0 k x3 x6 x7 (wrap64 (x8 + 1))) else (some (rd x6 x8))) else (none)) else (none)) else (some x3)
def cmp_Or_int.f (k : Nat) (l0 : List Int) : Option (Int) := cmp_Or_int.l0 k 0 l0 (l0.length : Int) 0
theorem cmp_Or_int.mono_l : ∀ k,(∀ y0 y1 y2 y3,LeO (cmp_Or_int.l0 k y0 y1 y2 y3) (cmp_Or_int.l0 (k + 1) y0 y1 y2 y3))
  | 0 => fun _ _ _ _ r h => by simp [cmp_Or_int.l0] at h
  | k + 1 => by
    have ih0 := cmp_Or_int.mono_l k
    · intro y0 y1 y2 y3
      unfold cmp_Or_int.l0
      repeat' first
      | (with_reducible exact ih0 _ _ _ _)
      | (with_reducible exact LeO.refl _)
      | (with_reducible exact LeO.none _)
      | (with_reducible refine LeO.ite ?_ ?_)
      | (with_reducible refine LeO.bind ?_ (fun _ => ?_))
      | exact ih0 _ _ _ _
      | exact LeO.none _
      | refine LeO.ite ?_ ?_
      | refine LeO.bind ?_ (fun _ => ?_)
theorem cmp_Or_int.mono : ∀ a0 k,LeO (cmp_Or_int.f k a0) (cmp_Or_int.f (k + 1) a0) := by
  intro a0 k
  have ih0 := cmp_Or_int.mono_l k
  unfold cmp_Or_int.f
  repeat' first
      | (with_reducible exact ih0 _ _ _ _)
      | (with_reducible exact LeO.refl _)
      | (with_reducible exact LeO.none _)
      | (with_reducible refine LeO.ite ?_ ?_)
      | (with_reducible refine LeO.bind ?_ (fun _ => ?_))
      | exact ih0 _ _ _ _
      | exact LeO.none _
      | refine LeO.ite ?_ ?_
      | refine LeO.bind ?_ (fun _ => ?_)
set_option maxHeartbeats 8000000 in
set_option maxRecDepth 100000 in
theorem cmp_Or_int.calls (k : Nat) (A0 : Option Addr) (c0 : Nat) (l0 : List Int) (r : Int) (w : World) (hr0 : Kd.C (Kd.int .i64) w A0 l0.length l0) (hc0 : l0.length ≤ c0) (h : cmp_Or_int.f k l0 = some r) :
    Calls Try.prog 55 #[.slice A0 l0.length c0] w fun e w' => e = .returned (.int .i64 r) ∧ Drawn0 w w' := by
  have HR0 := Aside0.mk hr0
  have HC0 := Aside0.mk hc0
  clear hr0 hc0
  have H : (cmp_Or_int.l0 k 0 l0 (l0.length : Int) 0) = some r := h
  clear h
  have H' := Aside0.mk H
  clear H
  go_enter Try.func55,Try.ntmps55
  go_wp2
  go_loopg [8] k (fun kq v8 w' => ∃ (x8_1 : Int),v8 = .int .i64 x8_1 ∧ Aside0 (cmp_Or_int.l0 kq 0 l0 (l0.length : Int) x8_1 = some r) ∧ Aside0 (kq ≤ k) ∧ Drawn0 w w')
  case atStart => exact ⟨(0),Z565,H',⟨Nat.le_refl _⟩,Z561⟩
  case round =>
    clear H'
    obtain ⟨x8_1,rfl,HA,HK1,⟨m1,rfl⟩⟩ := hrel
    cases gk with
    | zero => exact absurd HA.out (by simp [cmp_Or_int.l0])
    | succ k1 =>
      have H := HA.out
      clear HA
      simp only [cmp_Or_int.l0] at H
      by_cases c2 : x8_1 < (l0.length : Int)
      · rw [if_pos c2] at H
        have c2b0 : decide (x8_1 < (l0.length : Int)) = true := decide_eq_true c2
        clear c2
        by_cases c3 : 0 ≤ x8_1
        · rw [if_pos c3] at H
          have c3b0 : decide (0 ≤ x8_1) = true := decide_eq_true c3
          clear c3
          by_cases c4 : x8_1 < (l0.length : Int)
          · rw [if_pos c4] at H
            have c4b0 : decide (x8_1 < (l0.length : Int)) = true := decide_eq_true c4
            clear c4
            by_cases c5 : (rd l0 x8_1) = 0
            · rw [if_pos c5] at H
              have c5b0 : ((rd l0 x8_1) == 0) = true := beq_iff_eq.mpr c5
              have c5b1 : ((rd l0 x8_1) != 0) = false := bne_eq_false_iff_eq.mpr c5
              clear c5
              have H' := Aside0.mk H
              clear H
              have p334 : 0 ≤ (x8_1 : Int) := of_decide_eq_true Z564
              have q334 : x8_1 < (l0.length : Int) := of_decide_eq_true Z564
              obtain ⟨ad334,e334,hx334_0⟩ := Kd.at_int HR0.out x8_1 p334 q334
              cases e334
              replace p334 := eq_true p334
              replace q334 := eq_true q334
              go_wp2
              go_roundg k1
              case measure => have := HK1.out;omega
              case rel => exact ⟨(wrap64 (x8_1 + 1)),Z565,H',⟨by have := HK1.out;omega⟩,Z561⟩
            · rw [if_neg c5] at H
              have c5b0 : ((rd l0 x8_1) == 0) = false := beq_eq_false_iff_ne.mpr c5
              have c5b1 : ((rd l0 x8_1) != 0) = true := bne_iff_ne.mpr c5
              obtain rfl := Option.some.inj H
              have p334 : 0 ≤ (x8_1 : Int) := of_decide_eq_true Z564
              have q334 : x8_1 < (l0.length : Int) := of_decide_eq_true Z564
              obtain ⟨ad334,e334,hx334_0⟩ := Kd.at_int HR0.out x8_1 p334 q334
              cases e334
              replace p334 := eq_true p334
              replace q334 := eq_true q334
              go_wp2
              go_ret
              exact ⟨Z565,Z561⟩
          · rw [if_neg c4] at H
            exact absurd H (by simp)
        · rw [if_neg c3] at H
          exact absurd H (by simp)
      · rw [if_neg c2] at H
        have c2b0 : decide (x8_1 < (l0.length : Int)) = false := decide_eq_false c2
        clear c2
        obtain rfl := Option.some.inj H
        go_wp2
        go_ret
        exact ⟨Z565,Z561⟩

/-! ### cmp_isNaN_uint64: function 84 -/
def cmp_isNaN_uint64.f (a0 : Int) : Option (Bool) := some (a0 != a0)
set_option maxHeartbeats 8000000 in
set_option maxRecDepth 100000 in
theorem cmp_isNaN_uint64.calls (a0 : Int) (r : Bool) (w : World) (h : cmp_isNaN_uint64.f a0 = some r) :
    Calls Try.prog 84 #[.int .u64 a0] w fun e w' => e = .returned (.bool r) ∧ Drawn0 w w' := by
  have H : (some (a0 != a0)) = some r := h
  clear h
  obtain rfl := Option.some.inj H
  go_enter Try.func84,Try.ntmps84
  go_wp2
  go_ret
  exact ⟨Z565,Z561⟩

/-! ### cmp_Compare_uint64: function 83 -/
def cmp_Compare_uint64.f (a0 : Int) (a1 : Int) : Option (Int) := (cmp_isNaN_uint64.f a0).bind fun t335 => ((cmp_isNaN_uint64.f a1).bind fun t336 => (if t335 = true then (if t336 = true then (some 0) else (some (-1))) else (if t336 = true then (some 1) else (if a0 < a1 then (some (-1)) else (if a0 > a1 then (some 1) else (some 0))))))
set_option maxHeartbeats 8000000 in
set_option maxRecDepth 100000 in
theorem cmp_Compare_uint64.calls (a0 : Int) (a1 : Int) (r : Int) (w : World) (h : cmp_Compare_uint64.f a0 a1 = some r) :
    Calls Try.prog 83 #[.int .u64 a0,.int .u64 a1] w fun e w' => e = .returned (.int .i64 r) ∧ Drawn0 w w' := by
  have H : ((cmp_isNaN_uint64.f a0).bind fun t335 => ((cmp_isNaN_uint64.f a1).bind fun t336 => (if t335 = true then (if t336 = true then (some 0) else (some (-1))) else (if t336 = true then (some 1) else (if a0 < a1 then (some (-1)) else (if a0 > a1 then (some 1) else (some 0))))))) = some r := h
  clear h
  obtain ⟨t335,A30,H⟩ := Option.bind_eq_some_iff.mp H
  have A3 := Aside0.mk A30
  clear A30
  obtain ⟨t336,A40,H⟩ := Option.bind_eq_some_iff.mp H
  have A4 := Aside0.mk A40
  clear A40
  by_cases c5 : t335 = true
  · subst c5
    have H1 : (if t336 = true then (some 0) else (some (-1))) = some r := by rw [if_pos rfl] at H;exact H
    clear H
    have H := H1
    clear H1
    by_cases c6 : t336 = true
    · subst c6
      have H1 : (some 0) = some r := by rw [if_pos rfl] at H;exact H
      clear H
      have H := H1
      clear H1
      obtain rfl := Option.some.inj H
      go_enter Try.func83,Try.ntmps83
      go_wp2_with (first | ((with_reducible refine gate_callee (f := 84) rfl ?_);refine goesL_ (some 8) rfl rfl Try.func84 Z569 rfl #[.int .u64 a0] rfl Z375 ?_;(with_reducible refine (cmp_isNaN_uint64.calls a0 true _ A3.out).mono ?_);rintro e w' ⟨rfl,⟨nd,rfl⟩⟩;refine ⟨_,rfl,?_⟩) | ((with_reducible refine gate_callee (f := 84) rfl ?_);refine goesL_ (some 10) rfl rfl Try.func84 Z569 rfl #[.int .u64 a1] rfl Z375 ?_;(with_reducible refine (cmp_isNaN_uint64.calls a1 true _ A4.out).mono ?_);rintro e w' ⟨rfl,⟨nd,rfl⟩⟩;refine ⟨_,rfl,?_⟩))
      go_ret
      exact ⟨Z565,Z561⟩
    · replace c6 := Bool.eq_false_iff.mpr c6
      subst c6
      have H1 : (some (-1)) = some r := by rw [if_neg (show ¬ (false = true) by decide)] at H;exact H
      clear H
      have H := H1
      clear H1
      obtain rfl := Option.some.inj H
      go_enter Try.func83,Try.ntmps83
      go_wp2_with (first | ((with_reducible refine gate_callee (f := 84) rfl ?_);refine goesL_ (some 8) rfl rfl Try.func84 Z569 rfl #[.int .u64 a0] rfl Z375 ?_;(with_reducible refine (cmp_isNaN_uint64.calls a0 true _ A3.out).mono ?_);rintro e w' ⟨rfl,⟨nd,rfl⟩⟩;refine ⟨_,rfl,?_⟩) | ((with_reducible refine gate_callee (f := 84) rfl ?_);refine goesL_ (some 10) rfl rfl Try.func84 Z569 rfl #[.int .u64 a1] rfl Z375 ?_;(with_reducible refine (cmp_isNaN_uint64.calls a1 false _ A4.out).mono ?_);rintro e w' ⟨rfl,⟨nd,rfl⟩⟩;refine ⟨_,rfl,?_⟩))
      go_ret
      exact ⟨Z565,Z561⟩
  · replace c5 := Bool.eq_false_iff.mpr c5
    subst c5
    have H1 : (if t336 = true then (some 1) else (if a0 < a1 then (some (-1)) else (if a0 > a1 then (some 1) else (some 0)))) = some r := by rw [if_neg (show ¬ (false = true) by decide)] at H;exact H
    clear H
    have H := H1
    clear H1
    by_cases c7 : t336 = true
    · subst c7
      have H1 : (some 1) = some r := by rw [if_pos rfl] at H;exact H
      clear H
      have H := H1
      clear H1
      obtain rfl := Option.some.inj H
      go_enter Try.func83,Try.ntmps83
      go_wp2_with (first | ((with_reducible refine gate_callee (f := 84) rfl ?_);refine goesL_ (some 8) rfl rfl Try.func84 Z569 rfl #[.int .u64 a0] rfl Z375 ?_;(with_reducible refine (cmp_isNaN_uint64.calls a0 false _ A3.out).mono ?_);rintro e w' ⟨rfl,⟨nd,rfl⟩⟩;refine ⟨_,rfl,?_⟩) | ((with_reducible refine gate_callee (f := 84) rfl ?_);refine goesL_ (some 10) rfl rfl Try.func84 Z569 rfl #[.int .u64 a1] rfl Z375 ?_;(with_reducible refine (cmp_isNaN_uint64.calls a1 true _ A4.out).mono ?_);rintro e w' ⟨rfl,⟨nd,rfl⟩⟩;refine ⟨_,rfl,?_⟩))
      go_ret
      exact ⟨Z565,Z561⟩
    · replace c7 := Bool.eq_false_iff.mpr c7
      subst c7
      have H1 : (if a0 < a1 then (some (-1)) else (if a0 > a1 then (some 1) else (some 0))) = some r := by rw [if_neg (show ¬ (false = true) by decide)] at H;exact H
      clear H
      have H := H1
      clear H1
      by_cases c8 : a0 < a1
      · rw [if_pos c8] at H
        have c8b0 : decide (a0 < a1) = true := decide_eq_true c8
        clear c8
        obtain rfl := Option.some.inj H
        go_enter Try.func83,Try.ntmps83
        go_wp2_with (first | ((with_reducible refine gate_callee (f := 84) rfl ?_);refine goesL_ (some 8) rfl rfl Try.func84 Z569 rfl #[.int .u64 a0] rfl Z375 ?_;(with_reducible refine (cmp_isNaN_uint64.calls a0 false _ A3.out).mono ?_);rintro e w' ⟨rfl,⟨nd,rfl⟩⟩;refine ⟨_,rfl,?_⟩) | ((with_reducible refine gate_callee (f := 84) rfl ?_);refine goesL_ (some 10) rfl rfl Try.func84 Z569 rfl #[.int .u64 a1] rfl Z375 ?_;(with_reducible refine (cmp_isNaN_uint64.calls a1 false _ A4.out).mono ?_);rintro e w' ⟨rfl,⟨nd,rfl⟩⟩;refine ⟨_,rfl,?_⟩))
        go_ret
        exact ⟨Z565,Z561⟩
      · rw [if_neg c8] at H
        have c8b0 : decide (a0 < a1) = false := decide_eq_false c8
        clear c8
        by_cases c9 : a0 > a1
        · rw [if_pos c9] at H
          have c9b0 : decide (a1 < a0) = true := decide_eq_true c9
          clear c9
          obtain rfl := Option.some.inj H
          go_enter Try.func83,Try.ntmps83
          go_wp2_with (first | ((with_reducible refine gate_callee (f := 84) rfl ?_);refine goesL_ (some 8) rfl rfl Try.func84 Z569 rfl #[.int .u64 a0] rfl Z375 ?_;(with_reducible refine (cmp_isNaN_uint64.calls a0 false _ A3.out).mono ?_);rintro e w' ⟨rfl,⟨nd,rfl⟩⟩;refine ⟨_,rfl,?_⟩) | ((with_reducible refine gate_callee (f := 84) rfl ?_);refine goesL_ (some 10) rfl rfl Try.func84 Z569 rfl #[.int .u64 a1] rfl Z375 ?_;(with_reducible refine (cmp_isNaN_uint64.calls a1 false _ A4.out).mono ?_);rintro e w' ⟨rfl,⟨nd,rfl⟩⟩;refine ⟨_,rfl,?_⟩))
          go_ret
          exact ⟨Z565,Z561⟩
        · rw [if_neg c9] at H
          have c9b0 : decide (a1 < a0) = false := decide_eq_false c9
          clear c9
          obtain rfl := Option.some.inj H
          go_enter Try.func83,Try.ntmps83
          go_wp2_with (first | ((with_reducible refine gate_callee (f := 84) rfl ?_);refine goesL_ (some 8) rfl rfl Try.func84 Z569 rfl #[.int .u64 a0] rfl Z375 ?_;(with_reducible refine (cmp_isNaN_uint64.calls a0 false _ A3.out).mono ?_);rintro e w' ⟨rfl,⟨nd,rfl⟩⟩;refine ⟨_,rfl,?_⟩) | ((with_reducible refine gate_callee (f := 84) rfl ?_);refine goesL_ (some 10) rfl rfl Try.func84 Z569 rfl #[.int .u64 a1] rfl Z375 ?_;(with_reducible refine (cmp_isNaN_uint64.calls a1 false _ A4.out).mono ?_);rintro e w' ⟨rfl,⟨nd,rfl⟩⟩;refine ⟨_,rfl,?_⟩))
          go_ret
          exact ⟨Z565,Z561⟩

end Go.Proofs.Ytjcjehnjbgklbaa.QFnExactImproves
