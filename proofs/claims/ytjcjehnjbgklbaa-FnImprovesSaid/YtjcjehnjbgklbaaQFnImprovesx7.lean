/- The machine side of FnImproves: what each Go function that it reaches comes to. Conditions: none. -/
import Derived.Test.YtjcjehnjbgklbaaQFnImprovesx0
import Derived.Test.YtjcjehnjbgklbaaQFnImprovesx1
import Derived.Test.YtjcjehnjbgklbaaQFnImprovesx6
namespace Go.Proofs.Ytjcjehnjbgklbaa.QFnImproves
open Go.RowKit Go.Proofs.YtjcjehnjbgklbaaW.PrintWords Go.Proofs.YtjcjehnjbgklbaaW.PrintLast Go.Proofs.YtjcjehnjbgklbaaW.PrintMore
attribute [local go_sem] max2_int min2_int max_two min_two max_three min_three max_four min_four   -- for this text's walks alone
set_option linter.unusedVariables false
set_option linter.unusedSimpArgs false

/-! ### impl_crossed: function 48 -/
theorem impl_crossed.cells3 {w : World} {g : Nat} {t : TypeId} {a0 a1 a2 : Value} (h : w.heap[g]? = some (.cells #[a0,a1,a2] t (0,0))) : w.cell? ⟨g,0,none⟩ = some a0 ∧ w.cell? ⟨g,1,none⟩ = some a1 ∧ w.cell? ⟨g,2,none⟩ = some a2 ∧ w.frozen? ⟨g,0,none⟩ = false ∧ w.frozen? ⟨g,1,none⟩ = false ∧ w.frozen? ⟨g,2,none⟩ = false := ⟨(blk_cell h 0).trans rfl,(blk_cell h 1).trans rfl,(blk_cell h 2).trans rfl,blk_frozen h 0,blk_frozen h 1,blk_frozen h 2⟩
theorem impl_crossed.cells4 {w : World} {g : Nat} {t : TypeId} {a0 a1 a2 a3 : Value} (h : w.heap[g]? = some (.cells #[a0,a1,a2,a3] t (0,0))) : w.cell? ⟨g,0,none⟩ = some a0 ∧ w.cell? ⟨g,1,none⟩ = some a1 ∧ w.cell? ⟨g,2,none⟩ = some a2 ∧ w.cell? ⟨g,3,none⟩ = some a3 ∧ w.frozen? ⟨g,0,none⟩ = false ∧ w.frozen? ⟨g,1,none⟩ = false ∧ w.frozen? ⟨g,2,none⟩ = false ∧ w.frozen? ⟨g,3,none⟩ = false := ⟨(blk_cell h 0).trans rfl,(blk_cell h 1).trans rfl,(blk_cell h 2).trans rfl,(blk_cell h 3).trans rfl,blk_frozen h 0,blk_frozen h 1,blk_frozen h 2,blk_frozen h 3⟩
def impl_crossed.j0 : Nat → Bool → Bool → Int → Int → Int → Bool → Int → Int → Int → Option (Bool × Int × Int × Bool × Int × Int × Bool)
  | 0,_,_,_,_,_,_,_,_,_ => none
  | k + 1,x18,x309000,x309001,x309002,x309003,x310000,x310001,x310002,x310003 => if x18 = true then (some (false,0,0,false,0,0,false)) else ((impl_ScaleWide.f x309000 x309001 x309002 x310003).bind fun bt314 => ((impl_ScaleWide.f x310000 x310001 x310002 x309003).bind fun bt319 => (if bt314.2.2.2 = true then (some (bt314.1,bt314.2.1,bt314.2.2.1,bt319.1,bt319.2.1,bt319.2.2.1,bt319.2.2.2)) else (some (bt314.1,bt314.2.1,bt314.2.2.1,bt319.1,bt319.2.1,bt319.2.2.1,false)))))
def impl_crossed.f (k : Nat) (a0_0 : Bool) (a0_1 : Int) (a0_2 : Int) (a0_3 : Int) (a1_0 : Bool) (a1_1 : Int) (a1_2 : Int) (a1_3 : Int) : Option (Bool × Int × Int × Bool × Int × Int × Bool) := (impl_FracOk.f a0_0 a0_1 a0_2 a0_3).bind fun t312 => (if t312 = true then ((impl_FracOk.f a1_0 a1_1 a1_2 a1_3).bind fun t313 => (impl_crossed.j0 k (!t313) a0_0 a0_1 a0_2 a0_3 a1_0 a1_1 a1_2 a1_3)) else (impl_crossed.j0 k true a0_0 a0_1 a0_2 a0_3 a1_0 a1_1 a1_2 a1_3))
theorem impl_crossed.mono_l : ∀ k,(∀ y0 y1 y2 y3 y4 y5 y6 y7 y8,LeO (impl_crossed.j0 k y0 y1 y2 y3 y4 y5 y6 y7 y8) (impl_crossed.j0 (k + 1) y0 y1 y2 y3 y4 y5 y6 y7 y8))
  | 0 => fun _ _ _ _ _ _ _ _ _ r h => by simp [impl_crossed.j0] at h
  | k + 1 => by
    have ih0 := impl_crossed.mono_l k
    · intro y0 y1 y2 y3 y4 y5 y6 y7 y8
      unfold impl_crossed.j0
      repeat' first
      | (with_reducible exact ih0 _ _ _ _ _ _ _ _ _)
      | (with_reducible exact LeO.refl _)
      | (with_reducible exact LeO.none _)
      | (with_reducible refine LeO.ite ?_ ?_)
      | (with_reducible refine LeO.bind ?_ (fun _ => ?_))
      | exact ih0 _ _ _ _ _ _ _ _ _
      | exact LeO.none _
      | refine LeO.ite ?_ ?_
      | refine LeO.bind ?_ (fun _ => ?_)
theorem impl_crossed.mono : ∀ a0 a1 a2 a3 a4 a5 a6 a7 k,LeO (impl_crossed.f k a0 a1 a2 a3 a4 a5 a6 a7) (impl_crossed.f (k + 1) a0 a1 a2 a3 a4 a5 a6 a7) := by
  intro a0 a1 a2 a3 a4 a5 a6 a7 k
  have ih0 := impl_crossed.mono_l k
  unfold impl_crossed.f
  repeat' first
      | (with_reducible exact ih0 _ _ _ _ _ _ _ _ _)
      | (with_reducible exact LeO.refl _)
      | (with_reducible exact LeO.none _)
      | (with_reducible refine LeO.ite ?_ ?_)
      | (with_reducible refine LeO.bind ?_ (fun _ => ?_))
      | exact ih0 _ _ _ _ _ _ _ _ _
      | exact LeO.none _
      | refine LeO.ite ?_ ?_
      | refine LeO.bind ?_ (fun _ => ?_)
def impl_crossed.T5 : Bool × List (List Nat × List Nat) := (true,[([],[]),([],[]),([],[]),([2],[2]),([3],[3]),([3,4],[3,4]),([0,3,0],[0]),([1,6,0,1,6],[1]),([5,7,0,1,2,3,4,5,6,7],[5])])
def impl_crossed.B5 : List Nat := [0,0,0,4,12,28,13,79,255]
theorem impl_crossed.tab5 : rtab .any (opsOf Try.f48 5) = impl_crossed.T5 := by kernel_rfl
theorem impl_crossed.bits5 : waitsOk impl_crossed.T5.2 impl_crossed.B5 = true := by kernel_rfl
set_option maxHeartbeats 8000000 in
set_option maxRecDepth 100000 in
theorem impl_crossed.calls (k : Nat) (a0_0 : Bool) (a0_1 : Int) (a0_2 : Int) (a0_3 : Int) (a1_0 : Bool) (a1_1 : Int) (a1_2 : Int) (a1_3 : Int) (r1 : Bool) (r2 : Int) (r3 : Int) (r4 : Bool) (r5 : Int) (r6 : Int) (r7 : Bool) (w : World) (h : impl_crossed.f k a0_0 a0_1 a0_2 a0_3 a1_0 a1_1 a1_2 a1_3 = some (r1,r2,r3,r4,r5,r6,r7)) :
    Calls Try.prog 48 #[.agg #[.bool a0_0,.int .u64 a0_1,.int .u64 a0_2,.int .i64 a0_3],.agg #[.bool a1_0,.int .u64 a1_1,.int .u64 a1_2,.int .i64 a1_3]] w fun e w' => e = .returned (.tuple #[.agg #[.bool r1,.int .u64 r2,.int .u64 r3],.agg #[.bool r4,.int .u64 r5,.int .u64 r6],.bool r7]) ∧ Below w.heap.size w w' := by
  have hu30 := Try.underlying30
  have hu28 := Try.underlying28
  have HB := Aside0.mk (Below.refl w.heap.size w)
  have H : ((impl_FracOk.f a0_0 a0_1 a0_2 a0_3).bind fun t312 => (if t312 = true then ((impl_FracOk.f a1_0 a1_1 a1_2 a1_3).bind fun t313 => (impl_crossed.j0 k (!t313) a0_0 a0_1 a0_2 a0_3 a1_0 a1_1 a1_2 a1_3)) else (impl_crossed.j0 k true a0_0 a0_1 a0_2 a0_3 a1_0 a1_1 a1_2 a1_3))) = some (r1,r2,r3,r4,r5,r6,r7) := h
  clear h
  have HC3 := Aside0.mk H
  clear H
  go_enter Try.func48,Try.ntmps48
  go_upto_region 1 with (first | ((with_reducible refine gate_dst (N := 2) rfl ?_);refine box_event ?hg (N := 2) ?hd (cs := #[.bool a0_0,.int .u64 a0_1,.int .u64 a0_2,.int .i64 a0_3]) (t := 30) ?hr ?_;(case hd => rfl);(case hg => rfl);(case hr => exact Z515);intro gb308 hg w4 hbox hb;have n_ := jA (below_step Z486 hb) (jA (hbox) (jA ((Z271 : w.heap.size ≤ gb308)) (Aside0.mk ((Z271 : w.heap.size ≤ gb308)))));clear HB;obtain ⟨HB,BK308,GW308,GE308⟩ := n_;clear hb hbox hg) | ((with_reducible refine gate_dst (N := 3) rfl ?_);refine box_event ?hg (N := 3) ?hd (cs := #[.bool a1_0,.int .u64 a1_1,.int .u64 a1_2,.int .i64 a1_3]) (t := 30) ?hr ?_;(case hd => rfl);(case hg => rfl);(case hr => exact Z515);intro gb309 hg w5 hbox hb;have n_ := jA (blk_below (g := gb308) (o := .cells #[.bool a0_0,.int .u64 a0_1,.int .u64 a0_2,.int .i64 a0_3] 30 (0,0)) Z528 hb) (jA (below_step Z478 hb) (jA (hbox) (jA ((Z212 : w.heap.size ≤ gb309)) (jA ((Z212 : w.heap.size ≤ gb309)) (jA ((Z282 : gb308 ≠ gb309)) (Aside0.mk ((Z284 : gb309 ≠ gb308))))))));clear BK308 HB;obtain ⟨BK308,HB,BK309,GW309,GE309,NB308_309,NB309_308⟩ := n_;clear hb hbox hg) | ((with_reducible refine gate_dst (N := 4) rfl ?_);refine box_event ?hg (N := 4) ?hd (cs := #[.bool false,.int .u64 0,.int .u64 0]) (t := 28) ?hr ?_;(case hd => rfl);(case hg => rfl);(case hr => exact Z515);intro gb310 hg w6 hbox hb;have n_ := jA (blk_below (g := gb308) (o := .cells #[.bool a0_0,.int .u64 a0_1,.int .u64 a0_2,.int .i64 a0_3] 30 (0,0)) Z528 hb) (jA (blk_below (g := gb309) (o := .cells #[.bool a1_0,.int .u64 a1_1,.int .u64 a1_2,.int .i64 a1_3] 30 (0,0)) Z530 hb) (jA (below_step Z446 hb) (jA (hbox) (jA ((Z126 : w.heap.size ≤ gb310)) (jA ((Z126 : w.heap.size ≤ gb310)) (jA ((Z282 : gb308 ≠ gb310)) (jA ((Z284 : gb310 ≠ gb308)) (jA ((Z287 : gb309 ≠ gb310)) (Aside0.mk ((Z291 : gb310 ≠ gb309)))))))))));clear BK308 BK309 HB;obtain ⟨BK308,BK309,HB,BK310,GW310,GE310,NB308_310,NB310_308,NB309_310,NB310_309⟩ := n_;clear hb hbox hg) | ((with_reducible refine gate_dst (N := 5) rfl ?_);refine box_event ?hg (N := 5) ?hd (cs := #[.bool false,.int .u64 0,.int .u64 0]) (t := 28) ?hr ?_;(case hd => rfl);(case hg => rfl);(case hr => exact Z515);intro gb311 hg w7 hbox hb;have n_ := jA (blk_below (g := gb308) (o := .cells #[.bool a0_0,.int .u64 a0_1,.int .u64 a0_2,.int .i64 a0_3] 30 (0,0)) Z528 hb) (jA (blk_below (g := gb309) (o := .cells #[.bool a1_0,.int .u64 a1_1,.int .u64 a1_2,.int .i64 a1_3] 30 (0,0)) Z530 hb) (jA (blk_below (g := gb310) (o := .cells #[.bool false,.int .u64 0,.int .u64 0] 28 (0,0)) Z535 hb) (jA (below_step Z427 hb) (jA (hbox) (jA ((Z100 : w.heap.size ≤ gb311)) (jA ((Z100 : w.heap.size ≤ gb311)) (jA ((Z282 : gb308 ≠ gb311)) (jA ((Z284 : gb311 ≠ gb308)) (jA ((Z287 : gb309 ≠ gb311)) (jA ((Z291 : gb311 ≠ gb309)) (jA ((Z357 : gb310 ≠ gb311)) (Aside0.mk ((Z359 : gb311 ≠ gb310))))))))))))));clear BK308 BK309 BK310 HB;obtain ⟨BK308,BK309,BK310,HB,BK311,GW311,GE311,NB308_311,NB311_308,NB309_311,NB311_309,NB310_311,NB311_310⟩ := n_;clear hb hbox hg))
  (try simp only [Act.put,List.setIfInBounds_toArray,List.set_cons_zero,List.set_cons_succ])
  go_cut [18] (fun v18 wc => ∃ (kq : Nat) (x18_2 : Bool),v18 = .bool x18_2 ∧ Aside0 (impl_crossed.j0 kq x18_2 a0_0 a0_1 a0_2 a0_3 a1_0 a1_1 a1_2 a1_3 = some (r1,r2,r3,r4,r5,r6,r7)) ∧ Aside0 (kq ≤ k) ∧ Aside0 (wc.heap[gb308]? = some (.cells #[.bool a0_0,.int .u64 a0_1,.int .u64 a0_2,.int .i64 a0_3] 30 (0,0))) ∧ Aside0 (wc.heap[gb309]? = some (.cells #[.bool a1_0,.int .u64 a1_1,.int .u64 a1_2,.int .i64 a1_3] 30 (0,0))) ∧ Aside0 (wc.heap[gb310]? = some (.cells #[.bool false,.int .u64 0,.int .u64 0] 28 (0,0))) ∧ Aside0 (wc.heap[gb311]? = some (.cells #[.bool false,.int .u64 0,.int .u64 0] 28 (0,0))) ∧ Aside0 (Below w.heap.size w wc))
  case first =>
    have H := HC3.out
    clear HC3
    obtain ⟨t312,A80,H⟩ := Option.bind_eq_some_iff.mp H
    have A8 := Aside0.mk A80
    clear A80
    by_cases c9 : t312 = true
    · subst c9
      have H1 : ((impl_FracOk.f a1_0 a1_1 a1_2 a1_3).bind fun t313 => (impl_crossed.j0 k (!t313) a0_0 a0_1 a0_2 a0_3 a1_0 a1_1 a1_2 a1_3)) = some (r1,r2,r3,r4,r5,r6,r7) := by rw [if_pos rfl] at H;exact H
      clear H
      have H := H1
      clear H1
      obtain ⟨t313,A100,H⟩ := Option.bind_eq_some_iff.mp H
      have A10 := Aside0.mk A100
      clear A100
      have H' := Aside0.mk H
      clear H
      have hnb11 := NB308_309.out
      have hnc11 := NB309_308.out
      have hnb12 := NB308_310.out
      have hnc12 := NB310_308.out
      have hnb13 := NB308_311.out
      have hnc13 := NB311_308.out
      obtain ⟨hcz14_0,hcz14_1,hcz14_2,hcz14_3,hfz14_0,hfz14_1,hfz14_2,hfz14_3⟩ := impl_crossed.cells4 BK308.out
      go_wp2_with (first | ((with_reducible refine gate_callee (f := 15) rfl ?_);refine goesL_ (some 12) rfl rfl Try.func15 Z580 rfl #[.agg #[.bool a0_0,.int .u64 a0_1,.int .u64 a0_2,.int .i64 a0_3]] rfl Z395 ?_;(with_reducible refine (impl_FracOk.calls a0_0 a0_1 a0_2 a0_3 true _ A8.out).mono ?_);rintro e w15 ⟨rfl,hb⟩;refine ⟨_,rfl,?_⟩;have n_ := jA (blk_below (g := gb308) (o := .cells #[.bool a0_0,.int .u64 a0_1,.int .u64 a0_2,.int .i64 a0_3] 30 (0,0)) Z528 hb) (jA (blk_below (g := gb309) (o := .cells #[.bool a1_0,.int .u64 a1_1,.int .u64 a1_2,.int .i64 a1_3] 30 (0,0)) Z530 hb) (jA (blk_below (g := gb310) (o := .cells #[.bool false,.int .u64 0,.int .u64 0] 28 (0,0)) Z535 hb) (jA (blk_below (g := gb311) (o := .cells #[.bool false,.int .u64 0,.int .u64 0] 28 (0,0)) Z538 hb) (Aside0.mk (below_step Z408 hb)))));clear BK308 BK309 BK310 BK311 HB;obtain ⟨BK308,BK309,BK310,BK311,HB⟩ := n_;(try clear hb);(try clear hb2);(try clear hk);(try clear hi);have hnb16 := NB309_310.out;have hnc16 := NB310_309.out;have hnb17 := NB309_311.out;have hnc17 := NB311_309.out;obtain ⟨hcz18_0,hcz18_1,hcz18_2,hcz18_3,hfz18_0,hfz18_1,hfz18_2,hfz18_3⟩ := impl_crossed.cells4 BK309.out) | (go_at_call 15;(with_reducible refine (impl_FracOk.calls a1_0 a1_1 a1_2 a1_3 t313 _ A10.out).mono ?_);rintro e w19 ⟨rfl,hb⟩;have n_ := jA (blk_below (g := gb308) (o := .cells #[.bool a0_0,.int .u64 a0_1,.int .u64 a0_2,.int .i64 a0_3] 30 (0,0)) Z528 hb) (jA (blk_below (g := gb309) (o := .cells #[.bool a1_0,.int .u64 a1_1,.int .u64 a1_2,.int .i64 a1_3] 30 (0,0)) Z530 hb) (jA (blk_below (g := gb310) (o := .cells #[.bool false,.int .u64 0,.int .u64 0] 28 (0,0)) Z535 hb) (jA (blk_below (g := gb311) (o := .cells #[.bool false,.int .u64 0,.int .u64 0] 28 (0,0)) Z538 hb) (Aside0.mk (below_step Z408 hb)))));clear BK308 BK309 BK310 BK311 HB;obtain ⟨BK308,BK309,BK310,BK311,HB⟩ := n_;(try clear hb);(try clear hb2);(try clear hk);(try clear hi)))
      go_meet
      case rel => exact ⟨_,(!t313),Z514,H',⟨Z516⟩,⟨Z528⟩,⟨Z530⟩,⟨Z535⟩,⟨Z538⟩,⟨Z408⟩⟩
    · replace c9 := Bool.eq_false_iff.mpr c9
      subst c9
      have H1 : (impl_crossed.j0 k true a0_0 a0_1 a0_2 a0_3 a1_0 a1_1 a1_2 a1_3) = some (r1,r2,r3,r4,r5,r6,r7) := by rw [if_neg (show ¬ (false = true) by decide)] at H;exact H
      clear H
      have H := H1
      clear H1
      have H' := Aside0.mk H
      clear H
      have hnb20 := NB308_309.out
      have hnc20 := NB309_308.out
      have hnb21 := NB308_310.out
      have hnc21 := NB310_308.out
      have hnb22 := NB308_311.out
      have hnc22 := NB311_308.out
      obtain ⟨hcz23_0,hcz23_1,hcz23_2,hcz23_3,hfz23_0,hfz23_1,hfz23_2,hfz23_3⟩ := impl_crossed.cells4 BK308.out
      go_wp2_with (first | ((with_reducible refine gate_callee (f := 15) rfl ?_);refine goesL_ (some 12) rfl rfl Try.func15 Z580 rfl #[.agg #[.bool a0_0,.int .u64 a0_1,.int .u64 a0_2,.int .i64 a0_3]] rfl Z395 ?_;(with_reducible refine (impl_FracOk.calls a0_0 a0_1 a0_2 a0_3 false _ A8.out).mono ?_);rintro e w24 ⟨rfl,hb⟩;refine ⟨_,rfl,?_⟩;have n_ := jA (blk_below (g := gb308) (o := .cells #[.bool a0_0,.int .u64 a0_1,.int .u64 a0_2,.int .i64 a0_3] 30 (0,0)) Z528 hb) (jA (blk_below (g := gb309) (o := .cells #[.bool a1_0,.int .u64 a1_1,.int .u64 a1_2,.int .i64 a1_3] 30 (0,0)) Z530 hb) (jA (blk_below (g := gb310) (o := .cells #[.bool false,.int .u64 0,.int .u64 0] 28 (0,0)) Z535 hb) (jA (blk_below (g := gb311) (o := .cells #[.bool false,.int .u64 0,.int .u64 0] 28 (0,0)) Z538 hb) (Aside0.mk (below_step Z408 hb)))));clear BK308 BK309 BK310 BK311 HB;obtain ⟨BK308,BK309,BK310,BK311,HB⟩ := n_;(try clear hb);(try clear hb2);(try clear hk);(try clear hi)))
      go_meet
      case rel => exact ⟨_,(true),Z514,H',⟨Z516⟩,⟨Z528⟩,⟨Z530⟩,⟨Z535⟩,⟨Z538⟩,⟨Z408⟩⟩
  case rest =>
    clear HC3
    try clear c1
    try clear c2
    try clear p2
    try clear c4
    try clear c9
    try clear c11
    try clear c12
    try clear c13
    try clear c15
    try clear c16
    try clear c17
    try clear c20
    try clear c21
    try clear c22
    try clear hcz14_0
    try clear hcz14_1
    try clear hcz14_2
    try clear hcz14_3
    try clear hcz18_0
    try clear hcz18_1
    try clear hcz18_2
    try clear hcz18_3
    try clear hcz23_0
    try clear hcz23_1
    try clear hcz23_2
    try clear hcz23_3
    try clear hfz14_0
    try clear hfz14_1
    try clear hfz14_2
    try clear hfz14_3
    try clear hfz18_0
    try clear hfz18_1
    try clear hfz18_2
    try clear hfz18_3
    try clear hfz23_0
    try clear hfz23_1
    try clear hfz23_2
    try clear hfz23_3
    obtain ⟨kq,x18_2,rfl,HA,HJ2,BK308,BK309,BK310,BK311,HB⟩ := hcut
    cases kq with
    | zero => exact absurd HA.out (by simp [impl_crossed.j0])
    | succ kj2 =>
      have H := HA.out
      clear HA
      simp only [impl_crossed.j0] at H
      by_cases c25 : x18_2 = true
      · subst c25
        have H1 : (some (false,0,0,false,0,0,false)) = some (r1,r2,r3,r4,r5,r6,r7) := by rw [if_pos rfl] at H;exact H
        clear H
        have H := H1
        clear H1
        simp only [Option.some.injEq,Prod.mk.injEq] at H
        obtain ⟨rfl,rfl,rfl,rfl,rfl,rfl,rfl⟩ := H
        have hnb26 := NB310_308.out
        have hnc26 := NB308_310.out
        have hnb27 := NB310_309.out
        have hnc27 := NB309_310.out
        have hnb28 := NB310_311.out
        have hnc28 := NB311_310.out
        obtain ⟨hcz29_0,hcz29_1,hcz29_2,hfz29_0,hfz29_1,hfz29_2⟩ := impl_crossed.cells3 BK310.out
        have hnb30 := NB311_308.out
        have hnc30 := NB308_311.out
        have hnb31 := NB311_309.out
        have hnc31 := NB309_311.out
        obtain ⟨hcz32_0,hcz32_1,hcz32_2,hfz32_0,hfz32_1,hfz32_2⟩ := impl_crossed.cells3 BK311.out
        go_wp2
        refine bodyPost_ret (results_list (rs := [.cell 4 28,.cell 5 28,.tmp 6]) rfl Z596 (.cell gb310 28 #[.bool false,.int .u64 0,.int .u64 0] (0,0) _ rfl (by refine bP ?_;refine blk_far ?_ NB310_311.out _;refine bP ?_;refine blk_far ?_ NB310_311.out _;refine bP ?_;refine blk_far ?_ NB310_311.out _;refine bP ?_;refine blk_put (cs := #[.bool false,.int .u64 0,.int .u64 0]) ?_ 2 _ rfl;refine bP ?_;refine blk_put (cs := #[.bool false,.int .u64 0,.int .u64 0]) ?_ 1 _ rfl;refine bP ?_;refine blk_put (cs := #[.bool false,.int .u64 0,.int .u64 0]) ?_ 0 _ rfl;refine bP ?_;exact BK310.out) Try.underlying28 rfl Z580 (.cell gb311 28 #[.bool false,.int .u64 0,.int .u64 0] (0,0) _ rfl (by refine bP ?_;refine blk_put (cs := #[.bool false,.int .u64 0,.int .u64 0]) ?_ 2 _ rfl;refine bP ?_;refine blk_put (cs := #[.bool false,.int .u64 0,.int .u64 0]) ?_ 1 _ rfl;refine bP ?_;refine blk_put (cs := #[.bool false,.int .u64 0,.int .u64 0]) ?_ 0 _ rfl;refine bP ?_;refine blk_far ?_ NB311_310.out _;refine bP ?_;refine blk_far ?_ NB311_310.out _;refine bP ?_;refine blk_far ?_ NB311_310.out _;refine bP ?_;exact BK311.out) Try.underlying28 rfl Z580 (.tmp .nil)))) rfl ?_
        exact ⟨Z400,Z408⟩
      · replace c25 := Bool.eq_false_iff.mpr c25
        subst c25
        have H1 : ((impl_ScaleWide.f a0_0 a0_1 a0_2 a1_3).bind fun bt314 => ((impl_ScaleWide.f a1_0 a1_1 a1_2 a0_3).bind fun bt319 => (if bt314.2.2.2 = true then (some (bt314.1,bt314.2.1,bt314.2.2.1,bt319.1,bt319.2.1,bt319.2.2.1,bt319.2.2.2)) else (some (bt314.1,bt314.2.1,bt314.2.2.1,bt319.1,bt319.2.1,bt319.2.2.1,false))))) = some (r1,r2,r3,r4,r5,r6,r7) := by rw [if_neg (show ¬ (false = true) by decide)] at H;exact H
        clear H
        have H := H1
        clear H1
        obtain ⟨⟨t314,t315,t316,t317⟩,A330,H⟩ := Option.bind_eq_some_iff.mp H
        try dsimp only at H
        have A33 := Aside0.mk A330
        clear A330
        obtain ⟨⟨t319,t320,t321,t322⟩,A340,H⟩ := Option.bind_eq_some_iff.mp H
        try dsimp only at H
        have A34 := Aside0.mk A340
        clear A340
        by_cases c35 : t317 = true
        · subst c35
          have H1 : (some (t314,t315,t316,t319,t320,t321,t322)) = some (r1,r2,r3,r4,r5,r6,r7) := by rw [if_pos rfl] at H;exact H
          clear H
          have H := H1
          clear H1
          simp only [Option.some.injEq,Prod.mk.injEq] at H
          obtain ⟨rfl,rfl,rfl,rfl,rfl,rfl,rfl⟩ := H
          have hnb36 := NB308_309.out
          have hnc36 := NB309_308.out
          have hnb37 := NB308_310.out
          have hnc37 := NB310_308.out
          have hnb38 := NB308_311.out
          have hnc38 := NB311_308.out
          obtain ⟨hcz39_0,hcz39_1,hcz39_2,hcz39_3,hfz39_0,hfz39_1,hfz39_2,hfz39_3⟩ := impl_crossed.cells4 BK308.out
          have hnb40 := NB309_310.out
          have hnc40 := NB310_309.out
          have hnb41 := NB309_311.out
          have hnc41 := NB311_309.out
          obtain ⟨hcz42_0,hcz42_1,hcz42_2,hcz42_3,hfz42_0,hfz42_1,hfz42_2,hfz42_3⟩ := impl_crossed.cells4 BK309.out
          try go_wp2_with (first | ((with_reducible refine gate_callee (f := 68) rfl ?_);refine goesL_ (some 26) rfl rfl Try.func68 Z580 rfl #[.agg #[.bool a0_0,.int .u64 a0_1,.int .u64 a0_2],.int .i64 a1_3] rfl Z395 ?_;(with_reducible refine (impl_ScaleWide.calls a0_0 a0_1 a0_2 a1_3 t314 t315 t316 true _ A33.out).mono ?_);rintro e w43 ⟨rfl,hb⟩;refine ⟨_,rfl,?_⟩;have n_ := jA (blk_below (g := gb308) (o := .cells #[.bool a0_0,.int .u64 a0_1,.int .u64 a0_2,.int .i64 a0_3] 30 (0,0)) Z528 hb) (jA (blk_below (g := gb309) (o := .cells #[.bool a1_0,.int .u64 a1_1,.int .u64 a1_2,.int .i64 a1_3] 30 (0,0)) Z530 hb) (jA (blk_below (g := gb310) (o := .cells #[.bool false,.int .u64 0,.int .u64 0] 28 (0,0)) Z535 hb) (jA (blk_below (g := gb311) (o := .cells #[.bool false,.int .u64 0,.int .u64 0] 28 (0,0)) Z538 hb) (Aside0.mk (below_step Z408 hb)))));clear BK308 BK309 BK310 BK311 HB;obtain ⟨BK308,BK309,BK310,BK311,HB⟩ := n_;(try clear hb);(try clear hb2);(try clear hk);(try clear hi)) | ((with_reducible refine gate_dst (N := 7) rfl ?_);refine box_event ?hg (N := 7) ?hd (cs := #[.bool false,.int .u64 0,.int .u64 0]) (t := 28) ?hr ?_;(case hd => rfl);(case hg => rfl);(case hr => exact Z515);intro gb318 hg w44 hbox hb;have n_ := jA (blk_below (g := gb308) (o := .cells #[.bool a0_0,.int .u64 a0_1,.int .u64 a0_2,.int .i64 a0_3] 30 (0,0)) Z528 hb) (jA (blk_below (g := gb309) (o := .cells #[.bool a1_0,.int .u64 a1_1,.int .u64 a1_2,.int .i64 a1_3] 30 (0,0)) Z530 hb) (jA (blk_below (g := gb310) (o := .cells #[.bool false,.int .u64 0,.int .u64 0] 28 (0,0)) Z535 hb) (jA (blk_below (g := gb311) (o := .cells #[.bool false,.int .u64 0,.int .u64 0] 28 (0,0)) Z538 hb) (jA (below_step Z408 hb) (jA (hbox) (jA ((Z60 : w.heap.size ≤ gb318)) (jA ((Z60 : w.heap.size ≤ gb318)) (jA ((Z282 : gb308 ≠ gb318)) (jA ((Z284 : gb318 ≠ gb308)) (jA ((Z287 : gb309 ≠ gb318)) (jA ((Z291 : gb318 ≠ gb309)) (jA ((Z357 : gb310 ≠ gb318)) (jA ((Z359 : gb318 ≠ gb310)) (jA ((Z361 : gb311 ≠ gb318)) (Aside0.mk ((Z365 : gb318 ≠ gb311)))))))))))))))));clear BK308 BK309 BK310 BK311 HB;obtain ⟨BK308,BK309,BK310,BK311,HB,BK318,GW318,GE318,NB308_318,NB318_308,NB309_318,NB318_309,NB310_318,NB318_310,NB311_318,NB318_311⟩ := n_;clear hb hbox hg;have hnb45 := NB318_308.out;have hnc45 := NB308_318.out;have hnb46 := NB318_309.out;have hnc46 := NB309_318.out;have hnb47 := NB318_310.out;have hnc47 := NB310_318.out;have hnb48 := NB318_311.out;have hnc48 := NB311_318.out;obtain ⟨hcz49_0,hcz49_1,hcz49_2,hfz49_0,hfz49_1,hfz49_2⟩ := impl_crossed.cells3 BK318.out;obtain ⟨hcz50_0,hcz50_1,hcz50_2,hcz50_3,hfz50_0,hfz50_1,hfz50_2,hfz50_3⟩ := impl_crossed.cells4 BK309.out;obtain ⟨hcz51_0,hcz51_1,hcz51_2,hcz51_3,hfz51_0,hfz51_1,hfz51_2,hfz51_3⟩ := impl_crossed.cells4 BK308.out) | ((with_reducible refine gate_callee (f := 68) rfl ?_);refine goesL_ (some 34) rfl rfl Try.func68 Z580 rfl #[.agg #[.bool a1_0,.int .u64 a1_1,.int .u64 a1_2],.int .i64 a0_3] rfl Z395 ?_;(with_reducible refine (impl_ScaleWide.calls a1_0 a1_1 a1_2 a0_3 t319 t320 t321 t322 _ A34.out).mono ?_);rintro e w52 ⟨rfl,hb⟩;refine ⟨_,rfl,?_⟩;have n_ := jA (blk_below (g := gb308) (o := .cells #[.bool a0_0,.int .u64 a0_1,.int .u64 a0_2,.int .i64 a0_3] 30 (0,0)) Z241 hb) (jA (blk_below (g := gb309) (o := .cells #[.bool a1_0,.int .u64 a1_1,.int .u64 a1_2,.int .i64 a1_3] 30 (0,0)) Z240 hb) (jA (blk_below (g := gb310) (o := .cells #[.bool false,.int .u64 0,.int .u64 0] 28 (0,0)) Z239 hb) (jA (blk_below (g := gb311) (o := .cells #[.bool false,.int .u64 0,.int .u64 0] 28 (0,0)) Z238 hb) (jA (blk_below (g := gb318) (o := .cells #[.bool t314,.int .u64 t315,.int .u64 t316] 28 (0,0)) Z72 hb) (Aside0.mk (below_step Z405 hb))))));clear BK308 BK309 BK310 BK311 BK318 HB;obtain ⟨BK308,BK309,BK310,BK311,BK318,HB⟩ := n_;(try clear hb);(try clear hb2);(try clear hk);(try clear hi)) | ((with_reducible refine gate_dst (N := 9) rfl ?_);refine box_event ?hg (N := 9) ?hd (cs := #[.bool false,.int .u64 0,.int .u64 0]) (t := 28) ?hr ?_;(case hd => rfl);(case hg => rfl);(case hr => exact Z515);intro gb323 hg w53 hbox hb;have n_ := jA (blk_below (g := gb308) (o := .cells #[.bool a0_0,.int .u64 a0_1,.int .u64 a0_2,.int .i64 a0_3] 30 (0,0)) Z528 hb) (jA (blk_below (g := gb309) (o := .cells #[.bool a1_0,.int .u64 a1_1,.int .u64 a1_2,.int .i64 a1_3] 30 (0,0)) Z530 hb) (jA (blk_below (g := gb310) (o := .cells #[.bool false,.int .u64 0,.int .u64 0] 28 (0,0)) Z535 hb) (jA (blk_below (g := gb311) (o := .cells #[.bool false,.int .u64 0,.int .u64 0] 28 (0,0)) Z538 hb) (jA (blk_below (g := gb318) (o := .cells #[.bool t314,.int .u64 t315,.int .u64 t316] 28 (0,0)) Z573 hb) (jA (below_step Z405 hb) (jA (hbox) (jA ((Z39 : w.heap.size ≤ gb323)) (jA ((Z39 : w.heap.size ≤ gb323)) (jA ((Z282 : gb308 ≠ gb323)) (jA ((Z284 : gb323 ≠ gb308)) (jA ((Z287 : gb309 ≠ gb323)) (jA ((Z291 : gb323 ≠ gb309)) (jA ((Z357 : gb310 ≠ gb323)) (jA ((Z359 : gb323 ≠ gb310)) (jA ((Z361 : gb311 ≠ gb323)) (jA ((Z365 : gb323 ≠ gb311)) (jA ((Z347 : gb318 ≠ gb323)) (Aside0.mk ((Z351 : gb323 ≠ gb318))))))))))))))))))));clear BK308 BK309 BK310 BK311 BK318 HB;obtain ⟨BK308,BK309,BK310,BK311,BK318,HB,BK323,GW323,GE323,NB308_323,NB323_308,NB309_323,NB323_309,NB310_323,NB323_310,NB311_323,NB323_311,NB318_323,NB323_318⟩ := n_;clear hb hbox hg;have hnb54 := NB323_308.out;have hnc54 := NB308_323.out;have hnb55 := NB323_309.out;have hnc55 := NB309_323.out;have hnb56 := NB323_310.out;have hnc56 := NB310_323.out;have hnb57 := NB323_311.out;have hnc57 := NB311_323.out;have hnb58 := NB323_318.out;have hnc58 := NB318_323.out;obtain ⟨hcz59_0,hcz59_1,hcz59_2,hfz59_0,hfz59_1,hfz59_2⟩ := impl_crossed.cells3 BK323.out))
          have n0_ : Aside0 ((((w53.setCell ⟨gb323,0,none⟩ (.bool t319)).setCell ⟨gb323,1,none⟩ (.int .u64 t320)).setCell ⟨gb323,2,none⟩ (.int .u64 t321)).heap[gb308]? = some (.cells #[.bool a0_0,.int .u64 a0_1,.int .u64 a0_2,.int .i64 a0_3] 30 (0,0))) := ⟨Z260⟩
          have n1_ : Aside0 ((((w53.setCell ⟨gb323,0,none⟩ (.bool t319)).setCell ⟨gb323,1,none⟩ (.int .u64 t320)).setCell ⟨gb323,2,none⟩ (.int .u64 t321)).heap[gb309]? = some (.cells #[.bool a1_0,.int .u64 a1_1,.int .u64 a1_2,.int .i64 a1_3] 30 (0,0))) := ⟨Z259⟩
          have n2_ : Aside0 ((((w53.setCell ⟨gb323,0,none⟩ (.bool t319)).setCell ⟨gb323,1,none⟩ (.int .u64 t320)).setCell ⟨gb323,2,none⟩ (.int .u64 t321)).heap[gb310]? = some (.cells #[.bool false,.int .u64 0,.int .u64 0] 28 (0,0))) := ⟨Z258⟩
          have n3_ : Aside0 ((((w53.setCell ⟨gb323,0,none⟩ (.bool t319)).setCell ⟨gb323,1,none⟩ (.int .u64 t320)).setCell ⟨gb323,2,none⟩ (.int .u64 t321)).heap[gb311]? = some (.cells #[.bool false,.int .u64 0,.int .u64 0] 28 (0,0))) := ⟨Z257⟩
          have n4_ : Aside0 ((((w53.setCell ⟨gb323,0,none⟩ (.bool t319)).setCell ⟨gb323,1,none⟩ (.int .u64 t320)).setCell ⟨gb323,2,none⟩ (.int .u64 t321)).heap[gb318]? = some (.cells #[.bool t314,.int .u64 t315,.int .u64 t316] 28 (0,0))) := ⟨Z256⟩
          have n5_ : Aside0 ((((w53.setCell ⟨gb323,0,none⟩ (.bool t319)).setCell ⟨gb323,1,none⟩ (.int .u64 t320)).setCell ⟨gb323,2,none⟩ (.int .u64 t321)).heap[gb323]? = some (.cells #[.bool t319,.int .u64 t320,.int .u64 t321] 28 (0,0))) := ⟨Z75⟩
          have n6_ : Aside0 (Below w.heap.size w (((w53.setCell ⟨gb323,0,none⟩ (.bool t319)).setCell ⟨gb323,1,none⟩ (.int .u64 t320)).setCell ⟨gb323,2,none⟩ (.int .u64 t321))) := ⟨Z41⟩
          (try clear BK308)
          (try clear BK309)
          (try clear BK310)
          (try clear BK311)
          (try clear BK318)
          (try clear BK323)
          (try clear HB)
          generalize (((w53.setCell ⟨gb323,0,none⟩ (.bool t319)).setCell ⟨gb323,1,none⟩ (.int .u64 t320)).setCell ⟨gb323,2,none⟩ (.int .u64 t321)) = w60 at n0_ n1_ n2_ n3_ n4_ n5_ n6_ ⊢
          have BK308 := n0_
          have BK309 := n1_
          have BK310 := n2_
          have BK311 := n3_
          have BK318 := n4_
          have BK323 := n5_
          have HB := n6_
          clear n0_ n1_ n2_ n3_ n4_ n5_ n6_
          have n0_ := Aside0.mk (blk_drew BK308.out)
          have n1_ := Aside0.mk (blk_drew BK309.out)
          have n2_ := Aside0.mk (blk_drew BK310.out)
          have n3_ := Aside0.mk (blk_drew BK311.out)
          have n4_ := Aside0.mk (blk_drew BK318.out)
          have n5_ := Aside0.mk (blk_drew BK323.out)
          have n6_ := Aside0.mk (below_drew1 HB.out)
          clear BK308
          clear BK309
          clear BK310
          clear BK311
          clear BK318
          clear BK323
          clear HB
          have BK308 := n0_
          have BK309 := n1_
          have BK310 := n2_
          have BK311 := n3_
          have BK318 := n4_
          have BK323 := n5_
          have HB := n6_
          clear n0_ n1_ n2_ n3_ n4_ n5_ n6_
          refine start_ (n := 9) (S := fun w' => w'.cell? ⟨gb318,0,none⟩ = some (.bool t314) ∧ w'.cell? ⟨gb318,1,none⟩ = some (.int .u64 t315) ∧ w'.cell? ⟨gb318,2,none⟩ = some (.int .u64 t316) ∧ w'.cell? ⟨gb323,0,none⟩ = some (.bool t319) ∧ w'.cell? ⟨gb323,1,none⟩ = some (.int .u64 t320) ∧ w'.cell? ⟨gb323,2,none⟩ = some (.int .u64 t321)) (ds := []) #[false,false,false,false,false,false,false,false,false] Z580 rfl rfl ⟨(blk_cell BK318.out 0).trans rfl,(blk_cell BK318.out 1).trans rfl,(blk_cell BK318.out 2).trans rfl,(blk_cell BK323.out 0).trans rfl,(blk_cell BK323.out 1).trans rfl,(blk_cell BK323.out 2).trans rfl⟩ (fun hHeld => ?_);refine with_tabW impl_crossed.tab5 impl_crossed.bits5 (fun HT_ HW_ => ?_)
          generalize w60.drew = w61 at BK308 BK309 BK310 BK311 BK318 BK323 HB hHeld ⊢
          refine pure_ (i := 2) (N := some 39) (v := ?_) (a' := ?_) #[false,false,true,false,false,false,false,false,false] rfl rfl (any_of HT_.out Z580) (fun _ _ _ h => h) (Or.inl ⟨Z582,?_⟩) ?_ ?_
          rotate_left
          · intro w'
            go_simp
            with_reducible rfl
          rotate_left
          · simp only [Act.put,List.setIfInBounds_toArray,List.set_cons_zero,List.set_cons_succ,i64_w,i32_w]
            rfl
          refine pure_ (i := 3) (N := some 40) (v := ?_) (a' := ?_) #[false,false,true,true,false,false,false,false,false] rfl rfl (any_of HT_.out Z580) (fun _ _ _ h => h) (Or.inl ⟨Z582,?_⟩) ?_ ?_
          rotate_left
          · intro w'
            go_simp
            with_reducible rfl
          rotate_left
          · simp only [Act.put,List.setIfInBounds_toArray,List.set_cons_zero,List.set_cons_succ,i64_w,i32_w]
            rfl
          refine pure_ (i := 4) (N := some 41) (v := ?_) (a' := ?_) #[false,false,true,true,true,false,false,false,false] rfl rfl (any_of HT_.out Z580) (fun _ _ _ h => h) (Or.inl ⟨Z582,?_⟩) ?_ ?_
          rotate_left
          · intro w'
            go_simp
            with_reducible rfl
          rotate_left
          · simp only [Act.put,List.setIfInBounds_toArray,List.set_cons_zero,List.set_cons_succ,i64_w,i32_w]
            rfl
          refine pure_ (i := 5) (N := some 42) (v := ?_) (a' := ?_) #[false,false,true,true,true,true,false,false,false] rfl rfl (any_of HT_.out Z580) (fun _ _ _ h => h) (Or.inl ⟨Z582,?_⟩) ?_ ?_
          rotate_left
          · intro w'
            go_simp
            with_reducible rfl
          rotate_left
          · simp only [Act.put,List.setIfInBounds_toArray,List.set_cons_zero,List.set_cons_succ,i64_w,i32_w]
            rfl
          refine take_ (i := 0) (N := some 37) (v := ?_) (a' := ?_) #[true,false,true,true,true,true,false,false,false] rfl rfl (take_ofW HT_.out HW_.out Z580) (fun _ _ _ h => h) (Or.inl ⟨Z582,?_⟩) hHeld ?_ ?_
          rotate_left
          · rintro w' ⟨s0,s1,s2,s3,s4,s5⟩
            go_simp
            with_reducible rfl
          rotate_left
          · simp only [Act.put,List.setIfInBounds_toArray,List.set_cons_zero,List.set_cons_succ,i64_w,i32_w]
            rfl
          refine take_ (i := 1) (N := some 38) (v := ?_) (a' := ?_) #[true,true,true,true,true,true,false,false,false] rfl rfl (take_ofW HT_.out HW_.out Z580) (fun _ _ _ h => h) (Or.inl ⟨Z582,?_⟩) hHeld ?_ ?_
          rotate_left
          · rintro w' ⟨s0,s1,s2,s3,s4,s5⟩
            go_simp
            with_reducible rfl
          rotate_left
          · simp only [Act.put,List.setIfInBounds_toArray,List.set_cons_zero,List.set_cons_succ,i64_w,i32_w]
            rfl
          refine one_ (i := 6) (N := none) #[true,true,true,true,true,true,true,false,false] rfl rfl (one_of HT_.out Z580) Z581 (fun K hK => ?_)
          have hs62 : w61.cell? ⟨gb310,0,none⟩ = some (.bool false) := (blk_cell BK310.out 0).trans rfl
          have hfs62 := blk_frozen BK310.out 0
          have hns62_0 := NB308_310.out
          have hns62_1 := NB309_310.out
          have hns62_3 := NB311_310.out
          have hns62_4 := NB318_310.out
          have hns62_5 := NB323_310.out
          have hms62_0 := NB310_308.out
          have hms62_1 := NB310_309.out
          have hms62_3 := NB310_311.out
          have hms62_4 := NB310_318.out
          have hms62_5 := NB310_323.out
          have hs63 : w61.cell? ⟨gb310,1,none⟩ = some (.int .u64 0) := (blk_cell BK310.out 1).trans rfl
          have hfs63 := blk_frozen BK310.out 1
          have hns63_0 := NB308_310.out
          have hns63_1 := NB309_310.out
          have hns63_3 := NB311_310.out
          have hns63_4 := NB318_310.out
          have hns63_5 := NB323_310.out
          have hms63_0 := NB310_308.out
          have hms63_1 := NB310_309.out
          have hms63_3 := NB310_311.out
          have hms63_4 := NB310_318.out
          have hms63_5 := NB310_323.out
          have hs64 : w61.cell? ⟨gb310,2,none⟩ = some (.int .u64 0) := (blk_cell BK310.out 2).trans rfl
          have hfs64 := blk_frozen BK310.out 2
          have hns64_0 := NB308_310.out
          have hns64_1 := NB309_310.out
          have hns64_3 := NB311_310.out
          have hns64_4 := NB318_310.out
          have hns64_5 := NB323_310.out
          have hms64_0 := NB310_308.out
          have hms64_1 := NB310_309.out
          have hms64_3 := NB310_311.out
          have hms64_4 := NB310_318.out
          have hms64_5 := NB310_323.out
          refine skip_ (w1 := ?_) Z582 rfl ?_ ?_
          rotate_left
          · go_simp
            rfl
          refine hK.out _ _ ⟨((cell_far (p := ⟨gb310,_,none⟩) NB318_310.out _).trans (((cell_far (p := ⟨gb310,_,none⟩) NB318_310.out _).trans (((cell_far (p := ⟨gb310,_,none⟩) NB318_310.out _).trans (hHeld.1)))))),((cell_far (p := ⟨gb310,_,none⟩) NB318_310.out _).trans (((cell_far (p := ⟨gb310,_,none⟩) NB318_310.out _).trans (((cell_far (p := ⟨gb310,_,none⟩) NB318_310.out _).trans (hHeld.2.1)))))),((cell_far (p := ⟨gb310,_,none⟩) NB318_310.out _).trans (((cell_far (p := ⟨gb310,_,none⟩) NB318_310.out _).trans (((cell_far (p := ⟨gb310,_,none⟩) NB318_310.out _).trans (hHeld.2.2.1)))))),((cell_far (p := ⟨gb310,_,none⟩) NB323_310.out _).trans (((cell_far (p := ⟨gb310,_,none⟩) NB323_310.out _).trans (((cell_far (p := ⟨gb310,_,none⟩) NB323_310.out _).trans (hHeld.2.2.2.1)))))),((cell_far (p := ⟨gb310,_,none⟩) NB323_310.out _).trans (((cell_far (p := ⟨gb310,_,none⟩) NB323_310.out _).trans (((cell_far (p := ⟨gb310,_,none⟩) NB323_310.out _).trans (hHeld.2.2.2.2.1)))))),((cell_far (p := ⟨gb310,_,none⟩) NB323_310.out _).trans (((cell_far (p := ⟨gb310,_,none⟩) NB323_310.out _).trans (((cell_far (p := ⟨gb310,_,none⟩) NB323_310.out _).trans (hHeld.2.2.2.2.2))))))⟩ (fun hHeld => ?_)
          clear hK K
          refine one_ (i := 7) (N := none) #[true,true,true,true,true,true,true,true,false] rfl rfl (one_of HT_.out Z580) Z581 (fun K hK => ?_)
          have hs65 : w61.cell? ⟨gb311,0,none⟩ = some (.bool false) := (blk_cell BK311.out 0).trans rfl
          have hfs65 := blk_frozen BK311.out 0
          have hns65_0 := NB308_311.out
          have hns65_1 := NB309_311.out
          have hns65_2 := NB310_311.out
          have hns65_4 := NB318_311.out
          have hns65_5 := NB323_311.out
          have hms65_0 := NB311_308.out
          have hms65_1 := NB311_309.out
          have hms65_2 := NB311_310.out
          have hms65_4 := NB311_318.out
          have hms65_5 := NB311_323.out
          have hs66 : w61.cell? ⟨gb311,1,none⟩ = some (.int .u64 0) := (blk_cell BK311.out 1).trans rfl
          have hfs66 := blk_frozen BK311.out 1
          have hns66_0 := NB308_311.out
          have hns66_1 := NB309_311.out
          have hns66_2 := NB310_311.out
          have hns66_4 := NB318_311.out
          have hns66_5 := NB323_311.out
          have hms66_0 := NB311_308.out
          have hms66_1 := NB311_309.out
          have hms66_2 := NB311_310.out
          have hms66_4 := NB311_318.out
          have hms66_5 := NB311_323.out
          have hs67 : w61.cell? ⟨gb311,2,none⟩ = some (.int .u64 0) := (blk_cell BK311.out 2).trans rfl
          have hfs67 := blk_frozen BK311.out 2
          have hns67_0 := NB308_311.out
          have hns67_1 := NB309_311.out
          have hns67_2 := NB310_311.out
          have hns67_4 := NB318_311.out
          have hns67_5 := NB323_311.out
          have hms67_0 := NB311_308.out
          have hms67_1 := NB311_309.out
          have hms67_2 := NB311_310.out
          have hms67_4 := NB311_318.out
          have hms67_5 := NB311_323.out
          refine skip_ (w1 := ?_) Z582 rfl ?_ ?_
          rotate_left
          · go_simp
            rfl
          refine hK.out _ _ ⟨((cell_far (p := ⟨gb311,_,none⟩) NB318_311.out _).trans (((cell_far (p := ⟨gb311,_,none⟩) NB318_311.out _).trans (((cell_far (p := ⟨gb311,_,none⟩) NB318_311.out _).trans (hHeld.1)))))),((cell_far (p := ⟨gb311,_,none⟩) NB318_311.out _).trans (((cell_far (p := ⟨gb311,_,none⟩) NB318_311.out _).trans (((cell_far (p := ⟨gb311,_,none⟩) NB318_311.out _).trans (hHeld.2.1)))))),((cell_far (p := ⟨gb311,_,none⟩) NB318_311.out _).trans (((cell_far (p := ⟨gb311,_,none⟩) NB318_311.out _).trans (((cell_far (p := ⟨gb311,_,none⟩) NB318_311.out _).trans (hHeld.2.2.1)))))),((cell_far (p := ⟨gb311,_,none⟩) NB323_311.out _).trans (((cell_far (p := ⟨gb311,_,none⟩) NB323_311.out _).trans (((cell_far (p := ⟨gb311,_,none⟩) NB323_311.out _).trans (hHeld.2.2.2.1)))))),((cell_far (p := ⟨gb311,_,none⟩) NB323_311.out _).trans (((cell_far (p := ⟨gb311,_,none⟩) NB323_311.out _).trans (((cell_far (p := ⟨gb311,_,none⟩) NB323_311.out _).trans (hHeld.2.2.2.2.1)))))),((cell_far (p := ⟨gb311,_,none⟩) NB323_311.out _).trans (((cell_far (p := ⟨gb311,_,none⟩) NB323_311.out _).trans (((cell_far (p := ⟨gb311,_,none⟩) NB323_311.out _).trans (hHeld.2.2.2.2.2))))))⟩ (fun hHeld => ?_)
          clear hK K
          refine pure_ (i := 8) (N := some 6) (v := ?_) (a' := ?_) #[true,true,true,true,true,true,true,true,true] rfl rfl (any_of HT_.out Z580) (fun _ _ _ h => h) (Or.inl ⟨Z582,?_⟩) ?_ ?_
          rotate_left
          · intro w'
            go_simp
            with_reducible rfl
          rotate_left
          · simp only [Act.put,List.setIfInBounds_toArray,List.set_cons_zero,List.set_cons_succ,i64_w,i32_w]
            rfl
          refine done_ (done_of HT_.out Z580) ?_
          try go_wp2
          refine bodyPost_ret (results_list (rs := [.cell 4 28,.cell 5 28,.tmp 6]) rfl Z596 (.cell gb310 28 #[.bool t314,.int .u64 t315,.int .u64 t316] (0,0) _ rfl Z14 Try.underlying28 rfl Z580 (.cell gb311 28 #[.bool t319,.int .u64 t320,.int .u64 t321] (0,0) _ rfl Z11 Try.underlying28 rfl Z580 (.tmp .nil)))) rfl ?_
          exact ⟨Z400,Z41⟩
        · replace c35 := Bool.eq_false_iff.mpr c35
          subst c35
          have H1 : (some (t314,t315,t316,t319,t320,t321,false)) = some (r1,r2,r3,r4,r5,r6,r7) := by rw [if_neg (show ¬ (false = true) by decide)] at H;exact H
          clear H
          have H := H1
          clear H1
          simp only [Option.some.injEq,Prod.mk.injEq] at H
          obtain ⟨rfl,rfl,rfl,rfl,rfl,rfl,rfl⟩ := H
          have hnb68 := NB308_309.out
          have hnc68 := NB309_308.out
          have hnb69 := NB308_310.out
          have hnc69 := NB310_308.out
          have hnb70 := NB308_311.out
          have hnc70 := NB311_308.out
          obtain ⟨hcz71_0,hcz71_1,hcz71_2,hcz71_3,hfz71_0,hfz71_1,hfz71_2,hfz71_3⟩ := impl_crossed.cells4 BK308.out
          have hnb72 := NB309_310.out
          have hnc72 := NB310_309.out
          have hnb73 := NB309_311.out
          have hnc73 := NB311_309.out
          obtain ⟨hcz74_0,hcz74_1,hcz74_2,hcz74_3,hfz74_0,hfz74_1,hfz74_2,hfz74_3⟩ := impl_crossed.cells4 BK309.out
          try go_wp2_with (first | ((with_reducible refine gate_callee (f := 68) rfl ?_);refine goesL_ (some 26) rfl rfl Try.func68 Z580 rfl #[.agg #[.bool a0_0,.int .u64 a0_1,.int .u64 a0_2],.int .i64 a1_3] rfl Z395 ?_;(with_reducible refine (impl_ScaleWide.calls a0_0 a0_1 a0_2 a1_3 t314 t315 t316 false _ A33.out).mono ?_);rintro e w75 ⟨rfl,hb⟩;refine ⟨_,rfl,?_⟩;have n_ := jA (blk_below (g := gb308) (o := .cells #[.bool a0_0,.int .u64 a0_1,.int .u64 a0_2,.int .i64 a0_3] 30 (0,0)) Z528 hb) (jA (blk_below (g := gb309) (o := .cells #[.bool a1_0,.int .u64 a1_1,.int .u64 a1_2,.int .i64 a1_3] 30 (0,0)) Z530 hb) (jA (blk_below (g := gb310) (o := .cells #[.bool false,.int .u64 0,.int .u64 0] 28 (0,0)) Z535 hb) (jA (blk_below (g := gb311) (o := .cells #[.bool false,.int .u64 0,.int .u64 0] 28 (0,0)) Z538 hb) (Aside0.mk (below_step Z408 hb)))));clear BK308 BK309 BK310 BK311 HB;obtain ⟨BK308,BK309,BK310,BK311,HB⟩ := n_;(try clear hb);(try clear hb2);(try clear hk);(try clear hi)) | ((with_reducible refine gate_dst (N := 7) rfl ?_);refine box_event ?hg (N := 7) ?hd (cs := #[.bool false,.int .u64 0,.int .u64 0]) (t := 28) ?hr ?_;(case hd => rfl);(case hg => rfl);(case hr => exact Z515);intro gb318 hg w76 hbox hb;have n_ := jA (blk_below (g := gb308) (o := .cells #[.bool a0_0,.int .u64 a0_1,.int .u64 a0_2,.int .i64 a0_3] 30 (0,0)) Z528 hb) (jA (blk_below (g := gb309) (o := .cells #[.bool a1_0,.int .u64 a1_1,.int .u64 a1_2,.int .i64 a1_3] 30 (0,0)) Z530 hb) (jA (blk_below (g := gb310) (o := .cells #[.bool false,.int .u64 0,.int .u64 0] 28 (0,0)) Z535 hb) (jA (blk_below (g := gb311) (o := .cells #[.bool false,.int .u64 0,.int .u64 0] 28 (0,0)) Z538 hb) (jA (below_step Z408 hb) (jA (hbox) (jA ((Z60 : w.heap.size ≤ gb318)) (jA ((Z60 : w.heap.size ≤ gb318)) (jA ((Z282 : gb308 ≠ gb318)) (jA ((Z284 : gb318 ≠ gb308)) (jA ((Z287 : gb309 ≠ gb318)) (jA ((Z291 : gb318 ≠ gb309)) (jA ((Z357 : gb310 ≠ gb318)) (jA ((Z359 : gb318 ≠ gb310)) (jA ((Z361 : gb311 ≠ gb318)) (Aside0.mk ((Z365 : gb318 ≠ gb311)))))))))))))))));clear BK308 BK309 BK310 BK311 HB;obtain ⟨BK308,BK309,BK310,BK311,HB,BK318,GW318,GE318,NB308_318,NB318_308,NB309_318,NB318_309,NB310_318,NB318_310,NB311_318,NB318_311⟩ := n_;clear hb hbox hg;have hnb77 := NB318_308.out;have hnc77 := NB308_318.out;have hnb78 := NB318_309.out;have hnc78 := NB309_318.out;have hnb79 := NB318_310.out;have hnc79 := NB310_318.out;have hnb80 := NB318_311.out;have hnc80 := NB311_318.out;obtain ⟨hcz81_0,hcz81_1,hcz81_2,hfz81_0,hfz81_1,hfz81_2⟩ := impl_crossed.cells3 BK318.out;obtain ⟨hcz82_0,hcz82_1,hcz82_2,hcz82_3,hfz82_0,hfz82_1,hfz82_2,hfz82_3⟩ := impl_crossed.cells4 BK309.out;obtain ⟨hcz83_0,hcz83_1,hcz83_2,hcz83_3,hfz83_0,hfz83_1,hfz83_2,hfz83_3⟩ := impl_crossed.cells4 BK308.out) | ((with_reducible refine gate_callee (f := 68) rfl ?_);refine goesL_ (some 34) rfl rfl Try.func68 Z580 rfl #[.agg #[.bool a1_0,.int .u64 a1_1,.int .u64 a1_2],.int .i64 a0_3] rfl Z395 ?_;(with_reducible refine (impl_ScaleWide.calls a1_0 a1_1 a1_2 a0_3 t319 t320 t321 t322 _ A34.out).mono ?_);rintro e w84 ⟨rfl,hb⟩;refine ⟨_,rfl,?_⟩;have n_ := jA (blk_below (g := gb308) (o := .cells #[.bool a0_0,.int .u64 a0_1,.int .u64 a0_2,.int .i64 a0_3] 30 (0,0)) Z241 hb) (jA (blk_below (g := gb309) (o := .cells #[.bool a1_0,.int .u64 a1_1,.int .u64 a1_2,.int .i64 a1_3] 30 (0,0)) Z240 hb) (jA (blk_below (g := gb310) (o := .cells #[.bool false,.int .u64 0,.int .u64 0] 28 (0,0)) Z239 hb) (jA (blk_below (g := gb311) (o := .cells #[.bool false,.int .u64 0,.int .u64 0] 28 (0,0)) Z238 hb) (jA (blk_below (g := gb318) (o := .cells #[.bool t314,.int .u64 t315,.int .u64 t316] 28 (0,0)) Z72 hb) (Aside0.mk (below_step Z405 hb))))));clear BK308 BK309 BK310 BK311 BK318 HB;obtain ⟨BK308,BK309,BK310,BK311,BK318,HB⟩ := n_;(try clear hb);(try clear hb2);(try clear hk);(try clear hi)) | ((with_reducible refine gate_dst (N := 9) rfl ?_);refine box_event ?hg (N := 9) ?hd (cs := #[.bool false,.int .u64 0,.int .u64 0]) (t := 28) ?hr ?_;(case hd => rfl);(case hg => rfl);(case hr => exact Z515);intro gb323 hg w85 hbox hb;have n_ := jA (blk_below (g := gb308) (o := .cells #[.bool a0_0,.int .u64 a0_1,.int .u64 a0_2,.int .i64 a0_3] 30 (0,0)) Z528 hb) (jA (blk_below (g := gb309) (o := .cells #[.bool a1_0,.int .u64 a1_1,.int .u64 a1_2,.int .i64 a1_3] 30 (0,0)) Z530 hb) (jA (blk_below (g := gb310) (o := .cells #[.bool false,.int .u64 0,.int .u64 0] 28 (0,0)) Z535 hb) (jA (blk_below (g := gb311) (o := .cells #[.bool false,.int .u64 0,.int .u64 0] 28 (0,0)) Z538 hb) (jA (blk_below (g := gb318) (o := .cells #[.bool t314,.int .u64 t315,.int .u64 t316] 28 (0,0)) Z573 hb) (jA (below_step Z405 hb) (jA (hbox) (jA ((Z39 : w.heap.size ≤ gb323)) (jA ((Z39 : w.heap.size ≤ gb323)) (jA ((Z282 : gb308 ≠ gb323)) (jA ((Z284 : gb323 ≠ gb308)) (jA ((Z287 : gb309 ≠ gb323)) (jA ((Z291 : gb323 ≠ gb309)) (jA ((Z357 : gb310 ≠ gb323)) (jA ((Z359 : gb323 ≠ gb310)) (jA ((Z361 : gb311 ≠ gb323)) (jA ((Z365 : gb323 ≠ gb311)) (jA ((Z347 : gb318 ≠ gb323)) (Aside0.mk ((Z351 : gb323 ≠ gb318))))))))))))))))))));clear BK308 BK309 BK310 BK311 BK318 HB;obtain ⟨BK308,BK309,BK310,BK311,BK318,HB,BK323,GW323,GE323,NB308_323,NB323_308,NB309_323,NB323_309,NB310_323,NB323_310,NB311_323,NB323_311,NB318_323,NB323_318⟩ := n_;clear hb hbox hg;have hnb86 := NB323_308.out;have hnc86 := NB308_323.out;have hnb87 := NB323_309.out;have hnc87 := NB309_323.out;have hnb88 := NB323_310.out;have hnc88 := NB310_323.out;have hnb89 := NB323_311.out;have hnc89 := NB311_323.out;have hnb90 := NB323_318.out;have hnc90 := NB318_323.out;obtain ⟨hcz91_0,hcz91_1,hcz91_2,hfz91_0,hfz91_1,hfz91_2⟩ := impl_crossed.cells3 BK323.out))
          have n0_ : Aside0 ((((w85.setCell ⟨gb323,0,none⟩ (.bool t319)).setCell ⟨gb323,1,none⟩ (.int .u64 t320)).setCell ⟨gb323,2,none⟩ (.int .u64 t321)).heap[gb308]? = some (.cells #[.bool a0_0,.int .u64 a0_1,.int .u64 a0_2,.int .i64 a0_3] 30 (0,0))) := ⟨Z260⟩
          have n1_ : Aside0 ((((w85.setCell ⟨gb323,0,none⟩ (.bool t319)).setCell ⟨gb323,1,none⟩ (.int .u64 t320)).setCell ⟨gb323,2,none⟩ (.int .u64 t321)).heap[gb309]? = some (.cells #[.bool a1_0,.int .u64 a1_1,.int .u64 a1_2,.int .i64 a1_3] 30 (0,0))) := ⟨Z259⟩
          have n2_ : Aside0 ((((w85.setCell ⟨gb323,0,none⟩ (.bool t319)).setCell ⟨gb323,1,none⟩ (.int .u64 t320)).setCell ⟨gb323,2,none⟩ (.int .u64 t321)).heap[gb310]? = some (.cells #[.bool false,.int .u64 0,.int .u64 0] 28 (0,0))) := ⟨Z258⟩
          have n3_ : Aside0 ((((w85.setCell ⟨gb323,0,none⟩ (.bool t319)).setCell ⟨gb323,1,none⟩ (.int .u64 t320)).setCell ⟨gb323,2,none⟩ (.int .u64 t321)).heap[gb311]? = some (.cells #[.bool false,.int .u64 0,.int .u64 0] 28 (0,0))) := ⟨Z257⟩
          have n4_ : Aside0 ((((w85.setCell ⟨gb323,0,none⟩ (.bool t319)).setCell ⟨gb323,1,none⟩ (.int .u64 t320)).setCell ⟨gb323,2,none⟩ (.int .u64 t321)).heap[gb318]? = some (.cells #[.bool t314,.int .u64 t315,.int .u64 t316] 28 (0,0))) := ⟨Z256⟩
          have n5_ : Aside0 ((((w85.setCell ⟨gb323,0,none⟩ (.bool t319)).setCell ⟨gb323,1,none⟩ (.int .u64 t320)).setCell ⟨gb323,2,none⟩ (.int .u64 t321)).heap[gb323]? = some (.cells #[.bool t319,.int .u64 t320,.int .u64 t321] 28 (0,0))) := ⟨Z75⟩
          have n6_ : Aside0 (Below w.heap.size w (((w85.setCell ⟨gb323,0,none⟩ (.bool t319)).setCell ⟨gb323,1,none⟩ (.int .u64 t320)).setCell ⟨gb323,2,none⟩ (.int .u64 t321))) := ⟨Z41⟩
          (try clear BK308)
          (try clear BK309)
          (try clear BK310)
          (try clear BK311)
          (try clear BK318)
          (try clear BK323)
          (try clear HB)
          generalize (((w85.setCell ⟨gb323,0,none⟩ (.bool t319)).setCell ⟨gb323,1,none⟩ (.int .u64 t320)).setCell ⟨gb323,2,none⟩ (.int .u64 t321)) = w92 at n0_ n1_ n2_ n3_ n4_ n5_ n6_ ⊢
          have BK308 := n0_
          have BK309 := n1_
          have BK310 := n2_
          have BK311 := n3_
          have BK318 := n4_
          have BK323 := n5_
          have HB := n6_
          clear n0_ n1_ n2_ n3_ n4_ n5_ n6_
          have n0_ := Aside0.mk (blk_drew BK308.out)
          have n1_ := Aside0.mk (blk_drew BK309.out)
          have n2_ := Aside0.mk (blk_drew BK310.out)
          have n3_ := Aside0.mk (blk_drew BK311.out)
          have n4_ := Aside0.mk (blk_drew BK318.out)
          have n5_ := Aside0.mk (blk_drew BK323.out)
          have n6_ := Aside0.mk (below_drew1 HB.out)
          clear BK308
          clear BK309
          clear BK310
          clear BK311
          clear BK318
          clear BK323
          clear HB
          have BK308 := n0_
          have BK309 := n1_
          have BK310 := n2_
          have BK311 := n3_
          have BK318 := n4_
          have BK323 := n5_
          have HB := n6_
          clear n0_ n1_ n2_ n3_ n4_ n5_ n6_
          refine start_ (n := 9) (S := fun w' => w'.cell? ⟨gb318,0,none⟩ = some (.bool t314) ∧ w'.cell? ⟨gb318,1,none⟩ = some (.int .u64 t315) ∧ w'.cell? ⟨gb318,2,none⟩ = some (.int .u64 t316) ∧ w'.cell? ⟨gb323,0,none⟩ = some (.bool t319) ∧ w'.cell? ⟨gb323,1,none⟩ = some (.int .u64 t320) ∧ w'.cell? ⟨gb323,2,none⟩ = some (.int .u64 t321)) (ds := []) #[false,false,false,false,false,false,false,false,false] Z580 rfl rfl ⟨(blk_cell BK318.out 0).trans rfl,(blk_cell BK318.out 1).trans rfl,(blk_cell BK318.out 2).trans rfl,(blk_cell BK323.out 0).trans rfl,(blk_cell BK323.out 1).trans rfl,(blk_cell BK323.out 2).trans rfl⟩ (fun hHeld => ?_);refine with_tabW impl_crossed.tab5 impl_crossed.bits5 (fun HT_ HW_ => ?_)
          generalize w92.drew = w93 at BK308 BK309 BK310 BK311 BK318 BK323 HB hHeld ⊢
          refine pure_ (i := 2) (N := some 39) (v := ?_) (a' := ?_) #[false,false,true,false,false,false,false,false,false] rfl rfl (any_of HT_.out Z580) (fun _ _ _ h => h) (Or.inl ⟨Z582,?_⟩) ?_ ?_
          rotate_left
          · intro w'
            go_simp
            with_reducible rfl
          rotate_left
          · simp only [Act.put,List.setIfInBounds_toArray,List.set_cons_zero,List.set_cons_succ,i64_w,i32_w]
            rfl
          refine pure_ (i := 3) (N := some 40) (v := ?_) (a' := ?_) #[false,false,true,true,false,false,false,false,false] rfl rfl (any_of HT_.out Z580) (fun _ _ _ h => h) (Or.inl ⟨Z582,?_⟩) ?_ ?_
          rotate_left
          · intro w'
            go_simp
            with_reducible rfl
          rotate_left
          · simp only [Act.put,List.setIfInBounds_toArray,List.set_cons_zero,List.set_cons_succ,i64_w,i32_w]
            rfl
          refine pure_ (i := 4) (N := some 41) (v := undef) (a' := ?_) #[false,false,true,true,true,false,false,false,false] rfl rfl (any_of HT_.out Z580) (fun _ _ _ h => h) (Or.inr ⟨Z582,rfl⟩) ?_ ?_
          rotate_left
          · simp only [Act.put,List.setIfInBounds_toArray,List.set_cons_zero,List.set_cons_succ,i64_w,i32_w]
            rfl
          refine pure_ (i := 5) (N := some 42) (v := ?_) (a' := ?_) #[false,false,true,true,true,true,false,false,false] rfl rfl (any_of HT_.out Z580) (fun _ _ _ h => h) (Or.inl ⟨Z582,?_⟩) ?_ ?_
          rotate_left
          · intro w'
            go_simp
            with_reducible rfl
          rotate_left
          · simp only [Act.put,List.setIfInBounds_toArray,List.set_cons_zero,List.set_cons_succ,i64_w,i32_w]
            rfl
          refine take_ (i := 0) (N := some 37) (v := ?_) (a' := ?_) #[true,false,true,true,true,true,false,false,false] rfl rfl (take_ofW HT_.out HW_.out Z580) (fun _ _ _ h => h) (Or.inl ⟨Z582,?_⟩) hHeld ?_ ?_
          rotate_left
          · rintro w' ⟨s0,s1,s2,s3,s4,s5⟩
            go_simp
            with_reducible rfl
          rotate_left
          · simp only [Act.put,List.setIfInBounds_toArray,List.set_cons_zero,List.set_cons_succ,i64_w,i32_w]
            rfl
          refine take_ (i := 1) (N := some 38) (v := ?_) (a' := ?_) #[true,true,true,true,true,true,false,false,false] rfl rfl (take_ofW HT_.out HW_.out Z580) (fun _ _ _ h => h) (Or.inl ⟨Z582,?_⟩) hHeld ?_ ?_
          rotate_left
          · rintro w' ⟨s0,s1,s2,s3,s4,s5⟩
            go_simp
            with_reducible rfl
          rotate_left
          · simp only [Act.put,List.setIfInBounds_toArray,List.set_cons_zero,List.set_cons_succ,i64_w,i32_w]
            rfl
          refine one_ (i := 6) (N := none) #[true,true,true,true,true,true,true,false,false] rfl rfl (one_of HT_.out Z580) Z581 (fun K hK => ?_)
          have hs94 : w93.cell? ⟨gb310,0,none⟩ = some (.bool false) := (blk_cell BK310.out 0).trans rfl
          have hfs94 := blk_frozen BK310.out 0
          have hns94_0 := NB308_310.out
          have hns94_1 := NB309_310.out
          have hns94_3 := NB311_310.out
          have hns94_4 := NB318_310.out
          have hns94_5 := NB323_310.out
          have hms94_0 := NB310_308.out
          have hms94_1 := NB310_309.out
          have hms94_3 := NB310_311.out
          have hms94_4 := NB310_318.out
          have hms94_5 := NB310_323.out
          have hs95 : w93.cell? ⟨gb310,1,none⟩ = some (.int .u64 0) := (blk_cell BK310.out 1).trans rfl
          have hfs95 := blk_frozen BK310.out 1
          have hns95_0 := NB308_310.out
          have hns95_1 := NB309_310.out
          have hns95_3 := NB311_310.out
          have hns95_4 := NB318_310.out
          have hns95_5 := NB323_310.out
          have hms95_0 := NB310_308.out
          have hms95_1 := NB310_309.out
          have hms95_3 := NB310_311.out
          have hms95_4 := NB310_318.out
          have hms95_5 := NB310_323.out
          have hs96 : w93.cell? ⟨gb310,2,none⟩ = some (.int .u64 0) := (blk_cell BK310.out 2).trans rfl
          have hfs96 := blk_frozen BK310.out 2
          have hns96_0 := NB308_310.out
          have hns96_1 := NB309_310.out
          have hns96_3 := NB311_310.out
          have hns96_4 := NB318_310.out
          have hns96_5 := NB323_310.out
          have hms96_0 := NB310_308.out
          have hms96_1 := NB310_309.out
          have hms96_3 := NB310_311.out
          have hms96_4 := NB310_318.out
          have hms96_5 := NB310_323.out
          refine skip_ (w1 := ?_) Z582 rfl ?_ ?_
          rotate_left
          · go_simp
            rfl
          refine hK.out _ _ ⟨((cell_far (p := ⟨gb310,_,none⟩) NB318_310.out _).trans (((cell_far (p := ⟨gb310,_,none⟩) NB318_310.out _).trans (((cell_far (p := ⟨gb310,_,none⟩) NB318_310.out _).trans (hHeld.1)))))),((cell_far (p := ⟨gb310,_,none⟩) NB318_310.out _).trans (((cell_far (p := ⟨gb310,_,none⟩) NB318_310.out _).trans (((cell_far (p := ⟨gb310,_,none⟩) NB318_310.out _).trans (hHeld.2.1)))))),((cell_far (p := ⟨gb310,_,none⟩) NB318_310.out _).trans (((cell_far (p := ⟨gb310,_,none⟩) NB318_310.out _).trans (((cell_far (p := ⟨gb310,_,none⟩) NB318_310.out _).trans (hHeld.2.2.1)))))),((cell_far (p := ⟨gb310,_,none⟩) NB323_310.out _).trans (((cell_far (p := ⟨gb310,_,none⟩) NB323_310.out _).trans (((cell_far (p := ⟨gb310,_,none⟩) NB323_310.out _).trans (hHeld.2.2.2.1)))))),((cell_far (p := ⟨gb310,_,none⟩) NB323_310.out _).trans (((cell_far (p := ⟨gb310,_,none⟩) NB323_310.out _).trans (((cell_far (p := ⟨gb310,_,none⟩) NB323_310.out _).trans (hHeld.2.2.2.2.1)))))),((cell_far (p := ⟨gb310,_,none⟩) NB323_310.out _).trans (((cell_far (p := ⟨gb310,_,none⟩) NB323_310.out _).trans (((cell_far (p := ⟨gb310,_,none⟩) NB323_310.out _).trans (hHeld.2.2.2.2.2))))))⟩ (fun hHeld => ?_)
          clear hK K
          refine one_ (i := 7) (N := none) #[true,true,true,true,true,true,true,true,false] rfl rfl (one_of HT_.out Z580) Z581 (fun K hK => ?_)
          have hs97 : w93.cell? ⟨gb311,0,none⟩ = some (.bool false) := (blk_cell BK311.out 0).trans rfl
          have hfs97 := blk_frozen BK311.out 0
          have hns97_0 := NB308_311.out
          have hns97_1 := NB309_311.out
          have hns97_2 := NB310_311.out
          have hns97_4 := NB318_311.out
          have hns97_5 := NB323_311.out
          have hms97_0 := NB311_308.out
          have hms97_1 := NB311_309.out
          have hms97_2 := NB311_310.out
          have hms97_4 := NB311_318.out
          have hms97_5 := NB311_323.out
          have hs98 : w93.cell? ⟨gb311,1,none⟩ = some (.int .u64 0) := (blk_cell BK311.out 1).trans rfl
          have hfs98 := blk_frozen BK311.out 1
          have hns98_0 := NB308_311.out
          have hns98_1 := NB309_311.out
          have hns98_2 := NB310_311.out
          have hns98_4 := NB318_311.out
          have hns98_5 := NB323_311.out
          have hms98_0 := NB311_308.out
          have hms98_1 := NB311_309.out
          have hms98_2 := NB311_310.out
          have hms98_4 := NB311_318.out
          have hms98_5 := NB311_323.out
          have hs99 : w93.cell? ⟨gb311,2,none⟩ = some (.int .u64 0) := (blk_cell BK311.out 2).trans rfl
          have hfs99 := blk_frozen BK311.out 2
          have hns99_0 := NB308_311.out
          have hns99_1 := NB309_311.out
          have hns99_2 := NB310_311.out
          have hns99_4 := NB318_311.out
          have hns99_5 := NB323_311.out
          have hms99_0 := NB311_308.out
          have hms99_1 := NB311_309.out
          have hms99_2 := NB311_310.out
          have hms99_4 := NB311_318.out
          have hms99_5 := NB311_323.out
          refine skip_ (w1 := ?_) Z582 rfl ?_ ?_
          rotate_left
          · go_simp
            rfl
          refine hK.out _ _ ⟨((cell_far (p := ⟨gb311,_,none⟩) NB318_311.out _).trans (((cell_far (p := ⟨gb311,_,none⟩) NB318_311.out _).trans (((cell_far (p := ⟨gb311,_,none⟩) NB318_311.out _).trans (hHeld.1)))))),((cell_far (p := ⟨gb311,_,none⟩) NB318_311.out _).trans (((cell_far (p := ⟨gb311,_,none⟩) NB318_311.out _).trans (((cell_far (p := ⟨gb311,_,none⟩) NB318_311.out _).trans (hHeld.2.1)))))),((cell_far (p := ⟨gb311,_,none⟩) NB318_311.out _).trans (((cell_far (p := ⟨gb311,_,none⟩) NB318_311.out _).trans (((cell_far (p := ⟨gb311,_,none⟩) NB318_311.out _).trans (hHeld.2.2.1)))))),((cell_far (p := ⟨gb311,_,none⟩) NB323_311.out _).trans (((cell_far (p := ⟨gb311,_,none⟩) NB323_311.out _).trans (((cell_far (p := ⟨gb311,_,none⟩) NB323_311.out _).trans (hHeld.2.2.2.1)))))),((cell_far (p := ⟨gb311,_,none⟩) NB323_311.out _).trans (((cell_far (p := ⟨gb311,_,none⟩) NB323_311.out _).trans (((cell_far (p := ⟨gb311,_,none⟩) NB323_311.out _).trans (hHeld.2.2.2.2.1)))))),((cell_far (p := ⟨gb311,_,none⟩) NB323_311.out _).trans (((cell_far (p := ⟨gb311,_,none⟩) NB323_311.out _).trans (((cell_far (p := ⟨gb311,_,none⟩) NB323_311.out _).trans (hHeld.2.2.2.2.2))))))⟩ (fun hHeld => ?_)
          clear hK K
          refine pure_ (i := 8) (N := some 6) (v := ?_) (a' := ?_) #[true,true,true,true,true,true,true,true,true] rfl rfl (any_of HT_.out Z580) (fun _ _ _ h => h) (Or.inl ⟨Z582,?_⟩) ?_ ?_
          rotate_left
          · intro w'
            go_simp
            with_reducible rfl
          rotate_left
          · simp only [Act.put,List.setIfInBounds_toArray,List.set_cons_zero,List.set_cons_succ,i64_w,i32_w]
            rfl
          refine done_ (done_of HT_.out Z580) ?_
          try go_wp2
          refine bodyPost_ret (results_list (rs := [.cell 4 28,.cell 5 28,.tmp 6]) rfl Z596 (.cell gb310 28 #[.bool t314,.int .u64 t315,.int .u64 t316] (0,0) _ rfl Z14 Try.underlying28 rfl Z580 (.cell gb311 28 #[.bool t319,.int .u64 t320,.int .u64 t321] (0,0) _ rfl Z11 Try.underlying28 rfl Z580 (.tmp .nil)))) rfl ?_
          exact ⟨Z400,Z41⟩

/-! ### cmp_Or_int: function 55 -/
def cmp_Or_int.l0 : Nat → Int → List Int → Int → Int → Option (Int)
  | 0,_,_,_,_ => none
  | k + 1,x3,x6,x7,x8 => if x8 < x7 then (if 0 ≤ x8 then (if x8 < (x6.length : Int) then (if (rd x6 x8) = x3 then (cmp_Or_int.l0 k x3 x6 x7 (wrap64 (x8 + 1))) else (some (rd x6 x8))) else (none)) else (none)) else (some x3)
def cmp_Or_int.f (k : Nat) (l0 : List Int) : Option (Int) := cmp_Or_int.l0 k 0 l0 (l0.length : Int) 0
theorem cmp_Or_int.mono_l : ∀ k,(∀ y0 y1 y2 y3,LeO (cmp_Or_int.l0 k y0 y1 y2 y3) (cmp_Or_int.l0 (k + 1) y0 y1 y2 y3))
  | 0 => fun _ _ _ _ r h => by simp [cmp_Or_int.l0] at h
  | k + 1 => by
    have ih0 := cmp_Or_int.mono_l k
    · intro y0 y1 y2 y3
      unfold cmp_Or_int.l0
      repeat' first
      | (with_reducible exact ih0 _ _ _ _)
      | (with_reducible exact LeO.refl _)
      | (with_reducible exact LeO.none _)
      | (with_reducible refine LeO.ite ?_ ?_)
      | (with_reducible refine LeO.bind ?_ (fun _ => ?_))
      | exact ih0 _ _ _ _
      | exact LeO.none _
      | refine LeO.ite ?_ ?_
      | refine LeO.bind ?_ (fun _ => ?_)
theorem cmp_Or_int.mono : ∀ a0 k,LeO (cmp_Or_int.f k a0) (cmp_Or_int.f (k + 1) a0) := by
  intro a0 k
  have ih0 := cmp_Or_int.mono_l k
  unfold cmp_Or_int.f
  repeat' first
      | (with_reducible exact ih0 _ _ _ _)
      | (with_reducible exact LeO.refl _)
      | (with_reducible exact LeO.none _)
      | (with_reducible refine LeO.ite ?_ ?_)
      | (with_reducible refine LeO.bind ?_ (fun _ => ?_))
      | exact ih0 _ _ _ _
      | exact LeO.none _
      | refine LeO.ite ?_ ?_
      | refine LeO.bind ?_ (fun _ => ?_)
set_option maxHeartbeats 8000000 in
set_option maxRecDepth 100000 in
theorem cmp_Or_int.calls (k : Nat) (A0 : Option Addr) (c0 : Nat) (l0 : List Int) (r : Int) (w : World) (hr0 : Kd.C (Kd.int .i64) w A0 l0.length l0) (hc0 : l0.length ≤ c0) (h : cmp_Or_int.f k l0 = some r) :
    Calls Try.prog 55 #[.slice A0 l0.length c0] w fun e w' => e = .returned (.int .i64 r) ∧ Drawn0 w w' := by
  have HR0 := Aside0.mk hr0
  have HC0 := Aside0.mk hc0
  clear hr0 hc0
  have H : (cmp_Or_int.l0 k 0 l0 (l0.length : Int) 0) = some r := h
  clear h
  have H' := Aside0.mk H
  clear H
  go_enter Try.func55,Try.ntmps55
  go_wp2
  go_loopg [8] k (fun kq v8 w' => ∃ (x8_1 : Int),v8 = .int .i64 x8_1 ∧ Aside0 (cmp_Or_int.l0 kq 0 l0 (l0.length : Int) x8_1 = some r) ∧ Aside0 (kq ≤ k) ∧ Drawn0 w w')
  case atStart => exact ⟨(0),Z514,H',⟨Nat.le_refl _⟩,Z491⟩
  case round =>
    clear H'
    obtain ⟨x8_1,rfl,HA,HK1,⟨m1,rfl⟩⟩ := hrel
    cases gk with
    | zero => exact absurd HA.out (by simp [cmp_Or_int.l0])
    | succ k1 =>
      have H := HA.out
      clear HA
      simp only [cmp_Or_int.l0] at H
      by_cases c2 : x8_1 < (l0.length : Int)
      · rw [if_pos c2] at H
        have c2b0 : decide (x8_1 < (l0.length : Int)) = true := decide_eq_true c2
        clear c2
        by_cases c3 : 0 ≤ x8_1
        · rw [if_pos c3] at H
          have c3b0 : decide (0 ≤ x8_1) = true := decide_eq_true c3
          clear c3
          by_cases c4 : x8_1 < (l0.length : Int)
          · rw [if_pos c4] at H
            have c4b0 : decide (x8_1 < (l0.length : Int)) = true := decide_eq_true c4
            clear c4
            by_cases c5 : (rd l0 x8_1) = 0
            · rw [if_pos c5] at H
              have c5b0 : ((rd l0 x8_1) == 0) = true := beq_iff_eq.mpr c5
              have c5b1 : ((rd l0 x8_1) != 0) = false := bne_eq_false_iff_eq.mpr c5
              clear c5
              have H' := Aside0.mk H
              clear H
              have p324 : 0 ≤ (x8_1 : Int) := of_decide_eq_true Z513
              have q324 : x8_1 < (l0.length : Int) := of_decide_eq_true Z513
              obtain ⟨ad324,e324,hx324_0⟩ := Kd.at_int HR0.out x8_1 p324 q324
              cases e324
              replace p324 := eq_true p324
              replace q324 := eq_true q324
              go_wp2
              go_roundg k1
              case measure => have := HK1.out;omega
              case rel => exact ⟨(wrap64 (x8_1 + 1)),Z514,H',⟨by have := HK1.out;omega⟩,Z491⟩
            · rw [if_neg c5] at H
              have c5b0 : ((rd l0 x8_1) == 0) = false := beq_eq_false_iff_ne.mpr c5
              have c5b1 : ((rd l0 x8_1) != 0) = true := bne_iff_ne.mpr c5
              obtain rfl := Option.some.inj H
              have p324 : 0 ≤ (x8_1 : Int) := of_decide_eq_true Z513
              have q324 : x8_1 < (l0.length : Int) := of_decide_eq_true Z513
              obtain ⟨ad324,e324,hx324_0⟩ := Kd.at_int HR0.out x8_1 p324 q324
              cases e324
              replace p324 := eq_true p324
              replace q324 := eq_true q324
              go_wp2
              go_ret
              exact ⟨Z514,Z491⟩
          · rw [if_neg c4] at H
            exact absurd H Z596
        · rw [if_neg c3] at H
          exact absurd H Z596
      · rw [if_neg c2] at H
        have c2b0 : decide (x8_1 < (l0.length : Int)) = false := decide_eq_false c2
        clear c2
        obtain rfl := Option.some.inj H
        go_wp2
        go_ret
        exact ⟨Z514,Z491⟩

/-! ### cmp_isNaN_uint64: function 84 -/
def cmp_isNaN_uint64.f (a0 : Int) : Option (Bool) := some (a0 != a0)
set_option maxHeartbeats 8000000 in
set_option maxRecDepth 100000 in
theorem cmp_isNaN_uint64.calls (a0 : Int) (r : Bool) (w : World) (h : cmp_isNaN_uint64.f a0 = some r) :
    Calls Try.prog 84 #[.int .u64 a0] w fun e w' => e = .returned (.bool r) ∧ Drawn0 w w' := by
  have H : (some (a0 != a0)) = some r := h
  clear h
  obtain rfl := Option.some.inj H
  go_enter Try.func84,Try.ntmps84
  go_wp2
  go_ret
  exact ⟨Z514,Z491⟩

/-! ### cmp_Compare_uint64: function 83 -/
def cmp_Compare_uint64.f (a0 : Int) (a1 : Int) : Option (Int) := (cmp_isNaN_uint64.f a0).bind fun t325 => ((cmp_isNaN_uint64.f a1).bind fun t326 => (if t325 = true then (if t326 = true then (some 0) else (some (-1))) else (if t326 = true then (some 1) else (if a0 < a1 then (some (-1)) else (if a0 > a1 then (some 1) else (some 0))))))
set_option maxHeartbeats 8000000 in
set_option maxRecDepth 100000 in
theorem cmp_Compare_uint64.calls (a0 : Int) (a1 : Int) (r : Int) (w : World) (h : cmp_Compare_uint64.f a0 a1 = some r) :
    Calls Try.prog 83 #[.int .u64 a0,.int .u64 a1] w fun e w' => e = .returned (.int .i64 r) ∧ Drawn0 w w' := by
  have H : ((cmp_isNaN_uint64.f a0).bind fun t325 => ((cmp_isNaN_uint64.f a1).bind fun t326 => (if t325 = true then (if t326 = true then (some 0) else (some (-1))) else (if t326 = true then (some 1) else (if a0 < a1 then (some (-1)) else (if a0 > a1 then (some 1) else (some 0))))))) = some r := h
  clear h
  obtain ⟨t325,A30,H⟩ := Option.bind_eq_some_iff.mp H
  have A3 := Aside0.mk A30
  clear A30
  obtain ⟨t326,A40,H⟩ := Option.bind_eq_some_iff.mp H
  have A4 := Aside0.mk A40
  clear A40
  by_cases c5 : t325 = true
  · subst c5
    have H1 : (if t326 = true then (some 0) else (some (-1))) = some r := by rw [if_pos rfl] at H;exact H
    clear H
    have H := H1
    clear H1
    by_cases c6 : t326 = true
    · subst c6
      have H1 : (some 0) = some r := by rw [if_pos rfl] at H;exact H
      clear H
      have H := H1
      clear H1
      obtain rfl := Option.some.inj H
      go_enter Try.func83,Try.ntmps83
      go_wp2_with (first | ((with_reducible refine gate_callee (f := 84) rfl ?_);refine goesL_ (some 8) rfl rfl Try.func84 Z580 rfl #[.int .u64 a0] rfl Z395 ?_;(with_reducible refine (cmp_isNaN_uint64.calls a0 true _ A3.out).mono ?_);rintro e w' ⟨rfl,⟨nd,rfl⟩⟩;refine ⟨_,rfl,?_⟩) | ((with_reducible refine gate_callee (f := 84) rfl ?_);refine goesL_ (some 10) rfl rfl Try.func84 Z580 rfl #[.int .u64 a1] rfl Z395 ?_;(with_reducible refine (cmp_isNaN_uint64.calls a1 true _ A4.out).mono ?_);rintro e w' ⟨rfl,⟨nd,rfl⟩⟩;refine ⟨_,rfl,?_⟩))
      go_ret
      exact ⟨Z514,Z491⟩
    · replace c6 := Bool.eq_false_iff.mpr c6
      subst c6
      have H1 : (some (-1)) = some r := by rw [if_neg (show ¬ (false = true) by decide)] at H;exact H
      clear H
      have H := H1
      clear H1
      obtain rfl := Option.some.inj H
      go_enter Try.func83,Try.ntmps83
      go_wp2_with (first | ((with_reducible refine gate_callee (f := 84) rfl ?_);refine goesL_ (some 8) rfl rfl Try.func84 Z580 rfl #[.int .u64 a0] rfl Z395 ?_;(with_reducible refine (cmp_isNaN_uint64.calls a0 true _ A3.out).mono ?_);rintro e w' ⟨rfl,⟨nd,rfl⟩⟩;refine ⟨_,rfl,?_⟩) | ((with_reducible refine gate_callee (f := 84) rfl ?_);refine goesL_ (some 10) rfl rfl Try.func84 Z580 rfl #[.int .u64 a1] rfl Z395 ?_;(with_reducible refine (cmp_isNaN_uint64.calls a1 false _ A4.out).mono ?_);rintro e w' ⟨rfl,⟨nd,rfl⟩⟩;refine ⟨_,rfl,?_⟩))
      go_ret
      exact ⟨Z514,Z491⟩
  · replace c5 := Bool.eq_false_iff.mpr c5
    subst c5
    have H1 : (if t326 = true then (some 1) else (if a0 < a1 then (some (-1)) else (if a0 > a1 then (some 1) else (some 0)))) = some r := by rw [if_neg (show ¬ (false = true) by decide)] at H;exact H
    clear H
    have H := H1
    clear H1
    by_cases c7 : t326 = true
    · subst c7
      have H1 : (some 1) = some r := by rw [if_pos rfl] at H;exact H
      clear H
      have H := H1
      clear H1
      obtain rfl := Option.some.inj H
      go_enter Try.func83,Try.ntmps83
      go_wp2_with (first | ((with_reducible refine gate_callee (f := 84) rfl ?_);refine goesL_ (some 8) rfl rfl Try.func84 Z580 rfl #[.int .u64 a0] rfl Z395 ?_;(with_reducible refine (cmp_isNaN_uint64.calls a0 false _ A3.out).mono ?_);rintro e w' ⟨rfl,⟨nd,rfl⟩⟩;refine ⟨_,rfl,?_⟩) | ((with_reducible refine gate_callee (f := 84) rfl ?_);refine goesL_ (some 10) rfl rfl Try.func84 Z580 rfl #[.int .u64 a1] rfl Z395 ?_;(with_reducible refine (cmp_isNaN_uint64.calls a1 true _ A4.out).mono ?_);rintro e w' ⟨rfl,⟨nd,rfl⟩⟩;refine ⟨_,rfl,?_⟩))
      go_ret
      exact ⟨Z514,Z491⟩
    · replace c7 := Bool.eq_false_iff.mpr c7
      subst c7
      have H1 : (if a0 < a1 then (some (-1)) else (if a0 > a1 then (some 1) else (some 0))) = some r := by rw [if_neg (show ¬ (false = true) by decide)] at H;exact H
      clear H
      have H := H1
      clear H1
      by_cases c8 : a0 < a1
      · rw [if_pos c8] at H
        have c8b0 : decide (a0 < a1) = true := decide_eq_true c8
        clear c8
        obtain rfl := Option.some.inj H
        go_enter Try.func83,Try.ntmps83
        go_wp2_with (first | ((with_reducible refine gate_callee (f := 84) rfl ?_);refine goesL_ (some 8) rfl rfl Try.func84 Z580 rfl #[.int .u64 a0] rfl Z395 ?_;(with_reducible refine (cmp_isNaN_uint64.calls a0 false _ A3.out).mono ?_);rintro e w' ⟨rfl,⟨nd,rfl⟩⟩;refine ⟨_,rfl,?_⟩) | ((with_reducible refine gate_callee (f := 84) rfl ?_);refine goesL_ (some 10) rfl rfl Try.func84 Z580 rfl #[.int .u64 a1] rfl Z395 ?_;(with_reducible refine (cmp_isNaN_uint64.calls a1 false _ A4.out).mono ?_);rintro e w' ⟨rfl,⟨nd,rfl⟩⟩;refine ⟨_,rfl,?_⟩))
        go_ret
        exact ⟨Z514,Z491⟩
      · rw [if_neg c8] at H
        have c8b0 : decide (a0 < a1) = false := decide_eq_false c8
        clear c8
        by_cases c9 : a0 > a1
        · rw [if_pos c9] at H
          have c9b0 : decide (a1 < a0) = true := decide_eq_true c9
          clear c9
          obtain rfl := Option.some.inj H
          go_enter Try.func83,Try.ntmps83
          go_wp2_with (first | ((with_reducible refine gate_callee (f := 84) rfl ?_);refine goesL_ (some 8) rfl rfl Try.func84 Z580 rfl #[.int .u64 a0] rfl Z395 ?_;(with_reducible refine (cmp_isNaN_uint64.calls a0 false _ A3.out).mono ?_);rintro e w' ⟨rfl,⟨nd,rfl⟩⟩;refine ⟨_,rfl,?_⟩) | ((with_reducible refine gate_callee (f := 84) rfl ?_);refine goesL_ (some 10) rfl rfl Try.func84 Z580 rfl #[.int .u64 a1] rfl Z395 ?_;(with_reducible refine (cmp_isNaN_uint64.calls a1 false _ A4.out).mono ?_);rintro e w' ⟨rfl,⟨nd,rfl⟩⟩;refine ⟨_,rfl,?_⟩))
          go_ret
          exact ⟨Z514,Z491⟩
        · rw [if_neg c9] at H
          have c9b0 : decide (a1 < a0) = false := decide_eq_false c9
          clear c9
          obtain rfl := Option.some.inj H
          go_enter Try.func83,Try.ntmps83
          go_wp2_with (first | ((with_reducible refine gate_callee (f := 84) rfl ?_);refine goesL_ (some 8) rfl rfl Try.func84 Z580 rfl #[.int .u64 a0] rfl Z395 ?_;(with_reducible refine (cmp_isNaN_uint64.calls a0 false _ A3.out).mono ?_);rintro e w' ⟨rfl,⟨nd,rfl⟩⟩;refine ⟨_,rfl,?_⟩) | ((with_reducible refine gate_callee (f := 84) rfl ?_);refine goesL_ (some 10) rfl rfl Try.func84 Z580 rfl #[.int .u64 a1] rfl Z395 ?_;(with_reducible refine (cmp_isNaN_uint64.calls a1 false _ A4.out).mono ?_);rintro e w' ⟨rfl,⟨nd,rfl⟩⟩;refine ⟨_,rfl,?_⟩))
          go_ret
          exact ⟨Z514,Z491⟩

end Go.Proofs.Ytjcjehnjbgklbaa.QFnImproves
