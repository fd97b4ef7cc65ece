/- The machine side of FnImproves: what each Go function that it reaches comes to. Conditions: none. -/
import Derived.Test.YtjcjehnjbgklbaaQFnImprovesx0
import Derived.Test.YtjcjehnjbgklbaaQFnImprovesx1
namespace Go.Proofs.Ytjcjehnjbgklbaa.QFnImproves
open Go.RowKit Go.Proofs.YtjcjehnjbgklbaaW.PrintWords Go.Proofs.YtjcjehnjbgklbaaW.PrintLast Go.Proofs.YtjcjehnjbgklbaaW.PrintMore
attribute [local go_sem] max2_int min2_int max_two min_two max_three min_three max_four min_four   -- for this text's walks alone
set_option linter.unusedVariables false
set_option linter.unusedSimpArgs false

/-! ### spec_l5Cross: function 45 -/
theorem spec_l5Cross.cells3 {w : World} {g : Nat} {t : TypeId} {a0 a1 a2 : Value} (h : w.heap[g]? = some (.cells #[a0,a1,a2] t (0,0))) : w.cell? ⟨g,0,none⟩ = some a0 ∧ w.cell? ⟨g,1,none⟩ = some a1 ∧ w.cell? ⟨g,2,none⟩ = some a2 ∧ w.frozen? ⟨g,0,none⟩ = false ∧ w.frozen? ⟨g,1,none⟩ = false ∧ w.frozen? ⟨g,2,none⟩ = false := ⟨(blk_cell h 0).trans rfl,(blk_cell h 1).trans rfl,(blk_cell h 2).trans rfl,blk_frozen h 0,blk_frozen h 1,blk_frozen h 2⟩
theorem spec_l5Cross.cells4 {w : World} {g : Nat} {t : TypeId} {a0 a1 a2 a3 : Value} (h : w.heap[g]? = some (.cells #[a0,a1,a2,a3] t (0,0))) : w.cell? ⟨g,0,none⟩ = some a0 ∧ w.cell? ⟨g,1,none⟩ = some a1 ∧ w.cell? ⟨g,2,none⟩ = some a2 ∧ w.cell? ⟨g,3,none⟩ = some a3 ∧ w.frozen? ⟨g,0,none⟩ = false ∧ w.frozen? ⟨g,1,none⟩ = false ∧ w.frozen? ⟨g,2,none⟩ = false ∧ w.frozen? ⟨g,3,none⟩ = false := ⟨(blk_cell h 0).trans rfl,(blk_cell h 1).trans rfl,(blk_cell h 2).trans rfl,(blk_cell h 3).trans rfl,blk_frozen h 0,blk_frozen h 1,blk_frozen h 2,blk_frozen h 3⟩
def spec_l5Cross.j0 : Nat → Bool → Bool → Int → Int → Int → Bool → Int → Int → Int → Option (Bool × Int × Int × Bool × Int × Int × Bool)
  | 0,_,_,_,_,_,_,_,_,_ => none
  | k + 1,x18,x143000,x143001,x143002,x143003,x144000,x144001,x144002,x144003 => if x18 = true then (some (false,0,0,false,0,0,false)) else ((spec_ScaleWide.f x143000 x143001 x143002 x144003).bind fun bt148 => ((spec_ScaleWide.f x144000 x144001 x144002 x143003).bind fun bt153 => (if bt148.2.2.2 = true then (some (bt148.1,bt148.2.1,bt148.2.2.1,bt153.1,bt153.2.1,bt153.2.2.1,bt153.2.2.2)) else (some (bt148.1,bt148.2.1,bt148.2.2.1,bt153.1,bt153.2.1,bt153.2.2.1,false)))))
def spec_l5Cross.f (k : Nat) (a0_0 : Bool) (a0_1 : Int) (a0_2 : Int) (a0_3 : Int) (a1_0 : Bool) (a1_1 : Int) (a1_2 : Int) (a1_3 : Int) : Option (Bool × Int × Int × Bool × Int × Int × Bool) := (spec_FracOk.f a0_0 a0_1 a0_2 a0_3).bind fun t146 => (if t146 = true then ((spec_FracOk.f a1_0 a1_1 a1_2 a1_3).bind fun t147 => (spec_l5Cross.j0 k (!t147) a0_0 a0_1 a0_2 a0_3 a1_0 a1_1 a1_2 a1_3)) else (spec_l5Cross.j0 k true a0_0 a0_1 a0_2 a0_3 a1_0 a1_1 a1_2 a1_3))
theorem spec_l5Cross.mono_l : ∀ k,(∀ y0 y1 y2 y3 y4 y5 y6 y7 y8,LeO (spec_l5Cross.j0 k y0 y1 y2 y3 y4 y5 y6 y7 y8) (spec_l5Cross.j0 (k + 1) y0 y1 y2 y3 y4 y5 y6 y7 y8))
  | 0 => fun _ _ _ _ _ _ _ _ _ r h => by simp [spec_l5Cross.j0] at h
  | k + 1 => by
    have ih0 := spec_l5Cross.mono_l k
    · intro y0 y1 y2 y3 y4 y5 y6 y7 y8
      unfold spec_l5Cross.j0
      repeat' first
      | (with_reducible exact ih0 _ _ _ _ _ _ _ _ _)
      | (with_reducible exact LeO.refl _)
      | (with_reducible exact LeO.none _)
      | (with_reducible refine LeO.ite ?_ ?_)
      | (with_reducible refine LeO.bind ?_ (fun _ => ?_))
      | exact ih0 _ _ _ _ _ _ _ _ _
      | exact LeO.none _
      | refine LeO.ite ?_ ?_
      | refine LeO.bind ?_ (fun _ => ?_)
theorem spec_l5Cross.mono : ∀ a0 a1 a2 a3 a4 a5 a6 a7 k,LeO (spec_l5Cross.f k a0 a1 a2 a3 a4 a5 a6 a7) (spec_l5Cross.f (k + 1) a0 a1 a2 a3 a4 a5 a6 a7) := by
  intro a0 a1 a2 a3 a4 a5 a6 a7 k
  have ih0 := spec_l5Cross.mono_l k
  unfold spec_l5Cross.f
  repeat' first
      | (with_reducible exact ih0 _ _ _ _ _ _ _ _ _)
      | (with_reducible exact LeO.refl _)
      | (with_reducible exact LeO.none _)
      | (with_reducible refine LeO.ite ?_ ?_)
      | (with_reducible refine LeO.bind ?_ (fun _ => ?_))
      | exact ih0 _ _ _ _ _ _ _ _ _
      | exact LeO.none _
      | refine LeO.ite ?_ ?_
      | refine LeO.bind ?_ (fun _ => ?_)
def spec_l5Cross.T5 : Bool × List (List Nat × List Nat) := (true,[([],[]),([],[]),([],[]),([2],[2]),([3],[3]),([3,4],[3,4]),([0,3,0],[0]),([1,6,0,1,6],[1]),([5,7,0,1,2,3,4,5,6,7],[5])])
def spec_l5Cross.B5 : List Nat := [0,0,0,4,12,28,13,79,255]
theorem spec_l5Cross.tab5 : rtab .any (opsOf Try.f45 5) = spec_l5Cross.T5 := by kernel_rfl
theorem spec_l5Cross.bits5 : waitsOk spec_l5Cross.T5.2 spec_l5Cross.B5 = true := by kernel_rfl
set_option maxHeartbeats 8000000 in
set_option maxRecDepth 100000 in
theorem spec_l5Cross.calls (k : Nat) (a0_0 : Bool) (a0_1 : Int) (a0_2 : Int) (a0_3 : Int) (a1_0 : Bool) (a1_1 : Int) (a1_2 : Int) (a1_3 : Int) (r1 : Bool) (r2 : Int) (r3 : Int) (r4 : Bool) (r5 : Int) (r6 : Int) (r7 : Bool) (w : World) (h : spec_l5Cross.f k a0_0 a0_1 a0_2 a0_3 a1_0 a1_1 a1_2 a1_3 = some (r1,r2,r3,r4,r5,r6,r7)) :
    Calls Try.prog 45 #[.agg #[.bool a0_0,.int .u64 a0_1,.int .u64 a0_2,.int .i64 a0_3],.agg #[.bool a1_0,.int .u64 a1_1,.int .u64 a1_2,.int .i64 a1_3]] w fun e w' => e = .returned (.tuple #[.agg #[.bool r1,.int .u64 r2,.int .u64 r3],.agg #[.bool r4,.int .u64 r5,.int .u64 r6],.bool r7]) ∧ Below w.heap.size w w' := by
  have hu30 := Try.underlying30
  have hu28 := Try.underlying28
  have HB := Aside0.mk (Below.refl w.heap.size w)
  have H : ((spec_FracOk.f a0_0 a0_1 a0_2 a0_3).bind fun t146 => (if t146 = true then ((spec_FracOk.f a1_0 a1_1 a1_2 a1_3).bind fun t147 => (spec_l5Cross.j0 k (!t147) a0_0 a0_1 a0_2 a0_3 a1_0 a1_1 a1_2 a1_3)) else (spec_l5Cross.j0 k true a0_0 a0_1 a0_2 a0_3 a1_0 a1_1 a1_2 a1_3))) = some (r1,r2,r3,r4,r5,r6,r7) := h
  clear h
  have HC3 := Aside0.mk H
  clear H
  go_enter Try.func45,Try.ntmps45
  go_upto_region 1 with (first | ((with_reducible refine gate_dst (N := 2) rfl ?_);refine box_event ?hg (N := 2) ?hd (cs := #[.bool a0_0,.int .u64 a0_1,.int .u64 a0_2,.int .i64 a0_3]) (t := 30) ?hr ?_;(case hd => rfl);(case hg => rfl);(case hr => exact Z515);intro gb142 hg w4 hbox hb;have n_ := jA (below_step Z486 hb) (jA (hbox) (jA ((Z271 : w.heap.size ≤ gb142)) (Aside0.mk ((Z271 : w.heap.size ≤ gb142)))));clear HB;obtain ⟨HB,BK142,GW142,GE142⟩ := n_;clear hb hbox hg) | ((with_reducible refine gate_dst (N := 3) rfl ?_);refine box_event ?hg (N := 3) ?hd (cs := #[.bool a1_0,.int .u64 a1_1,.int .u64 a1_2,.int .i64 a1_3]) (t := 30) ?hr ?_;(case hd => rfl);(case hg => rfl);(case hr => exact Z515);intro gb143 hg w5 hbox hb;have n_ := jA (blk_below (g := gb142) (o := .cells #[.bool a0_0,.int .u64 a0_1,.int .u64 a0_2,.int .i64 a0_3] 30 (0,0)) Z529 hb) (jA (below_step Z483 hb) (jA (hbox) (jA ((Z217 : w.heap.size ≤ gb143)) (jA ((Z217 : w.heap.size ≤ gb143)) (jA ((Z283 : gb142 ≠ gb143)) (Aside0.mk ((Z285 : gb143 ≠ gb142))))))));clear BK142 HB;obtain ⟨BK142,HB,BK143,GW143,GE143,NB142_143,NB143_142⟩ := n_;clear hb hbox hg) | ((with_reducible refine gate_dst (N := 4) rfl ?_);refine box_event ?hg (N := 4) ?hd (cs := #[.bool false,.int .u64 0,.int .u64 0]) (t := 28) ?hr ?_;(case hd => rfl);(case hg => rfl);(case hr => exact Z515);intro gb144 hg w6 hbox hb;have n_ := jA (blk_below (g := gb142) (o := .cells #[.bool a0_0,.int .u64 a0_1,.int .u64 a0_2,.int .i64 a0_3] 30 (0,0)) Z529 hb) (jA (blk_below (g := gb143) (o := .cells #[.bool a1_0,.int .u64 a1_1,.int .u64 a1_2,.int .i64 a1_3] 30 (0,0)) Z531 hb) (jA (below_step Z448 hb) (jA (hbox) (jA ((Z128 : w.heap.size ≤ gb144)) (jA ((Z128 : w.heap.size ≤ gb144)) (jA ((Z283 : gb142 ≠ gb144)) (jA ((Z285 : gb144 ≠ gb142)) (jA ((Z289 : gb143 ≠ gb144)) (Aside0.mk ((Z293 : gb144 ≠ gb143)))))))))));clear BK142 BK143 HB;obtain ⟨BK142,BK143,HB,BK144,GW144,GE144,NB142_144,NB144_142,NB143_144,NB144_143⟩ := n_;clear hb hbox hg) | ((with_reducible refine gate_dst (N := 5) rfl ?_);refine box_event ?hg (N := 5) ?hd (cs := #[.bool false,.int .u64 0,.int .u64 0]) (t := 28) ?hr ?_;(case hd => rfl);(case hg => rfl);(case hr => exact Z515);intro gb145 hg w7 hbox hb;have n_ := jA (blk_below (g := gb142) (o := .cells #[.bool a0_0,.int .u64 a0_1,.int .u64 a0_2,.int .i64 a0_3] 30 (0,0)) Z529 hb) (jA (blk_below (g := gb143) (o := .cells #[.bool a1_0,.int .u64 a1_1,.int .u64 a1_2,.int .i64 a1_3] 30 (0,0)) Z531 hb) (jA (blk_below (g := gb144) (o := .cells #[.bool false,.int .u64 0,.int .u64 0] 28 (0,0)) Z536 hb) (jA (below_step Z428 hb) (jA (hbox) (jA ((Z101 : w.heap.size ≤ gb145)) (jA ((Z101 : w.heap.size ≤ gb145)) (jA ((Z283 : gb142 ≠ gb145)) (jA ((Z285 : gb145 ≠ gb142)) (jA ((Z289 : gb143 ≠ gb145)) (jA ((Z293 : gb145 ≠ gb143)) (jA ((Z358 : gb144 ≠ gb145)) (Aside0.mk ((Z360 : gb145 ≠ gb144))))))))))))));clear BK142 BK143 BK144 HB;obtain ⟨BK142,BK143,BK144,HB,BK145,GW145,GE145,NB142_145,NB145_142,NB143_145,NB145_143,NB144_145,NB145_144⟩ := n_;clear hb hbox hg))
  (try simp only [Act.put,List.setIfInBounds_toArray,List.set_cons_zero,List.set_cons_succ])
  go_cut [18] (fun v18 wc => ∃ (kq : Nat) (x18_2 : Bool),v18 = .bool x18_2 ∧ Aside0 (spec_l5Cross.j0 kq x18_2 a0_0 a0_1 a0_2 a0_3 a1_0 a1_1 a1_2 a1_3 = some (r1,r2,r3,r4,r5,r6,r7)) ∧ Aside0 (kq ≤ k) ∧ Aside0 (wc.heap[gb142]? = some (.cells #[.bool a0_0,.int .u64 a0_1,.int .u64 a0_2,.int .i64 a0_3] 30 (0,0))) ∧ Aside0 (wc.heap[gb143]? = some (.cells #[.bool a1_0,.int .u64 a1_1,.int .u64 a1_2,.int .i64 a1_3] 30 (0,0))) ∧ Aside0 (wc.heap[gb144]? = some (.cells #[.bool false,.int .u64 0,.int .u64 0] 28 (0,0))) ∧ Aside0 (wc.heap[gb145]? = some (.cells #[.bool false,.int .u64 0,.int .u64 0] 28 (0,0))) ∧ Aside0 (Below w.heap.size w wc))
  case first =>
    have H := HC3.out
    clear HC3
    obtain ⟨t146,A80,H⟩ := Option.bind_eq_some_iff.mp H
    have A8 := Aside0.mk A80
    clear A80
    by_cases c9 : t146 = true
    · subst c9
      have H1 : ((spec_FracOk.f a1_0 a1_1 a1_2 a1_3).bind fun t147 => (spec_l5Cross.j0 k (!t147) a0_0 a0_1 a0_2 a0_3 a1_0 a1_1 a1_2 a1_3)) = some (r1,r2,r3,r4,r5,r6,r7) := by rw [if_pos rfl] at H;exact H
      clear H
      have H := H1
      clear H1
      obtain ⟨t147,A100,H⟩ := Option.bind_eq_some_iff.mp H
      have A10 := Aside0.mk A100
      clear A100
      have H' := Aside0.mk H
      clear H
      have hnb11 := NB142_143.out
      have hnc11 := NB143_142.out
      have hnb12 := NB142_144.out
      have hnc12 := NB144_142.out
      have hnb13 := NB142_145.out
      have hnc13 := NB145_142.out
      obtain ⟨hcz14_0,hcz14_1,hcz14_2,hcz14_3,hfz14_0,hfz14_1,hfz14_2,hfz14_3⟩ := spec_l5Cross.cells4 BK142.out
      go_wp2_with (first | ((with_reducible refine gate_callee (f := 47) rfl ?_);refine goesL_ (some 12) rfl rfl Try.func47 Z580 rfl #[.agg #[.bool a0_0,.int .u64 a0_1,.int .u64 a0_2,.int .i64 a0_3]] rfl Z395 ?_;(with_reducible refine (spec_FracOk.calls a0_0 a0_1 a0_2 a0_3 true _ A8.out).mono ?_);rintro e w15 ⟨rfl,hb⟩;refine ⟨_,rfl,?_⟩;have n_ := jA (blk_below (g := gb142) (o := .cells #[.bool a0_0,.int .u64 a0_1,.int .u64 a0_2,.int .i64 a0_3] 30 (0,0)) Z529 hb) (jA (blk_below (g := gb143) (o := .cells #[.bool a1_0,.int .u64 a1_1,.int .u64 a1_2,.int .i64 a1_3] 30 (0,0)) Z531 hb) (jA (blk_below (g := gb144) (o := .cells #[.bool false,.int .u64 0,.int .u64 0] 28 (0,0)) Z536 hb) (jA (blk_below (g := gb145) (o := .cells #[.bool false,.int .u64 0,.int .u64 0] 28 (0,0)) Z539 hb) (Aside0.mk (below_step Z409 hb)))));clear BK142 BK143 BK144 BK145 HB;obtain ⟨BK142,BK143,BK144,BK145,HB⟩ := n_;(try clear hb);(try clear hb2);(try clear hk);(try clear hi);have hnb16 := NB143_144.out;have hnc16 := NB144_143.out;have hnb17 := NB143_145.out;have hnc17 := NB145_143.out;obtain ⟨hcz18_0,hcz18_1,hcz18_2,hcz18_3,hfz18_0,hfz18_1,hfz18_2,hfz18_3⟩ := spec_l5Cross.cells4 BK143.out) | (go_at_call 47;(with_reducible refine (spec_FracOk.calls a1_0 a1_1 a1_2 a1_3 t147 _ A10.out).mono ?_);rintro e w19 ⟨rfl,hb⟩;have n_ := jA (blk_below (g := gb142) (o := .cells #[.bool a0_0,.int .u64 a0_1,.int .u64 a0_2,.int .i64 a0_3] 30 (0,0)) Z529 hb) (jA (blk_below (g := gb143) (o := .cells #[.bool a1_0,.int .u64 a1_1,.int .u64 a1_2,.int .i64 a1_3] 30 (0,0)) Z531 hb) (jA (blk_below (g := gb144) (o := .cells #[.bool false,.int .u64 0,.int .u64 0] 28 (0,0)) Z536 hb) (jA (blk_below (g := gb145) (o := .cells #[.bool false,.int .u64 0,.int .u64 0] 28 (0,0)) Z539 hb) (Aside0.mk (below_step Z409 hb)))));clear BK142 BK143 BK144 BK145 HB;obtain ⟨BK142,BK143,BK144,BK145,HB⟩ := n_;(try clear hb);(try clear hb2);(try clear hk);(try clear hi)))
      go_meet
      case rel => exact ⟨_,(!t147),Z514,H',⟨Z516⟩,⟨Z529⟩,⟨Z531⟩,⟨Z536⟩,⟨Z539⟩,⟨Z409⟩⟩
    · replace c9 := Bool.eq_false_iff.mpr c9
      subst c9
      have H1 : (spec_l5Cross.j0 k true a0_0 a0_1 a0_2 a0_3 a1_0 a1_1 a1_2 a1_3) = some (r1,r2,r3,r4,r5,r6,r7) := by rw [if_neg (show ¬ (false = true) by decide)] at H;exact H
      clear H
      have H := H1
      clear H1
      have H' := Aside0.mk H
      clear H
      have hnb20 := NB142_143.out
      have hnc20 := NB143_142.out
      have hnb21 := NB142_144.out
      have hnc21 := NB144_142.out
      have hnb22 := NB142_145.out
      have hnc22 := NB145_142.out
      obtain ⟨hcz23_0,hcz23_1,hcz23_2,hcz23_3,hfz23_0,hfz23_1,hfz23_2,hfz23_3⟩ := spec_l5Cross.cells4 BK142.out
      go_wp2_with (first | ((with_reducible refine gate_callee (f := 47) rfl ?_);refine goesL_ (some 12) rfl rfl Try.func47 Z580 rfl #[.agg #[.bool a0_0,.int .u64 a0_1,.int .u64 a0_2,.int .i64 a0_3]] rfl Z395 ?_;(with_reducible refine (spec_FracOk.calls a0_0 a0_1 a0_2 a0_3 false _ A8.out).mono ?_);rintro e w24 ⟨rfl,hb⟩;refine ⟨_,rfl,?_⟩;have n_ := jA (blk_below (g := gb142) (o := .cells #[.bool a0_0,.int .u64 a0_1,.int .u64 a0_2,.int .i64 a0_3] 30 (0,0)) Z529 hb) (jA (blk_below (g := gb143) (o := .cells #[.bool a1_0,.int .u64 a1_1,.int .u64 a1_2,.int .i64 a1_3] 30 (0,0)) Z531 hb) (jA (blk_below (g := gb144) (o := .cells #[.bool false,.int .u64 0,.int .u64 0] 28 (0,0)) Z536 hb) (jA (blk_below (g := gb145) (o := .cells #[.bool false,.int .u64 0,.int .u64 0] 28 (0,0)) Z539 hb) (Aside0.mk (below_step Z409 hb)))));clear BK142 BK143 BK144 BK145 HB;obtain ⟨BK142,BK143,BK144,BK145,HB⟩ := n_;(try clear hb);(try clear hb2);(try clear hk);(try clear hi)))
      go_meet
      case rel => exact ⟨_,(true),Z514,H',⟨Z516⟩,⟨Z529⟩,⟨Z531⟩,⟨Z536⟩,⟨Z539⟩,⟨Z409⟩⟩
  case rest =>
    clear HC3
    try clear c1
    try clear c2
    try clear p2
    try clear c4
    try clear c9
    try clear c11
    try clear c12
    try clear c13
    try clear c16
    try clear c17
    try clear c20
    try clear c21
    try clear c22
    try clear hcz14_0
    try clear hcz14_1
    try clear hcz14_2
    try clear hcz14_3
    try clear hcz18_0
    try clear hcz18_1
    try clear hcz18_2
    try clear hcz18_3
    try clear hcz23_0
    try clear hcz23_1
    try clear hcz23_2
    try clear hcz23_3
    try clear hfz14_0
    try clear hfz14_1
    try clear hfz14_2
    try clear hfz14_3
    try clear hfz18_0
    try clear hfz18_1
    try clear hfz18_2
    try clear hfz18_3
    try clear hfz23_0
    try clear hfz23_1
    try clear hfz23_2
    try clear hfz23_3
    obtain ⟨kq,x18_2,rfl,HA,HJ2,BK142,BK143,BK144,BK145,HB⟩ := hcut
    cases kq with
    | zero => exact absurd HA.out (by simp [spec_l5Cross.j0])
    | succ kj2 =>
      have H := HA.out
      clear HA
      simp only [spec_l5Cross.j0] at H
      by_cases c25 : x18_2 = true
      · subst c25
        have H1 : (some (false,0,0,false,0,0,false)) = some (r1,r2,r3,r4,r5,r6,r7) := by rw [if_pos rfl] at H;exact H
        clear H
        have H := H1
        clear H1
        simp only [Option.some.injEq,Prod.mk.injEq] at H
        obtain ⟨rfl,rfl,rfl,rfl,rfl,rfl,rfl⟩ := H
        have hnb26 := NB144_142.out
        have hnc26 := NB142_144.out
        have hnb27 := NB144_143.out
        have hnc27 := NB143_144.out
        have hnb28 := NB144_145.out
        have hnc28 := NB145_144.out
        obtain ⟨hcz29_0,hcz29_1,hcz29_2,hfz29_0,hfz29_1,hfz29_2⟩ := spec_l5Cross.cells3 BK144.out
        have hnb30 := NB145_142.out
        have hnc30 := NB142_145.out
        have hnb31 := NB145_143.out
        have hnc31 := NB143_145.out
        obtain ⟨hcz32_0,hcz32_1,hcz32_2,hfz32_0,hfz32_1,hfz32_2⟩ := spec_l5Cross.cells3 BK145.out
        go_wp2
        refine bodyPost_ret (results_list (rs := [.cell 4 28,.cell 5 28,.tmp 6]) rfl Z596 (.cell gb144 28 #[.bool false,.int .u64 0,.int .u64 0] (0,0) _ rfl (by refine bP ?_;refine blk_far ?_ NB144_145.out _;refine bP ?_;refine blk_far ?_ NB144_145.out _;refine bP ?_;refine blk_far ?_ NB144_145.out _;refine bP ?_;refine blk_put (cs := #[.bool false,.int .u64 0,.int .u64 0]) ?_ 2 _ rfl;refine bP ?_;refine blk_put (cs := #[.bool false,.int .u64 0,.int .u64 0]) ?_ 1 _ rfl;refine bP ?_;refine blk_put (cs := #[.bool false,.int .u64 0,.int .u64 0]) ?_ 0 _ rfl;refine bP ?_;exact BK144.out) Try.underlying28 rfl Z580 (.cell gb145 28 #[.bool false,.int .u64 0,.int .u64 0] (0,0) _ rfl (by refine bP ?_;refine blk_put (cs := #[.bool false,.int .u64 0,.int .u64 0]) ?_ 2 _ rfl;refine bP ?_;refine blk_put (cs := #[.bool false,.int .u64 0,.int .u64 0]) ?_ 1 _ rfl;refine bP ?_;refine blk_put (cs := #[.bool false,.int .u64 0,.int .u64 0]) ?_ 0 _ rfl;refine bP ?_;refine blk_far ?_ NB145_144.out _;refine bP ?_;refine blk_far ?_ NB145_144.out _;refine bP ?_;refine blk_far ?_ NB145_144.out _;refine bP ?_;exact BK145.out) Try.underlying28 rfl Z580 (.tmp .nil)))) rfl ?_
        exact ⟨Z400,Z409⟩
      · replace c25 := Bool.eq_false_iff.mpr c25
        subst c25
        have H1 : ((spec_ScaleWide.f a0_0 a0_1 a0_2 a1_3).bind fun bt148 => ((spec_ScaleWide.f a1_0 a1_1 a1_2 a0_3).bind fun bt153 => (if bt148.2.2.2 = true then (some (bt148.1,bt148.2.1,bt148.2.2.1,bt153.1,bt153.2.1,bt153.2.2.1,bt153.2.2.2)) else (some (bt148.1,bt148.2.1,bt148.2.2.1,bt153.1,bt153.2.1,bt153.2.2.1,false))))) = some (r1,r2,r3,r4,r5,r6,r7) := by rw [if_neg (show ¬ (false = true) by decide)] at H;exact H
        clear H
        have H := H1
        clear H1
        obtain ⟨⟨t148,t149,t150,t151⟩,A330,H⟩ := Option.bind_eq_some_iff.mp H
        try dsimp only at H
        have A33 := Aside0.mk A330
        clear A330
        obtain ⟨⟨t153,t154,t155,t156⟩,A340,H⟩ := Option.bind_eq_some_iff.mp H
        try dsimp only at H
        have A34 := Aside0.mk A340
        clear A340
        by_cases c35 : t151 = true
        · subst c35
          have H1 : (some (t148,t149,t150,t153,t154,t155,t156)) = some (r1,r2,r3,r4,r5,r6,r7) := by rw [if_pos rfl] at H;exact H
          clear H
          have H := H1
          clear H1
          simp only [Option.some.injEq,Prod.mk.injEq] at H
          obtain ⟨rfl,rfl,rfl,rfl,rfl,rfl,rfl⟩ := H
          have hnb36 := NB142_143.out
          have hnc36 := NB143_142.out
          have hnb37 := NB142_144.out
          have hnc37 := NB144_142.out
          have hnb38 := NB142_145.out
          have hnc38 := NB145_142.out
          obtain ⟨hcz39_0,hcz39_1,hcz39_2,hcz39_3,hfz39_0,hfz39_1,hfz39_2,hfz39_3⟩ := spec_l5Cross.cells4 BK142.out
          have hnb40 := NB143_144.out
          have hnc40 := NB144_143.out
          have hnb41 := NB143_145.out
          have hnc41 := NB145_143.out
          obtain ⟨hcz42_0,hcz42_1,hcz42_2,hcz42_3,hfz42_0,hfz42_1,hfz42_2,hfz42_3⟩ := spec_l5Cross.cells4 BK143.out
          try go_wp2_with (first | ((with_reducible refine gate_callee (f := 64) rfl ?_);refine goesL_ (some 26) rfl rfl Try.func64 Z580 rfl #[.agg #[.bool a0_0,.int .u64 a0_1,.int .u64 a0_2],.int .i64 a1_3] rfl Z395 ?_;(with_reducible refine (spec_ScaleWide.calls a0_0 a0_1 a0_2 a1_3 t148 t149 t150 true _ A33.out).mono ?_);rintro e w43 ⟨rfl,hb⟩;refine ⟨_,rfl,?_⟩;have n_ := jA (blk_below (g := gb142) (o := .cells #[.bool a0_0,.int .u64 a0_1,.int .u64 a0_2,.int .i64 a0_3] 30 (0,0)) Z529 hb) (jA (blk_below (g := gb143) (o := .cells #[.bool a1_0,.int .u64 a1_1,.int .u64 a1_2,.int .i64 a1_3] 30 (0,0)) Z531 hb) (jA (blk_below (g := gb144) (o := .cells #[.bool false,.int .u64 0,.int .u64 0] 28 (0,0)) Z536 hb) (jA (blk_below (g := gb145) (o := .cells #[.bool false,.int .u64 0,.int .u64 0] 28 (0,0)) Z539 hb) (Aside0.mk (below_step Z409 hb)))));clear BK142 BK143 BK144 BK145 HB;obtain ⟨BK142,BK143,BK144,BK145,HB⟩ := n_;(try clear hb);(try clear hb2);(try clear hk);(try clear hi)) | ((with_reducible refine gate_dst (N := 7) rfl ?_);refine box_event ?hg (N := 7) ?hd (cs := #[.bool false,.int .u64 0,.int .u64 0]) (t := 28) ?hr ?_;(case hd => rfl);(case hg => rfl);(case hr => exact Z515);intro gb152 hg w44 hbox hb;have n_ := jA (blk_below (g := gb142) (o := .cells #[.bool a0_0,.int .u64 a0_1,.int .u64 a0_2,.int .i64 a0_3] 30 (0,0)) Z529 hb) (jA (blk_below (g := gb143) (o := .cells #[.bool a1_0,.int .u64 a1_1,.int .u64 a1_2,.int .i64 a1_3] 30 (0,0)) Z531 hb) (jA (blk_below (g := gb144) (o := .cells #[.bool false,.int .u64 0,.int .u64 0] 28 (0,0)) Z536 hb) (jA (blk_below (g := gb145) (o := .cells #[.bool false,.int .u64 0,.int .u64 0] 28 (0,0)) Z539 hb) (jA (below_step Z409 hb) (jA (hbox) (jA ((Z61 : w.heap.size ≤ gb152)) (jA ((Z61 : w.heap.size ≤ gb152)) (jA ((Z283 : gb142 ≠ gb152)) (jA ((Z285 : gb152 ≠ gb142)) (jA ((Z289 : gb143 ≠ gb152)) (jA ((Z293 : gb152 ≠ gb143)) (jA ((Z358 : gb144 ≠ gb152)) (jA ((Z360 : gb152 ≠ gb144)) (jA ((Z364 : gb145 ≠ gb152)) (Aside0.mk ((Z368 : gb152 ≠ gb145)))))))))))))))));clear BK142 BK143 BK144 BK145 HB;obtain ⟨BK142,BK143,BK144,BK145,HB,BK152,GW152,GE152,NB142_152,NB152_142,NB143_152,NB152_143,NB144_152,NB152_144,NB145_152,NB152_145⟩ := n_;clear hb hbox hg;have hnb45 := NB152_142.out;have hnc45 := NB142_152.out;have hnb46 := NB152_143.out;have hnc46 := NB143_152.out;have hnb47 := NB152_144.out;have hnc47 := NB144_152.out;have hnb48 := NB152_145.out;have hnc48 := NB145_152.out;obtain ⟨hcz49_0,hcz49_1,hcz49_2,hfz49_0,hfz49_1,hfz49_2⟩ := spec_l5Cross.cells3 BK152.out;obtain ⟨hcz50_0,hcz50_1,hcz50_2,hcz50_3,hfz50_0,hfz50_1,hfz50_2,hfz50_3⟩ := spec_l5Cross.cells4 BK143.out;obtain ⟨hcz51_0,hcz51_1,hcz51_2,hcz51_3,hfz51_0,hfz51_1,hfz51_2,hfz51_3⟩ := spec_l5Cross.cells4 BK142.out) | ((with_reducible refine gate_callee (f := 64) rfl ?_);refine goesL_ (some 34) rfl rfl Try.func64 Z580 rfl #[.agg #[.bool a1_0,.int .u64 a1_1,.int .u64 a1_2],.int .i64 a0_3] rfl Z395 ?_;(with_reducible refine (spec_ScaleWide.calls a1_0 a1_1 a1_2 a0_3 t153 t154 t155 t156 _ A34.out).mono ?_);rintro e w52 ⟨rfl,hb⟩;refine ⟨_,rfl,?_⟩;have n_ := jA (blk_below (g := gb142) (o := .cells #[.bool a0_0,.int .u64 a0_1,.int .u64 a0_2,.int .i64 a0_3] 30 (0,0)) Z255 hb) (jA (blk_below (g := gb143) (o := .cells #[.bool a1_0,.int .u64 a1_1,.int .u64 a1_2,.int .i64 a1_3] 30 (0,0)) Z254 hb) (jA (blk_below (g := gb144) (o := .cells #[.bool false,.int .u64 0,.int .u64 0] 28 (0,0)) Z253 hb) (jA (blk_below (g := gb145) (o := .cells #[.bool false,.int .u64 0,.int .u64 0] 28 (0,0)) Z252 hb) (jA (blk_below (g := gb152) (o := .cells #[.bool t148,.int .u64 t149,.int .u64 t150] 28 (0,0)) Z74 hb) (Aside0.mk (below_step Z406 hb))))));clear BK142 BK143 BK144 BK145 BK152 HB;obtain ⟨BK142,BK143,BK144,BK145,BK152,HB⟩ := n_;(try clear hb);(try clear hb2);(try clear hk);(try clear hi)) | ((with_reducible refine gate_dst (N := 9) rfl ?_);refine box_event ?hg (N := 9) ?hd (cs := #[.bool false,.int .u64 0,.int .u64 0]) (t := 28) ?hr ?_;(case hd => rfl);(case hg => rfl);(case hr => exact Z515);intro gb157 hg w53 hbox hb;have n_ := jA (blk_below (g := gb142) (o := .cells #[.bool a0_0,.int .u64 a0_1,.int .u64 a0_2,.int .i64 a0_3] 30 (0,0)) Z529 hb) (jA (blk_below (g := gb143) (o := .cells #[.bool a1_0,.int .u64 a1_1,.int .u64 a1_2,.int .i64 a1_3] 30 (0,0)) Z531 hb) (jA (blk_below (g := gb144) (o := .cells #[.bool false,.int .u64 0,.int .u64 0] 28 (0,0)) Z536 hb) (jA (blk_below (g := gb145) (o := .cells #[.bool false,.int .u64 0,.int .u64 0] 28 (0,0)) Z539 hb) (jA (blk_below (g := gb152) (o := .cells #[.bool t148,.int .u64 t149,.int .u64 t150] 28 (0,0)) Z577 hb) (jA (below_step Z406 hb) (jA (hbox) (jA ((Z40 : w.heap.size ≤ gb157)) (jA ((Z40 : w.heap.size ≤ gb157)) (jA ((Z283 : gb142 ≠ gb157)) (jA ((Z285 : gb157 ≠ gb142)) (jA ((Z289 : gb143 ≠ gb157)) (jA ((Z293 : gb157 ≠ gb143)) (jA ((Z358 : gb144 ≠ gb157)) (jA ((Z360 : gb157 ≠ gb144)) (jA ((Z364 : gb145 ≠ gb157)) (jA ((Z368 : gb157 ≠ gb145)) (jA ((Z348 : gb152 ≠ gb157)) (Aside0.mk ((Z352 : gb157 ≠ gb152))))))))))))))))))));clear BK142 BK143 BK144 BK145 BK152 HB;obtain ⟨BK142,BK143,BK144,BK145,BK152,HB,BK157,GW157,GE157,NB142_157,NB157_142,NB143_157,NB157_143,NB144_157,NB157_144,NB145_157,NB157_145,NB152_157,NB157_152⟩ := n_;clear hb hbox hg;have hnb54 := NB157_142.out;have hnc54 := NB142_157.out;have hnb55 := NB157_143.out;have hnc55 := NB143_157.out;have hnb56 := NB157_144.out;have hnc56 := NB144_157.out;have hnb57 := NB157_145.out;have hnc57 := NB145_157.out;have hnb58 := NB157_152.out;have hnc58 := NB152_157.out;obtain ⟨hcz59_0,hcz59_1,hcz59_2,hfz59_0,hfz59_1,hfz59_2⟩ := spec_l5Cross.cells3 BK157.out))
          have n0_ : Aside0 ((((w53.setCell ⟨gb157,0,none⟩ (.bool t153)).setCell ⟨gb157,1,none⟩ (.int .u64 t154)).setCell ⟨gb157,2,none⟩ (.int .u64 t155)).heap[gb142]? = some (.cells #[.bool a0_0,.int .u64 a0_1,.int .u64 a0_2,.int .i64 a0_3] 30 (0,0))) := ⟨Z265⟩
          have n1_ : Aside0 ((((w53.setCell ⟨gb157,0,none⟩ (.bool t153)).setCell ⟨gb157,1,none⟩ (.int .u64 t154)).setCell ⟨gb157,2,none⟩ (.int .u64 t155)).heap[gb143]? = some (.cells #[.bool a1_0,.int .u64 a1_1,.int .u64 a1_2,.int .i64 a1_3] 30 (0,0))) := ⟨Z264⟩
          have n2_ : Aside0 ((((w53.setCell ⟨gb157,0,none⟩ (.bool t153)).setCell ⟨gb157,1,none⟩ (.int .u64 t154)).setCell ⟨gb157,2,none⟩ (.int .u64 t155)).heap[gb144]? = some (.cells #[.bool false,.int .u64 0,.int .u64 0] 28 (0,0))) := ⟨Z263⟩
          have n3_ : Aside0 ((((w53.setCell ⟨gb157,0,none⟩ (.bool t153)).setCell ⟨gb157,1,none⟩ (.int .u64 t154)).setCell ⟨gb157,2,none⟩ (.int .u64 t155)).heap[gb145]? = some (.cells #[.bool false,.int .u64 0,.int .u64 0] 28 (0,0))) := ⟨Z262⟩
          have n4_ : Aside0 ((((w53.setCell ⟨gb157,0,none⟩ (.bool t153)).setCell ⟨gb157,1,none⟩ (.int .u64 t154)).setCell ⟨gb157,2,none⟩ (.int .u64 t155)).heap[gb152]? = some (.cells #[.bool t148,.int .u64 t149,.int .u64 t150] 28 (0,0))) := ⟨Z261⟩
          have n5_ : Aside0 ((((w53.setCell ⟨gb157,0,none⟩ (.bool t153)).setCell ⟨gb157,1,none⟩ (.int .u64 t154)).setCell ⟨gb157,2,none⟩ (.int .u64 t155)).heap[gb157]? = some (.cells #[.bool t153,.int .u64 t154,.int .u64 t155] 28 (0,0))) := ⟨Z76⟩
          have n6_ : Aside0 (Below w.heap.size w (((w53.setCell ⟨gb157,0,none⟩ (.bool t153)).setCell ⟨gb157,1,none⟩ (.int .u64 t154)).setCell ⟨gb157,2,none⟩ (.int .u64 t155))) := ⟨Z42⟩
          (try clear BK142)
          (try clear BK143)
          (try clear BK144)
          (try clear BK145)
          (try clear BK152)
          (try clear BK157)
          (try clear HB)
          generalize (((w53.setCell ⟨gb157,0,none⟩ (.bool t153)).setCell ⟨gb157,1,none⟩ (.int .u64 t154)).setCell ⟨gb157,2,none⟩ (.int .u64 t155)) = w60 at n0_ n1_ n2_ n3_ n4_ n5_ n6_ ⊢
          have BK142 := n0_
          have BK143 := n1_
          have BK144 := n2_
          have BK145 := n3_
          have BK152 := n4_
          have BK157 := n5_
          have HB := n6_
          clear n0_ n1_ n2_ n3_ n4_ n5_ n6_
          have n0_ := Aside0.mk (blk_drew BK142.out)
          have n1_ := Aside0.mk (blk_drew BK143.out)
          have n2_ := Aside0.mk (blk_drew BK144.out)
          have n3_ := Aside0.mk (blk_drew BK145.out)
          have n4_ := Aside0.mk (blk_drew BK152.out)
          have n5_ := Aside0.mk (blk_drew BK157.out)
          have n6_ := Aside0.mk (below_drew1 HB.out)
          clear BK142
          clear BK143
          clear BK144
          clear BK145
          clear BK152
          clear BK157
          clear HB
          have BK142 := n0_
          have BK143 := n1_
          have BK144 := n2_
          have BK145 := n3_
          have BK152 := n4_
          have BK157 := n5_
          have HB := n6_
          clear n0_ n1_ n2_ n3_ n4_ n5_ n6_
          refine start_ (n := 9) (S := fun w' => w'.cell? ⟨gb152,0,none⟩ = some (.bool t148) ∧ w'.cell? ⟨gb152,1,none⟩ = some (.int .u64 t149) ∧ w'.cell? ⟨gb152,2,none⟩ = some (.int .u64 t150) ∧ w'.cell? ⟨gb157,0,none⟩ = some (.bool t153) ∧ w'.cell? ⟨gb157,1,none⟩ = some (.int .u64 t154) ∧ w'.cell? ⟨gb157,2,none⟩ = some (.int .u64 t155)) (ds := []) #[false,false,false,false,false,false,false,false,false] Z580 rfl rfl ⟨(blk_cell BK152.out 0).trans rfl,(blk_cell BK152.out 1).trans rfl,(blk_cell BK152.out 2).trans rfl,(blk_cell BK157.out 0).trans rfl,(blk_cell BK157.out 1).trans rfl,(blk_cell BK157.out 2).trans rfl⟩ (fun hHeld => ?_);refine with_tabW spec_l5Cross.tab5 spec_l5Cross.bits5 (fun HT_ HW_ => ?_)
          generalize w60.drew = w61 at BK142 BK143 BK144 BK145 BK152 BK157 HB hHeld ⊢
          refine pure_ (i := 2) (N := some 39) (v := ?_) (a' := ?_) #[false,false,true,false,false,false,false,false,false] rfl rfl (any_of HT_.out Z580) (fun _ _ _ h => h) (Or.inl ⟨Z582,?_⟩) ?_ ?_
          rotate_left
          · intro w'
            go_simp
            with_reducible rfl
          rotate_left
          · simp only [Act.put,List.setIfInBounds_toArray,List.set_cons_zero,List.set_cons_succ,i64_w,i32_w]
            rfl
          refine pure_ (i := 3) (N := some 40) (v := ?_) (a' := ?_) #[false,false,true,true,false,false,false,false,false] rfl rfl (any_of HT_.out Z580) (fun _ _ _ h => h) (Or.inl ⟨Z582,?_⟩) ?_ ?_
          rotate_left
          · intro w'
            go_simp
            with_reducible rfl
          rotate_left
          · simp only [Act.put,List.setIfInBounds_toArray,List.set_cons_zero,List.set_cons_succ,i64_w,i32_w]
            rfl
          refine pure_ (i := 4) (N := some 41) (v := ?_) (a' := ?_) #[false,false,true,true,true,false,false,false,false] rfl rfl (any_of HT_.out Z580) (fun _ _ _ h => h) (Or.inl ⟨Z582,?_⟩) ?_ ?_
          rotate_left
          · intro w'
            go_simp
            with_reducible rfl
          rotate_left
          · simp only [Act.put,List.setIfInBounds_toArray,List.set_cons_zero,List.set_cons_succ,i64_w,i32_w]
            rfl
          refine pure_ (i := 5) (N := some 42) (v := ?_) (a' := ?_) #[false,false,true,true,true,true,false,false,false] rfl rfl (any_of HT_.out Z580) (fun _ _ _ h => h) (Or.inl ⟨Z582,?_⟩) ?_ ?_
          rotate_left
          · intro w'
            go_simp
            with_reducible rfl
          rotate_left
          · simp only [Act.put,List.setIfInBounds_toArray,List.set_cons_zero,List.set_cons_succ,i64_w,i32_w]
            rfl
          refine take_ (i := 0) (N := some 37) (v := ?_) (a' := ?_) #[true,false,true,true,true,true,false,false,false] rfl rfl (take_ofW HT_.out HW_.out Z580) (fun _ _ _ h => h) (Or.inl ⟨Z582,?_⟩) hHeld ?_ ?_
          rotate_left
          · rintro w' ⟨s0,s1,s2,s3,s4,s5⟩
            go_simp
            with_reducible rfl
          rotate_left
          · simp only [Act.put,List.setIfInBounds_toArray,List.set_cons_zero,List.set_cons_succ,i64_w,i32_w]
            rfl
          refine take_ (i := 1) (N := some 38) (v := ?_) (a' := ?_) #[true,true,true,true,true,true,false,false,false] rfl rfl (take_ofW HT_.out HW_.out Z580) (fun _ _ _ h => h) (Or.inl ⟨Z582,?_⟩) hHeld ?_ ?_
          rotate_left
          · rintro w' ⟨s0,s1,s2,s3,s4,s5⟩
            go_simp
            with_reducible rfl
          rotate_left
          · simp only [Act.put,List.setIfInBounds_toArray,List.set_cons_zero,List.set_cons_succ,i64_w,i32_w]
            rfl
          refine one_ (i := 6) (N := none) #[true,true,true,true,true,true,true,false,false] rfl rfl (one_of HT_.out Z580) Z581 (fun K hK => ?_)
          have hs62 : w61.cell? ⟨gb144,0,none⟩ = some (.bool false) := (blk_cell BK144.out 0).trans rfl
          have hfs62 := blk_frozen BK144.out 0
          have hns62_0 := NB142_144.out
          have hns62_1 := NB143_144.out
          have hns62_3 := NB145_144.out
          have hns62_4 := NB152_144.out
          have hns62_5 := NB157_144.out
          have hms62_0 := NB144_142.out
          have hms62_1 := NB144_143.out
          have hms62_3 := NB144_145.out
          have hms62_4 := NB144_152.out
          have hms62_5 := NB144_157.out
          have hs63 : w61.cell? ⟨gb144,1,none⟩ = some (.int .u64 0) := (blk_cell BK144.out 1).trans rfl
          have hfs63 := blk_frozen BK144.out 1
          have hns63_0 := NB142_144.out
          have hns63_1 := NB143_144.out
          have hns63_3 := NB145_144.out
          have hns63_4 := NB152_144.out
          have hns63_5 := NB157_144.out
          have hms63_0 := NB144_142.out
          have hms63_1 := NB144_143.out
          have hms63_3 := NB144_145.out
          have hms63_4 := NB144_152.out
          have hms63_5 := NB144_157.out
          have hs64 : w61.cell? ⟨gb144,2,none⟩ = some (.int .u64 0) := (blk_cell BK144.out 2).trans rfl
          have hfs64 := blk_frozen BK144.out 2
          have hns64_0 := NB142_144.out
          have hns64_1 := NB143_144.out
          have hns64_3 := NB145_144.out
          have hns64_4 := NB152_144.out
          have hns64_5 := NB157_144.out
          have hms64_0 := NB144_142.out
          have hms64_1 := NB144_143.out
          have hms64_3 := NB144_145.out
          have hms64_4 := NB144_152.out
          have hms64_5 := NB144_157.out
          refine skip_ (w1 := ?_) Z582 rfl ?_ ?_
          rotate_left
          · go_simp
            rfl
          refine hK.out _ _ ⟨((cell_far (p := ⟨gb144,_,none⟩) NB152_144.out _).trans (((cell_far (p := ⟨gb144,_,none⟩) NB152_144.out _).trans (((cell_far (p := ⟨gb144,_,none⟩) NB152_144.out _).trans (hHeld.1)))))),((cell_far (p := ⟨gb144,_,none⟩) NB152_144.out _).trans (((cell_far (p := ⟨gb144,_,none⟩) NB152_144.out _).trans (((cell_far (p := ⟨gb144,_,none⟩) NB152_144.out _).trans (hHeld.2.1)))))),((cell_far (p := ⟨gb144,_,none⟩) NB152_144.out _).trans (((cell_far (p := ⟨gb144,_,none⟩) NB152_144.out _).trans (((cell_far (p := ⟨gb144,_,none⟩) NB152_144.out _).trans (hHeld.2.2.1)))))),((cell_far (p := ⟨gb144,_,none⟩) NB157_144.out _).trans (((cell_far (p := ⟨gb144,_,none⟩) NB157_144.out _).trans (((cell_far (p := ⟨gb144,_,none⟩) NB157_144.out _).trans (hHeld.2.2.2.1)))))),((cell_far (p := ⟨gb144,_,none⟩) NB157_144.out _).trans (((cell_far (p := ⟨gb144,_,none⟩) NB157_144.out _).trans (((cell_far (p := ⟨gb144,_,none⟩) NB157_144.out _).trans (hHeld.2.2.2.2.1)))))),((cell_far (p := ⟨gb144,_,none⟩) NB157_144.out _).trans (((cell_far (p := ⟨gb144,_,none⟩) NB157_144.out _).trans (((cell_far (p := ⟨gb144,_,none⟩) NB157_144.out _).trans (hHeld.2.2.2.2.2))))))⟩ (fun hHeld => ?_)
          clear hK K
          refine one_ (i := 7) (N := none) #[true,true,true,true,true,true,true,true,false] rfl rfl (one_of HT_.out Z580) Z581 (fun K hK => ?_)
          have hs65 : w61.cell? ⟨gb145,0,none⟩ = some (.bool false) := (blk_cell BK145.out 0).trans rfl
          have hfs65 := blk_frozen BK145.out 0
          have hns65_0 := NB142_145.out
          have hns65_1 := NB143_145.out
          have hns65_2 := NB144_145.out
          have hns65_4 := NB152_145.out
          have hns65_5 := NB157_145.out
          have hms65_0 := NB145_142.out
          have hms65_1 := NB145_143.out
          have hms65_2 := NB145_144.out
          have hms65_4 := NB145_152.out
          have hms65_5 := NB145_157.out
          have hs66 : w61.cell? ⟨gb145,1,none⟩ = some (.int .u64 0) := (blk_cell BK145.out 1).trans rfl
          have hfs66 := blk_frozen BK145.out 1
          have hns66_0 := NB142_145.out
          have hns66_1 := NB143_145.out
          have hns66_2 := NB144_145.out
          have hns66_4 := NB152_145.out
          have hns66_5 := NB157_145.out
          have hms66_0 := NB145_142.out
          have hms66_1 := NB145_143.out
          have hms66_2 := NB145_144.out
          have hms66_4 := NB145_152.out
          have hms66_5 := NB145_157.out
          have hs67 : w61.cell? ⟨gb145,2,none⟩ = some (.int .u64 0) := (blk_cell BK145.out 2).trans rfl
          have hfs67 := blk_frozen BK145.out 2
          have hns67_0 := NB142_145.out
          have hns67_1 := NB143_145.out
          have hns67_2 := NB144_145.out
          have hns67_4 := NB152_145.out
          have hns67_5 := NB157_145.out
          have hms67_0 := NB145_142.out
          have hms67_1 := NB145_143.out
          have hms67_2 := NB145_144.out
          have hms67_4 := NB145_152.out
          have hms67_5 := NB145_157.out
          refine skip_ (w1 := ?_) Z582 rfl ?_ ?_
          rotate_left
          · go_simp
            rfl
          refine hK.out _ _ ⟨((cell_far (p := ⟨gb145,_,none⟩) NB152_145.out _).trans (((cell_far (p := ⟨gb145,_,none⟩) NB152_145.out _).trans (((cell_far (p := ⟨gb145,_,none⟩) NB152_145.out _).trans (hHeld.1)))))),((cell_far (p := ⟨gb145,_,none⟩) NB152_145.out _).trans (((cell_far (p := ⟨gb145,_,none⟩) NB152_145.out _).trans (((cell_far (p := ⟨gb145,_,none⟩) NB152_145.out _).trans (hHeld.2.1)))))),((cell_far (p := ⟨gb145,_,none⟩) NB152_145.out _).trans (((cell_far (p := ⟨gb145,_,none⟩) NB152_145.out _).trans (((cell_far (p := ⟨gb145,_,none⟩) NB152_145.out _).trans (hHeld.2.2.1)))))),((cell_far (p := ⟨gb145,_,none⟩) NB157_145.out _).trans (((cell_far (p := ⟨gb145,_,none⟩) NB157_145.out _).trans (((cell_far (p := ⟨gb145,_,none⟩) NB157_145.out _).trans (hHeld.2.2.2.1)))))),((cell_far (p := ⟨gb145,_,none⟩) NB157_145.out _).trans (((cell_far (p := ⟨gb145,_,none⟩) NB157_145.out _).trans (((cell_far (p := ⟨gb145,_,none⟩) NB157_145.out _).trans (hHeld.2.2.2.2.1)))))),((cell_far (p := ⟨gb145,_,none⟩) NB157_145.out _).trans (((cell_far (p := ⟨gb145,_,none⟩) NB157_145.out _).trans (((cell_far (p := ⟨gb145,_,none⟩) NB157_145.out _).trans (hHeld.2.2.2.2.2))))))⟩ (fun hHeld => ?_)
          clear hK K
          refine pure_ (i := 8) (N := some 6) (v := ?_) (a' := ?_) #[true,true,true,true,true,true,true,true,true] rfl rfl (any_of HT_.out Z580) (fun _ _ _ h => h) (Or.inl ⟨Z582,?_⟩) ?_ ?_
          rotate_left
          · intro w'
            go_simp
            with_reducible rfl
          rotate_left
          · simp only [Act.put,List.setIfInBounds_toArray,List.set_cons_zero,List.set_cons_succ,i64_w,i32_w]
            rfl
          refine done_ (done_of HT_.out Z580) ?_
          try go_wp2
          refine bodyPost_ret (results_list (rs := [.cell 4 28,.cell 5 28,.tmp 6]) rfl Z596 (.cell gb144 28 #[.bool t148,.int .u64 t149,.int .u64 t150] (0,0) _ rfl Z15 Try.underlying28 rfl Z580 (.cell gb145 28 #[.bool t153,.int .u64 t154,.int .u64 t155] (0,0) _ rfl Z12 Try.underlying28 rfl Z580 (.tmp .nil)))) rfl ?_
          exact ⟨Z400,Z42⟩
        · replace c35 := Bool.eq_false_iff.mpr c35
          subst c35
          have H1 : (some (t148,t149,t150,t153,t154,t155,false)) = some (r1,r2,r3,r4,r5,r6,r7) := by rw [if_neg (show ¬ (false = true) by decide)] at H;exact H
          clear H
          have H := H1
          clear H1
          simp only [Option.some.injEq,Prod.mk.injEq] at H
          obtain ⟨rfl,rfl,rfl,rfl,rfl,rfl,rfl⟩ := H
          have hnb68 := NB142_143.out
          have hnc68 := NB143_142.out
          have hnb69 := NB142_144.out
          have hnc69 := NB144_142.out
          have hnb70 := NB142_145.out
          have hnc70 := NB145_142.out
          obtain ⟨hcz71_0,hcz71_1,hcz71_2,hcz71_3,hfz71_0,hfz71_1,hfz71_2,hfz71_3⟩ := spec_l5Cross.cells4 BK142.out
          have hnb72 := NB143_144.out
          have hnc72 := NB144_143.out
          have hnb73 := NB143_145.out
          have hnc73 := NB145_143.out
          obtain ⟨hcz74_0,hcz74_1,hcz74_2,hcz74_3,hfz74_0,hfz74_1,hfz74_2,hfz74_3⟩ := spec_l5Cross.cells4 BK143.out
          try go_wp2_with (first | ((with_reducible refine gate_callee (f := 64) rfl ?_);refine goesL_ (some 26) rfl rfl Try.func64 Z580 rfl #[.agg #[.bool a0_0,.int .u64 a0_1,.int .u64 a0_2],.int .i64 a1_3] rfl Z395 ?_;(with_reducible refine (spec_ScaleWide.calls a0_0 a0_1 a0_2 a1_3 t148 t149 t150 false _ A33.out).mono ?_);rintro e w75 ⟨rfl,hb⟩;refine ⟨_,rfl,?_⟩;have n_ := jA (blk_below (g := gb142) (o := .cells #[.bool a0_0,.int .u64 a0_1,.int .u64 a0_2,.int .i64 a0_3] 30 (0,0)) Z529 hb) (jA (blk_below (g := gb143) (o := .cells #[.bool a1_0,.int .u64 a1_1,.int .u64 a1_2,.int .i64 a1_3] 30 (0,0)) Z531 hb) (jA (blk_below (g := gb144) (o := .cells #[.bool false,.int .u64 0,.int .u64 0] 28 (0,0)) Z536 hb) (jA (blk_below (g := gb145) (o := .cells #[.bool false,.int .u64 0,.int .u64 0] 28 (0,0)) Z539 hb) (Aside0.mk (below_step Z409 hb)))));clear BK142 BK143 BK144 BK145 HB;obtain ⟨BK142,BK143,BK144,BK145,HB⟩ := n_;(try clear hb);(try clear hb2);(try clear hk);(try clear hi)) | ((with_reducible refine gate_dst (N := 7) rfl ?_);refine box_event ?hg (N := 7) ?hd (cs := #[.bool false,.int .u64 0,.int .u64 0]) (t := 28) ?hr ?_;(case hd => rfl);(case hg => rfl);(case hr => exact Z515);intro gb152 hg w76 hbox hb;have n_ := jA (blk_below (g := gb142) (o := .cells #[.bool a0_0,.int .u64 a0_1,.int .u64 a0_2,.int .i64 a0_3] 30 (0,0)) Z529 hb) (jA (blk_below (g := gb143) (o := .cells #[.bool a1_0,.int .u64 a1_1,.int .u64 a1_2,.int .i64 a1_3] 30 (0,0)) Z531 hb) (jA (blk_below (g := gb144) (o := .cells #[.bool false,.int .u64 0,.int .u64 0] 28 (0,0)) Z536 hb) (jA (blk_below (g := gb145) (o := .cells #[.bool false,.int .u64 0,.int .u64 0] 28 (0,0)) Z539 hb) (jA (below_step Z409 hb) (jA (hbox) (jA ((Z61 : w.heap.size ≤ gb152)) (jA ((Z61 : w.heap.size ≤ gb152)) (jA ((Z283 : gb142 ≠ gb152)) (jA ((Z285 : gb152 ≠ gb142)) (jA ((Z289 : gb143 ≠ gb152)) (jA ((Z293 : gb152 ≠ gb143)) (jA ((Z358 : gb144 ≠ gb152)) (jA ((Z360 : gb152 ≠ gb144)) (jA ((Z364 : gb145 ≠ gb152)) (Aside0.mk ((Z368 : gb152 ≠ gb145)))))))))))))))));clear BK142 BK143 BK144 BK145 HB;obtain ⟨BK142,BK143,BK144,BK145,HB,BK152,GW152,GE152,NB142_152,NB152_142,NB143_152,NB152_143,NB144_152,NB152_144,NB145_152,NB152_145⟩ := n_;clear hb hbox hg;have hnb77 := NB152_142.out;have hnc77 := NB142_152.out;have hnb78 := NB152_143.out;have hnc78 := NB143_152.out;have hnb79 := NB152_144.out;have hnc79 := NB144_152.out;have hnb80 := NB152_145.out;have hnc80 := NB145_152.out;obtain ⟨hcz81_0,hcz81_1,hcz81_2,hfz81_0,hfz81_1,hfz81_2⟩ := spec_l5Cross.cells3 BK152.out;obtain ⟨hcz82_0,hcz82_1,hcz82_2,hcz82_3,hfz82_0,hfz82_1,hfz82_2,hfz82_3⟩ := spec_l5Cross.cells4 BK143.out;obtain ⟨hcz83_0,hcz83_1,hcz83_2,hcz83_3,hfz83_0,hfz83_1,hfz83_2,hfz83_3⟩ := spec_l5Cross.cells4 BK142.out) | ((with_reducible refine gate_callee (f := 64) rfl ?_);refine goesL_ (some 34) rfl rfl Try.func64 Z580 rfl #[.agg #[.bool a1_0,.int .u64 a1_1,.int .u64 a1_2],.int .i64 a0_3] rfl Z395 ?_;(with_reducible refine (spec_ScaleWide.calls a1_0 a1_1 a1_2 a0_3 t153 t154 t155 t156 _ A34.out).mono ?_);rintro e w84 ⟨rfl,hb⟩;refine ⟨_,rfl,?_⟩;have n_ := jA (blk_below (g := gb142) (o := .cells #[.bool a0_0,.int .u64 a0_1,.int .u64 a0_2,.int .i64 a0_3] 30 (0,0)) Z255 hb) (jA (blk_below (g := gb143) (o := .cells #[.bool a1_0,.int .u64 a1_1,.int .u64 a1_2,.int .i64 a1_3] 30 (0,0)) Z254 hb) (jA (blk_below (g := gb144) (o := .cells #[.bool false,.int .u64 0,.int .u64 0] 28 (0,0)) Z253 hb) (jA (blk_below (g := gb145) (o := .cells #[.bool false,.int .u64 0,.int .u64 0] 28 (0,0)) Z252 hb) (jA (blk_below (g := gb152) (o := .cells #[.bool t148,.int .u64 t149,.int .u64 t150] 28 (0,0)) Z74 hb) (Aside0.mk (below_step Z406 hb))))));clear BK142 BK143 BK144 BK145 BK152 HB;obtain ⟨BK142,BK143,BK144,BK145,BK152,HB⟩ := n_;(try clear hb);(try clear hb2);(try clear hk);(try clear hi)) | ((with_reducible refine gate_dst (N := 9) rfl ?_);refine box_event ?hg (N := 9) ?hd (cs := #[.bool false,.int .u64 0,.int .u64 0]) (t := 28) ?hr ?_;(case hd => rfl);(case hg => rfl);(case hr => exact Z515);intro gb157 hg w85 hbox hb;have n_ := jA (blk_below (g := gb142) (o := .cells #[.bool a0_0,.int .u64 a0_1,.int .u64 a0_2,.int .i64 a0_3] 30 (0,0)) Z529 hb) (jA (blk_below (g := gb143) (o := .cells #[.bool a1_0,.int .u64 a1_1,.int .u64 a1_2,.int .i64 a1_3] 30 (0,0)) Z531 hb) (jA (blk_below (g := gb144) (o := .cells #[.bool false,.int .u64 0,.int .u64 0] 28 (0,0)) Z536 hb) (jA (blk_below (g := gb145) (o := .cells #[.bool false,.int .u64 0,.int .u64 0] 28 (0,0)) Z539 hb) (jA (blk_below (g := gb152) (o := .cells #[.bool t148,.int .u64 t149,.int .u64 t150] 28 (0,0)) Z577 hb) (jA (below_step Z406 hb) (jA (hbox) (jA ((Z40 : w.heap.size ≤ gb157)) (jA ((Z40 : w.heap.size ≤ gb157)) (jA ((Z283 : gb142 ≠ gb157)) (jA ((Z285 : gb157 ≠ gb142)) (jA ((Z289 : gb143 ≠ gb157)) (jA ((Z293 : gb157 ≠ gb143)) (jA ((Z358 : gb144 ≠ gb157)) (jA ((Z360 : gb157 ≠ gb144)) (jA ((Z364 : gb145 ≠ gb157)) (jA ((Z368 : gb157 ≠ gb145)) (jA ((Z348 : gb152 ≠ gb157)) (Aside0.mk ((Z352 : gb157 ≠ gb152))))))))))))))))))));clear BK142 BK143 BK144 BK145 BK152 HB;obtain ⟨BK142,BK143,BK144,BK145,BK152,HB,BK157,GW157,GE157,NB142_157,NB157_142,NB143_157,NB157_143,NB144_157,NB157_144,NB145_157,NB157_145,NB152_157,NB157_152⟩ := n_;clear hb hbox hg;have hnb86 := NB157_142.out;have hnc86 := NB142_157.out;have hnb87 := NB157_143.out;have hnc87 := NB143_157.out;have hnb88 := NB157_144.out;have hnc88 := NB144_157.out;have hnb89 := NB157_145.out;have hnc89 := NB145_157.out;have hnb90 := NB157_152.out;have hnc90 := NB152_157.out;obtain ⟨hcz91_0,hcz91_1,hcz91_2,hfz91_0,hfz91_1,hfz91_2⟩ := spec_l5Cross.cells3 BK157.out))
          have n0_ : Aside0 ((((w85.setCell ⟨gb157,0,none⟩ (.bool t153)).setCell ⟨gb157,1,none⟩ (.int .u64 t154)).setCell ⟨gb157,2,none⟩ (.int .u64 t155)).heap[gb142]? = some (.cells #[.bool a0_0,.int .u64 a0_1,.int .u64 a0_2,.int .i64 a0_3] 30 (0,0))) := ⟨Z265⟩
          have n1_ : Aside0 ((((w85.setCell ⟨gb157,0,none⟩ (.bool t153)).setCell ⟨gb157,1,none⟩ (.int .u64 t154)).setCell ⟨gb157,2,none⟩ (.int .u64 t155)).heap[gb143]? = some (.cells #[.bool a1_0,.int .u64 a1_1,.int .u64 a1_2,.int .i64 a1_3] 30 (0,0))) := ⟨Z264⟩
          have n2_ : Aside0 ((((w85.setCell ⟨gb157,0,none⟩ (.bool t153)).setCell ⟨gb157,1,none⟩ (.int .u64 t154)).setCell ⟨gb157,2,none⟩ (.int .u64 t155)).heap[gb144]? = some (.cells #[.bool false,.int .u64 0,.int .u64 0] 28 (0,0))) := ⟨Z263⟩
          have n3_ : Aside0 ((((w85.setCell ⟨gb157,0,none⟩ (.bool t153)).setCell ⟨gb157,1,none⟩ (.int .u64 t154)).setCell ⟨gb157,2,none⟩ (.int .u64 t155)).heap[gb145]? = some (.cells #[.bool false,.int .u64 0,.int .u64 0] 28 (0,0))) := ⟨Z262⟩
          have n4_ : Aside0 ((((w85.setCell ⟨gb157,0,none⟩ (.bool t153)).setCell ⟨gb157,1,none⟩ (.int .u64 t154)).setCell ⟨gb157,2,none⟩ (.int .u64 t155)).heap[gb152]? = some (.cells #[.bool t148,.int .u64 t149,.int .u64 t150] 28 (0,0))) := ⟨Z261⟩
          have n5_ : Aside0 ((((w85.setCell ⟨gb157,0,none⟩ (.bool t153)).setCell ⟨gb157,1,none⟩ (.int .u64 t154)).setCell ⟨gb157,2,none⟩ (.int .u64 t155)).heap[gb157]? = some (.cells #[.bool t153,.int .u64 t154,.int .u64 t155] 28 (0,0))) := ⟨Z76⟩
          have n6_ : Aside0 (Below w.heap.size w (((w85.setCell ⟨gb157,0,none⟩ (.bool t153)).setCell ⟨gb157,1,none⟩ (.int .u64 t154)).setCell ⟨gb157,2,none⟩ (.int .u64 t155))) := ⟨Z42⟩
          (try clear BK142)
          (try clear BK143)
          (try clear BK144)
          (try clear BK145)
          (try clear BK152)
          (try clear BK157)
          (try clear HB)
          generalize (((w85.setCell ⟨gb157,0,none⟩ (.bool t153)).setCell ⟨gb157,1,none⟩ (.int .u64 t154)).setCell ⟨gb157,2,none⟩ (.int .u64 t155)) = w92 at n0_ n1_ n2_ n3_ n4_ n5_ n6_ ⊢
          have BK142 := n0_
          have BK143 := n1_
          have BK144 := n2_
          have BK145 := n3_
          have BK152 := n4_
          have BK157 := n5_
          have HB := n6_
          clear n0_ n1_ n2_ n3_ n4_ n5_ n6_
          have n0_ := Aside0.mk (blk_drew BK142.out)
          have n1_ := Aside0.mk (blk_drew BK143.out)
          have n2_ := Aside0.mk (blk_drew BK144.out)
          have n3_ := Aside0.mk (blk_drew BK145.out)
          have n4_ := Aside0.mk (blk_drew BK152.out)
          have n5_ := Aside0.mk (blk_drew BK157.out)
          have n6_ := Aside0.mk (below_drew1 HB.out)
          clear BK142
          clear BK143
          clear BK144
          clear BK145
          clear BK152
          clear BK157
          clear HB
          have BK142 := n0_
          have BK143 := n1_
          have BK144 := n2_
          have BK145 := n3_
          have BK152 := n4_
          have BK157 := n5_
          have HB := n6_
          clear n0_ n1_ n2_ n3_ n4_ n5_ n6_
          refine start_ (n := 9) (S := fun w' => w'.cell? ⟨gb152,0,none⟩ = some (.bool t148) ∧ w'.cell? ⟨gb152,1,none⟩ = some (.int .u64 t149) ∧ w'.cell? ⟨gb152,2,none⟩ = some (.int .u64 t150) ∧ w'.cell? ⟨gb157,0,none⟩ = some (.bool t153) ∧ w'.cell? ⟨gb157,1,none⟩ = some (.int .u64 t154) ∧ w'.cell? ⟨gb157,2,none⟩ = some (.int .u64 t155)) (ds := []) #[false,false,false,false,false,false,false,false,false] Z580 rfl rfl ⟨(blk_cell BK152.out 0).trans rfl,(blk_cell BK152.out 1).trans rfl,(blk_cell BK152.out 2).trans rfl,(blk_cell BK157.out 0).trans rfl,(blk_cell BK157.out 1).trans rfl,(blk_cell BK157.out 2).trans rfl⟩ (fun hHeld => ?_);refine with_tabW spec_l5Cross.tab5 spec_l5Cross.bits5 (fun HT_ HW_ => ?_)
          generalize w92.drew = w93 at BK142 BK143 BK144 BK145 BK152 BK157 HB hHeld ⊢
          refine pure_ (i := 2) (N := some 39) (v := ?_) (a' := ?_) #[false,false,true,false,false,false,false,false,false] rfl rfl (any_of HT_.out Z580) (fun _ _ _ h => h) (Or.inl ⟨Z582,?_⟩) ?_ ?_
          rotate_left
          · intro w'
            go_simp
            with_reducible rfl
          rotate_left
          · simp only [Act.put,List.setIfInBounds_toArray,List.set_cons_zero,List.set_cons_succ,i64_w,i32_w]
            rfl
          refine pure_ (i := 3) (N := some 40) (v := ?_) (a' := ?_) #[false,false,true,true,false,false,false,false,false] rfl rfl (any_of HT_.out Z580) (fun _ _ _ h => h) (Or.inl ⟨Z582,?_⟩) ?_ ?_
          rotate_left
          · intro w'
            go_simp
            with_reducible rfl
          rotate_left
          · simp only [Act.put,List.setIfInBounds_toArray,List.set_cons_zero,List.set_cons_succ,i64_w,i32_w]
            rfl
          refine pure_ (i := 4) (N := some 41) (v := undef) (a' := ?_) #[false,false,true,true,true,false,false,false,false] rfl rfl (any_of HT_.out Z580) (fun _ _ _ h => h) (Or.inr ⟨Z582,rfl⟩) ?_ ?_
          rotate_left
          · simp only [Act.put,List.setIfInBounds_toArray,List.set_cons_zero,List.set_cons_succ,i64_w,i32_w]
            rfl
          refine pure_ (i := 5) (N := some 42) (v := ?_) (a' := ?_) #[false,false,true,true,true,true,false,false,false] rfl rfl (any_of HT_.out Z580) (fun _ _ _ h => h) (Or.inl ⟨Z582,?_⟩) ?_ ?_
          rotate_left
          · intro w'
            go_simp
            with_reducible rfl
          rotate_left
          · simp only [Act.put,List.setIfInBounds_toArray,List.set_cons_zero,List.set_cons_succ,i64_w,i32_w]
            rfl
          refine take_ (i := 0) (N := some 37) (v := ?_) (a' := ?_) #[true,false,true,true,true,true,false,false,false] rfl rfl (take_ofW HT_.out HW_.out Z580) (fun _ _ _ h => h) (Or.inl ⟨Z582,?_⟩) hHeld ?_ ?_
          rotate_left
          · rintro w' ⟨s0,s1,s2,s3,s4,s5⟩
            go_simp
            with_reducible rfl
          rotate_left
          · simp only [Act.put,List.setIfInBounds_toArray,List.set_cons_zero,List.set_cons_succ,i64_w,i32_w]
            rfl
          refine take_ (i := 1) (N := some 38) (v := ?_) (a' := ?_) #[true,true,true,true,true,true,false,false,false] rfl rfl (take_ofW HT_.out HW_.out Z580) (fun _ _ _ h => h) (Or.inl ⟨Z582,?_⟩) hHeld ?_ ?_
          rotate_left
          · rintro w' ⟨s0,s1,s2,s3,s4,s5⟩
            go_simp
            with_reducible rfl
          rotate_left
          · simp only [Act.put,List.setIfInBounds_toArray,List.set_cons_zero,List.set_cons_succ,i64_w,i32_w]
            rfl
          refine one_ (i := 6) (N := none) #[true,true,true,true,true,true,true,false,false] rfl rfl (one_of HT_.out Z580) Z581 (fun K hK => ?_)
          have hs94 : w93.cell? ⟨gb144,0,none⟩ = some (.bool false) := (blk_cell BK144.out 0).trans rfl
          have hfs94 := blk_frozen BK144.out 0
          have hns94_0 := NB142_144.out
          have hns94_1 := NB143_144.out
          have hns94_3 := NB145_144.out
          have hns94_4 := NB152_144.out
          have hns94_5 := NB157_144.out
          have hms94_0 := NB144_142.out
          have hms94_1 := NB144_143.out
          have hms94_3 := NB144_145.out
          have hms94_4 := NB144_152.out
          have hms94_5 := NB144_157.out
          have hs95 : w93.cell? ⟨gb144,1,none⟩ = some (.int .u64 0) := (blk_cell BK144.out 1).trans rfl
          have hfs95 := blk_frozen BK144.out 1
          have hns95_0 := NB142_144.out
          have hns95_1 := NB143_144.out
          have hns95_3 := NB145_144.out
          have hns95_4 := NB152_144.out
          have hns95_5 := NB157_144.out
          have hms95_0 := NB144_142.out
          have hms95_1 := NB144_143.out
          have hms95_3 := NB144_145.out
          have hms95_4 := NB144_152.out
          have hms95_5 := NB144_157.out
          have hs96 : w93.cell? ⟨gb144,2,none⟩ = some (.int .u64 0) := (blk_cell BK144.out 2).trans rfl
          have hfs96 := blk_frozen BK144.out 2
          have hns96_0 := NB142_144.out
          have hns96_1 := NB143_144.out
          have hns96_3 := NB145_144.out
          have hns96_4 := NB152_144.out
          have hns96_5 := NB157_144.out
          have hms96_0 := NB144_142.out
          have hms96_1 := NB144_143.out
          have hms96_3 := NB144_145.out
          have hms96_4 := NB144_152.out
          have hms96_5 := NB144_157.out
          refine skip_ (w1 := ?_) Z582 rfl ?_ ?_
          rotate_left
          · go_simp
            rfl
          refine hK.out _ _ ⟨((cell_far (p := ⟨gb144,_,none⟩) NB152_144.out _).trans (((cell_far (p := ⟨gb144,_,none⟩) NB152_144.out _).trans (((cell_far (p := ⟨gb144,_,none⟩) NB152_144.out _).trans (hHeld.1)))))),((cell_far (p := ⟨gb144,_,none⟩) NB152_144.out _).trans (((cell_far (p := ⟨gb144,_,none⟩) NB152_144.out _).trans (((cell_far (p := ⟨gb144,_,none⟩) NB152_144.out _).trans (hHeld.2.1)))))),((cell_far (p := ⟨gb144,_,none⟩) NB152_144.out _).trans (((cell_far (p := ⟨gb144,_,none⟩) NB152_144.out _).trans (((cell_far (p := ⟨gb144,_,none⟩) NB152_144.out _).trans (hHeld.2.2.1)))))),((cell_far (p := ⟨gb144,_,none⟩) NB157_144.out _).trans (((cell_far (p := ⟨gb144,_,none⟩) NB157_144.out _).trans (((cell_far (p := ⟨gb144,_,none⟩) NB157_144.out _).trans (hHeld.2.2.2.1)))))),((cell_far (p := ⟨gb144,_,none⟩) NB157_144.out _).trans (((cell_far (p := ⟨gb144,_,none⟩) NB157_144.out _).trans (((cell_far (p := ⟨gb144,_,none⟩) NB157_144.out _).trans (hHeld.2.2.2.2.1)))))),((cell_far (p := ⟨gb144,_,none⟩) NB157_144.out _).trans (((cell_far (p := ⟨gb144,_,none⟩) NB157_144.out _).trans (((cell_far (p := ⟨gb144,_,none⟩) NB157_144.out _).trans (hHeld.2.2.2.2.2))))))⟩ (fun hHeld => ?_)
          clear hK K
          refine one_ (i := 7) (N := none) #[true,true,true,true,true,true,true,true,false] rfl rfl (one_of HT_.out Z580) Z581 (fun K hK => ?_)
          have hs97 : w93.cell? ⟨gb145,0,none⟩ = some (.bool false) := (blk_cell BK145.out 0).trans rfl
          have hfs97 := blk_frozen BK145.out 0
          have hns97_0 := NB142_145.out
          have hns97_1 := NB143_145.out
          have hns97_2 := NB144_145.out
          have hns97_4 := NB152_145.out
          have hns97_5 := NB157_145.out
          have hms97_0 := NB145_142.out
          have hms97_1 := NB145_143.out
          have hms97_2 := NB145_144.out
          have hms97_4 := NB145_152.out
          have hms97_5 := NB145_157.out
          have hs98 : w93.cell? ⟨gb145,1,none⟩ = some (.int .u64 0) := (blk_cell BK145.out 1).trans rfl
          have hfs98 := blk_frozen BK145.out 1
          have hns98_0 := NB142_145.out
          have hns98_1 := NB143_145.out
          have hns98_2 := NB144_145.out
          have hns98_4 := NB152_145.out
          have hns98_5 := NB157_145.out
          have hms98_0 := NB145_142.out
          have hms98_1 := NB145_143.out
          have hms98_2 := NB145_144.out
          have hms98_4 := NB145_152.out
          have hms98_5 := NB145_157.out
          have hs99 : w93.cell? ⟨gb145,2,none⟩ = some (.int .u64 0) := (blk_cell BK145.out 2).trans rfl
          have hfs99 := blk_frozen BK145.out 2
          have hns99_0 := NB142_145.out
          have hns99_1 := NB143_145.out
          have hns99_2 := NB144_145.out
          have hns99_4 := NB152_145.out
          have hns99_5 := NB157_145.out
          have hms99_0 := NB145_142.out
          have hms99_1 := NB145_143.out
          have hms99_2 := NB145_144.out
          have hms99_4 := NB145_152.out
          have hms99_5 := NB145_157.out
          refine skip_ (w1 := ?_) Z582 rfl ?_ ?_
          rotate_left
          · go_simp
            rfl
          refine hK.out _ _ ⟨((cell_far (p := ⟨gb145,_,none⟩) NB152_145.out _).trans (((cell_far (p := ⟨gb145,_,none⟩) NB152_145.out _).trans (((cell_far (p := ⟨gb145,_,none⟩) NB152_145.out _).trans (hHeld.1)))))),((cell_far (p := ⟨gb145,_,none⟩) NB152_145.out _).trans (((cell_far (p := ⟨gb145,_,none⟩) NB152_145.out _).trans (((cell_far (p := ⟨gb145,_,none⟩) NB152_145.out _).trans (hHeld.2.1)))))),((cell_far (p := ⟨gb145,_,none⟩) NB152_145.out _).trans (((cell_far (p := ⟨gb145,_,none⟩) NB152_145.out _).trans (((cell_far (p := ⟨gb145,_,none⟩) NB152_145.out _).trans (hHeld.2.2.1)))))),((cell_far (p := ⟨gb145,_,none⟩) NB157_145.out _).trans (((cell_far (p := ⟨gb145,_,none⟩) NB157_145.out _).trans (((cell_far (p := ⟨gb145,_,none⟩) NB157_145.out _).trans (hHeld.2.2.2.1)))))),((cell_far (p := ⟨gb145,_,none⟩) NB157_145.out _).trans (((cell_far (p := ⟨gb145,_,none⟩) NB157_145.out _).trans (((cell_far (p := ⟨gb145,_,none⟩) NB157_145.out _).trans (hHeld.2.2.2.2.1)))))),((cell_far (p := ⟨gb145,_,none⟩) NB157_145.out _).trans (((cell_far (p := ⟨gb145,_,none⟩) NB157_145.out _).trans (((cell_far (p := ⟨gb145,_,none⟩) NB157_145.out _).trans (hHeld.2.2.2.2.2))))))⟩ (fun hHeld => ?_)
          clear hK K
          refine pure_ (i := 8) (N := some 6) (v := ?_) (a' := ?_) #[true,true,true,true,true,true,true,true,true] rfl rfl (any_of HT_.out Z580) (fun _ _ _ h => h) (Or.inl ⟨Z582,?_⟩) ?_ ?_
          rotate_left
          · intro w'
            go_simp
            with_reducible rfl
          rotate_left
          · simp only [Act.put,List.setIfInBounds_toArray,List.set_cons_zero,List.set_cons_succ,i64_w,i32_w]
            rfl
          refine done_ (done_of HT_.out Z580) ?_
          try go_wp2
          refine bodyPost_ret (results_list (rs := [.cell 4 28,.cell 5 28,.tmp 6]) rfl Z596 (.cell gb144 28 #[.bool t148,.int .u64 t149,.int .u64 t150] (0,0) _ rfl Z15 Try.underlying28 rfl Z580 (.cell gb145 28 #[.bool t153,.int .u64 t154,.int .u64 t155] (0,0) _ rfl Z12 Try.underlying28 rfl Z580 (.tmp .nil)))) rfl ?_
          exact ⟨Z400,Z42⟩

end Go.Proofs.Ytjcjehnjbgklbaa.QFnImproves
