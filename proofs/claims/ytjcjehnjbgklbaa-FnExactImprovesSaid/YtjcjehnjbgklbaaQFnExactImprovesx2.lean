/- The machine side of FnExactImproves: what each Go function that it reaches comes to. Conditions: none. -/
import Derived.Test.YtjcjehnjbgklbaaQFnExactImprovesx0
import Derived.Test.YtjcjehnjbgklbaaQFnExactImprovesx1
namespace Go.Proofs.Ytjcjehnjbgklbaa.QFnExactImproves
open Go.RowKit Go.Proofs.YtjcjehnjbgklbaaW.PrintWords Go.Proofs.YtjcjehnjbgklbaaW.PrintLast Go.Proofs.YtjcjehnjbgklbaaW.PrintMore
attribute [local go_sem] max2_int min2_int max_two min_two max_three min_three max_four min_four   -- for this text's walks alone
set_option linter.unusedVariables false
set_option linter.unusedSimpArgs false

/-! ### spec_l5Cross: function 45 -/
theorem spec_l5Cross.cells3 {w : World} {g : Nat} {t : TypeId} {a0 a1 a2 : Value} (h : w.heap[g]? = some (.cells #[a0,a1,a2] t (0,0))) : w.cell? ⟨g,0,none⟩ = some a0 ∧ w.cell? ⟨g,1,none⟩ = some a1 ∧ w.cell? ⟨g,2,none⟩ = some a2 ∧ w.frozen? ⟨g,0,none⟩ = false ∧ w.frozen? ⟨g,1,none⟩ = false ∧ w.frozen? ⟨g,2,none⟩ = false := ⟨(blk_cell h 0).trans rfl,(blk_cell h 1).trans rfl,(blk_cell h 2).trans rfl,blk_frozen h 0,blk_frozen h 1,blk_frozen h 2⟩
theorem spec_l5Cross.cells4 {w : World} {g : Nat} {t : TypeId} {a0 a1 a2 a3 : Value} (h : w.heap[g]? = some (.cells #[a0,a1,a2,a3] t (0,0))) : w.cell? ⟨g,0,none⟩ = some a0 ∧ w.cell? ⟨g,1,none⟩ = some a1 ∧ w.cell? ⟨g,2,none⟩ = some a2 ∧ w.cell? ⟨g,3,none⟩ = some a3 ∧ w.frozen? ⟨g,0,none⟩ = false ∧ w.frozen? ⟨g,1,none⟩ = false ∧ w.frozen? ⟨g,2,none⟩ = false ∧ w.frozen? ⟨g,3,none⟩ = false := ⟨(blk_cell h 0).trans rfl,(blk_cell h 1).trans rfl,(blk_cell h 2).trans rfl,(blk_cell h 3).trans rfl,blk_frozen h 0,blk_frozen h 1,blk_frozen h 2,blk_frozen h 3⟩
def spec_l5Cross.j0 : Nat → Bool → Bool → Int → Int → Int → Bool → Int → Int → Int → Option (Bool × Int × Int × Bool × Int × Int × Bool)
  | 0,_,_,_,_,_,_,_,_,_ => none
  | k + 1,x18,x149000,x149001,x149002,x149003,x150000,x150001,x150002,x150003 => if x18 = true then (some (false,0,0,false,0,0,false)) else ((spec_ScaleWide.f x149000 x149001 x149002 x150003).bind fun bt154 => ((spec_ScaleWide.f x150000 x150001 x150002 x149003).bind fun bt159 => (if bt154.2.2.2 = true then (some (bt154.1,bt154.2.1,bt154.2.2.1,bt159.1,bt159.2.1,bt159.2.2.1,bt159.2.2.2)) else (some (bt154.1,bt154.2.1,bt154.2.2.1,bt159.1,bt159.2.1,bt159.2.2.1,false)))))
def spec_l5Cross.f (k : Nat) (a0_0 : Bool) (a0_1 : Int) (a0_2 : Int) (a0_3 : Int) (a1_0 : Bool) (a1_1 : Int) (a1_2 : Int) (a1_3 : Int) : Option (Bool × Int × Int × Bool × Int × Int × Bool) := (spec_FracOk.f a0_0 a0_1 a0_2 a0_3).bind fun t152 => (if t152 = true then ((spec_FracOk.f a1_0 a1_1 a1_2 a1_3).bind fun t153 => (spec_l5Cross.j0 k (!t153) a0_0 a0_1 a0_2 a0_3 a1_0 a1_1 a1_2 a1_3)) else (spec_l5Cross.j0 k true a0_0 a0_1 a0_2 a0_3 a1_0 a1_1 a1_2 a1_3))
theorem spec_l5Cross.mono_l : ∀ k,(∀ y0 y1 y2 y3 y4 y5 y6 y7 y8,LeO (spec_l5Cross.j0 k y0 y1 y2 y3 y4 y5 y6 y7 y8) (spec_l5Cross.j0 (k + 1) y0 y1 y2 y3 y4 y5 y6 y7 y8))
  | 0 => fun _ _ _ _ _ _ _ _ _ r h => by simp [spec_l5Cross.j0] at h
  | k + 1 => by
    have ih0 := spec_l5Cross.mono_l k
    · intro y0 y1 y2 y3 y4 y5 y6 y7 y8
      unfold spec_l5Cross.j0
      repeat' first
      | (with_reducible exact ih0 _ _ _ _ _ _ _ _ _)
      | (with_reducible exact LeO.refl _)
      | (with_reducible exact LeO.none _)
      | (with_reducible refine LeO.ite ?_ ?_)
      | (with_reducible refine LeO.bind ?_ (fun _ => ?_))
      | exact ih0 _ _ _ _ _ _ _ _ _
      | exact LeO.none _
      | refine LeO.ite ?_ ?_
      | refine LeO.bind ?_ (fun _ => ?_)
theorem spec_l5Cross.mono : ∀ a0 a1 a2 a3 a4 a5 a6 a7 k,LeO (spec_l5Cross.f k a0 a1 a2 a3 a4 a5 a6 a7) (spec_l5Cross.f (k + 1) a0 a1 a2 a3 a4 a5 a6 a7) := by
  intro a0 a1 a2 a3 a4 a5 a6 a7 k
  have ih0 := spec_l5Cross.mono_l k
  unfold spec_l5Cross.f
  repeat' first
      | (with_reducible exact ih0 _ _ _ _ _ _ _ _ _)
      | (with_reducible exact LeO.refl _)
      | (with_reducible exact LeO.none _)
      | (with_reducible refine LeO.ite ?_ ?_)
      | (with_reducible refine LeO.bind ?_ (fun _ => ?_))
      | exact ih0 _ _ _ _ _ _ _ _ _
      | exact LeO.none _
      | refine LeO.ite ?_ ?_
      | refine LeO.bind ?_ (fun _ => ?_)
def spec_l5Cross.T5 : Bool × List (List Nat × List Nat) := (true,[([],[]),([],[]),([],[]),([2],[2]),([3],[3]),([3,4],[3,4]),([0,3,0],[0]),([1,6,0,1,6],[1]),([5,7,0,1,2,3,4,5,6,7],[5])])
def spec_l5Cross.B5 : List Nat := [0,0,0,4,12,28,13,79,255]
theorem spec_l5Cross.tab5 : rtab .any (opsOf Try.f45 5) = spec_l5Cross.T5 := by kernel_rfl
theorem spec_l5Cross.bits5 : waitsOk spec_l5Cross.T5.2 spec_l5Cross.B5 = true := by kernel_rfl
set_option maxHeartbeats 8000000 in
set_option maxRecDepth 100000 in
theorem spec_l5Cross.calls (k : Nat) (a0_0 : Bool) (a0_1 : Int) (a0_2 : Int) (a0_3 : Int) (a1_0 : Bool) (a1_1 : Int) (a1_2 : Int) (a1_3 : Int) (r1 : Bool) (r2 : Int) (r3 : Int) (r4 : Bool) (r5 : Int) (r6 : Int) (r7 : Bool) (w : World) (h : spec_l5Cross.f k a0_0 a0_1 a0_2 a0_3 a1_0 a1_1 a1_2 a1_3 = some (r1,r2,r3,r4,r5,r6,r7)) :
    Calls Try.prog 45 #[.agg #[.bool a0_0,.int .u64 a0_1,.int .u64 a0_2,.int .i64 a0_3],.agg #[.bool a1_0,.int .u64 a1_1,.int .u64 a1_2,.int .i64 a1_3]] w fun e w' => e = .returned (.tuple #[.agg #[.bool r1,.int .u64 r2,.int .u64 r3],.agg #[.bool r4,.int .u64 r5,.int .u64 r6],.bool r7]) ∧ Below w.heap.size w w' := by
  have hu30 := Try.underlying30
  have hu28 := Try.underlying28
  have HB := Aside0.mk (Below.refl w.heap.size w)
  have H : ((spec_FracOk.f a0_0 a0_1 a0_2 a0_3).bind fun t152 => (if t152 = true then ((spec_FracOk.f a1_0 a1_1 a1_2 a1_3).bind fun t153 => (spec_l5Cross.j0 k (!t153) a0_0 a0_1 a0_2 a0_3 a1_0 a1_1 a1_2 a1_3)) else (spec_l5Cross.j0 k true a0_0 a0_1 a0_2 a0_3 a1_0 a1_1 a1_2 a1_3))) = some (r1,r2,r3,r4,r5,r6,r7) := h
  clear h
  have HC3 := Aside0.mk H
  clear H
  go_enter Try.func45,Try.ntmps45
  go_upto_region 1 with (first | ((with_reducible refine gate_dst (N := 2) rfl ?_);refine box_event ?hg (N := 2) ?hd (cs := #[.bool a0_0,.int .u64 a0_1,.int .u64 a0_2,.int .i64 a0_3]) (t := 30) ?hr ?_;(case hd => rfl);(case hg => rfl);(case hr => exact Z566);intro gb148 hg w4 hbox hb;have n_ := jA (below_step Z483 hb) (jA (hbox) (jA ((Z366 : w.heap.size ≤ gb148)) (Aside0.mk ((Z366 : w.heap.size ≤ gb148)))));clear HB;obtain ⟨HB,BK148,GW148,GE148⟩ := n_;clear hb hbox hg) | ((with_reducible refine gate_dst (N := 3) rfl ?_);refine box_event ?hg (N := 3) ?hd (cs := #[.bool a1_0,.int .u64 a1_1,.int .u64 a1_2,.int .i64 a1_3]) (t := 30) ?hr ?_;(case hd => rfl);(case hg => rfl);(case hr => exact Z566);intro gb149 hg w5 hbox hb;have n_ := jA (blk_below (g := gb148) (o := .cells #[.bool a0_0,.int .u64 a0_1,.int .u64 a0_2,.int .i64 a0_3] 30 (0,0)) Z501 hb) (jA (below_step Z480 hb) (jA (hbox) (jA ((Z361 : w.heap.size ≤ gb149)) (jA ((Z361 : w.heap.size ≤ gb149)) (jA ((Z199 : gb148 ≠ gb149)) (Aside0.mk ((Z201 : gb149 ≠ gb148))))))));clear BK148 HB;obtain ⟨BK148,HB,BK149,GW149,GE149,NB148_149,NB149_148⟩ := n_;clear hb hbox hg) | ((with_reducible refine gate_dst (N := 4) rfl ?_);refine box_event ?hg (N := 4) ?hd (cs := #[.bool false,.int .u64 0,.int .u64 0]) (t := 28) ?hr ?_;(case hd => rfl);(case hg => rfl);(case hr => exact Z566);intro gb150 hg w6 hbox hb;have n_ := jA (blk_below (g := gb148) (o := .cells #[.bool a0_0,.int .u64 a0_1,.int .u64 a0_2,.int .i64 a0_3] 30 (0,0)) Z501 hb) (jA (blk_below (g := gb149) (o := .cells #[.bool a1_0,.int .u64 a1_1,.int .u64 a1_2,.int .i64 a1_3] 30 (0,0)) Z504 hb) (jA (below_step Z450 hb) (jA (hbox) (jA ((Z240 : w.heap.size ≤ gb150)) (jA ((Z240 : w.heap.size ≤ gb150)) (jA ((Z199 : gb148 ≠ gb150)) (jA ((Z201 : gb150 ≠ gb148)) (jA ((Z205 : gb149 ≠ gb150)) (Aside0.mk ((Z209 : gb150 ≠ gb149)))))))))));clear BK148 BK149 HB;obtain ⟨BK148,BK149,HB,BK150,GW150,GE150,NB148_150,NB150_148,NB149_150,NB150_149⟩ := n_;clear hb hbox hg) | ((with_reducible refine gate_dst (N := 5) rfl ?_);refine box_event ?hg (N := 5) ?hd (cs := #[.bool false,.int .u64 0,.int .u64 0]) (t := 28) ?hr ?_;(case hd => rfl);(case hg => rfl);(case hr => exact Z566);intro gb151 hg w7 hbox hb;have n_ := jA (blk_below (g := gb148) (o := .cells #[.bool a0_0,.int .u64 a0_1,.int .u64 a0_2,.int .i64 a0_3] 30 (0,0)) Z501 hb) (jA (blk_below (g := gb149) (o := .cells #[.bool a1_0,.int .u64 a1_1,.int .u64 a1_2,.int .i64 a1_3] 30 (0,0)) Z504 hb) (jA (blk_below (g := gb150) (o := .cells #[.bool false,.int .u64 0,.int .u64 0] 28 (0,0)) Z508 hb) (jA (below_step Z431 hb) (jA (hbox) (jA ((Z180 : w.heap.size ≤ gb151)) (jA ((Z180 : w.heap.size ≤ gb151)) (jA ((Z199 : gb148 ≠ gb151)) (jA ((Z201 : gb151 ≠ gb148)) (jA ((Z205 : gb149 ≠ gb151)) (jA ((Z209 : gb151 ≠ gb149)) (jA ((Z290 : gb150 ≠ gb151)) (Aside0.mk ((Z292 : gb151 ≠ gb150))))))))))))));clear BK148 BK149 BK150 HB;obtain ⟨BK148,BK149,BK150,HB,BK151,GW151,GE151,NB148_151,NB151_148,NB149_151,NB151_149,NB150_151,NB151_150⟩ := n_;clear hb hbox hg))
  (try simp only [Act.put,List.setIfInBounds_toArray,List.set_cons_zero,List.set_cons_succ])
  go_cut [18] (fun v18 wc => ∃ (kq : Nat) (x18_2 : Bool),v18 = .bool x18_2 ∧ Aside0 (spec_l5Cross.j0 kq x18_2 a0_0 a0_1 a0_2 a0_3 a1_0 a1_1 a1_2 a1_3 = some (r1,r2,r3,r4,r5,r6,r7)) ∧ Aside0 (kq ≤ k) ∧ Aside0 (wc.heap[gb148]? = some (.cells #[.bool a0_0,.int .u64 a0_1,.int .u64 a0_2,.int .i64 a0_3] 30 (0,0))) ∧ Aside0 (wc.heap[gb149]? = some (.cells #[.bool a1_0,.int .u64 a1_1,.int .u64 a1_2,.int .i64 a1_3] 30 (0,0))) ∧ Aside0 (wc.heap[gb150]? = some (.cells #[.bool false,.int .u64 0,.int .u64 0] 28 (0,0))) ∧ Aside0 (wc.heap[gb151]? = some (.cells #[.bool false,.int .u64 0,.int .u64 0] 28 (0,0))) ∧ Aside0 (Below w.heap.size w wc))
  case first =>
    have H := HC3.out
    clear HC3
    obtain ⟨t152,A80,H⟩ := Option.bind_eq_some_iff.mp H
    have A8 := Aside0.mk A80
    clear A80
    by_cases c9 : t152 = true
    · subst c9
      have H1 : ((spec_FracOk.f a1_0 a1_1 a1_2 a1_3).bind fun t153 => (spec_l5Cross.j0 k (!t153) a0_0 a0_1 a0_2 a0_3 a1_0 a1_1 a1_2 a1_3)) = some (r1,r2,r3,r4,r5,r6,r7) := by rw [if_pos rfl] at H;exact H
      clear H
      have H := H1
      clear H1
      obtain ⟨t153,A100,H⟩ := Option.bind_eq_some_iff.mp H
      have A10 := Aside0.mk A100
      clear A100
      have H' := Aside0.mk H
      clear H
      have hnb11 := NB148_149.out
      have hnc11 := NB149_148.out
      have hnb12 := NB148_150.out
      have hnc12 := NB150_148.out
      have hnb13 := NB148_151.out
      have hnc13 := NB151_148.out
      obtain ⟨hcz14_0,hcz14_1,hcz14_2,hcz14_3,hfz14_0,hfz14_1,hfz14_2,hfz14_3⟩ := spec_l5Cross.cells4 BK148.out
      go_wp2_with (first | ((with_reducible refine gate_callee (f := 47) rfl ?_);refine goesL_ (some 12) rfl rfl Try.func47 Z569 rfl #[.agg #[.bool a0_0,.int .u64 a0_1,.int .u64 a0_2,.int .i64 a0_3]] rfl Z375 ?_;(with_reducible refine (spec_FracOk.calls a0_0 a0_1 a0_2 a0_3 true _ A8.out).mono ?_);rintro e w15 ⟨rfl,hb⟩;refine ⟨_,rfl,?_⟩;have n_ := jA (blk_below (g := gb148) (o := .cells #[.bool a0_0,.int .u64 a0_1,.int .u64 a0_2,.int .i64 a0_3] 30 (0,0)) Z501 hb) (jA (blk_below (g := gb149) (o := .cells #[.bool a1_0,.int .u64 a1_1,.int .u64 a1_2,.int .i64 a1_3] 30 (0,0)) Z504 hb) (jA (blk_below (g := gb150) (o := .cells #[.bool false,.int .u64 0,.int .u64 0] 28 (0,0)) Z508 hb) (jA (blk_below (g := gb151) (o := .cells #[.bool false,.int .u64 0,.int .u64 0] 28 (0,0)) Z511 hb) (Aside0.mk (below_step Z414 hb)))));clear BK148 BK149 BK150 BK151 HB;obtain ⟨BK148,BK149,BK150,BK151,HB⟩ := n_;(try clear hb);(try clear hb2);(try clear hk);(try clear hi);have hnb16 := NB149_150.out;have hnc16 := NB150_149.out;have hnb17 := NB149_151.out;have hnc17 := NB151_149.out;obtain ⟨hcz18_0,hcz18_1,hcz18_2,hcz18_3,hfz18_0,hfz18_1,hfz18_2,hfz18_3⟩ := spec_l5Cross.cells4 BK149.out) | (go_at_call 47;(with_reducible refine (spec_FracOk.calls a1_0 a1_1 a1_2 a1_3 t153 _ A10.out).mono ?_);rintro e w19 ⟨rfl,hb⟩;have n_ := jA (blk_below (g := gb148) (o := .cells #[.bool a0_0,.int .u64 a0_1,.int .u64 a0_2,.int .i64 a0_3] 30 (0,0)) Z501 hb) (jA (blk_below (g := gb149) (o := .cells #[.bool a1_0,.int .u64 a1_1,.int .u64 a1_2,.int .i64 a1_3] 30 (0,0)) Z504 hb) (jA (blk_below (g := gb150) (o := .cells #[.bool false,.int .u64 0,.int .u64 0] 28 (0,0)) Z508 hb) (jA (blk_below (g := gb151) (o := .cells #[.bool false,.int .u64 0,.int .u64 0] 28 (0,0)) Z511 hb) (Aside0.mk (below_step Z414 hb)))));clear BK148 BK149 BK150 BK151 HB;obtain ⟨BK148,BK149,BK150,BK151,HB⟩ := n_;(try clear hb);(try clear hb2);(try clear hk);(try clear hi)))
      go_meet
      case rel => exact ⟨_,(!t153),Z565,H',⟨Z567⟩,⟨Z501⟩,⟨Z504⟩,⟨Z508⟩,⟨Z511⟩,⟨Z414⟩⟩
    · replace c9 := Bool.eq_false_iff.mpr c9
      subst c9
      have H1 : (spec_l5Cross.j0 k true a0_0 a0_1 a0_2 a0_3 a1_0 a1_1 a1_2 a1_3) = some (r1,r2,r3,r4,r5,r6,r7) := by rw [if_neg (show ¬ (false = true) by decide)] at H;exact H
      clear H
      have H := H1
      clear H1
      have H' := Aside0.mk H
      clear H
      have hnb20 := NB148_149.out
      have hnc20 := NB149_148.out
      have hnb21 := NB148_150.out
      have hnc21 := NB150_148.out
      have hnb22 := NB148_151.out
      have hnc22 := NB151_148.out
      obtain ⟨hcz23_0,hcz23_1,hcz23_2,hcz23_3,hfz23_0,hfz23_1,hfz23_2,hfz23_3⟩ := spec_l5Cross.cells4 BK148.out
      go_wp2_with (first | ((with_reducible refine gate_callee (f := 47) rfl ?_);refine goesL_ (some 12) rfl rfl Try.func47 Z569 rfl #[.agg #[.bool a0_0,.int .u64 a0_1,.int .u64 a0_2,.int .i64 a0_3]] rfl Z375 ?_;(with_reducible refine (spec_FracOk.calls a0_0 a0_1 a0_2 a0_3 false _ A8.out).mono ?_);rintro e w24 ⟨rfl,hb⟩;refine ⟨_,rfl,?_⟩;have n_ := jA (blk_below (g := gb148) (o := .cells #[.bool a0_0,.int .u64 a0_1,.int .u64 a0_2,.int .i64 a0_3] 30 (0,0)) Z501 hb) (jA (blk_below (g := gb149) (o := .cells #[.bool a1_0,.int .u64 a1_1,.int .u64 a1_2,.int .i64 a1_3] 30 (0,0)) Z504 hb) (jA (blk_below (g := gb150) (o := .cells #[.bool false,.int .u64 0,.int .u64 0] 28 (0,0)) Z508 hb) (jA (blk_below (g := gb151) (o := .cells #[.bool false,.int .u64 0,.int .u64 0] 28 (0,0)) Z511 hb) (Aside0.mk (below_step Z414 hb)))));clear BK148 BK149 BK150 BK151 HB;obtain ⟨BK148,BK149,BK150,BK151,HB⟩ := n_;(try clear hb);(try clear hb2);(try clear hk);(try clear hi)))
      go_meet
      case rel => exact ⟨_,(true),Z565,H',⟨Z567⟩,⟨Z501⟩,⟨Z504⟩,⟨Z508⟩,⟨Z511⟩,⟨Z414⟩⟩
  case rest =>
    clear HC3
    try clear c1
    try clear c2
    try clear p2
    try clear c4
    try clear c9
    try clear c11
    try clear c12
    try clear c13
    try clear c16
    try clear c17
    try clear c20
    try clear c21
    try clear c22
    try clear hcz14_0
    try clear hcz14_1
    try clear hcz14_2
    try clear hcz14_3
    try clear hcz18_0
    try clear hcz18_1
    try clear hcz18_2
    try clear hcz18_3
    try clear hcz23_0
    try clear hcz23_1
    try clear hcz23_2
    try clear hcz23_3
    try clear hfz14_0
    try clear hfz14_1
    try clear hfz14_2
    try clear hfz14_3
    try clear hfz18_0
    try clear hfz18_1
    try clear hfz18_2
    try clear hfz18_3
    try clear hfz23_0
    try clear hfz23_1
    try clear hfz23_2
    try clear hfz23_3
    obtain ⟨kq,x18_2,rfl,HA,HJ2,BK148,BK149,BK150,BK151,HB⟩ := hcut
    cases kq with
    | zero => exact absurd HA.out (by simp [spec_l5Cross.j0])
    | succ kj2 =>
      have H := HA.out
      clear HA
      simp only [spec_l5Cross.j0] at H
      by_cases c25 : x18_2 = true
      · subst c25
        have H1 : (some (false,0,0,false,0,0,false)) = some (r1,r2,r3,r4,r5,r6,r7) := by rw [if_pos rfl] at H;exact H
        clear H
        have H := H1
        clear H1
        simp only [Option.some.injEq,Prod.mk.injEq] at H
        obtain ⟨rfl,rfl,rfl,rfl,rfl,rfl,rfl⟩ := H
        have hnb26 := NB150_148.out
        have hnc26 := NB148_150.out
        have hnb27 := NB150_149.out
        have hnc27 := NB149_150.out
        have hnb28 := NB150_151.out
        have hnc28 := NB151_150.out
        obtain ⟨hcz29_0,hcz29_1,hcz29_2,hfz29_0,hfz29_1,hfz29_2⟩ := spec_l5Cross.cells3 BK150.out
        have hnb30 := NB151_148.out
        have hnc30 := NB148_151.out
        have hnb31 := NB151_149.out
        have hnc31 := NB149_151.out
        obtain ⟨hcz32_0,hcz32_1,hcz32_2,hfz32_0,hfz32_1,hfz32_2⟩ := spec_l5Cross.cells3 BK151.out
        go_wp2
        refine bodyPost_ret (results_list (rs := [.cell 4 28,.cell 5 28,.tmp 6]) rfl (by simp) (.cell gb150 28 #[.bool false,.int .u64 0,.int .u64 0] (0,0) _ rfl (by (with_reducible repeat (first | refine bA ?_ _ | refine bB ?_ | refine bC ?_ _));refine blk_far ?_ NB150_151.out _;(with_reducible repeat (first | refine bA ?_ _ | refine bB ?_ | refine bC ?_ _));refine blk_far ?_ NB150_151.out _;(with_reducible repeat (first | refine bA ?_ _ | refine bB ?_ | refine bC ?_ _));refine blk_far ?_ NB150_151.out _;(with_reducible repeat (first | refine bA ?_ _ | refine bB ?_ | refine bC ?_ _));refine blk_put (cs := #[.bool false,.int .u64 0,.int .u64 0]) ?_ 2 _ rfl;(with_reducible repeat (first | refine bA ?_ _ | refine bB ?_ | refine bC ?_ _));refine blk_put (cs := #[.bool false,.int .u64 0,.int .u64 0]) ?_ 1 _ rfl;(with_reducible repeat (first | refine bA ?_ _ | refine bB ?_ | refine bC ?_ _));refine blk_put (cs := #[.bool false,.int .u64 0,.int .u64 0]) ?_ 0 _ rfl;(with_reducible repeat (first | refine bA ?_ _ | refine bB ?_ | refine bC ?_ _));exact BK150.out) Try.underlying28 rfl Z569 (.cell gb151 28 #[.bool false,.int .u64 0,.int .u64 0] (0,0) _ rfl (by (with_reducible repeat (first | refine bA ?_ _ | refine bB ?_ | refine bC ?_ _));refine blk_put (cs := #[.bool false,.int .u64 0,.int .u64 0]) ?_ 2 _ rfl;(with_reducible repeat (first | refine bA ?_ _ | refine bB ?_ | refine bC ?_ _));refine blk_put (cs := #[.bool false,.int .u64 0,.int .u64 0]) ?_ 1 _ rfl;(with_reducible repeat (first | refine bA ?_ _ | refine bB ?_ | refine bC ?_ _));refine blk_put (cs := #[.bool false,.int .u64 0,.int .u64 0]) ?_ 0 _ rfl;(with_reducible repeat (first | refine bA ?_ _ | refine bB ?_ | refine bC ?_ _));refine blk_far ?_ NB151_150.out _;(with_reducible repeat (first | refine bA ?_ _ | refine bB ?_ | refine bC ?_ _));refine blk_far ?_ NB151_150.out _;(with_reducible repeat (first | refine bA ?_ _ | refine bB ?_ | refine bC ?_ _));refine blk_far ?_ NB151_150.out _;(with_reducible repeat (first | refine bA ?_ _ | refine bB ?_ | refine bC ?_ _));exact BK151.out) Try.underlying28 rfl Z569 (.tmp .nil)))) rfl ?_
        exact ⟨Z558,Z414⟩
      · replace c25 := Bool.eq_false_iff.mpr c25
        subst c25
        have H1 : ((spec_ScaleWide.f a0_0 a0_1 a0_2 a1_3).bind fun bt154 => ((spec_ScaleWide.f a1_0 a1_1 a1_2 a0_3).bind fun bt159 => (if bt154.2.2.2 = true then (some (bt154.1,bt154.2.1,bt154.2.2.1,bt159.1,bt159.2.1,bt159.2.2.1,bt159.2.2.2)) else (some (bt154.1,bt154.2.1,bt154.2.2.1,bt159.1,bt159.2.1,bt159.2.2.1,false))))) = some (r1,r2,r3,r4,r5,r6,r7) := by rw [if_neg (show ¬ (false = true) by decide)] at H;exact H
        clear H
        have H := H1
        clear H1
        obtain ⟨⟨t154,t155,t156,t157⟩,A330,H⟩ := Option.bind_eq_some_iff.mp H
        try dsimp only at H
        have A33 := Aside0.mk A330
        clear A330
        obtain ⟨⟨t159,t160,t161,t162⟩,A340,H⟩ := Option.bind_eq_some_iff.mp H
        try dsimp only at H
        have A34 := Aside0.mk A340
        clear A340
        by_cases c35 : t157 = true
        · subst c35
          have H1 : (some (t154,t155,t156,t159,t160,t161,t162)) = some (r1,r2,r3,r4,r5,r6,r7) := by rw [if_pos rfl] at H;exact H
          clear H
          have H := H1
          clear H1
          simp only [Option.some.injEq,Prod.mk.injEq] at H
          obtain ⟨rfl,rfl,rfl,rfl,rfl,rfl,rfl⟩ := H
          have hnb36 := NB148_149.out
          have hnc36 := NB149_148.out
          have hnb37 := NB148_150.out
          have hnc37 := NB150_148.out
          have hnb38 := NB148_151.out
          have hnc38 := NB151_148.out
          obtain ⟨hcz39_0,hcz39_1,hcz39_2,hcz39_3,hfz39_0,hfz39_1,hfz39_2,hfz39_3⟩ := spec_l5Cross.cells4 BK148.out
          have hnb40 := NB149_150.out
          have hnc40 := NB150_149.out
          have hnb41 := NB149_151.out
          have hnc41 := NB151_149.out
          obtain ⟨hcz42_0,hcz42_1,hcz42_2,hcz42_3,hfz42_0,hfz42_1,hfz42_2,hfz42_3⟩ := spec_l5Cross.cells4 BK149.out
          try go_wp2_with (first | ((with_reducible refine gate_callee (f := 64) rfl ?_);refine goesL_ (some 26) rfl rfl Try.func64 Z569 rfl #[.agg #[.bool a0_0,.int .u64 a0_1,.int .u64 a0_2],.int .i64 a1_3] rfl Z375 ?_;(with_reducible refine (spec_ScaleWide.calls a0_0 a0_1 a0_2 a1_3 t154 t155 t156 true _ A33.out).mono ?_);rintro e w43 ⟨rfl,hb⟩;refine ⟨_,rfl,?_⟩;have n_ := jA (blk_below (g := gb148) (o := .cells #[.bool a0_0,.int .u64 a0_1,.int .u64 a0_2,.int .i64 a0_3] 30 (0,0)) Z501 hb) (jA (blk_below (g := gb149) (o := .cells #[.bool a1_0,.int .u64 a1_1,.int .u64 a1_2,.int .i64 a1_3] 30 (0,0)) Z504 hb) (jA (blk_below (g := gb150) (o := .cells #[.bool false,.int .u64 0,.int .u64 0] 28 (0,0)) Z508 hb) (jA (blk_below (g := gb151) (o := .cells #[.bool false,.int .u64 0,.int .u64 0] 28 (0,0)) Z511 hb) (Aside0.mk (below_step Z414 hb)))));clear BK148 BK149 BK150 BK151 HB;obtain ⟨BK148,BK149,BK150,BK151,HB⟩ := n_;(try clear hb);(try clear hb2);(try clear hk);(try clear hi)) | ((with_reducible refine gate_dst (N := 7) rfl ?_);refine box_event ?hg (N := 7) ?hd (cs := #[.bool false,.int .u64 0,.int .u64 0]) (t := 28) ?hr ?_;(case hd => rfl);(case hg => rfl);(case hr => exact Z566);intro gb158 hg w44 hbox hb;have n_ := jA (blk_below (g := gb148) (o := .cells #[.bool a0_0,.int .u64 a0_1,.int .u64 a0_2,.int .i64 a0_3] 30 (0,0)) Z501 hb) (jA (blk_below (g := gb149) (o := .cells #[.bool a1_0,.int .u64 a1_1,.int .u64 a1_2,.int .i64 a1_3] 30 (0,0)) Z504 hb) (jA (blk_below (g := gb150) (o := .cells #[.bool false,.int .u64 0,.int .u64 0] 28 (0,0)) Z508 hb) (jA (blk_below (g := gb151) (o := .cells #[.bool false,.int .u64 0,.int .u64 0] 28 (0,0)) Z511 hb) (jA (below_step Z414 hb) (jA (hbox) (jA ((Z149 : w.heap.size ≤ gb158)) (jA ((Z149 : w.heap.size ≤ gb158)) (jA ((Z199 : gb148 ≠ gb158)) (jA ((Z201 : gb158 ≠ gb148)) (jA ((Z205 : gb149 ≠ gb158)) (jA ((Z209 : gb158 ≠ gb149)) (jA ((Z290 : gb150 ≠ gb158)) (jA ((Z292 : gb158 ≠ gb150)) (jA ((Z296 : gb151 ≠ gb158)) (Aside0.mk ((Z300 : gb158 ≠ gb151)))))))))))))))));clear BK148 BK149 BK150 BK151 HB;obtain ⟨BK148,BK149,BK150,BK151,HB,BK158,GW158,GE158,NB148_158,NB158_148,NB149_158,NB158_149,NB150_158,NB158_150,NB151_158,NB158_151⟩ := n_;clear hb hbox hg;have hnb45 := NB158_148.out;have hnc45 := NB148_158.out;have hnb46 := NB158_149.out;have hnc46 := NB149_158.out;have hnb47 := NB158_150.out;have hnc47 := NB150_158.out;have hnb48 := NB158_151.out;have hnc48 := NB151_158.out;obtain ⟨hcz49_0,hcz49_1,hcz49_2,hfz49_0,hfz49_1,hfz49_2⟩ := spec_l5Cross.cells3 BK158.out;obtain ⟨hcz50_0,hcz50_1,hcz50_2,hcz50_3,hfz50_0,hfz50_1,hfz50_2,hfz50_3⟩ := spec_l5Cross.cells4 BK149.out;obtain ⟨hcz51_0,hcz51_1,hcz51_2,hcz51_3,hfz51_0,hfz51_1,hfz51_2,hfz51_3⟩ := spec_l5Cross.cells4 BK148.out) | ((with_reducible refine gate_callee (f := 64) rfl ?_);refine goesL_ (some 34) rfl rfl Try.func64 Z569 rfl #[.agg #[.bool a1_0,.int .u64 a1_1,.int .u64 a1_2],.int .i64 a0_3] rfl Z375 ?_;(with_reducible refine (spec_ScaleWide.calls a1_0 a1_1 a1_2 a0_3 t159 t160 t161 t162 _ A34.out).mono ?_);rintro e w52 ⟨rfl,hb⟩;refine ⟨_,rfl,?_⟩;have n_ := jA (blk_below (g := gb148) (o := .cells #[.bool a0_0,.int .u64 a0_1,.int .u64 a0_2,.int .i64 a0_3] 30 (0,0)) Z114 hb) (jA (blk_below (g := gb149) (o := .cells #[.bool a1_0,.int .u64 a1_1,.int .u64 a1_2,.int .i64 a1_3] 30 (0,0)) Z113 hb) (jA (blk_below (g := gb150) (o := .cells #[.bool false,.int .u64 0,.int .u64 0] 28 (0,0)) Z112 hb) (jA (blk_below (g := gb151) (o := .cells #[.bool false,.int .u64 0,.int .u64 0] 28 (0,0)) Z111 hb) (jA (blk_below (g := gb158) (o := .cells #[.bool t154,.int .u64 t155,.int .u64 t156] 28 (0,0)) Z52 hb) (Aside0.mk (below_step Z412 hb))))));clear BK148 BK149 BK150 BK151 BK158 HB;obtain ⟨BK148,BK149,BK150,BK151,BK158,HB⟩ := n_;(try clear hb);(try clear hb2);(try clear hk);(try clear hi)) | ((with_reducible refine gate_dst (N := 9) rfl ?_);refine box_event ?hg (N := 9) ?hd (cs := #[.bool false,.int .u64 0,.int .u64 0]) (t := 28) ?hr ?_;(case hd => rfl);(case hg => rfl);(case hr => exact Z566);intro gb163 hg w53 hbox hb;have n_ := jA (blk_below (g := gb148) (o := .cells #[.bool a0_0,.int .u64 a0_1,.int .u64 a0_2,.int .i64 a0_3] 30 (0,0)) Z501 hb) (jA (blk_below (g := gb149) (o := .cells #[.bool a1_0,.int .u64 a1_1,.int .u64 a1_2,.int .i64 a1_3] 30 (0,0)) Z504 hb) (jA (blk_below (g := gb150) (o := .cells #[.bool false,.int .u64 0,.int .u64 0] 28 (0,0)) Z508 hb) (jA (blk_below (g := gb151) (o := .cells #[.bool false,.int .u64 0,.int .u64 0] 28 (0,0)) Z511 hb) (jA (blk_below (g := gb158) (o := .cells #[.bool t154,.int .u64 t155,.int .u64 t156] 28 (0,0)) Z545 hb) (jA (below_step Z412 hb) (jA (hbox) (jA ((Z141 : w.heap.size ≤ gb163)) (jA ((Z141 : w.heap.size ≤ gb163)) (jA ((Z199 : gb148 ≠ gb163)) (jA ((Z201 : gb163 ≠ gb148)) (jA ((Z205 : gb149 ≠ gb163)) (jA ((Z209 : gb163 ≠ gb149)) (jA ((Z290 : gb150 ≠ gb163)) (jA ((Z292 : gb163 ≠ gb150)) (jA ((Z296 : gb151 ≠ gb163)) (jA ((Z300 : gb163 ≠ gb151)) (jA ((Z280 : gb158 ≠ gb163)) (Aside0.mk ((Z284 : gb163 ≠ gb158))))))))))))))))))));clear BK148 BK149 BK150 BK151 BK158 HB;obtain ⟨BK148,BK149,BK150,BK151,BK158,HB,BK163,GW163,GE163,NB148_163,NB163_148,NB149_163,NB163_149,NB150_163,NB163_150,NB151_163,NB163_151,NB158_163,NB163_158⟩ := n_;clear hb hbox hg;have hnb54 := NB163_148.out;have hnc54 := NB148_163.out;have hnb55 := NB163_149.out;have hnc55 := NB149_163.out;have hnb56 := NB163_150.out;have hnc56 := NB150_163.out;have hnb57 := NB163_151.out;have hnc57 := NB151_163.out;have hnb58 := NB163_158.out;have hnc58 := NB158_163.out;obtain ⟨hcz59_0,hcz59_1,hcz59_2,hfz59_0,hfz59_1,hfz59_2⟩ := spec_l5Cross.cells3 BK163.out))
          have n0_ : Aside0 ((((w53.setCell ⟨gb163,0,none⟩ (.bool t159)).setCell ⟨gb163,1,none⟩ (.int .u64 t160)).setCell ⟨gb163,2,none⟩ (.int .u64 t161)).heap[gb148]? = some (.cells #[.bool a0_0,.int .u64 a0_1,.int .u64 a0_2,.int .i64 a0_3] 30 (0,0))) := ⟨Z124⟩
          have n1_ : Aside0 ((((w53.setCell ⟨gb163,0,none⟩ (.bool t159)).setCell ⟨gb163,1,none⟩ (.int .u64 t160)).setCell ⟨gb163,2,none⟩ (.int .u64 t161)).heap[gb149]? = some (.cells #[.bool a1_0,.int .u64 a1_1,.int .u64 a1_2,.int .i64 a1_3] 30 (0,0))) := ⟨Z123⟩
          have n2_ : Aside0 ((((w53.setCell ⟨gb163,0,none⟩ (.bool t159)).setCell ⟨gb163,1,none⟩ (.int .u64 t160)).setCell ⟨gb163,2,none⟩ (.int .u64 t161)).heap[gb150]? = some (.cells #[.bool false,.int .u64 0,.int .u64 0] 28 (0,0))) := ⟨Z122⟩
          have n3_ : Aside0 ((((w53.setCell ⟨gb163,0,none⟩ (.bool t159)).setCell ⟨gb163,1,none⟩ (.int .u64 t160)).setCell ⟨gb163,2,none⟩ (.int .u64 t161)).heap[gb151]? = some (.cells #[.bool false,.int .u64 0,.int .u64 0] 28 (0,0))) := ⟨Z121⟩
          have n4_ : Aside0 ((((w53.setCell ⟨gb163,0,none⟩ (.bool t159)).setCell ⟨gb163,1,none⟩ (.int .u64 t160)).setCell ⟨gb163,2,none⟩ (.int .u64 t161)).heap[gb158]? = some (.cells #[.bool t154,.int .u64 t155,.int .u64 t156] 28 (0,0))) := ⟨Z120⟩
          have n5_ : Aside0 ((((w53.setCell ⟨gb163,0,none⟩ (.bool t159)).setCell ⟨gb163,1,none⟩ (.int .u64 t160)).setCell ⟨gb163,2,none⟩ (.int .u64 t161)).heap[gb163]? = some (.cells #[.bool t159,.int .u64 t160,.int .u64 t161] 28 (0,0))) := ⟨Z54⟩
          have n6_ : Aside0 (Below w.heap.size w (((w53.setCell ⟨gb163,0,none⟩ (.bool t159)).setCell ⟨gb163,1,none⟩ (.int .u64 t160)).setCell ⟨gb163,2,none⟩ (.int .u64 t161))) := ⟨Z143⟩
          (try clear BK148)
          (try clear BK149)
          (try clear BK150)
          (try clear BK151)
          (try clear BK158)
          (try clear BK163)
          (try clear HB)
          generalize (((w53.setCell ⟨gb163,0,none⟩ (.bool t159)).setCell ⟨gb163,1,none⟩ (.int .u64 t160)).setCell ⟨gb163,2,none⟩ (.int .u64 t161)) = w60 at n0_ n1_ n2_ n3_ n4_ n5_ n6_ ⊢
          have BK148 := n0_
          have BK149 := n1_
          have BK150 := n2_
          have BK151 := n3_
          have BK158 := n4_
          have BK163 := n5_
          have HB := n6_
          clear n0_ n1_ n2_ n3_ n4_ n5_ n6_
          have n0_ := Aside0.mk (blk_drew BK148.out)
          have n1_ := Aside0.mk (blk_drew BK149.out)
          have n2_ := Aside0.mk (blk_drew BK150.out)
          have n3_ := Aside0.mk (blk_drew BK151.out)
          have n4_ := Aside0.mk (blk_drew BK158.out)
          have n5_ := Aside0.mk (blk_drew BK163.out)
          have n6_ := Aside0.mk (below_drew1 HB.out)
          clear BK148
          clear BK149
          clear BK150
          clear BK151
          clear BK158
          clear BK163
          clear HB
          have BK148 := n0_
          have BK149 := n1_
          have BK150 := n2_
          have BK151 := n3_
          have BK158 := n4_
          have BK163 := n5_
          have HB := n6_
          clear n0_ n1_ n2_ n3_ n4_ n5_ n6_
          refine start_ (n := 9) (S := fun w' => w'.cell? ⟨gb158,0,none⟩ = some (.bool t154) ∧ w'.cell? ⟨gb158,1,none⟩ = some (.int .u64 t155) ∧ w'.cell? ⟨gb158,2,none⟩ = some (.int .u64 t156) ∧ w'.cell? ⟨gb163,0,none⟩ = some (.bool t159) ∧ w'.cell? ⟨gb163,1,none⟩ = some (.int .u64 t160) ∧ w'.cell? ⟨gb163,2,none⟩ = some (.int .u64 t161)) (ds := []) #[false,false,false,false,false,false,false,false,false] Z569 rfl rfl ⟨(blk_cell BK158.out 0).trans rfl,(blk_cell BK158.out 1).trans rfl,(blk_cell BK158.out 2).trans rfl,(blk_cell BK163.out 0).trans rfl,(blk_cell BK163.out 1).trans rfl,(blk_cell BK163.out 2).trans rfl⟩ (fun hHeld => ?_);refine with_tabW spec_l5Cross.tab5 spec_l5Cross.bits5 (fun HT_ HW_ => ?_)
          generalize w60.drew = w61 at BK148 BK149 BK150 BK151 BK158 BK163 HB hHeld ⊢
          refine pure_ (i := 2) (N := some 39) (v := ?_) (a' := ?_) #[false,false,true,false,false,false,false,false,false] rfl rfl (any_of HT_.out Z569) (fun _ _ _ h => h) (Or.inl ⟨Z571,?_⟩) ?_ ?_
          rotate_left
          · intro w'
            go_simp
            with_reducible rfl
          rotate_left
          · simp only [Act.put,List.setIfInBounds_toArray,List.set_cons_zero,List.set_cons_succ,i64_w,i32_w]
            rfl
          refine pure_ (i := 3) (N := some 40) (v := ?_) (a' := ?_) #[false,false,true,true,false,false,false,false,false] rfl rfl (any_of HT_.out Z569) (fun _ _ _ h => h) (Or.inl ⟨Z571,?_⟩) ?_ ?_
          rotate_left
          · intro w'
            go_simp
            with_reducible rfl
          rotate_left
          · simp only [Act.put,List.setIfInBounds_toArray,List.set_cons_zero,List.set_cons_succ,i64_w,i32_w]
            rfl
          refine pure_ (i := 4) (N := some 41) (v := ?_) (a' := ?_) #[false,false,true,true,true,false,false,false,false] rfl rfl (any_of HT_.out Z569) (fun _ _ _ h => h) (Or.inl ⟨Z571,?_⟩) ?_ ?_
          rotate_left
          · intro w'
            go_simp
            with_reducible rfl
          rotate_left
          · simp only [Act.put,List.setIfInBounds_toArray,List.set_cons_zero,List.set_cons_succ,i64_w,i32_w]
            rfl
          refine pure_ (i := 5) (N := some 42) (v := ?_) (a' := ?_) #[false,false,true,true,true,true,false,false,false] rfl rfl (any_of HT_.out Z569) (fun _ _ _ h => h) (Or.inl ⟨Z571,?_⟩) ?_ ?_
          rotate_left
          · intro w'
            go_simp
            with_reducible rfl
          rotate_left
          · simp only [Act.put,List.setIfInBounds_toArray,List.set_cons_zero,List.set_cons_succ,i64_w,i32_w]
            rfl
          refine take_ (i := 0) (N := some 37) (v := ?_) (a' := ?_) #[true,false,true,true,true,true,false,false,false] rfl rfl (take_ofW HT_.out HW_.out Z569) (fun _ _ _ h => h) (Or.inl ⟨Z571,?_⟩) hHeld ?_ ?_
          rotate_left
          · rintro w' ⟨s0,s1,s2,s3,s4,s5⟩
            go_simp
            with_reducible rfl
          rotate_left
          · simp only [Act.put,List.setIfInBounds_toArray,List.set_cons_zero,List.set_cons_succ,i64_w,i32_w]
            rfl
          refine take_ (i := 1) (N := some 38) (v := ?_) (a' := ?_) #[true,true,true,true,true,true,false,false,false] rfl rfl (take_ofW HT_.out HW_.out Z569) (fun _ _ _ h => h) (Or.inl ⟨Z571,?_⟩) hHeld ?_ ?_
          rotate_left
          · rintro w' ⟨s0,s1,s2,s3,s4,s5⟩
            go_simp
            with_reducible rfl
          rotate_left
          · simp only [Act.put,List.setIfInBounds_toArray,List.set_cons_zero,List.set_cons_succ,i64_w,i32_w]
            rfl
          refine one_ (i := 6) (N := none) #[true,true,true,true,true,true,true,false,false] rfl rfl (one_of HT_.out Z569) Z570 (fun K hK => ?_)
          have hs62 : w61.cell? ⟨gb150,0,none⟩ = some (.bool false) := (blk_cell BK150.out 0).trans rfl
          have hfs62 := blk_frozen BK150.out 0
          have hns62_0 := NB148_150.out
          have hns62_1 := NB149_150.out
          have hns62_3 := NB151_150.out
          have hns62_4 := NB158_150.out
          have hns62_5 := NB163_150.out
          have hms62_0 := NB150_148.out
          have hms62_1 := NB150_149.out
          have hms62_3 := NB150_151.out
          have hms62_4 := NB150_158.out
          have hms62_5 := NB150_163.out
          have hs63 : w61.cell? ⟨gb150,1,none⟩ = some (.int .u64 0) := (blk_cell BK150.out 1).trans rfl
          have hfs63 := blk_frozen BK150.out 1
          have hns63_0 := NB148_150.out
          have hns63_1 := NB149_150.out
          have hns63_3 := NB151_150.out
          have hns63_4 := NB158_150.out
          have hns63_5 := NB163_150.out
          have hms63_0 := NB150_148.out
          have hms63_1 := NB150_149.out
          have hms63_3 := NB150_151.out
          have hms63_4 := NB150_158.out
          have hms63_5 := NB150_163.out
          have hs64 : w61.cell? ⟨gb150,2,none⟩ = some (.int .u64 0) := (blk_cell BK150.out 2).trans rfl
          have hfs64 := blk_frozen BK150.out 2
          have hns64_0 := NB148_150.out
          have hns64_1 := NB149_150.out
          have hns64_3 := NB151_150.out
          have hns64_4 := NB158_150.out
          have hns64_5 := NB163_150.out
          have hms64_0 := NB150_148.out
          have hms64_1 := NB150_149.out
          have hms64_3 := NB150_151.out
          have hms64_4 := NB150_158.out
          have hms64_5 := NB150_163.out
          refine skip_ (w1 := ?_) Z571 rfl ?_ ?_
          rotate_left
          · go_simp
            rfl
          refine hK.out _ _ ⟨((cell_far (p := ⟨gb150,_,none⟩) NB158_150.out _).trans (((cell_far (p := ⟨gb150,_,none⟩) NB158_150.out _).trans (((cell_far (p := ⟨gb150,_,none⟩) NB158_150.out _).trans (hHeld.1)))))),((cell_far (p := ⟨gb150,_,none⟩) NB158_150.out _).trans (((cell_far (p := ⟨gb150,_,none⟩) NB158_150.out _).trans (((cell_far (p := ⟨gb150,_,none⟩) NB158_150.out _).trans (hHeld.2.1)))))),((cell_far (p := ⟨gb150,_,none⟩) NB158_150.out _).trans (((cell_far (p := ⟨gb150,_,none⟩) NB158_150.out _).trans (((cell_far (p := ⟨gb150,_,none⟩) NB158_150.out _).trans (hHeld.2.2.1)))))),((cell_far (p := ⟨gb150,_,none⟩) NB163_150.out _).trans (((cell_far (p := ⟨gb150,_,none⟩) NB163_150.out _).trans (((cell_far (p := ⟨gb150,_,none⟩) NB163_150.out _).trans (hHeld.2.2.2.1)))))),((cell_far (p := ⟨gb150,_,none⟩) NB163_150.out _).trans (((cell_far (p := ⟨gb150,_,none⟩) NB163_150.out _).trans (((cell_far (p := ⟨gb150,_,none⟩) NB163_150.out _).trans (hHeld.2.2.2.2.1)))))),((cell_far (p := ⟨gb150,_,none⟩) NB163_150.out _).trans (((cell_far (p := ⟨gb150,_,none⟩) NB163_150.out _).trans (((cell_far (p := ⟨gb150,_,none⟩) NB163_150.out _).trans (hHeld.2.2.2.2.2))))))⟩ (fun hHeld => ?_)
          clear hK K
          refine one_ (i := 7) (N := none) #[true,true,true,true,true,true,true,true,false] rfl rfl (one_of HT_.out Z569) Z570 (fun K hK => ?_)
          have hs65 : w61.cell? ⟨gb151,0,none⟩ = some (.bool false) := (blk_cell BK151.out 0).trans rfl
          have hfs65 := blk_frozen BK151.out 0
          have hns65_0 := NB148_151.out
          have hns65_1 := NB149_151.out
          have hns65_2 := NB150_151.out
          have hns65_4 := NB158_151.out
          have hns65_5 := NB163_151.out
          have hms65_0 := NB151_148.out
          have hms65_1 := NB151_149.out
          have hms65_2 := NB151_150.out
          have hms65_4 := NB151_158.out
          have hms65_5 := NB151_163.out
          have hs66 : w61.cell? ⟨gb151,1,none⟩ = some (.int .u64 0) := (blk_cell BK151.out 1).trans rfl
          have hfs66 := blk_frozen BK151.out 1
          have hns66_0 := NB148_151.out
          have hns66_1 := NB149_151.out
          have hns66_2 := NB150_151.out
          have hns66_4 := NB158_151.out
          have hns66_5 := NB163_151.out
          have hms66_0 := NB151_148.out
          have hms66_1 := NB151_149.out
          have hms66_2 := NB151_150.out
          have hms66_4 := NB151_158.out
          have hms66_5 := NB151_163.out
          have hs67 : w61.cell? ⟨gb151,2,none⟩ = some (.int .u64 0) := (blk_cell BK151.out 2).trans rfl
          have hfs67 := blk_frozen BK151.out 2
          have hns67_0 := NB148_151.out
          have hns67_1 := NB149_151.out
          have hns67_2 := NB150_151.out
          have hns67_4 := NB158_151.out
          have hns67_5 := NB163_151.out
          have hms67_0 := NB151_148.out
          have hms67_1 := NB151_149.out
          have hms67_2 := NB151_150.out
          have hms67_4 := NB151_158.out
          have hms67_5 := NB151_163.out
          refine skip_ (w1 := ?_) Z571 rfl ?_ ?_
          rotate_left
          · go_simp
            rfl
          refine hK.out _ _ ⟨((cell_far (p := ⟨gb151,_,none⟩) NB158_151.out _).trans (((cell_far (p := ⟨gb151,_,none⟩) NB158_151.out _).trans (((cell_far (p := ⟨gb151,_,none⟩) NB158_151.out _).trans (hHeld.1)))))),((cell_far (p := ⟨gb151,_,none⟩) NB158_151.out _).trans (((cell_far (p := ⟨gb151,_,none⟩) NB158_151.out _).trans (((cell_far (p := ⟨gb151,_,none⟩) NB158_151.out _).trans (hHeld.2.1)))))),((cell_far (p := ⟨gb151,_,none⟩) NB158_151.out _).trans (((cell_far (p := ⟨gb151,_,none⟩) NB158_151.out _).trans (((cell_far (p := ⟨gb151,_,none⟩) NB158_151.out _).trans (hHeld.2.2.1)))))),((cell_far (p := ⟨gb151,_,none⟩) NB163_151.out _).trans (((cell_far (p := ⟨gb151,_,none⟩) NB163_151.out _).trans (((cell_far (p := ⟨gb151,_,none⟩) NB163_151.out _).trans (hHeld.2.2.2.1)))))),((cell_far (p := ⟨gb151,_,none⟩) NB163_151.out _).trans (((cell_far (p := ⟨gb151,_,none⟩) NB163_151.out _).trans (((cell_far (p := ⟨gb151,_,none⟩) NB163_151.out _).trans (hHeld.2.2.2.2.1)))))),((cell_far (p := ⟨gb151,_,none⟩) NB163_151.out _).trans (((cell_far (p := ⟨gb151,_,none⟩) NB163_151.out _).trans (((cell_far (p := ⟨gb151,_,none⟩) NB163_151.out _).trans (hHeld.2.2.2.2.2))))))⟩ (fun hHeld => ?_)
          clear hK K
          refine pure_ (i := 8) (N := some 6) (v := ?_) (a' := ?_) #[true,true,true,true,true,true,true,true,true] rfl rfl (any_of HT_.out Z569) (fun _ _ _ h => h) (Or.inl ⟨Z571,?_⟩) ?_ ?_
          rotate_left
          · intro w'
            go_simp
            with_reducible rfl
          rotate_left
          · simp only [Act.put,List.setIfInBounds_toArray,List.set_cons_zero,List.set_cons_succ,i64_w,i32_w]
            rfl
          refine done_ (done_of HT_.out Z569) ?_
          try go_wp2
          refine bodyPost_ret (results_list (rs := [.cell 4 28,.cell 5 28,.tmp 6]) rfl (by simp) (.cell gb150 28 #[.bool t154,.int .u64 t155,.int .u64 t156] (0,0) _ rfl Z11 Try.underlying28 rfl Z569 (.cell gb151 28 #[.bool t159,.int .u64 t160,.int .u64 t161] (0,0) _ rfl Z8 Try.underlying28 rfl Z569 (.tmp .nil)))) rfl ?_
          exact ⟨Z558,Z143⟩
        · replace c35 := Bool.eq_false_iff.mpr c35
          subst c35
          have H1 : (some (t154,t155,t156,t159,t160,t161,false)) = some (r1,r2,r3,r4,r5,r6,r7) := by rw [if_neg (show ¬ (false = true) by decide)] at H;exact H
          clear H
          have H := H1
          clear H1
          simp only [Option.some.injEq,Prod.mk.injEq] at H
          obtain ⟨rfl,rfl,rfl,rfl,rfl,rfl,rfl⟩ := H
          have hnb68 := NB148_149.out
          have hnc68 := NB149_148.out
          have hnb69 := NB148_150.out
          have hnc69 := NB150_148.out
          have hnb70 := NB148_151.out
          have hnc70 := NB151_148.out
          obtain ⟨hcz71_0,hcz71_1,hcz71_2,hcz71_3,hfz71_0,hfz71_1,hfz71_2,hfz71_3⟩ := spec_l5Cross.cells4 BK148.out
          have hnb72 := NB149_150.out
          have hnc72 := NB150_149.out
          have hnb73 := NB149_151.out
          have hnc73 := NB151_149.out
          obtain ⟨hcz74_0,hcz74_1,hcz74_2,hcz74_3,hfz74_0,hfz74_1,hfz74_2,hfz74_3⟩ := spec_l5Cross.cells4 BK149.out
          try go_wp2_with (first | ((with_reducible refine gate_callee (f := 64) rfl ?_);refine goesL_ (some 26) rfl rfl Try.func64 Z569 rfl #[.agg #[.bool a0_0,.int .u64 a0_1,.int .u64 a0_2],.int .i64 a1_3] rfl Z375 ?_;(with_reducible refine (spec_ScaleWide.calls a0_0 a0_1 a0_2 a1_3 t154 t155 t156 false _ A33.out).mono ?_);rintro e w75 ⟨rfl,hb⟩;refine ⟨_,rfl,?_⟩;have n_ := jA (blk_below (g := gb148) (o := .cells #[.bool a0_0,.int .u64 a0_1,.int .u64 a0_2,.int .i64 a0_3] 30 (0,0)) Z501 hb) (jA (blk_below (g := gb149) (o := .cells #[.bool a1_0,.int .u64 a1_1,.int .u64 a1_2,.int .i64 a1_3] 30 (0,0)) Z504 hb) (jA (blk_below (g := gb150) (o := .cells #[.bool false,.int .u64 0,.int .u64 0] 28 (0,0)) Z508 hb) (jA (blk_below (g := gb151) (o := .cells #[.bool false,.int .u64 0,.int .u64 0] 28 (0,0)) Z511 hb) (Aside0.mk (below_step Z414 hb)))));clear BK148 BK149 BK150 BK151 HB;obtain ⟨BK148,BK149,BK150,BK151,HB⟩ := n_;(try clear hb);(try clear hb2);(try clear hk);(try clear hi)) | ((with_reducible refine gate_dst (N := 7) rfl ?_);refine box_event ?hg (N := 7) ?hd (cs := #[.bool false,.int .u64 0,.int .u64 0]) (t := 28) ?hr ?_;(case hd => rfl);(case hg => rfl);(case hr => exact Z566);intro gb158 hg w76 hbox hb;have n_ := jA (blk_below (g := gb148) (o := .cells #[.bool a0_0,.int .u64 a0_1,.int .u64 a0_2,.int .i64 a0_3] 30 (0,0)) Z501 hb) (jA (blk_below (g := gb149) (o := .cells #[.bool a1_0,.int .u64 a1_1,.int .u64 a1_2,.int .i64 a1_3] 30 (0,0)) Z504 hb) (jA (blk_below (g := gb150) (o := .cells #[.bool false,.int .u64 0,.int .u64 0] 28 (0,0)) Z508 hb) (jA (blk_below (g := gb151) (o := .cells #[.bool false,.int .u64 0,.int .u64 0] 28 (0,0)) Z511 hb) (jA (below_step Z414 hb) (jA (hbox) (jA ((Z149 : w.heap.size ≤ gb158)) (jA ((Z149 : w.heap.size ≤ gb158)) (jA ((Z199 : gb148 ≠ gb158)) (jA ((Z201 : gb158 ≠ gb148)) (jA ((Z205 : gb149 ≠ gb158)) (jA ((Z209 : gb158 ≠ gb149)) (jA ((Z290 : gb150 ≠ gb158)) (jA ((Z292 : gb158 ≠ gb150)) (jA ((Z296 : gb151 ≠ gb158)) (Aside0.mk ((Z300 : gb158 ≠ gb151)))))))))))))))));clear BK148 BK149 BK150 BK151 HB;obtain ⟨BK148,BK149,BK150,BK151,HB,BK158,GW158,GE158,NB148_158,NB158_148,NB149_158,NB158_149,NB150_158,NB158_150,NB151_158,NB158_151⟩ := n_;clear hb hbox hg;have hnb77 := NB158_148.out;have hnc77 := NB148_158.out;have hnb78 := NB158_149.out;have hnc78 := NB149_158.out;have hnb79 := NB158_150.out;have hnc79 := NB150_158.out;have hnb80 := NB158_151.out;have hnc80 := NB151_158.out;obtain ⟨hcz81_0,hcz81_1,hcz81_2,hfz81_0,hfz81_1,hfz81_2⟩ := spec_l5Cross.cells3 BK158.out;obtain ⟨hcz82_0,hcz82_1,hcz82_2,hcz82_3,hfz82_0,hfz82_1,hfz82_2,hfz82_3⟩ := spec_l5Cross.cells4 BK149.out;obtain ⟨hcz83_0,hcz83_1,hcz83_2,hcz83_3,hfz83_0,hfz83_1,hfz83_2,hfz83_3⟩ := spec_l5Cross.cells4 BK148.out) | ((with_reducible refine gate_callee (f := 64) rfl ?_);refine goesL_ (some 34) rfl rfl Try.func64 Z569 rfl #[.agg #[.bool a1_0,.int .u64 a1_1,.int .u64 a1_2],.int .i64 a0_3] rfl Z375 ?_;(with_reducible refine (spec_ScaleWide.calls a1_0 a1_1 a1_2 a0_3 t159 t160 t161 t162 _ A34.out).mono ?_);rintro e w84 ⟨rfl,hb⟩;refine ⟨_,rfl,?_⟩;have n_ := jA (blk_below (g := gb148) (o := .cells #[.bool a0_0,.int .u64 a0_1,.int .u64 a0_2,.int .i64 a0_3] 30 (0,0)) Z114 hb) (jA (blk_below (g := gb149) (o := .cells #[.bool a1_0,.int .u64 a1_1,.int .u64 a1_2,.int .i64 a1_3] 30 (0,0)) Z113 hb) (jA (blk_below (g := gb150) (o := .cells #[.bool false,.int .u64 0,.int .u64 0] 28 (0,0)) Z112 hb) (jA (blk_below (g := gb151) (o := .cells #[.bool false,.int .u64 0,.int .u64 0] 28 (0,0)) Z111 hb) (jA (blk_below (g := gb158) (o := .cells #[.bool t154,.int .u64 t155,.int .u64 t156] 28 (0,0)) Z52 hb) (Aside0.mk (below_step Z412 hb))))));clear BK148 BK149 BK150 BK151 BK158 HB;obtain ⟨BK148,BK149,BK150,BK151,BK158,HB⟩ := n_;(try clear hb);(try clear hb2);(try clear hk);(try clear hi)) | ((with_reducible refine gate_dst (N := 9) rfl ?_);refine box_event ?hg (N := 9) ?hd (cs := #[.bool false,.int .u64 0,.int .u64 0]) (t := 28) ?hr ?_;(case hd => rfl);(case hg => rfl);(case hr => exact Z566);intro gb163 hg w85 hbox hb;have n_ := jA (blk_below (g := gb148) (o := .cells #[.bool a0_0,.int .u64 a0_1,.int .u64 a0_2,.int .i64 a0_3] 30 (0,0)) Z501 hb) (jA (blk_below (g := gb149) (o := .cells #[.bool a1_0,.int .u64 a1_1,.int .u64 a1_2,.int .i64 a1_3] 30 (0,0)) Z504 hb) (jA (blk_below (g := gb150) (o := .cells #[.bool false,.int .u64 0,.int .u64 0] 28 (0,0)) Z508 hb) (jA (blk_below (g := gb151) (o := .cells #[.bool false,.int .u64 0,.int .u64 0] 28 (0,0)) Z511 hb) (jA (blk_below (g := gb158) (o := .cells #[.bool t154,.int .u64 t155,.int .u64 t156] 28 (0,0)) Z545 hb) (jA (below_step Z412 hb) (jA (hbox) (jA ((Z141 : w.heap.size ≤ gb163)) (jA ((Z141 : w.heap.size ≤ gb163)) (jA ((Z199 : gb148 ≠ gb163)) (jA ((Z201 : gb163 ≠ gb148)) (jA ((Z205 : gb149 ≠ gb163)) (jA ((Z209 : gb163 ≠ gb149)) (jA ((Z290 : gb150 ≠ gb163)) (jA ((Z292 : gb163 ≠ gb150)) (jA ((Z296 : gb151 ≠ gb163)) (jA ((Z300 : gb163 ≠ gb151)) (jA ((Z280 : gb158 ≠ gb163)) (Aside0.mk ((Z284 : gb163 ≠ gb158))))))))))))))))))));clear BK148 BK149 BK150 BK151 BK158 HB;obtain ⟨BK148,BK149,BK150,BK151,BK158,HB,BK163,GW163,GE163,NB148_163,NB163_148,NB149_163,NB163_149,NB150_163,NB163_150,NB151_163,NB163_151,NB158_163,NB163_158⟩ := n_;clear hb hbox hg;have hnb86 := NB163_148.out;have hnc86 := NB148_163.out;have hnb87 := NB163_149.out;have hnc87 := NB149_163.out;have hnb88 := NB163_150.out;have hnc88 := NB150_163.out;have hnb89 := NB163_151.out;have hnc89 := NB151_163.out;have hnb90 := NB163_158.out;have hnc90 := NB158_163.out;obtain ⟨hcz91_0,hcz91_1,hcz91_2,hfz91_0,hfz91_1,hfz91_2⟩ := spec_l5Cross.cells3 BK163.out))
          have n0_ : Aside0 ((((w85.setCell ⟨gb163,0,none⟩ (.bool t159)).setCell ⟨gb163,1,none⟩ (.int .u64 t160)).setCell ⟨gb163,2,none⟩ (.int .u64 t161)).heap[gb148]? = some (.cells #[.bool a0_0,.int .u64 a0_1,.int .u64 a0_2,.int .i64 a0_3] 30 (0,0))) := ⟨Z124⟩
          have n1_ : Aside0 ((((w85.setCell ⟨gb163,0,none⟩ (.bool t159)).setCell ⟨gb163,1,none⟩ (.int .u64 t160)).setCell ⟨gb163,2,none⟩ (.int .u64 t161)).heap[gb149]? = some (.cells #[.bool a1_0,.int .u64 a1_1,.int .u64 a1_2,.int .i64 a1_3] 30 (0,0))) := ⟨Z123⟩
          have n2_ : Aside0 ((((w85.setCell ⟨gb163,0,none⟩ (.bool t159)).setCell ⟨gb163,1,none⟩ (.int .u64 t160)).setCell ⟨gb163,2,none⟩ (.int .u64 t161)).heap[gb150]? = some (.cells #[.bool false,.int .u64 0,.int .u64 0] 28 (0,0))) := ⟨Z122⟩
          have n3_ : Aside0 ((((w85.setCell ⟨gb163,0,none⟩ (.bool t159)).setCell ⟨gb163,1,none⟩ (.int .u64 t160)).setCell ⟨gb163,2,none⟩ (.int .u64 t161)).heap[gb151]? = some (.cells #[.bool false,.int .u64 0,.int .u64 0] 28 (0,0))) := ⟨Z121⟩
          have n4_ : Aside0 ((((w85.setCell ⟨gb163,0,none⟩ (.bool t159)).setCell ⟨gb163,1,none⟩ (.int .u64 t160)).setCell ⟨gb163,2,none⟩ (.int .u64 t161)).heap[gb158]? = some (.cells #[.bool t154,.int .u64 t155,.int .u64 t156] 28 (0,0))) := ⟨Z120⟩
          have n5_ : Aside0 ((((w85.setCell ⟨gb163,0,none⟩ (.bool t159)).setCell ⟨gb163,1,none⟩ (.int .u64 t160)).setCell ⟨gb163,2,none⟩ (.int .u64 t161)).heap[gb163]? = some (.cells #[.bool t159,.int .u64 t160,.int .u64 t161] 28 (0,0))) := ⟨Z54⟩
          have n6_ : Aside0 (Below w.heap.size w (((w85.setCell ⟨gb163,0,none⟩ (.bool t159)).setCell ⟨gb163,1,none⟩ (.int .u64 t160)).setCell ⟨gb163,2,none⟩ (.int .u64 t161))) := ⟨Z143⟩
          (try clear BK148)
          (try clear BK149)
          (try clear BK150)
          (try clear BK151)
          (try clear BK158)
          (try clear BK163)
          (try clear HB)
          generalize (((w85.setCell ⟨gb163,0,none⟩ (.bool t159)).setCell ⟨gb163,1,none⟩ (.int .u64 t160)).setCell ⟨gb163,2,none⟩ (.int .u64 t161)) = w92 at n0_ n1_ n2_ n3_ n4_ n5_ n6_ ⊢
          have BK148 := n0_
          have BK149 := n1_
          have BK150 := n2_
          have BK151 := n3_
          have BK158 := n4_
          have BK163 := n5_
          have HB := n6_
          clear n0_ n1_ n2_ n3_ n4_ n5_ n6_
          have n0_ := Aside0.mk (blk_drew BK148.out)
          have n1_ := Aside0.mk (blk_drew BK149.out)
          have n2_ := Aside0.mk (blk_drew BK150.out)
          have n3_ := Aside0.mk (blk_drew BK151.out)
          have n4_ := Aside0.mk (blk_drew BK158.out)
          have n5_ := Aside0.mk (blk_drew BK163.out)
          have n6_ := Aside0.mk (below_drew1 HB.out)
          clear BK148
          clear BK149
          clear BK150
          clear BK151
          clear BK158
          clear BK163
          clear HB
          have BK148 := n0_
          have BK149 := n1_
          have BK150 := n2_
          have BK151 := n3_
          have BK158 := n4_
          have BK163 := n5_
          have HB := n6_
          clear n0_ n1_ n2_ n3_ n4_ n5_ n6_
          refine start_ (n := 9) (S := fun w' => w'.cell? ⟨gb158,0,none⟩ = some (.bool t154) ∧ w'.cell? ⟨gb158,1,none⟩ = some (.int .u64 t155) ∧ w'.cell? ⟨gb158,2,none⟩ = some (.int .u64 t156) ∧ w'.cell? ⟨gb163,0,none⟩ = some (.bool t159) ∧ w'.cell? ⟨gb163,1,none⟩ = some (.int .u64 t160) ∧ w'.cell? ⟨gb163,2,none⟩ = some (.int .u64 t161)) (ds := []) #[false,false,false,false,false,false,false,false,false] Z569 rfl rfl ⟨(blk_cell BK158.out 0).trans rfl,(blk_cell BK158.out 1).trans rfl,(blk_cell BK158.out 2).trans rfl,(blk_cell BK163.out 0).trans rfl,(blk_cell BK163.out 1).trans rfl,(blk_cell BK163.out 2).trans rfl⟩ (fun hHeld => ?_);refine with_tabW spec_l5Cross.tab5 spec_l5Cross.bits5 (fun HT_ HW_ => ?_)
          generalize w92.drew = w93 at BK148 BK149 BK150 BK151 BK158 BK163 HB hHeld ⊢
          refine pure_ (i := 2) (N := some 39) (v := ?_) (a' := ?_) #[false,false,true,false,false,false,false,false,false] rfl rfl (any_of HT_.out Z569) (fun _ _ _ h => h) (Or.inl ⟨Z571,?_⟩) ?_ ?_
          rotate_left
          · intro w'
            go_simp
            with_reducible rfl
          rotate_left
          · simp only [Act.put,List.setIfInBounds_toArray,List.set_cons_zero,List.set_cons_succ,i64_w,i32_w]
            rfl
          refine pure_ (i := 3) (N := some 40) (v := ?_) (a' := ?_) #[false,false,true,true,false,false,false,false,false] rfl rfl (any_of HT_.out Z569) (fun _ _ _ h => h) (Or.inl ⟨Z571,?_⟩) ?_ ?_
          rotate_left
          · intro w'
            go_simp
            with_reducible rfl
          rotate_left
          · simp only [Act.put,List.setIfInBounds_toArray,List.set_cons_zero,List.set_cons_succ,i64_w,i32_w]
            rfl
          refine pure_ (i := 4) (N := some 41) (v := undef) (a' := ?_) #[false,false,true,true,true,false,false,false,false] rfl rfl (any_of HT_.out Z569) (fun _ _ _ h => h) (Or.inr ⟨Z571,rfl⟩) ?_ ?_
          rotate_left
          · simp only [Act.put,List.setIfInBounds_toArray,List.set_cons_zero,List.set_cons_succ,i64_w,i32_w]
            rfl
          refine pure_ (i := 5) (N := some 42) (v := ?_) (a' := ?_) #[false,false,true,true,true,true,false,false,false] rfl rfl (any_of HT_.out Z569) (fun _ _ _ h => h) (Or.inl ⟨Z571,?_⟩) ?_ ?_
          rotate_left
          · intro w'
            go_simp
            with_reducible rfl
          rotate_left
          · simp only [Act.put,List.setIfInBounds_toArray,List.set_cons_zero,List.set_cons_succ,i64_w,i32_w]
            rfl
          refine take_ (i := 0) (N := some 37) (v := ?_) (a' := ?_) #[true,false,true,true,true,true,false,false,false] rfl rfl (take_ofW HT_.out HW_.out Z569) (fun _ _ _ h => h) (Or.inl ⟨Z571,?_⟩) hHeld ?_ ?_
          rotate_left
          · rintro w' ⟨s0,s1,s2,s3,s4,s5⟩
            go_simp
            with_reducible rfl
          rotate_left
          · simp only [Act.put,List.setIfInBounds_toArray,List.set_cons_zero,List.set_cons_succ,i64_w,i32_w]
            rfl
          refine take_ (i := 1) (N := some 38) (v := ?_) (a' := ?_) #[true,true,true,true,true,true,false,false,false] rfl rfl (take_ofW HT_.out HW_.out Z569) (fun _ _ _ h => h) (Or.inl ⟨Z571,?_⟩) hHeld ?_ ?_
          rotate_left
          · rintro w' ⟨s0,s1,s2,s3,s4,s5⟩
            go_simp
            with_reducible rfl
          rotate_left
          · simp only [Act.put,List.setIfInBounds_toArray,List.set_cons_zero,List.set_cons_succ,i64_w,i32_w]
            rfl
          refine one_ (i := 6) (N := none) #[true,true,true,true,true,true,true,false,false] rfl rfl (one_of HT_.out Z569) Z570 (fun K hK => ?_)
          have hs94 : w93.cell? ⟨gb150,0,none⟩ = some (.bool false) := (blk_cell BK150.out 0).trans rfl
          have hfs94 := blk_frozen BK150.out 0
          have hns94_0 := NB148_150.out
          have hns94_1 := NB149_150.out
          have hns94_3 := NB151_150.out
          have hns94_4 := NB158_150.out
          have hns94_5 := NB163_150.out
          have hms94_0 := NB150_148.out
          have hms94_1 := NB150_149.out
          have hms94_3 := NB150_151.out
          have hms94_4 := NB150_158.out
          have hms94_5 := NB150_163.out
          have hs95 : w93.cell? ⟨gb150,1,none⟩ = some (.int .u64 0) := (blk_cell BK150.out 1).trans rfl
          have hfs95 := blk_frozen BK150.out 1
          have hns95_0 := NB148_150.out
          have hns95_1 := NB149_150.out
          have hns95_3 := NB151_150.out
          have hns95_4 := NB158_150.out
          have hns95_5 := NB163_150.out
          have hms95_0 := NB150_148.out
          have hms95_1 := NB150_149.out
          have hms95_3 := NB150_151.out
          have hms95_4 := NB150_158.out
          have hms95_5 := NB150_163.out
          have hs96 : w93.cell? ⟨gb150,2,none⟩ = some (.int .u64 0) := (blk_cell BK150.out 2).trans rfl
          have hfs96 := blk_frozen BK150.out 2
          have hns96_0 := NB148_150.out
          have hns96_1 := NB149_150.out
          have hns96_3 := NB151_150.out
          have hns96_4 := NB158_150.out
          have hns96_5 := NB163_150.out
          have hms96_0 := NB150_148.out
          have hms96_1 := NB150_149.out
          have hms96_3 := NB150_151.out
          have hms96_4 := NB150_158.out
          have hms96_5 := NB150_163.out
          refine skip_ (w1 := ?_) Z571 rfl ?_ ?_
          rotate_left
          · go_simp
            rfl
          refine hK.out _ _ ⟨((cell_far (p := ⟨gb150,_,none⟩) NB158_150.out _).trans (((cell_far (p := ⟨gb150,_,none⟩) NB158_150.out _).trans (((cell_far (p := ⟨gb150,_,none⟩) NB158_150.out _).trans (hHeld.1)))))),((cell_far (p := ⟨gb150,_,none⟩) NB158_150.out _).trans (((cell_far (p := ⟨gb150,_,none⟩) NB158_150.out _).trans (((cell_far (p := ⟨gb150,_,none⟩) NB158_150.out _).trans (hHeld.2.1)))))),((cell_far (p := ⟨gb150,_,none⟩) NB158_150.out _).trans (((cell_far (p := ⟨gb150,_,none⟩) NB158_150.out _).trans (((cell_far (p := ⟨gb150,_,none⟩) NB158_150.out _).trans (hHeld.2.2.1)))))),((cell_far (p := ⟨gb150,_,none⟩) NB163_150.out _).trans (((cell_far (p := ⟨gb150,_,none⟩) NB163_150.out _).trans (((cell_far (p := ⟨gb150,_,none⟩) NB163_150.out _).trans (hHeld.2.2.2.1)))))),((cell_far (p := ⟨gb150,_,none⟩) NB163_150.out _).trans (((cell_far (p := ⟨gb150,_,none⟩) NB163_150.out _).trans (((cell_far (p := ⟨gb150,_,none⟩) NB163_150.out _).trans (hHeld.2.2.2.2.1)))))),((cell_far (p := ⟨gb150,_,none⟩) NB163_150.out _).trans (((cell_far (p := ⟨gb150,_,none⟩) NB163_150.out _).trans (((cell_far (p := ⟨gb150,_,none⟩) NB163_150.out _).trans (hHeld.2.2.2.2.2))))))⟩ (fun hHeld => ?_)
          clear hK K
          refine one_ (i := 7) (N := none) #[true,true,true,true,true,true,true,true,false] rfl rfl (one_of HT_.out Z569) Z570 (fun K hK => ?_)
          have hs97 : w93.cell? ⟨gb151,0,none⟩ = some (.bool false) := (blk_cell BK151.out 0).trans rfl
          have hfs97 := blk_frozen BK151.out 0
          have hns97_0 := NB148_151.out
          have hns97_1 := NB149_151.out
          have hns97_2 := NB150_151.out
          have hns97_4 := NB158_151.out
          have hns97_5 := NB163_151.out
          have hms97_0 := NB151_148.out
          have hms97_1 := NB151_149.out
          have hms97_2 := NB151_150.out
          have hms97_4 := NB151_158.out
          have hms97_5 := NB151_163.out
          have hs98 : w93.cell? ⟨gb151,1,none⟩ = some (.int .u64 0) := (blk_cell BK151.out 1).trans rfl
          have hfs98 := blk_frozen BK151.out 1
          have hns98_0 := NB148_151.out
          have hns98_1 := NB149_151.out
          have hns98_2 := NB150_151.out
          have hns98_4 := NB158_151.out
          have hns98_5 := NB163_151.out
          have hms98_0 := NB151_148.out
          have hms98_1 := NB151_149.out
          have hms98_2 := NB151_150.out
          have hms98_4 := NB151_158.out
          have hms98_5 := NB151_163.out
          have hs99 : w93.cell? ⟨gb151,2,none⟩ = some (.int .u64 0) := (blk_cell BK151.out 2).trans rfl
          have hfs99 := blk_frozen BK151.out 2
          have hns99_0 := NB148_151.out
          have hns99_1 := NB149_151.out
          have hns99_2 := NB150_151.out
          have hns99_4 := NB158_151.out
          have hns99_5 := NB163_151.out
          have hms99_0 := NB151_148.out
          have hms99_1 := NB151_149.out
          have hms99_2 := NB151_150.out
          have hms99_4 := NB151_158.out
          have hms99_5 := NB151_163.out
          refine skip_ (w1 := ?_) Z571 rfl ?_ ?_
          rotate_left
          · go_simp
            rfl
          refine hK.out _ _ ⟨((cell_far (p := ⟨gb151,_,none⟩) NB158_151.out _).trans (((cell_far (p := ⟨gb151,_,none⟩) NB158_151.out _).trans (((cell_far (p := ⟨gb151,_,none⟩) NB158_151.out _).trans (hHeld.1)))))),((cell_far (p := ⟨gb151,_,none⟩) NB158_151.out _).trans (((cell_far (p := ⟨gb151,_,none⟩) NB158_151.out _).trans (((cell_far (p := ⟨gb151,_,none⟩) NB158_151.out _).trans (hHeld.2.1)))))),((cell_far (p := ⟨gb151,_,none⟩) NB158_151.out _).trans (((cell_far (p := ⟨gb151,_,none⟩) NB158_151.out _).trans (((cell_far (p := ⟨gb151,_,none⟩) NB158_151.out _).trans (hHeld.2.2.1)))))),((cell_far (p := ⟨gb151,_,none⟩) NB163_151.out _).trans (((cell_far (p := ⟨gb151,_,none⟩) NB163_151.out _).trans (((cell_far (p := ⟨gb151,_,none⟩) NB163_151.out _).trans (hHeld.2.2.2.1)))))),((cell_far (p := ⟨gb151,_,none⟩) NB163_151.out _).trans (((cell_far (p := ⟨gb151,_,none⟩) NB163_151.out _).trans (((cell_far (p := ⟨gb151,_,none⟩) NB163_151.out _).trans (hHeld.2.2.2.2.1)))))),((cell_far (p := ⟨gb151,_,none⟩) NB163_151.out _).trans (((cell_far (p := ⟨gb151,_,none⟩) NB163_151.out _).trans (((cell_far (p := ⟨gb151,_,none⟩) NB163_151.out _).trans (hHeld.2.2.2.2.2))))))⟩ (fun hHeld => ?_)
          clear hK K
          refine pure_ (i := 8) (N := some 6) (v := ?_) (a' := ?_) #[true,true,true,true,true,true,true,true,true] rfl rfl (any_of HT_.out Z569) (fun _ _ _ h => h) (Or.inl ⟨Z571,?_⟩) ?_ ?_
          rotate_left
          · intro w'
            go_simp
            with_reducible rfl
          rotate_left
          · simp only [Act.put,List.setIfInBounds_toArray,List.set_cons_zero,List.set_cons_succ,i64_w,i32_w]
            rfl
          refine done_ (done_of HT_.out Z569) ?_
          try go_wp2
          refine bodyPost_ret (results_list (rs := [.cell 4 28,.cell 5 28,.tmp 6]) rfl (by simp) (.cell gb150 28 #[.bool t154,.int .u64 t155,.int .u64 t156] (0,0) _ rfl Z11 Try.underlying28 rfl Z569 (.cell gb151 28 #[.bool t159,.int .u64 t160,.int .u64 t161] (0,0) _ rfl Z8 Try.underlying28 rfl Z569 (.tmp .nil)))) rfl ?_
          exact ⟨Z558,Z143⟩

end Go.Proofs.Ytjcjehnjbgklbaa.QFnExactImproves
