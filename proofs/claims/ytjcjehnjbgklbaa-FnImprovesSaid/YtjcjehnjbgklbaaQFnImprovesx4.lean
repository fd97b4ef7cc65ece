/- The machine side of FnImproves: what each Go function that it reaches comes to. Conditions: none. -/
import Derived.Test.YtjcjehnjbgklbaaQFnImprovesx0
import Derived.Test.YtjcjehnjbgklbaaQFnImprovesx1
import Derived.Test.YtjcjehnjbgklbaaQFnImprovesx3
namespace Go.Proofs.Ytjcjehnjbgklbaa.QFnImproves
open Go.RowKit Go.Proofs.YtjcjehnjbgklbaaW.PrintWords Go.Proofs.YtjcjehnjbgklbaaW.PrintLast Go.Proofs.YtjcjehnjbgklbaaW.PrintMore
attribute [local go_sem] max2_int min2_int max_two min_two max_three min_three max_four min_four   -- for this text's walks alone
set_option linter.unusedVariables false
set_option linter.unusedSimpArgs false

/-! ### spec_AddWide: function 46 -/
theorem cell_held {w : World} {p : Addr} {v : Value} (y : Value) (h : w.cell? p = some v) : (w.setCell p y).cell? p = some y := by simp [go_sem,h]
theorem held_three {w : World} {g : Nat} {a b c : Value} (h0 : w.cell? ⟨g,0,none⟩ = some a) (h1 : w.cell? ⟨g,1,none⟩ = some b) (h2 : w.cell? ⟨g,2,none⟩ = some c) :
    (∀ x y z u : Value,((((w.setCell ⟨g,0,none⟩ x).setCell ⟨g,1,none⟩ y).setCell ⟨g,2,none⟩ z).setCell ⟨g,1,none⟩ u).cell? ⟨g,1,none⟩ = some u) ∧
    (∀ x y z v : Value,((((w.setCell ⟨g,0,none⟩ x).setCell ⟨g,1,none⟩ y).setCell ⟨g,2,none⟩ z).setCell ⟨g,0,none⟩ v).cell? ⟨g,0,none⟩ = some v) ∧
    (∀ x y z u v : Value,(((((w.setCell ⟨g,0,none⟩ x).setCell ⟨g,1,none⟩ y).setCell ⟨g,2,none⟩ z).setCell ⟨g,1,none⟩ u).setCell ⟨g,0,none⟩ v).cell? ⟨g,0,none⟩ = some v) := by
  refine ⟨fun x y z u => cell_held (v := y) u Z579,fun x y z v => cell_held (v := x) v Z579,fun x y z u v => cell_held (v := x) v Z579⟩
mutual
def spec_AddWide.j0 : Nat → Bool → Bool → Int → Int → Bool → Int → Int → Option (Bool × Int × Int × Bool)
  | 0,_,_,_,_,_,_,_ => none
  | k + 1,x17,x161000,x161001,x161002,x162000,x162001,x162002 => if x17 = true then (some (false,0,0,false)) else (if (x161000 == x162000) = true then (if (IntKind.u64.wrap (x161002 + x162002)) < x161002 then ((spec_WideOk.f x161000 (IntKind.u64.wrap ((IntKind.u64.wrap (x161001 + x162001)) + 1)) (IntKind.u64.wrap (x161002 + x162002))).bind fun t166 => (if t166 = true then (some (x161000,IntKind.u64.wrap ((IntKind.u64.wrap (x161001 + x162001)) + 1),IntKind.u64.wrap (x161002 + x162002),true)) else (some (false,0,0,false)))) else ((spec_WideOk.f x161000 (IntKind.u64.wrap (x161001 + x162001)) (IntKind.u64.wrap (x161002 + x162002))).bind fun t167 => (if t167 = true then (some (x161000,IntKind.u64.wrap (x161001 + x162001),IntKind.u64.wrap (x161002 + x162002),true)) else (some (false,0,0,false))))) else ((spec_l3Order.f k x161000 x161001 x161002 x162000 x162001 x162002).bind fun t170 => (if t170 < 0 then (spec_AddWide.j1 k x162000 x162001 x162002 x161000 x161001 x161002) else (spec_AddWide.j1 k x161000 x161001 x161002 x162000 x162001 x162002))))
def spec_AddWide.j1 : Nat → Bool → Int → Int → Bool → Int → Int → Option (Bool × Int × Int × Bool)
  | 0,_,_,_,_,_,_ => none
  | k + 1,x169000,x169001,x169002,x170000,x170001,x170002 => if x169002 < x170002 then ((spec_l3Zero.f x169000 (IntKind.u64.wrap ((IntKind.u64.wrap (x169001 - x170001)) - 1)) (IntKind.u64.wrap (x169002 - x170002))).bind fun t172 => (if t172 = true then (some (false,IntKind.u64.wrap ((IntKind.u64.wrap (x169001 - x170001)) - 1),IntKind.u64.wrap (x169002 - x170002),true)) else (some (x169000,IntKind.u64.wrap ((IntKind.u64.wrap (x169001 - x170001)) - 1),IntKind.u64.wrap (x169002 - x170002),true)))) else ((spec_l3Zero.f x169000 (IntKind.u64.wrap (x169001 - x170001)) (IntKind.u64.wrap (x169002 - x170002))).bind fun t173 => (if t173 = true then (some (false,IntKind.u64.wrap (x169001 - x170001),IntKind.u64.wrap (x169002 - x170002),true)) else (some (x169000,IntKind.u64.wrap (x169001 - x170001),IntKind.u64.wrap (x169002 - x170002),true))))
end
def spec_AddWide.f (k : Nat) (a0_0 : Bool) (a0_1 : Int) (a0_2 : Int) (a1_0 : Bool) (a1_1 : Int) (a1_2 : Int) : Option (Bool × Int × Int × Bool) := (spec_WideOk.f a0_0 a0_1 a0_2).bind fun t163 => (if t163 = true then ((spec_WideOk.f a1_0 a1_1 a1_2).bind fun t164 => (spec_AddWide.j0 k (!t164) a0_0 a0_1 a0_2 a1_0 a1_1 a1_2)) else (spec_AddWide.j0 k true a0_0 a0_1 a0_2 a1_0 a1_1 a1_2))
theorem spec_AddWide.mono_l : ∀ k,(∀ y0 y1 y2 y3 y4 y5 y6,LeO (spec_AddWide.j0 k y0 y1 y2 y3 y4 y5 y6) (spec_AddWide.j0 (k + 1) y0 y1 y2 y3 y4 y5 y6)) ∧ (∀ y0 y1 y2 y3 y4 y5,LeO (spec_AddWide.j1 k y0 y1 y2 y3 y4 y5) (spec_AddWide.j1 (k + 1) y0 y1 y2 y3 y4 y5))
  | 0 => ⟨fun _ _ _ _ _ _ _ r h => by simp [spec_AddWide.j0] at h,fun _ _ _ _ _ _ r h => by simp [spec_AddWide.j1] at h⟩
  | k + 1 => by
    obtain ⟨ih0,ih1⟩ := spec_AddWide.mono_l k
    refine ⟨?_,?_⟩
    · intro y0 y1 y2 y3 y4 y5 y6
      unfold spec_AddWide.j0
      repeat' first
      | (with_reducible exact ih0 _ _ _ _ _ _ _)
      | (with_reducible exact ih1 _ _ _ _ _ _)
      | (with_reducible exact spec_l3Order.mono _ _ _ _ _ _ _)
      | (with_reducible exact LeO.refl _)
      | (with_reducible exact LeO.none _)
      | (with_reducible refine LeO.ite ?_ ?_)
      | (with_reducible refine LeO.bind ?_ (fun _ => ?_))
      | exact ih0 _ _ _ _ _ _ _
      | exact ih1 _ _ _ _ _ _
      | exact spec_l3Order.mono _ _ _ _ _ _ _
      | exact LeO.none _
      | refine LeO.ite ?_ ?_
      | refine LeO.bind ?_ (fun _ => ?_)
    · intro y0 y1 y2 y3 y4 y5
      unfold spec_AddWide.j1
      repeat' first
      | (with_reducible exact ih0 _ _ _ _ _ _ _)
      | (with_reducible exact ih1 _ _ _ _ _ _)
      | (with_reducible exact spec_l3Order.mono _ _ _ _ _ _ _)
      | (with_reducible exact LeO.refl _)
      | (with_reducible exact LeO.none _)
      | (with_reducible refine LeO.ite ?_ ?_)
      | (with_reducible refine LeO.bind ?_ (fun _ => ?_))
      | exact ih0 _ _ _ _ _ _ _
      | exact ih1 _ _ _ _ _ _
      | exact spec_l3Order.mono _ _ _ _ _ _ _
      | exact LeO.none _
      | refine LeO.ite ?_ ?_
      | refine LeO.bind ?_ (fun _ => ?_)
theorem spec_AddWide.mono : ∀ a0 a1 a2 a3 a4 a5 k,LeO (spec_AddWide.f k a0 a1 a2 a3 a4 a5) (spec_AddWide.f (k + 1) a0 a1 a2 a3 a4 a5) := by
  intro a0 a1 a2 a3 a4 a5 k
  obtain ⟨ih0,ih1⟩ := spec_AddWide.mono_l k
  unfold spec_AddWide.f
  repeat' first
      | (with_reducible exact ih0 _ _ _ _ _ _ _)
      | (with_reducible exact ih1 _ _ _ _ _ _)
      | (with_reducible exact spec_l3Order.mono _ _ _ _ _ _ _)
      | (with_reducible exact LeO.refl _)
      | (with_reducible exact LeO.none _)
      | (with_reducible refine LeO.ite ?_ ?_)
      | (with_reducible refine LeO.bind ?_ (fun _ => ?_))
      | exact ih0 _ _ _ _ _ _ _
      | exact ih1 _ _ _ _ _ _
      | exact spec_l3Order.mono _ _ _ _ _ _ _
      | exact LeO.none _
      | refine LeO.ite ?_ ?_
      | refine LeO.bind ?_ (fun _ => ?_)
set_option maxHeartbeats 8000000 in
set_option maxRecDepth 100000 in
theorem spec_AddWide.calls (k : Nat) (a0_0 : Bool) (a0_1 : Int) (a0_2 : Int) (a1_0 : Bool) (a1_1 : Int) (a1_2 : Int) (r1 : Bool) (r2 : Int) (r3 : Int) (r4 : Bool) (w : World) (h : spec_AddWide.f k a0_0 a0_1 a0_2 a1_0 a1_1 a1_2 = some (r1,r2,r3,r4)) :
    Calls Try.prog 46 #[.agg #[.bool a0_0,.int .u64 a0_1,.int .u64 a0_2],.agg #[.bool a1_0,.int .u64 a1_1,.int .u64 a1_2]] w fun e w' => e = .returned (.tuple #[.agg #[.bool r1,.int .u64 r2,.int .u64 r3],.bool r4]) ∧ Below w.heap.size w w' := by
  have hu28 := Try.underlying28
  have HB := Aside0.mk (Below.refl w.heap.size w)
  have H : ((spec_WideOk.f a0_0 a0_1 a0_2).bind fun t163 => (if t163 = true then ((spec_WideOk.f a1_0 a1_1 a1_2).bind fun t164 => (spec_AddWide.j0 k (!t164) a0_0 a0_1 a0_2 a1_0 a1_1 a1_2)) else (spec_AddWide.j0 k true a0_0 a0_1 a0_2 a1_0 a1_1 a1_2))) = some (r1,r2,r3,r4) := h
  clear h
  have HC3 := Aside0.mk H
  clear H
  go_enter Try.func46,Try.ntmps46
  go_upto_region 1 with (first | ((with_reducible refine gate_dst (N := 2) rfl ?_);refine box_event ?hg (N := 2) ?hd (cs := #[.bool a0_0,.int .u64 a0_1,.int .u64 a0_2]) (t := 28) ?hr ?_;(case hd => rfl);(case hg => rfl);(case hr => exact Z515);intro gb160 hg w4 hbox hb;have n_ := jA (below_step Z486 hb) (jA (hbox) (jA ((Z271 : w.heap.size ≤ gb160)) (Aside0.mk ((Z271 : w.heap.size ≤ gb160)))));clear HB;obtain ⟨HB,BK160,GW160,GE160⟩ := n_;clear hb hbox hg) | ((with_reducible refine gate_dst (N := 3) rfl ?_);refine box_event ?hg (N := 3) ?hd (cs := #[.bool a1_0,.int .u64 a1_1,.int .u64 a1_2]) (t := 28) ?hr ?_;(case hd => rfl);(case hg => rfl);(case hr => exact Z515);intro gb161 hg w5 hbox hb;have n_ := jA (blk_below (g := gb160) (o := .cells #[.bool a0_0,.int .u64 a0_1,.int .u64 a0_2] 28 (0,0)) Z523 hb) (jA (below_step Z481 hb) (jA (hbox) (jA ((Z215 : w.heap.size ≤ gb161)) (jA ((Z215 : w.heap.size ≤ gb161)) (jA ((Z329 : gb160 ≠ gb161)) (Aside0.mk ((Z330 : gb161 ≠ gb160))))))));clear BK160 HB;obtain ⟨BK160,HB,BK161,GW161,GE161,NB160_161,NB161_160⟩ := n_;clear hb hbox hg) | ((with_reducible refine gate_dst (N := 4) rfl ?_);refine box_event ?hg (N := 4) ?hd (cs := #[.bool false,.int .u64 0,.int .u64 0]) (t := 28) ?hr ?_;(case hd => rfl);(case hg => rfl);(case hr => exact Z515);intro gb162 hg w6 hbox hb;have n_ := jA (blk_below (g := gb160) (o := .cells #[.bool a0_0,.int .u64 a0_1,.int .u64 a0_2] 28 (0,0)) Z523 hb) (jA (blk_below (g := gb161) (o := .cells #[.bool a1_0,.int .u64 a1_1,.int .u64 a1_2] 28 (0,0)) Z524 hb) (jA (below_step Z447 hb) (jA (hbox) (jA ((Z127 : w.heap.size ≤ gb162)) (jA ((Z127 : w.heap.size ≤ gb162)) (jA ((Z329 : gb160 ≠ gb162)) (jA ((Z330 : gb162 ≠ gb160)) (jA ((Z331 : gb161 ≠ gb162)) (Aside0.mk ((Z332 : gb162 ≠ gb161)))))))))));clear BK160 BK161 HB;obtain ⟨BK160,BK161,HB,BK162,GW162,GE162,NB160_162,NB162_160,NB161_162,NB162_161⟩ := n_;clear hb hbox hg))
  (try simp only [Act.put,List.setIfInBounds_toArray,List.set_cons_zero,List.set_cons_succ])
  go_cut [17] (fun v17 wc => ∃ (kq : Nat) (x17_2 : Bool),v17 = .bool x17_2 ∧ Aside0 (spec_AddWide.j0 kq x17_2 a0_0 a0_1 a0_2 a1_0 a1_1 a1_2 = some (r1,r2,r3,r4)) ∧ Aside0 (kq ≤ k) ∧ Aside0 (wc.heap[gb160]? = some (.cells #[.bool a0_0,.int .u64 a0_1,.int .u64 a0_2] 28 (0,0))) ∧ Aside0 (wc.heap[gb161]? = some (.cells #[.bool a1_0,.int .u64 a1_1,.int .u64 a1_2] 28 (0,0))) ∧ Aside0 (wc.heap[gb162]? = some (.cells #[.bool false,.int .u64 0,.int .u64 0] 28 (0,0))) ∧ Aside0 (Below w.heap.size w wc))
  case first =>
    have H := HC3.out
    clear HC3
    obtain ⟨t163,A70,H⟩ := Option.bind_eq_some_iff.mp H
    have A7 := Aside0.mk A70
    clear A70
    by_cases c8 : t163 = true
    · subst c8
      have H1 : ((spec_WideOk.f a1_0 a1_1 a1_2).bind fun t164 => (spec_AddWide.j0 k (!t164) a0_0 a0_1 a0_2 a1_0 a1_1 a1_2)) = some (r1,r2,r3,r4) := by rw [if_pos rfl] at H;exact H
      clear H
      have H := H1
      clear H1
      obtain ⟨t164,A90,H⟩ := Option.bind_eq_some_iff.mp H
      have A9 := Aside0.mk A90
      clear A90
      have H' := Aside0.mk H
      clear H
      have hnb10 := NB160_161.out
      have hnc10 := NB161_160.out
      have hnb11 := NB160_162.out
      have hnc11 := NB162_160.out
      have hcz12_0 : w6.cell? ⟨gb160,0,none⟩ = some (.bool a0_0) := (blk_cell BK160.out 0).trans rfl
      have hcz12_1 : w6.cell? ⟨gb160,1,none⟩ = some (.int .u64 a0_1) := (blk_cell BK160.out 1).trans rfl
      have hcz12_2 : w6.cell? ⟨gb160,2,none⟩ = some (.int .u64 a0_2) := (blk_cell BK160.out 2).trans rfl
      have hzAhcz12 := (held_three hcz12_0 hcz12_1 hcz12_2).1
      have hzBhcz12 := (held_three hcz12_0 hcz12_1 hcz12_2).2.1
      have hzChcz12 := (held_three hcz12_0 hcz12_1 hcz12_2).2.2
      have hfz12_0 := blk_frozen BK160.out 0
      have hfz12_1 := blk_frozen BK160.out 1
      have hfz12_2 := blk_frozen BK160.out 2
      go_wp2_with (first | ((with_reducible refine gate_callee (f := 65) rfl ?_);refine goesL_ (some 11) rfl rfl Try.func65 Z580 rfl #[.agg #[.bool a0_0,.int .u64 a0_1,.int .u64 a0_2]] rfl Z395 ?_;(with_reducible refine (spec_WideOk.calls a0_0 a0_1 a0_2 true _ A7.out).mono ?_);rintro e w13 ⟨rfl,hb⟩;refine ⟨_,rfl,?_⟩;have n_ := jA (blk_below (g := gb160) (o := .cells #[.bool a0_0,.int .u64 a0_1,.int .u64 a0_2] 28 (0,0)) Z523 hb) (jA (blk_below (g := gb161) (o := .cells #[.bool a1_0,.int .u64 a1_1,.int .u64 a1_2] 28 (0,0)) Z524 hb) (jA (blk_below (g := gb162) (o := .cells #[.bool false,.int .u64 0,.int .u64 0] 28 (0,0)) Z526 hb) (Aside0.mk (below_step Z415 hb))));clear BK160 BK161 BK162 HB;obtain ⟨BK160,BK161,BK162,HB⟩ := n_;(try clear hb);(try clear hb2);(try clear hk);(try clear hi);have hnb14 := NB161_162.out;have hnc14 := NB162_161.out;have hcz15_0 : w13.cell? ⟨gb161,0,none⟩ = some (.bool a1_0) := (blk_cell BK161.out 0).trans rfl;have hcz15_1 : w13.cell? ⟨gb161,1,none⟩ = some (.int .u64 a1_1) := (blk_cell BK161.out 1).trans rfl;have hcz15_2 : w13.cell? ⟨gb161,2,none⟩ = some (.int .u64 a1_2) := (blk_cell BK161.out 2).trans rfl;have hzAhcz15 := (held_three hcz15_0 hcz15_1 hcz15_2).1;have hzBhcz15 := (held_three hcz15_0 hcz15_1 hcz15_2).2.1;have hzChcz15 := (held_three hcz15_0 hcz15_1 hcz15_2).2.2;have hfz15_0 := blk_frozen BK161.out 0;have hfz15_1 := blk_frozen BK161.out 1;have hfz15_2 := blk_frozen BK161.out 2) | (go_at_call 65;(with_reducible refine (spec_WideOk.calls a1_0 a1_1 a1_2 t164 _ A9.out).mono ?_);rintro e w16 ⟨rfl,hb⟩;have n_ := jA (blk_below (g := gb160) (o := .cells #[.bool a0_0,.int .u64 a0_1,.int .u64 a0_2] 28 (0,0)) Z523 hb) (jA (blk_below (g := gb161) (o := .cells #[.bool a1_0,.int .u64 a1_1,.int .u64 a1_2] 28 (0,0)) Z524 hb) (jA (blk_below (g := gb162) (o := .cells #[.bool false,.int .u64 0,.int .u64 0] 28 (0,0)) Z526 hb) (Aside0.mk (below_step Z415 hb))));clear BK160 BK161 BK162 HB;obtain ⟨BK160,BK161,BK162,HB⟩ := n_;(try clear hb);(try clear hb2);(try clear hk);(try clear hi)))
      go_meet
      case rel => exact ⟨_,(!t164),Z514,H',⟨Z516⟩,⟨Z523⟩,⟨Z524⟩,⟨Z526⟩,⟨Z415⟩⟩
    · replace c8 := Bool.eq_false_iff.mpr c8
      subst c8
      have H1 : (spec_AddWide.j0 k true a0_0 a0_1 a0_2 a1_0 a1_1 a1_2) = some (r1,r2,r3,r4) := by rw [if_neg (show ¬ (false = true) by decide)] at H;exact H
      clear H
      have H := H1
      clear H1
      have H' := Aside0.mk H
      clear H
      have hnb17 := NB160_161.out
      have hnc17 := NB161_160.out
      have hnb18 := NB160_162.out
      have hnc18 := NB162_160.out
      have hcz19_0 : w6.cell? ⟨gb160,0,none⟩ = some (.bool a0_0) := (blk_cell BK160.out 0).trans rfl
      have hcz19_1 : w6.cell? ⟨gb160,1,none⟩ = some (.int .u64 a0_1) := (blk_cell BK160.out 1).trans rfl
      have hcz19_2 : w6.cell? ⟨gb160,2,none⟩ = some (.int .u64 a0_2) := (blk_cell BK160.out 2).trans rfl
      have hzAhcz19 := (held_three hcz19_0 hcz19_1 hcz19_2).1
      have hzBhcz19 := (held_three hcz19_0 hcz19_1 hcz19_2).2.1
      have hzChcz19 := (held_three hcz19_0 hcz19_1 hcz19_2).2.2
      have hfz19_0 := blk_frozen BK160.out 0
      have hfz19_1 := blk_frozen BK160.out 1
      have hfz19_2 := blk_frozen BK160.out 2
      go_wp2_with (first | ((with_reducible refine gate_callee (f := 65) rfl ?_);refine goesL_ (some 11) rfl rfl Try.func65 Z580 rfl #[.agg #[.bool a0_0,.int .u64 a0_1,.int .u64 a0_2]] rfl Z395 ?_;(with_reducible refine (spec_WideOk.calls a0_0 a0_1 a0_2 false _ A7.out).mono ?_);rintro e w20 ⟨rfl,hb⟩;refine ⟨_,rfl,?_⟩;have n_ := jA (blk_below (g := gb160) (o := .cells #[.bool a0_0,.int .u64 a0_1,.int .u64 a0_2] 28 (0,0)) Z523 hb) (jA (blk_below (g := gb161) (o := .cells #[.bool a1_0,.int .u64 a1_1,.int .u64 a1_2] 28 (0,0)) Z524 hb) (jA (blk_below (g := gb162) (o := .cells #[.bool false,.int .u64 0,.int .u64 0] 28 (0,0)) Z526 hb) (Aside0.mk (below_step Z415 hb))));clear BK160 BK161 BK162 HB;obtain ⟨BK160,BK161,BK162,HB⟩ := n_;(try clear hb);(try clear hb2);(try clear hk);(try clear hi)))
      go_meet
      case rel => exact ⟨_,(true),Z514,H',⟨Z516⟩,⟨Z523⟩,⟨Z524⟩,⟨Z526⟩,⟨Z415⟩⟩
  case rest =>
    clear HC3
    try clear c1
    try clear p2
    try clear c4
    try clear c6
    try clear c8
    try clear c10
    try clear c11
    try clear c14
    try clear c17
    try clear c18
    try clear hcz12_0
    try clear hcz12_1
    try clear hcz12_2
    try clear hcz15_0
    try clear hcz15_1
    try clear hcz15_2
    try clear hcz19_0
    try clear hcz19_1
    try clear hcz19_2
    try clear hfz12_0
    try clear hfz12_1
    try clear hfz12_2
    try clear hfz15_0
    try clear hfz15_1
    try clear hfz15_2
    try clear hfz19_0
    try clear hfz19_1
    try clear hfz19_2
    obtain ⟨kq,x17_2,rfl,HA,HJ2,BK160,BK161,BK162,HB⟩ := hcut
    cases kq with
    | zero => exact absurd HA.out (by simp [spec_AddWide.j0])
    | succ kj2 =>
      have H := HA.out
      clear HA
      simp only [spec_AddWide.j0] at H
      by_cases c21 : x17_2 = true
      · subst c21
        have H1 : (some (false,0,0,false)) = some (r1,r2,r3,r4) := by rw [if_pos rfl] at H;exact H
        clear H
        have H := H1
        clear H1
        simp only [Option.some.injEq,Prod.mk.injEq] at H
        obtain ⟨rfl,rfl,rfl,rfl⟩ := H
        have hnb22 := NB162_160.out
        have hnc22 := NB160_162.out
        have hnb23 := NB162_161.out
        have hnc23 := NB161_162.out
        have hcz24_0 : wc.cell? ⟨gb162,0,none⟩ = some (.bool false) := (blk_cell BK162.out 0).trans rfl
        have hcz24_1 : wc.cell? ⟨gb162,1,none⟩ = some (.int .u64 0) := (blk_cell BK162.out 1).trans rfl
        have hcz24_2 : wc.cell? ⟨gb162,2,none⟩ = some (.int .u64 0) := (blk_cell BK162.out 2).trans rfl
        have hzAhcz24 := (held_three hcz24_0 hcz24_1 hcz24_2).1
        have hzBhcz24 := (held_three hcz24_0 hcz24_1 hcz24_2).2.1
        have hzChcz24 := (held_three hcz24_0 hcz24_1 hcz24_2).2.2
        have hfz24_0 := blk_frozen BK162.out 0
        have hfz24_1 := blk_frozen BK162.out 1
        have hfz24_2 := blk_frozen BK162.out 2
        go_wp2
        refine bodyPost_ret (results_ct rfl _ _ gb162 28 #[.bool false,.int .u64 0,.int .u64 0] (0,0) _ rfl Z78 Try.underlying28 rfl Z580) rfl ?_
        exact ⟨Z400,Z415⟩
      · replace c21 := Bool.eq_false_iff.mpr c21
        subst c21
        have H1 : (if (a0_0 == a1_0) = true then (if (IntKind.u64.wrap (a0_2 + a1_2)) < a0_2 then ((spec_WideOk.f a0_0 (IntKind.u64.wrap ((IntKind.u64.wrap (a0_1 + a1_1)) + 1)) (IntKind.u64.wrap (a0_2 + a1_2))).bind fun t166 => (if t166 = true then (some (a0_0,IntKind.u64.wrap ((IntKind.u64.wrap (a0_1 + a1_1)) + 1),IntKind.u64.wrap (a0_2 + a1_2),true)) else (some (false,0,0,false)))) else ((spec_WideOk.f a0_0 (IntKind.u64.wrap (a0_1 + a1_1)) (IntKind.u64.wrap (a0_2 + a1_2))).bind fun t167 => (if t167 = true then (some (a0_0,IntKind.u64.wrap (a0_1 + a1_1),IntKind.u64.wrap (a0_2 + a1_2),true)) else (some (false,0,0,false))))) else ((spec_l3Order.f kj2 a0_0 a0_1 a0_2 a1_0 a1_1 a1_2).bind fun t170 => (if t170 < 0 then (spec_AddWide.j1 kj2 a1_0 a1_1 a1_2 a0_0 a0_1 a0_2) else (spec_AddWide.j1 kj2 a0_0 a0_1 a0_2 a1_0 a1_1 a1_2)))) = some (r1,r2,r3,r4) := by rw [if_neg (show ¬ (false = true) by decide)] at H;exact H
        clear H
        have H := H1
        clear H1
        by_cases c25 : (a0_0 == a1_0) = true
        · rw [if_pos c25] at H
          have c25b0 : (a0_0 == a1_0) = true := c25
          (try (have c25b1 : decide (a0_0 = a1_0) = true := by simpa using c25))
          (try (have c25b2 : (a0_0 == a1_0) = true := by simpa using c25))
          clear c25
          by_cases c26 : (IntKind.u64.wrap (a0_2 + a1_2)) < a0_2
          · rw [if_pos c26] at H
            have c26b0 : decide ((IntKind.u64.wrap (a0_2 + a1_2)) < a0_2) = true := decide_eq_true c26
            clear c26
            obtain ⟨t166,A270,H⟩ := Option.bind_eq_some_iff.mp H
            have A27 := Aside0.mk A270
            clear A270
            by_cases c28 : t166 = true
            · subst c28
              have H1 : (some (a0_0,IntKind.u64.wrap ((IntKind.u64.wrap (a0_1 + a1_1)) + 1),IntKind.u64.wrap (a0_2 + a1_2),true)) = some (r1,r2,r3,r4) := by rw [if_pos rfl] at H;exact H
              clear H
              have H := H1
              clear H1
              simp only [Option.some.injEq,Prod.mk.injEq] at H
              obtain ⟨rfl,rfl,rfl,rfl⟩ := H
              have hnb29 := NB160_161.out
              have hnc29 := NB161_160.out
              have hnb30 := NB160_162.out
              have hnc30 := NB162_160.out
              have hcz31_0 : wc.cell? ⟨gb160,0,none⟩ = some (.bool a0_0) := (blk_cell BK160.out 0).trans rfl
              have hcz31_1 : wc.cell? ⟨gb160,1,none⟩ = some (.int .u64 a0_1) := (blk_cell BK160.out 1).trans rfl
              have hcz31_2 : wc.cell? ⟨gb160,2,none⟩ = some (.int .u64 a0_2) := (blk_cell BK160.out 2).trans rfl
              have hzAhcz31 := (held_three hcz31_0 hcz31_1 hcz31_2).1
              have hzBhcz31 := (held_three hcz31_0 hcz31_1 hcz31_2).2.1
              have hzChcz31 := (held_three hcz31_0 hcz31_1 hcz31_2).2.2
              have hfz31_0 := blk_frozen BK160.out 0
              have hfz31_1 := blk_frozen BK160.out 1
              have hfz31_2 := blk_frozen BK160.out 2
              have hnb32 := NB161_162.out
              have hnc32 := NB162_161.out
              have hcz33_0 : wc.cell? ⟨gb161,0,none⟩ = some (.bool a1_0) := (blk_cell BK161.out 0).trans rfl
              have hcz33_1 : wc.cell? ⟨gb161,1,none⟩ = some (.int .u64 a1_1) := (blk_cell BK161.out 1).trans rfl
              have hcz33_2 : wc.cell? ⟨gb161,2,none⟩ = some (.int .u64 a1_2) := (blk_cell BK161.out 2).trans rfl
              have hzAhcz33 := (held_three hcz33_0 hcz33_1 hcz33_2).1
              have hzBhcz33 := (held_three hcz33_0 hcz33_1 hcz33_2).2.1
              have hzChcz33 := (held_three hcz33_0 hcz33_1 hcz33_2).2.2
              have hfz33_0 := blk_frozen BK161.out 0
              have hfz33_1 := blk_frozen BK161.out 1
              have hfz33_2 := blk_frozen BK161.out 2
              go_wp2_with (first | ((with_reducible refine gate_dst (N := 6) rfl ?_);refine box_event ?hg (N := 6) ?hd (cs := #[.bool false,.int .u64 0,.int .u64 0]) (t := 28) ?hr ?_;(case hd => rfl);(case hg => rfl);(case hr => exact Z515);intro gb165 hg w34 hbox hb;have n_ := jA (blk_below (g := gb160) (o := .cells #[.bool a0_0,.int .u64 a0_1,.int .u64 a0_2] 28 (0,0)) Z523 hb) (jA (blk_below (g := gb161) (o := .cells #[.bool a1_0,.int .u64 a1_1,.int .u64 a1_2] 28 (0,0)) Z524 hb) (jA (blk_below (g := gb162) (o := .cells #[.bool false,.int .u64 0,.int .u64 0] 28 (0,0)) Z526 hb) (jA (below_step Z415 hb) (jA (hbox) (jA ((Z84 : w.heap.size ≤ gb165)) (jA ((Z84 : w.heap.size ≤ gb165)) (jA ((Z329 : gb160 ≠ gb165)) (jA ((Z330 : gb165 ≠ gb160)) (jA ((Z331 : gb161 ≠ gb165)) (jA ((Z332 : gb165 ≠ gb161)) (jA ((Z353 : gb162 ≠ gb165)) (Aside0.mk ((Z354 : gb165 ≠ gb162))))))))))))));clear BK160 BK161 BK162 HB;obtain ⟨BK160,BK161,BK162,HB,BK165,GW165,GE165,NB160_165,NB165_160,NB161_165,NB165_161,NB162_165,NB165_162⟩ := n_;clear hb hbox hg;have hnb35 := NB165_160.out;have hnc35 := NB160_165.out;have hnb36 := NB165_161.out;have hnc36 := NB161_165.out;have hnb37 := NB165_162.out;have hnc37 := NB162_165.out;have hcz38_0 : w34.cell? ⟨gb165,0,none⟩ = some (.bool false) := (blk_cell BK165.out 0).trans rfl;have hcz38_1 : w34.cell? ⟨gb165,1,none⟩ = some (.int .u64 0) := (blk_cell BK165.out 1).trans rfl;have hcz38_2 : w34.cell? ⟨gb165,2,none⟩ = some (.int .u64 0) := (blk_cell BK165.out 2).trans rfl;have hzAhcz38 := (held_three hcz38_0 hcz38_1 hcz38_2).1;have hzBhcz38 := (held_three hcz38_0 hcz38_1 hcz38_2).2.1;have hzChcz38 := (held_three hcz38_0 hcz38_1 hcz38_2).2.2;have hfz38_0 := blk_frozen BK165.out 0;have hfz38_1 := blk_frozen BK165.out 1;have hfz38_2 := blk_frozen BK165.out 2;have hcz39_0 : w34.cell? ⟨gb160,0,none⟩ = some (.bool a0_0) := (blk_cell BK160.out 0).trans rfl;have hcz39_1 : w34.cell? ⟨gb160,1,none⟩ = some (.int .u64 a0_1) := (blk_cell BK160.out 1).trans rfl;have hcz39_2 : w34.cell? ⟨gb160,2,none⟩ = some (.int .u64 a0_2) := (blk_cell BK160.out 2).trans rfl;have hzAhcz39 := (held_three hcz39_0 hcz39_1 hcz39_2).1;have hzBhcz39 := (held_three hcz39_0 hcz39_1 hcz39_2).2.1;have hzChcz39 := (held_three hcz39_0 hcz39_1 hcz39_2).2.2;have hfz39_0 := blk_frozen BK160.out 0;have hfz39_1 := blk_frozen BK160.out 1;have hfz39_2 := blk_frozen BK160.out 2) | ((with_reducible refine gate_callee (f := 65) rfl ?_);refine goesL_ (some 47) rfl rfl Try.func65 Z580 rfl #[.agg #[.bool a0_0,.int .u64 (IntKind.u64.wrap ((IntKind.u64.wrap (a0_1 + a1_1)) + 1)),.int .u64 (IntKind.u64.wrap (a0_2 + a1_2))]] rfl Z395 ?_;(with_reducible refine (spec_WideOk.calls a0_0 (IntKind.u64.wrap ((IntKind.u64.wrap (a0_1 + a1_1)) + 1)) (IntKind.u64.wrap (a0_2 + a1_2)) true _ A27.out).mono ?_);rintro e w40 ⟨rfl,hb⟩;refine ⟨_,rfl,?_⟩;have n_ := jA (blk_below (g := gb160) (o := .cells #[.bool a0_0,.int .u64 a0_1,.int .u64 a0_2] 28 (0,0)) Z161 hb) (jA (blk_below (g := gb161) (o := .cells #[.bool a1_0,.int .u64 a1_1,.int .u64 a1_2] 28 (0,0)) Z159 hb) (jA (blk_below (g := gb162) (o := .cells #[.bool false,.int .u64 0,.int .u64 0] 28 (0,0)) Z157 hb) (jA (blk_below (g := gb165) (o := .cells #[.bool a0_0,.int .u64 (IntKind.u64.wrap ((IntKind.u64.wrap (a0_1 + a1_1)) + 1)),.int .u64 (IntKind.u64.wrap (a0_2 + a1_2))] 28 (0,0)) Z6 hb) (Aside0.mk (below_step Z85 hb)))));clear BK160 BK161 BK162 BK165 HB;obtain ⟨BK160,BK161,BK162,BK165,HB⟩ := n_;(try clear hb);(try clear hb2);(try clear hk);(try clear hi);have hcz41_0 : w40.cell? ⟨gb165,0,none⟩ = some (.bool a0_0) := (blk_cell BK165.out 0).trans rfl;have hcz41_1 : w40.cell? ⟨gb165,1,none⟩ = some (.int .u64 (IntKind.u64.wrap ((IntKind.u64.wrap (a0_1 + a1_1)) + 1))) := (blk_cell BK165.out 1).trans rfl;have hcz41_2 : w40.cell? ⟨gb165,2,none⟩ = some (.int .u64 (IntKind.u64.wrap (a0_2 + a1_2))) := (blk_cell BK165.out 2).trans rfl;have hzAhcz41 := (held_three hcz41_0 hcz41_1 hcz41_2).1;have hzBhcz41 := (held_three hcz41_0 hcz41_1 hcz41_2).2.1;have hzChcz41 := (held_three hcz41_0 hcz41_1 hcz41_2).2.2;have hfz41_0 := blk_frozen BK165.out 0;have hfz41_1 := blk_frozen BK165.out 1;have hfz41_2 := blk_frozen BK165.out 2;have hcz42_0 : w40.cell? ⟨gb162,0,none⟩ = some (.bool false) := (blk_cell BK162.out 0).trans rfl;have hcz42_1 : w40.cell? ⟨gb162,1,none⟩ = some (.int .u64 0) := (blk_cell BK162.out 1).trans rfl;have hcz42_2 : w40.cell? ⟨gb162,2,none⟩ = some (.int .u64 0) := (blk_cell BK162.out 2).trans rfl;have hzAhcz42 := (held_three hcz42_0 hcz42_1 hcz42_2).1;have hzBhcz42 := (held_three hcz42_0 hcz42_1 hcz42_2).2.1;have hzChcz42 := (held_three hcz42_0 hcz42_1 hcz42_2).2.2;have hfz42_0 := blk_frozen BK162.out 0;have hfz42_1 := blk_frozen BK162.out 1;have hfz42_2 := blk_frozen BK162.out 2))
              refine bodyPost_ret (results_ct rfl _ _ gb162 28 #[.bool a0_0,.int .u64 (IntKind.u64.wrap ((IntKind.u64.wrap (a0_1 + a1_1)) + 1)),.int .u64 (IntKind.u64.wrap (a0_2 + a1_2))] (0,0) _ rfl (by refine bP ?_;refine blk_put (cs := #[.bool a0_0,.int .u64 (IntKind.u64.wrap ((IntKind.u64.wrap (a0_1 + a1_1)) + 1)),.int .u64 0]) ?_ 2 _ rfl;refine bP ?_;refine blk_put (cs := #[.bool a0_0,.int .u64 0,.int .u64 0]) ?_ 1 _ rfl;refine bP ?_;refine blk_put (cs := #[.bool false,.int .u64 0,.int .u64 0]) ?_ 0 _ rfl;refine bP ?_;exact BK162.out) Try.underlying28 rfl Z580) rfl ?_
              exact ⟨Z400,Z85⟩
            · replace c28 := Bool.eq_false_iff.mpr c28
              subst c28
              have H1 : (some (false,0,0,false)) = some (r1,r2,r3,r4) := by rw [if_neg (show ¬ (false = true) by decide)] at H;exact H
              clear H
              have H := H1
              clear H1
              simp only [Option.some.injEq,Prod.mk.injEq] at H
              obtain ⟨rfl,rfl,rfl,rfl⟩ := H
              have hnb43 := NB160_161.out
              have hnc43 := NB161_160.out
              have hnb44 := NB160_162.out
              have hnc44 := NB162_160.out
              have hcz45_0 : wc.cell? ⟨gb160,0,none⟩ = some (.bool a0_0) := (blk_cell BK160.out 0).trans rfl
              have hcz45_1 : wc.cell? ⟨gb160,1,none⟩ = some (.int .u64 a0_1) := (blk_cell BK160.out 1).trans rfl
              have hcz45_2 : wc.cell? ⟨gb160,2,none⟩ = some (.int .u64 a0_2) := (blk_cell BK160.out 2).trans rfl
              have hzAhcz45 := (held_three hcz45_0 hcz45_1 hcz45_2).1
              have hzBhcz45 := (held_three hcz45_0 hcz45_1 hcz45_2).2.1
              have hzChcz45 := (held_three hcz45_0 hcz45_1 hcz45_2).2.2
              have hfz45_0 := blk_frozen BK160.out 0
              have hfz45_1 := blk_frozen BK160.out 1
              have hfz45_2 := blk_frozen BK160.out 2
              have hnb46 := NB161_162.out
              have hnc46 := NB162_161.out
              have hcz47_0 : wc.cell? ⟨gb161,0,none⟩ = some (.bool a1_0) := (blk_cell BK161.out 0).trans rfl
              have hcz47_1 : wc.cell? ⟨gb161,1,none⟩ = some (.int .u64 a1_1) := (blk_cell BK161.out 1).trans rfl
              have hcz47_2 : wc.cell? ⟨gb161,2,none⟩ = some (.int .u64 a1_2) := (blk_cell BK161.out 2).trans rfl
              have hzAhcz47 := (held_three hcz47_0 hcz47_1 hcz47_2).1
              have hzBhcz47 := (held_three hcz47_0 hcz47_1 hcz47_2).2.1
              have hzChcz47 := (held_three hcz47_0 hcz47_1 hcz47_2).2.2
              have hfz47_0 := blk_frozen BK161.out 0
              have hfz47_1 := blk_frozen BK161.out 1
              have hfz47_2 := blk_frozen BK161.out 2
              go_wp2_with (first | ((with_reducible refine gate_dst (N := 6) rfl ?_);refine box_event ?hg (N := 6) ?hd (cs := #[.bool false,.int .u64 0,.int .u64 0]) (t := 28) ?hr ?_;(case hd => rfl);(case hg => rfl);(case hr => exact Z515);intro gb165 hg w48 hbox hb;have n_ := jA (blk_below (g := gb160) (o := .cells #[.bool a0_0,.int .u64 a0_1,.int .u64 a0_2] 28 (0,0)) Z523 hb) (jA (blk_below (g := gb161) (o := .cells #[.bool a1_0,.int .u64 a1_1,.int .u64 a1_2] 28 (0,0)) Z524 hb) (jA (blk_below (g := gb162) (o := .cells #[.bool false,.int .u64 0,.int .u64 0] 28 (0,0)) Z526 hb) (jA (below_step Z415 hb) (jA (hbox) (jA ((Z84 : w.heap.size ≤ gb165)) (jA ((Z84 : w.heap.size ≤ gb165)) (jA ((Z329 : gb160 ≠ gb165)) (jA ((Z330 : gb165 ≠ gb160)) (jA ((Z331 : gb161 ≠ gb165)) (jA ((Z332 : gb165 ≠ gb161)) (jA ((Z353 : gb162 ≠ gb165)) (Aside0.mk ((Z354 : gb165 ≠ gb162))))))))))))));clear BK160 BK161 BK162 HB;obtain ⟨BK160,BK161,BK162,HB,BK165,GW165,GE165,NB160_165,NB165_160,NB161_165,NB165_161,NB162_165,NB165_162⟩ := n_;clear hb hbox hg;have hnb49 := NB165_160.out;have hnc49 := NB160_165.out;have hnb50 := NB165_161.out;have hnc50 := NB161_165.out;have hnb51 := NB165_162.out;have hnc51 := NB162_165.out;have hcz52_0 : w48.cell? ⟨gb165,0,none⟩ = some (.bool false) := (blk_cell BK165.out 0).trans rfl;have hcz52_1 : w48.cell? ⟨gb165,1,none⟩ = some (.int .u64 0) := (blk_cell BK165.out 1).trans rfl;have hcz52_2 : w48.cell? ⟨gb165,2,none⟩ = some (.int .u64 0) := (blk_cell BK165.out 2).trans rfl;have hzAhcz52 := (held_three hcz52_0 hcz52_1 hcz52_2).1;have hzBhcz52 := (held_three hcz52_0 hcz52_1 hcz52_2).2.1;have hzChcz52 := (held_three hcz52_0 hcz52_1 hcz52_2).2.2;have hfz52_0 := blk_frozen BK165.out 0;have hfz52_1 := blk_frozen BK165.out 1;have hfz52_2 := blk_frozen BK165.out 2;have hcz53_0 : w48.cell? ⟨gb160,0,none⟩ = some (.bool a0_0) := (blk_cell BK160.out 0).trans rfl;have hcz53_1 : w48.cell? ⟨gb160,1,none⟩ = some (.int .u64 a0_1) := (blk_cell BK160.out 1).trans rfl;have hcz53_2 : w48.cell? ⟨gb160,2,none⟩ = some (.int .u64 a0_2) := (blk_cell BK160.out 2).trans rfl;have hzAhcz53 := (held_three hcz53_0 hcz53_1 hcz53_2).1;have hzBhcz53 := (held_three hcz53_0 hcz53_1 hcz53_2).2.1;have hzChcz53 := (held_three hcz53_0 hcz53_1 hcz53_2).2.2;have hfz53_0 := blk_frozen BK160.out 0;have hfz53_1 := blk_frozen BK160.out 1;have hfz53_2 := blk_frozen BK160.out 2) | ((with_reducible refine gate_callee (f := 65) rfl ?_);refine goesL_ (some 47) rfl rfl Try.func65 Z580 rfl #[.agg #[.bool a0_0,.int .u64 (IntKind.u64.wrap ((IntKind.u64.wrap (a0_1 + a1_1)) + 1)),.int .u64 (IntKind.u64.wrap (a0_2 + a1_2))]] rfl Z395 ?_;(with_reducible refine (spec_WideOk.calls a0_0 (IntKind.u64.wrap ((IntKind.u64.wrap (a0_1 + a1_1)) + 1)) (IntKind.u64.wrap (a0_2 + a1_2)) false _ A27.out).mono ?_);rintro e w54 ⟨rfl,hb⟩;refine ⟨_,rfl,?_⟩;have n_ := jA (blk_below (g := gb160) (o := .cells #[.bool a0_0,.int .u64 a0_1,.int .u64 a0_2] 28 (0,0)) Z161 hb) (jA (blk_below (g := gb161) (o := .cells #[.bool a1_0,.int .u64 a1_1,.int .u64 a1_2] 28 (0,0)) Z159 hb) (jA (blk_below (g := gb162) (o := .cells #[.bool false,.int .u64 0,.int .u64 0] 28 (0,0)) Z157 hb) (jA (blk_below (g := gb165) (o := .cells #[.bool a0_0,.int .u64 (IntKind.u64.wrap ((IntKind.u64.wrap (a0_1 + a1_1)) + 1)),.int .u64 (IntKind.u64.wrap (a0_2 + a1_2))] 28 (0,0)) Z6 hb) (Aside0.mk (below_step Z85 hb)))));clear BK160 BK161 BK162 BK165 HB;obtain ⟨BK160,BK161,BK162,BK165,HB⟩ := n_;(try clear hb);(try clear hb2);(try clear hk);(try clear hi);have hcz55_0 : w54.cell? ⟨gb162,0,none⟩ = some (.bool false) := (blk_cell BK162.out 0).trans rfl;have hcz55_1 : w54.cell? ⟨gb162,1,none⟩ = some (.int .u64 0) := (blk_cell BK162.out 1).trans rfl;have hcz55_2 : w54.cell? ⟨gb162,2,none⟩ = some (.int .u64 0) := (blk_cell BK162.out 2).trans rfl;have hzAhcz55 := (held_three hcz55_0 hcz55_1 hcz55_2).1;have hzBhcz55 := (held_three hcz55_0 hcz55_1 hcz55_2).2.1;have hzChcz55 := (held_three hcz55_0 hcz55_1 hcz55_2).2.2;have hfz55_0 := blk_frozen BK162.out 0;have hfz55_1 := blk_frozen BK162.out 1;have hfz55_2 := blk_frozen BK162.out 2))
              refine bodyPost_ret (results_ct rfl _ _ gb162 28 #[.bool false,.int .u64 0,.int .u64 0] (0,0) _ rfl Z78 Try.underlying28 rfl Z580) rfl ?_
              exact ⟨Z400,Z85⟩
          · rw [if_neg c26] at H
            have c26b0 : decide ((IntKind.u64.wrap (a0_2 + a1_2)) < a0_2) = false := decide_eq_false c26
            clear c26
            obtain ⟨t167,A560,H⟩ := Option.bind_eq_some_iff.mp H
            have A56 := Aside0.mk A560
            clear A560
            by_cases c57 : t167 = true
            · subst c57
              have H1 : (some (a0_0,IntKind.u64.wrap (a0_1 + a1_1),IntKind.u64.wrap (a0_2 + a1_2),true)) = some (r1,r2,r3,r4) := by rw [if_pos rfl] at H;exact H
              clear H
              have H := H1
              clear H1
              simp only [Option.some.injEq,Prod.mk.injEq] at H
              obtain ⟨rfl,rfl,rfl,rfl⟩ := H
              have hnb58 := NB160_161.out
              have hnc58 := NB161_160.out
              have hnb59 := NB160_162.out
              have hnc59 := NB162_160.out
              have hcz60_0 : wc.cell? ⟨gb160,0,none⟩ = some (.bool a0_0) := (blk_cell BK160.out 0).trans rfl
              have hcz60_1 : wc.cell? ⟨gb160,1,none⟩ = some (.int .u64 a0_1) := (blk_cell BK160.out 1).trans rfl
              have hcz60_2 : wc.cell? ⟨gb160,2,none⟩ = some (.int .u64 a0_2) := (blk_cell BK160.out 2).trans rfl
              have hzAhcz60 := (held_three hcz60_0 hcz60_1 hcz60_2).1
              have hzBhcz60 := (held_three hcz60_0 hcz60_1 hcz60_2).2.1
              have hzChcz60 := (held_three hcz60_0 hcz60_1 hcz60_2).2.2
              have hfz60_0 := blk_frozen BK160.out 0
              have hfz60_1 := blk_frozen BK160.out 1
              have hfz60_2 := blk_frozen BK160.out 2
              have hnb61 := NB161_162.out
              have hnc61 := NB162_161.out
              have hcz62_0 : wc.cell? ⟨gb161,0,none⟩ = some (.bool a1_0) := (blk_cell BK161.out 0).trans rfl
              have hcz62_1 : wc.cell? ⟨gb161,1,none⟩ = some (.int .u64 a1_1) := (blk_cell BK161.out 1).trans rfl
              have hcz62_2 : wc.cell? ⟨gb161,2,none⟩ = some (.int .u64 a1_2) := (blk_cell BK161.out 2).trans rfl
              have hzAhcz62 := (held_three hcz62_0 hcz62_1 hcz62_2).1
              have hzBhcz62 := (held_three hcz62_0 hcz62_1 hcz62_2).2.1
              have hzChcz62 := (held_three hcz62_0 hcz62_1 hcz62_2).2.2
              have hfz62_0 := blk_frozen BK161.out 0
              have hfz62_1 := blk_frozen BK161.out 1
              have hfz62_2 := blk_frozen BK161.out 2
              go_wp2_with (first | ((with_reducible refine gate_dst (N := 6) rfl ?_);refine box_event ?hg (N := 6) ?hd (cs := #[.bool false,.int .u64 0,.int .u64 0]) (t := 28) ?hr ?_;(case hd => rfl);(case hg => rfl);(case hr => exact Z515);intro gb165 hg w63 hbox hb;have n_ := jA (blk_below (g := gb160) (o := .cells #[.bool a0_0,.int .u64 a0_1,.int .u64 a0_2] 28 (0,0)) Z523 hb) (jA (blk_below (g := gb161) (o := .cells #[.bool a1_0,.int .u64 a1_1,.int .u64 a1_2] 28 (0,0)) Z524 hb) (jA (blk_below (g := gb162) (o := .cells #[.bool false,.int .u64 0,.int .u64 0] 28 (0,0)) Z526 hb) (jA (below_step Z415 hb) (jA (hbox) (jA ((Z84 : w.heap.size ≤ gb165)) (jA ((Z84 : w.heap.size ≤ gb165)) (jA ((Z329 : gb160 ≠ gb165)) (jA ((Z330 : gb165 ≠ gb160)) (jA ((Z331 : gb161 ≠ gb165)) (jA ((Z332 : gb165 ≠ gb161)) (jA ((Z353 : gb162 ≠ gb165)) (Aside0.mk ((Z354 : gb165 ≠ gb162))))))))))))));clear BK160 BK161 BK162 HB;obtain ⟨BK160,BK161,BK162,HB,BK165,GW165,GE165,NB160_165,NB165_160,NB161_165,NB165_161,NB162_165,NB165_162⟩ := n_;clear hb hbox hg;have hnb64 := NB165_160.out;have hnc64 := NB160_165.out;have hnb65 := NB165_161.out;have hnc65 := NB161_165.out;have hnb66 := NB165_162.out;have hnc66 := NB162_165.out;have hcz67_0 : w63.cell? ⟨gb165,0,none⟩ = some (.bool false) := (blk_cell BK165.out 0).trans rfl;have hcz67_1 : w63.cell? ⟨gb165,1,none⟩ = some (.int .u64 0) := (blk_cell BK165.out 1).trans rfl;have hcz67_2 : w63.cell? ⟨gb165,2,none⟩ = some (.int .u64 0) := (blk_cell BK165.out 2).trans rfl;have hzAhcz67 := (held_three hcz67_0 hcz67_1 hcz67_2).1;have hzBhcz67 := (held_three hcz67_0 hcz67_1 hcz67_2).2.1;have hzChcz67 := (held_three hcz67_0 hcz67_1 hcz67_2).2.2;have hfz67_0 := blk_frozen BK165.out 0;have hfz67_1 := blk_frozen BK165.out 1;have hfz67_2 := blk_frozen BK165.out 2;have hcz68_0 : w63.cell? ⟨gb160,0,none⟩ = some (.bool a0_0) := (blk_cell BK160.out 0).trans rfl;have hcz68_1 : w63.cell? ⟨gb160,1,none⟩ = some (.int .u64 a0_1) := (blk_cell BK160.out 1).trans rfl;have hcz68_2 : w63.cell? ⟨gb160,2,none⟩ = some (.int .u64 a0_2) := (blk_cell BK160.out 2).trans rfl;have hzAhcz68 := (held_three hcz68_0 hcz68_1 hcz68_2).1;have hzBhcz68 := (held_three hcz68_0 hcz68_1 hcz68_2).2.1;have hzChcz68 := (held_three hcz68_0 hcz68_1 hcz68_2).2.2;have hfz68_0 := blk_frozen BK160.out 0;have hfz68_1 := blk_frozen BK160.out 1;have hfz68_2 := blk_frozen BK160.out 2) | ((with_reducible refine gate_callee (f := 65) rfl ?_);refine goesL_ (some 47) rfl rfl Try.func65 Z580 rfl #[.agg #[.bool a0_0,.int .u64 (IntKind.u64.wrap (a0_1 + a1_1)),.int .u64 (IntKind.u64.wrap (a0_2 + a1_2))]] rfl Z395 ?_;(with_reducible refine (spec_WideOk.calls a0_0 (IntKind.u64.wrap (a0_1 + a1_1)) (IntKind.u64.wrap (a0_2 + a1_2)) true _ A56.out).mono ?_);rintro e w69 ⟨rfl,hb⟩;refine ⟨_,rfl,?_⟩;have n_ := jA (blk_below (g := gb160) (o := .cells #[.bool a0_0,.int .u64 a0_1,.int .u64 a0_2] 28 (0,0)) Z251 hb) (jA (blk_below (g := gb161) (o := .cells #[.bool a1_0,.int .u64 a1_1,.int .u64 a1_2] 28 (0,0)) Z249 hb) (jA (blk_below (g := gb162) (o := .cells #[.bool false,.int .u64 0,.int .u64 0] 28 (0,0)) Z247 hb) (jA (blk_below (g := gb165) (o := .cells #[.bool a0_0,.int .u64 (IntKind.u64.wrap (a0_1 + a1_1)),.int .u64 (IntKind.u64.wrap (a0_2 + a1_2))] 28 (0,0)) Z44 hb) (Aside0.mk (below_step Z85 hb)))));clear BK160 BK161 BK162 BK165 HB;obtain ⟨BK160,BK161,BK162,BK165,HB⟩ := n_;(try clear hb);(try clear hb2);(try clear hk);(try clear hi);have hcz70_0 : w69.cell? ⟨gb165,0,none⟩ = some (.bool a0_0) := (blk_cell BK165.out 0).trans rfl;have hcz70_1 : w69.cell? ⟨gb165,1,none⟩ = some (.int .u64 (IntKind.u64.wrap (a0_1 + a1_1))) := (blk_cell BK165.out 1).trans rfl;have hcz70_2 : w69.cell? ⟨gb165,2,none⟩ = some (.int .u64 (IntKind.u64.wrap (a0_2 + a1_2))) := (blk_cell BK165.out 2).trans rfl;have hzAhcz70 := (held_three hcz70_0 hcz70_1 hcz70_2).1;have hzBhcz70 := (held_three hcz70_0 hcz70_1 hcz70_2).2.1;have hzChcz70 := (held_three hcz70_0 hcz70_1 hcz70_2).2.2;have hfz70_0 := blk_frozen BK165.out 0;have hfz70_1 := blk_frozen BK165.out 1;have hfz70_2 := blk_frozen BK165.out 2;have hcz71_0 : w69.cell? ⟨gb162,0,none⟩ = some (.bool false) := (blk_cell BK162.out 0).trans rfl;have hcz71_1 : w69.cell? ⟨gb162,1,none⟩ = some (.int .u64 0) := (blk_cell BK162.out 1).trans rfl;have hcz71_2 : w69.cell? ⟨gb162,2,none⟩ = some (.int .u64 0) := (blk_cell BK162.out 2).trans rfl;have hzAhcz71 := (held_three hcz71_0 hcz71_1 hcz71_2).1;have hzBhcz71 := (held_three hcz71_0 hcz71_1 hcz71_2).2.1;have hzChcz71 := (held_three hcz71_0 hcz71_1 hcz71_2).2.2;have hfz71_0 := blk_frozen BK162.out 0;have hfz71_1 := blk_frozen BK162.out 1;have hfz71_2 := blk_frozen BK162.out 2))
              refine bodyPost_ret (results_ct rfl _ _ gb162 28 #[.bool a0_0,.int .u64 (IntKind.u64.wrap (a0_1 + a1_1)),.int .u64 (IntKind.u64.wrap (a0_2 + a1_2))] (0,0) _ rfl (by refine bP ?_;refine blk_put (cs := #[.bool a0_0,.int .u64 (IntKind.u64.wrap (a0_1 + a1_1)),.int .u64 0]) ?_ 2 _ rfl;refine bP ?_;refine blk_put (cs := #[.bool a0_0,.int .u64 0,.int .u64 0]) ?_ 1 _ rfl;refine bP ?_;refine blk_put (cs := #[.bool false,.int .u64 0,.int .u64 0]) ?_ 0 _ rfl;refine bP ?_;exact BK162.out) Try.underlying28 rfl Z580) rfl ?_
              exact ⟨Z400,Z85⟩
            · replace c57 := Bool.eq_false_iff.mpr c57
              subst c57
              have H1 : (some (false,0,0,false)) = some (r1,r2,r3,r4) := by rw [if_neg (show ¬ (false = true) by decide)] at H;exact H
              clear H
              have H := H1
              clear H1
              simp only [Option.some.injEq,Prod.mk.injEq] at H
              obtain ⟨rfl,rfl,rfl,rfl⟩ := H
              have hnb72 := NB160_161.out
              have hnc72 := NB161_160.out
              have hnb73 := NB160_162.out
              have hnc73 := NB162_160.out
              have hcz74_0 : wc.cell? ⟨gb160,0,none⟩ = some (.bool a0_0) := (blk_cell BK160.out 0).trans rfl
              have hcz74_1 : wc.cell? ⟨gb160,1,none⟩ = some (.int .u64 a0_1) := (blk_cell BK160.out 1).trans rfl
              have hcz74_2 : wc.cell? ⟨gb160,2,none⟩ = some (.int .u64 a0_2) := (blk_cell BK160.out 2).trans rfl
              have hzAhcz74 := (held_three hcz74_0 hcz74_1 hcz74_2).1
              have hzBhcz74 := (held_three hcz74_0 hcz74_1 hcz74_2).2.1
              have hzChcz74 := (held_three hcz74_0 hcz74_1 hcz74_2).2.2
              have hfz74_0 := blk_frozen BK160.out 0
              have hfz74_1 := blk_frozen BK160.out 1
              have hfz74_2 := blk_frozen BK160.out 2
              have hnb75 := NB161_162.out
              have hnc75 := NB162_161.out
              have hcz76_0 : wc.cell? ⟨gb161,0,none⟩ = some (.bool a1_0) := (blk_cell BK161.out 0).trans rfl
              have hcz76_1 : wc.cell? ⟨gb161,1,none⟩ = some (.int .u64 a1_1) := (blk_cell BK161.out 1).trans rfl
              have hcz76_2 : wc.cell? ⟨gb161,2,none⟩ = some (.int .u64 a1_2) := (blk_cell BK161.out 2).trans rfl
              have hzAhcz76 := (held_three hcz76_0 hcz76_1 hcz76_2).1
              have hzBhcz76 := (held_three hcz76_0 hcz76_1 hcz76_2).2.1
              have hzChcz76 := (held_three hcz76_0 hcz76_1 hcz76_2).2.2
              have hfz76_0 := blk_frozen BK161.out 0
              have hfz76_1 := blk_frozen BK161.out 1
              have hfz76_2 := blk_frozen BK161.out 2
              go_wp2_with (first | ((with_reducible refine gate_dst (N := 6) rfl ?_);refine box_event ?hg (N := 6) ?hd (cs := #[.bool false,.int .u64 0,.int .u64 0]) (t := 28) ?hr ?_;(case hd => rfl);(case hg => rfl);(case hr => exact Z515);intro gb165 hg w77 hbox hb;have n_ := jA (blk_below (g := gb160) (o := .cells #[.bool a0_0,.int .u64 a0_1,.int .u64 a0_2] 28 (0,0)) Z523 hb) (jA (blk_below (g := gb161) (o := .cells #[.bool a1_0,.int .u64 a1_1,.int .u64 a1_2] 28 (0,0)) Z524 hb) (jA (blk_below (g := gb162) (o := .cells #[.bool false,.int .u64 0,.int .u64 0] 28 (0,0)) Z526 hb) (jA (below_step Z415 hb) (jA (hbox) (jA ((Z84 : w.heap.size ≤ gb165)) (jA ((Z84 : w.heap.size ≤ gb165)) (jA ((Z329 : gb160 ≠ gb165)) (jA ((Z330 : gb165 ≠ gb160)) (jA ((Z331 : gb161 ≠ gb165)) (jA ((Z332 : gb165 ≠ gb161)) (jA ((Z353 : gb162 ≠ gb165)) (Aside0.mk ((Z354 : gb165 ≠ gb162))))))))))))));clear BK160 BK161 BK162 HB;obtain ⟨BK160,BK161,BK162,HB,BK165,GW165,GE165,NB160_165,NB165_160,NB161_165,NB165_161,NB162_165,NB165_162⟩ := n_;clear hb hbox hg;have hnb78 := NB165_160.out;have hnc78 := NB160_165.out;have hnb79 := NB165_161.out;have hnc79 := NB161_165.out;have hnb80 := NB165_162.out;have hnc80 := NB162_165.out;have hcz81_0 : w77.cell? ⟨gb165,0,none⟩ = some (.bool false) := (blk_cell BK165.out 0).trans rfl;have hcz81_1 : w77.cell? ⟨gb165,1,none⟩ = some (.int .u64 0) := (blk_cell BK165.out 1).trans rfl;have hcz81_2 : w77.cell? ⟨gb165,2,none⟩ = some (.int .u64 0) := (blk_cell BK165.out 2).trans rfl;have hzAhcz81 := (held_three hcz81_0 hcz81_1 hcz81_2).1;have hzBhcz81 := (held_three hcz81_0 hcz81_1 hcz81_2).2.1;have hzChcz81 := (held_three hcz81_0 hcz81_1 hcz81_2).2.2;have hfz81_0 := blk_frozen BK165.out 0;have hfz81_1 := blk_frozen BK165.out 1;have hfz81_2 := blk_frozen BK165.out 2;have hcz82_0 : w77.cell? ⟨gb160,0,none⟩ = some (.bool a0_0) := (blk_cell BK160.out 0).trans rfl;have hcz82_1 : w77.cell? ⟨gb160,1,none⟩ = some (.int .u64 a0_1) := (blk_cell BK160.out 1).trans rfl;have hcz82_2 : w77.cell? ⟨gb160,2,none⟩ = some (.int .u64 a0_2) := (blk_cell BK160.out 2).trans rfl;have hzAhcz82 := (held_three hcz82_0 hcz82_1 hcz82_2).1;have hzBhcz82 := (held_three hcz82_0 hcz82_1 hcz82_2).2.1;have hzChcz82 := (held_three hcz82_0 hcz82_1 hcz82_2).2.2;have hfz82_0 := blk_frozen BK160.out 0;have hfz82_1 := blk_frozen BK160.out 1;have hfz82_2 := blk_frozen BK160.out 2) | ((with_reducible refine gate_callee (f := 65) rfl ?_);refine goesL_ (some 47) rfl rfl Try.func65 Z580 rfl #[.agg #[.bool a0_0,.int .u64 (IntKind.u64.wrap (a0_1 + a1_1)),.int .u64 (IntKind.u64.wrap (a0_2 + a1_2))]] rfl Z395 ?_;(with_reducible refine (spec_WideOk.calls a0_0 (IntKind.u64.wrap (a0_1 + a1_1)) (IntKind.u64.wrap (a0_2 + a1_2)) false _ A56.out).mono ?_);rintro e w83 ⟨rfl,hb⟩;refine ⟨_,rfl,?_⟩;have n_ := jA (blk_below (g := gb160) (o := .cells #[.bool a0_0,.int .u64 a0_1,.int .u64 a0_2] 28 (0,0)) Z251 hb) (jA (blk_below (g := gb161) (o := .cells #[.bool a1_0,.int .u64 a1_1,.int .u64 a1_2] 28 (0,0)) Z249 hb) (jA (blk_below (g := gb162) (o := .cells #[.bool false,.int .u64 0,.int .u64 0] 28 (0,0)) Z247 hb) (jA (blk_below (g := gb165) (o := .cells #[.bool a0_0,.int .u64 (IntKind.u64.wrap (a0_1 + a1_1)),.int .u64 (IntKind.u64.wrap (a0_2 + a1_2))] 28 (0,0)) Z44 hb) (Aside0.mk (below_step Z85 hb)))));clear BK160 BK161 BK162 BK165 HB;obtain ⟨BK160,BK161,BK162,BK165,HB⟩ := n_;(try clear hb);(try clear hb2);(try clear hk);(try clear hi);have hcz84_0 : w83.cell? ⟨gb162,0,none⟩ = some (.bool false) := (blk_cell BK162.out 0).trans rfl;have hcz84_1 : w83.cell? ⟨gb162,1,none⟩ = some (.int .u64 0) := (blk_cell BK162.out 1).trans rfl;have hcz84_2 : w83.cell? ⟨gb162,2,none⟩ = some (.int .u64 0) := (blk_cell BK162.out 2).trans rfl;have hzAhcz84 := (held_three hcz84_0 hcz84_1 hcz84_2).1;have hzBhcz84 := (held_three hcz84_0 hcz84_1 hcz84_2).2.1;have hzChcz84 := (held_three hcz84_0 hcz84_1 hcz84_2).2.2;have hfz84_0 := blk_frozen BK162.out 0;have hfz84_1 := blk_frozen BK162.out 1;have hfz84_2 := blk_frozen BK162.out 2))
              refine bodyPost_ret (results_ct rfl _ _ gb162 28 #[.bool false,.int .u64 0,.int .u64 0] (0,0) _ rfl Z78 Try.underlying28 rfl Z580) rfl ?_
              exact ⟨Z400,Z85⟩
        · rw [if_neg c25] at H
          have c25b0 : (a0_0 == a1_0) = false := by simpa using c25
          (try (have c25b1 : decide (a0_0 = a1_0) = false := by simpa using c25))
          (try (have c25b2 : (a0_0 == a1_0) = false := by simpa using c25))
          (try (have c25b3 : ¬ (a0_0 = a1_0) := by simpa using c25))
          clear c25
          obtain ⟨t170,A850,H⟩ := Option.bind_eq_some_iff.mp H
          have A85 := Aside0.mk A850
          clear A850
          have HC86 := Aside0.mk H
          clear H
          have hnb87 := NB160_161.out
          have hnc87 := NB161_160.out
          have hnb88 := NB160_162.out
          have hnc88 := NB162_160.out
          have hcz89_0 : wc.cell? ⟨gb160,0,none⟩ = some (.bool a0_0) := (blk_cell BK160.out 0).trans rfl
          have hcz89_1 : wc.cell? ⟨gb160,1,none⟩ = some (.int .u64 a0_1) := (blk_cell BK160.out 1).trans rfl
          have hcz89_2 : wc.cell? ⟨gb160,2,none⟩ = some (.int .u64 a0_2) := (blk_cell BK160.out 2).trans rfl
          have hzAhcz89 := (held_three hcz89_0 hcz89_1 hcz89_2).1
          have hzBhcz89 := (held_three hcz89_0 hcz89_1 hcz89_2).2.1
          have hzChcz89 := (held_three hcz89_0 hcz89_1 hcz89_2).2.2
          have hfz89_0 := blk_frozen BK160.out 0
          have hfz89_1 := blk_frozen BK160.out 1
          have hfz89_2 := blk_frozen BK160.out 2
          have hnb90 := NB161_162.out
          have hnc90 := NB162_161.out
          have hcz91_0 : wc.cell? ⟨gb161,0,none⟩ = some (.bool a1_0) := (blk_cell BK161.out 0).trans rfl
          have hcz91_1 : wc.cell? ⟨gb161,1,none⟩ = some (.int .u64 a1_1) := (blk_cell BK161.out 1).trans rfl
          have hcz91_2 : wc.cell? ⟨gb161,2,none⟩ = some (.int .u64 a1_2) := (blk_cell BK161.out 2).trans rfl
          have hzAhcz91 := (held_three hcz91_0 hcz91_1 hcz91_2).1
          have hzBhcz91 := (held_three hcz91_0 hcz91_1 hcz91_2).2.1
          have hzChcz91 := (held_three hcz91_0 hcz91_1 hcz91_2).2.2
          have hfz91_0 := blk_frozen BK161.out 0
          have hfz91_1 := blk_frozen BK161.out 1
          have hfz91_2 := blk_frozen BK161.out 2
          go_upto_if 56 with (first | ((with_reducible refine gate_dst (N := 7) rfl ?_);refine box_event ?hg (N := 7) ?hd (cs := #[.bool false,.int .u64 0,.int .u64 0]) (t := 28) ?hr ?_;(case hd => rfl);(case hg => rfl);(case hr => exact Z515);intro gb168 hg w92 hbox hb;have n_ := jA (blk_below (g := gb160) (o := .cells #[.bool a0_0,.int .u64 a0_1,.int .u64 a0_2] 28 (0,0)) Z523 hb) (jA (blk_below (g := gb161) (o := .cells #[.bool a1_0,.int .u64 a1_1,.int .u64 a1_2] 28 (0,0)) Z524 hb) (jA (blk_below (g := gb162) (o := .cells #[.bool false,.int .u64 0,.int .u64 0] 28 (0,0)) Z526 hb) (jA (below_step Z415 hb) (jA (hbox) (jA ((Z84 : w.heap.size ≤ gb168)) (jA ((Z84 : w.heap.size ≤ gb168)) (jA ((Z329 : gb160 ≠ gb168)) (jA ((Z330 : gb168 ≠ gb160)) (jA ((Z331 : gb161 ≠ gb168)) (jA ((Z332 : gb168 ≠ gb161)) (jA ((Z353 : gb162 ≠ gb168)) (Aside0.mk ((Z354 : gb168 ≠ gb162))))))))))))));clear BK160 BK161 BK162 HB;obtain ⟨BK160,BK161,BK162,HB,BK168,GW168,GE168,NB160_168,NB168_160,NB161_168,NB168_161,NB162_168,NB168_162⟩ := n_;clear hb hbox hg;have hnb93 := NB168_160.out;have hnc93 := NB160_168.out;have hnb94 := NB168_161.out;have hnc94 := NB161_168.out;have hnb95 := NB168_162.out;have hnc95 := NB162_168.out;have hcz96_0 : w92.cell? ⟨gb168,0,none⟩ = some (.bool false) := (blk_cell BK168.out 0).trans rfl;have hcz96_1 : w92.cell? ⟨gb168,1,none⟩ = some (.int .u64 0) := (blk_cell BK168.out 1).trans rfl;have hcz96_2 : w92.cell? ⟨gb168,2,none⟩ = some (.int .u64 0) := (blk_cell BK168.out 2).trans rfl;have hzAhcz96 := (held_three hcz96_0 hcz96_1 hcz96_2).1;have hzBhcz96 := (held_three hcz96_0 hcz96_1 hcz96_2).2.1;have hzChcz96 := (held_three hcz96_0 hcz96_1 hcz96_2).2.2;have hfz96_0 := blk_frozen BK168.out 0;have hfz96_1 := blk_frozen BK168.out 1;have hfz96_2 := blk_frozen BK168.out 2;have hcz97_0 : w92.cell? ⟨gb161,0,none⟩ = some (.bool a1_0) := (blk_cell BK161.out 0).trans rfl;have hcz97_1 : w92.cell? ⟨gb161,1,none⟩ = some (.int .u64 a1_1) := (blk_cell BK161.out 1).trans rfl;have hcz97_2 : w92.cell? ⟨gb161,2,none⟩ = some (.int .u64 a1_2) := (blk_cell BK161.out 2).trans rfl;have hzAhcz97 := (held_three hcz97_0 hcz97_1 hcz97_2).1;have hzBhcz97 := (held_three hcz97_0 hcz97_1 hcz97_2).2.1;have hzChcz97 := (held_three hcz97_0 hcz97_1 hcz97_2).2.2;have hfz97_0 := blk_frozen BK161.out 0;have hfz97_1 := blk_frozen BK161.out 1;have hfz97_2 := blk_frozen BK161.out 2) | ((with_reducible refine gate_dst (N := 8) rfl ?_);refine box_event ?hg (N := 8) ?hd (cs := #[.bool false,.int .u64 0,.int .u64 0]) (t := 28) ?hr ?_;(case hd => rfl);(case hg => rfl);(case hr => exact Z515);intro gb169 hg w98 hbox hb;have n_ := jA (blk_below (g := gb160) (o := .cells #[.bool a0_0,.int .u64 a0_1,.int .u64 a0_2] 28 (0,0)) Z234 hb) (jA (blk_below (g := gb161) (o := .cells #[.bool a1_0,.int .u64 a1_1,.int .u64 a1_2] 28 (0,0)) Z233 hb) (jA (blk_below (g := gb162) (o := .cells #[.bool false,.int .u64 0,.int .u64 0] 28 (0,0)) Z232 hb) (jA (blk_below (g := gb168) (o := .cells #[.bool a0_0,.int .u64 a0_1,.int .u64 a0_2] 28 (0,0)) Z70 hb) (jA (below_step Z413 hb) (jA (hbox) (jA ((Z64 : w.heap.size ≤ gb169)) (jA ((Z64 : w.heap.size ≤ gb169)) (jA ((by rw [hg];exact Nat.ne_of_lt (blk_lt (g := gb160) (o := .cells #[.bool a0_0,.int .u64 a0_1,.int .u64 a0_2] 28 (0,0)) Z234) : gb160 ≠ gb169)) (jA ((by rw [hg];exact Nat.ne_of_gt (blk_lt (g := gb160) (o := .cells #[.bool a0_0,.int .u64 a0_1,.int .u64 a0_2] 28 (0,0)) Z234) : gb169 ≠ gb160)) (jA ((by rw [hg];exact Nat.ne_of_lt (blk_lt (g := gb161) (o := .cells #[.bool a1_0,.int .u64 a1_1,.int .u64 a1_2] 28 (0,0)) Z233) : gb161 ≠ gb169)) (jA ((by rw [hg];exact Nat.ne_of_gt (blk_lt (g := gb161) (o := .cells #[.bool a1_0,.int .u64 a1_1,.int .u64 a1_2] 28 (0,0)) Z233) : gb169 ≠ gb161)) (jA ((by rw [hg];exact Nat.ne_of_lt (blk_lt (g := gb162) (o := .cells #[.bool false,.int .u64 0,.int .u64 0] 28 (0,0)) Z232) : gb162 ≠ gb169)) (jA ((by rw [hg];exact Nat.ne_of_gt (blk_lt (g := gb162) (o := .cells #[.bool false,.int .u64 0,.int .u64 0] 28 (0,0)) Z232) : gb169 ≠ gb162)) (jA ((by rw [hg];exact Nat.ne_of_lt (blk_lt (g := gb168) (o := .cells #[.bool a0_0,.int .u64 a0_1,.int .u64 a0_2] 28 (0,0)) Z70) : gb168 ≠ gb169)) (Aside0.mk ((by rw [hg];exact Nat.ne_of_gt (blk_lt (g := gb168) (o := .cells #[.bool a0_0,.int .u64 a0_1,.int .u64 a0_2] 28 (0,0)) Z70) : gb169 ≠ gb168)))))))))))))))));clear BK160 BK161 BK162 BK168 HB;obtain ⟨BK160,BK161,BK162,BK168,HB,BK169,GW169,GE169,NB160_169,NB169_160,NB161_169,NB169_161,NB162_169,NB169_162,NB168_169,NB169_168⟩ := n_;clear hb hbox hg;have hnb99 := NB169_160.out;have hnc99 := NB160_169.out;have hnb100 := NB169_161.out;have hnc100 := NB161_169.out;have hnb101 := NB169_162.out;have hnc101 := NB162_169.out;have hnb102 := NB169_168.out;have hnc102 := NB168_169.out;have hcz103_0 : w98.cell? ⟨gb169,0,none⟩ = some (.bool false) := (blk_cell BK169.out 0).trans rfl;have hcz103_1 : w98.cell? ⟨gb169,1,none⟩ = some (.int .u64 0) := (blk_cell BK169.out 1).trans rfl;have hcz103_2 : w98.cell? ⟨gb169,2,none⟩ = some (.int .u64 0) := (blk_cell BK169.out 2).trans rfl;have hzAhcz103 := (held_three hcz103_0 hcz103_1 hcz103_2).1;have hzBhcz103 := (held_three hcz103_0 hcz103_1 hcz103_2).2.1;have hzChcz103 := (held_three hcz103_0 hcz103_1 hcz103_2).2.2;have hfz103_0 := blk_frozen BK169.out 0;have hfz103_1 := blk_frozen BK169.out 1;have hfz103_2 := blk_frozen BK169.out 2;have hcz104_0 : w98.cell? ⟨gb160,0,none⟩ = some (.bool a0_0) := (blk_cell BK160.out 0).trans rfl;have hcz104_1 : w98.cell? ⟨gb160,1,none⟩ = some (.int .u64 a0_1) := (blk_cell BK160.out 1).trans rfl;have hcz104_2 : w98.cell? ⟨gb160,2,none⟩ = some (.int .u64 a0_2) := (blk_cell BK160.out 2).trans rfl;have hzAhcz104 := (held_three hcz104_0 hcz104_1 hcz104_2).1;have hzBhcz104 := (held_three hcz104_0 hcz104_1 hcz104_2).2.1;have hzChcz104 := (held_three hcz104_0 hcz104_1 hcz104_2).2.2;have hfz104_0 := blk_frozen BK160.out 0;have hfz104_1 := blk_frozen BK160.out 1;have hfz104_2 := blk_frozen BK160.out 2;have hcz105_0 : w98.cell? ⟨gb161,0,none⟩ = some (.bool a1_0) := (blk_cell BK161.out 0).trans rfl;have hcz105_1 : w98.cell? ⟨gb161,1,none⟩ = some (.int .u64 a1_1) := (blk_cell BK161.out 1).trans rfl;have hcz105_2 : w98.cell? ⟨gb161,2,none⟩ = some (.int .u64 a1_2) := (blk_cell BK161.out 2).trans rfl;have hzAhcz105 := (held_three hcz105_0 hcz105_1 hcz105_2).1;have hzBhcz105 := (held_three hcz105_0 hcz105_1 hcz105_2).2.1;have hzChcz105 := (held_three hcz105_0 hcz105_1 hcz105_2).2.2;have hfz105_0 := blk_frozen BK161.out 0;have hfz105_1 := blk_frozen BK161.out 1;have hfz105_2 := blk_frozen BK161.out 2) | ((with_reducible refine gate_callee (f := 66) rfl ?_);refine goesL_ (some 55) rfl rfl Try.func66 Z580 rfl #[.agg #[.bool a0_0,.int .u64 a0_1,.int .u64 a0_2],.agg #[.bool a1_0,.int .u64 a1_1,.int .u64 a1_2]] rfl Z395 ?_;(with_reducible refine (spec_l3Order.calls kj2 a0_0 a0_1 a0_2 a1_0 a1_1 a1_2 t170 _ A85.out).mono ?_);rintro e w106 ⟨rfl,hb⟩;refine ⟨_,rfl,?_⟩;have n_ := jA (blk_below (g := gb160) (o := .cells #[.bool a0_0,.int .u64 a0_1,.int .u64 a0_2] 28 (0,0)) (by refine bP ?_;refine blk_far ?_ NB160_169.out _;refine bP ?_;refine blk_far ?_ NB160_169.out _;refine bP ?_;refine blk_far ?_ NB160_169.out _;refine bP ?_;exact BK160.out) hb) (jA (blk_below (g := gb161) (o := .cells #[.bool a1_0,.int .u64 a1_1,.int .u64 a1_2] 28 (0,0)) (by refine bP ?_;refine blk_far ?_ NB161_169.out _;refine bP ?_;refine blk_far ?_ NB161_169.out _;refine bP ?_;refine blk_far ?_ NB161_169.out _;refine bP ?_;exact BK161.out) hb) (jA (blk_below (g := gb162) (o := .cells #[.bool false,.int .u64 0,.int .u64 0] 28 (0,0)) (by refine bP ?_;refine blk_far ?_ NB162_169.out _;refine bP ?_;refine blk_far ?_ NB162_169.out _;refine bP ?_;refine blk_far ?_ NB162_169.out _;refine bP ?_;exact BK162.out) hb) (jA (blk_below (g := gb168) (o := .cells #[.bool a0_0,.int .u64 a0_1,.int .u64 a0_2] 28 (0,0)) (by refine bP ?_;refine blk_far ?_ NB168_169.out _;refine bP ?_;refine blk_far ?_ NB168_169.out _;refine bP ?_;refine blk_far ?_ NB168_169.out _;refine bP ?_;exact BK168.out) hb) (jA (blk_below (g := gb169) (o := .cells #[.bool a1_0,.int .u64 a1_1,.int .u64 a1_2] 28 (0,0)) (by refine bP ?_;refine blk_put (cs := #[.bool a1_0,.int .u64 a1_1,.int .u64 0]) ?_ 2 _ rfl;refine bP ?_;refine blk_put (cs := #[.bool a1_0,.int .u64 0,.int .u64 0]) ?_ 1 _ rfl;refine bP ?_;refine blk_put (cs := #[.bool false,.int .u64 0,.int .u64 0]) ?_ 0 _ rfl;refine bP ?_;exact BK169.out) hb) (Aside0.mk (below_step Z403 hb))))));clear BK160 BK161 BK162 BK168 BK169 HB;obtain ⟨BK160,BK161,BK162,BK168,BK169,HB⟩ := n_;(try clear hb);(try clear hb2);(try clear hk);(try clear hi)))
          (try simp only [Act.put,List.setIfInBounds_toArray,List.set_cons_zero,List.set_cons_succ])
          go_cut [] (fun wc => ∃ (kq : Nat) (x169000_85 : Bool) (x169001_85 : Int) (x169002_85 : Int) (x170000_85 : Bool) (x170001_85 : Int) (x170002_85 : Int),Aside0 (spec_AddWide.j1 kq x169000_85 x169001_85 x169002_85 x170000_85 x170001_85 x170002_85 = some (r1,r2,r3,r4)) ∧ Aside0 (kq ≤ kj2) ∧ Aside0 (wc.heap[gb160]? = some (.cells #[.bool a0_0,.int .u64 a0_1,.int .u64 a0_2] 28 (0,0))) ∧ Aside0 (wc.heap[gb161]? = some (.cells #[.bool a1_0,.int .u64 a1_1,.int .u64 a1_2] 28 (0,0))) ∧ Aside0 (wc.heap[gb162]? = some (.cells #[.bool false,.int .u64 0,.int .u64 0] 28 (0,0))) ∧ Aside0 (wc.heap[gb168]? = some (.cells #[.bool x169000_85,.int .u64 x169001_85,.int .u64 x169002_85] 28 (0,0))) ∧ Aside0 (wc.heap[gb169]? = some (.cells #[.bool x170000_85,.int .u64 x170001_85,.int .u64 x170002_85] 28 (0,0))) ∧ Aside0 (Below w.heap.size w wc))
          case first =>
            have H := HC86.out
            clear HC86
            by_cases c107 : t170 < 0
            · rw [if_pos c107] at H
              have c107b0 : decide (t170 < 0) = true := decide_eq_true c107
              clear c107
              (first | rw [c107b0] | (simp only [i64_w,i32_w];rw [c107b0]) | skip)
              have H' := Aside0.mk H
              clear H
              have hnb108 := NB161_160.out
              have hnc108 := NB160_161.out
              have hnb109 := NB161_162.out
              have hnc109 := NB162_161.out
              have hnb110 := NB161_168.out
              have hnc110 := NB168_161.out
              have hnb111 := NB161_169.out
              have hnc111 := NB169_161.out
              have hcz112_0 : w106.cell? ⟨gb161,0,none⟩ = some (.bool a1_0) := (blk_cell BK161.out 0).trans rfl
              have hcz112_1 : w106.cell? ⟨gb161,1,none⟩ = some (.int .u64 a1_1) := (blk_cell BK161.out 1).trans rfl
              have hcz112_2 : w106.cell? ⟨gb161,2,none⟩ = some (.int .u64 a1_2) := (blk_cell BK161.out 2).trans rfl
              have hzAhcz112 := (held_three hcz112_0 hcz112_1 hcz112_2).1
              have hzBhcz112 := (held_three hcz112_0 hcz112_1 hcz112_2).2.1
              have hzChcz112 := (held_three hcz112_0 hcz112_1 hcz112_2).2.2
              have hfz112_0 := blk_frozen BK161.out 0
              have hfz112_1 := blk_frozen BK161.out 1
              have hfz112_2 := blk_frozen BK161.out 2
              have hnb113 := NB168_160.out
              have hnc113 := NB160_168.out
              have hnb114 := NB168_162.out
              have hnc114 := NB162_168.out
              have hnb115 := NB168_169.out
              have hnc115 := NB169_168.out
              have hcz116_0 : w106.cell? ⟨gb168,0,none⟩ = some (.bool a0_0) := (blk_cell BK168.out 0).trans rfl
              have hcz116_1 : w106.cell? ⟨gb168,1,none⟩ = some (.int .u64 a0_1) := (blk_cell BK168.out 1).trans rfl
              have hcz116_2 : w106.cell? ⟨gb168,2,none⟩ = some (.int .u64 a0_2) := (blk_cell BK168.out 2).trans rfl
              have hzAhcz116 := (held_three hcz116_0 hcz116_1 hcz116_2).1
              have hzBhcz116 := (held_three hcz116_0 hcz116_1 hcz116_2).2.1
              have hzChcz116 := (held_three hcz116_0 hcz116_1 hcz116_2).2.2
              have hfz116_0 := blk_frozen BK168.out 0
              have hfz116_1 := blk_frozen BK168.out 1
              have hfz116_2 := blk_frozen BK168.out 2
              have hnb117 := NB160_162.out
              have hnc117 := NB162_160.out
              have hnb118 := NB160_169.out
              have hnc118 := NB169_160.out
              have hcz119_0 : w106.cell? ⟨gb160,0,none⟩ = some (.bool a0_0) := (blk_cell BK160.out 0).trans rfl
              have hcz119_1 : w106.cell? ⟨gb160,1,none⟩ = some (.int .u64 a0_1) := (blk_cell BK160.out 1).trans rfl
              have hcz119_2 : w106.cell? ⟨gb160,2,none⟩ = some (.int .u64 a0_2) := (blk_cell BK160.out 2).trans rfl
              have hzAhcz119 := (held_three hcz119_0 hcz119_1 hcz119_2).1
              have hzBhcz119 := (held_three hcz119_0 hcz119_1 hcz119_2).2.1
              have hzChcz119 := (held_three hcz119_0 hcz119_1 hcz119_2).2.2
              have hfz119_0 := blk_frozen BK160.out 0
              have hfz119_1 := blk_frozen BK160.out 1
              have hfz119_2 := blk_frozen BK160.out 2
              have hnb120 := NB169_162.out
              have hnc120 := NB162_169.out
              have hcz121_0 : w106.cell? ⟨gb169,0,none⟩ = some (.bool a1_0) := (blk_cell BK169.out 0).trans rfl
              have hcz121_1 : w106.cell? ⟨gb169,1,none⟩ = some (.int .u64 a1_1) := (blk_cell BK169.out 1).trans rfl
              have hcz121_2 : w106.cell? ⟨gb169,2,none⟩ = some (.int .u64 a1_2) := (blk_cell BK169.out 2).trans rfl
              have hzAhcz121 := (held_three hcz121_0 hcz121_1 hcz121_2).1
              have hzBhcz121 := (held_three hcz121_0 hcz121_1 hcz121_2).2.1
              have hzChcz121 := (held_three hcz121_0 hcz121_1 hcz121_2).2.2
              have hfz121_0 := blk_frozen BK169.out 0
              have hfz121_1 := blk_frozen BK169.out 1
              have hfz121_2 := blk_frozen BK169.out 2
              go_wp2
              go_meet
              case rel => exact ⟨_,(a1_0),(a1_1),(a1_2),(a0_0),(a0_1),(a0_2),H',⟨Z511⟩,⟨by refine bP ?_;refine blk_far ?_ NB160_169.out _;refine bP ?_;refine blk_far ?_ NB160_169.out _;refine bP ?_;refine blk_far ?_ NB160_169.out _;refine bP ?_;refine blk_far ?_ NB160_168.out _;refine bP ?_;refine blk_far ?_ NB160_168.out _;refine bP ?_;refine blk_far ?_ NB160_168.out _;refine bP ?_;exact BK160.out⟩,⟨by refine bP ?_;refine blk_far ?_ NB161_169.out _;refine bP ?_;refine blk_far ?_ NB161_169.out _;refine bP ?_;refine blk_far ?_ NB161_169.out _;refine bP ?_;refine blk_far ?_ NB161_168.out _;refine bP ?_;refine blk_far ?_ NB161_168.out _;refine bP ?_;refine blk_far ?_ NB161_168.out _;refine bP ?_;exact BK161.out⟩,⟨by refine bP ?_;refine blk_far ?_ NB162_169.out _;refine bP ?_;refine blk_far ?_ NB162_169.out _;refine bP ?_;refine blk_far ?_ NB162_169.out _;refine bP ?_;refine blk_far ?_ NB162_168.out _;refine bP ?_;refine blk_far ?_ NB162_168.out _;refine bP ?_;refine blk_far ?_ NB162_168.out _;refine bP ?_;exact BK162.out⟩,⟨by refine bP ?_;refine blk_far ?_ NB168_169.out _;refine bP ?_;refine blk_far ?_ NB168_169.out _;refine bP ?_;refine blk_far ?_ NB168_169.out _;refine bP ?_;refine blk_put (cs := #[.bool a1_0,.int .u64 a1_1,.int .u64 a0_2]) ?_ 2 _ rfl;refine bP ?_;refine blk_put (cs := #[.bool a1_0,.int .u64 a0_1,.int .u64 a0_2]) ?_ 1 _ rfl;refine bP ?_;refine blk_put (cs := #[.bool a0_0,.int .u64 a0_1,.int .u64 a0_2]) ?_ 0 _ rfl;refine bP ?_;exact BK168.out⟩,⟨by refine bP ?_;refine blk_put (cs := #[.bool a0_0,.int .u64 a0_1,.int .u64 a1_2]) ?_ 2 _ rfl;refine bP ?_;refine blk_put (cs := #[.bool a0_0,.int .u64 a1_1,.int .u64 a1_2]) ?_ 1 _ rfl;refine bP ?_;refine blk_put (cs := #[.bool a1_0,.int .u64 a1_1,.int .u64 a1_2]) ?_ 0 _ rfl;refine bP ?_;refine blk_far ?_ NB169_168.out _;refine bP ?_;refine blk_far ?_ NB169_168.out _;refine bP ?_;refine blk_far ?_ NB169_168.out _;refine bP ?_;exact BK169.out⟩,⟨Z403⟩⟩
            · rw [if_neg c107] at H
              have c107b0 : decide (t170 < 0) = false := decide_eq_false c107
              clear c107
              (first | rw [c107b0] | (simp only [i64_w,i32_w];rw [c107b0]) | skip)
              have H' := Aside0.mk H
              clear H
              go_wp2
              go_meet
              case rel => exact ⟨_,(a0_0),(a0_1),(a0_2),(a1_0),(a1_1),(a1_2),H',⟨Z511⟩,⟨Z523⟩,⟨Z524⟩,⟨Z526⟩,⟨Z557⟩,⟨Z556⟩,⟨Z403⟩⟩
          case rest =>
            clear HC86
            try clear c1
            try clear c2
            try clear p2
            try clear c3
            try clear c4
            try clear c5
            try clear c6
            try clear c7
            try clear c8
            try clear c9
            try clear c10
            try clear c11
            try clear c12
            try clear c14
            try clear c17
            try clear c18
            try clear c21
            try clear c22
            try clear c23
            try clear c25
            try clear c25b0
            try clear c25b1
            try clear c25b2
            try clear c26
            try clear c26b0
            try clear c28
            try clear c29
            try clear c30
            try clear c32
            try clear c35
            try clear c36
            try clear c37
            try clear c43
            try clear c44
            try clear c46
            try clear c49
            try clear c50
            try clear c51
            try clear c57
            try clear c58
            try clear c59
            try clear c61
            try clear c64
            try clear c65
            try clear c66
            try clear c72
            try clear c73
            try clear c75
            try clear c78
            try clear c79
            try clear c80
            try clear c87
            try clear c88
            try clear c90
            try clear c93
            try clear c94
            try clear c95
            try clear c99
            try clear c100
            try clear c101
            try clear c102
            try clear c107
            try clear c107b0
            try clear c108
            try clear c109
            try clear c110
            try clear c111
            try clear c113
            try clear c114
            try clear c115
            try clear c117
            try clear c118
            try clear c120
            try clear hcz103_0
            try clear hcz103_1
            try clear hcz103_2
            try clear hcz104_0
            try clear hcz104_1
            try clear hcz104_2
            try clear hcz105_0
            try clear hcz105_1
            try clear hcz105_2
            try clear hcz112_0
            try clear hcz112_1
            try clear hcz112_2
            try clear hcz116_0
            try clear hcz116_1
            try clear hcz116_2
            try clear hcz119_0
            try clear hcz119_1
            try clear hcz119_2
            try clear hcz121_0
            try clear hcz121_1
            try clear hcz121_2
            try clear hcz12_0
            try clear hcz12_1
            try clear hcz12_2
            try clear hcz15_0
            try clear hcz15_1
            try clear hcz15_2
            try clear hcz19_0
            try clear hcz19_1
            try clear hcz19_2
            try clear hcz24_0
            try clear hcz24_1
            try clear hcz24_2
            try clear hcz31_0
            try clear hcz31_1
            try clear hcz31_2
            try clear hcz33_0
            try clear hcz33_1
            try clear hcz33_2
            try clear hcz38_0
            try clear hcz38_1
            try clear hcz38_2
            try clear hcz39_0
            try clear hcz39_1
            try clear hcz39_2
            try clear hcz41_0
            try clear hcz41_1
            try clear hcz41_2
            try clear hcz42_0
            try clear hcz42_1
            try clear hcz42_2
            try clear hcz45_0
            try clear hcz45_1
            try clear hcz45_2
            try clear hcz47_0
            try clear hcz47_1
            try clear hcz47_2
            try clear hcz52_0
            try clear hcz52_1
            try clear hcz52_2
            try clear hcz53_0
            try clear hcz53_1
            try clear hcz53_2
            try clear hcz55_0
            try clear hcz55_1
            try clear hcz55_2
            try clear hcz60_0
            try clear hcz60_1
            try clear hcz60_2
            try clear hcz62_0
            try clear hcz62_1
            try clear hcz62_2
            try clear hcz67_0
            try clear hcz67_1
            try clear hcz67_2
            try clear hcz68_0
            try clear hcz68_1
            try clear hcz68_2
            try clear hcz70_0
            try clear hcz70_1
            try clear hcz70_2
            try clear hcz71_0
            try clear hcz71_1
            try clear hcz71_2
            try clear hcz74_0
            try clear hcz74_1
            try clear hcz74_2
            try clear hcz76_0
            try clear hcz76_1
            try clear hcz76_2
            try clear hcz81_0
            try clear hcz81_1
            try clear hcz81_2
            try clear hcz82_0
            try clear hcz82_1
            try clear hcz82_2
            try clear hcz84_0
            try clear hcz84_1
            try clear hcz84_2
            try clear hcz89_0
            try clear hcz89_1
            try clear hcz89_2
            try clear hcz91_0
            try clear hcz91_1
            try clear hcz91_2
            try clear hcz96_0
            try clear hcz96_1
            try clear hcz96_2
            try clear hcz97_0
            try clear hcz97_1
            try clear hcz97_2
            try clear hfz103_0
            try clear hfz103_1
            try clear hfz103_2
            try clear hfz104_0
            try clear hfz104_1
            try clear hfz104_2
            try clear hfz105_0
            try clear hfz105_1
            try clear hfz105_2
            try clear hfz112_0
            try clear hfz112_1
            try clear hfz112_2
            try clear hfz116_0
            try clear hfz116_1
            try clear hfz116_2
            try clear hfz119_0
            try clear hfz119_1
            try clear hfz119_2
            try clear hfz121_0
            try clear hfz121_1
            try clear hfz121_2
            try clear hfz12_0
            try clear hfz12_1
            try clear hfz12_2
            try clear hfz15_0
            try clear hfz15_1
            try clear hfz15_2
            try clear hfz19_0
            try clear hfz19_1
            try clear hfz19_2
            try clear hfz24_0
            try clear hfz24_1
            try clear hfz24_2
            try clear hfz31_0
            try clear hfz31_1
            try clear hfz31_2
            try clear hfz33_0
            try clear hfz33_1
            try clear hfz33_2
            try clear hfz38_0
            try clear hfz38_1
            try clear hfz38_2
            try clear hfz39_0
            try clear hfz39_1
            try clear hfz39_2
            try clear hfz41_0
            try clear hfz41_1
            try clear hfz41_2
            try clear hfz42_0
            try clear hfz42_1
            try clear hfz42_2
            try clear hfz45_0
            try clear hfz45_1
            try clear hfz45_2
            try clear hfz47_0
            try clear hfz47_1
            try clear hfz47_2
            try clear hfz52_0
            try clear hfz52_1
            try clear hfz52_2
            try clear hfz53_0
            try clear hfz53_1
            try clear hfz53_2
            try clear hfz55_0
            try clear hfz55_1
            try clear hfz55_2
            try clear hfz60_0
            try clear hfz60_1
            try clear hfz60_2
            try clear hfz62_0
            try clear hfz62_1
            try clear hfz62_2
            try clear hfz67_0
            try clear hfz67_1
            try clear hfz67_2
            try clear hfz68_0
            try clear hfz68_1
            try clear hfz68_2
            try clear hfz70_0
            try clear hfz70_1
            try clear hfz70_2
            try clear hfz71_0
            try clear hfz71_1
            try clear hfz71_2
            try clear hfz74_0
            try clear hfz74_1
            try clear hfz74_2
            try clear hfz76_0
            try clear hfz76_1
            try clear hfz76_2
            try clear hfz81_0
            try clear hfz81_1
            try clear hfz81_2
            try clear hfz82_0
            try clear hfz82_1
            try clear hfz82_2
            try clear hfz84_0
            try clear hfz84_1
            try clear hfz84_2
            try clear hfz89_0
            try clear hfz89_1
            try clear hfz89_2
            try clear hfz91_0
            try clear hfz91_1
            try clear hfz91_2
            try clear hfz96_0
            try clear hfz96_1
            try clear hfz96_2
            try clear hfz97_0
            try clear hfz97_1
            try clear hfz97_2
            try clear p2
            obtain ⟨kq,x169000_85,x169001_85,x169002_85,x170000_85,x170001_85,x170002_85,HA,HJ85,BK160,BK161,BK162,BK168,BK169,HB⟩ := hcut
            cases kq with
            | zero => exact absurd HA.out (by simp [spec_AddWide.j1])
            | succ kj85 =>
              have H := HA.out
              clear HA
              simp only [spec_AddWide.j1] at H
              by_cases c122 : x169002_85 < x170002_85
              · rw [if_pos c122] at H
                have c122b0 : decide (x169002_85 < x170002_85) = true := decide_eq_true c122
                clear c122
                obtain ⟨t172,A1230,H⟩ := Option.bind_eq_some_iff.mp H
                have A123 := Aside0.mk A1230
                clear A1230
                by_cases c124 : t172 = true
                · subst c124
                  have H1 : (some (false,IntKind.u64.wrap ((IntKind.u64.wrap (x169001_85 - x170001_85)) - 1),IntKind.u64.wrap (x169002_85 - x170002_85),true)) = some (r1,r2,r3,r4) := by rw [if_pos rfl] at H;exact H
                  clear H
                  have H := H1
                  clear H1
                  simp only [Option.some.injEq,Prod.mk.injEq] at H
                  obtain ⟨rfl,rfl,rfl,rfl⟩ := H
                  have hnb125 := NB168_160.out
                  have hnc125 := NB160_168.out
                  have hnb126 := NB168_161.out
                  have hnc126 := NB161_168.out
                  have hnb127 := NB168_162.out
                  have hnc127 := NB162_168.out
                  have hnb128 := NB168_169.out
                  have hnc128 := NB169_168.out
                  have hcz129_0 : wc.cell? ⟨gb168,0,none⟩ = some (.bool x169000_85) := (blk_cell BK168.out 0).trans rfl
                  have hcz129_1 : wc.cell? ⟨gb168,1,none⟩ = some (.int .u64 x169001_85) := (blk_cell BK168.out 1).trans rfl
                  have hcz129_2 : wc.cell? ⟨gb168,2,none⟩ = some (.int .u64 x169002_85) := (blk_cell BK168.out 2).trans rfl
                  have hzAhcz129 := (held_three hcz129_0 hcz129_1 hcz129_2).1
                  have hzBhcz129 := (held_three hcz129_0 hcz129_1 hcz129_2).2.1
                  have hzChcz129 := (held_three hcz129_0 hcz129_1 hcz129_2).2.2
                  have hfz129_0 := blk_frozen BK168.out 0
                  have hfz129_1 := blk_frozen BK168.out 1
                  have hfz129_2 := blk_frozen BK168.out 2
                  have hnb130 := NB169_160.out
                  have hnc130 := NB160_169.out
                  have hnb131 := NB169_161.out
                  have hnc131 := NB161_169.out
                  have hnb132 := NB169_162.out
                  have hnc132 := NB162_169.out
                  have hcz133_0 : wc.cell? ⟨gb169,0,none⟩ = some (.bool x170000_85) := (blk_cell BK169.out 0).trans rfl
                  have hcz133_1 : wc.cell? ⟨gb169,1,none⟩ = some (.int .u64 x170001_85) := (blk_cell BK169.out 1).trans rfl
                  have hcz133_2 : wc.cell? ⟨gb169,2,none⟩ = some (.int .u64 x170002_85) := (blk_cell BK169.out 2).trans rfl
                  have hzAhcz133 := (held_three hcz133_0 hcz133_1 hcz133_2).1
                  have hzBhcz133 := (held_three hcz133_0 hcz133_1 hcz133_2).2.1
                  have hzChcz133 := (held_three hcz133_0 hcz133_1 hcz133_2).2.2
                  have hfz133_0 := blk_frozen BK169.out 0
                  have hfz133_1 := blk_frozen BK169.out 1
                  have hfz133_2 := blk_frozen BK169.out 2
                  go_wp2_with (first | ((with_reducible refine gate_dst (N := 9) rfl ?_);refine box_event ?hg (N := 9) ?hd (cs := #[.bool false,.int .u64 0,.int .u64 0]) (t := 28) ?hr ?_;(case hd => rfl);(case hg => rfl);(case hr => exact Z515);intro gb171 hg w134 hbox hb;have n_ := jA (blk_below (g := gb160) (o := .cells #[.bool a0_0,.int .u64 a0_1,.int .u64 a0_2] 28 (0,0)) Z523 hb) (jA (blk_below (g := gb161) (o := .cells #[.bool a1_0,.int .u64 a1_1,.int .u64 a1_2] 28 (0,0)) Z524 hb) (jA (blk_below (g := gb162) (o := .cells #[.bool false,.int .u64 0,.int .u64 0] 28 (0,0)) Z526 hb) (jA (blk_below (g := gb168) (o := .cells #[.bool x169000_85,.int .u64 x169001_85,.int .u64 x169002_85] 28 (0,0)) Z557 hb) (jA (blk_below (g := gb169) (o := .cells #[.bool x170000_85,.int .u64 x170001_85,.int .u64 x170002_85] 28 (0,0)) Z556 hb) (jA (below_step Z403 hb) (jA (hbox) (jA ((Z36 : w.heap.size ≤ gb171)) (jA ((Z36 : w.heap.size ≤ gb171)) (jA ((Z329 : gb160 ≠ gb171)) (jA ((Z330 : gb171 ≠ gb160)) (jA ((Z331 : gb161 ≠ gb171)) (jA ((Z332 : gb171 ≠ gb161)) (jA ((Z353 : gb162 ≠ gb171)) (jA ((Z354 : gb171 ≠ gb162)) (jA ((Z267 : gb168 ≠ gb171)) (jA ((Z269 : gb171 ≠ gb168)) (jA ((Z266 : gb169 ≠ gb171)) (Aside0.mk ((Z268 : gb171 ≠ gb169))))))))))))))))))));clear BK160 BK161 BK162 BK168 BK169 HB;obtain ⟨BK160,BK161,BK162,BK168,BK169,HB,BK171,GW171,GE171,NB160_171,NB171_160,NB161_171,NB171_161,NB162_171,NB171_162,NB168_171,NB171_168,NB169_171,NB171_169⟩ := n_;clear hb hbox hg;have hnb135 := NB171_160.out;have hnc135 := NB160_171.out;have hnb136 := NB171_161.out;have hnc136 := NB161_171.out;have hnb137 := NB171_162.out;have hnc137 := NB162_171.out;have hnb138 := NB171_168.out;have hnc138 := NB168_171.out;have hnb139 := NB171_169.out;have hnc139 := NB169_171.out;have hcz140_0 : w134.cell? ⟨gb171,0,none⟩ = some (.bool false) := (blk_cell BK171.out 0).trans rfl;have hcz140_1 : w134.cell? ⟨gb171,1,none⟩ = some (.int .u64 0) := (blk_cell BK171.out 1).trans rfl;have hcz140_2 : w134.cell? ⟨gb171,2,none⟩ = some (.int .u64 0) := (blk_cell BK171.out 2).trans rfl;have hzAhcz140 := (held_three hcz140_0 hcz140_1 hcz140_2).1;have hzBhcz140 := (held_three hcz140_0 hcz140_1 hcz140_2).2.1;have hzChcz140 := (held_three hcz140_0 hcz140_1 hcz140_2).2.2;have hfz140_0 := blk_frozen BK171.out 0;have hfz140_1 := blk_frozen BK171.out 1;have hfz140_2 := blk_frozen BK171.out 2;have hcz141_0 : w134.cell? ⟨gb168,0,none⟩ = some (.bool x169000_85) := (blk_cell BK168.out 0).trans rfl;have hcz141_1 : w134.cell? ⟨gb168,1,none⟩ = some (.int .u64 x169001_85) := (blk_cell BK168.out 1).trans rfl;have hcz141_2 : w134.cell? ⟨gb168,2,none⟩ = some (.int .u64 x169002_85) := (blk_cell BK168.out 2).trans rfl;have hzAhcz141 := (held_three hcz141_0 hcz141_1 hcz141_2).1;have hzBhcz141 := (held_three hcz141_0 hcz141_1 hcz141_2).2.1;have hzChcz141 := (held_three hcz141_0 hcz141_1 hcz141_2).2.2;have hfz141_0 := blk_frozen BK168.out 0;have hfz141_1 := blk_frozen BK168.out 1;have hfz141_2 := blk_frozen BK168.out 2;have hcz142_0 : w134.cell? ⟨gb169,0,none⟩ = some (.bool x170000_85) := (blk_cell BK169.out 0).trans rfl;have hcz142_1 : w134.cell? ⟨gb169,1,none⟩ = some (.int .u64 x170001_85) := (blk_cell BK169.out 1).trans rfl;have hcz142_2 : w134.cell? ⟨gb169,2,none⟩ = some (.int .u64 x170002_85) := (blk_cell BK169.out 2).trans rfl;have hzAhcz142 := (held_three hcz142_0 hcz142_1 hcz142_2).1;have hzBhcz142 := (held_three hcz142_0 hcz142_1 hcz142_2).2.1;have hzChcz142 := (held_three hcz142_0 hcz142_1 hcz142_2).2.2;have hfz142_0 := blk_frozen BK169.out 0;have hfz142_1 := blk_frozen BK169.out 1;have hfz142_2 := blk_frozen BK169.out 2) | ((with_reducible refine gate_callee (f := 67) rfl ?_);refine goesL_ (some 82) rfl rfl Try.func67 Z580 rfl #[.agg #[.bool x169000_85,.int .u64 (IntKind.u64.wrap ((IntKind.u64.wrap (x169001_85 - x170001_85)) - 1)),.int .u64 (IntKind.u64.wrap (x169002_85 - x170002_85))]] rfl Z395 ?_;(with_reducible refine (spec_l3Zero.calls x169000_85 (IntKind.u64.wrap ((IntKind.u64.wrap (x169001_85 - x170001_85)) - 1)) (IntKind.u64.wrap (x169002_85 - x170002_85)) true _ A123.out).mono ?_);rintro e w143 ⟨rfl,hb⟩;refine ⟨_,rfl,?_⟩;have n_ := jA (blk_below (g := gb160) (o := .cells #[.bool a0_0,.int .u64 a0_1,.int .u64 a0_2] 28 (0,0)) Z160 hb) (jA (blk_below (g := gb161) (o := .cells #[.bool a1_0,.int .u64 a1_1,.int .u64 a1_2] 28 (0,0)) Z158 hb) (jA (blk_below (g := gb162) (o := .cells #[.bool false,.int .u64 0,.int .u64 0] 28 (0,0)) Z156 hb) (jA (blk_below (g := gb168) (o := .cells #[.bool x169000_85,.int .u64 x169001_85,.int .u64 x169002_85] 28 (0,0)) Z155 hb) (jA (blk_below (g := gb169) (o := .cells #[.bool x170000_85,.int .u64 x170001_85,.int .u64 x170002_85] 28 (0,0)) Z154 hb) (jA (blk_below (g := gb171) (o := .cells #[.bool x169000_85,.int .u64 (IntKind.u64.wrap ((IntKind.u64.wrap (x169001_85 - x170001_85)) - 1)),.int .u64 (IntKind.u64.wrap (x169002_85 - x170002_85))] 28 (0,0)) Z5 hb) (Aside0.mk (below_step Z35 hb)))))));clear BK160 BK161 BK162 BK168 BK169 BK171 HB;obtain ⟨BK160,BK161,BK162,BK168,BK169,BK171,HB⟩ := n_;(try clear hb);(try clear hb2);(try clear hk);(try clear hi);have hcz144_0 : w143.cell? ⟨gb171,0,none⟩ = some (.bool x169000_85) := (blk_cell BK171.out 0).trans rfl;have hcz144_1 : w143.cell? ⟨gb171,1,none⟩ = some (.int .u64 (IntKind.u64.wrap ((IntKind.u64.wrap (x169001_85 - x170001_85)) - 1))) := (blk_cell BK171.out 1).trans rfl;have hcz144_2 : w143.cell? ⟨gb171,2,none⟩ = some (.int .u64 (IntKind.u64.wrap (x169002_85 - x170002_85))) := (blk_cell BK171.out 2).trans rfl;have hzAhcz144 := (held_three hcz144_0 hcz144_1 hcz144_2).1;have hzBhcz144 := (held_three hcz144_0 hcz144_1 hcz144_2).2.1;have hzChcz144 := (held_three hcz144_0 hcz144_1 hcz144_2).2.2;have hfz144_0 := blk_frozen BK171.out 0;have hfz144_1 := blk_frozen BK171.out 1;have hfz144_2 := blk_frozen BK171.out 2;have hnb145 := NB162_160.out;have hnc145 := NB160_162.out;have hnb146 := NB162_161.out;have hnc146 := NB161_162.out;have hcz147_0 : w143.cell? ⟨gb162,0,none⟩ = some (.bool false) := (blk_cell BK162.out 0).trans rfl;have hcz147_1 : w143.cell? ⟨gb162,1,none⟩ = some (.int .u64 0) := (blk_cell BK162.out 1).trans rfl;have hcz147_2 : w143.cell? ⟨gb162,2,none⟩ = some (.int .u64 0) := (blk_cell BK162.out 2).trans rfl;have hzAhcz147 := (held_three hcz147_0 hcz147_1 hcz147_2).1;have hzBhcz147 := (held_three hcz147_0 hcz147_1 hcz147_2).2.1;have hzChcz147 := (held_three hcz147_0 hcz147_1 hcz147_2).2.2;have hfz147_0 := blk_frozen BK162.out 0;have hfz147_1 := blk_frozen BK162.out 1;have hfz147_2 := blk_frozen BK162.out 2))
                  refine bodyPost_ret (results_ct rfl _ _ gb162 28 #[.bool false,.int .u64 (IntKind.u64.wrap ((IntKind.u64.wrap (x169001_85 - x170001_85)) - 1)),.int .u64 (IntKind.u64.wrap (x169002_85 - x170002_85))] (0,0) _ rfl (by refine bP ?_;refine blk_put (cs := #[.bool false,.int .u64 (IntKind.u64.wrap ((IntKind.u64.wrap (x169001_85 - x170001_85)) - 1)),.int .u64 0]) ?_ 2 _ rfl;refine bP ?_;refine blk_put (cs := #[.bool false,.int .u64 0,.int .u64 0]) ?_ 1 _ rfl;refine bP ?_;refine blk_put (cs := #[.bool false,.int .u64 0,.int .u64 0]) ?_ 0 _ rfl;refine bP ?_;refine blk_far ?_ NB162_171.out _;refine bP ?_;exact BK162.out) Try.underlying28 rfl Z580) rfl ?_
                  exact ⟨Z400,Z35⟩
                · replace c124 := Bool.eq_false_iff.mpr c124
                  subst c124
                  have H1 : (some (x169000_85,IntKind.u64.wrap ((IntKind.u64.wrap (x169001_85 - x170001_85)) - 1),IntKind.u64.wrap (x169002_85 - x170002_85),true)) = some (r1,r2,r3,r4) := by rw [if_neg (show ¬ (false = true) by decide)] at H;exact H
                  clear H
                  have H := H1
                  clear H1
                  simp only [Option.some.injEq,Prod.mk.injEq] at H
                  obtain ⟨rfl,rfl,rfl,rfl⟩ := H
                  have hnb148 := NB168_160.out
                  have hnc148 := NB160_168.out
                  have hnb149 := NB168_161.out
                  have hnc149 := NB161_168.out
                  have hnb150 := NB168_162.out
                  have hnc150 := NB162_168.out
                  have hnb151 := NB168_169.out
                  have hnc151 := NB169_168.out
                  have hcz152_0 : wc.cell? ⟨gb168,0,none⟩ = some (.bool x169000_85) := (blk_cell BK168.out 0).trans rfl
                  have hcz152_1 : wc.cell? ⟨gb168,1,none⟩ = some (.int .u64 x169001_85) := (blk_cell BK168.out 1).trans rfl
                  have hcz152_2 : wc.cell? ⟨gb168,2,none⟩ = some (.int .u64 x169002_85) := (blk_cell BK168.out 2).trans rfl
                  have hzAhcz152 := (held_three hcz152_0 hcz152_1 hcz152_2).1
                  have hzBhcz152 := (held_three hcz152_0 hcz152_1 hcz152_2).2.1
                  have hzChcz152 := (held_three hcz152_0 hcz152_1 hcz152_2).2.2
                  have hfz152_0 := blk_frozen BK168.out 0
                  have hfz152_1 := blk_frozen BK168.out 1
                  have hfz152_2 := blk_frozen BK168.out 2
                  have hnb153 := NB169_160.out
                  have hnc153 := NB160_169.out
                  have hnb154 := NB169_161.out
                  have hnc154 := NB161_169.out
                  have hnb155 := NB169_162.out
                  have hnc155 := NB162_169.out
                  have hcz156_0 : wc.cell? ⟨gb169,0,none⟩ = some (.bool x170000_85) := (blk_cell BK169.out 0).trans rfl
                  have hcz156_1 : wc.cell? ⟨gb169,1,none⟩ = some (.int .u64 x170001_85) := (blk_cell BK169.out 1).trans rfl
                  have hcz156_2 : wc.cell? ⟨gb169,2,none⟩ = some (.int .u64 x170002_85) := (blk_cell BK169.out 2).trans rfl
                  have hzAhcz156 := (held_three hcz156_0 hcz156_1 hcz156_2).1
                  have hzBhcz156 := (held_three hcz156_0 hcz156_1 hcz156_2).2.1
                  have hzChcz156 := (held_three hcz156_0 hcz156_1 hcz156_2).2.2
                  have hfz156_0 := blk_frozen BK169.out 0
                  have hfz156_1 := blk_frozen BK169.out 1
                  have hfz156_2 := blk_frozen BK169.out 2
                  go_wp2_with (first | ((with_reducible refine gate_dst (N := 9) rfl ?_);refine box_event ?hg (N := 9) ?hd (cs := #[.bool false,.int .u64 0,.int .u64 0]) (t := 28) ?hr ?_;(case hd => rfl);(case hg => rfl);(case hr => exact Z515);intro gb171 hg w157 hbox hb;have n_ := jA (blk_below (g := gb160) (o := .cells #[.bool a0_0,.int .u64 a0_1,.int .u64 a0_2] 28 (0,0)) Z523 hb) (jA (blk_below (g := gb161) (o := .cells #[.bool a1_0,.int .u64 a1_1,.int .u64 a1_2] 28 (0,0)) Z524 hb) (jA (blk_below (g := gb162) (o := .cells #[.bool false,.int .u64 0,.int .u64 0] 28 (0,0)) Z526 hb) (jA (blk_below (g := gb168) (o := .cells #[.bool x169000_85,.int .u64 x169001_85,.int .u64 x169002_85] 28 (0,0)) Z557 hb) (jA (blk_below (g := gb169) (o := .cells #[.bool x170000_85,.int .u64 x170001_85,.int .u64 x170002_85] 28 (0,0)) Z556 hb) (jA (below_step Z403 hb) (jA (hbox) (jA ((Z36 : w.heap.size ≤ gb171)) (jA ((Z36 : w.heap.size ≤ gb171)) (jA ((Z329 : gb160 ≠ gb171)) (jA ((Z330 : gb171 ≠ gb160)) (jA ((Z331 : gb161 ≠ gb171)) (jA ((Z332 : gb171 ≠ gb161)) (jA ((Z353 : gb162 ≠ gb171)) (jA ((Z354 : gb171 ≠ gb162)) (jA ((Z267 : gb168 ≠ gb171)) (jA ((Z269 : gb171 ≠ gb168)) (jA ((Z266 : gb169 ≠ gb171)) (Aside0.mk ((Z268 : gb171 ≠ gb169))))))))))))))))))));clear BK160 BK161 BK162 BK168 BK169 HB;obtain ⟨BK160,BK161,BK162,BK168,BK169,HB,BK171,GW171,GE171,NB160_171,NB171_160,NB161_171,NB171_161,NB162_171,NB171_162,NB168_171,NB171_168,NB169_171,NB171_169⟩ := n_;clear hb hbox hg;have hnb158 := NB171_160.out;have hnc158 := NB160_171.out;have hnb159 := NB171_161.out;have hnc159 := NB161_171.out;have hnb160 := NB171_162.out;have hnc160 := NB162_171.out;have hnb161 := NB171_168.out;have hnc161 := NB168_171.out;have hnb162 := NB171_169.out;have hnc162 := NB169_171.out;have hcz163_0 : w157.cell? ⟨gb171,0,none⟩ = some (.bool false) := (blk_cell BK171.out 0).trans rfl;have hcz163_1 : w157.cell? ⟨gb171,1,none⟩ = some (.int .u64 0) := (blk_cell BK171.out 1).trans rfl;have hcz163_2 : w157.cell? ⟨gb171,2,none⟩ = some (.int .u64 0) := (blk_cell BK171.out 2).trans rfl;have hzAhcz163 := (held_three hcz163_0 hcz163_1 hcz163_2).1;have hzBhcz163 := (held_three hcz163_0 hcz163_1 hcz163_2).2.1;have hzChcz163 := (held_three hcz163_0 hcz163_1 hcz163_2).2.2;have hfz163_0 := blk_frozen BK171.out 0;have hfz163_1 := blk_frozen BK171.out 1;have hfz163_2 := blk_frozen BK171.out 2;have hcz164_0 : w157.cell? ⟨gb168,0,none⟩ = some (.bool x169000_85) := (blk_cell BK168.out 0).trans rfl;have hcz164_1 : w157.cell? ⟨gb168,1,none⟩ = some (.int .u64 x169001_85) := (blk_cell BK168.out 1).trans rfl;have hcz164_2 : w157.cell? ⟨gb168,2,none⟩ = some (.int .u64 x169002_85) := (blk_cell BK168.out 2).trans rfl;have hzAhcz164 := (held_three hcz164_0 hcz164_1 hcz164_2).1;have hzBhcz164 := (held_three hcz164_0 hcz164_1 hcz164_2).2.1;have hzChcz164 := (held_three hcz164_0 hcz164_1 hcz164_2).2.2;have hfz164_0 := blk_frozen BK168.out 0;have hfz164_1 := blk_frozen BK168.out 1;have hfz164_2 := blk_frozen BK168.out 2;have hcz165_0 : w157.cell? ⟨gb169,0,none⟩ = some (.bool x170000_85) := (blk_cell BK169.out 0).trans rfl;have hcz165_1 : w157.cell? ⟨gb169,1,none⟩ = some (.int .u64 x170001_85) := (blk_cell BK169.out 1).trans rfl;have hcz165_2 : w157.cell? ⟨gb169,2,none⟩ = some (.int .u64 x170002_85) := (blk_cell BK169.out 2).trans rfl;have hzAhcz165 := (held_three hcz165_0 hcz165_1 hcz165_2).1;have hzBhcz165 := (held_three hcz165_0 hcz165_1 hcz165_2).2.1;have hzChcz165 := (held_three hcz165_0 hcz165_1 hcz165_2).2.2;have hfz165_0 := blk_frozen BK169.out 0;have hfz165_1 := blk_frozen BK169.out 1;have hfz165_2 := blk_frozen BK169.out 2) | ((with_reducible refine gate_callee (f := 67) rfl ?_);refine goesL_ (some 82) rfl rfl Try.func67 Z580 rfl #[.agg #[.bool x169000_85,.int .u64 (IntKind.u64.wrap ((IntKind.u64.wrap (x169001_85 - x170001_85)) - 1)),.int .u64 (IntKind.u64.wrap (x169002_85 - x170002_85))]] rfl Z395 ?_;(with_reducible refine (spec_l3Zero.calls x169000_85 (IntKind.u64.wrap ((IntKind.u64.wrap (x169001_85 - x170001_85)) - 1)) (IntKind.u64.wrap (x169002_85 - x170002_85)) false _ A123.out).mono ?_);rintro e w166 ⟨rfl,hb⟩;refine ⟨_,rfl,?_⟩;have n_ := jA (blk_below (g := gb160) (o := .cells #[.bool a0_0,.int .u64 a0_1,.int .u64 a0_2] 28 (0,0)) Z160 hb) (jA (blk_below (g := gb161) (o := .cells #[.bool a1_0,.int .u64 a1_1,.int .u64 a1_2] 28 (0,0)) Z158 hb) (jA (blk_below (g := gb162) (o := .cells #[.bool false,.int .u64 0,.int .u64 0] 28 (0,0)) Z156 hb) (jA (blk_below (g := gb168) (o := .cells #[.bool x169000_85,.int .u64 x169001_85,.int .u64 x169002_85] 28 (0,0)) Z155 hb) (jA (blk_below (g := gb169) (o := .cells #[.bool x170000_85,.int .u64 x170001_85,.int .u64 x170002_85] 28 (0,0)) Z154 hb) (jA (blk_below (g := gb171) (o := .cells #[.bool x169000_85,.int .u64 (IntKind.u64.wrap ((IntKind.u64.wrap (x169001_85 - x170001_85)) - 1)),.int .u64 (IntKind.u64.wrap (x169002_85 - x170002_85))] 28 (0,0)) Z5 hb) (Aside0.mk (below_step Z35 hb)))))));clear BK160 BK161 BK162 BK168 BK169 BK171 HB;obtain ⟨BK160,BK161,BK162,BK168,BK169,BK171,HB⟩ := n_;(try clear hb);(try clear hb2);(try clear hk);(try clear hi);have hcz167_0 : w166.cell? ⟨gb171,0,none⟩ = some (.bool x169000_85) := (blk_cell BK171.out 0).trans rfl;have hcz167_1 : w166.cell? ⟨gb171,1,none⟩ = some (.int .u64 (IntKind.u64.wrap ((IntKind.u64.wrap (x169001_85 - x170001_85)) - 1))) := (blk_cell BK171.out 1).trans rfl;have hcz167_2 : w166.cell? ⟨gb171,2,none⟩ = some (.int .u64 (IntKind.u64.wrap (x169002_85 - x170002_85))) := (blk_cell BK171.out 2).trans rfl;have hzAhcz167 := (held_three hcz167_0 hcz167_1 hcz167_2).1;have hzBhcz167 := (held_three hcz167_0 hcz167_1 hcz167_2).2.1;have hzChcz167 := (held_three hcz167_0 hcz167_1 hcz167_2).2.2;have hfz167_0 := blk_frozen BK171.out 0;have hfz167_1 := blk_frozen BK171.out 1;have hfz167_2 := blk_frozen BK171.out 2;have hnb168 := NB162_160.out;have hnc168 := NB160_162.out;have hnb169 := NB162_161.out;have hnc169 := NB161_162.out;have hcz170_0 : w166.cell? ⟨gb162,0,none⟩ = some (.bool false) := (blk_cell BK162.out 0).trans rfl;have hcz170_1 : w166.cell? ⟨gb162,1,none⟩ = some (.int .u64 0) := (blk_cell BK162.out 1).trans rfl;have hcz170_2 : w166.cell? ⟨gb162,2,none⟩ = some (.int .u64 0) := (blk_cell BK162.out 2).trans rfl;have hzAhcz170 := (held_three hcz170_0 hcz170_1 hcz170_2).1;have hzBhcz170 := (held_three hcz170_0 hcz170_1 hcz170_2).2.1;have hzChcz170 := (held_three hcz170_0 hcz170_1 hcz170_2).2.2;have hfz170_0 := blk_frozen BK162.out 0;have hfz170_1 := blk_frozen BK162.out 1;have hfz170_2 := blk_frozen BK162.out 2))
                  refine bodyPost_ret (results_ct rfl _ _ gb162 28 #[.bool x169000_85,.int .u64 (IntKind.u64.wrap ((IntKind.u64.wrap (x169001_85 - x170001_85)) - 1)),.int .u64 (IntKind.u64.wrap (x169002_85 - x170002_85))] (0,0) _ rfl (by refine bP ?_;refine blk_put (cs := #[.bool x169000_85,.int .u64 (IntKind.u64.wrap ((IntKind.u64.wrap (x169001_85 - x170001_85)) - 1)),.int .u64 0]) ?_ 2 _ rfl;refine bP ?_;refine blk_put (cs := #[.bool x169000_85,.int .u64 0,.int .u64 0]) ?_ 1 _ rfl;refine bP ?_;refine blk_put (cs := #[.bool false,.int .u64 0,.int .u64 0]) ?_ 0 _ rfl;refine bP ?_;exact BK162.out) Try.underlying28 rfl Z580) rfl ?_
                  exact ⟨Z400,Z35⟩
              · rw [if_neg c122] at H
                have c122b0 : decide (x169002_85 < x170002_85) = false := decide_eq_false c122
                clear c122
                obtain ⟨t173,A1710,H⟩ := Option.bind_eq_some_iff.mp H
                have A171 := Aside0.mk A1710
                clear A1710
                by_cases c172 : t173 = true
                · subst c172
                  have H1 : (some (false,IntKind.u64.wrap (x169001_85 - x170001_85),IntKind.u64.wrap (x169002_85 - x170002_85),true)) = some (r1,r2,r3,r4) := by rw [if_pos rfl] at H;exact H
                  clear H
                  have H := H1
                  clear H1
                  simp only [Option.some.injEq,Prod.mk.injEq] at H
                  obtain ⟨rfl,rfl,rfl,rfl⟩ := H
                  have hnb173 := NB168_160.out
                  have hnc173 := NB160_168.out
                  have hnb174 := NB168_161.out
                  have hnc174 := NB161_168.out
                  have hnb175 := NB168_162.out
                  have hnc175 := NB162_168.out
                  have hnb176 := NB168_169.out
                  have hnc176 := NB169_168.out
                  have hcz177_0 : wc.cell? ⟨gb168,0,none⟩ = some (.bool x169000_85) := (blk_cell BK168.out 0).trans rfl
                  have hcz177_1 : wc.cell? ⟨gb168,1,none⟩ = some (.int .u64 x169001_85) := (blk_cell BK168.out 1).trans rfl
                  have hcz177_2 : wc.cell? ⟨gb168,2,none⟩ = some (.int .u64 x169002_85) := (blk_cell BK168.out 2).trans rfl
                  have hzAhcz177 := (held_three hcz177_0 hcz177_1 hcz177_2).1
                  have hzBhcz177 := (held_three hcz177_0 hcz177_1 hcz177_2).2.1
                  have hzChcz177 := (held_three hcz177_0 hcz177_1 hcz177_2).2.2
                  have hfz177_0 := blk_frozen BK168.out 0
                  have hfz177_1 := blk_frozen BK168.out 1
                  have hfz177_2 := blk_frozen BK168.out 2
                  have hnb178 := NB169_160.out
                  have hnc178 := NB160_169.out
                  have hnb179 := NB169_161.out
                  have hnc179 := NB161_169.out
                  have hnb180 := NB169_162.out
                  have hnc180 := NB162_169.out
                  have hcz181_0 : wc.cell? ⟨gb169,0,none⟩ = some (.bool x170000_85) := (blk_cell BK169.out 0).trans rfl
                  have hcz181_1 : wc.cell? ⟨gb169,1,none⟩ = some (.int .u64 x170001_85) := (blk_cell BK169.out 1).trans rfl
                  have hcz181_2 : wc.cell? ⟨gb169,2,none⟩ = some (.int .u64 x170002_85) := (blk_cell BK169.out 2).trans rfl
                  have hzAhcz181 := (held_three hcz181_0 hcz181_1 hcz181_2).1
                  have hzBhcz181 := (held_three hcz181_0 hcz181_1 hcz181_2).2.1
                  have hzChcz181 := (held_three hcz181_0 hcz181_1 hcz181_2).2.2
                  have hfz181_0 := blk_frozen BK169.out 0
                  have hfz181_1 := blk_frozen BK169.out 1
                  have hfz181_2 := blk_frozen BK169.out 2
                  go_wp2_with (first | ((with_reducible refine gate_dst (N := 9) rfl ?_);refine box_event ?hg (N := 9) ?hd (cs := #[.bool false,.int .u64 0,.int .u64 0]) (t := 28) ?hr ?_;(case hd => rfl);(case hg => rfl);(case hr => exact Z515);intro gb171 hg w182 hbox hb;have n_ := jA (blk_below (g := gb160) (o := .cells #[.bool a0_0,.int .u64 a0_1,.int .u64 a0_2] 28 (0,0)) Z523 hb) (jA (blk_below (g := gb161) (o := .cells #[.bool a1_0,.int .u64 a1_1,.int .u64 a1_2] 28 (0,0)) Z524 hb) (jA (blk_below (g := gb162) (o := .cells #[.bool false,.int .u64 0,.int .u64 0] 28 (0,0)) Z526 hb) (jA (blk_below (g := gb168) (o := .cells #[.bool x169000_85,.int .u64 x169001_85,.int .u64 x169002_85] 28 (0,0)) Z557 hb) (jA (blk_below (g := gb169) (o := .cells #[.bool x170000_85,.int .u64 x170001_85,.int .u64 x170002_85] 28 (0,0)) Z556 hb) (jA (below_step Z403 hb) (jA (hbox) (jA ((Z36 : w.heap.size ≤ gb171)) (jA ((Z36 : w.heap.size ≤ gb171)) (jA ((Z329 : gb160 ≠ gb171)) (jA ((Z330 : gb171 ≠ gb160)) (jA ((Z331 : gb161 ≠ gb171)) (jA ((Z332 : gb171 ≠ gb161)) (jA ((Z353 : gb162 ≠ gb171)) (jA ((Z354 : gb171 ≠ gb162)) (jA ((Z267 : gb168 ≠ gb171)) (jA ((Z269 : gb171 ≠ gb168)) (jA ((Z266 : gb169 ≠ gb171)) (Aside0.mk ((Z268 : gb171 ≠ gb169))))))))))))))))))));clear BK160 BK161 BK162 BK168 BK169 HB;obtain ⟨BK160,BK161,BK162,BK168,BK169,HB,BK171,GW171,GE171,NB160_171,NB171_160,NB161_171,NB171_161,NB162_171,NB171_162,NB168_171,NB171_168,NB169_171,NB171_169⟩ := n_;clear hb hbox hg;have hnb183 := NB171_160.out;have hnc183 := NB160_171.out;have hnb184 := NB171_161.out;have hnc184 := NB161_171.out;have hnb185 := NB171_162.out;have hnc185 := NB162_171.out;have hnb186 := NB171_168.out;have hnc186 := NB168_171.out;have hnb187 := NB171_169.out;have hnc187 := NB169_171.out;have hcz188_0 : w182.cell? ⟨gb171,0,none⟩ = some (.bool false) := (blk_cell BK171.out 0).trans rfl;have hcz188_1 : w182.cell? ⟨gb171,1,none⟩ = some (.int .u64 0) := (blk_cell BK171.out 1).trans rfl;have hcz188_2 : w182.cell? ⟨gb171,2,none⟩ = some (.int .u64 0) := (blk_cell BK171.out 2).trans rfl;have hzAhcz188 := (held_three hcz188_0 hcz188_1 hcz188_2).1;have hzBhcz188 := (held_three hcz188_0 hcz188_1 hcz188_2).2.1;have hzChcz188 := (held_three hcz188_0 hcz188_1 hcz188_2).2.2;have hfz188_0 := blk_frozen BK171.out 0;have hfz188_1 := blk_frozen BK171.out 1;have hfz188_2 := blk_frozen BK171.out 2;have hcz189_0 : w182.cell? ⟨gb168,0,none⟩ = some (.bool x169000_85) := (blk_cell BK168.out 0).trans rfl;have hcz189_1 : w182.cell? ⟨gb168,1,none⟩ = some (.int .u64 x169001_85) := (blk_cell BK168.out 1).trans rfl;have hcz189_2 : w182.cell? ⟨gb168,2,none⟩ = some (.int .u64 x169002_85) := (blk_cell BK168.out 2).trans rfl;have hzAhcz189 := (held_three hcz189_0 hcz189_1 hcz189_2).1;have hzBhcz189 := (held_three hcz189_0 hcz189_1 hcz189_2).2.1;have hzChcz189 := (held_three hcz189_0 hcz189_1 hcz189_2).2.2;have hfz189_0 := blk_frozen BK168.out 0;have hfz189_1 := blk_frozen BK168.out 1;have hfz189_2 := blk_frozen BK168.out 2;have hcz190_0 : w182.cell? ⟨gb169,0,none⟩ = some (.bool x170000_85) := (blk_cell BK169.out 0).trans rfl;have hcz190_1 : w182.cell? ⟨gb169,1,none⟩ = some (.int .u64 x170001_85) := (blk_cell BK169.out 1).trans rfl;have hcz190_2 : w182.cell? ⟨gb169,2,none⟩ = some (.int .u64 x170002_85) := (blk_cell BK169.out 2).trans rfl;have hzAhcz190 := (held_three hcz190_0 hcz190_1 hcz190_2).1;have hzBhcz190 := (held_three hcz190_0 hcz190_1 hcz190_2).2.1;have hzChcz190 := (held_three hcz190_0 hcz190_1 hcz190_2).2.2;have hfz190_0 := blk_frozen BK169.out 0;have hfz190_1 := blk_frozen BK169.out 1;have hfz190_2 := blk_frozen BK169.out 2) | ((with_reducible refine gate_callee (f := 67) rfl ?_);refine goesL_ (some 82) rfl rfl Try.func67 Z580 rfl #[.agg #[.bool x169000_85,.int .u64 (IntKind.u64.wrap (x169001_85 - x170001_85)),.int .u64 (IntKind.u64.wrap (x169002_85 - x170002_85))]] rfl Z395 ?_;(with_reducible refine (spec_l3Zero.calls x169000_85 (IntKind.u64.wrap (x169001_85 - x170001_85)) (IntKind.u64.wrap (x169002_85 - x170002_85)) true _ A171.out).mono ?_);rintro e w191 ⟨rfl,hb⟩;refine ⟨_,rfl,?_⟩;have n_ := jA (blk_below (g := gb160) (o := .cells #[.bool a0_0,.int .u64 a0_1,.int .u64 a0_2] 28 (0,0)) Z250 hb) (jA (blk_below (g := gb161) (o := .cells #[.bool a1_0,.int .u64 a1_1,.int .u64 a1_2] 28 (0,0)) Z248 hb) (jA (blk_below (g := gb162) (o := .cells #[.bool false,.int .u64 0,.int .u64 0] 28 (0,0)) Z246 hb) (jA (blk_below (g := gb168) (o := .cells #[.bool x169000_85,.int .u64 x169001_85,.int .u64 x169002_85] 28 (0,0)) Z245 hb) (jA (blk_below (g := gb169) (o := .cells #[.bool x170000_85,.int .u64 x170001_85,.int .u64 x170002_85] 28 (0,0)) Z244 hb) (jA (blk_below (g := gb171) (o := .cells #[.bool x169000_85,.int .u64 (IntKind.u64.wrap (x169001_85 - x170001_85)),.int .u64 (IntKind.u64.wrap (x169002_85 - x170002_85))] 28 (0,0)) Z33 hb) (Aside0.mk (below_step Z35 hb)))))));clear BK160 BK161 BK162 BK168 BK169 BK171 HB;obtain ⟨BK160,BK161,BK162,BK168,BK169,BK171,HB⟩ := n_;(try clear hb);(try clear hb2);(try clear hk);(try clear hi);have hcz192_0 : w191.cell? ⟨gb171,0,none⟩ = some (.bool x169000_85) := (blk_cell BK171.out 0).trans rfl;have hcz192_1 : w191.cell? ⟨gb171,1,none⟩ = some (.int .u64 (IntKind.u64.wrap (x169001_85 - x170001_85))) := (blk_cell BK171.out 1).trans rfl;have hcz192_2 : w191.cell? ⟨gb171,2,none⟩ = some (.int .u64 (IntKind.u64.wrap (x169002_85 - x170002_85))) := (blk_cell BK171.out 2).trans rfl;have hzAhcz192 := (held_three hcz192_0 hcz192_1 hcz192_2).1;have hzBhcz192 := (held_three hcz192_0 hcz192_1 hcz192_2).2.1;have hzChcz192 := (held_three hcz192_0 hcz192_1 hcz192_2).2.2;have hfz192_0 := blk_frozen BK171.out 0;have hfz192_1 := blk_frozen BK171.out 1;have hfz192_2 := blk_frozen BK171.out 2;have hnb193 := NB162_160.out;have hnc193 := NB160_162.out;have hnb194 := NB162_161.out;have hnc194 := NB161_162.out;have hcz195_0 : w191.cell? ⟨gb162,0,none⟩ = some (.bool false) := (blk_cell BK162.out 0).trans rfl;have hcz195_1 : w191.cell? ⟨gb162,1,none⟩ = some (.int .u64 0) := (blk_cell BK162.out 1).trans rfl;have hcz195_2 : w191.cell? ⟨gb162,2,none⟩ = some (.int .u64 0) := (blk_cell BK162.out 2).trans rfl;have hzAhcz195 := (held_three hcz195_0 hcz195_1 hcz195_2).1;have hzBhcz195 := (held_three hcz195_0 hcz195_1 hcz195_2).2.1;have hzChcz195 := (held_three hcz195_0 hcz195_1 hcz195_2).2.2;have hfz195_0 := blk_frozen BK162.out 0;have hfz195_1 := blk_frozen BK162.out 1;have hfz195_2 := blk_frozen BK162.out 2))
                  refine bodyPost_ret (results_ct rfl _ _ gb162 28 #[.bool false,.int .u64 (IntKind.u64.wrap (x169001_85 - x170001_85)),.int .u64 (IntKind.u64.wrap (x169002_85 - x170002_85))] (0,0) _ rfl (by refine bP ?_;refine blk_put (cs := #[.bool false,.int .u64 (IntKind.u64.wrap (x169001_85 - x170001_85)),.int .u64 0]) ?_ 2 _ rfl;refine bP ?_;refine blk_put (cs := #[.bool false,.int .u64 0,.int .u64 0]) ?_ 1 _ rfl;refine bP ?_;refine blk_put (cs := #[.bool false,.int .u64 0,.int .u64 0]) ?_ 0 _ rfl;refine bP ?_;refine blk_far ?_ NB162_171.out _;refine bP ?_;exact BK162.out) Try.underlying28 rfl Z580) rfl ?_
                  exact ⟨Z400,Z35⟩
                · replace c172 := Bool.eq_false_iff.mpr c172
                  subst c172
                  have H1 : (some (x169000_85,IntKind.u64.wrap (x169001_85 - x170001_85),IntKind.u64.wrap (x169002_85 - x170002_85),true)) = some (r1,r2,r3,r4) := by rw [if_neg (show ¬ (false = true) by decide)] at H;exact H
                  clear H
                  have H := H1
                  clear H1
                  simp only [Option.some.injEq,Prod.mk.injEq] at H
                  obtain ⟨rfl,rfl,rfl,rfl⟩ := H
                  have hnb196 := NB168_160.out
                  have hnc196 := NB160_168.out
                  have hnb197 := NB168_161.out
                  have hnc197 := NB161_168.out
                  have hnb198 := NB168_162.out
                  have hnc198 := NB162_168.out
                  have hnb199 := NB168_169.out
                  have hnc199 := NB169_168.out
                  have hcz200_0 : wc.cell? ⟨gb168,0,none⟩ = some (.bool x169000_85) := (blk_cell BK168.out 0).trans rfl
                  have hcz200_1 : wc.cell? ⟨gb168,1,none⟩ = some (.int .u64 x169001_85) := (blk_cell BK168.out 1).trans rfl
                  have hcz200_2 : wc.cell? ⟨gb168,2,none⟩ = some (.int .u64 x169002_85) := (blk_cell BK168.out 2).trans rfl
                  have hzAhcz200 := (held_three hcz200_0 hcz200_1 hcz200_2).1
                  have hzBhcz200 := (held_three hcz200_0 hcz200_1 hcz200_2).2.1
                  have hzChcz200 := (held_three hcz200_0 hcz200_1 hcz200_2).2.2
                  have hfz200_0 := blk_frozen BK168.out 0
                  have hfz200_1 := blk_frozen BK168.out 1
                  have hfz200_2 := blk_frozen BK168.out 2
                  have hnb201 := NB169_160.out
                  have hnc201 := NB160_169.out
                  have hnb202 := NB169_161.out
                  have hnc202 := NB161_169.out
                  have hnb203 := NB169_162.out
                  have hnc203 := NB162_169.out
                  have hcz204_0 : wc.cell? ⟨gb169,0,none⟩ = some (.bool x170000_85) := (blk_cell BK169.out 0).trans rfl
                  have hcz204_1 : wc.cell? ⟨gb169,1,none⟩ = some (.int .u64 x170001_85) := (blk_cell BK169.out 1).trans rfl
                  have hcz204_2 : wc.cell? ⟨gb169,2,none⟩ = some (.int .u64 x170002_85) := (blk_cell BK169.out 2).trans rfl
                  have hzAhcz204 := (held_three hcz204_0 hcz204_1 hcz204_2).1
                  have hzBhcz204 := (held_three hcz204_0 hcz204_1 hcz204_2).2.1
                  have hzChcz204 := (held_three hcz204_0 hcz204_1 hcz204_2).2.2
                  have hfz204_0 := blk_frozen BK169.out 0
                  have hfz204_1 := blk_frozen BK169.out 1
                  have hfz204_2 := blk_frozen BK169.out 2
                  go_wp2_with (first | ((with_reducible refine gate_dst (N := 9) rfl ?_);refine box_event ?hg (N := 9) ?hd (cs := #[.bool false,.int .u64 0,.int .u64 0]) (t := 28) ?hr ?_;(case hd => rfl);(case hg => rfl);(case hr => exact Z515);intro gb171 hg w205 hbox hb;have n_ := jA (blk_below (g := gb160) (o := .cells #[.bool a0_0,.int .u64 a0_1,.int .u64 a0_2] 28 (0,0)) Z523 hb) (jA (blk_below (g := gb161) (o := .cells #[.bool a1_0,.int .u64 a1_1,.int .u64 a1_2] 28 (0,0)) Z524 hb) (jA (blk_below (g := gb162) (o := .cells #[.bool false,.int .u64 0,.int .u64 0] 28 (0,0)) Z526 hb) (jA (blk_below (g := gb168) (o := .cells #[.bool x169000_85,.int .u64 x169001_85,.int .u64 x169002_85] 28 (0,0)) Z557 hb) (jA (blk_below (g := gb169) (o := .cells #[.bool x170000_85,.int .u64 x170001_85,.int .u64 x170002_85] 28 (0,0)) Z556 hb) (jA (below_step Z403 hb) (jA (hbox) (jA ((Z36 : w.heap.size ≤ gb171)) (jA ((Z36 : w.heap.size ≤ gb171)) (jA ((Z329 : gb160 ≠ gb171)) (jA ((Z330 : gb171 ≠ gb160)) (jA ((Z331 : gb161 ≠ gb171)) (jA ((Z332 : gb171 ≠ gb161)) (jA ((Z353 : gb162 ≠ gb171)) (jA ((Z354 : gb171 ≠ gb162)) (jA ((Z267 : gb168 ≠ gb171)) (jA ((Z269 : gb171 ≠ gb168)) (jA ((Z266 : gb169 ≠ gb171)) (Aside0.mk ((Z268 : gb171 ≠ gb169))))))))))))))))))));clear BK160 BK161 BK162 BK168 BK169 HB;obtain ⟨BK160,BK161,BK162,BK168,BK169,HB,BK171,GW171,GE171,NB160_171,NB171_160,NB161_171,NB171_161,NB162_171,NB171_162,NB168_171,NB171_168,NB169_171,NB171_169⟩ := n_;clear hb hbox hg;have hnb206 := NB171_160.out;have hnc206 := NB160_171.out;have hnb207 := NB171_161.out;have hnc207 := NB161_171.out;have hnb208 := NB171_162.out;have hnc208 := NB162_171.out;have hnb209 := NB171_168.out;have hnc209 := NB168_171.out;have hnb210 := NB171_169.out;have hnc210 := NB169_171.out;have hcz211_0 : w205.cell? ⟨gb171,0,none⟩ = some (.bool false) := (blk_cell BK171.out 0).trans rfl;have hcz211_1 : w205.cell? ⟨gb171,1,none⟩ = some (.int .u64 0) := (blk_cell BK171.out 1).trans rfl;have hcz211_2 : w205.cell? ⟨gb171,2,none⟩ = some (.int .u64 0) := (blk_cell BK171.out 2).trans rfl;have hzAhcz211 := (held_three hcz211_0 hcz211_1 hcz211_2).1;have hzBhcz211 := (held_three hcz211_0 hcz211_1 hcz211_2).2.1;have hzChcz211 := (held_three hcz211_0 hcz211_1 hcz211_2).2.2;have hfz211_0 := blk_frozen BK171.out 0;have hfz211_1 := blk_frozen BK171.out 1;have hfz211_2 := blk_frozen BK171.out 2;have hcz212_0 : w205.cell? ⟨gb168,0,none⟩ = some (.bool x169000_85) := (blk_cell BK168.out 0).trans rfl;have hcz212_1 : w205.cell? ⟨gb168,1,none⟩ = some (.int .u64 x169001_85) := (blk_cell BK168.out 1).trans rfl;have hcz212_2 : w205.cell? ⟨gb168,2,none⟩ = some (.int .u64 x169002_85) := (blk_cell BK168.out 2).trans rfl;have hzAhcz212 := (held_three hcz212_0 hcz212_1 hcz212_2).1;have hzBhcz212 := (held_three hcz212_0 hcz212_1 hcz212_2).2.1;have hzChcz212 := (held_three hcz212_0 hcz212_1 hcz212_2).2.2;have hfz212_0 := blk_frozen BK168.out 0;have hfz212_1 := blk_frozen BK168.out 1;have hfz212_2 := blk_frozen BK168.out 2;have hcz213_0 : w205.cell? ⟨gb169,0,none⟩ = some (.bool x170000_85) := (blk_cell BK169.out 0).trans rfl;have hcz213_1 : w205.cell? ⟨gb169,1,none⟩ = some (.int .u64 x170001_85) := (blk_cell BK169.out 1).trans rfl;have hcz213_2 : w205.cell? ⟨gb169,2,none⟩ = some (.int .u64 x170002_85) := (blk_cell BK169.out 2).trans rfl;have hzAhcz213 := (held_three hcz213_0 hcz213_1 hcz213_2).1;have hzBhcz213 := (held_three hcz213_0 hcz213_1 hcz213_2).2.1;have hzChcz213 := (held_three hcz213_0 hcz213_1 hcz213_2).2.2;have hfz213_0 := blk_frozen BK169.out 0;have hfz213_1 := blk_frozen BK169.out 1;have hfz213_2 := blk_frozen BK169.out 2) | ((with_reducible refine gate_callee (f := 67) rfl ?_);refine goesL_ (some 82) rfl rfl Try.func67 Z580 rfl #[.agg #[.bool x169000_85,.int .u64 (IntKind.u64.wrap (x169001_85 - x170001_85)),.int .u64 (IntKind.u64.wrap (x169002_85 - x170002_85))]] rfl Z395 ?_;(with_reducible refine (spec_l3Zero.calls x169000_85 (IntKind.u64.wrap (x169001_85 - x170001_85)) (IntKind.u64.wrap (x169002_85 - x170002_85)) false _ A171.out).mono ?_);rintro e w214 ⟨rfl,hb⟩;refine ⟨_,rfl,?_⟩;have n_ := jA (blk_below (g := gb160) (o := .cells #[.bool a0_0,.int .u64 a0_1,.int .u64 a0_2] 28 (0,0)) Z250 hb) (jA (blk_below (g := gb161) (o := .cells #[.bool a1_0,.int .u64 a1_1,.int .u64 a1_2] 28 (0,0)) Z248 hb) (jA (blk_below (g := gb162) (o := .cells #[.bool false,.int .u64 0,.int .u64 0] 28 (0,0)) Z246 hb) (jA (blk_below (g := gb168) (o := .cells #[.bool x169000_85,.int .u64 x169001_85,.int .u64 x169002_85] 28 (0,0)) Z245 hb) (jA (blk_below (g := gb169) (o := .cells #[.bool x170000_85,.int .u64 x170001_85,.int .u64 x170002_85] 28 (0,0)) Z244 hb) (jA (blk_below (g := gb171) (o := .cells #[.bool x169000_85,.int .u64 (IntKind.u64.wrap (x169001_85 - x170001_85)),.int .u64 (IntKind.u64.wrap (x169002_85 - x170002_85))] 28 (0,0)) Z33 hb) (Aside0.mk (below_step Z35 hb)))))));clear BK160 BK161 BK162 BK168 BK169 BK171 HB;obtain ⟨BK160,BK161,BK162,BK168,BK169,BK171,HB⟩ := n_;(try clear hb);(try clear hb2);(try clear hk);(try clear hi);have hcz215_0 : w214.cell? ⟨gb171,0,none⟩ = some (.bool x169000_85) := (blk_cell BK171.out 0).trans rfl;have hcz215_1 : w214.cell? ⟨gb171,1,none⟩ = some (.int .u64 (IntKind.u64.wrap (x169001_85 - x170001_85))) := (blk_cell BK171.out 1).trans rfl;have hcz215_2 : w214.cell? ⟨gb171,2,none⟩ = some (.int .u64 (IntKind.u64.wrap (x169002_85 - x170002_85))) := (blk_cell BK171.out 2).trans rfl;have hzAhcz215 := (held_three hcz215_0 hcz215_1 hcz215_2).1;have hzBhcz215 := (held_three hcz215_0 hcz215_1 hcz215_2).2.1;have hzChcz215 := (held_three hcz215_0 hcz215_1 hcz215_2).2.2;have hfz215_0 := blk_frozen BK171.out 0;have hfz215_1 := blk_frozen BK171.out 1;have hfz215_2 := blk_frozen BK171.out 2;have hnb216 := NB162_160.out;have hnc216 := NB160_162.out;have hnb217 := NB162_161.out;have hnc217 := NB161_162.out;have hcz218_0 : w214.cell? ⟨gb162,0,none⟩ = some (.bool false) := (blk_cell BK162.out 0).trans rfl;have hcz218_1 : w214.cell? ⟨gb162,1,none⟩ = some (.int .u64 0) := (blk_cell BK162.out 1).trans rfl;have hcz218_2 : w214.cell? ⟨gb162,2,none⟩ = some (.int .u64 0) := (blk_cell BK162.out 2).trans rfl;have hzAhcz218 := (held_three hcz218_0 hcz218_1 hcz218_2).1;have hzBhcz218 := (held_three hcz218_0 hcz218_1 hcz218_2).2.1;have hzChcz218 := (held_three hcz218_0 hcz218_1 hcz218_2).2.2;have hfz218_0 := blk_frozen BK162.out 0;have hfz218_1 := blk_frozen BK162.out 1;have hfz218_2 := blk_frozen BK162.out 2))
                  refine bodyPost_ret (results_ct rfl _ _ gb162 28 #[.bool x169000_85,.int .u64 (IntKind.u64.wrap (x169001_85 - x170001_85)),.int .u64 (IntKind.u64.wrap (x169002_85 - x170002_85))] (0,0) _ rfl (by refine bP ?_;refine blk_put (cs := #[.bool x169000_85,.int .u64 (IntKind.u64.wrap (x169001_85 - x170001_85)),.int .u64 0]) ?_ 2 _ rfl;refine bP ?_;refine blk_put (cs := #[.bool x169000_85,.int .u64 0,.int .u64 0]) ?_ 1 _ rfl;refine bP ?_;refine blk_put (cs := #[.bool false,.int .u64 0,.int .u64 0]) ?_ 0 _ rfl;refine bP ?_;exact BK162.out) Try.underlying28 rfl Z580) rfl ?_
                  exact ⟨Z400,Z35⟩

end Go.Proofs.Ytjcjehnjbgklbaa.QFnImproves
