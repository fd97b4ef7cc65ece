/- The machine side of FnExactMayPart: what each Go function that it reaches comes to. Conditions: none. -/
import Derived.Test.YtaepeajaefpooaaQFnExactMayPartx0
import Derived.Test.YtaepeajaefpooaaQFnExactMayPartx3
import Derived.Test.YtaepeajaefpooaaQFnExactMayPartx5
namespace Go.Proofs.Ytaepeajaefpooaa.QFnExactMayPart
open Go.RowKit Go.Proofs.YtaepeajaefpooaaW.PrintWords Go.Proofs.YtaepeajaefpooaaW.PrintLast Go.Proofs.YtaepeajaefpooaaW.PrintMore
attribute [local go_sem] max2_int min2_int max_two min_two max_three min_three max_four min_four   -- for this text's walks alone
set_option linter.unusedVariables false
set_option linter.unusedSimpArgs false

/-! ### spec_AddWide: function 140 -/
theorem cell_held {w : World} {p : Addr} {v : Value} (y : Value) (h : w.cell? p = some v) : (w.setCell p y).cell? p = some y := by simp [go_sem,h]
theorem held_three {w : World} {g : Nat} {a b c : Value} (h0 : w.cell? ⟨g,0,none⟩ = some a) (h1 : w.cell? ⟨g,1,none⟩ = some b) (h2 : w.cell? ⟨g,2,none⟩ = some c) :
  (∀ x y z u : Value,((((w.setCell ⟨g,0,none⟩ x).setCell ⟨g,1,none⟩ y).setCell ⟨g,2,none⟩ z).setCell ⟨g,1,none⟩ u).cell? ⟨g,1,none⟩ = some u) ∧
  (∀ x y z v : Value,((((w.setCell ⟨g,0,none⟩ x).setCell ⟨g,1,none⟩ y).setCell ⟨g,2,none⟩ z).setCell ⟨g,0,none⟩ v).cell? ⟨g,0,none⟩ = some v) ∧
  (∀ x y z u v : Value,(((((w.setCell ⟨g,0,none⟩ x).setCell ⟨g,1,none⟩ y).setCell ⟨g,2,none⟩ z).setCell ⟨g,1,none⟩ u).setCell ⟨g,0,none⟩ v).cell? ⟨g,0,none⟩ = some v) := by
 refine ⟨fun x y z u => cell_held (v := y) u Z309,fun x y z v => cell_held (v := x) v Z309,fun x y z u v => cell_held (v := x) v Z309⟩
mutual
def spec_AddWide.j0 : Nat → Bool → Bool → Int → Int → Bool → Int → Int → Option (Bool × Int × Int × Bool)
 | 0,_,_,_,_,_,_,_ => none
 | k + 1,x17,x223000,x223001,x223002,x224000,x224001,x224002 => if x17 = true then (some (false,0,0,false)) else (if (x223000 == x224000) = true then (if (IntKind.u64.wrap (x223002 + x224002)) < x223002 then ((spec_WideOk.f x223000 (IntKind.u64.wrap ((IntKind.u64.wrap (x223001 + x224001)) + 1)) (IntKind.u64.wrap (x223002 + x224002))).bind fun t228 => (if t228 = true then (some (x223000,IntKind.u64.wrap ((IntKind.u64.wrap (x223001 + x224001)) + 1),IntKind.u64.wrap (x223002 + x224002),true)) else (some (false,0,0,false)))) else ((spec_WideOk.f x223000 (IntKind.u64.wrap (x223001 + x224001)) (IntKind.u64.wrap (x223002 + x224002))).bind fun t229 => (if t229 = true then (some (x223000,IntKind.u64.wrap (x223001 + x224001),IntKind.u64.wrap (x223002 + x224002),true)) else (some (false,0,0,false))))) else ((spec_l3Order.f k x223000 x223001 x223002 x224000 x224001 x224002).bind fun t232 => (if t232 < 0 then (spec_AddWide.j1 k x224000 x224001 x224002 x223000 x223001 x223002) else (spec_AddWide.j1 k x223000 x223001 x223002 x224000 x224001 x224002))))
def spec_AddWide.j1 : Nat → Bool → Int → Int → Bool → Int → Int → Option (Bool × Int × Int × Bool)
 | 0,_,_,_,_,_,_ => none
 | k + 1,x231000,x231001,x231002,x232000,x232001,x232002 => if x231002 < x232002 then ((spec_l3Zero.f x231000 (IntKind.u64.wrap ((IntKind.u64.wrap (x231001 - x232001)) - 1)) (IntKind.u64.wrap (x231002 - x232002))).bind fun t234 => (if t234 = true then (some (false,IntKind.u64.wrap ((IntKind.u64.wrap (x231001 - x232001)) - 1),IntKind.u64.wrap (x231002 - x232002),true)) else (some (x231000,IntKind.u64.wrap ((IntKind.u64.wrap (x231001 - x232001)) - 1),IntKind.u64.wrap (x231002 - x232002),true)))) else ((spec_l3Zero.f x231000 (IntKind.u64.wrap (x231001 - x232001)) (IntKind.u64.wrap (x231002 - x232002))).bind fun t235 => (if t235 = true then (some (false,IntKind.u64.wrap (x231001 - x232001),IntKind.u64.wrap (x231002 - x232002),true)) else (some (x231000,IntKind.u64.wrap (x231001 - x232001),IntKind.u64.wrap (x231002 - x232002),true))))
end
def spec_AddWide.f (k : Nat) (a0_0 : Bool) (a0_1 : Int) (a0_2 : Int) (a1_0 : Bool) (a1_1 : Int) (a1_2 : Int) : Option (Bool × Int × Int × Bool) := (spec_WideOk.f a0_0 a0_1 a0_2).bind fun t225 => (if t225 = true then ((spec_WideOk.f a1_0 a1_1 a1_2).bind fun t226 => (spec_AddWide.j0 k (!t226) a0_0 a0_1 a0_2 a1_0 a1_1 a1_2)) else (spec_AddWide.j0 k true a0_0 a0_1 a0_2 a1_0 a1_1 a1_2))
theorem spec_AddWide.mono_l : ∀ k,(∀ y0 y1 y2 y3 y4 y5 y6,LeO (spec_AddWide.j0 k y0 y1 y2 y3 y4 y5 y6) (spec_AddWide.j0 (k + 1) y0 y1 y2 y3 y4 y5 y6)) ∧ (∀ y0 y1 y2 y3 y4 y5,LeO (spec_AddWide.j1 k y0 y1 y2 y3 y4 y5) (spec_AddWide.j1 (k + 1) y0 y1 y2 y3 y4 y5))
 | 0 => ⟨fun _ _ _ _ _ _ _ r h => by simp [spec_AddWide.j0] at h,fun _ _ _ _ _ _ r h => by simp [spec_AddWide.j1] at h⟩
 | k + 1 => by
  obtain ⟨ih0,ih1⟩ := spec_AddWide.mono_l k
  refine ⟨?_,?_⟩
  ·intro y0 y1 y2 y3 y4 y5 y6
   unfold spec_AddWide.j0
   repeat' first
   | (with_reducible exact ih0 _ _ _ _ _ _ _)
   | (with_reducible exact ih1 _ _ _ _ _ _)
   | (with_reducible exact spec_l3Order.mono _ _ _ _ _ _ _)
   | (with_reducible exact LeO.refl _)
   | (with_reducible exact LeO.none _)
   | (with_reducible refine LeO.ite ?_ ?_)
   | (with_reducible refine LeO.bind ?_ (fun _ => ?_))
   | exact ih0 _ _ _ _ _ _ _
   | exact ih1 _ _ _ _ _ _
   | exact spec_l3Order.mono _ _ _ _ _ _ _
   | exact LeO.none _
   | refine LeO.ite ?_ ?_
   | refine LeO.bind ?_ (fun _ => ?_)
  ·intro y0 y1 y2 y3 y4 y5
   unfold spec_AddWide.j1
   repeat' first
   | (with_reducible exact ih0 _ _ _ _ _ _ _)
   | (with_reducible exact ih1 _ _ _ _ _ _)
   | (with_reducible exact spec_l3Order.mono _ _ _ _ _ _ _)
   | (with_reducible exact LeO.refl _)
   | (with_reducible exact LeO.none _)
   | (with_reducible refine LeO.ite ?_ ?_)
   | (with_reducible refine LeO.bind ?_ (fun _ => ?_))
   | exact ih0 _ _ _ _ _ _ _
   | exact ih1 _ _ _ _ _ _
   | exact spec_l3Order.mono _ _ _ _ _ _ _
   | exact LeO.none _
   | refine LeO.ite ?_ ?_
   | refine LeO.bind ?_ (fun _ => ?_)
theorem spec_AddWide.mono : ∀ a0 a1 a2 a3 a4 a5 k,LeO (spec_AddWide.f k a0 a1 a2 a3 a4 a5) (spec_AddWide.f (k + 1) a0 a1 a2 a3 a4 a5) := by
 intro a0 a1 a2 a3 a4 a5 k
 obtain ⟨ih0,ih1⟩ := spec_AddWide.mono_l k
 unfold spec_AddWide.f
 repeat' first
   | (with_reducible exact ih0 _ _ _ _ _ _ _)
   | (with_reducible exact ih1 _ _ _ _ _ _)
   | (with_reducible exact spec_l3Order.mono _ _ _ _ _ _ _)
   | (with_reducible exact LeO.refl _)
   | (with_reducible exact LeO.none _)
   | (with_reducible refine LeO.ite ?_ ?_)
   | (with_reducible refine LeO.bind ?_ (fun _ => ?_))
   | exact ih0 _ _ _ _ _ _ _
   | exact ih1 _ _ _ _ _ _
   | exact spec_l3Order.mono _ _ _ _ _ _ _
   | exact LeO.none _
   | refine LeO.ite ?_ ?_
   | refine LeO.bind ?_ (fun _ => ?_)
set_option maxHeartbeats 8000000 in
set_option maxRecDepth 100000 in
theorem spec_AddWide.calls (k : Nat) (a0_0 : Bool) (a0_1 : Int) (a0_2 : Int) (a1_0 : Bool) (a1_1 : Int) (a1_2 : Int) (r1 : Bool) (r2 : Int) (r3 : Int) (r4 : Bool) (w : World) (h : spec_AddWide.f k a0_0 a0_1 a0_2 a1_0 a1_1 a1_2 = some (r1,r2,r3,r4)) :
  Calls Try.prog 140 #[.agg #[.bool a0_0,.int .u64 a0_1,.int .u64 a0_2],.agg #[.bool a1_0,.int .u64 a1_1,.int .u64 a1_2]] w fun e w' => e = .returned (.tuple #[.agg #[.bool r1,.int .u64 r2,.int .u64 r3],.bool r4]) ∧ Below w.heap.size w w' := by
 have hu100 := Try.underlying100
 have HB := Aside0.mk (Below.refl w.heap.size w)
 have H := h
 clear h
 unfold spec_AddWide.f at H
 have HC3 := Aside0.mk H
 clear H
 go_enter Try.func140,Try.ntmps140
 go_upto_region 1 with (first | ((with_reducible refine gate_dst (N := 2) rfl ?_);refine bE 2 #[.bool a0_0,.int .u64 a0_1,.int .u64 a0_2] 100 (h := ?_);intro gb222 hg w4 hbox hb;have n_ := jA (below_step Z614 hb) (jA (hbox) (jA ((Z456 : w.heap.size ≤ gb222)) (Aside0.mk ((Z456 : w.heap.size ≤ gb222)))));clear HB;obtain ⟨HB,BK222,GW222,GE222⟩ := n_;clear hb hbox hg) | ((with_reducible refine gate_dst (N := 3) rfl ?_);refine bE 3 #[.bool a1_0,.int .u64 a1_1,.int .u64 a1_2] 100 (h := ?_);intro gb223 hg w5 hbox hb;have n_ := jA (blk_below (g := gb222) (o := .cells #[.bool a0_0,.int .u64 a0_1,.int .u64 a0_2] 100 (0,0)) Z617 hb) (jA (below_step Z472 hb) (jA (hbox) (jA ((Z215 : w.heap.size ≤ gb223)) (jA ((Z215 : w.heap.size ≤ gb223)) (jA ((Z486 : gb222 ≠ gb223)) (Aside0.mk ((Z487 : gb223 ≠ gb222))))))));clear BK222 HB;obtain ⟨BK222,HB,BK223,GW223,GE223,NB222_223,NB223_222⟩ := n_;clear hb hbox hg) | ((with_reducible refine gate_dst (N := 4) rfl ?_);refine bE 4 #[.bool false,.int .u64 0,.int .u64 0] 100 (h := ?_);intro gb224 hg w6 hbox hb;have n_ := jA (blk_below (g := gb222) (o := .cells #[.bool a0_0,.int .u64 a0_1,.int .u64 a0_2] 100 (0,0)) Z617 hb) (jA (blk_below (g := gb223) (o := .cells #[.bool a1_0,.int .u64 a1_1,.int .u64 a1_2] 100 (0,0)) Z620 hb) (jA (below_step Z401 hb) (jA (hbox) (jA ((Z188 : w.heap.size ≤ gb224)) (jA ((Z188 : w.heap.size ≤ gb224)) (jA ((Z486 : gb222 ≠ gb224)) (jA ((Z487 : gb224 ≠ gb222)) (jA ((Z488 : gb223 ≠ gb224)) (Aside0.mk ((Z489 : gb224 ≠ gb223)))))))))));clear BK222 BK223 HB;obtain ⟨BK222,BK223,HB,BK224,GW224,GE224,NB222_224,NB224_222,NB223_224,NB224_223⟩ := n_;clear hb hbox hg))
 (try simp only [Act.put,List.setIfInBounds_toArray,List.set_cons_zero,List.set_cons_succ])
 go_cut [17] (fun v17 wc => ∃ (kq : Nat) (x17_2 : Bool),v17 = .bool x17_2 ∧ Aside0 (spec_AddWide.j0 kq x17_2 a0_0 a0_1 a0_2 a1_0 a1_1 a1_2 = some (r1,r2,r3,r4)) ∧ Aside0 (kq ≤ k) ∧ Aside0 (wc.heap[gb222]? = some (.cells #[.bool a0_0,.int .u64 a0_1,.int .u64 a0_2] 100 (0,0))) ∧ Aside0 (wc.heap[gb223]? = some (.cells #[.bool a1_0,.int .u64 a1_1,.int .u64 a1_2] 100 (0,0))) ∧ Aside0 (wc.heap[gb224]? = some (.cells #[.bool false,.int .u64 0,.int .u64 0] 100 (0,0))) ∧ Aside0 (Below w.heap.size w wc))
 case first =>
  have H := HC3.out
  clear HC3
  obtain ⟨t225,A70,H⟩ := Option.bind_eq_some_iff.mp H
  have A7 := Aside0.mk A70
  clear A70
  by_cases c8 : t225 = true
  ·subst c8
   rw [if_pos rfl] at H
   obtain ⟨t226,A90,H⟩ := Option.bind_eq_some_iff.mp H
   have A9 := Aside0.mk A90
   clear A90
   have H' := Aside0.mk H
   clear H
   have hnb10 := NB222_223.out
   have hnc10 := NB223_222.out
   have hnb11 := NB222_224.out
   have hnc11 := NB224_222.out
   have hcz12_0 : w6.cell? ⟨gb222,0,none⟩ = some (.bool a0_0) := (blk_cell BK222.out 0).trans rfl
   have hcz12_1 : w6.cell? ⟨gb222,1,none⟩ = some (.int .u64 a0_1) := (blk_cell BK222.out 1).trans rfl
   have hcz12_2 : w6.cell? ⟨gb222,2,none⟩ = some (.int .u64 a0_2) := (blk_cell BK222.out 2).trans rfl
   have hzAhcz12 := (held_three hcz12_0 hcz12_1 hcz12_2).1
   have hzBhcz12 := (held_three hcz12_0 hcz12_1 hcz12_2).2.1
   have hzChcz12 := (held_three hcz12_0 hcz12_1 hcz12_2).2.2
   have hfz12_0 := blk_frozen BK222.out 0
   have hfz12_1 := blk_frozen BK222.out 1
   have hfz12_2 := blk_frozen BK222.out 2
   go_wp2_with (first | ((with_reducible refine gate_callee (f := 158) rfl ?_);refine goesL_ (some 11) rfl rfl Try.func158 Z312 rfl #[.agg #[.bool a0_0,.int .u64 a0_1,.int .u64 a0_2]] rfl Z256 ?_;(with_reducible refine (spec_WideOk.calls a0_0 a0_1 a0_2 true _ A7.out).mono ?_);rintro e w13 ⟨rfl,hb⟩;refine ⟨_,rfl,?_⟩;have n_ := Z95;clear BK222 BK223 BK224 HB;obtain ⟨BK222,BK223,BK224,HB⟩ := n_;(try clear hb);(try clear hb2);(try clear hk);(try clear hi);have hnb14 := NB223_224.out;have hnc14 := NB224_223.out;have hcz15_0 : w13.cell? ⟨gb223,0,none⟩ = some (.bool a1_0) := (blk_cell BK223.out 0).trans rfl;have hcz15_1 : w13.cell? ⟨gb223,1,none⟩ = some (.int .u64 a1_1) := (blk_cell BK223.out 1).trans rfl;have hcz15_2 : w13.cell? ⟨gb223,2,none⟩ = some (.int .u64 a1_2) := (blk_cell BK223.out 2).trans rfl;have hzAhcz15 := (held_three hcz15_0 hcz15_1 hcz15_2).1;have hzBhcz15 := (held_three hcz15_0 hcz15_1 hcz15_2).2.1;have hzChcz15 := (held_three hcz15_0 hcz15_1 hcz15_2).2.2;have hfz15_0 := blk_frozen BK223.out 0;have hfz15_1 := blk_frozen BK223.out 1;have hfz15_2 := blk_frozen BK223.out 2) | (go_at_call 158;(with_reducible refine (spec_WideOk.calls a1_0 a1_1 a1_2 t226 _ A9.out).mono ?_);rintro e w16 ⟨rfl,hb⟩;have n_ := Z95;clear BK222 BK223 BK224 HB;obtain ⟨BK222,BK223,BK224,HB⟩ := n_;(try clear hb);(try clear hb2);(try clear hk);(try clear hi)))
   go_meet
   case rel => exact ⟨_,(!t226),Z289,H',⟨Z291⟩,⟨Z617⟩,⟨Z620⟩,⟨Z624⟩,⟨Z565⟩⟩
  ·replace c8 := Bool.eq_false_iff.mpr c8
   subst c8
   rw [if_neg Bool.false_ne_true] at H
   have H' := Aside0.mk H
   clear H
   have hnb17 := NB222_223.out
   have hnc17 := NB223_222.out
   have hnb18 := NB222_224.out
   have hnc18 := NB224_222.out
   have hcz19_0 : w6.cell? ⟨gb222,0,none⟩ = some (.bool a0_0) := (blk_cell BK222.out 0).trans rfl
   have hcz19_1 : w6.cell? ⟨gb222,1,none⟩ = some (.int .u64 a0_1) := (blk_cell BK222.out 1).trans rfl
   have hcz19_2 : w6.cell? ⟨gb222,2,none⟩ = some (.int .u64 a0_2) := (blk_cell BK222.out 2).trans rfl
   have hzAhcz19 := (held_three hcz19_0 hcz19_1 hcz19_2).1
   have hzBhcz19 := (held_three hcz19_0 hcz19_1 hcz19_2).2.1
   have hzChcz19 := (held_three hcz19_0 hcz19_1 hcz19_2).2.2
   have hfz19_0 := blk_frozen BK222.out 0
   have hfz19_1 := blk_frozen BK222.out 1
   have hfz19_2 := blk_frozen BK222.out 2
   go_wp2_with (first | ((with_reducible refine gate_callee (f := 158) rfl ?_);refine goesL_ (some 11) rfl rfl Try.func158 Z312 rfl #[.agg #[.bool a0_0,.int .u64 a0_1,.int .u64 a0_2]] rfl Z256 ?_;(with_reducible refine (spec_WideOk.calls a0_0 a0_1 a0_2 false _ A7.out).mono ?_);rintro e w20 ⟨rfl,hb⟩;refine ⟨_,rfl,?_⟩;have n_ := Z95;clear BK222 BK223 BK224 HB;obtain ⟨BK222,BK223,BK224,HB⟩ := n_;(try clear hb);(try clear hb2);(try clear hk);(try clear hi)))
   go_meet
   case rel => exact ⟨_,(true),Z289,H',⟨Z291⟩,⟨Z617⟩,⟨Z620⟩,⟨Z624⟩,⟨Z565⟩⟩
 case rest =>
  clear HC3
  try clear c1
  try clear p2
  try clear c8
  try clear c10
  try clear c11
  try clear c14
  try clear c15
  try clear c17
  try clear c18
  try clear hcz12_0
  try clear hcz12_1
  try clear hcz12_2
  try clear hcz15_0
  try clear hcz15_1
  try clear hcz15_2
  try clear hcz19_0
  try clear hcz19_1
  try clear hcz19_2
  try clear hfz12_0
  try clear hfz12_1
  try clear hfz12_2
  try clear hfz15_0
  try clear hfz15_1
  try clear hfz15_2
  try clear hfz19_0
  try clear hfz19_1
  try clear hfz19_2
  obtain ⟨kq,x17_2,rfl,HA,HJ2,BK222,BK223,BK224,HB⟩ := hcut
  cases kq with
  | zero => exact absurd HA.out (by simp [spec_AddWide.j0])
  | succ kj2 =>
   have H := HA.out
   clear HA
   simp only [spec_AddWide.j0] at H
   by_cases c21 : x17_2 = true
   ·subst c21
    rw [if_pos rfl] at H
    simp only [Option.some.injEq,Prod.mk.injEq] at H
    obtain ⟨rfl,rfl,rfl,rfl⟩ := H
    have hnb22 := NB224_222.out
    have hnc22 := NB222_224.out
    have hnb23 := NB224_223.out
    have hnc23 := NB223_224.out
    have hcz24_0 : wc.cell? ⟨gb224,0,none⟩ = some (.bool false) := (blk_cell BK224.out 0).trans rfl
    have hcz24_1 : wc.cell? ⟨gb224,1,none⟩ = some (.int .u64 0) := (blk_cell BK224.out 1).trans rfl
    have hcz24_2 : wc.cell? ⟨gb224,2,none⟩ = some (.int .u64 0) := (blk_cell BK224.out 2).trans rfl
    have hzAhcz24 := (held_three hcz24_0 hcz24_1 hcz24_2).1
    have hzBhcz24 := (held_three hcz24_0 hcz24_1 hcz24_2).2.1
    have hzChcz24 := (held_three hcz24_0 hcz24_1 hcz24_2).2.2
    have hfz24_0 := blk_frozen BK224.out 0
    have hfz24_1 := blk_frozen BK224.out 1
    have hfz24_2 := blk_frozen BK224.out 2
    go_wp2
    refine bodyPost_ret (results_ct rfl _ _ gb224 100 #[.bool false,.int .u64 0,.int .u64 0] (0,0) _ rfl Z164 Try.underlying100 rfl Z312) rfl ?_
    exact ⟨Z263,Z565⟩
   ·replace c21 := Bool.eq_false_iff.mpr c21
    subst c21
    rw [if_neg Bool.false_ne_true] at H
    by_cases c25 : (a0_0 == a1_0) = true
    ·rw [if_pos c25] at H
     have c25b0 : (a0_0 == a1_0) = true := c25
     (try (have c25b1 : decide (a0_0 = a1_0) = true := by simpa using c25))
     (try (have c25b2 : (a0_0 == a1_0) = true := by simpa using c25))
     clear c25
     by_cases c26 : (IntKind.u64.wrap (a0_2 + a1_2)) < a0_2
     ·rw [if_pos c26] at H
      have c26b0 : decide ((IntKind.u64.wrap (a0_2 + a1_2)) < a0_2) = true := decide_eq_true c26
      clear c26
      obtain ⟨t228,A270,H⟩ := Option.bind_eq_some_iff.mp H
      have A27 := Aside0.mk A270
      clear A270
      by_cases c28 : t228 = true
      ·subst c28
       rw [if_pos rfl] at H
       simp only [Option.some.injEq,Prod.mk.injEq] at H
       obtain ⟨rfl,rfl,rfl,rfl⟩ := H
       have hnb29 := NB222_223.out
       have hnc29 := NB223_222.out
       have hnb30 := NB222_224.out
       have hnc30 := NB224_222.out
       have hcz31_0 : wc.cell? ⟨gb222,0,none⟩ = some (.bool a0_0) := (blk_cell BK222.out 0).trans rfl
       have hcz31_1 : wc.cell? ⟨gb222,1,none⟩ = some (.int .u64 a0_1) := (blk_cell BK222.out 1).trans rfl
       have hcz31_2 : wc.cell? ⟨gb222,2,none⟩ = some (.int .u64 a0_2) := (blk_cell BK222.out 2).trans rfl
       have hzAhcz31 := (held_three hcz31_0 hcz31_1 hcz31_2).1
       have hzBhcz31 := (held_three hcz31_0 hcz31_1 hcz31_2).2.1
       have hzChcz31 := (held_three hcz31_0 hcz31_1 hcz31_2).2.2
       have hfz31_0 := blk_frozen BK222.out 0
       have hfz31_1 := blk_frozen BK222.out 1
       have hfz31_2 := blk_frozen BK222.out 2
       have hnb32 := NB223_224.out
       have hnc32 := NB224_223.out
       have hcz33_0 : wc.cell? ⟨gb223,0,none⟩ = some (.bool a1_0) := (blk_cell BK223.out 0).trans rfl
       have hcz33_1 : wc.cell? ⟨gb223,1,none⟩ = some (.int .u64 a1_1) := (blk_cell BK223.out 1).trans rfl
       have hcz33_2 : wc.cell? ⟨gb223,2,none⟩ = some (.int .u64 a1_2) := (blk_cell BK223.out 2).trans rfl
       have hzAhcz33 := (held_three hcz33_0 hcz33_1 hcz33_2).1
       have hzBhcz33 := (held_three hcz33_0 hcz33_1 hcz33_2).2.1
       have hzChcz33 := (held_three hcz33_0 hcz33_1 hcz33_2).2.2
       have hfz33_0 := blk_frozen BK223.out 0
       have hfz33_1 := blk_frozen BK223.out 1
       have hfz33_2 := blk_frozen BK223.out 2
       go_wp2_with (first | ((with_reducible refine gate_dst (N := 6) rfl ?_);refine bE 6 #[.bool false,.int .u64 0,.int .u64 0] 100 (h := ?_);intro gb227 hg wq1 hbox hb;have n_ := Z23;clear BK222 BK223 BK224 HB;obtain ⟨BK222,BK223,BK224,HB,BK227,GW227,GE227,NB222_227,NB227_222,NB223_227,NB227_223,NB224_227,NB227_224⟩ := n_;clear hb hbox hg;have hnbq2 := NB227_222.out;have hncq2 := NB222_227.out;have hnbq3 := NB227_223.out;have hncq3 := NB223_227.out;have hnbq4 := NB227_224.out;have hncq4 := NB224_227.out;have hczq5_0 : wq1.cell? ⟨gb227,0,none⟩ = some (.bool false) := (blk_cell BK227.out 0).trans rfl;have hczq5_1 : wq1.cell? ⟨gb227,1,none⟩ = some (.int .u64 0) := (blk_cell BK227.out 1).trans rfl;have hczq5_2 : wq1.cell? ⟨gb227,2,none⟩ = some (.int .u64 0) := (blk_cell BK227.out 2).trans rfl;have hzAhczq5 := (held_three hczq5_0 hczq5_1 hczq5_2).1;have hzBhczq5 := (held_three hczq5_0 hczq5_1 hczq5_2).2.1;have hzChczq5 := (held_three hczq5_0 hczq5_1 hczq5_2).2.2;have hfzq5_0 := blk_frozen BK227.out 0;have hfzq5_1 := blk_frozen BK227.out 1;have hfzq5_2 := blk_frozen BK227.out 2;have hczq6_0 : wq1.cell? ⟨gb222,0,none⟩ = some (.bool a0_0) := (blk_cell BK222.out 0).trans rfl;have hczq6_1 : wq1.cell? ⟨gb222,1,none⟩ = some (.int .u64 a0_1) := (blk_cell BK222.out 1).trans rfl;have hczq6_2 : wq1.cell? ⟨gb222,2,none⟩ = some (.int .u64 a0_2) := (blk_cell BK222.out 2).trans rfl;have hzAhczq6 := (held_three hczq6_0 hczq6_1 hczq6_2).1;have hzBhczq6 := (held_three hczq6_0 hczq6_1 hczq6_2).2.1;have hzChczq6 := (held_three hczq6_0 hczq6_1 hczq6_2).2.2;have hfzq6_0 := blk_frozen BK222.out 0;have hfzq6_1 := blk_frozen BK222.out 1;have hfzq6_2 := blk_frozen BK222.out 2) | ((with_reducible refine gate_callee (f := 158) rfl ?_);refine goesL_ (some 47) rfl rfl Try.func158 Z312 rfl #[.agg #[.bool a0_0,.int .u64 (IntKind.u64.wrap ((IntKind.u64.wrap (a0_1 + a1_1)) + 1)),.int .u64 (IntKind.u64.wrap (a0_2 + a1_2))]] rfl Z256 ?_;(with_reducible refine (spec_WideOk.calls a0_0 (IntKind.u64.wrap ((IntKind.u64.wrap (a0_1 + a1_1)) + 1)) (IntKind.u64.wrap (a0_2 + a1_2)) true _ A27.out).mono ?_);rintro e wq7 ⟨rfl,hb⟩;refine ⟨_,rfl,?_⟩;have n_ := Z34;clear BK222 BK223 BK224 BK227 HB;obtain ⟨BK222,BK223,BK224,BK227,HB⟩ := n_;(try clear hb);(try clear hb2);(try clear hk);(try clear hi);have hczq8_0 : wq7.cell? ⟨gb227,0,none⟩ = some (.bool a0_0) := (blk_cell BK227.out 0).trans rfl;have hczq8_1 : wq7.cell? ⟨gb227,1,none⟩ = some (.int .u64 (IntKind.u64.wrap ((IntKind.u64.wrap (a0_1 + a1_1)) + 1))) := (blk_cell BK227.out 1).trans rfl;have hczq8_2 : wq7.cell? ⟨gb227,2,none⟩ = some (.int .u64 (IntKind.u64.wrap (a0_2 + a1_2))) := (blk_cell BK227.out 2).trans rfl;have hzAhczq8 := (held_three hczq8_0 hczq8_1 hczq8_2).1;have hzBhczq8 := (held_three hczq8_0 hczq8_1 hczq8_2).2.1;have hzChczq8 := (held_three hczq8_0 hczq8_1 hczq8_2).2.2;have hfzq8_0 := blk_frozen BK227.out 0;have hfzq8_1 := blk_frozen BK227.out 1;have hfzq8_2 := blk_frozen BK227.out 2;have hczq9_0 : wq7.cell? ⟨gb224,0,none⟩ = some (.bool false) := (blk_cell BK224.out 0).trans rfl;have hczq9_1 : wq7.cell? ⟨gb224,1,none⟩ = some (.int .u64 0) := (blk_cell BK224.out 1).trans rfl;have hczq9_2 : wq7.cell? ⟨gb224,2,none⟩ = some (.int .u64 0) := (blk_cell BK224.out 2).trans rfl;have hzAhczq9 := (held_three hczq9_0 hczq9_1 hczq9_2).1;have hzBhczq9 := (held_three hczq9_0 hczq9_1 hczq9_2).2.1;have hzChczq9 := (held_three hczq9_0 hczq9_1 hczq9_2).2.2;have hfzq9_0 := blk_frozen BK224.out 0;have hfzq9_1 := blk_frozen BK224.out 1;have hfzq9_2 := blk_frozen BK224.out 2))
       refine bodyPost_ret (results_ct rfl _ _ gb224 100 #[.bool a0_0,.int .u64 (IntKind.u64.wrap ((IntKind.u64.wrap (a0_1 + a1_1)) + 1)),.int .u64 (IntKind.u64.wrap (a0_2 + a1_2))] (0,0) _ rfl (by refine bP ?_;refine blk_put (cs := #[.bool a0_0,.int .u64 (IntKind.u64.wrap ((IntKind.u64.wrap (a0_1 + a1_1)) + 1)),.int .u64 0]) ?_ 2 _ rfl;refine bP ?_;refine blk_put (cs := #[.bool a0_0,.int .u64 0,.int .u64 0]) ?_ 1 _ rfl;refine bP ?_;refine blk_put (cs := #[.bool false,.int .u64 0,.int .u64 0]) ?_ 0 _ rfl;refine bP ?_;exact BK224.out) Try.underlying100 rfl Z312) rfl ?_
       exact ⟨Z263,Z328⟩
      ·replace c28 := Bool.eq_false_iff.mpr c28
       subst c28
       rw [if_neg Bool.false_ne_true] at H
       simp only [Option.some.injEq,Prod.mk.injEq] at H
       obtain ⟨rfl,rfl,rfl,rfl⟩ := H
       have hnb43 := NB222_223.out
       have hnc43 := NB223_222.out
       have hnb44 := NB222_224.out
       have hnc44 := NB224_222.out
       have hcz45_0 : wc.cell? ⟨gb222,0,none⟩ = some (.bool a0_0) := (blk_cell BK222.out 0).trans rfl
       have hcz45_1 : wc.cell? ⟨gb222,1,none⟩ = some (.int .u64 a0_1) := (blk_cell BK222.out 1).trans rfl
       have hcz45_2 : wc.cell? ⟨gb222,2,none⟩ = some (.int .u64 a0_2) := (blk_cell BK222.out 2).trans rfl
       have hzAhcz45 := (held_three hcz45_0 hcz45_1 hcz45_2).1
       have hzBhcz45 := (held_three hcz45_0 hcz45_1 hcz45_2).2.1
       have hzChcz45 := (held_three hcz45_0 hcz45_1 hcz45_2).2.2
       have hfz45_0 := blk_frozen BK222.out 0
       have hfz45_1 := blk_frozen BK222.out 1
       have hfz45_2 := blk_frozen BK222.out 2
       have hnb46 := NB223_224.out
       have hnc46 := NB224_223.out
       have hcz47_0 : wc.cell? ⟨gb223,0,none⟩ = some (.bool a1_0) := (blk_cell BK223.out 0).trans rfl
       have hcz47_1 : wc.cell? ⟨gb223,1,none⟩ = some (.int .u64 a1_1) := (blk_cell BK223.out 1).trans rfl
       have hcz47_2 : wc.cell? ⟨gb223,2,none⟩ = some (.int .u64 a1_2) := (blk_cell BK223.out 2).trans rfl
       have hzAhcz47 := (held_three hcz47_0 hcz47_1 hcz47_2).1
       have hzBhcz47 := (held_three hcz47_0 hcz47_1 hcz47_2).2.1
       have hzChcz47 := (held_three hcz47_0 hcz47_1 hcz47_2).2.2
       have hfz47_0 := blk_frozen BK223.out 0
       have hfz47_1 := blk_frozen BK223.out 1
       have hfz47_2 := blk_frozen BK223.out 2
       go_wp2_with (first | ((with_reducible refine gate_dst (N := 6) rfl ?_);refine bE 6 #[.bool false,.int .u64 0,.int .u64 0] 100 (h := ?_);intro gb227 hg wq1 hbox hb;have n_ := Z23;clear BK222 BK223 BK224 HB;obtain ⟨BK222,BK223,BK224,HB,BK227,GW227,GE227,NB222_227,NB227_222,NB223_227,NB227_223,NB224_227,NB227_224⟩ := n_;clear hb hbox hg;have hnbq2 := NB227_222.out;have hncq2 := NB222_227.out;have hnbq3 := NB227_223.out;have hncq3 := NB223_227.out;have hnbq4 := NB227_224.out;have hncq4 := NB224_227.out;have hczq5_0 : wq1.cell? ⟨gb227,0,none⟩ = some (.bool false) := (blk_cell BK227.out 0).trans rfl;have hczq5_1 : wq1.cell? ⟨gb227,1,none⟩ = some (.int .u64 0) := (blk_cell BK227.out 1).trans rfl;have hczq5_2 : wq1.cell? ⟨gb227,2,none⟩ = some (.int .u64 0) := (blk_cell BK227.out 2).trans rfl;have hzAhczq5 := (held_three hczq5_0 hczq5_1 hczq5_2).1;have hzBhczq5 := (held_three hczq5_0 hczq5_1 hczq5_2).2.1;have hzChczq5 := (held_three hczq5_0 hczq5_1 hczq5_2).2.2;have hfzq5_0 := blk_frozen BK227.out 0;have hfzq5_1 := blk_frozen BK227.out 1;have hfzq5_2 := blk_frozen BK227.out 2;have hczq6_0 : wq1.cell? ⟨gb222,0,none⟩ = some (.bool a0_0) := (blk_cell BK222.out 0).trans rfl;have hczq6_1 : wq1.cell? ⟨gb222,1,none⟩ = some (.int .u64 a0_1) := (blk_cell BK222.out 1).trans rfl;have hczq6_2 : wq1.cell? ⟨gb222,2,none⟩ = some (.int .u64 a0_2) := (blk_cell BK222.out 2).trans rfl;have hzAhczq6 := (held_three hczq6_0 hczq6_1 hczq6_2).1;have hzBhczq6 := (held_three hczq6_0 hczq6_1 hczq6_2).2.1;have hzChczq6 := (held_three hczq6_0 hczq6_1 hczq6_2).2.2;have hfzq6_0 := blk_frozen BK222.out 0;have hfzq6_1 := blk_frozen BK222.out 1;have hfzq6_2 := blk_frozen BK222.out 2) | ((with_reducible refine gate_callee (f := 158) rfl ?_);refine goesL_ (some 47) rfl rfl Try.func158 Z312 rfl #[.agg #[.bool a0_0,.int .u64 (IntKind.u64.wrap ((IntKind.u64.wrap (a0_1 + a1_1)) + 1)),.int .u64 (IntKind.u64.wrap (a0_2 + a1_2))]] rfl Z256 ?_;(with_reducible refine (spec_WideOk.calls a0_0 (IntKind.u64.wrap ((IntKind.u64.wrap (a0_1 + a1_1)) + 1)) (IntKind.u64.wrap (a0_2 + a1_2)) false _ A27.out).mono ?_);rintro e wq7 ⟨rfl,hb⟩;refine ⟨_,rfl,?_⟩;have n_ := Z34;clear BK222 BK223 BK224 BK227 HB;obtain ⟨BK222,BK223,BK224,BK227,HB⟩ := n_;(try clear hb);(try clear hb2);(try clear hk);(try clear hi);have hczq8_0 : wq7.cell? ⟨gb224,0,none⟩ = some (.bool false) := (blk_cell BK224.out 0).trans rfl;have hczq8_1 : wq7.cell? ⟨gb224,1,none⟩ = some (.int .u64 0) := (blk_cell BK224.out 1).trans rfl;have hczq8_2 : wq7.cell? ⟨gb224,2,none⟩ = some (.int .u64 0) := (blk_cell BK224.out 2).trans rfl;have hzAhczq8 := (held_three hczq8_0 hczq8_1 hczq8_2).1;have hzBhczq8 := (held_three hczq8_0 hczq8_1 hczq8_2).2.1;have hzChczq8 := (held_three hczq8_0 hczq8_1 hczq8_2).2.2;have hfzq8_0 := blk_frozen BK224.out 0;have hfzq8_1 := blk_frozen BK224.out 1;have hfzq8_2 := blk_frozen BK224.out 2))
       refine bodyPost_ret (results_ct rfl _ _ gb224 100 #[.bool false,.int .u64 0,.int .u64 0] (0,0) _ rfl Z164 Try.underlying100 rfl Z312) rfl ?_
       exact ⟨Z263,Z328⟩
     ·rw [if_neg c26] at H
      have c26b0 : decide ((IntKind.u64.wrap (a0_2 + a1_2)) < a0_2) = false := decide_eq_false c26
      clear c26
      obtain ⟨t229,A560,H⟩ := Option.bind_eq_some_iff.mp H
      have A56 := Aside0.mk A560
      clear A560
      by_cases c57 : t229 = true
      ·subst c57
       rw [if_pos rfl] at H
       simp only [Option.some.injEq,Prod.mk.injEq] at H
       obtain ⟨rfl,rfl,rfl,rfl⟩ := H
       have hnb58 := NB222_223.out
       have hnc58 := NB223_222.out
       have hnb59 := NB222_224.out
       have hnc59 := NB224_222.out
       have hcz60_0 : wc.cell? ⟨gb222,0,none⟩ = some (.bool a0_0) := (blk_cell BK222.out 0).trans rfl
       have hcz60_1 : wc.cell? ⟨gb222,1,none⟩ = some (.int .u64 a0_1) := (blk_cell BK222.out 1).trans rfl
       have hcz60_2 : wc.cell? ⟨gb222,2,none⟩ = some (.int .u64 a0_2) := (blk_cell BK222.out 2).trans rfl
       have hzAhcz60 := (held_three hcz60_0 hcz60_1 hcz60_2).1
       have hzBhcz60 := (held_three hcz60_0 hcz60_1 hcz60_2).2.1
       have hzChcz60 := (held_three hcz60_0 hcz60_1 hcz60_2).2.2
       have hfz60_0 := blk_frozen BK222.out 0
       have hfz60_1 := blk_frozen BK222.out 1
       have hfz60_2 := blk_frozen BK222.out 2
       have hnb61 := NB223_224.out
       have hnc61 := NB224_223.out
       have hcz62_0 : wc.cell? ⟨gb223,0,none⟩ = some (.bool a1_0) := (blk_cell BK223.out 0).trans rfl
       have hcz62_1 : wc.cell? ⟨gb223,1,none⟩ = some (.int .u64 a1_1) := (blk_cell BK223.out 1).trans rfl
       have hcz62_2 : wc.cell? ⟨gb223,2,none⟩ = some (.int .u64 a1_2) := (blk_cell BK223.out 2).trans rfl
       have hzAhcz62 := (held_three hcz62_0 hcz62_1 hcz62_2).1
       have hzBhcz62 := (held_three hcz62_0 hcz62_1 hcz62_2).2.1
       have hzChcz62 := (held_three hcz62_0 hcz62_1 hcz62_2).2.2
       have hfz62_0 := blk_frozen BK223.out 0
       have hfz62_1 := blk_frozen BK223.out 1
       have hfz62_2 := blk_frozen BK223.out 2
       go_wp2_with (first | ((with_reducible refine gate_dst (N := 6) rfl ?_);refine bE 6 #[.bool false,.int .u64 0,.int .u64 0] 100 (h := ?_);intro gb227 hg wq1 hbox hb;have n_ := Z23;clear BK222 BK223 BK224 HB;obtain ⟨BK222,BK223,BK224,HB,BK227,GW227,GE227,NB222_227,NB227_222,NB223_227,NB227_223,NB224_227,NB227_224⟩ := n_;clear hb hbox hg;have hnbq2 := NB227_222.out;have hncq2 := NB222_227.out;have hnbq3 := NB227_223.out;have hncq3 := NB223_227.out;have hnbq4 := NB227_224.out;have hncq4 := NB224_227.out;have hczq5_0 : wq1.cell? ⟨gb227,0,none⟩ = some (.bool false) := (blk_cell BK227.out 0).trans rfl;have hczq5_1 : wq1.cell? ⟨gb227,1,none⟩ = some (.int .u64 0) := (blk_cell BK227.out 1).trans rfl;have hczq5_2 : wq1.cell? ⟨gb227,2,none⟩ = some (.int .u64 0) := (blk_cell BK227.out 2).trans rfl;have hzAhczq5 := (held_three hczq5_0 hczq5_1 hczq5_2).1;have hzBhczq5 := (held_three hczq5_0 hczq5_1 hczq5_2).2.1;have hzChczq5 := (held_three hczq5_0 hczq5_1 hczq5_2).2.2;have hfzq5_0 := blk_frozen BK227.out 0;have hfzq5_1 := blk_frozen BK227.out 1;have hfzq5_2 := blk_frozen BK227.out 2;have hczq6_0 : wq1.cell? ⟨gb222,0,none⟩ = some (.bool a0_0) := (blk_cell BK222.out 0).trans rfl;have hczq6_1 : wq1.cell? ⟨gb222,1,none⟩ = some (.int .u64 a0_1) := (blk_cell BK222.out 1).trans rfl;have hczq6_2 : wq1.cell? ⟨gb222,2,none⟩ = some (.int .u64 a0_2) := (blk_cell BK222.out 2).trans rfl;have hzAhczq6 := (held_three hczq6_0 hczq6_1 hczq6_2).1;have hzBhczq6 := (held_three hczq6_0 hczq6_1 hczq6_2).2.1;have hzChczq6 := (held_three hczq6_0 hczq6_1 hczq6_2).2.2;have hfzq6_0 := blk_frozen BK222.out 0;have hfzq6_1 := blk_frozen BK222.out 1;have hfzq6_2 := blk_frozen BK222.out 2) | ((with_reducible refine gate_callee (f := 158) rfl ?_);refine goesL_ (some 47) rfl rfl Try.func158 Z312 rfl #[.agg #[.bool a0_0,.int .u64 (IntKind.u64.wrap (a0_1 + a1_1)),.int .u64 (IntKind.u64.wrap (a0_2 + a1_2))]] rfl Z256 ?_;(with_reducible refine (spec_WideOk.calls a0_0 (IntKind.u64.wrap (a0_1 + a1_1)) (IntKind.u64.wrap (a0_2 + a1_2)) true _ A56.out).mono ?_);rintro e wq7 ⟨rfl,hb⟩;refine ⟨_,rfl,?_⟩;have n_ := Z49;clear BK222 BK223 BK224 BK227 HB;obtain ⟨BK222,BK223,BK224,BK227,HB⟩ := n_;(try clear hb);(try clear hb2);(try clear hk);(try clear hi);have hczq8_0 : wq7.cell? ⟨gb227,0,none⟩ = some (.bool a0_0) := (blk_cell BK227.out 0).trans rfl;have hczq8_1 : wq7.cell? ⟨gb227,1,none⟩ = some (.int .u64 (IntKind.u64.wrap (a0_1 + a1_1))) := (blk_cell BK227.out 1).trans rfl;have hczq8_2 : wq7.cell? ⟨gb227,2,none⟩ = some (.int .u64 (IntKind.u64.wrap (a0_2 + a1_2))) := (blk_cell BK227.out 2).trans rfl;have hzAhczq8 := (held_three hczq8_0 hczq8_1 hczq8_2).1;have hzBhczq8 := (held_three hczq8_0 hczq8_1 hczq8_2).2.1;have hzChczq8 := (held_three hczq8_0 hczq8_1 hczq8_2).2.2;have hfzq8_0 := blk_frozen BK227.out 0;have hfzq8_1 := blk_frozen BK227.out 1;have hfzq8_2 := blk_frozen BK227.out 2;have hczq9_0 : wq7.cell? ⟨gb224,0,none⟩ = some (.bool false) := (blk_cell BK224.out 0).trans rfl;have hczq9_1 : wq7.cell? ⟨gb224,1,none⟩ = some (.int .u64 0) := (blk_cell BK224.out 1).trans rfl;have hczq9_2 : wq7.cell? ⟨gb224,2,none⟩ = some (.int .u64 0) := (blk_cell BK224.out 2).trans rfl;have hzAhczq9 := (held_three hczq9_0 hczq9_1 hczq9_2).1;have hzBhczq9 := (held_three hczq9_0 hczq9_1 hczq9_2).2.1;have hzChczq9 := (held_three hczq9_0 hczq9_1 hczq9_2).2.2;have hfzq9_0 := blk_frozen BK224.out 0;have hfzq9_1 := blk_frozen BK224.out 1;have hfzq9_2 := blk_frozen BK224.out 2))
       refine bodyPost_ret (results_ct rfl _ _ gb224 100 #[.bool a0_0,.int .u64 (IntKind.u64.wrap (a0_1 + a1_1)),.int .u64 (IntKind.u64.wrap (a0_2 + a1_2))] (0,0) _ rfl (by refine bP ?_;refine blk_put (cs := #[.bool a0_0,.int .u64 (IntKind.u64.wrap (a0_1 + a1_1)),.int .u64 0]) ?_ 2 _ rfl;refine bP ?_;refine blk_put (cs := #[.bool a0_0,.int .u64 0,.int .u64 0]) ?_ 1 _ rfl;refine bP ?_;refine blk_put (cs := #[.bool false,.int .u64 0,.int .u64 0]) ?_ 0 _ rfl;refine bP ?_;exact BK224.out) Try.underlying100 rfl Z312) rfl ?_
       exact ⟨Z263,Z328⟩
      ·replace c57 := Bool.eq_false_iff.mpr c57
       subst c57
       rw [if_neg Bool.false_ne_true] at H
       simp only [Option.some.injEq,Prod.mk.injEq] at H
       obtain ⟨rfl,rfl,rfl,rfl⟩ := H
       have hnb72 := NB222_223.out
       have hnc72 := NB223_222.out
       have hnb73 := NB222_224.out
       have hnc73 := NB224_222.out
       have hcz74_0 : wc.cell? ⟨gb222,0,none⟩ = some (.bool a0_0) := (blk_cell BK222.out 0).trans rfl
       have hcz74_1 : wc.cell? ⟨gb222,1,none⟩ = some (.int .u64 a0_1) := (blk_cell BK222.out 1).trans rfl
       have hcz74_2 : wc.cell? ⟨gb222,2,none⟩ = some (.int .u64 a0_2) := (blk_cell BK222.out 2).trans rfl
       have hzAhcz74 := (held_three hcz74_0 hcz74_1 hcz74_2).1
       have hzBhcz74 := (held_three hcz74_0 hcz74_1 hcz74_2).2.1
       have hzChcz74 := (held_three hcz74_0 hcz74_1 hcz74_2).2.2
       have hfz74_0 := blk_frozen BK222.out 0
       have hfz74_1 := blk_frozen BK222.out 1
       have hfz74_2 := blk_frozen BK222.out 2
       have hnb75 := NB223_224.out
       have hnc75 := NB224_223.out
       have hcz76_0 : wc.cell? ⟨gb223,0,none⟩ = some (.bool a1_0) := (blk_cell BK223.out 0).trans rfl
       have hcz76_1 : wc.cell? ⟨gb223,1,none⟩ = some (.int .u64 a1_1) := (blk_cell BK223.out 1).trans rfl
       have hcz76_2 : wc.cell? ⟨gb223,2,none⟩ = some (.int .u64 a1_2) := (blk_cell BK223.out 2).trans rfl
       have hzAhcz76 := (held_three hcz76_0 hcz76_1 hcz76_2).1
       have hzBhcz76 := (held_three hcz76_0 hcz76_1 hcz76_2).2.1
       have hzChcz76 := (held_three hcz76_0 hcz76_1 hcz76_2).2.2
       have hfz76_0 := blk_frozen BK223.out 0
       have hfz76_1 := blk_frozen BK223.out 1
       have hfz76_2 := blk_frozen BK223.out 2
       go_wp2_with (first | ((with_reducible refine gate_dst (N := 6) rfl ?_);refine bE 6 #[.bool false,.int .u64 0,.int .u64 0] 100 (h := ?_);intro gb227 hg wq1 hbox hb;have n_ := Z23;clear BK222 BK223 BK224 HB;obtain ⟨BK222,BK223,BK224,HB,BK227,GW227,GE227,NB222_227,NB227_222,NB223_227,NB227_223,NB224_227,NB227_224⟩ := n_;clear hb hbox hg;have hnbq2 := NB227_222.out;have hncq2 := NB222_227.out;have hnbq3 := NB227_223.out;have hncq3 := NB223_227.out;have hnbq4 := NB227_224.out;have hncq4 := NB224_227.out;have hczq5_0 : wq1.cell? ⟨gb227,0,none⟩ = some (.bool false) := (blk_cell BK227.out 0).trans rfl;have hczq5_1 : wq1.cell? ⟨gb227,1,none⟩ = some (.int .u64 0) := (blk_cell BK227.out 1).trans rfl;have hczq5_2 : wq1.cell? ⟨gb227,2,none⟩ = some (.int .u64 0) := (blk_cell BK227.out 2).trans rfl;have hzAhczq5 := (held_three hczq5_0 hczq5_1 hczq5_2).1;have hzBhczq5 := (held_three hczq5_0 hczq5_1 hczq5_2).2.1;have hzChczq5 := (held_three hczq5_0 hczq5_1 hczq5_2).2.2;have hfzq5_0 := blk_frozen BK227.out 0;have hfzq5_1 := blk_frozen BK227.out 1;have hfzq5_2 := blk_frozen BK227.out 2;have hczq6_0 : wq1.cell? ⟨gb222,0,none⟩ = some (.bool a0_0) := (blk_cell BK222.out 0).trans rfl;have hczq6_1 : wq1.cell? ⟨gb222,1,none⟩ = some (.int .u64 a0_1) := (blk_cell BK222.out 1).trans rfl;have hczq6_2 : wq1.cell? ⟨gb222,2,none⟩ = some (.int .u64 a0_2) := (blk_cell BK222.out 2).trans rfl;have hzAhczq6 := (held_three hczq6_0 hczq6_1 hczq6_2).1;have hzBhczq6 := (held_three hczq6_0 hczq6_1 hczq6_2).2.1;have hzChczq6 := (held_three hczq6_0 hczq6_1 hczq6_2).2.2;have hfzq6_0 := blk_frozen BK222.out 0;have hfzq6_1 := blk_frozen BK222.out 1;have hfzq6_2 := blk_frozen BK222.out 2) | ((with_reducible refine gate_callee (f := 158) rfl ?_);refine goesL_ (some 47) rfl rfl Try.func158 Z312 rfl #[.agg #[.bool a0_0,.int .u64 (IntKind.u64.wrap (a0_1 + a1_1)),.int .u64 (IntKind.u64.wrap (a0_2 + a1_2))]] rfl Z256 ?_;(with_reducible refine (spec_WideOk.calls a0_0 (IntKind.u64.wrap (a0_1 + a1_1)) (IntKind.u64.wrap (a0_2 + a1_2)) false _ A56.out).mono ?_);rintro e wq7 ⟨rfl,hb⟩;refine ⟨_,rfl,?_⟩;have n_ := Z49;clear BK222 BK223 BK224 BK227 HB;obtain ⟨BK222,BK223,BK224,BK227,HB⟩ := n_;(try clear hb);(try clear hb2);(try clear hk);(try clear hi);have hczq8_0 : wq7.cell? ⟨gb224,0,none⟩ = some (.bool false) := (blk_cell BK224.out 0).trans rfl;have hczq8_1 : wq7.cell? ⟨gb224,1,none⟩ = some (.int .u64 0) := (blk_cell BK224.out 1).trans rfl;have hczq8_2 : wq7.cell? ⟨gb224,2,none⟩ = some (.int .u64 0) := (blk_cell BK224.out 2).trans rfl;have hzAhczq8 := (held_three hczq8_0 hczq8_1 hczq8_2).1;have hzBhczq8 := (held_three hczq8_0 hczq8_1 hczq8_2).2.1;have hzChczq8 := (held_three hczq8_0 hczq8_1 hczq8_2).2.2;have hfzq8_0 := blk_frozen BK224.out 0;have hfzq8_1 := blk_frozen BK224.out 1;have hfzq8_2 := blk_frozen BK224.out 2))
       refine bodyPost_ret (results_ct rfl _ _ gb224 100 #[.bool false,.int .u64 0,.int .u64 0] (0,0) _ rfl Z164 Try.underlying100 rfl Z312) rfl ?_
       exact ⟨Z263,Z328⟩
    ·rw [if_neg c25] at H
     have c25b0 : (a0_0 == a1_0) = false := by simpa using c25
     (try (have c25b1 : decide (a0_0 = a1_0) = false := by simpa using c25))
     (try (have c25b2 : (a0_0 == a1_0) = false := by simpa using c25))
     (try (have c25b3 : ¬ (a0_0 = a1_0) := by simpa using c25))
     clear c25
     obtain ⟨t232,A850,H⟩ := Option.bind_eq_some_iff.mp H
     have A85 := Aside0.mk A850
     clear A850
     have HC86 := Aside0.mk H
     clear H
     have hnb87 := NB222_223.out
     have hnc87 := NB223_222.out
     have hnb88 := NB222_224.out
     have hnc88 := NB224_222.out
     have hcz89_0 : wc.cell? ⟨gb222,0,none⟩ = some (.bool a0_0) := (blk_cell BK222.out 0).trans rfl
     have hcz89_1 : wc.cell? ⟨gb222,1,none⟩ = some (.int .u64 a0_1) := (blk_cell BK222.out 1).trans rfl
     have hcz89_2 : wc.cell? ⟨gb222,2,none⟩ = some (.int .u64 a0_2) := (blk_cell BK222.out 2).trans rfl
     have hzAhcz89 := (held_three hcz89_0 hcz89_1 hcz89_2).1
     have hzBhcz89 := (held_three hcz89_0 hcz89_1 hcz89_2).2.1
     have hzChcz89 := (held_three hcz89_0 hcz89_1 hcz89_2).2.2
     have hfz89_0 := blk_frozen BK222.out 0
     have hfz89_1 := blk_frozen BK222.out 1
     have hfz89_2 := blk_frozen BK222.out 2
     have hnb90 := NB223_224.out
     have hnc90 := NB224_223.out
     have hcz91_0 : wc.cell? ⟨gb223,0,none⟩ = some (.bool a1_0) := (blk_cell BK223.out 0).trans rfl
     have hcz91_1 : wc.cell? ⟨gb223,1,none⟩ = some (.int .u64 a1_1) := (blk_cell BK223.out 1).trans rfl
     have hcz91_2 : wc.cell? ⟨gb223,2,none⟩ = some (.int .u64 a1_2) := (blk_cell BK223.out 2).trans rfl
     have hzAhcz91 := (held_three hcz91_0 hcz91_1 hcz91_2).1
     have hzBhcz91 := (held_three hcz91_0 hcz91_1 hcz91_2).2.1
     have hzChcz91 := (held_three hcz91_0 hcz91_1 hcz91_2).2.2
     have hfz91_0 := blk_frozen BK223.out 0
     have hfz91_1 := blk_frozen BK223.out 1
     have hfz91_2 := blk_frozen BK223.out 2
     go_upto_if 56 with (first | ((with_reducible refine gate_dst (N := 7) rfl ?_);refine bE 7 #[.bool false,.int .u64 0,.int .u64 0] 100 (h := ?_);intro gb230 hg w92 hbox hb;have n_ := jA (blk_below (g := gb222) (o := .cells #[.bool a0_0,.int .u64 a0_1,.int .u64 a0_2] 100 (0,0)) Z617 hb) (jA (blk_below (g := gb223) (o := .cells #[.bool a1_0,.int .u64 a1_1,.int .u64 a1_2] 100 (0,0)) Z620 hb) (jA (blk_below (g := gb224) (o := .cells #[.bool false,.int .u64 0,.int .u64 0] 100 (0,0)) Z624 hb) (jA (below_step Z565 hb) (jA (hbox) (jA ((Z331 : w.heap.size ≤ gb230)) (jA ((Z331 : w.heap.size ≤ gb230)) (jA ((Z486 : gb222 ≠ gb230)) (jA ((Z487 : gb230 ≠ gb222)) (jA ((Z488 : gb223 ≠ gb230)) (jA ((Z489 : gb230 ≠ gb223)) (jA ((Z501 : gb224 ≠ gb230)) (Aside0.mk ((Z504 : gb230 ≠ gb224))))))))))))));clear BK222 BK223 BK224 HB;obtain ⟨BK222,BK223,BK224,HB,BK230,GW230,GE230,NB222_230,NB230_222,NB223_230,NB230_223,NB224_230,NB230_224⟩ := n_;clear hb hbox hg;have hnb93 := NB230_222.out;have hnc93 := NB222_230.out;have hnb94 := NB230_223.out;have hnc94 := NB223_230.out;have hnb95 := NB230_224.out;have hnc95 := NB224_230.out;have hcz96_0 : w92.cell? ⟨gb230,0,none⟩ = some (.bool false) := (blk_cell BK230.out 0).trans rfl;have hcz96_1 : w92.cell? ⟨gb230,1,none⟩ = some (.int .u64 0) := (blk_cell BK230.out 1).trans rfl;have hcz96_2 : w92.cell? ⟨gb230,2,none⟩ = some (.int .u64 0) := (blk_cell BK230.out 2).trans rfl;have hzAhcz96 := (held_three hcz96_0 hcz96_1 hcz96_2).1;have hzBhcz96 := (held_three hcz96_0 hcz96_1 hcz96_2).2.1;have hzChcz96 := (held_three hcz96_0 hcz96_1 hcz96_2).2.2;have hfz96_0 := blk_frozen BK230.out 0;have hfz96_1 := blk_frozen BK230.out 1;have hfz96_2 := blk_frozen BK230.out 2;have hcz97_0 : w92.cell? ⟨gb223,0,none⟩ = some (.bool a1_0) := (blk_cell BK223.out 0).trans rfl;have hcz97_1 : w92.cell? ⟨gb223,1,none⟩ = some (.int .u64 a1_1) := (blk_cell BK223.out 1).trans rfl;have hcz97_2 : w92.cell? ⟨gb223,2,none⟩ = some (.int .u64 a1_2) := (blk_cell BK223.out 2).trans rfl;have hzAhcz97 := (held_three hcz97_0 hcz97_1 hcz97_2).1;have hzBhcz97 := (held_three hcz97_0 hcz97_1 hcz97_2).2.1;have hzChcz97 := (held_three hcz97_0 hcz97_1 hcz97_2).2.2;have hfz97_0 := blk_frozen BK223.out 0;have hfz97_1 := blk_frozen BK223.out 1;have hfz97_2 := blk_frozen BK223.out 2) | ((with_reducible refine gate_dst (N := 8) rfl ?_);refine bE 8 #[.bool false,.int .u64 0,.int .u64 0] 100 (h := ?_);intro gb231 hg w98 hbox hb;have n_ := jA (blk_below (g := gb222) (o := .cells #[.bool a0_0,.int .u64 a0_1,.int .u64 a0_2] 100 (0,0)) Z229 hb) (jA (blk_below (g := gb223) (o := .cells #[.bool a1_0,.int .u64 a1_1,.int .u64 a1_2] 100 (0,0)) Z228 hb) (jA (blk_below (g := gb224) (o := .cells #[.bool false,.int .u64 0,.int .u64 0] 100 (0,0)) Z227 hb) (jA (blk_below (g := gb230) (o := .cells #[.bool a0_0,.int .u64 a0_1,.int .u64 a0_2] 100 (0,0)) Z160 hb) (jA (below_step Z333 hb) (jA (hbox) (jA ((Z158 : w.heap.size ≤ gb231)) (jA ((Z158 : w.heap.size ≤ gb231)) (jA ((by rw [hg];exact Nat.ne_of_lt (blk_lt (g := gb222) (o := .cells #[.bool a0_0,.int .u64 a0_1,.int .u64 a0_2] 100 (0,0)) Z229) : gb222 ≠ gb231)) (jA ((by rw [hg];exact Nat.ne_of_gt (blk_lt (g := gb222) (o := .cells #[.bool a0_0,.int .u64 a0_1,.int .u64 a0_2] 100 (0,0)) Z229) : gb231 ≠ gb222)) (jA ((by rw [hg];exact Nat.ne_of_lt (blk_lt (g := gb223) (o := .cells #[.bool a1_0,.int .u64 a1_1,.int .u64 a1_2] 100 (0,0)) Z228) : gb223 ≠ gb231)) (jA ((by rw [hg];exact Nat.ne_of_gt (blk_lt (g := gb223) (o := .cells #[.bool a1_0,.int .u64 a1_1,.int .u64 a1_2] 100 (0,0)) Z228) : gb231 ≠ gb223)) (jA ((by rw [hg];exact Nat.ne_of_lt (blk_lt (g := gb224) (o := .cells #[.bool false,.int .u64 0,.int .u64 0] 100 (0,0)) Z227) : gb224 ≠ gb231)) (jA ((by rw [hg];exact Nat.ne_of_gt (blk_lt (g := gb224) (o := .cells #[.bool false,.int .u64 0,.int .u64 0] 100 (0,0)) Z227) : gb231 ≠ gb224)) (jA ((by rw [hg];exact Nat.ne_of_lt (blk_lt (g := gb230) (o := .cells #[.bool a0_0,.int .u64 a0_1,.int .u64 a0_2] 100 (0,0)) Z160) : gb230 ≠ gb231)) (Aside0.mk ((by rw [hg];exact Nat.ne_of_gt (blk_lt (g := gb230) (o := .cells #[.bool a0_0,.int .u64 a0_1,.int .u64 a0_2] 100 (0,0)) Z160) : gb231 ≠ gb230)))))))))))))))));clear BK222 BK223 BK224 BK230 HB;obtain ⟨BK222,BK223,BK224,BK230,HB,BK231,GW231,GE231,NB222_231,NB231_222,NB223_231,NB231_223,NB224_231,NB231_224,NB230_231,NB231_230⟩ := n_;clear hb hbox hg;have hnb99 := NB231_222.out;have hnc99 := NB222_231.out;have hnb100 := NB231_223.out;have hnc100 := NB223_231.out;have hnb101 := NB231_224.out;have hnc101 := NB224_231.out;have hnb102 := NB231_230.out;have hnc102 := NB230_231.out;have hcz103_0 : w98.cell? ⟨gb231,0,none⟩ = some (.bool false) := (blk_cell BK231.out 0).trans rfl;have hcz103_1 : w98.cell? ⟨gb231,1,none⟩ = some (.int .u64 0) := (blk_cell BK231.out 1).trans rfl;have hcz103_2 : w98.cell? ⟨gb231,2,none⟩ = some (.int .u64 0) := (blk_cell BK231.out 2).trans rfl;have hzAhcz103 := (held_three hcz103_0 hcz103_1 hcz103_2).1;have hzBhcz103 := (held_three hcz103_0 hcz103_1 hcz103_2).2.1;have hzChcz103 := (held_three hcz103_0 hcz103_1 hcz103_2).2.2;have hfz103_0 := blk_frozen BK231.out 0;have hfz103_1 := blk_frozen BK231.out 1;have hfz103_2 := blk_frozen BK231.out 2;have hcz104_0 : w98.cell? ⟨gb222,0,none⟩ = some (.bool a0_0) := (blk_cell BK222.out 0).trans rfl;have hcz104_1 : w98.cell? ⟨gb222,1,none⟩ = some (.int .u64 a0_1) := (blk_cell BK222.out 1).trans rfl;have hcz104_2 : w98.cell? ⟨gb222,2,none⟩ = some (.int .u64 a0_2) := (blk_cell BK222.out 2).trans rfl;have hzAhcz104 := (held_three hcz104_0 hcz104_1 hcz104_2).1;have hzBhcz104 := (held_three hcz104_0 hcz104_1 hcz104_2).2.1;have hzChcz104 := (held_three hcz104_0 hcz104_1 hcz104_2).2.2;have hfz104_0 := blk_frozen BK222.out 0;have hfz104_1 := blk_frozen BK222.out 1;have hfz104_2 := blk_frozen BK222.out 2;have hcz105_0 : w98.cell? ⟨gb223,0,none⟩ = some (.bool a1_0) := (blk_cell BK223.out 0).trans rfl;have hcz105_1 : w98.cell? ⟨gb223,1,none⟩ = some (.int .u64 a1_1) := (blk_cell BK223.out 1).trans rfl;have hcz105_2 : w98.cell? ⟨gb223,2,none⟩ = some (.int .u64 a1_2) := (blk_cell BK223.out 2).trans rfl;have hzAhcz105 := (held_three hcz105_0 hcz105_1 hcz105_2).1;have hzBhcz105 := (held_three hcz105_0 hcz105_1 hcz105_2).2.1;have hzChcz105 := (held_three hcz105_0 hcz105_1 hcz105_2).2.2;have hfz105_0 := blk_frozen BK223.out 0;have hfz105_1 := blk_frozen BK223.out 1;have hfz105_2 := blk_frozen BK223.out 2) | ((with_reducible refine gate_callee (f := 145) rfl ?_);refine goesL_ (some 55) rfl rfl Try.func145 Z312 rfl #[.agg #[.bool a0_0,.int .u64 a0_1,.int .u64 a0_2],.agg #[.bool a1_0,.int .u64 a1_1,.int .u64 a1_2]] rfl Z256 ?_;(with_reducible refine (spec_l3Order.calls kj2 a0_0 a0_1 a0_2 a1_0 a1_1 a1_2 t232 _ A85.out).mono ?_);rintro e w106 ⟨rfl,hb⟩;refine ⟨_,rfl,?_⟩;have n_ := jA (blk_below (g := gb222) (o := .cells #[.bool a0_0,.int .u64 a0_1,.int .u64 a0_2] 100 (0,0)) (by refine bP ?_;refine blk_far ?_ NB222_231.out _;refine bP ?_;refine blk_far ?_ NB222_231.out _;refine bP ?_;refine blk_far ?_ NB222_231.out _;refine bP ?_;exact BK222.out) hb) (jA (blk_below (g := gb223) (o := .cells #[.bool a1_0,.int .u64 a1_1,.int .u64 a1_2] 100 (0,0)) (by refine bP ?_;refine blk_far ?_ NB223_231.out _;refine bP ?_;refine blk_far ?_ NB223_231.out _;refine bP ?_;refine blk_far ?_ NB223_231.out _;refine bP ?_;exact BK223.out) hb) (jA (blk_below (g := gb224) (o := .cells #[.bool false,.int .u64 0,.int .u64 0] 100 (0,0)) (by refine bP ?_;refine blk_far ?_ NB224_231.out _;refine bP ?_;refine blk_far ?_ NB224_231.out _;refine bP ?_;refine blk_far ?_ NB224_231.out _;refine bP ?_;exact BK224.out) hb) (jA (blk_below (g := gb230) (o := .cells #[.bool a0_0,.int .u64 a0_1,.int .u64 a0_2] 100 (0,0)) (by refine bP ?_;refine blk_far ?_ NB230_231.out _;refine bP ?_;refine blk_far ?_ NB230_231.out _;refine bP ?_;refine blk_far ?_ NB230_231.out _;refine bP ?_;exact BK230.out) hb) (jA (blk_below (g := gb231) (o := .cells #[.bool a1_0,.int .u64 a1_1,.int .u64 a1_2] 100 (0,0)) (by refine bP ?_;refine blk_put (cs := #[.bool a1_0,.int .u64 a1_1,.int .u64 0]) ?_ 2 _ rfl;refine bP ?_;refine blk_put (cs := #[.bool a1_0,.int .u64 0,.int .u64 0]) ?_ 1 _ rfl;refine bP ?_;refine blk_put (cs := #[.bool false,.int .u64 0,.int .u64 0]) ?_ 0 _ rfl;refine bP ?_;exact BK231.out) hb) (Aside0.mk (below_step Z555 hb))))));clear BK222 BK223 BK224 BK230 BK231 HB;obtain ⟨BK222,BK223,BK224,BK230,BK231,HB⟩ := n_;(try clear hb);(try clear hb2);(try clear hk);(try clear hi)))
     (try simp only [Act.put,List.setIfInBounds_toArray,List.set_cons_zero,List.set_cons_succ])
     go_cut [] (fun wc => ∃ (kq : Nat) (x231000_85 : Bool) (x231001_85 : Int) (x231002_85 : Int) (x232000_85 : Bool) (x232001_85 : Int) (x232002_85 : Int),Aside0 (spec_AddWide.j1 kq x231000_85 x231001_85 x231002_85 x232000_85 x232001_85 x232002_85 = some (r1,r2,r3,r4)) ∧ Aside0 (kq ≤ kj2) ∧ Aside0 (wc.heap[gb222]? = some (.cells #[.bool a0_0,.int .u64 a0_1,.int .u64 a0_2] 100 (0,0))) ∧ Aside0 (wc.heap[gb223]? = some (.cells #[.bool a1_0,.int .u64 a1_1,.int .u64 a1_2] 100 (0,0))) ∧ Aside0 (wc.heap[gb224]? = some (.cells #[.bool false,.int .u64 0,.int .u64 0] 100 (0,0))) ∧ Aside0 (wc.heap[gb230]? = some (.cells #[.bool x231000_85,.int .u64 x231001_85,.int .u64 x231002_85] 100 (0,0))) ∧ Aside0 (wc.heap[gb231]? = some (.cells #[.bool x232000_85,.int .u64 x232001_85,.int .u64 x232002_85] 100 (0,0))) ∧ Aside0 (Below w.heap.size w wc))
     case first =>
      have H := HC86.out
      clear HC86
      by_cases c107 : t232 < 0
      ·rw [if_pos c107] at H
       have c107b0 : decide (t232 < 0) = true := decide_eq_true c107
       clear c107
       (first | rw [c107b0] | (simp only [i64_w,i32_w];rw [c107b0]) | skip)
       have H' := Aside0.mk H
       clear H
       have hnb108 := NB223_222.out
       have hnc108 := NB222_223.out
       have hnb109 := NB223_224.out
       have hnc109 := NB224_223.out
       have hnb110 := NB223_230.out
       have hnc110 := NB230_223.out
       have hnb111 := NB223_231.out
       have hnc111 := NB231_223.out
       have hcz112_0 : w106.cell? ⟨gb223,0,none⟩ = some (.bool a1_0) := (blk_cell BK223.out 0).trans rfl
       have hcz112_1 : w106.cell? ⟨gb223,1,none⟩ = some (.int .u64 a1_1) := (blk_cell BK223.out 1).trans rfl
       have hcz112_2 : w106.cell? ⟨gb223,2,none⟩ = some (.int .u64 a1_2) := (blk_cell BK223.out 2).trans rfl
       have hzAhcz112 := (held_three hcz112_0 hcz112_1 hcz112_2).1
       have hzBhcz112 := (held_three hcz112_0 hcz112_1 hcz112_2).2.1
       have hzChcz112 := (held_three hcz112_0 hcz112_1 hcz112_2).2.2
       have hfz112_0 := blk_frozen BK223.out 0
       have hfz112_1 := blk_frozen BK223.out 1
       have hfz112_2 := blk_frozen BK223.out 2
       have hnb113 := NB230_222.out
       have hnc113 := NB222_230.out
       have hnb114 := NB230_224.out
       have hnc114 := NB224_230.out
       have hnb115 := NB230_231.out
       have hnc115 := NB231_230.out
       have hcz116_0 : w106.cell? ⟨gb230,0,none⟩ = some (.bool a0_0) := (blk_cell BK230.out 0).trans rfl
       have hcz116_1 : w106.cell? ⟨gb230,1,none⟩ = some (.int .u64 a0_1) := (blk_cell BK230.out 1).trans rfl
       have hcz116_2 : w106.cell? ⟨gb230,2,none⟩ = some (.int .u64 a0_2) := (blk_cell BK230.out 2).trans rfl
       have hzAhcz116 := (held_three hcz116_0 hcz116_1 hcz116_2).1
       have hzBhcz116 := (held_three hcz116_0 hcz116_1 hcz116_2).2.1
       have hzChcz116 := (held_three hcz116_0 hcz116_1 hcz116_2).2.2
       have hfz116_0 := blk_frozen BK230.out 0
       have hfz116_1 := blk_frozen BK230.out 1
       have hfz116_2 := blk_frozen BK230.out 2
       have hnb117 := NB222_224.out
       have hnc117 := NB224_222.out
       have hnb118 := NB222_231.out
       have hnc118 := NB231_222.out
       have hcz119_0 : w106.cell? ⟨gb222,0,none⟩ = some (.bool a0_0) := (blk_cell BK222.out 0).trans rfl
       have hcz119_1 : w106.cell? ⟨gb222,1,none⟩ = some (.int .u64 a0_1) := (blk_cell BK222.out 1).trans rfl
       have hcz119_2 : w106.cell? ⟨gb222,2,none⟩ = some (.int .u64 a0_2) := (blk_cell BK222.out 2).trans rfl
       have hzAhcz119 := (held_three hcz119_0 hcz119_1 hcz119_2).1
       have hzBhcz119 := (held_three hcz119_0 hcz119_1 hcz119_2).2.1
       have hzChcz119 := (held_three hcz119_0 hcz119_1 hcz119_2).2.2
       have hfz119_0 := blk_frozen BK222.out 0
       have hfz119_1 := blk_frozen BK222.out 1
       have hfz119_2 := blk_frozen BK222.out 2
       have hnb120 := NB231_224.out
       have hnc120 := NB224_231.out
       have hcz121_0 : w106.cell? ⟨gb231,0,none⟩ = some (.bool a1_0) := (blk_cell BK231.out 0).trans rfl
       have hcz121_1 : w106.cell? ⟨gb231,1,none⟩ = some (.int .u64 a1_1) := (blk_cell BK231.out 1).trans rfl
       have hcz121_2 : w106.cell? ⟨gb231,2,none⟩ = some (.int .u64 a1_2) := (blk_cell BK231.out 2).trans rfl
       have hzAhcz121 := (held_three hcz121_0 hcz121_1 hcz121_2).1
       have hzBhcz121 := (held_three hcz121_0 hcz121_1 hcz121_2).2.1
       have hzChcz121 := (held_three hcz121_0 hcz121_1 hcz121_2).2.2
       have hfz121_0 := blk_frozen BK231.out 0
       have hfz121_1 := blk_frozen BK231.out 1
       have hfz121_2 := blk_frozen BK231.out 2
       go_wp2
       go_meet
       case rel => exact ⟨_,(a1_0),(a1_1),(a1_2),(a0_0),(a0_1),(a0_2),H',⟨Z286⟩,⟨by refine bP ?_;refine blk_far ?_ NB222_231.out _;refine bP ?_;refine blk_far ?_ NB222_231.out _;refine bP ?_;refine blk_far ?_ NB222_231.out _;refine bP ?_;refine blk_far ?_ NB222_230.out _;refine bP ?_;refine blk_far ?_ NB222_230.out _;refine bP ?_;refine blk_far ?_ NB222_230.out _;refine bP ?_;exact BK222.out⟩,⟨by refine bP ?_;refine blk_far ?_ NB223_231.out _;refine bP ?_;refine blk_far ?_ NB223_231.out _;refine bP ?_;refine blk_far ?_ NB223_231.out _;refine bP ?_;refine blk_far ?_ NB223_230.out _;refine bP ?_;refine blk_far ?_ NB223_230.out _;refine bP ?_;refine blk_far ?_ NB223_230.out _;refine bP ?_;exact BK223.out⟩,⟨by refine bP ?_;refine blk_far ?_ NB224_231.out _;refine bP ?_;refine blk_far ?_ NB224_231.out _;refine bP ?_;refine blk_far ?_ NB224_231.out _;refine bP ?_;refine blk_far ?_ NB224_230.out _;refine bP ?_;refine blk_far ?_ NB224_230.out _;refine bP ?_;refine blk_far ?_ NB224_230.out _;refine bP ?_;exact BK224.out⟩,⟨by refine bP ?_;refine blk_far ?_ NB230_231.out _;refine bP ?_;refine blk_far ?_ NB230_231.out _;refine bP ?_;refine blk_far ?_ NB230_231.out _;refine bP ?_;refine blk_put (cs := #[.bool a1_0,.int .u64 a1_1,.int .u64 a0_2]) ?_ 2 _ rfl;refine bP ?_;refine blk_put (cs := #[.bool a1_0,.int .u64 a0_1,.int .u64 a0_2]) ?_ 1 _ rfl;refine bP ?_;refine blk_put (cs := #[.bool a0_0,.int .u64 a0_1,.int .u64 a0_2]) ?_ 0 _ rfl;refine bP ?_;exact BK230.out⟩,⟨by refine bP ?_;refine blk_put (cs := #[.bool a0_0,.int .u64 a0_1,.int .u64 a1_2]) ?_ 2 _ rfl;refine bP ?_;refine blk_put (cs := #[.bool a0_0,.int .u64 a1_1,.int .u64 a1_2]) ?_ 1 _ rfl;refine bP ?_;refine blk_put (cs := #[.bool a1_0,.int .u64 a1_1,.int .u64 a1_2]) ?_ 0 _ rfl;refine bP ?_;refine blk_far ?_ NB231_230.out _;refine bP ?_;refine blk_far ?_ NB231_230.out _;refine bP ?_;refine blk_far ?_ NB231_230.out _;refine bP ?_;exact BK231.out⟩,⟨Z555⟩⟩
      ·rw [if_neg c107] at H
       have c107b0 : decide (t232 < 0) = false := decide_eq_false c107
       clear c107
       (first | rw [c107b0] | (simp only [i64_w,i32_w];rw [c107b0]) | skip)
       have H' := Aside0.mk H
       clear H
       go_wp2
       go_meet
       case rel => exact ⟨_,(a0_0),(a0_1),(a0_2),(a1_0),(a1_1),(a1_2),H',⟨Z286⟩,⟨Z617⟩,⟨Z620⟩,⟨Z624⟩,⟨Z540⟩,⟨Z539⟩,⟨Z555⟩⟩
     case rest =>
      clear HC86
      try clear c1
      try clear c2
      try clear p2
      try clear c3
      try clear c4
      try clear c5
      try clear c6
      try clear c7
      try clear c8
      try clear c9
      try clear c10
      try clear c11
      try clear c12
      try clear c14
      try clear c15
      try clear c17
      try clear c18
      try clear c21
      try clear c22
      try clear c23
      try clear c25
      try clear c25b0
      try clear c25b1
      try clear c25b2
      try clear c26
      try clear c26b0
      try clear c28
      try clear c29
      try clear c30
      try clear c32
      try clear c35
      try clear c36
      try clear c37
      try clear c43
      try clear c44
      try clear c46
      try clear c49
      try clear c50
      try clear c51
      try clear c57
      try clear c58
      try clear c59
      try clear c61
      try clear c64
      try clear c65
      try clear c66
      try clear c72
      try clear c73
      try clear c75
      try clear c78
      try clear c79
      try clear c80
      try clear c87
      try clear c88
      try clear c90
      try clear c93
      try clear c94
      try clear c95
      try clear c99
      try clear c100
      try clear c101
      try clear c102
      try clear c107
      try clear c107b0
      try clear c108
      try clear c109
      try clear c110
      try clear c111
      try clear c113
      try clear c114
      try clear c115
      try clear c117
      try clear c118
      try clear c120
      try clear hcz103_0
      try clear hcz103_1
      try clear hcz103_2
      try clear hcz104_0
      try clear hcz104_1
      try clear hcz104_2
      try clear hcz105_0
      try clear hcz105_1
      try clear hcz105_2
      try clear hcz112_0
      try clear hcz112_1
      try clear hcz112_2
      try clear hcz116_0
      try clear hcz116_1
      try clear hcz116_2
      try clear hcz119_0
      try clear hcz119_1
      try clear hcz119_2
      try clear hcz121_0
      try clear hcz121_1
      try clear hcz121_2
      try clear hcz12_0
      try clear hcz12_1
      try clear hcz12_2
      try clear hcz15_0
      try clear hcz15_1
      try clear hcz15_2
      try clear hcz19_0
      try clear hcz19_1
      try clear hcz19_2
      try clear hcz24_0
      try clear hcz24_1
      try clear hcz24_2
      try clear hcz31_0
      try clear hcz31_1
      try clear hcz31_2
      try clear hcz33_0
      try clear hcz33_1
      try clear hcz33_2
      try clear hcz38_0
      try clear hcz38_1
      try clear hcz38_2
      try clear hcz39_0
      try clear hcz39_1
      try clear hcz39_2
      try clear hcz41_0
      try clear hcz41_1
      try clear hcz41_2
      try clear hcz42_0
      try clear hcz42_1
      try clear hcz42_2
      try clear hcz45_0
      try clear hcz45_1
      try clear hcz45_2
      try clear hcz47_0
      try clear hcz47_1
      try clear hcz47_2
      try clear hcz52_0
      try clear hcz52_1
      try clear hcz52_2
      try clear hcz53_0
      try clear hcz53_1
      try clear hcz53_2
      try clear hcz55_0
      try clear hcz55_1
      try clear hcz55_2
      try clear hcz60_0
      try clear hcz60_1
      try clear hcz60_2
      try clear hcz62_0
      try clear hcz62_1
      try clear hcz62_2
      try clear hcz67_0
      try clear hcz67_1
      try clear hcz67_2
      try clear hcz68_0
      try clear hcz68_1
      try clear hcz68_2
      try clear hcz70_0
      try clear hcz70_1
      try clear hcz70_2
      try clear hcz71_0
      try clear hcz71_1
      try clear hcz71_2
      try clear hcz74_0
      try clear hcz74_1
      try clear hcz74_2
      try clear hcz76_0
      try clear hcz76_1
      try clear hcz76_2
      try clear hcz81_0
      try clear hcz81_1
      try clear hcz81_2
      try clear hcz82_0
      try clear hcz82_1
      try clear hcz82_2
      try clear hcz84_0
      try clear hcz84_1
      try clear hcz84_2
      try clear hcz89_0
      try clear hcz89_1
      try clear hcz89_2
      try clear hcz91_0
      try clear hcz91_1
      try clear hcz91_2
      try clear hcz96_0
      try clear hcz96_1
      try clear hcz96_2
      try clear hcz97_0
      try clear hcz97_1
      try clear hcz97_2
      try clear hfz103_0
      try clear hfz103_1
      try clear hfz103_2
      try clear hfz104_0
      try clear hfz104_1
      try clear hfz104_2
      try clear hfz105_0
      try clear hfz105_1
      try clear hfz105_2
      try clear hfz112_0
      try clear hfz112_1
      try clear hfz112_2
      try clear hfz116_0
      try clear hfz116_1
      try clear hfz116_2
      try clear hfz119_0
      try clear hfz119_1
      try clear hfz119_2
      try clear hfz121_0
      try clear hfz121_1
      try clear hfz121_2
      try clear hfz12_0
      try clear hfz12_1
      try clear hfz12_2
      try clear hfz15_0
      try clear hfz15_1
      try clear hfz15_2
      try clear hfz19_0
      try clear hfz19_1
      try clear hfz19_2
      try clear hfz24_0
      try clear hfz24_1
      try clear hfz24_2
      try clear hfz31_0
      try clear hfz31_1
      try clear hfz31_2
      try clear hfz33_0
      try clear hfz33_1
      try clear hfz33_2
      try clear hfz38_0
      try clear hfz38_1
      try clear hfz38_2
      try clear hfz39_0
      try clear hfz39_1
      try clear hfz39_2
      try clear hfz41_0
      try clear hfz41_1
      try clear hfz41_2
      try clear hfz42_0
      try clear hfz42_1
      try clear hfz42_2
      try clear hfz45_0
      try clear hfz45_1
      try clear hfz45_2
      try clear hfz47_0
      try clear hfz47_1
      try clear hfz47_2
      try clear hfz52_0
      try clear hfz52_1
      try clear hfz52_2
      try clear hfz53_0
      try clear hfz53_1
      try clear hfz53_2
      try clear hfz55_0
      try clear hfz55_1
      try clear hfz55_2
      try clear hfz60_0
      try clear hfz60_1
      try clear hfz60_2
      try clear hfz62_0
      try clear hfz62_1
      try clear hfz62_2
      try clear hfz67_0
      try clear hfz67_1
      try clear hfz67_2
      try clear hfz68_0
      try clear hfz68_1
      try clear hfz68_2
      try clear hfz70_0
      try clear hfz70_1
      try clear hfz70_2
      try clear hfz71_0
      try clear hfz71_1
      try clear hfz71_2
      try clear hfz74_0
      try clear hfz74_1
      try clear hfz74_2
      try clear hfz76_0
      try clear hfz76_1
      try clear hfz76_2
      try clear hfz81_0
      try clear hfz81_1
      try clear hfz81_2
      try clear hfz82_0
      try clear hfz82_1
      try clear hfz82_2
      try clear hfz84_0
      try clear hfz84_1
      try clear hfz84_2
      try clear hfz89_0
      try clear hfz89_1
      try clear hfz89_2
      try clear hfz91_0
      try clear hfz91_1
      try clear hfz91_2
      try clear hfz96_0
      try clear hfz96_1
      try clear hfz96_2
      try clear hfz97_0
      try clear hfz97_1
      try clear hfz97_2
      try clear p2
      obtain ⟨kq,x231000_85,x231001_85,x231002_85,x232000_85,x232001_85,x232002_85,HA,HJ85,BK222,BK223,BK224,BK230,BK231,HB⟩ := hcut
      cases kq with
      | zero => exact absurd HA.out (by simp [spec_AddWide.j1])
      | succ kj85 =>
       have H := HA.out
       clear HA
       simp only [spec_AddWide.j1] at H
       by_cases c122 : x231002_85 < x232002_85
       ·rw [if_pos c122] at H
        have c122b0 : decide (x231002_85 < x232002_85) = true := decide_eq_true c122
        clear c122
        obtain ⟨t234,A1230,H⟩ := Option.bind_eq_some_iff.mp H
        have A123 := Aside0.mk A1230
        clear A1230
        by_cases c124 : t234 = true
        ·subst c124
         rw [if_pos rfl] at H
         simp only [Option.some.injEq,Prod.mk.injEq] at H
         obtain ⟨rfl,rfl,rfl,rfl⟩ := H
         have hnb125 := NB230_222.out
         have hnc125 := NB222_230.out
         have hnb126 := NB230_223.out
         have hnc126 := NB223_230.out
         have hnb127 := NB230_224.out
         have hnc127 := NB224_230.out
         have hnb128 := NB230_231.out
         have hnc128 := NB231_230.out
         have hcz129_0 : wc.cell? ⟨gb230,0,none⟩ = some (.bool x231000_85) := (blk_cell BK230.out 0).trans rfl
         have hcz129_1 : wc.cell? ⟨gb230,1,none⟩ = some (.int .u64 x231001_85) := (blk_cell BK230.out 1).trans rfl
         have hcz129_2 : wc.cell? ⟨gb230,2,none⟩ = some (.int .u64 x231002_85) := (blk_cell BK230.out 2).trans rfl
         have hzAhcz129 := (held_three hcz129_0 hcz129_1 hcz129_2).1
         have hzBhcz129 := (held_three hcz129_0 hcz129_1 hcz129_2).2.1
         have hzChcz129 := (held_three hcz129_0 hcz129_1 hcz129_2).2.2
         have hfz129_0 := blk_frozen BK230.out 0
         have hfz129_1 := blk_frozen BK230.out 1
         have hfz129_2 := blk_frozen BK230.out 2
         have hnb130 := NB231_222.out
         have hnc130 := NB222_231.out
         have hnb131 := NB231_223.out
         have hnc131 := NB223_231.out
         have hnb132 := NB231_224.out
         have hnc132 := NB224_231.out
         have hcz133_0 : wc.cell? ⟨gb231,0,none⟩ = some (.bool x232000_85) := (blk_cell BK231.out 0).trans rfl
         have hcz133_1 : wc.cell? ⟨gb231,1,none⟩ = some (.int .u64 x232001_85) := (blk_cell BK231.out 1).trans rfl
         have hcz133_2 : wc.cell? ⟨gb231,2,none⟩ = some (.int .u64 x232002_85) := (blk_cell BK231.out 2).trans rfl
         have hzAhcz133 := (held_three hcz133_0 hcz133_1 hcz133_2).1
         have hzBhcz133 := (held_three hcz133_0 hcz133_1 hcz133_2).2.1
         have hzChcz133 := (held_three hcz133_0 hcz133_1 hcz133_2).2.2
         have hfz133_0 := blk_frozen BK231.out 0
         have hfz133_1 := blk_frozen BK231.out 1
         have hfz133_2 := blk_frozen BK231.out 2
         go_wp2_with (first | ((with_reducible refine gate_dst (N := 9) rfl ?_);refine bE 9 #[.bool false,.int .u64 0,.int .u64 0] 100 (h := ?_);intro gb233 hg wq1 hbox hb;have n_ := Z4;clear BK222 BK223 BK224 BK230 BK231 HB;obtain ⟨BK222,BK223,BK224,BK230,BK231,HB,BK233,GW233,GE233,NB222_233,NB233_222,NB223_233,NB233_223,NB224_233,NB233_224,NB230_233,NB233_230,NB231_233,NB233_231⟩ := n_;clear hb hbox hg;have hnbq2 := NB233_222.out;have hncq2 := NB222_233.out;have hnbq3 := NB233_223.out;have hncq3 := NB223_233.out;have hnbq4 := NB233_224.out;have hncq4 := NB224_233.out;have hnbq5 := NB233_230.out;have hncq5 := NB230_233.out;have hnbq6 := NB233_231.out;have hncq6 := NB231_233.out;have hczq7_0 : wq1.cell? ⟨gb233,0,none⟩ = some (.bool false) := (blk_cell BK233.out 0).trans rfl;have hczq7_1 : wq1.cell? ⟨gb233,1,none⟩ = some (.int .u64 0) := (blk_cell BK233.out 1).trans rfl;have hczq7_2 : wq1.cell? ⟨gb233,2,none⟩ = some (.int .u64 0) := (blk_cell BK233.out 2).trans rfl;have hzAhczq7 := (held_three hczq7_0 hczq7_1 hczq7_2).1;have hzBhczq7 := (held_three hczq7_0 hczq7_1 hczq7_2).2.1;have hzChczq7 := (held_three hczq7_0 hczq7_1 hczq7_2).2.2;have hfzq7_0 := blk_frozen BK233.out 0;have hfzq7_1 := blk_frozen BK233.out 1;have hfzq7_2 := blk_frozen BK233.out 2;have hczq8_0 : wq1.cell? ⟨gb230,0,none⟩ = some (.bool x231000_85) := (blk_cell BK230.out 0).trans rfl;have hczq8_1 : wq1.cell? ⟨gb230,1,none⟩ = some (.int .u64 x231001_85) := (blk_cell BK230.out 1).trans rfl;have hczq8_2 : wq1.cell? ⟨gb230,2,none⟩ = some (.int .u64 x231002_85) := (blk_cell BK230.out 2).trans rfl;have hzAhczq8 := (held_three hczq8_0 hczq8_1 hczq8_2).1;have hzBhczq8 := (held_three hczq8_0 hczq8_1 hczq8_2).2.1;have hzChczq8 := (held_three hczq8_0 hczq8_1 hczq8_2).2.2;have hfzq8_0 := blk_frozen BK230.out 0;have hfzq8_1 := blk_frozen BK230.out 1;have hfzq8_2 := blk_frozen BK230.out 2;have hczq9_0 : wq1.cell? ⟨gb231,0,none⟩ = some (.bool x232000_85) := (blk_cell BK231.out 0).trans rfl;have hczq9_1 : wq1.cell? ⟨gb231,1,none⟩ = some (.int .u64 x232001_85) := (blk_cell BK231.out 1).trans rfl;have hczq9_2 : wq1.cell? ⟨gb231,2,none⟩ = some (.int .u64 x232002_85) := (blk_cell BK231.out 2).trans rfl;have hzAhczq9 := (held_three hczq9_0 hczq9_1 hczq9_2).1;have hzBhczq9 := (held_three hczq9_0 hczq9_1 hczq9_2).2.1;have hzChczq9 := (held_three hczq9_0 hczq9_1 hczq9_2).2.2;have hfzq9_0 := blk_frozen BK231.out 0;have hfzq9_1 := blk_frozen BK231.out 1;have hfzq9_2 := blk_frozen BK231.out 2) | ((with_reducible refine gate_callee (f := 144) rfl ?_);refine goesL_ (some 82) rfl rfl Try.func144 Z312 rfl #[.agg #[.bool x231000_85,.int .u64 (IntKind.u64.wrap ((IntKind.u64.wrap (x231001_85 - x232001_85)) - 1)),.int .u64 (IntKind.u64.wrap (x231002_85 - x232002_85))]] rfl Z256 ?_;(with_reducible refine (spec_l3Zero.calls x231000_85 (IntKind.u64.wrap ((IntKind.u64.wrap (x231001_85 - x232001_85)) - 1)) (IntKind.u64.wrap (x231002_85 - x232002_85)) true _ A123.out).mono ?_);rintro e wq10 ⟨rfl,hb⟩;refine ⟨_,rfl,?_⟩;have n_ := Z12;clear BK222 BK223 BK224 BK230 BK231 BK233 HB;obtain ⟨BK222,BK223,BK224,BK230,BK231,BK233,HB⟩ := n_;(try clear hb);(try clear hb2);(try clear hk);(try clear hi);have hczq11_0 : wq10.cell? ⟨gb233,0,none⟩ = some (.bool x231000_85) := (blk_cell BK233.out 0).trans rfl;have hczq11_1 : wq10.cell? ⟨gb233,1,none⟩ = some (.int .u64 (IntKind.u64.wrap ((IntKind.u64.wrap (x231001_85 - x232001_85)) - 1))) := (blk_cell BK233.out 1).trans rfl;have hczq11_2 : wq10.cell? ⟨gb233,2,none⟩ = some (.int .u64 (IntKind.u64.wrap (x231002_85 - x232002_85))) := (blk_cell BK233.out 2).trans rfl;have hzAhczq11 := (held_three hczq11_0 hczq11_1 hczq11_2).1;have hzBhczq11 := (held_three hczq11_0 hczq11_1 hczq11_2).2.1;have hzChczq11 := (held_three hczq11_0 hczq11_1 hczq11_2).2.2;have hfzq11_0 := blk_frozen BK233.out 0;have hfzq11_1 := blk_frozen BK233.out 1;have hfzq11_2 := blk_frozen BK233.out 2;have hnbq12 := NB224_222.out;have hncq12 := NB222_224.out;have hnbq13 := NB224_223.out;have hncq13 := NB223_224.out;have hczq14_0 : wq10.cell? ⟨gb224,0,none⟩ = some (.bool false) := (blk_cell BK224.out 0).trans rfl;have hczq14_1 : wq10.cell? ⟨gb224,1,none⟩ = some (.int .u64 0) := (blk_cell BK224.out 1).trans rfl;have hczq14_2 : wq10.cell? ⟨gb224,2,none⟩ = some (.int .u64 0) := (blk_cell BK224.out 2).trans rfl;have hzAhczq14 := (held_three hczq14_0 hczq14_1 hczq14_2).1;have hzBhczq14 := (held_three hczq14_0 hczq14_1 hczq14_2).2.1;have hzChczq14 := (held_three hczq14_0 hczq14_1 hczq14_2).2.2;have hfzq14_0 := blk_frozen BK224.out 0;have hfzq14_1 := blk_frozen BK224.out 1;have hfzq14_2 := blk_frozen BK224.out 2))
         refine bodyPost_ret (results_ct rfl _ _ gb224 100 #[.bool false,.int .u64 (IntKind.u64.wrap ((IntKind.u64.wrap (x231001_85 - x232001_85)) - 1)),.int .u64 (IntKind.u64.wrap (x231002_85 - x232002_85))] (0,0) _ rfl (by refine bP ?_;refine blk_put (cs := #[.bool false,.int .u64 (IntKind.u64.wrap ((IntKind.u64.wrap (x231001_85 - x232001_85)) - 1)),.int .u64 0]) ?_ 2 _ rfl;refine bP ?_;refine blk_put (cs := #[.bool false,.int .u64 0,.int .u64 0]) ?_ 1 _ rfl;refine bP ?_;refine blk_put (cs := #[.bool false,.int .u64 0,.int .u64 0]) ?_ 0 _ rfl;refine bP ?_;refine blk_far ?_ NB224_233.out _;refine bP ?_;exact BK224.out) Try.underlying100 rfl Z312) rfl ?_
         exact ⟨Z263,Z317⟩
        ·replace c124 := Bool.eq_false_iff.mpr c124
         subst c124
         rw [if_neg Bool.false_ne_true] at H
         simp only [Option.some.injEq,Prod.mk.injEq] at H
         obtain ⟨rfl,rfl,rfl,rfl⟩ := H
         have hnb148 := NB230_222.out
         have hnc148 := NB222_230.out
         have hnb149 := NB230_223.out
         have hnc149 := NB223_230.out
         have hnb150 := NB230_224.out
         have hnc150 := NB224_230.out
         have hnb151 := NB230_231.out
         have hnc151 := NB231_230.out
         have hcz152_0 : wc.cell? ⟨gb230,0,none⟩ = some (.bool x231000_85) := (blk_cell BK230.out 0).trans rfl
         have hcz152_1 : wc.cell? ⟨gb230,1,none⟩ = some (.int .u64 x231001_85) := (blk_cell BK230.out 1).trans rfl
         have hcz152_2 : wc.cell? ⟨gb230,2,none⟩ = some (.int .u64 x231002_85) := (blk_cell BK230.out 2).trans rfl
         have hzAhcz152 := (held_three hcz152_0 hcz152_1 hcz152_2).1
         have hzBhcz152 := (held_three hcz152_0 hcz152_1 hcz152_2).2.1
         have hzChcz152 := (held_three hcz152_0 hcz152_1 hcz152_2).2.2
         have hfz152_0 := blk_frozen BK230.out 0
         have hfz152_1 := blk_frozen BK230.out 1
         have hfz152_2 := blk_frozen BK230.out 2
         have hnb153 := NB231_222.out
         have hnc153 := NB222_231.out
         have hnb154 := NB231_223.out
         have hnc154 := NB223_231.out
         have hnb155 := NB231_224.out
         have hnc155 := NB224_231.out
         have hcz156_0 : wc.cell? ⟨gb231,0,none⟩ = some (.bool x232000_85) := (blk_cell BK231.out 0).trans rfl
         have hcz156_1 : wc.cell? ⟨gb231,1,none⟩ = some (.int .u64 x232001_85) := (blk_cell BK231.out 1).trans rfl
         have hcz156_2 : wc.cell? ⟨gb231,2,none⟩ = some (.int .u64 x232002_85) := (blk_cell BK231.out 2).trans rfl
         have hzAhcz156 := (held_three hcz156_0 hcz156_1 hcz156_2).1
         have hzBhcz156 := (held_three hcz156_0 hcz156_1 hcz156_2).2.1
         have hzChcz156 := (held_three hcz156_0 hcz156_1 hcz156_2).2.2
         have hfz156_0 := blk_frozen BK231.out 0
         have hfz156_1 := blk_frozen BK231.out 1
         have hfz156_2 := blk_frozen BK231.out 2
         go_wp2_with (first | ((with_reducible refine gate_dst (N := 9) rfl ?_);refine bE 9 #[.bool false,.int .u64 0,.int .u64 0] 100 (h := ?_);intro gb233 hg wq1 hbox hb;have n_ := Z4;clear BK222 BK223 BK224 BK230 BK231 HB;obtain ⟨BK222,BK223,BK224,BK230,BK231,HB,BK233,GW233,GE233,NB222_233,NB233_222,NB223_233,NB233_223,NB224_233,NB233_224,NB230_233,NB233_230,NB231_233,NB233_231⟩ := n_;clear hb hbox hg;have hnbq2 := NB233_222.out;have hncq2 := NB222_233.out;have hnbq3 := NB233_223.out;have hncq3 := NB223_233.out;have hnbq4 := NB233_224.out;have hncq4 := NB224_233.out;have hnbq5 := NB233_230.out;have hncq5 := NB230_233.out;have hnbq6 := NB233_231.out;have hncq6 := NB231_233.out;have hczq7_0 : wq1.cell? ⟨gb233,0,none⟩ = some (.bool false) := (blk_cell BK233.out 0).trans rfl;have hczq7_1 : wq1.cell? ⟨gb233,1,none⟩ = some (.int .u64 0) := (blk_cell BK233.out 1).trans rfl;have hczq7_2 : wq1.cell? ⟨gb233,2,none⟩ = some (.int .u64 0) := (blk_cell BK233.out 2).trans rfl;have hzAhczq7 := (held_three hczq7_0 hczq7_1 hczq7_2).1;have hzBhczq7 := (held_three hczq7_0 hczq7_1 hczq7_2).2.1;have hzChczq7 := (held_three hczq7_0 hczq7_1 hczq7_2).2.2;have hfzq7_0 := blk_frozen BK233.out 0;have hfzq7_1 := blk_frozen BK233.out 1;have hfzq7_2 := blk_frozen BK233.out 2;have hczq8_0 : wq1.cell? ⟨gb230,0,none⟩ = some (.bool x231000_85) := (blk_cell BK230.out 0).trans rfl;have hczq8_1 : wq1.cell? ⟨gb230,1,none⟩ = some (.int .u64 x231001_85) := (blk_cell BK230.out 1).trans rfl;have hczq8_2 : wq1.cell? ⟨gb230,2,none⟩ = some (.int .u64 x231002_85) := (blk_cell BK230.out 2).trans rfl;have hzAhczq8 := (held_three hczq8_0 hczq8_1 hczq8_2).1;have hzBhczq8 := (held_three hczq8_0 hczq8_1 hczq8_2).2.1;have hzChczq8 := (held_three hczq8_0 hczq8_1 hczq8_2).2.2;have hfzq8_0 := blk_frozen BK230.out 0;have hfzq8_1 := blk_frozen BK230.out 1;have hfzq8_2 := blk_frozen BK230.out 2;have hczq9_0 : wq1.cell? ⟨gb231,0,none⟩ = some (.bool x232000_85) := (blk_cell BK231.out 0).trans rfl;have hczq9_1 : wq1.cell? ⟨gb231,1,none⟩ = some (.int .u64 x232001_85) := (blk_cell BK231.out 1).trans rfl;have hczq9_2 : wq1.cell? ⟨gb231,2,none⟩ = some (.int .u64 x232002_85) := (blk_cell BK231.out 2).trans rfl;have hzAhczq9 := (held_three hczq9_0 hczq9_1 hczq9_2).1;have hzBhczq9 := (held_three hczq9_0 hczq9_1 hczq9_2).2.1;have hzChczq9 := (held_three hczq9_0 hczq9_1 hczq9_2).2.2;have hfzq9_0 := blk_frozen BK231.out 0;have hfzq9_1 := blk_frozen BK231.out 1;have hfzq9_2 := blk_frozen BK231.out 2) | ((with_reducible refine gate_callee (f := 144) rfl ?_);refine goesL_ (some 82) rfl rfl Try.func144 Z312 rfl #[.agg #[.bool x231000_85,.int .u64 (IntKind.u64.wrap ((IntKind.u64.wrap (x231001_85 - x232001_85)) - 1)),.int .u64 (IntKind.u64.wrap (x231002_85 - x232002_85))]] rfl Z256 ?_;(with_reducible refine (spec_l3Zero.calls x231000_85 (IntKind.u64.wrap ((IntKind.u64.wrap (x231001_85 - x232001_85)) - 1)) (IntKind.u64.wrap (x231002_85 - x232002_85)) false _ A123.out).mono ?_);rintro e wq10 ⟨rfl,hb⟩;refine ⟨_,rfl,?_⟩;have n_ := Z12;clear BK222 BK223 BK224 BK230 BK231 BK233 HB;obtain ⟨BK222,BK223,BK224,BK230,BK231,BK233,HB⟩ := n_;(try clear hb);(try clear hb2);(try clear hk);(try clear hi);have hczq11_0 : wq10.cell? ⟨gb233,0,none⟩ = some (.bool x231000_85) := (blk_cell BK233.out 0).trans rfl;have hczq11_1 : wq10.cell? ⟨gb233,1,none⟩ = some (.int .u64 (IntKind.u64.wrap ((IntKind.u64.wrap (x231001_85 - x232001_85)) - 1))) := (blk_cell BK233.out 1).trans rfl;have hczq11_2 : wq10.cell? ⟨gb233,2,none⟩ = some (.int .u64 (IntKind.u64.wrap (x231002_85 - x232002_85))) := (blk_cell BK233.out 2).trans rfl;have hzAhczq11 := (held_three hczq11_0 hczq11_1 hczq11_2).1;have hzBhczq11 := (held_three hczq11_0 hczq11_1 hczq11_2).2.1;have hzChczq11 := (held_three hczq11_0 hczq11_1 hczq11_2).2.2;have hfzq11_0 := blk_frozen BK233.out 0;have hfzq11_1 := blk_frozen BK233.out 1;have hfzq11_2 := blk_frozen BK233.out 2;have hnbq12 := NB224_222.out;have hncq12 := NB222_224.out;have hnbq13 := NB224_223.out;have hncq13 := NB223_224.out;have hczq14_0 : wq10.cell? ⟨gb224,0,none⟩ = some (.bool false) := (blk_cell BK224.out 0).trans rfl;have hczq14_1 : wq10.cell? ⟨gb224,1,none⟩ = some (.int .u64 0) := (blk_cell BK224.out 1).trans rfl;have hczq14_2 : wq10.cell? ⟨gb224,2,none⟩ = some (.int .u64 0) := (blk_cell BK224.out 2).trans rfl;have hzAhczq14 := (held_three hczq14_0 hczq14_1 hczq14_2).1;have hzBhczq14 := (held_three hczq14_0 hczq14_1 hczq14_2).2.1;have hzChczq14 := (held_three hczq14_0 hczq14_1 hczq14_2).2.2;have hfzq14_0 := blk_frozen BK224.out 0;have hfzq14_1 := blk_frozen BK224.out 1;have hfzq14_2 := blk_frozen BK224.out 2))
         refine bodyPost_ret (results_ct rfl _ _ gb224 100 #[.bool x231000_85,.int .u64 (IntKind.u64.wrap ((IntKind.u64.wrap (x231001_85 - x232001_85)) - 1)),.int .u64 (IntKind.u64.wrap (x231002_85 - x232002_85))] (0,0) _ rfl (by refine bP ?_;refine blk_put (cs := #[.bool x231000_85,.int .u64 (IntKind.u64.wrap ((IntKind.u64.wrap (x231001_85 - x232001_85)) - 1)),.int .u64 0]) ?_ 2 _ rfl;refine bP ?_;refine blk_put (cs := #[.bool x231000_85,.int .u64 0,.int .u64 0]) ?_ 1 _ rfl;refine bP ?_;refine blk_put (cs := #[.bool false,.int .u64 0,.int .u64 0]) ?_ 0 _ rfl;refine bP ?_;exact BK224.out) Try.underlying100 rfl Z312) rfl ?_
         exact ⟨Z263,Z317⟩
       ·rw [if_neg c122] at H
        have c122b0 : decide (x231002_85 < x232002_85) = false := decide_eq_false c122
        clear c122
        obtain ⟨t235,A1710,H⟩ := Option.bind_eq_some_iff.mp H
        have A171 := Aside0.mk A1710
        clear A1710
        by_cases c172 : t235 = true
        ·subst c172
         rw [if_pos rfl] at H
         simp only [Option.some.injEq,Prod.mk.injEq] at H
         obtain ⟨rfl,rfl,rfl,rfl⟩ := H
         have hnb173 := NB230_222.out
         have hnc173 := NB222_230.out
         have hnb174 := NB230_223.out
         have hnc174 := NB223_230.out
         have hnb175 := NB230_224.out
         have hnc175 := NB224_230.out
         have hnb176 := NB230_231.out
         have hnc176 := NB231_230.out
         have hcz177_0 : wc.cell? ⟨gb230,0,none⟩ = some (.bool x231000_85) := (blk_cell BK230.out 0).trans rfl
         have hcz177_1 : wc.cell? ⟨gb230,1,none⟩ = some (.int .u64 x231001_85) := (blk_cell BK230.out 1).trans rfl
         have hcz177_2 : wc.cell? ⟨gb230,2,none⟩ = some (.int .u64 x231002_85) := (blk_cell BK230.out 2).trans rfl
         have hzAhcz177 := (held_three hcz177_0 hcz177_1 hcz177_2).1
         have hzBhcz177 := (held_three hcz177_0 hcz177_1 hcz177_2).2.1
         have hzChcz177 := (held_three hcz177_0 hcz177_1 hcz177_2).2.2
         have hfz177_0 := blk_frozen BK230.out 0
         have hfz177_1 := blk_frozen BK230.out 1
         have hfz177_2 := blk_frozen BK230.out 2
         have hnb178 := NB231_222.out
         have hnc178 := NB222_231.out
         have hnb179 := NB231_223.out
         have hnc179 := NB223_231.out
         have hnb180 := NB231_224.out
         have hnc180 := NB224_231.out
         have hcz181_0 : wc.cell? ⟨gb231,0,none⟩ = some (.bool x232000_85) := (blk_cell BK231.out 0).trans rfl
         have hcz181_1 : wc.cell? ⟨gb231,1,none⟩ = some (.int .u64 x232001_85) := (blk_cell BK231.out 1).trans rfl
         have hcz181_2 : wc.cell? ⟨gb231,2,none⟩ = some (.int .u64 x232002_85) := (blk_cell BK231.out 2).trans rfl
         have hzAhcz181 := (held_three hcz181_0 hcz181_1 hcz181_2).1
         have hzBhcz181 := (held_three hcz181_0 hcz181_1 hcz181_2).2.1
         have hzChcz181 := (held_three hcz181_0 hcz181_1 hcz181_2).2.2
         have hfz181_0 := blk_frozen BK231.out 0
         have hfz181_1 := blk_frozen BK231.out 1
         have hfz181_2 := blk_frozen BK231.out 2
         go_wp2_with (first | ((with_reducible refine gate_dst (N := 9) rfl ?_);refine bE 9 #[.bool false,.int .u64 0,.int .u64 0] 100 (h := ?_);intro gb233 hg wq1 hbox hb;have n_ := Z4;clear BK222 BK223 BK224 BK230 BK231 HB;obtain ⟨BK222,BK223,BK224,BK230,BK231,HB,BK233,GW233,GE233,NB222_233,NB233_222,NB223_233,NB233_223,NB224_233,NB233_224,NB230_233,NB233_230,NB231_233,NB233_231⟩ := n_;clear hb hbox hg;have hnbq2 := NB233_222.out;have hncq2 := NB222_233.out;have hnbq3 := NB233_223.out;have hncq3 := NB223_233.out;have hnbq4 := NB233_224.out;have hncq4 := NB224_233.out;have hnbq5 := NB233_230.out;have hncq5 := NB230_233.out;have hnbq6 := NB233_231.out;have hncq6 := NB231_233.out;have hczq7_0 : wq1.cell? ⟨gb233,0,none⟩ = some (.bool false) := (blk_cell BK233.out 0).trans rfl;have hczq7_1 : wq1.cell? ⟨gb233,1,none⟩ = some (.int .u64 0) := (blk_cell BK233.out 1).trans rfl;have hczq7_2 : wq1.cell? ⟨gb233,2,none⟩ = some (.int .u64 0) := (blk_cell BK233.out 2).trans rfl;have hzAhczq7 := (held_three hczq7_0 hczq7_1 hczq7_2).1;have hzBhczq7 := (held_three hczq7_0 hczq7_1 hczq7_2).2.1;have hzChczq7 := (held_three hczq7_0 hczq7_1 hczq7_2).2.2;have hfzq7_0 := blk_frozen BK233.out 0;have hfzq7_1 := blk_frozen BK233.out 1;have hfzq7_2 := blk_frozen BK233.out 2;have hczq8_0 : wq1.cell? ⟨gb230,0,none⟩ = some (.bool x231000_85) := (blk_cell BK230.out 0).trans rfl;have hczq8_1 : wq1.cell? ⟨gb230,1,none⟩ = some (.int .u64 x231001_85) := (blk_cell BK230.out 1).trans rfl;have hczq8_2 : wq1.cell? ⟨gb230,2,none⟩ = some (.int .u64 x231002_85) := (blk_cell BK230.out 2).trans rfl;have hzAhczq8 := (held_three hczq8_0 hczq8_1 hczq8_2).1;have hzBhczq8 := (held_three hczq8_0 hczq8_1 hczq8_2).2.1;have hzChczq8 := (held_three hczq8_0 hczq8_1 hczq8_2).2.2;have hfzq8_0 := blk_frozen BK230.out 0;have hfzq8_1 := blk_frozen BK230.out 1;have hfzq8_2 := blk_frozen BK230.out 2;have hczq9_0 : wq1.cell? ⟨gb231,0,none⟩ = some (.bool x232000_85) := (blk_cell BK231.out 0).trans rfl;have hczq9_1 : wq1.cell? ⟨gb231,1,none⟩ = some (.int .u64 x232001_85) := (blk_cell BK231.out 1).trans rfl;have hczq9_2 : wq1.cell? ⟨gb231,2,none⟩ = some (.int .u64 x232002_85) := (blk_cell BK231.out 2).trans rfl;have hzAhczq9 := (held_three hczq9_0 hczq9_1 hczq9_2).1;have hzBhczq9 := (held_three hczq9_0 hczq9_1 hczq9_2).2.1;have hzChczq9 := (held_three hczq9_0 hczq9_1 hczq9_2).2.2;have hfzq9_0 := blk_frozen BK231.out 0;have hfzq9_1 := blk_frozen BK231.out 1;have hfzq9_2 := blk_frozen BK231.out 2) | ((with_reducible refine gate_callee (f := 144) rfl ?_);refine goesL_ (some 82) rfl rfl Try.func144 Z312 rfl #[.agg #[.bool x231000_85,.int .u64 (IntKind.u64.wrap (x231001_85 - x232001_85)),.int .u64 (IntKind.u64.wrap (x231002_85 - x232002_85))]] rfl Z256 ?_;(with_reducible refine (spec_l3Zero.calls x231000_85 (IntKind.u64.wrap (x231001_85 - x232001_85)) (IntKind.u64.wrap (x231002_85 - x232002_85)) true _ A171.out).mono ?_);rintro e wq10 ⟨rfl,hb⟩;refine ⟨_,rfl,?_⟩;have n_ := Z25;clear BK222 BK223 BK224 BK230 BK231 BK233 HB;obtain ⟨BK222,BK223,BK224,BK230,BK231,BK233,HB⟩ := n_;(try clear hb);(try clear hb2);(try clear hk);(try clear hi);have hczq11_0 : wq10.cell? ⟨gb233,0,none⟩ = some (.bool x231000_85) := (blk_cell BK233.out 0).trans rfl;have hczq11_1 : wq10.cell? ⟨gb233,1,none⟩ = some (.int .u64 (IntKind.u64.wrap (x231001_85 - x232001_85))) := (blk_cell BK233.out 1).trans rfl;have hczq11_2 : wq10.cell? ⟨gb233,2,none⟩ = some (.int .u64 (IntKind.u64.wrap (x231002_85 - x232002_85))) := (blk_cell BK233.out 2).trans rfl;have hzAhczq11 := (held_three hczq11_0 hczq11_1 hczq11_2).1;have hzBhczq11 := (held_three hczq11_0 hczq11_1 hczq11_2).2.1;have hzChczq11 := (held_three hczq11_0 hczq11_1 hczq11_2).2.2;have hfzq11_0 := blk_frozen BK233.out 0;have hfzq11_1 := blk_frozen BK233.out 1;have hfzq11_2 := blk_frozen BK233.out 2;have hnbq12 := NB224_222.out;have hncq12 := NB222_224.out;have hnbq13 := NB224_223.out;have hncq13 := NB223_224.out;have hczq14_0 : wq10.cell? ⟨gb224,0,none⟩ = some (.bool false) := (blk_cell BK224.out 0).trans rfl;have hczq14_1 : wq10.cell? ⟨gb224,1,none⟩ = some (.int .u64 0) := (blk_cell BK224.out 1).trans rfl;have hczq14_2 : wq10.cell? ⟨gb224,2,none⟩ = some (.int .u64 0) := (blk_cell BK224.out 2).trans rfl;have hzAhczq14 := (held_three hczq14_0 hczq14_1 hczq14_2).1;have hzBhczq14 := (held_three hczq14_0 hczq14_1 hczq14_2).2.1;have hzChczq14 := (held_three hczq14_0 hczq14_1 hczq14_2).2.2;have hfzq14_0 := blk_frozen BK224.out 0;have hfzq14_1 := blk_frozen BK224.out 1;have hfzq14_2 := blk_frozen BK224.out 2))
         refine bodyPost_ret (results_ct rfl _ _ gb224 100 #[.bool false,.int .u64 (IntKind.u64.wrap (x231001_85 - x232001_85)),.int .u64 (IntKind.u64.wrap (x231002_85 - x232002_85))] (0,0) _ rfl (by refine bP ?_;refine blk_put (cs := #[.bool false,.int .u64 (IntKind.u64.wrap (x231001_85 - x232001_85)),.int .u64 0]) ?_ 2 _ rfl;refine bP ?_;refine blk_put (cs := #[.bool false,.int .u64 0,.int .u64 0]) ?_ 1 _ rfl;refine bP ?_;refine blk_put (cs := #[.bool false,.int .u64 0,.int .u64 0]) ?_ 0 _ rfl;refine bP ?_;refine blk_far ?_ NB224_233.out _;refine bP ?_;exact BK224.out) Try.underlying100 rfl Z312) rfl ?_
         exact ⟨Z263,Z317⟩
        ·replace c172 := Bool.eq_false_iff.mpr c172
         subst c172
         rw [if_neg Bool.false_ne_true] at H
         simp only [Option.some.injEq,Prod.mk.injEq] at H
         obtain ⟨rfl,rfl,rfl,rfl⟩ := H
         have hnb196 := NB230_222.out
         have hnc196 := NB222_230.out
         have hnb197 := NB230_223.out
         have hnc197 := NB223_230.out
         have hnb198 := NB230_224.out
         have hnc198 := NB224_230.out
         have hnb199 := NB230_231.out
         have hnc199 := NB231_230.out
         have hcz200_0 : wc.cell? ⟨gb230,0,none⟩ = some (.bool x231000_85) := (blk_cell BK230.out 0).trans rfl
         have hcz200_1 : wc.cell? ⟨gb230,1,none⟩ = some (.int .u64 x231001_85) := (blk_cell BK230.out 1).trans rfl
         have hcz200_2 : wc.cell? ⟨gb230,2,none⟩ = some (.int .u64 x231002_85) := (blk_cell BK230.out 2).trans rfl
         have hzAhcz200 := (held_three hcz200_0 hcz200_1 hcz200_2).1
         have hzBhcz200 := (held_three hcz200_0 hcz200_1 hcz200_2).2.1
         have hzChcz200 := (held_three hcz200_0 hcz200_1 hcz200_2).2.2
         have hfz200_0 := blk_frozen BK230.out 0
         have hfz200_1 := blk_frozen BK230.out 1
         have hfz200_2 := blk_frozen BK230.out 2
         have hnb201 := NB231_222.out
         have hnc201 := NB222_231.out
         have hnb202 := NB231_223.out
         have hnc202 := NB223_231.out
         have hnb203 := NB231_224.out
         have hnc203 := NB224_231.out
         have hcz204_0 : wc.cell? ⟨gb231,0,none⟩ = some (.bool x232000_85) := (blk_cell BK231.out 0).trans rfl
         have hcz204_1 : wc.cell? ⟨gb231,1,none⟩ = some (.int .u64 x232001_85) := (blk_cell BK231.out 1).trans rfl
         have hcz204_2 : wc.cell? ⟨gb231,2,none⟩ = some (.int .u64 x232002_85) := (blk_cell BK231.out 2).trans rfl
         have hzAhcz204 := (held_three hcz204_0 hcz204_1 hcz204_2).1
         have hzBhcz204 := (held_three hcz204_0 hcz204_1 hcz204_2).2.1
         have hzChcz204 := (held_three hcz204_0 hcz204_1 hcz204_2).2.2
         have hfz204_0 := blk_frozen BK231.out 0
         have hfz204_1 := blk_frozen BK231.out 1
         have hfz204_2 := blk_frozen BK231.out 2
         go_wp2_with (first | ((with_reducible refine gate_dst (N := 9) rfl ?_);refine bE 9 #[.bool false,.int .u64 0,.int .u64 0] 100 (h := ?_);intro gb233 hg wq1 hbox hb;have n_ := Z4;clear BK222 BK223 BK224 BK230 BK231 HB;obtain ⟨BK222,BK223,BK224,BK230,BK231,HB,BK233,GW233,GE233,NB222_233,NB233_222,NB223_233,NB233_223,NB224_233,NB233_224,NB230_233,NB233_230,NB231_233,NB233_231⟩ := n_;clear hb hbox hg;have hnbq2 := NB233_222.out;have hncq2 := NB222_233.out;have hnbq3 := NB233_223.out;have hncq3 := NB223_233.out;have hnbq4 := NB233_224.out;have hncq4 := NB224_233.out;have hnbq5 := NB233_230.out;have hncq5 := NB230_233.out;have hnbq6 := NB233_231.out;have hncq6 := NB231_233.out;have hczq7_0 : wq1.cell? ⟨gb233,0,none⟩ = some (.bool false) := (blk_cell BK233.out 0).trans rfl;have hczq7_1 : wq1.cell? ⟨gb233,1,none⟩ = some (.int .u64 0) := (blk_cell BK233.out 1).trans rfl;have hczq7_2 : wq1.cell? ⟨gb233,2,none⟩ = some (.int .u64 0) := (blk_cell BK233.out 2).trans rfl;have hzAhczq7 := (held_three hczq7_0 hczq7_1 hczq7_2).1;have hzBhczq7 := (held_three hczq7_0 hczq7_1 hczq7_2).2.1;have hzChczq7 := (held_three hczq7_0 hczq7_1 hczq7_2).2.2;have hfzq7_0 := blk_frozen BK233.out 0;have hfzq7_1 := blk_frozen BK233.out 1;have hfzq7_2 := blk_frozen BK233.out 2;have hczq8_0 : wq1.cell? ⟨gb230,0,none⟩ = some (.bool x231000_85) := (blk_cell BK230.out 0).trans rfl;have hczq8_1 : wq1.cell? ⟨gb230,1,none⟩ = some (.int .u64 x231001_85) := (blk_cell BK230.out 1).trans rfl;have hczq8_2 : wq1.cell? ⟨gb230,2,none⟩ = some (.int .u64 x231002_85) := (blk_cell BK230.out 2).trans rfl;have hzAhczq8 := (held_three hczq8_0 hczq8_1 hczq8_2).1;have hzBhczq8 := (held_three hczq8_0 hczq8_1 hczq8_2).2.1;have hzChczq8 := (held_three hczq8_0 hczq8_1 hczq8_2).2.2;have hfzq8_0 := blk_frozen BK230.out 0;have hfzq8_1 := blk_frozen BK230.out 1;have hfzq8_2 := blk_frozen BK230.out 2;have hczq9_0 : wq1.cell? ⟨gb231,0,none⟩ = some (.bool x232000_85) := (blk_cell BK231.out 0).trans rfl;have hczq9_1 : wq1.cell? ⟨gb231,1,none⟩ = some (.int .u64 x232001_85) := (blk_cell BK231.out 1).trans rfl;have hczq9_2 : wq1.cell? ⟨gb231,2,none⟩ = some (.int .u64 x232002_85) := (blk_cell BK231.out 2).trans rfl;have hzAhczq9 := (held_three hczq9_0 hczq9_1 hczq9_2).1;have hzBhczq9 := (held_three hczq9_0 hczq9_1 hczq9_2).2.1;have hzChczq9 := (held_three hczq9_0 hczq9_1 hczq9_2).2.2;have hfzq9_0 := blk_frozen BK231.out 0;have hfzq9_1 := blk_frozen BK231.out 1;have hfzq9_2 := blk_frozen BK231.out 2) | ((with_reducible refine gate_callee (f := 144) rfl ?_);refine goesL_ (some 82) rfl rfl Try.func144 Z312 rfl #[.agg #[.bool x231000_85,.int .u64 (IntKind.u64.wrap (x231001_85 - x232001_85)),.int .u64 (IntKind.u64.wrap (x231002_85 - x232002_85))]] rfl Z256 ?_;(with_reducible refine (spec_l3Zero.calls x231000_85 (IntKind.u64.wrap (x231001_85 - x232001_85)) (IntKind.u64.wrap (x231002_85 - x232002_85)) false _ A171.out).mono ?_);rintro e wq10 ⟨rfl,hb⟩;refine ⟨_,rfl,?_⟩;have n_ := Z25;clear BK222 BK223 BK224 BK230 BK231 BK233 HB;obtain ⟨BK222,BK223,BK224,BK230,BK231,BK233,HB⟩ := n_;(try clear hb);(try clear hb2);(try clear hk);(try clear hi);have hczq11_0 : wq10.cell? ⟨gb233,0,none⟩ = some (.bool x231000_85) := (blk_cell BK233.out 0).trans rfl;have hczq11_1 : wq10.cell? ⟨gb233,1,none⟩ = some (.int .u64 (IntKind.u64.wrap (x231001_85 - x232001_85))) := (blk_cell BK233.out 1).trans rfl;have hczq11_2 : wq10.cell? ⟨gb233,2,none⟩ = some (.int .u64 (IntKind.u64.wrap (x231002_85 - x232002_85))) := (blk_cell BK233.out 2).trans rfl;have hzAhczq11 := (held_three hczq11_0 hczq11_1 hczq11_2).1;have hzBhczq11 := (held_three hczq11_0 hczq11_1 hczq11_2).2.1;have hzChczq11 := (held_three hczq11_0 hczq11_1 hczq11_2).2.2;have hfzq11_0 := blk_frozen BK233.out 0;have hfzq11_1 := blk_frozen BK233.out 1;have hfzq11_2 := blk_frozen BK233.out 2;have hnbq12 := NB224_222.out;have hncq12 := NB222_224.out;have hnbq13 := NB224_223.out;have hncq13 := NB223_224.out;have hczq14_0 : wq10.cell? ⟨gb224,0,none⟩ = some (.bool false) := (blk_cell BK224.out 0).trans rfl;have hczq14_1 : wq10.cell? ⟨gb224,1,none⟩ = some (.int .u64 0) := (blk_cell BK224.out 1).trans rfl;have hczq14_2 : wq10.cell? ⟨gb224,2,none⟩ = some (.int .u64 0) := (blk_cell BK224.out 2).trans rfl;have hzAhczq14 := (held_three hczq14_0 hczq14_1 hczq14_2).1;have hzBhczq14 := (held_three hczq14_0 hczq14_1 hczq14_2).2.1;have hzChczq14 := (held_three hczq14_0 hczq14_1 hczq14_2).2.2;have hfzq14_0 := blk_frozen BK224.out 0;have hfzq14_1 := blk_frozen BK224.out 1;have hfzq14_2 := blk_frozen BK224.out 2))
         refine bodyPost_ret (results_ct rfl _ _ gb224 100 #[.bool x231000_85,.int .u64 (IntKind.u64.wrap (x231001_85 - x232001_85)),.int .u64 (IntKind.u64.wrap (x231002_85 - x232002_85))] (0,0) _ rfl (by refine bP ?_;refine blk_put (cs := #[.bool x231000_85,.int .u64 (IntKind.u64.wrap (x231001_85 - x232001_85)),.int .u64 0]) ?_ 2 _ rfl;refine bP ?_;refine blk_put (cs := #[.bool x231000_85,.int .u64 0,.int .u64 0]) ?_ 1 _ rfl;refine bP ?_;refine blk_put (cs := #[.bool false,.int .u64 0,.int .u64 0]) ?_ 0 _ rfl;refine bP ?_;exact BK224.out) Try.underlying100 rfl Z312) rfl ?_
         exact ⟨Z263,Z317⟩

end Go.Proofs.Ytaepeajaefpooaa.QFnExactMayPart
