/- The machine side of FnBetter: what each Go function that it reaches comes to. Conditions: none. -/
import Derived.Test.YtlflcgdcegohjaaQFnBetterx0
import Derived.Test.YtlflcgdcegohjaaQFnBetterx10
import Derived.Test.YtlflcgdcegohjaaQFnBetterx12
namespace Go.Proofs.Ytlflcgdcegohjaa.QFnBetter
open Go.RowKit Go.Proofs.YtlflcgdcegohjaaW.PrintWords Go.Proofs.YtlflcgdcegohjaaW.PrintLast Go.Proofs.YtlflcgdcegohjaaW.PrintMore
attribute [local go_sem] max2_int min2_int max_two min_two max_three min_three max_four min_four   -- for this text's walks alone
set_option linter.unusedVariables false
set_option linter.unusedSimpArgs false

/-! ### spec_AddWide: function 48 -/
theorem cell_held {w : World} {p : Addr} {v : Value} (y : Value) (h : w.cell? p = some v) : (w.setCell p y).cell? p = some y := by simp [go_sem,h]
theorem held_three {w : World} {g : Nat} {a b c : Value} (h0 : w.cell? ⟨g,0,none⟩ = some a) (h1 : w.cell? ⟨g,1,none⟩ = some b) (h2 : w.cell? ⟨g,2,none⟩ = some c) :
  (∀ x y z u : Value,((((w.setCell ⟨g,0,none⟩ x).setCell ⟨g,1,none⟩ y).setCell ⟨g,2,none⟩ z).setCell ⟨g,1,none⟩ u).cell? ⟨g,1,none⟩ = some u) ∧
  (∀ x y z v : Value,((((w.setCell ⟨g,0,none⟩ x).setCell ⟨g,1,none⟩ y).setCell ⟨g,2,none⟩ z).setCell ⟨g,0,none⟩ v).cell? ⟨g,0,none⟩ = some v) ∧
  (∀ x y z u v : Value,(((((w.setCell ⟨g,0,none⟩ x).setCell ⟨g,1,none⟩ y).setCell ⟨g,2,none⟩ z).setCell ⟨g,1,none⟩ u).setCell ⟨g,0,none⟩ v).cell? ⟨g,0,none⟩ = some v) := by
 refine ⟨fun x y z u => cell_held (v := y) u Z307,fun x y z v => cell_held (v := x) v Z307,fun x y z u v => cell_held (v := x) v Z307⟩
mutual
def spec_AddWide.j0 : Nat → Bool → Bool → Int → Int → Bool → Int → Int → Option (Bool × Int × Int × Bool)
 | 0,_,_,_,_,_,_,_ => none
 | k + 1,x17,x618000,x618001,x618002,x619000,x619001,x619002 => if x17 = true then (some (false,0,0,false)) else (if (x618000 == x619000) = true then (if (IntKind.u64.wrap (x618002 + x619002)) < x618002 then ((spec_WideOk.f x618000 (IntKind.u64.wrap ((IntKind.u64.wrap (x618001 + x619001)) + 1)) (IntKind.u64.wrap (x618002 + x619002))).bind fun t623 => (if t623 = true then (some (x618000,IntKind.u64.wrap ((IntKind.u64.wrap (x618001 + x619001)) + 1),IntKind.u64.wrap (x618002 + x619002),true)) else (some (false,0,0,false)))) else ((spec_WideOk.f x618000 (IntKind.u64.wrap (x618001 + x619001)) (IntKind.u64.wrap (x618002 + x619002))).bind fun t624 => (if t624 = true then (some (x618000,IntKind.u64.wrap (x618001 + x619001),IntKind.u64.wrap (x618002 + x619002),true)) else (some (false,0,0,false))))) else ((spec_l3Order.f k x618000 x618001 x618002 x619000 x619001 x619002).bind fun t627 => (if t627 < 0 then (spec_AddWide.j1 k x619000 x619001 x619002 x618000 x618001 x618002) else (spec_AddWide.j1 k x618000 x618001 x618002 x619000 x619001 x619002))))
def spec_AddWide.j1 : Nat → Bool → Int → Int → Bool → Int → Int → Option (Bool × Int × Int × Bool)
 | 0,_,_,_,_,_,_ => none
 | k + 1,x626000,x626001,x626002,x627000,x627001,x627002 => if x626002 < x627002 then ((spec_l3Zero.f x626000 (IntKind.u64.wrap ((IntKind.u64.wrap (x626001 - x627001)) - 1)) (IntKind.u64.wrap (x626002 - x627002))).bind fun t629 => (if t629 = true then (some (false,IntKind.u64.wrap ((IntKind.u64.wrap (x626001 - x627001)) - 1),IntKind.u64.wrap (x626002 - x627002),true)) else (some (x626000,IntKind.u64.wrap ((IntKind.u64.wrap (x626001 - x627001)) - 1),IntKind.u64.wrap (x626002 - x627002),true)))) else ((spec_l3Zero.f x626000 (IntKind.u64.wrap (x626001 - x627001)) (IntKind.u64.wrap (x626002 - x627002))).bind fun t630 => (if t630 = true then (some (false,IntKind.u64.wrap (x626001 - x627001),IntKind.u64.wrap (x626002 - x627002),true)) else (some (x626000,IntKind.u64.wrap (x626001 - x627001),IntKind.u64.wrap (x626002 - x627002),true))))
end
def spec_AddWide.f (k : Nat) (a0_0 : Bool) (a0_1 : Int) (a0_2 : Int) (a1_0 : Bool) (a1_1 : Int) (a1_2 : Int) : Option (Bool × Int × Int × Bool) := (spec_WideOk.f a0_0 a0_1 a0_2).bind fun t620 => (if t620 = true then ((spec_WideOk.f a1_0 a1_1 a1_2).bind fun t621 => (spec_AddWide.j0 k (!t621) a0_0 a0_1 a0_2 a1_0 a1_1 a1_2)) else (spec_AddWide.j0 k true a0_0 a0_1 a0_2 a1_0 a1_1 a1_2))
theorem spec_AddWide.mono_l : ∀ k,(∀ y0 y1 y2 y3 y4 y5 y6,LeO (spec_AddWide.j0 k y0 y1 y2 y3 y4 y5 y6) (spec_AddWide.j0 (k + 1) y0 y1 y2 y3 y4 y5 y6)) ∧ (∀ y0 y1 y2 y3 y4 y5,LeO (spec_AddWide.j1 k y0 y1 y2 y3 y4 y5) (spec_AddWide.j1 (k + 1) y0 y1 y2 y3 y4 y5))
 | 0 => ⟨fun _ _ _ _ _ _ _ r h => by simp [spec_AddWide.j0] at h,fun _ _ _ _ _ _ r h => by simp [spec_AddWide.j1] at h⟩
 | k + 1 => by
  obtain ⟨ih0,ih1⟩ := spec_AddWide.mono_l k
  refine ⟨?_,?_⟩
  ·intro y0 y1 y2 y3 y4 y5 y6
   unfold spec_AddWide.j0
   repeat' first
   | (with_reducible exact ih0 _ _ _ _ _ _ _)
   | (with_reducible exact ih1 _ _ _ _ _ _)
   | (with_reducible exact spec_l3Order.mono _ _ _ _ _ _ _)
   | (with_reducible exact LeO.refl _)
   | (with_reducible exact LeO.none _)
   | (with_reducible refine LeO.ite ?_ ?_)
   | (with_reducible refine LeO.bind ?_ (fun _ => ?_))
   | exact ih0 _ _ _ _ _ _ _
   | exact ih1 _ _ _ _ _ _
   | exact spec_l3Order.mono _ _ _ _ _ _ _
   | exact LeO.none _
   | refine LeO.ite ?_ ?_
   | refine LeO.bind ?_ (fun _ => ?_)
  ·intro y0 y1 y2 y3 y4 y5
   unfold spec_AddWide.j1
   repeat' first
   | (with_reducible exact ih0 _ _ _ _ _ _ _)
   | (with_reducible exact ih1 _ _ _ _ _ _)
   | (with_reducible exact spec_l3Order.mono _ _ _ _ _ _ _)
   | (with_reducible exact LeO.refl _)
   | (with_reducible exact LeO.none _)
   | (with_reducible refine LeO.ite ?_ ?_)
   | (with_reducible refine LeO.bind ?_ (fun _ => ?_))
   | exact ih0 _ _ _ _ _ _ _
   | exact ih1 _ _ _ _ _ _
   | exact spec_l3Order.mono _ _ _ _ _ _ _
   | exact LeO.none _
   | refine LeO.ite ?_ ?_
   | refine LeO.bind ?_ (fun _ => ?_)
theorem spec_AddWide.mono : ∀ a0 a1 a2 a3 a4 a5 k,LeO (spec_AddWide.f k a0 a1 a2 a3 a4 a5) (spec_AddWide.f (k + 1) a0 a1 a2 a3 a4 a5) := by
 intro a0 a1 a2 a3 a4 a5 k
 obtain ⟨ih0,ih1⟩ := spec_AddWide.mono_l k
 unfold spec_AddWide.f
 repeat' first
   | (with_reducible exact ih0 _ _ _ _ _ _ _)
   | (with_reducible exact ih1 _ _ _ _ _ _)
   | (with_reducible exact spec_l3Order.mono _ _ _ _ _ _ _)
   | (with_reducible exact LeO.refl _)
   | (with_reducible exact LeO.none _)
   | (with_reducible refine LeO.ite ?_ ?_)
   | (with_reducible refine LeO.bind ?_ (fun _ => ?_))
   | exact ih0 _ _ _ _ _ _ _
   | exact ih1 _ _ _ _ _ _
   | exact spec_l3Order.mono _ _ _ _ _ _ _
   | exact LeO.none _
   | refine LeO.ite ?_ ?_
   | refine LeO.bind ?_ (fun _ => ?_)
set_option maxHeartbeats 8000000 in
set_option maxRecDepth 100000 in
theorem spec_AddWide.calls (k : Nat) (a0_0 : Bool) (a0_1 : Int) (a0_2 : Int) (a1_0 : Bool) (a1_1 : Int) (a1_2 : Int) (r1 : Bool) (r2 : Int) (r3 : Int) (r4 : Bool) (w : World) (h : spec_AddWide.f k a0_0 a0_1 a0_2 a1_0 a1_1 a1_2 = some (r1,r2,r3,r4)) :
  Calls Try.prog 48 #[.agg #[.bool a0_0,.int .u64 a0_1,.int .u64 a0_2],.agg #[.bool a1_0,.int .u64 a1_1,.int .u64 a1_2]] w fun e w' => e = .returned (.tuple #[.agg #[.bool r1,.int .u64 r2,.int .u64 r3],.bool r4]) ∧ Below w.heap.size w w' := by
 have hu39 := Try.underlying39
 have HB := Aside0.mk (Below.refl w.heap.size w)
 have H := h
 clear h
 unfold spec_AddWide.f at H
 have HC3 := Aside0.mk H
 clear H
 go_enter Try.func48,Try.ntmps48
 go_upto_region 1 with (first | ((with_reducible refine gate_dst (N := 2) rfl ?_);refine bE 2 #[.bool a0_0,.int .u64 a0_1,.int .u64 a0_2] 39 (h := ?_);intro gb617 hg w4 hbox hb;have n_ := jA (below_step Z574 hb) (jA (hbox) (jA ((Z405 : w.heap.size ≤ gb617)) (Aside0.mk ((Z405 : w.heap.size ≤ gb617)))));clear HB;obtain ⟨HB,BK617,GW617,GE617⟩ := n_;clear hb hbox hg) | ((with_reducible refine gate_dst (N := 3) rfl ?_);refine bE 3 #[.bool a1_0,.int .u64 a1_1,.int .u64 a1_2] 39 (h := ?_);intro gb618 hg w5 hbox hb;have n_ := jA (blk_below (g := gb617) (o := .cells #[.bool a0_0,.int .u64 a0_1,.int .u64 a0_2] 39 (0,0)) Z575 hb) (jA (below_step Z434 hb) (jA (hbox) (jA ((Z211 : w.heap.size ≤ gb618)) (jA ((Z211 : w.heap.size ≤ gb618)) (jA ((Z455 : gb617 ≠ gb618)) (Aside0.mk ((Z456 : gb618 ≠ gb617))))))));clear BK617 HB;obtain ⟨BK617,HB,BK618,GW618,GE618,NB617_618,NB618_617⟩ := n_;clear hb hbox hg) | ((with_reducible refine gate_dst (N := 4) rfl ?_);refine bE 4 #[.bool false,.int .u64 0,.int .u64 0] 39 (h := ?_);intro gb619 hg w6 hbox hb;have n_ := jA (blk_below (g := gb617) (o := .cells #[.bool a0_0,.int .u64 a0_1,.int .u64 a0_2] 39 (0,0)) Z575 hb) (jA (blk_below (g := gb618) (o := .cells #[.bool a1_0,.int .u64 a1_1,.int .u64 a1_2] 39 (0,0)) Z578 hb) (jA (below_step Z376 hb) (jA (hbox) (jA ((Z181 : w.heap.size ≤ gb619)) (jA ((Z181 : w.heap.size ≤ gb619)) (jA ((Z455 : gb617 ≠ gb619)) (jA ((Z456 : gb619 ≠ gb617)) (jA ((Z457 : gb618 ≠ gb619)) (Aside0.mk ((Z458 : gb619 ≠ gb618)))))))))));clear BK617 BK618 HB;obtain ⟨BK617,BK618,HB,BK619,GW619,GE619,NB617_619,NB619_617,NB618_619,NB619_618⟩ := n_;clear hb hbox hg))
 (try simp only [Act.put,List.setIfInBounds_toArray,List.set_cons_zero,List.set_cons_succ])
 go_cut [17] (fun v17 wc => ∃ (kq : Nat) (x17_2 : Bool),v17 = .bool x17_2 ∧ Aside0 (spec_AddWide.j0 kq x17_2 a0_0 a0_1 a0_2 a1_0 a1_1 a1_2 = some (r1,r2,r3,r4)) ∧ Aside0 (kq ≤ k) ∧ Aside0 (wc.heap[gb617]? = some (.cells #[.bool a0_0,.int .u64 a0_1,.int .u64 a0_2] 39 (0,0))) ∧ Aside0 (wc.heap[gb618]? = some (.cells #[.bool a1_0,.int .u64 a1_1,.int .u64 a1_2] 39 (0,0))) ∧ Aside0 (wc.heap[gb619]? = some (.cells #[.bool false,.int .u64 0,.int .u64 0] 39 (0,0))) ∧ Aside0 (Below w.heap.size w wc))
 case first =>
  have H := HC3.out
  clear HC3
  obtain ⟨t620,A70,H⟩ := Option.bind_eq_some_iff.mp H
  have A7 := Aside0.mk A70
  clear A70
  by_cases c8 : t620 = true
  rotate_left
  ·replace c8 := Bool.eq_false_iff.mpr c8
   subst c8
   rw [if_neg Bool.false_ne_true] at H
   have H' := Aside0.mk H
   clear H
   have hnb17 := NB617_618.out
   have hnc17 := NB618_617.out
   have hnb18 := NB617_619.out
   have hnc18 := NB619_617.out
   have hcz19_0 : w6.cell? ⟨gb617,0,none⟩ = some (.bool a0_0) := bc BK617 0
   have hcz19_1 : w6.cell? ⟨gb617,1,none⟩ = some (.int .u64 a0_1) := bc BK617 1
   have hcz19_2 : w6.cell? ⟨gb617,2,none⟩ = some (.int .u64 a0_2) := bc BK617 2
   have hzAhcz19 := (held_three hcz19_0 hcz19_1 hcz19_2).1
   have hzBhcz19 := (held_three hcz19_0 hcz19_1 hcz19_2).2.1
   have hzChcz19 := (held_three hcz19_0 hcz19_1 hcz19_2).2.2
   have hfz19_0 := blk_frozen BK617.out 0
   have hfz19_1 := blk_frozen BK617.out 1
   have hfz19_2 := blk_frozen BK617.out 2
   go_wp2_with (first | ((with_reducible refine gate_callee (f := 63) rfl ?_);refine goesL_ (some 11) rfl rfl Try.func63 Z310 rfl #[.agg #[.bool a0_0,.int .u64 a0_1,.int .u64 a0_2]] rfl Z249 ?_;(with_reducible refine (spec_WideOk.calls a0_0 a0_1 a0_2 false _ A7.out).mono ?_);rintro e w20 ⟨rfl,hb⟩;refine ⟨_,rfl,?_⟩;have n_ := Z91;clear BK617 BK618 BK619 HB;obtain ⟨BK617,BK618,BK619,HB⟩ := n_;(try clear hb);(try clear hb2);(try clear hk);(try clear hi)))
   go_meet
   case rel => exact ⟨_,(true),Z294,H',⟨Z296⟩,⟨Z575⟩,⟨Z578⟩,⟨Z582⟩,⟨Z536⟩⟩
  subst c8
  rw [if_pos rfl] at H
  obtain ⟨t621,A90,H⟩ := Option.bind_eq_some_iff.mp H
  have A9 := Aside0.mk A90
  clear A90
  have H' := Aside0.mk H
  clear H
  have hnb10 := NB617_618.out
  have hnc10 := NB618_617.out
  have hnb11 := NB617_619.out
  have hnc11 := NB619_617.out
  have hcz12_0 : w6.cell? ⟨gb617,0,none⟩ = some (.bool a0_0) := bc BK617 0
  have hcz12_1 : w6.cell? ⟨gb617,1,none⟩ = some (.int .u64 a0_1) := bc BK617 1
  have hcz12_2 : w6.cell? ⟨gb617,2,none⟩ = some (.int .u64 a0_2) := bc BK617 2
  have hzAhcz12 := (held_three hcz12_0 hcz12_1 hcz12_2).1
  have hzBhcz12 := (held_three hcz12_0 hcz12_1 hcz12_2).2.1
  have hzChcz12 := (held_three hcz12_0 hcz12_1 hcz12_2).2.2
  have hfz12_0 := blk_frozen BK617.out 0
  have hfz12_1 := blk_frozen BK617.out 1
  have hfz12_2 := blk_frozen BK617.out 2
  go_wp2_with (first | ((with_reducible refine gate_callee (f := 63) rfl ?_);refine goesL_ (some 11) rfl rfl Try.func63 Z310 rfl #[.agg #[.bool a0_0,.int .u64 a0_1,.int .u64 a0_2]] rfl Z249 ?_;(with_reducible refine (spec_WideOk.calls a0_0 a0_1 a0_2 true _ A7.out).mono ?_);rintro e w13 ⟨rfl,hb⟩;refine ⟨_,rfl,?_⟩;have n_ := Z91;clear BK617 BK618 BK619 HB;obtain ⟨BK617,BK618,BK619,HB⟩ := n_;(try clear hb);(try clear hb2);(try clear hk);(try clear hi);have hnb14 := NB618_619.out;have hnc14 := NB619_618.out;have hcz15_0 : w13.cell? ⟨gb618,0,none⟩ = some (.bool a1_0) := bc BK618 0;have hcz15_1 : w13.cell? ⟨gb618,1,none⟩ = some (.int .u64 a1_1) := bc BK618 1;have hcz15_2 : w13.cell? ⟨gb618,2,none⟩ = some (.int .u64 a1_2) := bc BK618 2;have hzAhcz15 := (held_three hcz15_0 hcz15_1 hcz15_2).1;have hzBhcz15 := (held_three hcz15_0 hcz15_1 hcz15_2).2.1;have hzChcz15 := (held_three hcz15_0 hcz15_1 hcz15_2).2.2;have hfz15_0 := blk_frozen BK618.out 0;have hfz15_1 := blk_frozen BK618.out 1;have hfz15_2 := blk_frozen BK618.out 2) | (go_at_call 63;(with_reducible refine (spec_WideOk.calls a1_0 a1_1 a1_2 t621 _ A9.out).mono ?_);rintro e w16 ⟨rfl,hb⟩;have n_ := Z91;clear BK617 BK618 BK619 HB;obtain ⟨BK617,BK618,BK619,HB⟩ := n_;(try clear hb);(try clear hb2);(try clear hk);(try clear hi)))
  go_meet
  case rel => exact ⟨_,(!t621),Z294,H',⟨Z296⟩,⟨Z575⟩,⟨Z578⟩,⟨Z582⟩,⟨Z536⟩⟩
 case rest =>
  clear HC3
  try clear c1
  try clear p2
  try clear c4
  try clear c6
  try clear c8
  try clear c10
  try clear c11
  try clear c14
  try clear c17
  try clear c18
  try clear hcz12_0
  try clear hcz12_1
  try clear hcz12_2
  try clear hcz15_0
  try clear hcz15_1
  try clear hcz15_2
  try clear hcz19_0
  try clear hcz19_1
  try clear hcz19_2
  try clear hfz12_0
  try clear hfz12_1
  try clear hfz12_2
  try clear hfz15_0
  try clear hfz15_1
  try clear hfz15_2
  try clear hfz19_0
  try clear hfz19_1
  try clear hfz19_2
  obtain ⟨kq,x17_2,rfl,HA,HJ2,BK617,BK618,BK619,HB⟩ := hcut
  cases kq with
  | zero => exact absurd HA.out (by simp [spec_AddWide.j0])
  | succ kj2 =>
   have H := HA.out
   clear HA
   simp only [spec_AddWide.j0] at H
   by_cases c21 : x17_2 = true
   ·subst c21
    rw [if_pos rfl] at H
    simp only [Option.some.injEq,Prod.mk.injEq] at H
    obtain ⟨rfl,rfl,rfl,rfl⟩ := H
    have hnb22 := NB619_617.out
    have hnc22 := NB617_619.out
    have hnb23 := NB619_618.out
    have hnc23 := NB618_619.out
    have hcz24_0 : wc.cell? ⟨gb619,0,none⟩ = some (.bool false) := bc BK619 0
    have hcz24_1 : wc.cell? ⟨gb619,1,none⟩ = some (.int .u64 0) := bc BK619 1
    have hcz24_2 : wc.cell? ⟨gb619,2,none⟩ = some (.int .u64 0) := bc BK619 2
    have hzAhcz24 := (held_three hcz24_0 hcz24_1 hcz24_2).1
    have hzBhcz24 := (held_three hcz24_0 hcz24_1 hcz24_2).2.1
    have hzChcz24 := (held_three hcz24_0 hcz24_1 hcz24_2).2.2
    have hfz24_0 := blk_frozen BK619.out 0
    have hfz24_1 := blk_frozen BK619.out 1
    have hfz24_2 := blk_frozen BK619.out 2
    go_wp2
    refine bodyPost_ret (results_ct rfl _ _ gb619 39 #[.bool false,.int .u64 0,.int .u64 0] (0,0) _ rfl Z163 Try.underlying39 rfl Z310) rfl ?_
    exact ⟨Z265,Z536⟩
   replace c21 := Bool.eq_false_iff.mpr c21
   subst c21
   rw [if_neg Bool.false_ne_true] at H
   by_cases c25 : (a0_0 == a1_0) = true
   ·rw [if_pos c25] at H
    have c25b0 : (a0_0 == a1_0) = true := c25
    (try (have c25b1 : decide (a0_0 = a1_0) = true := by simpa using c25))
    (try (have c25b2 : (a0_0 == a1_0) = true := by simpa using c25))
    clear c25
    by_cases c26 : (IntKind.u64.wrap (a0_2 + a1_2)) < a0_2
    rotate_left
    ·rw [if_neg c26] at H
     have c26b0 : decide ((IntKind.u64.wrap (a0_2 + a1_2)) < a0_2) = false := decide_eq_false c26
     clear c26
     obtain ⟨t624,A560,H⟩ := Option.bind_eq_some_iff.mp H
     have A56 := Aside0.mk A560
     clear A560
     by_cases c57 : t624 = true
     rotate_left
     ·replace c57 := Bool.eq_false_iff.mpr c57
      subst c57
      rw [if_neg Bool.false_ne_true] at H
      simp only [Option.some.injEq,Prod.mk.injEq] at H
      obtain ⟨rfl,rfl,rfl,rfl⟩ := H
      have hnb72 := NB617_618.out
      have hnc72 := NB618_617.out
      have hnb73 := NB617_619.out
      have hnc73 := NB619_617.out
      have hcz74_0 : wc.cell? ⟨gb617,0,none⟩ = some (.bool a0_0) := bc BK617 0
      have hcz74_1 : wc.cell? ⟨gb617,1,none⟩ = some (.int .u64 a0_1) := bc BK617 1
      have hcz74_2 : wc.cell? ⟨gb617,2,none⟩ = some (.int .u64 a0_2) := bc BK617 2
      have hzAhcz74 := (held_three hcz74_0 hcz74_1 hcz74_2).1
      have hzBhcz74 := (held_three hcz74_0 hcz74_1 hcz74_2).2.1
      have hzChcz74 := (held_three hcz74_0 hcz74_1 hcz74_2).2.2
      have hfz74_0 := blk_frozen BK617.out 0
      have hfz74_1 := blk_frozen BK617.out 1
      have hfz74_2 := blk_frozen BK617.out 2
      have hnb75 := NB618_619.out
      have hnc75 := NB619_618.out
      have hcz76_0 : wc.cell? ⟨gb618,0,none⟩ = some (.bool a1_0) := bc BK618 0
      have hcz76_1 : wc.cell? ⟨gb618,1,none⟩ = some (.int .u64 a1_1) := bc BK618 1
      have hcz76_2 : wc.cell? ⟨gb618,2,none⟩ = some (.int .u64 a1_2) := bc BK618 2
      have hzAhcz76 := (held_three hcz76_0 hcz76_1 hcz76_2).1
      have hzBhcz76 := (held_three hcz76_0 hcz76_1 hcz76_2).2.1
      have hzChcz76 := (held_three hcz76_0 hcz76_1 hcz76_2).2.2
      have hfz76_0 := blk_frozen BK618.out 0
      have hfz76_1 := blk_frozen BK618.out 1
      have hfz76_2 := blk_frozen BK618.out 2
      go_wp2_with (first | ((with_reducible refine gate_dst (N := 6) rfl ?_);refine bE 6 #[.bool false,.int .u64 0,.int .u64 0] 39 (h := ?_);intro gb622 hg wq1 hbox hb;have n_ := Z24;clear BK617 BK618 BK619 HB;obtain ⟨BK617,BK618,BK619,HB,BK622,GW622,GE622,NB617_622,NB622_617,NB618_622,NB622_618,NB619_622,NB622_619⟩ := n_;clear hb hbox hg;have hnbq2 := NB622_617.out;have hncq2 := NB617_622.out;have hnbq3 := NB622_618.out;have hncq3 := NB618_622.out;have hnbq4 := NB622_619.out;have hncq4 := NB619_622.out;have hczq5_0 : wq1.cell? ⟨gb622,0,none⟩ = some (.bool false) := bc BK622 0;have hczq5_1 : wq1.cell? ⟨gb622,1,none⟩ = some (.int .u64 0) := bc BK622 1;have hczq5_2 : wq1.cell? ⟨gb622,2,none⟩ = some (.int .u64 0) := bc BK622 2;have hzAhczq5 := (held_three hczq5_0 hczq5_1 hczq5_2).1;have hzBhczq5 := (held_three hczq5_0 hczq5_1 hczq5_2).2.1;have hzChczq5 := (held_three hczq5_0 hczq5_1 hczq5_2).2.2;have hfzq5_0 := blk_frozen BK622.out 0;have hfzq5_1 := blk_frozen BK622.out 1;have hfzq5_2 := blk_frozen BK622.out 2;have hczq6_0 : wq1.cell? ⟨gb617,0,none⟩ = some (.bool a0_0) := bc BK617 0;have hczq6_1 : wq1.cell? ⟨gb617,1,none⟩ = some (.int .u64 a0_1) := bc BK617 1;have hczq6_2 : wq1.cell? ⟨gb617,2,none⟩ = some (.int .u64 a0_2) := bc BK617 2;have hzAhczq6 := (held_three hczq6_0 hczq6_1 hczq6_2).1;have hzBhczq6 := (held_three hczq6_0 hczq6_1 hczq6_2).2.1;have hzChczq6 := (held_three hczq6_0 hczq6_1 hczq6_2).2.2;have hfzq6_0 := blk_frozen BK617.out 0;have hfzq6_1 := blk_frozen BK617.out 1;have hfzq6_2 := blk_frozen BK617.out 2) | ((with_reducible refine gate_callee (f := 63) rfl ?_);refine goesL_ (some 47) rfl rfl Try.func63 Z310 rfl #[.agg #[.bool a0_0,.int .u64 (IntKind.u64.wrap (a0_1 + a1_1)),.int .u64 (IntKind.u64.wrap (a0_2 + a1_2))]] rfl Z249 ?_;(with_reducible refine (spec_WideOk.calls a0_0 (IntKind.u64.wrap (a0_1 + a1_1)) (IntKind.u64.wrap (a0_2 + a1_2)) false _ A56.out).mono ?_);rintro e wq7 ⟨rfl,hb⟩;refine ⟨_,rfl,?_⟩;have n_ := Z45;clear BK617 BK618 BK619 BK622 HB;obtain ⟨BK617,BK618,BK619,BK622,HB⟩ := n_;(try clear hb);(try clear hb2);(try clear hk);(try clear hi);have hczq8_0 : wq7.cell? ⟨gb619,0,none⟩ = some (.bool false) := bc BK619 0;have hczq8_1 : wq7.cell? ⟨gb619,1,none⟩ = some (.int .u64 0) := bc BK619 1;have hczq8_2 : wq7.cell? ⟨gb619,2,none⟩ = some (.int .u64 0) := bc BK619 2;have hzAhczq8 := (held_three hczq8_0 hczq8_1 hczq8_2).1;have hzBhczq8 := (held_three hczq8_0 hczq8_1 hczq8_2).2.1;have hzChczq8 := (held_three hczq8_0 hczq8_1 hczq8_2).2.2;have hfzq8_0 := blk_frozen BK619.out 0;have hfzq8_1 := blk_frozen BK619.out 1;have hfzq8_2 := blk_frozen BK619.out 2))
      refine bodyPost_ret (results_ct rfl _ _ gb619 39 #[.bool false,.int .u64 0,.int .u64 0] (0,0) _ rfl Z163 Try.underlying39 rfl Z310) rfl ?_
      exact ⟨Z265,Z327⟩
     subst c57
     rw [if_pos rfl] at H
     simp only [Option.some.injEq,Prod.mk.injEq] at H
     obtain ⟨rfl,rfl,rfl,rfl⟩ := H
     have hnb58 := NB617_618.out
     have hnc58 := NB618_617.out
     have hnb59 := NB617_619.out
     have hnc59 := NB619_617.out
     have hcz60_0 : wc.cell? ⟨gb617,0,none⟩ = some (.bool a0_0) := bc BK617 0
     have hcz60_1 : wc.cell? ⟨gb617,1,none⟩ = some (.int .u64 a0_1) := bc BK617 1
     have hcz60_2 : wc.cell? ⟨gb617,2,none⟩ = some (.int .u64 a0_2) := bc BK617 2
     have hzAhcz60 := (held_three hcz60_0 hcz60_1 hcz60_2).1
     have hzBhcz60 := (held_three hcz60_0 hcz60_1 hcz60_2).2.1
     have hzChcz60 := (held_three hcz60_0 hcz60_1 hcz60_2).2.2
     have hfz60_0 := blk_frozen BK617.out 0
     have hfz60_1 := blk_frozen BK617.out 1
     have hfz60_2 := blk_frozen BK617.out 2
     have hnb61 := NB618_619.out
     have hnc61 := NB619_618.out
     have hcz62_0 : wc.cell? ⟨gb618,0,none⟩ = some (.bool a1_0) := bc BK618 0
     have hcz62_1 : wc.cell? ⟨gb618,1,none⟩ = some (.int .u64 a1_1) := bc BK618 1
     have hcz62_2 : wc.cell? ⟨gb618,2,none⟩ = some (.int .u64 a1_2) := bc BK618 2
     have hzAhcz62 := (held_three hcz62_0 hcz62_1 hcz62_2).1
     have hzBhcz62 := (held_three hcz62_0 hcz62_1 hcz62_2).2.1
     have hzChcz62 := (held_three hcz62_0 hcz62_1 hcz62_2).2.2
     have hfz62_0 := blk_frozen BK618.out 0
     have hfz62_1 := blk_frozen BK618.out 1
     have hfz62_2 := blk_frozen BK618.out 2
     go_wp2_with (first | ((with_reducible refine gate_dst (N := 6) rfl ?_);refine bE 6 #[.bool false,.int .u64 0,.int .u64 0] 39 (h := ?_);intro gb622 hg wq1 hbox hb;have n_ := Z24;clear BK617 BK618 BK619 HB;obtain ⟨BK617,BK618,BK619,HB,BK622,GW622,GE622,NB617_622,NB622_617,NB618_622,NB622_618,NB619_622,NB622_619⟩ := n_;clear hb hbox hg;have hnbq2 := NB622_617.out;have hncq2 := NB617_622.out;have hnbq3 := NB622_618.out;have hncq3 := NB618_622.out;have hnbq4 := NB622_619.out;have hncq4 := NB619_622.out;have hczq5_0 : wq1.cell? ⟨gb622,0,none⟩ = some (.bool false) := bc BK622 0;have hczq5_1 : wq1.cell? ⟨gb622,1,none⟩ = some (.int .u64 0) := bc BK622 1;have hczq5_2 : wq1.cell? ⟨gb622,2,none⟩ = some (.int .u64 0) := bc BK622 2;have hzAhczq5 := (held_three hczq5_0 hczq5_1 hczq5_2).1;have hzBhczq5 := (held_three hczq5_0 hczq5_1 hczq5_2).2.1;have hzChczq5 := (held_three hczq5_0 hczq5_1 hczq5_2).2.2;have hfzq5_0 := blk_frozen BK622.out 0;have hfzq5_1 := blk_frozen BK622.out 1;have hfzq5_2 := blk_frozen BK622.out 2;have hczq6_0 : wq1.cell? ⟨gb617,0,none⟩ = some (.bool a0_0) := bc BK617 0;have hczq6_1 : wq1.cell? ⟨gb617,1,none⟩ = some (.int .u64 a0_1) := bc BK617 1;have hczq6_2 : wq1.cell? ⟨gb617,2,none⟩ = some (.int .u64 a0_2) := bc BK617 2;have hzAhczq6 := (held_three hczq6_0 hczq6_1 hczq6_2).1;have hzBhczq6 := (held_three hczq6_0 hczq6_1 hczq6_2).2.1;have hzChczq6 := (held_three hczq6_0 hczq6_1 hczq6_2).2.2;have hfzq6_0 := blk_frozen BK617.out 0;have hfzq6_1 := blk_frozen BK617.out 1;have hfzq6_2 := blk_frozen BK617.out 2) | ((with_reducible refine gate_callee (f := 63) rfl ?_);refine goesL_ (some 47) rfl rfl Try.func63 Z310 rfl #[.agg #[.bool a0_0,.int .u64 (IntKind.u64.wrap (a0_1 + a1_1)),.int .u64 (IntKind.u64.wrap (a0_2 + a1_2))]] rfl Z249 ?_;(with_reducible refine (spec_WideOk.calls a0_0 (IntKind.u64.wrap (a0_1 + a1_1)) (IntKind.u64.wrap (a0_2 + a1_2)) true _ A56.out).mono ?_);rintro e wq7 ⟨rfl,hb⟩;refine ⟨_,rfl,?_⟩;have n_ := Z45;clear BK617 BK618 BK619 BK622 HB;obtain ⟨BK617,BK618,BK619,BK622,HB⟩ := n_;(try clear hb);(try clear hb2);(try clear hk);(try clear hi);have hczq8_0 : wq7.cell? ⟨gb622,0,none⟩ = some (.bool a0_0) := bc BK622 0;have hczq8_1 : wq7.cell? ⟨gb622,1,none⟩ = some (.int .u64 (IntKind.u64.wrap (a0_1 + a1_1))) := bc BK622 1;have hczq8_2 : wq7.cell? ⟨gb622,2,none⟩ = some (.int .u64 (IntKind.u64.wrap (a0_2 + a1_2))) := bc BK622 2;have hzAhczq8 := (held_three hczq8_0 hczq8_1 hczq8_2).1;have hzBhczq8 := (held_three hczq8_0 hczq8_1 hczq8_2).2.1;have hzChczq8 := (held_three hczq8_0 hczq8_1 hczq8_2).2.2;have hfzq8_0 := blk_frozen BK622.out 0;have hfzq8_1 := blk_frozen BK622.out 1;have hfzq8_2 := blk_frozen BK622.out 2;have hczq9_0 : wq7.cell? ⟨gb619,0,none⟩ = some (.bool false) := bc BK619 0;have hczq9_1 : wq7.cell? ⟨gb619,1,none⟩ = some (.int .u64 0) := bc BK619 1;have hczq9_2 : wq7.cell? ⟨gb619,2,none⟩ = some (.int .u64 0) := bc BK619 2;have hzAhczq9 := (held_three hczq9_0 hczq9_1 hczq9_2).1;have hzBhczq9 := (held_three hczq9_0 hczq9_1 hczq9_2).2.1;have hzChczq9 := (held_three hczq9_0 hczq9_1 hczq9_2).2.2;have hfzq9_0 := blk_frozen BK619.out 0;have hfzq9_1 := blk_frozen BK619.out 1;have hfzq9_2 := blk_frozen BK619.out 2))
     refine bodyPost_ret (results_ct rfl _ _ gb619 39 #[.bool a0_0,.int .u64 (IntKind.u64.wrap (a0_1 + a1_1)),.int .u64 (IntKind.u64.wrap (a0_2 + a1_2))] (0,0) _ rfl (by refine bP ?_;refine blk_put (cs := #[.bool a0_0,.int .u64 (IntKind.u64.wrap (a0_1 + a1_1)),.int .u64 0]) ?_ 2 _ rfl;refine bP ?_;refine blk_put (cs := #[.bool a0_0,.int .u64 0,.int .u64 0]) ?_ 1 _ rfl;refine bP ?_;refine blk_put (cs := #[.bool false,.int .u64 0,.int .u64 0]) ?_ 0 _ rfl;refine bP ?_;exact BK619.out) Try.underlying39 rfl Z310) rfl ?_
     exact ⟨Z265,Z327⟩
    rw [if_pos c26] at H
    have c26b0 : decide ((IntKind.u64.wrap (a0_2 + a1_2)) < a0_2) = true := decide_eq_true c26
    clear c26
    obtain ⟨t623,A270,H⟩ := Option.bind_eq_some_iff.mp H
    have A27 := Aside0.mk A270
    clear A270
    by_cases c28 : t623 = true
    rotate_left
    ·replace c28 := Bool.eq_false_iff.mpr c28
     subst c28
     rw [if_neg Bool.false_ne_true] at H
     simp only [Option.some.injEq,Prod.mk.injEq] at H
     obtain ⟨rfl,rfl,rfl,rfl⟩ := H
     have hnb43 := NB617_618.out
     have hnc43 := NB618_617.out
     have hnb44 := NB617_619.out
     have hnc44 := NB619_617.out
     have hcz45_0 : wc.cell? ⟨gb617,0,none⟩ = some (.bool a0_0) := bc BK617 0
     have hcz45_1 : wc.cell? ⟨gb617,1,none⟩ = some (.int .u64 a0_1) := bc BK617 1
     have hcz45_2 : wc.cell? ⟨gb617,2,none⟩ = some (.int .u64 a0_2) := bc BK617 2
     have hzAhcz45 := (held_three hcz45_0 hcz45_1 hcz45_2).1
     have hzBhcz45 := (held_three hcz45_0 hcz45_1 hcz45_2).2.1
     have hzChcz45 := (held_three hcz45_0 hcz45_1 hcz45_2).2.2
     have hfz45_0 := blk_frozen BK617.out 0
     have hfz45_1 := blk_frozen BK617.out 1
     have hfz45_2 := blk_frozen BK617.out 2
     have hnb46 := NB618_619.out
     have hnc46 := NB619_618.out
     have hcz47_0 : wc.cell? ⟨gb618,0,none⟩ = some (.bool a1_0) := bc BK618 0
     have hcz47_1 : wc.cell? ⟨gb618,1,none⟩ = some (.int .u64 a1_1) := bc BK618 1
     have hcz47_2 : wc.cell? ⟨gb618,2,none⟩ = some (.int .u64 a1_2) := bc BK618 2
     have hzAhcz47 := (held_three hcz47_0 hcz47_1 hcz47_2).1
     have hzBhcz47 := (held_three hcz47_0 hcz47_1 hcz47_2).2.1
     have hzChcz47 := (held_three hcz47_0 hcz47_1 hcz47_2).2.2
     have hfz47_0 := blk_frozen BK618.out 0
     have hfz47_1 := blk_frozen BK618.out 1
     have hfz47_2 := blk_frozen BK618.out 2
     go_wp2_with (first | ((with_reducible refine gate_dst (N := 6) rfl ?_);refine bE 6 #[.bool false,.int .u64 0,.int .u64 0] 39 (h := ?_);intro gb622 hg wq1 hbox hb;have n_ := Z24;clear BK617 BK618 BK619 HB;obtain ⟨BK617,BK618,BK619,HB,BK622,GW622,GE622,NB617_622,NB622_617,NB618_622,NB622_618,NB619_622,NB622_619⟩ := n_;clear hb hbox hg;have hnbq2 := NB622_617.out;have hncq2 := NB617_622.out;have hnbq3 := NB622_618.out;have hncq3 := NB618_622.out;have hnbq4 := NB622_619.out;have hncq4 := NB619_622.out;have hczq5_0 : wq1.cell? ⟨gb622,0,none⟩ = some (.bool false) := bc BK622 0;have hczq5_1 : wq1.cell? ⟨gb622,1,none⟩ = some (.int .u64 0) := bc BK622 1;have hczq5_2 : wq1.cell? ⟨gb622,2,none⟩ = some (.int .u64 0) := bc BK622 2;have hzAhczq5 := (held_three hczq5_0 hczq5_1 hczq5_2).1;have hzBhczq5 := (held_three hczq5_0 hczq5_1 hczq5_2).2.1;have hzChczq5 := (held_three hczq5_0 hczq5_1 hczq5_2).2.2;have hfzq5_0 := blk_frozen BK622.out 0;have hfzq5_1 := blk_frozen BK622.out 1;have hfzq5_2 := blk_frozen BK622.out 2;have hczq6_0 : wq1.cell? ⟨gb617,0,none⟩ = some (.bool a0_0) := bc BK617 0;have hczq6_1 : wq1.cell? ⟨gb617,1,none⟩ = some (.int .u64 a0_1) := bc BK617 1;have hczq6_2 : wq1.cell? ⟨gb617,2,none⟩ = some (.int .u64 a0_2) := bc BK617 2;have hzAhczq6 := (held_three hczq6_0 hczq6_1 hczq6_2).1;have hzBhczq6 := (held_three hczq6_0 hczq6_1 hczq6_2).2.1;have hzChczq6 := (held_three hczq6_0 hczq6_1 hczq6_2).2.2;have hfzq6_0 := blk_frozen BK617.out 0;have hfzq6_1 := blk_frozen BK617.out 1;have hfzq6_2 := blk_frozen BK617.out 2) | ((with_reducible refine gate_callee (f := 63) rfl ?_);refine goesL_ (some 47) rfl rfl Try.func63 Z310 rfl #[.agg #[.bool a0_0,.int .u64 (IntKind.u64.wrap ((IntKind.u64.wrap (a0_1 + a1_1)) + 1)),.int .u64 (IntKind.u64.wrap (a0_2 + a1_2))]] rfl Z249 ?_;(with_reducible refine (spec_WideOk.calls a0_0 (IntKind.u64.wrap ((IntKind.u64.wrap (a0_1 + a1_1)) + 1)) (IntKind.u64.wrap (a0_2 + a1_2)) false _ A27.out).mono ?_);rintro e wq7 ⟨rfl,hb⟩;refine ⟨_,rfl,?_⟩;have n_ := Z31;clear BK617 BK618 BK619 BK622 HB;obtain ⟨BK617,BK618,BK619,BK622,HB⟩ := n_;(try clear hb);(try clear hb2);(try clear hk);(try clear hi);have hczq8_0 : wq7.cell? ⟨gb619,0,none⟩ = some (.bool false) := bc BK619 0;have hczq8_1 : wq7.cell? ⟨gb619,1,none⟩ = some (.int .u64 0) := bc BK619 1;have hczq8_2 : wq7.cell? ⟨gb619,2,none⟩ = some (.int .u64 0) := bc BK619 2;have hzAhczq8 := (held_three hczq8_0 hczq8_1 hczq8_2).1;have hzBhczq8 := (held_three hczq8_0 hczq8_1 hczq8_2).2.1;have hzChczq8 := (held_three hczq8_0 hczq8_1 hczq8_2).2.2;have hfzq8_0 := blk_frozen BK619.out 0;have hfzq8_1 := blk_frozen BK619.out 1;have hfzq8_2 := blk_frozen BK619.out 2))
     refine bodyPost_ret (results_ct rfl _ _ gb619 39 #[.bool false,.int .u64 0,.int .u64 0] (0,0) _ rfl Z163 Try.underlying39 rfl Z310) rfl ?_
     exact ⟨Z265,Z327⟩
    subst c28
    rw [if_pos rfl] at H
    simp only [Option.some.injEq,Prod.mk.injEq] at H
    obtain ⟨rfl,rfl,rfl,rfl⟩ := H
    have hnb29 := NB617_618.out
    have hnc29 := NB618_617.out
    have hnb30 := NB617_619.out
    have hnc30 := NB619_617.out
    have hcz31_0 : wc.cell? ⟨gb617,0,none⟩ = some (.bool a0_0) := bc BK617 0
    have hcz31_1 : wc.cell? ⟨gb617,1,none⟩ = some (.int .u64 a0_1) := bc BK617 1
    have hcz31_2 : wc.cell? ⟨gb617,2,none⟩ = some (.int .u64 a0_2) := bc BK617 2
    have hzAhcz31 := (held_three hcz31_0 hcz31_1 hcz31_2).1
    have hzBhcz31 := (held_three hcz31_0 hcz31_1 hcz31_2).2.1
    have hzChcz31 := (held_three hcz31_0 hcz31_1 hcz31_2).2.2
    have hfz31_0 := blk_frozen BK617.out 0
    have hfz31_1 := blk_frozen BK617.out 1
    have hfz31_2 := blk_frozen BK617.out 2
    have hnb32 := NB618_619.out
    have hnc32 := NB619_618.out
    have hcz33_0 : wc.cell? ⟨gb618,0,none⟩ = some (.bool a1_0) := bc BK618 0
    have hcz33_1 : wc.cell? ⟨gb618,1,none⟩ = some (.int .u64 a1_1) := bc BK618 1
    have hcz33_2 : wc.cell? ⟨gb618,2,none⟩ = some (.int .u64 a1_2) := bc BK618 2
    have hzAhcz33 := (held_three hcz33_0 hcz33_1 hcz33_2).1
    have hzBhcz33 := (held_three hcz33_0 hcz33_1 hcz33_2).2.1
    have hzChcz33 := (held_three hcz33_0 hcz33_1 hcz33_2).2.2
    have hfz33_0 := blk_frozen BK618.out 0
    have hfz33_1 := blk_frozen BK618.out 1
    have hfz33_2 := blk_frozen BK618.out 2
    go_wp2_with (first | ((with_reducible refine gate_dst (N := 6) rfl ?_);refine bE 6 #[.bool false,.int .u64 0,.int .u64 0] 39 (h := ?_);intro gb622 hg wq1 hbox hb;have n_ := Z24;clear BK617 BK618 BK619 HB;obtain ⟨BK617,BK618,BK619,HB,BK622,GW622,GE622,NB617_622,NB622_617,NB618_622,NB622_618,NB619_622,NB622_619⟩ := n_;clear hb hbox hg;have hnbq2 := NB622_617.out;have hncq2 := NB617_622.out;have hnbq3 := NB622_618.out;have hncq3 := NB618_622.out;have hnbq4 := NB622_619.out;have hncq4 := NB619_622.out;have hczq5_0 : wq1.cell? ⟨gb622,0,none⟩ = some (.bool false) := bc BK622 0;have hczq5_1 : wq1.cell? ⟨gb622,1,none⟩ = some (.int .u64 0) := bc BK622 1;have hczq5_2 : wq1.cell? ⟨gb622,2,none⟩ = some (.int .u64 0) := bc BK622 2;have hzAhczq5 := (held_three hczq5_0 hczq5_1 hczq5_2).1;have hzBhczq5 := (held_three hczq5_0 hczq5_1 hczq5_2).2.1;have hzChczq5 := (held_three hczq5_0 hczq5_1 hczq5_2).2.2;have hfzq5_0 := blk_frozen BK622.out 0;have hfzq5_1 := blk_frozen BK622.out 1;have hfzq5_2 := blk_frozen BK622.out 2;have hczq6_0 : wq1.cell? ⟨gb617,0,none⟩ = some (.bool a0_0) := bc BK617 0;have hczq6_1 : wq1.cell? ⟨gb617,1,none⟩ = some (.int .u64 a0_1) := bc BK617 1;have hczq6_2 : wq1.cell? ⟨gb617,2,none⟩ = some (.int .u64 a0_2) := bc BK617 2;have hzAhczq6 := (held_three hczq6_0 hczq6_1 hczq6_2).1;have hzBhczq6 := (held_three hczq6_0 hczq6_1 hczq6_2).2.1;have hzChczq6 := (held_three hczq6_0 hczq6_1 hczq6_2).2.2;have hfzq6_0 := blk_frozen BK617.out 0;have hfzq6_1 := blk_frozen BK617.out 1;have hfzq6_2 := blk_frozen BK617.out 2) | ((with_reducible refine gate_callee (f := 63) rfl ?_);refine goesL_ (some 47) rfl rfl Try.func63 Z310 rfl #[.agg #[.bool a0_0,.int .u64 (IntKind.u64.wrap ((IntKind.u64.wrap (a0_1 + a1_1)) + 1)),.int .u64 (IntKind.u64.wrap (a0_2 + a1_2))]] rfl Z249 ?_;(with_reducible refine (spec_WideOk.calls a0_0 (IntKind.u64.wrap ((IntKind.u64.wrap (a0_1 + a1_1)) + 1)) (IntKind.u64.wrap (a0_2 + a1_2)) true _ A27.out).mono ?_);rintro e wq7 ⟨rfl,hb⟩;refine ⟨_,rfl,?_⟩;have n_ := Z31;clear BK617 BK618 BK619 BK622 HB;obtain ⟨BK617,BK618,BK619,BK622,HB⟩ := n_;(try clear hb);(try clear hb2);(try clear hk);(try clear hi);have hczq8_0 : wq7.cell? ⟨gb622,0,none⟩ = some (.bool a0_0) := bc BK622 0;have hczq8_1 : wq7.cell? ⟨gb622,1,none⟩ = some (.int .u64 (IntKind.u64.wrap ((IntKind.u64.wrap (a0_1 + a1_1)) + 1))) := bc BK622 1;have hczq8_2 : wq7.cell? ⟨gb622,2,none⟩ = some (.int .u64 (IntKind.u64.wrap (a0_2 + a1_2))) := bc BK622 2;have hzAhczq8 := (held_three hczq8_0 hczq8_1 hczq8_2).1;have hzBhczq8 := (held_three hczq8_0 hczq8_1 hczq8_2).2.1;have hzChczq8 := (held_three hczq8_0 hczq8_1 hczq8_2).2.2;have hfzq8_0 := blk_frozen BK622.out 0;have hfzq8_1 := blk_frozen BK622.out 1;have hfzq8_2 := blk_frozen BK622.out 2;have hczq9_0 : wq7.cell? ⟨gb619,0,none⟩ = some (.bool false) := bc BK619 0;have hczq9_1 : wq7.cell? ⟨gb619,1,none⟩ = some (.int .u64 0) := bc BK619 1;have hczq9_2 : wq7.cell? ⟨gb619,2,none⟩ = some (.int .u64 0) := bc BK619 2;have hzAhczq9 := (held_three hczq9_0 hczq9_1 hczq9_2).1;have hzBhczq9 := (held_three hczq9_0 hczq9_1 hczq9_2).2.1;have hzChczq9 := (held_three hczq9_0 hczq9_1 hczq9_2).2.2;have hfzq9_0 := blk_frozen BK619.out 0;have hfzq9_1 := blk_frozen BK619.out 1;have hfzq9_2 := blk_frozen BK619.out 2))
    refine bodyPost_ret (results_ct rfl _ _ gb619 39 #[.bool a0_0,.int .u64 (IntKind.u64.wrap ((IntKind.u64.wrap (a0_1 + a1_1)) + 1)),.int .u64 (IntKind.u64.wrap (a0_2 + a1_2))] (0,0) _ rfl (by refine bP ?_;refine blk_put (cs := #[.bool a0_0,.int .u64 (IntKind.u64.wrap ((IntKind.u64.wrap (a0_1 + a1_1)) + 1)),.int .u64 0]) ?_ 2 _ rfl;refine bP ?_;refine blk_put (cs := #[.bool a0_0,.int .u64 0,.int .u64 0]) ?_ 1 _ rfl;refine bP ?_;refine blk_put (cs := #[.bool false,.int .u64 0,.int .u64 0]) ?_ 0 _ rfl;refine bP ?_;exact BK619.out) Try.underlying39 rfl Z310) rfl ?_
    exact ⟨Z265,Z327⟩
   rw [if_neg c25] at H
   have c25b0 : (a0_0 == a1_0) = false := by simpa using c25
   (try (have c25b1 : decide (a0_0 = a1_0) = false := by simpa using c25))
   (try (have c25b2 : (a0_0 == a1_0) = false := by simpa using c25))
   (try (have c25b3 : ¬ (a0_0 = a1_0) := by simpa using c25))
   clear c25
   obtain ⟨t627,A850,H⟩ := Option.bind_eq_some_iff.mp H
   have A85 := Aside0.mk A850
   clear A850
   have HC86 := Aside0.mk H
   clear H
   have hnb87 := NB617_618.out
   have hnc87 := NB618_617.out
   have hnb88 := NB617_619.out
   have hnc88 := NB619_617.out
   have hcz89_0 : wc.cell? ⟨gb617,0,none⟩ = some (.bool a0_0) := bc BK617 0
   have hcz89_1 : wc.cell? ⟨gb617,1,none⟩ = some (.int .u64 a0_1) := bc BK617 1
   have hcz89_2 : wc.cell? ⟨gb617,2,none⟩ = some (.int .u64 a0_2) := bc BK617 2
   have hzAhcz89 := (held_three hcz89_0 hcz89_1 hcz89_2).1
   have hzBhcz89 := (held_three hcz89_0 hcz89_1 hcz89_2).2.1
   have hzChcz89 := (held_three hcz89_0 hcz89_1 hcz89_2).2.2
   have hfz89_0 := blk_frozen BK617.out 0
   have hfz89_1 := blk_frozen BK617.out 1
   have hfz89_2 := blk_frozen BK617.out 2
   have hnb90 := NB618_619.out
   have hnc90 := NB619_618.out
   have hcz91_0 : wc.cell? ⟨gb618,0,none⟩ = some (.bool a1_0) := bc BK618 0
   have hcz91_1 : wc.cell? ⟨gb618,1,none⟩ = some (.int .u64 a1_1) := bc BK618 1
   have hcz91_2 : wc.cell? ⟨gb618,2,none⟩ = some (.int .u64 a1_2) := bc BK618 2
   have hzAhcz91 := (held_three hcz91_0 hcz91_1 hcz91_2).1
   have hzBhcz91 := (held_three hcz91_0 hcz91_1 hcz91_2).2.1
   have hzChcz91 := (held_three hcz91_0 hcz91_1 hcz91_2).2.2
   have hfz91_0 := blk_frozen BK618.out 0
   have hfz91_1 := blk_frozen BK618.out 1
   have hfz91_2 := blk_frozen BK618.out 2
   go_upto_if 56 with (first | ((with_reducible refine gate_dst (N := 7) rfl ?_);refine bE 7 #[.bool false,.int .u64 0,.int .u64 0] 39 (h := ?_);intro gb625 hg w92 hbox hb;have n_ := jA (blk_below (g := gb617) (o := .cells #[.bool a0_0,.int .u64 a0_1,.int .u64 a0_2] 39 (0,0)) Z575 hb) (jA (blk_below (g := gb618) (o := .cells #[.bool a1_0,.int .u64 a1_1,.int .u64 a1_2] 39 (0,0)) Z578 hb) (jA (blk_below (g := gb619) (o := .cells #[.bool false,.int .u64 0,.int .u64 0] 39 (0,0)) Z582 hb) (jA (below_step Z536 hb) (jA (hbox) (jA ((Z328 : w.heap.size ≤ gb625)) (jA ((Z328 : w.heap.size ≤ gb625)) (jA ((Z455 : gb617 ≠ gb625)) (jA ((Z456 : gb625 ≠ gb617)) (jA ((Z457 : gb618 ≠ gb625)) (jA ((Z458 : gb625 ≠ gb618)) (jA ((Z469 : gb619 ≠ gb625)) (Aside0.mk ((Z472 : gb625 ≠ gb619))))))))))))));clear BK617 BK618 BK619 HB;obtain ⟨BK617,BK618,BK619,HB,BK625,GW625,GE625,NB617_625,NB625_617,NB618_625,NB625_618,NB619_625,NB625_619⟩ := n_;clear hb hbox hg;have hnb93 := NB625_617.out;have hnc93 := NB617_625.out;have hnb94 := NB625_618.out;have hnc94 := NB618_625.out;have hnb95 := NB625_619.out;have hnc95 := NB619_625.out;have hcz96_0 : w92.cell? ⟨gb625,0,none⟩ = some (.bool false) := bc BK625 0;have hcz96_1 : w92.cell? ⟨gb625,1,none⟩ = some (.int .u64 0) := bc BK625 1;have hcz96_2 : w92.cell? ⟨gb625,2,none⟩ = some (.int .u64 0) := bc BK625 2;have hzAhcz96 := (held_three hcz96_0 hcz96_1 hcz96_2).1;have hzBhcz96 := (held_three hcz96_0 hcz96_1 hcz96_2).2.1;have hzChcz96 := (held_three hcz96_0 hcz96_1 hcz96_2).2.2;have hfz96_0 := blk_frozen BK625.out 0;have hfz96_1 := blk_frozen BK625.out 1;have hfz96_2 := blk_frozen BK625.out 2;have hcz97_0 : w92.cell? ⟨gb618,0,none⟩ = some (.bool a1_0) := bc BK618 0;have hcz97_1 : w92.cell? ⟨gb618,1,none⟩ = some (.int .u64 a1_1) := bc BK618 1;have hcz97_2 : w92.cell? ⟨gb618,2,none⟩ = some (.int .u64 a1_2) := bc BK618 2;have hzAhcz97 := (held_three hcz97_0 hcz97_1 hcz97_2).1;have hzBhcz97 := (held_three hcz97_0 hcz97_1 hcz97_2).2.1;have hzChcz97 := (held_three hcz97_0 hcz97_1 hcz97_2).2.2;have hfz97_0 := blk_frozen BK618.out 0;have hfz97_1 := blk_frozen BK618.out 1;have hfz97_2 := blk_frozen BK618.out 2) | ((with_reducible refine gate_dst (N := 8) rfl ?_);refine bE 8 #[.bool false,.int .u64 0,.int .u64 0] 39 (h := ?_);intro gb626 hg w98 hbox hb;have n_ := jA (blk_below (g := gb617) (o := .cells #[.bool a0_0,.int .u64 a0_1,.int .u64 a0_2] 39 (0,0)) Z230 hb) (jA (blk_below (g := gb618) (o := .cells #[.bool a1_0,.int .u64 a1_1,.int .u64 a1_2] 39 (0,0)) Z229 hb) (jA (blk_below (g := gb619) (o := .cells #[.bool false,.int .u64 0,.int .u64 0] 39 (0,0)) Z228 hb) (jA (blk_below (g := gb625) (o := .cells #[.bool a0_0,.int .u64 a0_1,.int .u64 a0_2] 39 (0,0)) Z159 hb) (jA (below_step Z330 hb) (jA (hbox) (jA ((Z157 : w.heap.size ≤ gb626)) (jA ((Z157 : w.heap.size ≤ gb626)) (jA ((by rw [hg];exact Nat.ne_of_lt (blk_lt (g := gb617) (o := .cells #[.bool a0_0,.int .u64 a0_1,.int .u64 a0_2] 39 (0,0)) Z230) : gb617 ≠ gb626)) (jA ((by rw [hg];exact Nat.ne_of_gt (blk_lt (g := gb617) (o := .cells #[.bool a0_0,.int .u64 a0_1,.int .u64 a0_2] 39 (0,0)) Z230) : gb626 ≠ gb617)) (jA ((by rw [hg];exact Nat.ne_of_lt (blk_lt (g := gb618) (o := .cells #[.bool a1_0,.int .u64 a1_1,.int .u64 a1_2] 39 (0,0)) Z229) : gb618 ≠ gb626)) (jA ((by rw [hg];exact Nat.ne_of_gt (blk_lt (g := gb618) (o := .cells #[.bool a1_0,.int .u64 a1_1,.int .u64 a1_2] 39 (0,0)) Z229) : gb626 ≠ gb618)) (jA ((by rw [hg];exact Nat.ne_of_lt (blk_lt (g := gb619) (o := .cells #[.bool false,.int .u64 0,.int .u64 0] 39 (0,0)) Z228) : gb619 ≠ gb626)) (jA ((by rw [hg];exact Nat.ne_of_gt (blk_lt (g := gb619) (o := .cells #[.bool false,.int .u64 0,.int .u64 0] 39 (0,0)) Z228) : gb626 ≠ gb619)) (jA ((by rw [hg];exact Nat.ne_of_lt (blk_lt (g := gb625) (o := .cells #[.bool a0_0,.int .u64 a0_1,.int .u64 a0_2] 39 (0,0)) Z159) : gb625 ≠ gb626)) (Aside0.mk ((by rw [hg];exact Nat.ne_of_gt (blk_lt (g := gb625) (o := .cells #[.bool a0_0,.int .u64 a0_1,.int .u64 a0_2] 39 (0,0)) Z159) : gb626 ≠ gb625)))))))))))))))));clear BK617 BK618 BK619 BK625 HB;obtain ⟨BK617,BK618,BK619,BK625,HB,BK626,GW626,GE626,NB617_626,NB626_617,NB618_626,NB626_618,NB619_626,NB626_619,NB625_626,NB626_625⟩ := n_;clear hb hbox hg;have hnb99 := NB626_617.out;have hnc99 := NB617_626.out;have hnb100 := NB626_618.out;have hnc100 := NB618_626.out;have hnb101 := NB626_619.out;have hnc101 := NB619_626.out;have hnb102 := NB626_625.out;have hnc102 := NB625_626.out;have hcz103_0 : w98.cell? ⟨gb626,0,none⟩ = some (.bool false) := bc BK626 0;have hcz103_1 : w98.cell? ⟨gb626,1,none⟩ = some (.int .u64 0) := bc BK626 1;have hcz103_2 : w98.cell? ⟨gb626,2,none⟩ = some (.int .u64 0) := bc BK626 2;have hzAhcz103 := (held_three hcz103_0 hcz103_1 hcz103_2).1;have hzBhcz103 := (held_three hcz103_0 hcz103_1 hcz103_2).2.1;have hzChcz103 := (held_three hcz103_0 hcz103_1 hcz103_2).2.2;have hfz103_0 := blk_frozen BK626.out 0;have hfz103_1 := blk_frozen BK626.out 1;have hfz103_2 := blk_frozen BK626.out 2;have hcz104_0 : w98.cell? ⟨gb617,0,none⟩ = some (.bool a0_0) := bc BK617 0;have hcz104_1 : w98.cell? ⟨gb617,1,none⟩ = some (.int .u64 a0_1) := bc BK617 1;have hcz104_2 : w98.cell? ⟨gb617,2,none⟩ = some (.int .u64 a0_2) := bc BK617 2;have hzAhcz104 := (held_three hcz104_0 hcz104_1 hcz104_2).1;have hzBhcz104 := (held_three hcz104_0 hcz104_1 hcz104_2).2.1;have hzChcz104 := (held_three hcz104_0 hcz104_1 hcz104_2).2.2;have hfz104_0 := blk_frozen BK617.out 0;have hfz104_1 := blk_frozen BK617.out 1;have hfz104_2 := blk_frozen BK617.out 2;have hcz105_0 : w98.cell? ⟨gb618,0,none⟩ = some (.bool a1_0) := bc BK618 0;have hcz105_1 : w98.cell? ⟨gb618,1,none⟩ = some (.int .u64 a1_1) := bc BK618 1;have hcz105_2 : w98.cell? ⟨gb618,2,none⟩ = some (.int .u64 a1_2) := bc BK618 2;have hzAhcz105 := (held_three hcz105_0 hcz105_1 hcz105_2).1;have hzBhcz105 := (held_three hcz105_0 hcz105_1 hcz105_2).2.1;have hzChcz105 := (held_three hcz105_0 hcz105_1 hcz105_2).2.2;have hfz105_0 := blk_frozen BK618.out 0;have hfz105_1 := blk_frozen BK618.out 1;have hfz105_2 := blk_frozen BK618.out 2) | ((with_reducible refine gate_callee (f := 52) rfl ?_);refine goesL_ (some 55) rfl rfl Try.func52 Z310 rfl #[.agg #[.bool a0_0,.int .u64 a0_1,.int .u64 a0_2],.agg #[.bool a1_0,.int .u64 a1_1,.int .u64 a1_2]] rfl Z249 ?_;(with_reducible refine (spec_l3Order.calls kj2 a0_0 a0_1 a0_2 a1_0 a1_1 a1_2 t627 _ A85.out).mono ?_);rintro e w106 ⟨rfl,hb⟩;refine ⟨_,rfl,?_⟩;have n_ := jA (blk_below (g := gb617) (o := .cells #[.bool a0_0,.int .u64 a0_1,.int .u64 a0_2] 39 (0,0)) (by refine bP ?_;refine blk_far ?_ NB617_626.out _;refine bP ?_;refine blk_far ?_ NB617_626.out _;refine bP ?_;refine blk_far ?_ NB617_626.out _;refine bP ?_;exact BK617.out) hb) (jA (blk_below (g := gb618) (o := .cells #[.bool a1_0,.int .u64 a1_1,.int .u64 a1_2] 39 (0,0)) (by refine bP ?_;refine blk_far ?_ NB618_626.out _;refine bP ?_;refine blk_far ?_ NB618_626.out _;refine bP ?_;refine blk_far ?_ NB618_626.out _;refine bP ?_;exact BK618.out) hb) (jA (blk_below (g := gb619) (o := .cells #[.bool false,.int .u64 0,.int .u64 0] 39 (0,0)) (by refine bP ?_;refine blk_far ?_ NB619_626.out _;refine bP ?_;refine blk_far ?_ NB619_626.out _;refine bP ?_;refine blk_far ?_ NB619_626.out _;refine bP ?_;exact BK619.out) hb) (jA (blk_below (g := gb625) (o := .cells #[.bool a0_0,.int .u64 a0_1,.int .u64 a0_2] 39 (0,0)) (by refine bP ?_;refine blk_far ?_ NB625_626.out _;refine bP ?_;refine blk_far ?_ NB625_626.out _;refine bP ?_;refine blk_far ?_ NB625_626.out _;refine bP ?_;exact BK625.out) hb) (jA (blk_below (g := gb626) (o := .cells #[.bool a1_0,.int .u64 a1_1,.int .u64 a1_2] 39 (0,0)) (by refine bP ?_;refine blk_put (cs := #[.bool a1_0,.int .u64 a1_1,.int .u64 0]) ?_ 2 _ rfl;refine bP ?_;refine blk_put (cs := #[.bool a1_0,.int .u64 0,.int .u64 0]) ?_ 1 _ rfl;refine bP ?_;refine blk_put (cs := #[.bool false,.int .u64 0,.int .u64 0]) ?_ 0 _ rfl;refine bP ?_;exact BK626.out) hb) (Aside0.mk (below_step Z526 hb))))));clear BK617 BK618 BK619 BK625 BK626 HB;obtain ⟨BK617,BK618,BK619,BK625,BK626,HB⟩ := n_;(try clear hb);(try clear hb2);(try clear hk);(try clear hi)))
   (try simp only [Act.put,List.setIfInBounds_toArray,List.set_cons_zero,List.set_cons_succ])
   go_cut [] (fun wc => ∃ (kq : Nat) (x626000_85 : Bool) (x626001_85 : Int) (x626002_85 : Int) (x627000_85 : Bool) (x627001_85 : Int) (x627002_85 : Int),Aside0 (spec_AddWide.j1 kq x626000_85 x626001_85 x626002_85 x627000_85 x627001_85 x627002_85 = some (r1,r2,r3,r4)) ∧ Aside0 (kq ≤ kj2) ∧ Aside0 (wc.heap[gb617]? = some (.cells #[.bool a0_0,.int .u64 a0_1,.int .u64 a0_2] 39 (0,0))) ∧ Aside0 (wc.heap[gb618]? = some (.cells #[.bool a1_0,.int .u64 a1_1,.int .u64 a1_2] 39 (0,0))) ∧ Aside0 (wc.heap[gb619]? = some (.cells #[.bool false,.int .u64 0,.int .u64 0] 39 (0,0))) ∧ Aside0 (wc.heap[gb625]? = some (.cells #[.bool x626000_85,.int .u64 x626001_85,.int .u64 x626002_85] 39 (0,0))) ∧ Aside0 (wc.heap[gb626]? = some (.cells #[.bool x627000_85,.int .u64 x627001_85,.int .u64 x627002_85] 39 (0,0))) ∧ Aside0 (Below w.heap.size w wc))
   case first =>
    have H := HC86.out
    clear HC86
    by_cases c107 : t627 < 0
    rotate_left
    ·rw [if_neg c107] at H
     have c107b0 : decide (t627 < 0) = false := decide_eq_false c107
     clear c107
     (first | rw [c107b0] | (simp only [i64_w,i32_w];rw [c107b0]) | skip)
     have H' := Aside0.mk H
     clear H
     go_wp2
     go_meet
     case rel => exact ⟨_,(a0_0),(a0_1),(a0_2),(a1_0),(a1_1),(a1_2),H',⟨Z291⟩,⟨Z575⟩,⟨Z578⟩,⟨Z582⟩,⟨Z511⟩,⟨Z510⟩,⟨Z526⟩⟩
    rw [if_pos c107] at H
    have c107b0 : decide (t627 < 0) = true := decide_eq_true c107
    clear c107
    (first | rw [c107b0] | (simp only [i64_w,i32_w];rw [c107b0]) | skip)
    have H' := Aside0.mk H
    clear H
    have hnb108 := NB618_617.out
    have hnc108 := NB617_618.out
    have hnb109 := NB618_619.out
    have hnc109 := NB619_618.out
    have hnb110 := NB618_625.out
    have hnc110 := NB625_618.out
    have hnb111 := NB618_626.out
    have hnc111 := NB626_618.out
    have hcz112_0 : w106.cell? ⟨gb618,0,none⟩ = some (.bool a1_0) := bc BK618 0
    have hcz112_1 : w106.cell? ⟨gb618,1,none⟩ = some (.int .u64 a1_1) := bc BK618 1
    have hcz112_2 : w106.cell? ⟨gb618,2,none⟩ = some (.int .u64 a1_2) := bc BK618 2
    have hzAhcz112 := (held_three hcz112_0 hcz112_1 hcz112_2).1
    have hzBhcz112 := (held_three hcz112_0 hcz112_1 hcz112_2).2.1
    have hzChcz112 := (held_three hcz112_0 hcz112_1 hcz112_2).2.2
    have hfz112_0 := blk_frozen BK618.out 0
    have hfz112_1 := blk_frozen BK618.out 1
    have hfz112_2 := blk_frozen BK618.out 2
    have hnb113 := NB625_617.out
    have hnc113 := NB617_625.out
    have hnb114 := NB625_619.out
    have hnc114 := NB619_625.out
    have hnb115 := NB625_626.out
    have hnc115 := NB626_625.out
    have hcz116_0 : w106.cell? ⟨gb625,0,none⟩ = some (.bool a0_0) := bc BK625 0
    have hcz116_1 : w106.cell? ⟨gb625,1,none⟩ = some (.int .u64 a0_1) := bc BK625 1
    have hcz116_2 : w106.cell? ⟨gb625,2,none⟩ = some (.int .u64 a0_2) := bc BK625 2
    have hzAhcz116 := (held_three hcz116_0 hcz116_1 hcz116_2).1
    have hzBhcz116 := (held_three hcz116_0 hcz116_1 hcz116_2).2.1
    have hzChcz116 := (held_three hcz116_0 hcz116_1 hcz116_2).2.2
    have hfz116_0 := blk_frozen BK625.out 0
    have hfz116_1 := blk_frozen BK625.out 1
    have hfz116_2 := blk_frozen BK625.out 2
    have hnb117 := NB617_619.out
    have hnc117 := NB619_617.out
    have hnb118 := NB617_626.out
    have hnc118 := NB626_617.out
    have hcz119_0 : w106.cell? ⟨gb617,0,none⟩ = some (.bool a0_0) := bc BK617 0
    have hcz119_1 : w106.cell? ⟨gb617,1,none⟩ = some (.int .u64 a0_1) := bc BK617 1
    have hcz119_2 : w106.cell? ⟨gb617,2,none⟩ = some (.int .u64 a0_2) := bc BK617 2
    have hzAhcz119 := (held_three hcz119_0 hcz119_1 hcz119_2).1
    have hzBhcz119 := (held_three hcz119_0 hcz119_1 hcz119_2).2.1
    have hzChcz119 := (held_three hcz119_0 hcz119_1 hcz119_2).2.2
    have hfz119_0 := blk_frozen BK617.out 0
    have hfz119_1 := blk_frozen BK617.out 1
    have hfz119_2 := blk_frozen BK617.out 2
    have hnb120 := NB626_619.out
    have hnc120 := NB619_626.out
    have hcz121_0 : w106.cell? ⟨gb626,0,none⟩ = some (.bool a1_0) := bc BK626 0
    have hcz121_1 : w106.cell? ⟨gb626,1,none⟩ = some (.int .u64 a1_1) := bc BK626 1
    have hcz121_2 : w106.cell? ⟨gb626,2,none⟩ = some (.int .u64 a1_2) := bc BK626 2
    have hzAhcz121 := (held_three hcz121_0 hcz121_1 hcz121_2).1
    have hzBhcz121 := (held_three hcz121_0 hcz121_1 hcz121_2).2.1
    have hzChcz121 := (held_three hcz121_0 hcz121_1 hcz121_2).2.2
    have hfz121_0 := blk_frozen BK626.out 0
    have hfz121_1 := blk_frozen BK626.out 1
    have hfz121_2 := blk_frozen BK626.out 2
    go_wp2
    go_meet
    case rel => exact ⟨_,(a1_0),(a1_1),(a1_2),(a0_0),(a0_1),(a0_2),H',⟨Z291⟩,⟨by refine bP ?_;refine blk_far ?_ NB617_626.out _;refine bP ?_;refine blk_far ?_ NB617_626.out _;refine bP ?_;refine blk_far ?_ NB617_626.out _;refine bP ?_;refine blk_far ?_ NB617_625.out _;refine bP ?_;refine blk_far ?_ NB617_625.out _;refine bP ?_;refine blk_far ?_ NB617_625.out _;refine bP ?_;exact BK617.out⟩,⟨by refine bP ?_;refine blk_far ?_ NB618_626.out _;refine bP ?_;refine blk_far ?_ NB618_626.out _;refine bP ?_;refine blk_far ?_ NB618_626.out _;refine bP ?_;refine blk_far ?_ NB618_625.out _;refine bP ?_;refine blk_far ?_ NB618_625.out _;refine bP ?_;refine blk_far ?_ NB618_625.out _;refine bP ?_;exact BK618.out⟩,⟨by refine bP ?_;refine blk_far ?_ NB619_626.out _;refine bP ?_;refine blk_far ?_ NB619_626.out _;refine bP ?_;refine blk_far ?_ NB619_626.out _;refine bP ?_;refine blk_far ?_ NB619_625.out _;refine bP ?_;refine blk_far ?_ NB619_625.out _;refine bP ?_;refine blk_far ?_ NB619_625.out _;refine bP ?_;exact BK619.out⟩,⟨by refine bP ?_;refine blk_far ?_ NB625_626.out _;refine bP ?_;refine blk_far ?_ NB625_626.out _;refine bP ?_;refine blk_far ?_ NB625_626.out _;refine bP ?_;refine blk_put (cs := #[.bool a1_0,.int .u64 a1_1,.int .u64 a0_2]) ?_ 2 _ rfl;refine bP ?_;refine blk_put (cs := #[.bool a1_0,.int .u64 a0_1,.int .u64 a0_2]) ?_ 1 _ rfl;refine bP ?_;refine blk_put (cs := #[.bool a0_0,.int .u64 a0_1,.int .u64 a0_2]) ?_ 0 _ rfl;refine bP ?_;exact BK625.out⟩,⟨by refine bP ?_;refine blk_put (cs := #[.bool a0_0,.int .u64 a0_1,.int .u64 a1_2]) ?_ 2 _ rfl;refine bP ?_;refine blk_put (cs := #[.bool a0_0,.int .u64 a1_1,.int .u64 a1_2]) ?_ 1 _ rfl;refine bP ?_;refine blk_put (cs := #[.bool a1_0,.int .u64 a1_1,.int .u64 a1_2]) ?_ 0 _ rfl;refine bP ?_;refine blk_far ?_ NB626_625.out _;refine bP ?_;refine blk_far ?_ NB626_625.out _;refine bP ?_;refine blk_far ?_ NB626_625.out _;refine bP ?_;exact BK626.out⟩,⟨Z526⟩⟩
   case rest =>
    clear HC86
    try clear c1
    try clear c2
    try clear p2
    try clear c3
    try clear c4
    try clear c5
    try clear c6
    try clear c7
    try clear c8
    try clear c9
    try clear c10
    try clear c11
    try clear c12
    try clear c14
    try clear c17
    try clear c18
    try clear c21
    try clear c22
    try clear c23
    try clear c25
    try clear c25b0
    try clear c25b1
    try clear c25b2
    try clear c26
    try clear c26b0
    try clear c28
    try clear c29
    try clear c30
    try clear c32
    try clear c35
    try clear c36
    try clear c37
    try clear c43
    try clear c44
    try clear c46
    try clear c48
    try clear c49
    try clear c50
    try clear c51
    try clear c52
    try clear c57
    try clear c58
    try clear c59
    try clear c61
    try clear c63
    try clear c64
    try clear c65
    try clear c66
    try clear c72
    try clear c73
    try clear c75
    try clear c78
    try clear c79
    try clear c80
    try clear c87
    try clear c88
    try clear c90
    try clear c93
    try clear c94
    try clear c95
    try clear c99
    try clear c100
    try clear c101
    try clear c102
    try clear c107
    try clear c107b0
    try clear c108
    try clear c109
    try clear c110
    try clear c111
    try clear c113
    try clear c114
    try clear c115
    try clear c117
    try clear c118
    try clear c120
    try clear hcz103_0
    try clear hcz103_1
    try clear hcz103_2
    try clear hcz104_0
    try clear hcz104_1
    try clear hcz104_2
    try clear hcz105_0
    try clear hcz105_1
    try clear hcz105_2
    try clear hcz112_0
    try clear hcz112_1
    try clear hcz112_2
    try clear hcz116_0
    try clear hcz116_1
    try clear hcz116_2
    try clear hcz119_0
    try clear hcz119_1
    try clear hcz119_2
    try clear hcz121_0
    try clear hcz121_1
    try clear hcz121_2
    try clear hcz12_0
    try clear hcz12_1
    try clear hcz12_2
    try clear hcz15_0
    try clear hcz15_1
    try clear hcz15_2
    try clear hcz19_0
    try clear hcz19_1
    try clear hcz19_2
    try clear hcz24_0
    try clear hcz24_1
    try clear hcz24_2
    try clear hcz31_0
    try clear hcz31_1
    try clear hcz31_2
    try clear hcz33_0
    try clear hcz33_1
    try clear hcz33_2
    try clear hcz38_0
    try clear hcz38_1
    try clear hcz38_2
    try clear hcz39_0
    try clear hcz39_1
    try clear hcz39_2
    try clear hcz41_0
    try clear hcz41_1
    try clear hcz41_2
    try clear hcz42_0
    try clear hcz42_1
    try clear hcz42_2
    try clear hcz45_0
    try clear hcz45_1
    try clear hcz45_2
    try clear hcz47_0
    try clear hcz47_1
    try clear hcz47_2
    try clear hcz52_0
    try clear hcz52_1
    try clear hcz52_2
    try clear hcz53_0
    try clear hcz53_1
    try clear hcz53_2
    try clear hcz55_0
    try clear hcz55_1
    try clear hcz55_2
    try clear hcz60_0
    try clear hcz60_1
    try clear hcz60_2
    try clear hcz62_0
    try clear hcz62_1
    try clear hcz62_2
    try clear hcz67_0
    try clear hcz67_1
    try clear hcz67_2
    try clear hcz68_0
    try clear hcz68_1
    try clear hcz68_2
    try clear hcz70_0
    try clear hcz70_1
    try clear hcz70_2
    try clear hcz71_0
    try clear hcz71_1
    try clear hcz71_2
    try clear hcz74_0
    try clear hcz74_1
    try clear hcz74_2
    try clear hcz76_0
    try clear hcz76_1
    try clear hcz76_2
    try clear hcz81_0
    try clear hcz81_1
    try clear hcz81_2
    try clear hcz82_0
    try clear hcz82_1
    try clear hcz82_2
    try clear hcz84_0
    try clear hcz84_1
    try clear hcz84_2
    try clear hcz89_0
    try clear hcz89_1
    try clear hcz89_2
    try clear hcz91_0
    try clear hcz91_1
    try clear hcz91_2
    try clear hcz96_0
    try clear hcz96_1
    try clear hcz96_2
    try clear hcz97_0
    try clear hcz97_1
    try clear hcz97_2
    try clear hfz103_0
    try clear hfz103_1
    try clear hfz103_2
    try clear hfz104_0
    try clear hfz104_1
    try clear hfz104_2
    try clear hfz105_0
    try clear hfz105_1
    try clear hfz105_2
    try clear hfz112_0
    try clear hfz112_1
    try clear hfz112_2
    try clear hfz116_0
    try clear hfz116_1
    try clear hfz116_2
    try clear hfz119_0
    try clear hfz119_1
    try clear hfz119_2
    try clear hfz121_0
    try clear hfz121_1
    try clear hfz121_2
    try clear hfz12_0
    try clear hfz12_1
    try clear hfz12_2
    try clear hfz15_0
    try clear hfz15_1
    try clear hfz15_2
    try clear hfz19_0
    try clear hfz19_1
    try clear hfz19_2
    try clear hfz24_0
    try clear hfz24_1
    try clear hfz24_2
    try clear hfz31_0
    try clear hfz31_1
    try clear hfz31_2
    try clear hfz33_0
    try clear hfz33_1
    try clear hfz33_2
    try clear hfz38_0
    try clear hfz38_1
    try clear hfz38_2
    try clear hfz39_0
    try clear hfz39_1
    try clear hfz39_2
    try clear hfz41_0
    try clear hfz41_1
    try clear hfz41_2
    try clear hfz42_0
    try clear hfz42_1
    try clear hfz42_2
    try clear hfz45_0
    try clear hfz45_1
    try clear hfz45_2
    try clear hfz47_0
    try clear hfz47_1
    try clear hfz47_2
    try clear hfz52_0
    try clear hfz52_1
    try clear hfz52_2
    try clear hfz53_0
    try clear hfz53_1
    try clear hfz53_2
    try clear hfz55_0
    try clear hfz55_1
    try clear hfz55_2
    try clear hfz60_0
    try clear hfz60_1
    try clear hfz60_2
    try clear hfz62_0
    try clear hfz62_1
    try clear hfz62_2
    try clear hfz67_0
    try clear hfz67_1
    try clear hfz67_2
    try clear hfz68_0
    try clear hfz68_1
    try clear hfz68_2
    try clear hfz70_0
    try clear hfz70_1
    try clear hfz70_2
    try clear hfz71_0
    try clear hfz71_1
    try clear hfz71_2
    try clear hfz74_0
    try clear hfz74_1
    try clear hfz74_2
    try clear hfz76_0
    try clear hfz76_1
    try clear hfz76_2
    try clear hfz81_0
    try clear hfz81_1
    try clear hfz81_2
    try clear hfz82_0
    try clear hfz82_1
    try clear hfz82_2
    try clear hfz84_0
    try clear hfz84_1
    try clear hfz84_2
    try clear hfz89_0
    try clear hfz89_1
    try clear hfz89_2
    try clear hfz91_0
    try clear hfz91_1
    try clear hfz91_2
    try clear hfz96_0
    try clear hfz96_1
    try clear hfz96_2
    try clear hfz97_0
    try clear hfz97_1
    try clear hfz97_2
    try clear p2
    obtain ⟨kq,x626000_85,x626001_85,x626002_85,x627000_85,x627001_85,x627002_85,HA,HJ85,BK617,BK618,BK619,BK625,BK626,HB⟩ := hcut
    cases kq with
    | zero => exact absurd HA.out (by simp [spec_AddWide.j1])
    | succ kj85 =>
     have H := HA.out
     clear HA
     simp only [spec_AddWide.j1] at H
     by_cases c122 : x626002_85 < x627002_85
     rotate_left
     ·rw [if_neg c122] at H
      have c122b0 : decide (x626002_85 < x627002_85) = false := decide_eq_false c122
      clear c122
      obtain ⟨t630,A1710,H⟩ := Option.bind_eq_some_iff.mp H
      have A171 := Aside0.mk A1710
      clear A1710
      by_cases c172 : t630 = true
      ·subst c172
       rw [if_pos rfl] at H
       simp only [Option.some.injEq,Prod.mk.injEq] at H
       obtain ⟨rfl,rfl,rfl,rfl⟩ := H
       have hnb173 := NB625_617.out
       have hnc173 := NB617_625.out
       have hnb174 := NB625_618.out
       have hnc174 := NB618_625.out
       have hnb175 := NB625_619.out
       have hnc175 := NB619_625.out
       have hnb176 := NB625_626.out
       have hnc176 := NB626_625.out
       have hcz177_0 : wc.cell? ⟨gb625,0,none⟩ = some (.bool x626000_85) := bc BK625 0
       have hcz177_1 : wc.cell? ⟨gb625,1,none⟩ = some (.int .u64 x626001_85) := bc BK625 1
       have hcz177_2 : wc.cell? ⟨gb625,2,none⟩ = some (.int .u64 x626002_85) := bc BK625 2
       have hzAhcz177 := (held_three hcz177_0 hcz177_1 hcz177_2).1
       have hzBhcz177 := (held_three hcz177_0 hcz177_1 hcz177_2).2.1
       have hzChcz177 := (held_three hcz177_0 hcz177_1 hcz177_2).2.2
       have hfz177_0 := blk_frozen BK625.out 0
       have hfz177_1 := blk_frozen BK625.out 1
       have hfz177_2 := blk_frozen BK625.out 2
       have hnb178 := NB626_617.out
       have hnc178 := NB617_626.out
       have hnb179 := NB626_618.out
       have hnc179 := NB618_626.out
       have hnb180 := NB626_619.out
       have hnc180 := NB619_626.out
       have hcz181_0 : wc.cell? ⟨gb626,0,none⟩ = some (.bool x627000_85) := bc BK626 0
       have hcz181_1 : wc.cell? ⟨gb626,1,none⟩ = some (.int .u64 x627001_85) := bc BK626 1
       have hcz181_2 : wc.cell? ⟨gb626,2,none⟩ = some (.int .u64 x627002_85) := bc BK626 2
       have hzAhcz181 := (held_three hcz181_0 hcz181_1 hcz181_2).1
       have hzBhcz181 := (held_three hcz181_0 hcz181_1 hcz181_2).2.1
       have hzChcz181 := (held_three hcz181_0 hcz181_1 hcz181_2).2.2
       have hfz181_0 := blk_frozen BK626.out 0
       have hfz181_1 := blk_frozen BK626.out 1
       have hfz181_2 := blk_frozen BK626.out 2
       go_wp2_with (first | ((with_reducible refine gate_dst (N := 9) rfl ?_);refine bE 9 #[.bool false,.int .u64 0,.int .u64 0] 39 (h := ?_);intro gb628 hg wq1 hbox hb;have n_ := Z4;clear BK617 BK618 BK619 BK625 BK626 HB;obtain ⟨BK617,BK618,BK619,BK625,BK626,HB,BK628,GW628,GE628,NB617_628,NB628_617,NB618_628,NB628_618,NB619_628,NB628_619,NB625_628,NB628_625,NB626_628,NB628_626⟩ := n_;clear hb hbox hg;have hnbq2 := NB628_617.out;have hncq2 := NB617_628.out;have hnbq3 := NB628_618.out;have hncq3 := NB618_628.out;have hnbq4 := NB628_619.out;have hncq4 := NB619_628.out;have hnbq5 := NB628_625.out;have hncq5 := NB625_628.out;have hnbq6 := NB628_626.out;have hncq6 := NB626_628.out;have hczq7_0 : wq1.cell? ⟨gb628,0,none⟩ = some (.bool false) := bc BK628 0;have hczq7_1 : wq1.cell? ⟨gb628,1,none⟩ = some (.int .u64 0) := bc BK628 1;have hczq7_2 : wq1.cell? ⟨gb628,2,none⟩ = some (.int .u64 0) := bc BK628 2;have hzAhczq7 := (held_three hczq7_0 hczq7_1 hczq7_2).1;have hzBhczq7 := (held_three hczq7_0 hczq7_1 hczq7_2).2.1;have hzChczq7 := (held_three hczq7_0 hczq7_1 hczq7_2).2.2;have hfzq7_0 := blk_frozen BK628.out 0;have hfzq7_1 := blk_frozen BK628.out 1;have hfzq7_2 := blk_frozen BK628.out 2;have hczq8_0 : wq1.cell? ⟨gb625,0,none⟩ = some (.bool x626000_85) := bc BK625 0;have hczq8_1 : wq1.cell? ⟨gb625,1,none⟩ = some (.int .u64 x626001_85) := bc BK625 1;have hczq8_2 : wq1.cell? ⟨gb625,2,none⟩ = some (.int .u64 x626002_85) := bc BK625 2;have hzAhczq8 := (held_three hczq8_0 hczq8_1 hczq8_2).1;have hzBhczq8 := (held_three hczq8_0 hczq8_1 hczq8_2).2.1;have hzChczq8 := (held_three hczq8_0 hczq8_1 hczq8_2).2.2;have hfzq8_0 := blk_frozen BK625.out 0;have hfzq8_1 := blk_frozen BK625.out 1;have hfzq8_2 := blk_frozen BK625.out 2;have hczq9_0 : wq1.cell? ⟨gb626,0,none⟩ = some (.bool x627000_85) := bc BK626 0;have hczq9_1 : wq1.cell? ⟨gb626,1,none⟩ = some (.int .u64 x627001_85) := bc BK626 1;have hczq9_2 : wq1.cell? ⟨gb626,2,none⟩ = some (.int .u64 x627002_85) := bc BK626 2;have hzAhczq9 := (held_three hczq9_0 hczq9_1 hczq9_2).1;have hzBhczq9 := (held_three hczq9_0 hczq9_1 hczq9_2).2.1;have hzChczq9 := (held_three hczq9_0 hczq9_1 hczq9_2).2.2;have hfzq9_0 := blk_frozen BK626.out 0;have hfzq9_1 := blk_frozen BK626.out 1;have hfzq9_2 := blk_frozen BK626.out 2) | ((with_reducible refine gate_callee (f := 51) rfl ?_);refine goesL_ (some 82) rfl rfl Try.func51 Z310 rfl #[.agg #[.bool x626000_85,.int .u64 (IntKind.u64.wrap (x626001_85 - x627001_85)),.int .u64 (IntKind.u64.wrap (x626002_85 - x627002_85))]] rfl Z249 ?_;(with_reducible refine (spec_l3Zero.calls x626000_85 (IntKind.u64.wrap (x626001_85 - x627001_85)) (IntKind.u64.wrap (x626002_85 - x627002_85)) true _ A171.out).mono ?_);rintro e wq10 ⟨rfl,hb⟩;refine ⟨_,rfl,?_⟩;have n_ := Z26;clear BK617 BK618 BK619 BK625 BK626 BK628 HB;obtain ⟨BK617,BK618,BK619,BK625,BK626,BK628,HB⟩ := n_;(try clear hb);(try clear hb2);(try clear hk);(try clear hi);have hczq11_0 : wq10.cell? ⟨gb628,0,none⟩ = some (.bool x626000_85) := bc BK628 0;have hczq11_1 : wq10.cell? ⟨gb628,1,none⟩ = some (.int .u64 (IntKind.u64.wrap (x626001_85 - x627001_85))) := bc BK628 1;have hczq11_2 : wq10.cell? ⟨gb628,2,none⟩ = some (.int .u64 (IntKind.u64.wrap (x626002_85 - x627002_85))) := bc BK628 2;have hzAhczq11 := (held_three hczq11_0 hczq11_1 hczq11_2).1;have hzBhczq11 := (held_three hczq11_0 hczq11_1 hczq11_2).2.1;have hzChczq11 := (held_three hczq11_0 hczq11_1 hczq11_2).2.2;have hfzq11_0 := blk_frozen BK628.out 0;have hfzq11_1 := blk_frozen BK628.out 1;have hfzq11_2 := blk_frozen BK628.out 2;have hnbq12 := NB619_617.out;have hncq12 := NB617_619.out;have hnbq13 := NB619_618.out;have hncq13 := NB618_619.out;have hczq14_0 : wq10.cell? ⟨gb619,0,none⟩ = some (.bool false) := bc BK619 0;have hczq14_1 : wq10.cell? ⟨gb619,1,none⟩ = some (.int .u64 0) := bc BK619 1;have hczq14_2 : wq10.cell? ⟨gb619,2,none⟩ = some (.int .u64 0) := bc BK619 2;have hzAhczq14 := (held_three hczq14_0 hczq14_1 hczq14_2).1;have hzBhczq14 := (held_three hczq14_0 hczq14_1 hczq14_2).2.1;have hzChczq14 := (held_three hczq14_0 hczq14_1 hczq14_2).2.2;have hfzq14_0 := blk_frozen BK619.out 0;have hfzq14_1 := blk_frozen BK619.out 1;have hfzq14_2 := blk_frozen BK619.out 2))
       refine bodyPost_ret (results_ct rfl _ _ gb619 39 #[.bool false,.int .u64 (IntKind.u64.wrap (x626001_85 - x627001_85)),.int .u64 (IntKind.u64.wrap (x626002_85 - x627002_85))] (0,0) _ rfl (by refine bP ?_;refine blk_put (cs := #[.bool false,.int .u64 (IntKind.u64.wrap (x626001_85 - x627001_85)),.int .u64 0]) ?_ 2 _ rfl;refine bP ?_;refine blk_put (cs := #[.bool false,.int .u64 0,.int .u64 0]) ?_ 1 _ rfl;refine bP ?_;refine blk_put (cs := #[.bool false,.int .u64 0,.int .u64 0]) ?_ 0 _ rfl;refine bP ?_;refine blk_far ?_ NB619_628.out _;refine bP ?_;exact BK619.out) Try.underlying39 rfl Z310) rfl ?_
       exact ⟨Z265,Z314⟩
      replace c172 := Bool.eq_false_iff.mpr c172
      subst c172
      rw [if_neg Bool.false_ne_true] at H
      simp only [Option.some.injEq,Prod.mk.injEq] at H
      obtain ⟨rfl,rfl,rfl,rfl⟩ := H
      have hnb196 := NB625_617.out
      have hnc196 := NB617_625.out
      have hnb197 := NB625_618.out
      have hnc197 := NB618_625.out
      have hnb198 := NB625_619.out
      have hnc198 := NB619_625.out
      have hnb199 := NB625_626.out
      have hnc199 := NB626_625.out
      have hcz200_0 : wc.cell? ⟨gb625,0,none⟩ = some (.bool x626000_85) := bc BK625 0
      have hcz200_1 : wc.cell? ⟨gb625,1,none⟩ = some (.int .u64 x626001_85) := bc BK625 1
      have hcz200_2 : wc.cell? ⟨gb625,2,none⟩ = some (.int .u64 x626002_85) := bc BK625 2
      have hzAhcz200 := (held_three hcz200_0 hcz200_1 hcz200_2).1
      have hzBhcz200 := (held_three hcz200_0 hcz200_1 hcz200_2).2.1
      have hzChcz200 := (held_three hcz200_0 hcz200_1 hcz200_2).2.2
      have hfz200_0 := blk_frozen BK625.out 0
      have hfz200_1 := blk_frozen BK625.out 1
      have hfz200_2 := blk_frozen BK625.out 2
      have hnb201 := NB626_617.out
      have hnc201 := NB617_626.out
      have hnb202 := NB626_618.out
      have hnc202 := NB618_626.out
      have hnb203 := NB626_619.out
      have hnc203 := NB619_626.out
      have hcz204_0 : wc.cell? ⟨gb626,0,none⟩ = some (.bool x627000_85) := bc BK626 0
      have hcz204_1 : wc.cell? ⟨gb626,1,none⟩ = some (.int .u64 x627001_85) := bc BK626 1
      have hcz204_2 : wc.cell? ⟨gb626,2,none⟩ = some (.int .u64 x627002_85) := bc BK626 2
      have hzAhcz204 := (held_three hcz204_0 hcz204_1 hcz204_2).1
      have hzBhcz204 := (held_three hcz204_0 hcz204_1 hcz204_2).2.1
      have hzChcz204 := (held_three hcz204_0 hcz204_1 hcz204_2).2.2
      have hfz204_0 := blk_frozen BK626.out 0
      have hfz204_1 := blk_frozen BK626.out 1
      have hfz204_2 := blk_frozen BK626.out 2
      go_wp2_with (first | ((with_reducible refine gate_dst (N := 9) rfl ?_);refine bE 9 #[.bool false,.int .u64 0,.int .u64 0] 39 (h := ?_);intro gb628 hg wq1 hbox hb;have n_ := Z4;clear BK617 BK618 BK619 BK625 BK626 HB;obtain ⟨BK617,BK618,BK619,BK625,BK626,HB,BK628,GW628,GE628,NB617_628,NB628_617,NB618_628,NB628_618,NB619_628,NB628_619,NB625_628,NB628_625,NB626_628,NB628_626⟩ := n_;clear hb hbox hg;have hnbq2 := NB628_617.out;have hncq2 := NB617_628.out;have hnbq3 := NB628_618.out;have hncq3 := NB618_628.out;have hnbq4 := NB628_619.out;have hncq4 := NB619_628.out;have hnbq5 := NB628_625.out;have hncq5 := NB625_628.out;have hnbq6 := NB628_626.out;have hncq6 := NB626_628.out;have hczq7_0 : wq1.cell? ⟨gb628,0,none⟩ = some (.bool false) := bc BK628 0;have hczq7_1 : wq1.cell? ⟨gb628,1,none⟩ = some (.int .u64 0) := bc BK628 1;have hczq7_2 : wq1.cell? ⟨gb628,2,none⟩ = some (.int .u64 0) := bc BK628 2;have hzAhczq7 := (held_three hczq7_0 hczq7_1 hczq7_2).1;have hzBhczq7 := (held_three hczq7_0 hczq7_1 hczq7_2).2.1;have hzChczq7 := (held_three hczq7_0 hczq7_1 hczq7_2).2.2;have hfzq7_0 := blk_frozen BK628.out 0;have hfzq7_1 := blk_frozen BK628.out 1;have hfzq7_2 := blk_frozen BK628.out 2;have hczq8_0 : wq1.cell? ⟨gb625,0,none⟩ = some (.bool x626000_85) := bc BK625 0;have hczq8_1 : wq1.cell? ⟨gb625,1,none⟩ = some (.int .u64 x626001_85) := bc BK625 1;have hczq8_2 : wq1.cell? ⟨gb625,2,none⟩ = some (.int .u64 x626002_85) := bc BK625 2;have hzAhczq8 := (held_three hczq8_0 hczq8_1 hczq8_2).1;have hzBhczq8 := (held_three hczq8_0 hczq8_1 hczq8_2).2.1;have hzChczq8 := (held_three hczq8_0 hczq8_1 hczq8_2).2.2;have hfzq8_0 := blk_frozen BK625.out 0;have hfzq8_1 := blk_frozen BK625.out 1;have hfzq8_2 := blk_frozen BK625.out 2;have hczq9_0 : wq1.cell? ⟨gb626,0,none⟩ = some (.bool x627000_85) := bc BK626 0;have hczq9_1 : wq1.cell? ⟨gb626,1,none⟩ = some (.int .u64 x627001_85) := bc BK626 1;have hczq9_2 : wq1.cell? ⟨gb626,2,none⟩ = some (.int .u64 x627002_85) := bc BK626 2;have hzAhczq9 := (held_three hczq9_0 hczq9_1 hczq9_2).1;have hzBhczq9 := (held_three hczq9_0 hczq9_1 hczq9_2).2.1;have hzChczq9 := (held_three hczq9_0 hczq9_1 hczq9_2).2.2;have hfzq9_0 := blk_frozen BK626.out 0;have hfzq9_1 := blk_frozen BK626.out 1;have hfzq9_2 := blk_frozen BK626.out 2) | ((with_reducible refine gate_callee (f := 51) rfl ?_);refine goesL_ (some 82) rfl rfl Try.func51 Z310 rfl #[.agg #[.bool x626000_85,.int .u64 (IntKind.u64.wrap (x626001_85 - x627001_85)),.int .u64 (IntKind.u64.wrap (x626002_85 - x627002_85))]] rfl Z249 ?_;(with_reducible refine (spec_l3Zero.calls x626000_85 (IntKind.u64.wrap (x626001_85 - x627001_85)) (IntKind.u64.wrap (x626002_85 - x627002_85)) false _ A171.out).mono ?_);rintro e wq10 ⟨rfl,hb⟩;refine ⟨_,rfl,?_⟩;have n_ := Z26;clear BK617 BK618 BK619 BK625 BK626 BK628 HB;obtain ⟨BK617,BK618,BK619,BK625,BK626,BK628,HB⟩ := n_;(try clear hb);(try clear hb2);(try clear hk);(try clear hi);have hczq11_0 : wq10.cell? ⟨gb628,0,none⟩ = some (.bool x626000_85) := bc BK628 0;have hczq11_1 : wq10.cell? ⟨gb628,1,none⟩ = some (.int .u64 (IntKind.u64.wrap (x626001_85 - x627001_85))) := bc BK628 1;have hczq11_2 : wq10.cell? ⟨gb628,2,none⟩ = some (.int .u64 (IntKind.u64.wrap (x626002_85 - x627002_85))) := bc BK628 2;have hzAhczq11 := (held_three hczq11_0 hczq11_1 hczq11_2).1;have hzBhczq11 := (held_three hczq11_0 hczq11_1 hczq11_2).2.1;have hzChczq11 := (held_three hczq11_0 hczq11_1 hczq11_2).2.2;have hfzq11_0 := blk_frozen BK628.out 0;have hfzq11_1 := blk_frozen BK628.out 1;have hfzq11_2 := blk_frozen BK628.out 2;have hnbq12 := NB619_617.out;have hncq12 := NB617_619.out;have hnbq13 := NB619_618.out;have hncq13 := NB618_619.out;have hczq14_0 : wq10.cell? ⟨gb619,0,none⟩ = some (.bool false) := bc BK619 0;have hczq14_1 : wq10.cell? ⟨gb619,1,none⟩ = some (.int .u64 0) := bc BK619 1;have hczq14_2 : wq10.cell? ⟨gb619,2,none⟩ = some (.int .u64 0) := bc BK619 2;have hzAhczq14 := (held_three hczq14_0 hczq14_1 hczq14_2).1;have hzBhczq14 := (held_three hczq14_0 hczq14_1 hczq14_2).2.1;have hzChczq14 := (held_three hczq14_0 hczq14_1 hczq14_2).2.2;have hfzq14_0 := blk_frozen BK619.out 0;have hfzq14_1 := blk_frozen BK619.out 1;have hfzq14_2 := blk_frozen BK619.out 2))
      refine bodyPost_ret (results_ct rfl _ _ gb619 39 #[.bool x626000_85,.int .u64 (IntKind.u64.wrap (x626001_85 - x627001_85)),.int .u64 (IntKind.u64.wrap (x626002_85 - x627002_85))] (0,0) _ rfl (by refine bP ?_;refine blk_put (cs := #[.bool x626000_85,.int .u64 (IntKind.u64.wrap (x626001_85 - x627001_85)),.int .u64 0]) ?_ 2 _ rfl;refine bP ?_;refine blk_put (cs := #[.bool x626000_85,.int .u64 0,.int .u64 0]) ?_ 1 _ rfl;refine bP ?_;refine blk_put (cs := #[.bool false,.int .u64 0,.int .u64 0]) ?_ 0 _ rfl;refine bP ?_;exact BK619.out) Try.underlying39 rfl Z310) rfl ?_
      exact ⟨Z265,Z314⟩
     rw [if_pos c122] at H
     have c122b0 : decide (x626002_85 < x627002_85) = true := decide_eq_true c122
     clear c122
     obtain ⟨t629,A1230,H⟩ := Option.bind_eq_some_iff.mp H
     have A123 := Aside0.mk A1230
     clear A1230
     by_cases c124 : t629 = true
     ·subst c124
      rw [if_pos rfl] at H
      simp only [Option.some.injEq,Prod.mk.injEq] at H
      obtain ⟨rfl,rfl,rfl,rfl⟩ := H
      have hnb125 := NB625_617.out
      have hnc125 := NB617_625.out
      have hnb126 := NB625_618.out
      have hnc126 := NB618_625.out
      have hnb127 := NB625_619.out
      have hnc127 := NB619_625.out
      have hnb128 := NB625_626.out
      have hnc128 := NB626_625.out
      have hcz129_0 : wc.cell? ⟨gb625,0,none⟩ = some (.bool x626000_85) := bc BK625 0
      have hcz129_1 : wc.cell? ⟨gb625,1,none⟩ = some (.int .u64 x626001_85) := bc BK625 1
      have hcz129_2 : wc.cell? ⟨gb625,2,none⟩ = some (.int .u64 x626002_85) := bc BK625 2
      have hzAhcz129 := (held_three hcz129_0 hcz129_1 hcz129_2).1
      have hzBhcz129 := (held_three hcz129_0 hcz129_1 hcz129_2).2.1
      have hzChcz129 := (held_three hcz129_0 hcz129_1 hcz129_2).2.2
      have hfz129_0 := blk_frozen BK625.out 0
      have hfz129_1 := blk_frozen BK625.out 1
      have hfz129_2 := blk_frozen BK625.out 2
      have hnb130 := NB626_617.out
      have hnc130 := NB617_626.out
      have hnb131 := NB626_618.out
      have hnc131 := NB618_626.out
      have hnb132 := NB626_619.out
      have hnc132 := NB619_626.out
      have hcz133_0 : wc.cell? ⟨gb626,0,none⟩ = some (.bool x627000_85) := bc BK626 0
      have hcz133_1 : wc.cell? ⟨gb626,1,none⟩ = some (.int .u64 x627001_85) := bc BK626 1
      have hcz133_2 : wc.cell? ⟨gb626,2,none⟩ = some (.int .u64 x627002_85) := bc BK626 2
      have hzAhcz133 := (held_three hcz133_0 hcz133_1 hcz133_2).1
      have hzBhcz133 := (held_three hcz133_0 hcz133_1 hcz133_2).2.1
      have hzChcz133 := (held_three hcz133_0 hcz133_1 hcz133_2).2.2
      have hfz133_0 := blk_frozen BK626.out 0
      have hfz133_1 := blk_frozen BK626.out 1
      have hfz133_2 := blk_frozen BK626.out 2
      go_wp2_with (first | ((with_reducible refine gate_dst (N := 9) rfl ?_);refine bE 9 #[.bool false,.int .u64 0,.int .u64 0] 39 (h := ?_);intro gb628 hg wq1 hbox hb;have n_ := Z4;clear BK617 BK618 BK619 BK625 BK626 HB;obtain ⟨BK617,BK618,BK619,BK625,BK626,HB,BK628,GW628,GE628,NB617_628,NB628_617,NB618_628,NB628_618,NB619_628,NB628_619,NB625_628,NB628_625,NB626_628,NB628_626⟩ := n_;clear hb hbox hg;have hnbq2 := NB628_617.out;have hncq2 := NB617_628.out;have hnbq3 := NB628_618.out;have hncq3 := NB618_628.out;have hnbq4 := NB628_619.out;have hncq4 := NB619_628.out;have hnbq5 := NB628_625.out;have hncq5 := NB625_628.out;have hnbq6 := NB628_626.out;have hncq6 := NB626_628.out;have hczq7_0 : wq1.cell? ⟨gb628,0,none⟩ = some (.bool false) := bc BK628 0;have hczq7_1 : wq1.cell? ⟨gb628,1,none⟩ = some (.int .u64 0) := bc BK628 1;have hczq7_2 : wq1.cell? ⟨gb628,2,none⟩ = some (.int .u64 0) := bc BK628 2;have hzAhczq7 := (held_three hczq7_0 hczq7_1 hczq7_2).1;have hzBhczq7 := (held_three hczq7_0 hczq7_1 hczq7_2).2.1;have hzChczq7 := (held_three hczq7_0 hczq7_1 hczq7_2).2.2;have hfzq7_0 := blk_frozen BK628.out 0;have hfzq7_1 := blk_frozen BK628.out 1;have hfzq7_2 := blk_frozen BK628.out 2;have hczq8_0 : wq1.cell? ⟨gb625,0,none⟩ = some (.bool x626000_85) := bc BK625 0;have hczq8_1 : wq1.cell? ⟨gb625,1,none⟩ = some (.int .u64 x626001_85) := bc BK625 1;have hczq8_2 : wq1.cell? ⟨gb625,2,none⟩ = some (.int .u64 x626002_85) := bc BK625 2;have hzAhczq8 := (held_three hczq8_0 hczq8_1 hczq8_2).1;have hzBhczq8 := (held_three hczq8_0 hczq8_1 hczq8_2).2.1;have hzChczq8 := (held_three hczq8_0 hczq8_1 hczq8_2).2.2;have hfzq8_0 := blk_frozen BK625.out 0;have hfzq8_1 := blk_frozen BK625.out 1;have hfzq8_2 := blk_frozen BK625.out 2;have hczq9_0 : wq1.cell? ⟨gb626,0,none⟩ = some (.bool x627000_85) := bc BK626 0;have hczq9_1 : wq1.cell? ⟨gb626,1,none⟩ = some (.int .u64 x627001_85) := bc BK626 1;have hczq9_2 : wq1.cell? ⟨gb626,2,none⟩ = some (.int .u64 x627002_85) := bc BK626 2;have hzAhczq9 := (held_three hczq9_0 hczq9_1 hczq9_2).1;have hzBhczq9 := (held_three hczq9_0 hczq9_1 hczq9_2).2.1;have hzChczq9 := (held_three hczq9_0 hczq9_1 hczq9_2).2.2;have hfzq9_0 := blk_frozen BK626.out 0;have hfzq9_1 := blk_frozen BK626.out 1;have hfzq9_2 := blk_frozen BK626.out 2) | ((with_reducible refine gate_callee (f := 51) rfl ?_);refine goesL_ (some 82) rfl rfl Try.func51 Z310 rfl #[.agg #[.bool x626000_85,.int .u64 (IntKind.u64.wrap ((IntKind.u64.wrap (x626001_85 - x627001_85)) - 1)),.int .u64 (IntKind.u64.wrap (x626002_85 - x627002_85))]] rfl Z249 ?_;(with_reducible refine (spec_l3Zero.calls x626000_85 (IntKind.u64.wrap ((IntKind.u64.wrap (x626001_85 - x627001_85)) - 1)) (IntKind.u64.wrap (x626002_85 - x627002_85)) true _ A123.out).mono ?_);rintro e wq10 ⟨rfl,hb⟩;refine ⟨_,rfl,?_⟩;have n_ := Z12;clear BK617 BK618 BK619 BK625 BK626 BK628 HB;obtain ⟨BK617,BK618,BK619,BK625,BK626,BK628,HB⟩ := n_;(try clear hb);(try clear hb2);(try clear hk);(try clear hi);have hczq11_0 : wq10.cell? ⟨gb628,0,none⟩ = some (.bool x626000_85) := bc BK628 0;have hczq11_1 : wq10.cell? ⟨gb628,1,none⟩ = some (.int .u64 (IntKind.u64.wrap ((IntKind.u64.wrap (x626001_85 - x627001_85)) - 1))) := bc BK628 1;have hczq11_2 : wq10.cell? ⟨gb628,2,none⟩ = some (.int .u64 (IntKind.u64.wrap (x626002_85 - x627002_85))) := bc BK628 2;have hzAhczq11 := (held_three hczq11_0 hczq11_1 hczq11_2).1;have hzBhczq11 := (held_three hczq11_0 hczq11_1 hczq11_2).2.1;have hzChczq11 := (held_three hczq11_0 hczq11_1 hczq11_2).2.2;have hfzq11_0 := blk_frozen BK628.out 0;have hfzq11_1 := blk_frozen BK628.out 1;have hfzq11_2 := blk_frozen BK628.out 2;have hnbq12 := NB619_617.out;have hncq12 := NB617_619.out;have hnbq13 := NB619_618.out;have hncq13 := NB618_619.out;have hczq14_0 : wq10.cell? ⟨gb619,0,none⟩ = some (.bool false) := bc BK619 0;have hczq14_1 : wq10.cell? ⟨gb619,1,none⟩ = some (.int .u64 0) := bc BK619 1;have hczq14_2 : wq10.cell? ⟨gb619,2,none⟩ = some (.int .u64 0) := bc BK619 2;have hzAhczq14 := (held_three hczq14_0 hczq14_1 hczq14_2).1;have hzBhczq14 := (held_three hczq14_0 hczq14_1 hczq14_2).2.1;have hzChczq14 := (held_three hczq14_0 hczq14_1 hczq14_2).2.2;have hfzq14_0 := blk_frozen BK619.out 0;have hfzq14_1 := blk_frozen BK619.out 1;have hfzq14_2 := blk_frozen BK619.out 2))
      refine bodyPost_ret (results_ct rfl _ _ gb619 39 #[.bool false,.int .u64 (IntKind.u64.wrap ((IntKind.u64.wrap (x626001_85 - x627001_85)) - 1)),.int .u64 (IntKind.u64.wrap (x626002_85 - x627002_85))] (0,0) _ rfl (by refine bP ?_;refine blk_put (cs := #[.bool false,.int .u64 (IntKind.u64.wrap ((IntKind.u64.wrap (x626001_85 - x627001_85)) - 1)),.int .u64 0]) ?_ 2 _ rfl;refine bP ?_;refine blk_put (cs := #[.bool false,.int .u64 0,.int .u64 0]) ?_ 1 _ rfl;refine bP ?_;refine blk_put (cs := #[.bool false,.int .u64 0,.int .u64 0]) ?_ 0 _ rfl;refine bP ?_;refine blk_far ?_ NB619_628.out _;refine bP ?_;exact BK619.out) Try.underlying39 rfl Z310) rfl ?_
      exact ⟨Z265,Z314⟩
     replace c124 := Bool.eq_false_iff.mpr c124
     subst c124
     rw [if_neg Bool.false_ne_true] at H
     simp only [Option.some.injEq,Prod.mk.injEq] at H
     obtain ⟨rfl,rfl,rfl,rfl⟩ := H
     have hnb148 := NB625_617.out
     have hnc148 := NB617_625.out
     have hnb149 := NB625_618.out
     have hnc149 := NB618_625.out
     have hnb150 := NB625_619.out
     have hnc150 := NB619_625.out
     have hnb151 := NB625_626.out
     have hnc151 := NB626_625.out
     have hcz152_0 : wc.cell? ⟨gb625,0,none⟩ = some (.bool x626000_85) := bc BK625 0
     have hcz152_1 : wc.cell? ⟨gb625,1,none⟩ = some (.int .u64 x626001_85) := bc BK625 1
     have hcz152_2 : wc.cell? ⟨gb625,2,none⟩ = some (.int .u64 x626002_85) := bc BK625 2
     have hzAhcz152 := (held_three hcz152_0 hcz152_1 hcz152_2).1
     have hzBhcz152 := (held_three hcz152_0 hcz152_1 hcz152_2).2.1
     have hzChcz152 := (held_three hcz152_0 hcz152_1 hcz152_2).2.2
     have hfz152_0 := blk_frozen BK625.out 0
     have hfz152_1 := blk_frozen BK625.out 1
     have hfz152_2 := blk_frozen BK625.out 2
     have hnb153 := NB626_617.out
     have hnc153 := NB617_626.out
     have hnb154 := NB626_618.out
     have hnc154 := NB618_626.out
     have hnb155 := NB626_619.out
     have hnc155 := NB619_626.out
     have hcz156_0 : wc.cell? ⟨gb626,0,none⟩ = some (.bool x627000_85) := bc BK626 0
     have hcz156_1 : wc.cell? ⟨gb626,1,none⟩ = some (.int .u64 x627001_85) := bc BK626 1
     have hcz156_2 : wc.cell? ⟨gb626,2,none⟩ = some (.int .u64 x627002_85) := bc BK626 2
     have hzAhcz156 := (held_three hcz156_0 hcz156_1 hcz156_2).1
     have hzBhcz156 := (held_three hcz156_0 hcz156_1 hcz156_2).2.1
     have hzChcz156 := (held_three hcz156_0 hcz156_1 hcz156_2).2.2
     have hfz156_0 := blk_frozen BK626.out 0
     have hfz156_1 := blk_frozen BK626.out 1
     have hfz156_2 := blk_frozen BK626.out 2
     go_wp2_with (first | ((with_reducible refine gate_dst (N := 9) rfl ?_);refine bE 9 #[.bool false,.int .u64 0,.int .u64 0] 39 (h := ?_);intro gb628 hg wq1 hbox hb;have n_ := Z4;clear BK617 BK618 BK619 BK625 BK626 HB;obtain ⟨BK617,BK618,BK619,BK625,BK626,HB,BK628,GW628,GE628,NB617_628,NB628_617,NB618_628,NB628_618,NB619_628,NB628_619,NB625_628,NB628_625,NB626_628,NB628_626⟩ := n_;clear hb hbox hg;have hnbq2 := NB628_617.out;have hncq2 := NB617_628.out;have hnbq3 := NB628_618.out;have hncq3 := NB618_628.out;have hnbq4 := NB628_619.out;have hncq4 := NB619_628.out;have hnbq5 := NB628_625.out;have hncq5 := NB625_628.out;have hnbq6 := NB628_626.out;have hncq6 := NB626_628.out;have hczq7_0 : wq1.cell? ⟨gb628,0,none⟩ = some (.bool false) := bc BK628 0;have hczq7_1 : wq1.cell? ⟨gb628,1,none⟩ = some (.int .u64 0) := bc BK628 1;have hczq7_2 : wq1.cell? ⟨gb628,2,none⟩ = some (.int .u64 0) := bc BK628 2;have hzAhczq7 := (held_three hczq7_0 hczq7_1 hczq7_2).1;have hzBhczq7 := (held_three hczq7_0 hczq7_1 hczq7_2).2.1;have hzChczq7 := (held_three hczq7_0 hczq7_1 hczq7_2).2.2;have hfzq7_0 := blk_frozen BK628.out 0;have hfzq7_1 := blk_frozen BK628.out 1;have hfzq7_2 := blk_frozen BK628.out 2;have hczq8_0 : wq1.cell? ⟨gb625,0,none⟩ = some (.bool x626000_85) := bc BK625 0;have hczq8_1 : wq1.cell? ⟨gb625,1,none⟩ = some (.int .u64 x626001_85) := bc BK625 1;have hczq8_2 : wq1.cell? ⟨gb625,2,none⟩ = some (.int .u64 x626002_85) := bc BK625 2;have hzAhczq8 := (held_three hczq8_0 hczq8_1 hczq8_2).1;have hzBhczq8 := (held_three hczq8_0 hczq8_1 hczq8_2).2.1;have hzChczq8 := (held_three hczq8_0 hczq8_1 hczq8_2).2.2;have hfzq8_0 := blk_frozen BK625.out 0;have hfzq8_1 := blk_frozen BK625.out 1;have hfzq8_2 := blk_frozen BK625.out 2;have hczq9_0 : wq1.cell? ⟨gb626,0,none⟩ = some (.bool x627000_85) := bc BK626 0;have hczq9_1 : wq1.cell? ⟨gb626,1,none⟩ = some (.int .u64 x627001_85) := bc BK626 1;have hczq9_2 : wq1.cell? ⟨gb626,2,none⟩ = some (.int .u64 x627002_85) := bc BK626 2;have hzAhczq9 := (held_three hczq9_0 hczq9_1 hczq9_2).1;have hzBhczq9 := (held_three hczq9_0 hczq9_1 hczq9_2).2.1;have hzChczq9 := (held_three hczq9_0 hczq9_1 hczq9_2).2.2;have hfzq9_0 := blk_frozen BK626.out 0;have hfzq9_1 := blk_frozen BK626.out 1;have hfzq9_2 := blk_frozen BK626.out 2) | ((with_reducible refine gate_callee (f := 51) rfl ?_);refine goesL_ (some 82) rfl rfl Try.func51 Z310 rfl #[.agg #[.bool x626000_85,.int .u64 (IntKind.u64.wrap ((IntKind.u64.wrap (x626001_85 - x627001_85)) - 1)),.int .u64 (IntKind.u64.wrap (x626002_85 - x627002_85))]] rfl Z249 ?_;(with_reducible refine (spec_l3Zero.calls x626000_85 (IntKind.u64.wrap ((IntKind.u64.wrap (x626001_85 - x627001_85)) - 1)) (IntKind.u64.wrap (x626002_85 - x627002_85)) false _ A123.out).mono ?_);rintro e wq10 ⟨rfl,hb⟩;refine ⟨_,rfl,?_⟩;have n_ := Z12;clear BK617 BK618 BK619 BK625 BK626 BK628 HB;obtain ⟨BK617,BK618,BK619,BK625,BK626,BK628,HB⟩ := n_;(try clear hb);(try clear hb2);(try clear hk);(try clear hi);have hczq11_0 : wq10.cell? ⟨gb628,0,none⟩ = some (.bool x626000_85) := bc BK628 0;have hczq11_1 : wq10.cell? ⟨gb628,1,none⟩ = some (.int .u64 (IntKind.u64.wrap ((IntKind.u64.wrap (x626001_85 - x627001_85)) - 1))) := bc BK628 1;have hczq11_2 : wq10.cell? ⟨gb628,2,none⟩ = some (.int .u64 (IntKind.u64.wrap (x626002_85 - x627002_85))) := bc BK628 2;have hzAhczq11 := (held_three hczq11_0 hczq11_1 hczq11_2).1;have hzBhczq11 := (held_three hczq11_0 hczq11_1 hczq11_2).2.1;have hzChczq11 := (held_three hczq11_0 hczq11_1 hczq11_2).2.2;have hfzq11_0 := blk_frozen BK628.out 0;have hfzq11_1 := blk_frozen BK628.out 1;have hfzq11_2 := blk_frozen BK628.out 2;have hnbq12 := NB619_617.out;have hncq12 := NB617_619.out;have hnbq13 := NB619_618.out;have hncq13 := NB618_619.out;have hczq14_0 : wq10.cell? ⟨gb619,0,none⟩ = some (.bool false) := bc BK619 0;have hczq14_1 : wq10.cell? ⟨gb619,1,none⟩ = some (.int .u64 0) := bc BK619 1;have hczq14_2 : wq10.cell? ⟨gb619,2,none⟩ = some (.int .u64 0) := bc BK619 2;have hzAhczq14 := (held_three hczq14_0 hczq14_1 hczq14_2).1;have hzBhczq14 := (held_three hczq14_0 hczq14_1 hczq14_2).2.1;have hzChczq14 := (held_three hczq14_0 hczq14_1 hczq14_2).2.2;have hfzq14_0 := blk_frozen BK619.out 0;have hfzq14_1 := blk_frozen BK619.out 1;have hfzq14_2 := blk_frozen BK619.out 2))
     refine bodyPost_ret (results_ct rfl _ _ gb619 39 #[.bool x626000_85,.int .u64 (IntKind.u64.wrap ((IntKind.u64.wrap (x626001_85 - x627001_85)) - 1)),.int .u64 (IntKind.u64.wrap (x626002_85 - x627002_85))] (0,0) _ rfl (by refine bP ?_;refine blk_put (cs := #[.bool x626000_85,.int .u64 (IntKind.u64.wrap ((IntKind.u64.wrap (x626001_85 - x627001_85)) - 1)),.int .u64 0]) ?_ 2 _ rfl;refine bP ?_;refine blk_put (cs := #[.bool x626000_85,.int .u64 0,.int .u64 0]) ?_ 1 _ rfl;refine bP ?_;refine blk_put (cs := #[.bool false,.int .u64 0,.int .u64 0]) ?_ 0 _ rfl;refine bP ?_;exact BK619.out) Try.underlying39 rfl Z310) rfl ?_
     exact ⟨Z265,Z314⟩

end Go.Proofs.Ytlflcgdcegohjaa.QFnBetter
