/- The machine side of FnBetter: what each Go function that it reaches comes to. Conditions: none. -/
import Derived.Test.YtlflcgdcegohjaaQFnBetterx0
namespace Go.Proofs.Ytlflcgdcegohjaa.QFnBetter
open Go.RowKit Go.Proofs.YtlflcgdcegohjaaW.PrintWords Go.Proofs.YtlflcgdcegohjaaW.PrintLast Go.Proofs.YtlflcgdcegohjaaW.PrintMore
attribute [local go_sem] max2_int min2_int max_two min_two max_three min_three max_four min_four   -- for this text's walks alone
set_option linter.unusedVariables false
set_option linter.unusedSimpArgs false

/-! ### spec_l3Order: function 52 -/
def spec_l3Order.j0 : Nat → Bool → Bool → Int → Int → Bool → Int → Int → Option (Int)
 | 0,_,_,_,_,_,_,_ => none
 | k + 1,x5,x616000,x616001,x616002,x617000,x617001,x617002 => if x5 = true then (some (-1)) else (if x616001 > x617001 then (some 1) else (if x616002 > x617002 then (some 1) else (some 0)))
def spec_l3Order.f (k : Nat) (a0_0 : Bool) (a0_1 : Int) (a0_2 : Int) (a1_0 : Bool) (a1_1 : Int) (a1_2 : Int) : Option (Int) := if a0_1 < a1_1 then (spec_l3Order.j0 k true a0_0 a0_1 a0_2 a1_0 a1_1 a1_2) else (if a0_1 = a1_1 then (spec_l3Order.j0 k (decide (a0_2 < a1_2)) a0_0 a0_1 a0_2 a1_0 a1_1 a1_2) else (spec_l3Order.j0 k false a0_0 a0_1 a0_2 a1_0 a1_1 a1_2))
theorem spec_l3Order.mono_l : ∀ k,(∀ y0 y1 y2 y3 y4 y5 y6,LeO (spec_l3Order.j0 k y0 y1 y2 y3 y4 y5 y6) (spec_l3Order.j0 (k + 1) y0 y1 y2 y3 y4 y5 y6))
 | 0 => fun _ _ _ _ _ _ _ r h => by simp [spec_l3Order.j0] at h
 | k + 1 => by
  have ih0 := spec_l3Order.mono_l k
  ·intro y0 y1 y2 y3 y4 y5 y6
   unfold spec_l3Order.j0
   repeat' first
   | (with_reducible exact ih0 _ _ _ _ _ _ _)
   | (with_reducible exact LeO.refl _)
   | (with_reducible exact LeO.none _)
   | (with_reducible refine LeO.ite ?_ ?_)
   | (with_reducible refine LeO.bind ?_ (fun _ => ?_))
   | exact ih0 _ _ _ _ _ _ _
   | exact LeO.none _
   | refine LeO.ite ?_ ?_
   | refine LeO.bind ?_ (fun _ => ?_)
theorem spec_l3Order.mono : ∀ a0 a1 a2 a3 a4 a5 k,LeO (spec_l3Order.f k a0 a1 a2 a3 a4 a5) (spec_l3Order.f (k + 1) a0 a1 a2 a3 a4 a5) := by
 intro a0 a1 a2 a3 a4 a5 k
 have ih0 := spec_l3Order.mono_l k
 unfold spec_l3Order.f
 repeat' first
   | (with_reducible exact ih0 _ _ _ _ _ _ _)
   | (with_reducible exact LeO.refl _)
   | (with_reducible exact LeO.none _)
   | (with_reducible refine LeO.ite ?_ ?_)
   | (with_reducible refine LeO.bind ?_ (fun _ => ?_))
   | exact ih0 _ _ _ _ _ _ _
   | exact LeO.none _
   | refine LeO.ite ?_ ?_
   | refine LeO.bind ?_ (fun _ => ?_)
set_option maxHeartbeats 8000000 in
set_option maxRecDepth 100000 in
theorem spec_l3Order.calls (k : Nat) (a0_0 : Bool) (a0_1 : Int) (a0_2 : Int) (a1_0 : Bool) (a1_1 : Int) (a1_2 : Int) (r : Int) (w : World) (h : spec_l3Order.f k a0_0 a0_1 a0_2 a1_0 a1_1 a1_2 = some r) :
  Calls Try.prog 52 #[.agg #[.bool a0_0,.int .u64 a0_1,.int .u64 a0_2],.agg #[.bool a1_0,.int .u64 a1_1,.int .u64 a1_2]] w fun e w' => e = .returned (.int .i64 r) ∧ Below w.heap.size w w' := by
 have hu39 := Try.underlying39
 have HB := Aside0.mk (Below.refl w.heap.size w)
 have H := h
 clear h
 unfold spec_l3Order.f at H
 have HC3 := Aside0.mk H
 clear H
 go_enter Try.func52,Try.ntmps52
 go_upto_region 1 with (first | ((with_reducible refine gate_dst (N := 2) rfl ?_);refine bE 2 #[.bool a0_0,.int .u64 a0_1,.int .u64 a0_2] 39 (h := ?_);intro gb615 hg w4 hbox hb;have n_ := jA (below_step Z574 hb) (jA (hbox) (jA ((Z405 : w.heap.size ≤ gb615)) (Aside0.mk ((Z405 : w.heap.size ≤ gb615)))));clear HB;obtain ⟨HB,BK615,GW615,GE615⟩ := n_;clear hb hbox hg) | ((with_reducible refine gate_dst (N := 3) rfl ?_);refine bE 3 #[.bool a1_0,.int .u64 a1_1,.int .u64 a1_2] 39 (h := ?_);intro gb616 hg w5 hbox hb;have n_ := jA (blk_below (g := gb615) (o := .cells #[.bool a0_0,.int .u64 a0_1,.int .u64 a0_2] 39 (0,0)) Z302 hb) (jA (below_step Z435 hb) (jA (hbox) (jA ((Z212 : w.heap.size ≤ gb616)) (jA ((Z212 : w.heap.size ≤ gb616)) (jA ((by rw [hg];exact Nat.ne_of_lt (blk_lt (g := gb615) (o := .cells #[.bool a0_0,.int .u64 a0_1,.int .u64 a0_2] 39 (0,0)) Z302) : gb615 ≠ gb616)) (Aside0.mk ((by rw [hg];exact Nat.ne_of_gt (blk_lt (g := gb615) (o := .cells #[.bool a0_0,.int .u64 a0_1,.int .u64 a0_2] 39 (0,0)) Z302) : gb616 ≠ gb615))))))));clear BK615 HB;obtain ⟨BK615,HB,BK616,GW616,GE616,NB615_616,NB616_615⟩ := n_;clear hb hbox hg))
 (try simp only [Act.put,List.setIfInBounds_toArray,List.set_cons_zero,List.set_cons_succ])
 go_cut [5] (fun v5 wc => ∃ (kq : Nat) (x5_2 : Bool),v5 = .bool x5_2 ∧ Aside0 (spec_l3Order.j0 kq x5_2 a0_0 a0_1 a0_2 a1_0 a1_1 a1_2 = some r) ∧ Aside0 (kq ≤ k) ∧ Aside0 (wc.heap[gb615]? = some (.cells #[.bool a0_0,.int .u64 a0_1,.int .u64 a0_2] 39 (0,0))) ∧ Aside0 (wc.heap[gb616]? = some (.cells #[.bool a1_0,.int .u64 a1_1,.int .u64 a1_2] 39 (0,0))) ∧ Aside0 (Below w.heap.size w wc))
 case first =>
  have H := HC3.out
  clear HC3
  by_cases c6 : a0_1 < a1_1
  ·rw [if_pos c6] at H
   have c6b0 : decide (a0_1 < a1_1) = true := decide_eq_true c6
   clear c6
   (first | rw [c6b0] | (simp only [i64_w,i32_w];rw [c6b0]) | skip)
   have H' := Aside0.mk H
   clear H
   have hnb7 := NB615_616.out
   have hnc7 := NB616_615.out
   obtain ⟨hcz8_0,hcz8_1,hcz8_2,hfz8_0,hfz8_1,hfz8_2⟩ := cells3 BK615.out
   obtain ⟨hcz9_0,hcz9_1,hcz9_2,hfz9_0,hfz9_1,hfz9_2⟩ := cells3 BK616.out
   go_wp2
   go_meet
   case rel => exact ⟨_,(true),Z294,H',⟨Z296⟩,⟨Z302⟩,⟨Z305⟩,⟨Z205⟩⟩
  rw [if_neg c6] at H
  have c6b0 : decide (a0_1 < a1_1) = false := decide_eq_false c6
  clear c6
  (first | rw [c6b0] | (simp only [i64_w,i32_w];rw [c6b0]) | skip)
  by_cases c10 : a0_1 = a1_1
  rotate_left
  ·rw [if_neg c10] at H
   have c10b0 : (a0_1 == a1_1) = false := beq_eq_false_iff_ne.mpr c10
   have c10b1 : (a0_1 != a1_1) = true := bne_iff_ne.mpr c10
   have H' := Aside0.mk H
   clear H
   have hnb14 := NB615_616.out
   have hnc14 := NB616_615.out
   obtain ⟨hcz15_0,hcz15_1,hcz15_2,hfz15_0,hfz15_1,hfz15_2⟩ := cells3 BK615.out
   obtain ⟨hcz16_0,hcz16_1,hcz16_2,hfz16_0,hfz16_1,hfz16_2⟩ := cells3 BK616.out
   go_wp2
   go_meet
   case rel => exact ⟨_,(false),Z294,H',⟨Z296⟩,⟨Z302⟩,⟨Z305⟩,⟨Z205⟩⟩
  rw [if_pos c10] at H
  have c10b0 : (a0_1 == a1_1) = true := beq_iff_eq.mpr c10
  have c10b1 : (a0_1 != a1_1) = false := bne_eq_false_iff_eq.mpr c10
  clear c10
  have H' := Aside0.mk H
  clear H
  have hnb11 := NB615_616.out
  have hnc11 := NB616_615.out
  obtain ⟨hcz12_0,hcz12_1,hcz12_2,hfz12_0,hfz12_1,hfz12_2⟩ := cells3 BK615.out
  obtain ⟨hcz13_0,hcz13_1,hcz13_2,hfz13_0,hfz13_1,hfz13_2⟩ := cells3 BK616.out
  go_wp2
  go_meet
  case rel => exact ⟨_,(decide (a0_2 < a1_2)),Z294,H',⟨Z296⟩,⟨Z302⟩,⟨Z305⟩,⟨Z205⟩⟩
 case rest =>
  clear HC3
  try clear c1
  try clear p2
  try clear c5
  try clear c6
  try clear c6b0
  try clear c7
  try clear c10
  try clear c10b0
  try clear c10b1
  try clear c11
  try clear c14
  try clear hcz12_0
  try clear hcz12_1
  try clear hcz12_2
  try clear hcz13_0
  try clear hcz13_1
  try clear hcz13_2
  try clear hcz15_0
  try clear hcz15_1
  try clear hcz15_2
  try clear hcz16_0
  try clear hcz16_1
  try clear hcz16_2
  try clear hcz8_0
  try clear hcz8_1
  try clear hcz8_2
  try clear hcz9_0
  try clear hcz9_1
  try clear hcz9_2
  try clear hfz12_0
  try clear hfz12_1
  try clear hfz12_2
  try clear hfz13_0
  try clear hfz13_1
  try clear hfz13_2
  try clear hfz15_0
  try clear hfz15_1
  try clear hfz15_2
  try clear hfz16_0
  try clear hfz16_1
  try clear hfz16_2
  try clear hfz8_0
  try clear hfz8_1
  try clear hfz8_2
  try clear hfz9_0
  try clear hfz9_1
  try clear hfz9_2
  obtain ⟨kq,x5_2,rfl,HA,HJ2,BK615,BK616,HB⟩ := hcut
  cases kq with
  | zero => exact absurd HA.out (by simp [spec_l3Order.j0])
  | succ kj2 =>
   have H := HA.out
   clear HA
   simp only [spec_l3Order.j0] at H
   by_cases c17 : x5_2 = true
   ·subst c17
    rw [if_pos rfl] at H
    obtain rfl := Option.some.inj H
    go_wp2
    go_ret
    exact ⟨Z265,Z205⟩
   replace c17 := Bool.eq_false_iff.mpr c17
   subst c17
   rw [if_neg Bool.false_ne_true] at H
   by_cases c18 : a0_1 > a1_1
   ·rw [if_pos c18] at H
    have c18b0 : decide (a1_1 < a0_1) = true := decide_eq_true c18
    clear c18
    obtain rfl := Option.some.inj H
    have hnb19 := NB615_616.out
    have hnc19 := NB616_615.out
    obtain ⟨hcz20_0,hcz20_1,hcz20_2,hfz20_0,hfz20_1,hfz20_2⟩ := cells3 BK615.out
    obtain ⟨hcz21_0,hcz21_1,hcz21_2,hfz21_0,hfz21_1,hfz21_2⟩ := cells3 BK616.out
    go_wp2
    go_ret
    exact ⟨Z265,Z205⟩
   rw [if_neg c18] at H
   have c18b0 : decide (a1_1 < a0_1) = false := decide_eq_false c18
   clear c18
   by_cases c22 : a0_2 > a1_2
   ·rw [if_pos c22] at H
    have c22b0 : decide (a1_2 < a0_2) = true := decide_eq_true c22
    clear c22
    obtain rfl := Option.some.inj H
    have hnb23 := NB615_616.out
    have hnc23 := NB616_615.out
    obtain ⟨hcz24_0,hcz24_1,hcz24_2,hfz24_0,hfz24_1,hfz24_2⟩ := cells3 BK615.out
    obtain ⟨hcz25_0,hcz25_1,hcz25_2,hfz25_0,hfz25_1,hfz25_2⟩ := cells3 BK616.out
    go_wp2
    go_ret
    exact ⟨Z265,Z205⟩
   rw [if_neg c22] at H
   have c22b0 : decide (a1_2 < a0_2) = false := decide_eq_false c22
   clear c22
   obtain rfl := Option.some.inj H
   have hnb26 := NB615_616.out
   have hnc26 := NB616_615.out
   obtain ⟨hcz27_0,hcz27_1,hcz27_2,hfz27_0,hfz27_1,hfz27_2⟩ := cells3 BK615.out
   obtain ⟨hcz28_0,hcz28_1,hcz28_2,hfz28_0,hfz28_1,hfz28_2⟩ := cells3 BK616.out
   go_wp2
   go_ret
   exact ⟨Z265,Z205⟩

end Go.Proofs.Ytlflcgdcegohjaa.QFnBetter
