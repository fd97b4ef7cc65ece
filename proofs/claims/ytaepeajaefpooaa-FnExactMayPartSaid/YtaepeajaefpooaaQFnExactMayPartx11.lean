/- The machine side of FnExactMayPart: what each Go function that it reaches comes to. Conditions: none. -/
import Derived.Test.YtaepeajaefpooaaQFnExactMayPartx0
import Derived.Test.YtaepeajaefpooaaQFnExactMayPartx9
import Derived.Test.YtaepeajaefpooaaQFnExactMayPartx10
namespace Go.Proofs.Ytaepeajaefpooaa.QFnExactMayPart
open Go.RowKit Go.Proofs.YtaepeajaefpooaaW.PrintWords Go.Proofs.YtaepeajaefpooaaW.PrintLast Go.Proofs.YtaepeajaefpooaaW.PrintMore
attribute [local go_sem] max2_int min2_int max_two min_two max_three min_three max_four min_four   -- for this text's walks alone
set_option linter.unusedVariables false
set_option linter.unusedSimpArgs false

/-! ### impl_crossed: function 126 -/
def impl_crossed.j0 : Nat → Bool → Bool → Int → Int → Int → Bool → Int → Int → Int → Option (Bool × Int × Int × Bool × Int × Int × Bool)
 | 0,_,_,_,_,_,_,_,_,_ => none
 | k + 1,x18,x430000,x430001,x430002,x430003,x431000,x431001,x431002,x431003 => if x18 = true then (some (false,0,0,false,0,0,false)) else ((impl_ScaleWide.f x430000 x430001 x430002 x431003).bind fun bt435 => ((impl_ScaleWide.f x431000 x431001 x431002 x430003).bind fun bt440 => (if bt435.2.2.2 = true then (some (bt435.1,bt435.2.1,bt435.2.2.1,bt440.1,bt440.2.1,bt440.2.2.1,bt440.2.2.2)) else (some (bt435.1,bt435.2.1,bt435.2.2.1,bt440.1,bt440.2.1,bt440.2.2.1,false)))))
def impl_crossed.f (k : Nat) (a0_0 : Bool) (a0_1 : Int) (a0_2 : Int) (a0_3 : Int) (a1_0 : Bool) (a1_1 : Int) (a1_2 : Int) (a1_3 : Int) : Option (Bool × Int × Int × Bool × Int × Int × Bool) := (impl_FracOk.f a0_0 a0_1 a0_2 a0_3).bind fun t433 => (if t433 = true then ((impl_FracOk.f a1_0 a1_1 a1_2 a1_3).bind fun t434 => (impl_crossed.j0 k (!t434) a0_0 a0_1 a0_2 a0_3 a1_0 a1_1 a1_2 a1_3)) else (impl_crossed.j0 k true a0_0 a0_1 a0_2 a0_3 a1_0 a1_1 a1_2 a1_3))
theorem impl_crossed.mono_l : ∀ k,(∀ y0 y1 y2 y3 y4 y5 y6 y7 y8,LeO (impl_crossed.j0 k y0 y1 y2 y3 y4 y5 y6 y7 y8) (impl_crossed.j0 (k + 1) y0 y1 y2 y3 y4 y5 y6 y7 y8))
 | 0 => fun _ _ _ _ _ _ _ _ _ r h => by simp [impl_crossed.j0] at h
 | k + 1 => by
  have ih0 := impl_crossed.mono_l k
  ·intro y0 y1 y2 y3 y4 y5 y6 y7 y8
   unfold impl_crossed.j0
   repeat' first
   | (with_reducible exact ih0 _ _ _ _ _ _ _ _ _)
   | (with_reducible exact LeO.refl _)
   | (with_reducible exact LeO.none _)
   | (with_reducible refine LeO.ite ?_ ?_)
   | (with_reducible refine LeO.bind ?_ (fun _ => ?_))
   | exact ih0 _ _ _ _ _ _ _ _ _
   | exact LeO.none _
   | refine LeO.ite ?_ ?_
   | refine LeO.bind ?_ (fun _ => ?_)
theorem impl_crossed.mono : ∀ a0 a1 a2 a3 a4 a5 a6 a7 k,LeO (impl_crossed.f k a0 a1 a2 a3 a4 a5 a6 a7) (impl_crossed.f (k + 1) a0 a1 a2 a3 a4 a5 a6 a7) := by
 intro a0 a1 a2 a3 a4 a5 a6 a7 k
 have ih0 := impl_crossed.mono_l k
 unfold impl_crossed.f
 repeat' first
   | (with_reducible exact ih0 _ _ _ _ _ _ _ _ _)
   | (with_reducible exact LeO.refl _)
   | (with_reducible exact LeO.none _)
   | (with_reducible refine LeO.ite ?_ ?_)
   | (with_reducible refine LeO.bind ?_ (fun _ => ?_))
   | exact ih0 _ _ _ _ _ _ _ _ _
   | exact LeO.none _
   | refine LeO.ite ?_ ?_
   | refine LeO.bind ?_ (fun _ => ?_)
def impl_crossed.T5 : Bool × List (List Nat × List Nat) := (true,[([],[]),([],[]),([],[]),([2],[2]),([3],[3]),([3,4],[3,4]),([0,3,0],[0]),([1,6,0,1,6],[1]),([5,7,0,1,2,3,4,5,6,7],[5])])
def impl_crossed.B5 : List Nat := [0,0,0,4,12,28,13,79,255]
theorem impl_crossed.tab5 : rtab .any (opsOf Try.f126 5) = impl_crossed.T5 := by kernel_rfl
theorem impl_crossed.bits5 : waitsOk impl_crossed.T5.2 impl_crossed.B5 = true := by kernel_rfl
set_option maxHeartbeats 8000000 in
set_option maxRecDepth 100000 in
theorem impl_crossed.calls (k : Nat) (a0_0 : Bool) (a0_1 : Int) (a0_2 : Int) (a0_3 : Int) (a1_0 : Bool) (a1_1 : Int) (a1_2 : Int) (a1_3 : Int) (r1 : Bool) (r2 : Int) (r3 : Int) (r4 : Bool) (r5 : Int) (r6 : Int) (r7 : Bool) (w : World) (h : impl_crossed.f k a0_0 a0_1 a0_2 a0_3 a1_0 a1_1 a1_2 a1_3 = some (r1,r2,r3,r4,r5,r6,r7)) :
  Calls Try.prog 126 #[.agg #[.bool a0_0,.int .u64 a0_1,.int .u64 a0_2,.int .i64 a0_3],.agg #[.bool a1_0,.int .u64 a1_1,.int .u64 a1_2,.int .i64 a1_3]] w fun e w' => e = .returned (.tuple #[.agg #[.bool r1,.int .u64 r2,.int .u64 r3],.agg #[.bool r4,.int .u64 r5,.int .u64 r6],.bool r7]) ∧ Below w.heap.size w w' := by
 have hu102 := Try.underlying102
 have hu100 := Try.underlying100
 have HB := Aside0.mk (Below.refl w.heap.size w)
 have H := h
 clear h
 unfold impl_crossed.f at H
 have HC3 := Aside0.mk H
 clear H
 go_enter Try.func126,Try.ntmps126
 go_upto_region 1 with (first | ((with_reducible refine gate_dst (N := 2) rfl ?_);refine bE 2 #[.bool a0_0,.int .u64 a0_1,.int .u64 a0_2,.int .i64 a0_3] 102 (h := ?_);intro gb429 hg w4 hbox hb;have n_ := jA (below_step Z614 hb) (jA (hbox) (jA ((Z456 : w.heap.size ≤ gb429)) (Aside0.mk ((Z456 : w.heap.size ≤ gb429)))));clear HB;obtain ⟨HB,BK429,GW429,GE429⟩ := n_;clear hb hbox hg) | ((with_reducible refine gate_dst (N := 3) rfl ?_);refine bE 3 #[.bool a1_0,.int .u64 a1_1,.int .u64 a1_2,.int .i64 a1_3] 102 (h := ?_);intro gb430 hg w5 hbox hb;have n_ := jA (blk_below (g := gb429) (o := .cells #[.bool a0_0,.int .u64 a0_1,.int .u64 a0_2,.int .i64 a0_3] 102 (0,0)) Z618 hb) (jA (below_step Z465 hb) (jA (hbox) (jA ((Z208 : w.heap.size ≤ gb430)) (jA ((Z208 : w.heap.size ≤ gb430)) (jA ((Z431 : gb429 ≠ gb430)) (Aside0.mk ((Z435 : gb430 ≠ gb429))))))));clear BK429 HB;obtain ⟨BK429,HB,BK430,GW430,GE430,NB429_430,NB430_429⟩ := n_;clear hb hbox hg) | ((with_reducible refine gate_dst (N := 4) rfl ?_);refine bE 4 #[.bool false,.int .u64 0,.int .u64 0] 100 (h := ?_);intro gb431 hg w6 hbox hb;have n_ := jA (blk_below (g := gb429) (o := .cells #[.bool a0_0,.int .u64 a0_1,.int .u64 a0_2,.int .i64 a0_3] 102 (0,0)) Z618 hb) (jA (blk_below (g := gb430) (o := .cells #[.bool a1_0,.int .u64 a1_1,.int .u64 a1_2,.int .i64 a1_3] 102 (0,0)) Z622 hb) (jA (below_step Z396 hb) (jA (hbox) (jA ((Z183 : w.heap.size ≤ gb431)) (jA ((Z183 : w.heap.size ≤ gb431)) (jA ((Z431 : gb429 ≠ gb431)) (jA ((Z435 : gb431 ≠ gb429)) (jA ((Z439 : gb430 ≠ gb431)) (Aside0.mk ((Z443 : gb431 ≠ gb430)))))))))));clear BK429 BK430 HB;obtain ⟨BK429,BK430,HB,BK431,GW431,GE431,NB429_431,NB431_429,NB430_431,NB431_430⟩ := n_;clear hb hbox hg) | ((with_reducible refine gate_dst (N := 5) rfl ?_);refine bE 5 #[.bool false,.int .u64 0,.int .u64 0] 100 (h := ?_);intro gb432 hg w7 hbox hb;have n_ := jA (blk_below (g := gb429) (o := .cells #[.bool a0_0,.int .u64 a0_1,.int .u64 a0_2,.int .i64 a0_3] 102 (0,0)) Z618 hb) (jA (blk_below (g := gb430) (o := .cells #[.bool a1_0,.int .u64 a1_1,.int .u64 a1_2,.int .i64 a1_3] 102 (0,0)) Z622 hb) (jA (blk_below (g := gb431) (o := .cells #[.bool false,.int .u64 0,.int .u64 0] 100 (0,0)) Z628 hb) (jA (below_step Z363 hb) (jA (hbox) (jA ((Z173 : w.heap.size ≤ gb432)) (jA ((Z173 : w.heap.size ≤ gb432)) (jA ((Z431 : gb429 ≠ gb432)) (jA ((Z435 : gb432 ≠ gb429)) (jA ((Z439 : gb430 ≠ gb432)) (jA ((Z443 : gb432 ≠ gb430)) (jA ((Z500 : gb431 ≠ gb432)) (Aside0.mk ((Z503 : gb432 ≠ gb431))))))))))))));clear BK429 BK430 BK431 HB;obtain ⟨BK429,BK430,BK431,HB,BK432,GW432,GE432,NB429_432,NB432_429,NB430_432,NB432_430,NB431_432,NB432_431⟩ := n_;clear hb hbox hg))
 (try simp only [Act.put,List.setIfInBounds_toArray,List.set_cons_zero,List.set_cons_succ])
 go_cut [18] (fun v18 wc => ∃ (kq : Nat) (x18_2 : Bool),v18 = .bool x18_2 ∧ Aside0 (impl_crossed.j0 kq x18_2 a0_0 a0_1 a0_2 a0_3 a1_0 a1_1 a1_2 a1_3 = some (r1,r2,r3,r4,r5,r6,r7)) ∧ Aside0 (kq ≤ k) ∧ Aside0 (wc.heap[gb429]? = some (.cells #[.bool a0_0,.int .u64 a0_1,.int .u64 a0_2,.int .i64 a0_3] 102 (0,0))) ∧ Aside0 (wc.heap[gb430]? = some (.cells #[.bool a1_0,.int .u64 a1_1,.int .u64 a1_2,.int .i64 a1_3] 102 (0,0))) ∧ Aside0 (wc.heap[gb431]? = some (.cells #[.bool false,.int .u64 0,.int .u64 0] 100 (0,0))) ∧ Aside0 (wc.heap[gb432]? = some (.cells #[.bool false,.int .u64 0,.int .u64 0] 100 (0,0))) ∧ Aside0 (Below w.heap.size w wc))
 case first =>
  have H := HC3.out
  clear HC3
  obtain ⟨t433,A80,H⟩ := Option.bind_eq_some_iff.mp H
  have A8 := Aside0.mk A80
  clear A80
  by_cases c9 : t433 = true
  ·subst c9
   rw [if_pos rfl] at H
   obtain ⟨t434,A100,H⟩ := Option.bind_eq_some_iff.mp H
   have A10 := Aside0.mk A100
   clear A100
   have H' := Aside0.mk H
   clear H
   have hnb11 := NB429_430.out
   have hnc11 := NB430_429.out
   have hnb12 := NB429_431.out
   have hnc12 := NB431_429.out
   have hnb13 := NB429_432.out
   have hnc13 := NB432_429.out
   obtain ⟨hcz14_0,hcz14_1,hcz14_2,hcz14_3,hfz14_0,hfz14_1,hfz14_2,hfz14_3⟩ := cells4 BK429.out
   go_wp2_with (first | ((with_reducible refine gate_callee (f := 151) rfl ?_);refine goesL_ (some 12) rfl rfl Try.func151 Z312 rfl #[.agg #[.bool a0_0,.int .u64 a0_1,.int .u64 a0_2,.int .i64 a0_3]] rfl Z256 ?_;(with_reducible refine (impl_FracOk.calls a0_0 a0_1 a0_2 a0_3 true _ A8.out).mono ?_);rintro e w15 ⟨rfl,hb⟩;refine ⟨_,rfl,?_⟩;have n_ := Z83;clear BK429 BK430 BK431 BK432 HB;obtain ⟨BK429,BK430,BK431,BK432,HB⟩ := n_;(try clear hb);(try clear hb2);(try clear hk);(try clear hi);have hnb16 := NB430_431.out;have hnc16 := NB431_430.out;have hnb17 := NB430_432.out;have hnc17 := NB432_430.out;obtain ⟨hcz18_0,hcz18_1,hcz18_2,hcz18_3,hfz18_0,hfz18_1,hfz18_2,hfz18_3⟩ := cells4 BK430.out) | (go_at_call 151;(with_reducible refine (impl_FracOk.calls a1_0 a1_1 a1_2 a1_3 t434 _ A10.out).mono ?_);rintro e w19 ⟨rfl,hb⟩;have n_ := Z83;clear BK429 BK430 BK431 BK432 HB;obtain ⟨BK429,BK430,BK431,BK432,HB⟩ := n_;(try clear hb);(try clear hb2);(try clear hk);(try clear hi)))
   go_meet
   case rel => exact ⟨_,(!t434),Z289,H',⟨Z291⟩,⟨Z618⟩,⟨Z622⟩,⟨Z628⟩,⟨Z633⟩,⟨Z560⟩⟩
  ·replace c9 := Bool.eq_false_iff.mpr c9
   subst c9
   rw [if_neg Bool.false_ne_true] at H
   have H' := Aside0.mk H
   clear H
   have hnb20 := NB429_430.out
   have hnc20 := NB430_429.out
   have hnb21 := NB429_431.out
   have hnc21 := NB431_429.out
   have hnb22 := NB429_432.out
   have hnc22 := NB432_429.out
   obtain ⟨hcz23_0,hcz23_1,hcz23_2,hcz23_3,hfz23_0,hfz23_1,hfz23_2,hfz23_3⟩ := cells4 BK429.out
   go_wp2_with (first | ((with_reducible refine gate_callee (f := 151) rfl ?_);refine goesL_ (some 12) rfl rfl Try.func151 Z312 rfl #[.agg #[.bool a0_0,.int .u64 a0_1,.int .u64 a0_2,.int .i64 a0_3]] rfl Z256 ?_;(with_reducible refine (impl_FracOk.calls a0_0 a0_1 a0_2 a0_3 false _ A8.out).mono ?_);rintro e w24 ⟨rfl,hb⟩;refine ⟨_,rfl,?_⟩;have n_ := Z83;clear BK429 BK430 BK431 BK432 HB;obtain ⟨BK429,BK430,BK431,BK432,HB⟩ := n_;(try clear hb);(try clear hb2);(try clear hk);(try clear hi)))
   go_meet
   case rel => exact ⟨_,(true),Z289,H',⟨Z291⟩,⟨Z618⟩,⟨Z622⟩,⟨Z628⟩,⟨Z633⟩,⟨Z560⟩⟩
 case rest =>
  clear HC3
  try clear c1
  try clear c2
  try clear p2
  try clear c9
  try clear c11
  try clear c12
  try clear c13
  try clear c15
  try clear c16
  try clear c17
  try clear c20
  try clear c21
  try clear c22
  try clear hcz14_0
  try clear hcz14_1
  try clear hcz14_2
  try clear hcz14_3
  try clear hcz18_0
  try clear hcz18_1
  try clear hcz18_2
  try clear hcz18_3
  try clear hcz23_0
  try clear hcz23_1
  try clear hcz23_2
  try clear hcz23_3
  try clear hfz14_0
  try clear hfz14_1
  try clear hfz14_2
  try clear hfz14_3
  try clear hfz18_0
  try clear hfz18_1
  try clear hfz18_2
  try clear hfz18_3
  try clear hfz23_0
  try clear hfz23_1
  try clear hfz23_2
  try clear hfz23_3
  obtain ⟨kq,x18_2,rfl,HA,HJ2,BK429,BK430,BK431,BK432,HB⟩ := hcut
  cases kq with
  | zero => exact absurd HA.out (by simp [impl_crossed.j0])
  | succ kj2 =>
   have H := HA.out
   clear HA
   simp only [impl_crossed.j0] at H
   by_cases c25 : x18_2 = true
   ·subst c25
    rw [if_pos rfl] at H
    simp only [Option.some.injEq,Prod.mk.injEq] at H
    obtain ⟨rfl,rfl,rfl,rfl,rfl,rfl,rfl⟩ := H
    have hnb26 := NB431_429.out
    have hnc26 := NB429_431.out
    have hnb27 := NB431_430.out
    have hnc27 := NB430_431.out
    have hnb28 := NB431_432.out
    have hnc28 := NB432_431.out
    obtain ⟨hcz29_0,hcz29_1,hcz29_2,hfz29_0,hfz29_1,hfz29_2⟩ := cells3 BK431.out
    have hnb30 := NB432_429.out
    have hnc30 := NB429_432.out
    have hnb31 := NB432_430.out
    have hnc31 := NB430_432.out
    obtain ⟨hcz32_0,hcz32_1,hcz32_2,hfz32_0,hfz32_1,hfz32_2⟩ := cells3 BK432.out
    go_wp2
    refine bodyPost_ret (results_list (rs := [.cell 4 100,.cell 5 100,.tmp 6]) rfl Z553 (.cell gb431 100 #[.bool false,.int .u64 0,.int .u64 0] (0,0) _ rfl (by refine bP ?_;refine blk_far ?_ NB431_432.out _;refine bP ?_;refine blk_far ?_ NB431_432.out _;refine bP ?_;refine blk_far ?_ NB431_432.out _;refine bP ?_;refine blk_put (cs := #[.bool false,.int .u64 0,.int .u64 0]) ?_ 2 _ rfl;refine bP ?_;refine blk_put (cs := #[.bool false,.int .u64 0,.int .u64 0]) ?_ 1 _ rfl;refine bP ?_;refine blk_put (cs := #[.bool false,.int .u64 0,.int .u64 0]) ?_ 0 _ rfl;refine bP ?_;exact BK431.out) Try.underlying100 rfl Z312 (.cell gb432 100 #[.bool false,.int .u64 0,.int .u64 0] (0,0) _ rfl (by refine bP ?_;refine blk_put (cs := #[.bool false,.int .u64 0,.int .u64 0]) ?_ 2 _ rfl;refine bP ?_;refine blk_put (cs := #[.bool false,.int .u64 0,.int .u64 0]) ?_ 1 _ rfl;refine bP ?_;refine blk_put (cs := #[.bool false,.int .u64 0,.int .u64 0]) ?_ 0 _ rfl;refine bP ?_;refine blk_far ?_ NB432_431.out _;refine bP ?_;refine blk_far ?_ NB432_431.out _;refine bP ?_;refine blk_far ?_ NB432_431.out _;refine bP ?_;exact BK432.out) Try.underlying100 rfl Z312 (.tmp .nil)))) rfl ?_
    exact ⟨Z263,Z560⟩
   ·replace c25 := Bool.eq_false_iff.mpr c25
    subst c25
    rw [if_neg Bool.false_ne_true] at H
    obtain ⟨⟨t435,t436,t437,t438⟩,A330,H⟩ := Option.bind_eq_some_iff.mp H
    try dsimp only at H
    have A33 := Aside0.mk A330
    clear A330
    obtain ⟨⟨t440,t441,t442,t443⟩,A340,H⟩ := Option.bind_eq_some_iff.mp H
    try dsimp only at H
    have A34 := Aside0.mk A340
    clear A340
    by_cases c35 : t438 = true
    ·subst c35
     rw [if_pos rfl] at H
     simp only [Option.some.injEq,Prod.mk.injEq] at H
     obtain ⟨rfl,rfl,rfl,rfl,rfl,rfl,rfl⟩ := H
     have hnb36 := NB429_430.out
     have hnc36 := NB430_429.out
     have hnb37 := NB429_431.out
     have hnc37 := NB431_429.out
     have hnb38 := NB429_432.out
     have hnc38 := NB432_429.out
     obtain ⟨hcz39_0,hcz39_1,hcz39_2,hcz39_3,hfz39_0,hfz39_1,hfz39_2,hfz39_3⟩ := cells4 BK429.out
     have hnb40 := NB430_431.out
     have hnc40 := NB431_430.out
     have hnb41 := NB430_432.out
     have hnc41 := NB432_430.out
     obtain ⟨hcz42_0,hcz42_1,hcz42_2,hcz42_3,hfz42_0,hfz42_1,hfz42_2,hfz42_3⟩ := cells4 BK430.out
     try go_wp2_with (first | ((with_reducible refine gate_callee (f := 152) rfl ?_);refine goesL_ (some 26) rfl rfl Try.func152 Z312 rfl #[.agg #[.bool a0_0,.int .u64 a0_1,.int .u64 a0_2],.int .i64 a1_3] rfl Z256 ?_;(with_reducible refine (impl_ScaleWide.calls a0_0 a0_1 a0_2 a1_3 t435 t436 t437 true _ A33.out).mono ?_);rintro e w43 ⟨rfl,hb⟩;refine ⟨_,rfl,?_⟩;have n_ := Z83;clear BK429 BK430 BK431 BK432 HB;obtain ⟨BK429,BK430,BK431,BK432,HB⟩ := n_;(try clear hb);(try clear hb2);(try clear hk);(try clear hi)) | ((with_reducible refine gate_dst (N := 7) rfl ?_);refine bE 7 #[.bool false,.int .u64 0,.int .u64 0] 100 (h := ?_);intro gb439 hg w44 hbox hb;have n_ := Z9;clear BK429 BK430 BK431 BK432 HB;obtain ⟨BK429,BK430,BK431,BK432,HB,BK439,GW439,GE439,NB429_439,NB439_429,NB430_439,NB439_430,NB431_439,NB439_431,NB432_439,NB439_432⟩ := n_;clear hb hbox hg;have hnb45 := NB439_429.out;have hnc45 := NB429_439.out;have hnb46 := NB439_430.out;have hnc46 := NB430_439.out;have hnb47 := NB439_431.out;have hnc47 := NB431_439.out;have hnb48 := NB439_432.out;have hnc48 := NB432_439.out;obtain ⟨hcz49_0,hcz49_1,hcz49_2,hfz49_0,hfz49_1,hfz49_2⟩ := cells3 BK439.out;obtain ⟨hcz50_0,hcz50_1,hcz50_2,hcz50_3,hfz50_0,hfz50_1,hfz50_2,hfz50_3⟩ := cells4 BK430.out;obtain ⟨hcz51_0,hcz51_1,hcz51_2,hcz51_3,hfz51_0,hfz51_1,hfz51_2,hfz51_3⟩ := cells4 BK429.out) | ((with_reducible refine gate_callee (f := 152) rfl ?_);refine goesL_ (some 34) rfl rfl Try.func152 Z312 rfl #[.agg #[.bool a1_0,.int .u64 a1_1,.int .u64 a1_2],.int .i64 a0_3] rfl Z256 ?_;(with_reducible refine (impl_ScaleWide.calls a1_0 a1_1 a1_2 a0_3 t440 t441 t442 t443 _ A34.out).mono ?_);rintro e w52 ⟨rfl,hb⟩;refine ⟨_,rfl,?_⟩;have n_ := Z42;clear BK429 BK430 BK431 BK432 BK439 HB;obtain ⟨BK429,BK430,BK431,BK432,BK439,HB⟩ := n_;(try clear hb);(try clear hb2);(try clear hk);(try clear hi)) | ((with_reducible refine gate_dst (N := 9) rfl ?_);refine bE 9 #[.bool false,.int .u64 0,.int .u64 0] 100 (h := ?_);intro gb444 hg w53 hbox hb;have n_ := Z5;clear BK429 BK430 BK431 BK432 BK439 HB;obtain ⟨BK429,BK430,BK431,BK432,BK439,HB,BK444,GW444,GE444,NB429_444,NB444_429,NB430_444,NB444_430,NB431_444,NB444_431,NB432_444,NB444_432,NB439_444,NB444_439⟩ := n_;clear hb hbox hg;have hnb54 := NB444_429.out;have hnc54 := NB429_444.out;have hnb55 := NB444_430.out;have hnc55 := NB430_444.out;have hnb56 := NB444_431.out;have hnc56 := NB431_444.out;have hnb57 := NB444_432.out;have hnc57 := NB432_444.out;have hnb58 := NB444_439.out;have hnc58 := NB439_444.out;obtain ⟨hcz59_0,hcz59_1,hcz59_2,hfz59_0,hfz59_1,hfz59_2⟩ := cells3 BK444.out))
     have n0_ : Aside0 ((((w53.setCell ⟨gb444,0,none⟩ (.bool t440)).setCell ⟨gb444,1,none⟩ (.int .u64 t441)).setCell ⟨gb444,2,none⟩ (.int .u64 t442)).heap[gb429]? = some (.cells #[.bool a0_0,.int .u64 a0_1,.int .u64 a0_2,.int .i64 a0_3] 102 (0,0))) := ⟨Z234⟩
     have n1_ : Aside0 ((((w53.setCell ⟨gb444,0,none⟩ (.bool t440)).setCell ⟨gb444,1,none⟩ (.int .u64 t441)).setCell ⟨gb444,2,none⟩ (.int .u64 t442)).heap[gb430]? = some (.cells #[.bool a1_0,.int .u64 a1_1,.int .u64 a1_2,.int .i64 a1_3] 102 (0,0))) := ⟨Z233⟩
     have n2_ : Aside0 ((((w53.setCell ⟨gb444,0,none⟩ (.bool t440)).setCell ⟨gb444,1,none⟩ (.int .u64 t441)).setCell ⟨gb444,2,none⟩ (.int .u64 t442)).heap[gb431]? = some (.cells #[.bool false,.int .u64 0,.int .u64 0] 100 (0,0))) := ⟨Z232⟩
     have n3_ : Aside0 ((((w53.setCell ⟨gb444,0,none⟩ (.bool t440)).setCell ⟨gb444,1,none⟩ (.int .u64 t441)).setCell ⟨gb444,2,none⟩ (.int .u64 t442)).heap[gb432]? = some (.cells #[.bool false,.int .u64 0,.int .u64 0] 100 (0,0))) := ⟨Z231⟩
     have n4_ : Aside0 ((((w53.setCell ⟨gb444,0,none⟩ (.bool t440)).setCell ⟨gb444,1,none⟩ (.int .u64 t441)).setCell ⟨gb444,2,none⟩ (.int .u64 t442)).heap[gb439]? = some (.cells #[.bool t435,.int .u64 t436,.int .u64 t437] 100 (0,0))) := ⟨Z230⟩
     have n5_ : Aside0 ((((w53.setCell ⟨gb444,0,none⟩ (.bool t440)).setCell ⟨gb444,1,none⟩ (.int .u64 t441)).setCell ⟨gb444,2,none⟩ (.int .u64 t442)).heap[gb444]? = some (.cells #[.bool t440,.int .u64 t441,.int .u64 t442] 100 (0,0))) := ⟨Z161⟩
     have n6_ : Aside0 (Below w.heap.size w (((w53.setCell ⟨gb444,0,none⟩ (.bool t440)).setCell ⟨gb444,1,none⟩ (.int .u64 t441)).setCell ⟨gb444,2,none⟩ (.int .u64 t442))) := ⟨Z155⟩
     (try clear BK429)
     (try clear BK430)
     (try clear BK431)
     (try clear BK432)
     (try clear BK439)
     (try clear BK444)
     (try clear HB)
     generalize (((w53.setCell ⟨gb444,0,none⟩ (.bool t440)).setCell ⟨gb444,1,none⟩ (.int .u64 t441)).setCell ⟨gb444,2,none⟩ (.int .u64 t442)) = w60 at n0_ n1_ n2_ n3_ n4_ n5_ n6_ ⊢
     have BK429 := n0_
     have BK430 := n1_
     have BK431 := n2_
     have BK432 := n3_
     have BK439 := n4_
     have BK444 := n5_
     have HB := n6_
     clear n0_ n1_ n2_ n3_ n4_ n5_ n6_
     have n0_ := Aside0.mk (blk_drew BK429.out)
     have n1_ := Aside0.mk (blk_drew BK430.out)
     have n2_ := Aside0.mk (blk_drew BK431.out)
     have n3_ := Aside0.mk (blk_drew BK432.out)
     have n4_ := Aside0.mk (blk_drew BK439.out)
     have n5_ := Aside0.mk (blk_drew BK444.out)
     have n6_ := Aside0.mk (below_drew1 HB.out)
     clear BK429
     clear BK430
     clear BK431
     clear BK432
     clear BK439
     clear BK444
     clear HB
     have BK429 := n0_
     have BK430 := n1_
     have BK431 := n2_
     have BK432 := n3_
     have BK439 := n4_
     have BK444 := n5_
     have HB := n6_
     clear n0_ n1_ n2_ n3_ n4_ n5_ n6_
     refine start_ (n := 9) (S := fun w' => w'.cell? ⟨gb439,0,none⟩ = some (.bool t435) ∧ w'.cell? ⟨gb439,1,none⟩ = some (.int .u64 t436) ∧ w'.cell? ⟨gb439,2,none⟩ = some (.int .u64 t437) ∧ w'.cell? ⟨gb444,0,none⟩ = some (.bool t440) ∧ w'.cell? ⟨gb444,1,none⟩ = some (.int .u64 t441) ∧ w'.cell? ⟨gb444,2,none⟩ = some (.int .u64 t442)) (ds := []) #[false,false,false,false,false,false,false,false,false] Z312 rfl rfl ⟨(blk_cell BK439.out 0).trans rfl,(blk_cell BK439.out 1).trans rfl,(blk_cell BK439.out 2).trans rfl,(blk_cell BK444.out 0).trans rfl,(blk_cell BK444.out 1).trans rfl,(blk_cell BK444.out 2).trans rfl⟩ (fun hHeld => ?_);refine with_tabW impl_crossed.tab5 impl_crossed.bits5 (fun HT_ HW_ => ?_)
     generalize w60.drew = w61 at BK429 BK430 BK431 BK432 BK439 BK444 HB hHeld ⊢
     refine pure_ (i := 2) (N := some 39) (v := ?_) (a' := ?_) #[false,false,true,false,false,false,false,false,false] rfl rfl (any_of HT_.out Z312) (fun _ _ _ h => h) (Or.inl ⟨Z314,?_⟩) ?_ ?_
     rotate_left
     ·intro w'
      go_simp
      with_reducible rfl
     rotate_left
     ·simp only [Act.put,List.setIfInBounds_toArray,List.set_cons_zero,List.set_cons_succ,i64_w,i32_w]
      rfl
     refine pure_ (i := 3) (N := some 40) (v := ?_) (a' := ?_) #[false,false,true,true,false,false,false,false,false] rfl rfl (any_of HT_.out Z312) (fun _ _ _ h => h) (Or.inl ⟨Z314,?_⟩) ?_ ?_
     rotate_left
     ·intro w'
      go_simp
      with_reducible rfl
     rotate_left
     ·simp only [Act.put,List.setIfInBounds_toArray,List.set_cons_zero,List.set_cons_succ,i64_w,i32_w]
      rfl
     refine pure_ (i := 4) (N := some 41) (v := ?_) (a' := ?_) #[false,false,true,true,true,false,false,false,false] rfl rfl (any_of HT_.out Z312) (fun _ _ _ h => h) (Or.inl ⟨Z314,?_⟩) ?_ ?_
     rotate_left
     ·intro w'
      go_simp
      with_reducible rfl
     rotate_left
     ·simp only [Act.put,List.setIfInBounds_toArray,List.set_cons_zero,List.set_cons_succ,i64_w,i32_w]
      rfl
     refine pure_ (i := 5) (N := some 42) (v := ?_) (a' := ?_) #[false,false,true,true,true,true,false,false,false] rfl rfl (any_of HT_.out Z312) (fun _ _ _ h => h) (Or.inl ⟨Z314,?_⟩) ?_ ?_
     rotate_left
     ·intro w'
      go_simp
      with_reducible rfl
     rotate_left
     ·simp only [Act.put,List.setIfInBounds_toArray,List.set_cons_zero,List.set_cons_succ,i64_w,i32_w]
      rfl
     refine take_ (i := 0) (N := some 37) (v := ?_) (a' := ?_) #[true,false,true,true,true,true,false,false,false] rfl rfl (take_ofW HT_.out HW_.out Z312) (fun _ _ _ h => h) (Or.inl ⟨Z314,?_⟩) hHeld ?_ ?_
     rotate_left
     ·rintro w' ⟨s0,s1,s2,s3,s4,s5⟩
      go_simp
      with_reducible rfl
     rotate_left
     ·simp only [Act.put,List.setIfInBounds_toArray,List.set_cons_zero,List.set_cons_succ,i64_w,i32_w]
      rfl
     refine take_ (i := 1) (N := some 38) (v := ?_) (a' := ?_) #[true,true,true,true,true,true,false,false,false] rfl rfl (take_ofW HT_.out HW_.out Z312) (fun _ _ _ h => h) (Or.inl ⟨Z314,?_⟩) hHeld ?_ ?_
     rotate_left
     ·rintro w' ⟨s0,s1,s2,s3,s4,s5⟩
      go_simp
      with_reducible rfl
     rotate_left
     ·simp only [Act.put,List.setIfInBounds_toArray,List.set_cons_zero,List.set_cons_succ,i64_w,i32_w]
      rfl
     refine one_ (i := 6) (N := none) #[true,true,true,true,true,true,true,false,false] rfl rfl (one_of HT_.out Z312) Z313 (fun K hK => ?_)
     have hs62 : w61.cell? ⟨gb431,0,none⟩ = some (.bool false) := (blk_cell BK431.out 0).trans rfl
     have hfs62 := blk_frozen BK431.out 0
     have hns62_0 := NB429_431.out
     have hns62_1 := NB430_431.out
     have hns62_3 := NB432_431.out
     have hns62_4 := NB439_431.out
     have hns62_5 := NB444_431.out
     have hms62_0 := NB431_429.out
     have hms62_1 := NB431_430.out
     have hms62_3 := NB431_432.out
     have hms62_4 := NB431_439.out
     have hms62_5 := NB431_444.out
     have hs63 : w61.cell? ⟨gb431,1,none⟩ = some (.int .u64 0) := (blk_cell BK431.out 1).trans rfl
     have hfs63 := blk_frozen BK431.out 1
     have hns63_0 := NB429_431.out
     have hns63_1 := NB430_431.out
     have hns63_3 := NB432_431.out
     have hns63_4 := NB439_431.out
     have hns63_5 := NB444_431.out
     have hms63_0 := NB431_429.out
     have hms63_1 := NB431_430.out
     have hms63_3 := NB431_432.out
     have hms63_4 := NB431_439.out
     have hms63_5 := NB431_444.out
     have hs64 : w61.cell? ⟨gb431,2,none⟩ = some (.int .u64 0) := (blk_cell BK431.out 2).trans rfl
     have hfs64 := blk_frozen BK431.out 2
     have hns64_0 := NB429_431.out
     have hns64_1 := NB430_431.out
     have hns64_3 := NB432_431.out
     have hns64_4 := NB439_431.out
     have hns64_5 := NB444_431.out
     have hms64_0 := NB431_429.out
     have hms64_1 := NB431_430.out
     have hms64_3 := NB431_432.out
     have hms64_4 := NB431_439.out
     have hms64_5 := NB431_444.out
     refine skip_ (w1 := ?_) Z314 rfl ?_ ?_
     rotate_left
     ·go_simp
      rfl
     refine hK.out _ _ ⟨((cell_far (p := ⟨gb431,_,none⟩) NB439_431.out _).trans (((cell_far (p := ⟨gb431,_,none⟩) NB439_431.out _).trans (((cell_far (p := ⟨gb431,_,none⟩) NB439_431.out _).trans (hHeld.1)))))),((cell_far (p := ⟨gb431,_,none⟩) NB439_431.out _).trans (((cell_far (p := ⟨gb431,_,none⟩) NB439_431.out _).trans (((cell_far (p := ⟨gb431,_,none⟩) NB439_431.out _).trans (hHeld.2.1)))))),((cell_far (p := ⟨gb431,_,none⟩) NB439_431.out _).trans (((cell_far (p := ⟨gb431,_,none⟩) NB439_431.out _).trans (((cell_far (p := ⟨gb431,_,none⟩) NB439_431.out _).trans (hHeld.2.2.1)))))),((cell_far (p := ⟨gb431,_,none⟩) NB444_431.out _).trans (((cell_far (p := ⟨gb431,_,none⟩) NB444_431.out _).trans (((cell_far (p := ⟨gb431,_,none⟩) NB444_431.out _).trans (hHeld.2.2.2.1)))))),((cell_far (p := ⟨gb431,_,none⟩) NB444_431.out _).trans (((cell_far (p := ⟨gb431,_,none⟩) NB444_431.out _).trans (((cell_far (p := ⟨gb431,_,none⟩) NB444_431.out _).trans (hHeld.2.2.2.2.1)))))),((cell_far (p := ⟨gb431,_,none⟩) NB444_431.out _).trans (((cell_far (p := ⟨gb431,_,none⟩) NB444_431.out _).trans (((cell_far (p := ⟨gb431,_,none⟩) NB444_431.out _).trans (hHeld.2.2.2.2.2))))))⟩ (fun hHeld => ?_)
     clear hK K
     refine one_ (i := 7) (N := none) #[true,true,true,true,true,true,true,true,false] rfl rfl (one_of HT_.out Z312) Z313 (fun K hK => ?_)
     have hs65 : w61.cell? ⟨gb432,0,none⟩ = some (.bool false) := (blk_cell BK432.out 0).trans rfl
     have hfs65 := blk_frozen BK432.out 0
     have hns65_0 := NB429_432.out
     have hns65_1 := NB430_432.out
     have hns65_2 := NB431_432.out
     have hns65_4 := NB439_432.out
     have hns65_5 := NB444_432.out
     have hms65_0 := NB432_429.out
     have hms65_1 := NB432_430.out
     have hms65_2 := NB432_431.out
     have hms65_4 := NB432_439.out
     have hms65_5 := NB432_444.out
     have hs66 : w61.cell? ⟨gb432,1,none⟩ = some (.int .u64 0) := (blk_cell BK432.out 1).trans rfl
     have hfs66 := blk_frozen BK432.out 1
     have hns66_0 := NB429_432.out
     have hns66_1 := NB430_432.out
     have hns66_2 := NB431_432.out
     have hns66_4 := NB439_432.out
     have hns66_5 := NB444_432.out
     have hms66_0 := NB432_429.out
     have hms66_1 := NB432_430.out
     have hms66_2 := NB432_431.out
     have hms66_4 := NB432_439.out
     have hms66_5 := NB432_444.out
     have hs67 : w61.cell? ⟨gb432,2,none⟩ = some (.int .u64 0) := (blk_cell BK432.out 2).trans rfl
     have hfs67 := blk_frozen BK432.out 2
     have hns67_0 := NB429_432.out
     have hns67_1 := NB430_432.out
     have hns67_2 := NB431_432.out
     have hns67_4 := NB439_432.out
     have hns67_5 := NB444_432.out
     have hms67_0 := NB432_429.out
     have hms67_1 := NB432_430.out
     have hms67_2 := NB432_431.out
     have hms67_4 := NB432_439.out
     have hms67_5 := NB432_444.out
     refine skip_ (w1 := ?_) Z314 rfl ?_ ?_
     rotate_left
     ·go_simp
      rfl
     refine hK.out _ _ ⟨((cell_far (p := ⟨gb432,_,none⟩) NB439_432.out _).trans (((cell_far (p := ⟨gb432,_,none⟩) NB439_432.out _).trans (((cell_far (p := ⟨gb432,_,none⟩) NB439_432.out _).trans (hHeld.1)))))),((cell_far (p := ⟨gb432,_,none⟩) NB439_432.out _).trans (((cell_far (p := ⟨gb432,_,none⟩) NB439_432.out _).trans (((cell_far (p := ⟨gb432,_,none⟩) NB439_432.out _).trans (hHeld.2.1)))))),((cell_far (p := ⟨gb432,_,none⟩) NB439_432.out _).trans (((cell_far (p := ⟨gb432,_,none⟩) NB439_432.out _).trans (((cell_far (p := ⟨gb432,_,none⟩) NB439_432.out _).trans (hHeld.2.2.1)))))),((cell_far (p := ⟨gb432,_,none⟩) NB444_432.out _).trans (((cell_far (p := ⟨gb432,_,none⟩) NB444_432.out _).trans (((cell_far (p := ⟨gb432,_,none⟩) NB444_432.out _).trans (hHeld.2.2.2.1)))))),((cell_far (p := ⟨gb432,_,none⟩) NB444_432.out _).trans (((cell_far (p := ⟨gb432,_,none⟩) NB444_432.out _).trans (((cell_far (p := ⟨gb432,_,none⟩) NB444_432.out _).trans (hHeld.2.2.2.2.1)))))),((cell_far (p := ⟨gb432,_,none⟩) NB444_432.out _).trans (((cell_far (p := ⟨gb432,_,none⟩) NB444_432.out _).trans (((cell_far (p := ⟨gb432,_,none⟩) NB444_432.out _).trans (hHeld.2.2.2.2.2))))))⟩ (fun hHeld => ?_)
     clear hK K
     refine pure_ (i := 8) (N := some 6) (v := ?_) (a' := ?_) #[true,true,true,true,true,true,true,true,true] rfl rfl (any_of HT_.out Z312) (fun _ _ _ h => h) (Or.inl ⟨Z314,?_⟩) ?_ ?_
     rotate_left
     ·intro w'
      go_simp
      with_reducible rfl
     rotate_left
     ·simp only [Act.put,List.setIfInBounds_toArray,List.set_cons_zero,List.set_cons_succ,i64_w,i32_w]
      rfl
     refine done_ (done_of HT_.out Z312) ?_
     try go_wp2
     refine bodyPost_ret (results_list (rs := [.cell 4 100,.cell 5 100,.tmp 6]) rfl Z553 (.cell gb431 100 #[.bool t435,.int .u64 t436,.int .u64 t437] (0,0) _ rfl Z143 Try.underlying100 rfl Z312 (.cell gb432 100 #[.bool t440,.int .u64 t441,.int .u64 t442] (0,0) _ rfl Z141 Try.underlying100 rfl Z312 (.tmp .nil)))) rfl ?_
     exact ⟨Z263,Z155⟩
    ·replace c35 := Bool.eq_false_iff.mpr c35
     subst c35
     rw [if_neg Bool.false_ne_true] at H
     simp only [Option.some.injEq,Prod.mk.injEq] at H
     obtain ⟨rfl,rfl,rfl,rfl,rfl,rfl,rfl⟩ := H
     have hnb68 := NB429_430.out
     have hnc68 := NB430_429.out
     have hnb69 := NB429_431.out
     have hnc69 := NB431_429.out
     have hnb70 := NB429_432.out
     have hnc70 := NB432_429.out
     obtain ⟨hcz71_0,hcz71_1,hcz71_2,hcz71_3,hfz71_0,hfz71_1,hfz71_2,hfz71_3⟩ := cells4 BK429.out
     have hnb72 := NB430_431.out
     have hnc72 := NB431_430.out
     have hnb73 := NB430_432.out
     have hnc73 := NB432_430.out
     obtain ⟨hcz74_0,hcz74_1,hcz74_2,hcz74_3,hfz74_0,hfz74_1,hfz74_2,hfz74_3⟩ := cells4 BK430.out
     try go_wp2_with (first | ((with_reducible refine gate_callee (f := 152) rfl ?_);refine goesL_ (some 26) rfl rfl Try.func152 Z312 rfl #[.agg #[.bool a0_0,.int .u64 a0_1,.int .u64 a0_2],.int .i64 a1_3] rfl Z256 ?_;(with_reducible refine (impl_ScaleWide.calls a0_0 a0_1 a0_2 a1_3 t435 t436 t437 false _ A33.out).mono ?_);rintro e w75 ⟨rfl,hb⟩;refine ⟨_,rfl,?_⟩;have n_ := Z83;clear BK429 BK430 BK431 BK432 HB;obtain ⟨BK429,BK430,BK431,BK432,HB⟩ := n_;(try clear hb);(try clear hb2);(try clear hk);(try clear hi)) | ((with_reducible refine gate_dst (N := 7) rfl ?_);refine bE 7 #[.bool false,.int .u64 0,.int .u64 0] 100 (h := ?_);intro gb439 hg w76 hbox hb;have n_ := Z9;clear BK429 BK430 BK431 BK432 HB;obtain ⟨BK429,BK430,BK431,BK432,HB,BK439,GW439,GE439,NB429_439,NB439_429,NB430_439,NB439_430,NB431_439,NB439_431,NB432_439,NB439_432⟩ := n_;clear hb hbox hg;have hnb77 := NB439_429.out;have hnc77 := NB429_439.out;have hnb78 := NB439_430.out;have hnc78 := NB430_439.out;have hnb79 := NB439_431.out;have hnc79 := NB431_439.out;have hnb80 := NB439_432.out;have hnc80 := NB432_439.out;obtain ⟨hcz81_0,hcz81_1,hcz81_2,hfz81_0,hfz81_1,hfz81_2⟩ := cells3 BK439.out;obtain ⟨hcz82_0,hcz82_1,hcz82_2,hcz82_3,hfz82_0,hfz82_1,hfz82_2,hfz82_3⟩ := cells4 BK430.out;obtain ⟨hcz83_0,hcz83_1,hcz83_2,hcz83_3,hfz83_0,hfz83_1,hfz83_2,hfz83_3⟩ := cells4 BK429.out) | ((with_reducible refine gate_callee (f := 152) rfl ?_);refine goesL_ (some 34) rfl rfl Try.func152 Z312 rfl #[.agg #[.bool a1_0,.int .u64 a1_1,.int .u64 a1_2],.int .i64 a0_3] rfl Z256 ?_;(with_reducible refine (impl_ScaleWide.calls a1_0 a1_1 a1_2 a0_3 t440 t441 t442 t443 _ A34.out).mono ?_);rintro e w84 ⟨rfl,hb⟩;refine ⟨_,rfl,?_⟩;have n_ := Z42;clear BK429 BK430 BK431 BK432 BK439 HB;obtain ⟨BK429,BK430,BK431,BK432,BK439,HB⟩ := n_;(try clear hb);(try clear hb2);(try clear hk);(try clear hi)) | ((with_reducible refine gate_dst (N := 9) rfl ?_);refine bE 9 #[.bool false,.int .u64 0,.int .u64 0] 100 (h := ?_);intro gb444 hg w85 hbox hb;have n_ := Z5;clear BK429 BK430 BK431 BK432 BK439 HB;obtain ⟨BK429,BK430,BK431,BK432,BK439,HB,BK444,GW444,GE444,NB429_444,NB444_429,NB430_444,NB444_430,NB431_444,NB444_431,NB432_444,NB444_432,NB439_444,NB444_439⟩ := n_;clear hb hbox hg;have hnb86 := NB444_429.out;have hnc86 := NB429_444.out;have hnb87 := NB444_430.out;have hnc87 := NB430_444.out;have hnb88 := NB444_431.out;have hnc88 := NB431_444.out;have hnb89 := NB444_432.out;have hnc89 := NB432_444.out;have hnb90 := NB444_439.out;have hnc90 := NB439_444.out;obtain ⟨hcz91_0,hcz91_1,hcz91_2,hfz91_0,hfz91_1,hfz91_2⟩ := cells3 BK444.out))
     have n0_ : Aside0 ((((w85.setCell ⟨gb444,0,none⟩ (.bool t440)).setCell ⟨gb444,1,none⟩ (.int .u64 t441)).setCell ⟨gb444,2,none⟩ (.int .u64 t442)).heap[gb429]? = some (.cells #[.bool a0_0,.int .u64 a0_1,.int .u64 a0_2,.int .i64 a0_3] 102 (0,0))) := ⟨Z234⟩
     have n1_ : Aside0 ((((w85.setCell ⟨gb444,0,none⟩ (.bool t440)).setCell ⟨gb444,1,none⟩ (.int .u64 t441)).setCell ⟨gb444,2,none⟩ (.int .u64 t442)).heap[gb430]? = some (.cells #[.bool a1_0,.int .u64 a1_1,.int .u64 a1_2,.int .i64 a1_3] 102 (0,0))) := ⟨Z233⟩
     have n2_ : Aside0 ((((w85.setCell ⟨gb444,0,none⟩ (.bool t440)).setCell ⟨gb444,1,none⟩ (.int .u64 t441)).setCell ⟨gb444,2,none⟩ (.int .u64 t442)).heap[gb431]? = some (.cells #[.bool false,.int .u64 0,.int .u64 0] 100 (0,0))) := ⟨Z232⟩
     have n3_ : Aside0 ((((w85.setCell ⟨gb444,0,none⟩ (.bool t440)).setCell ⟨gb444,1,none⟩ (.int .u64 t441)).setCell ⟨gb444,2,none⟩ (.int .u64 t442)).heap[gb432]? = some (.cells #[.bool false,.int .u64 0,.int .u64 0] 100 (0,0))) := ⟨Z231⟩
     have n4_ : Aside0 ((((w85.setCell ⟨gb444,0,none⟩ (.bool t440)).setCell ⟨gb444,1,none⟩ (.int .u64 t441)).setCell ⟨gb444,2,none⟩ (.int .u64 t442)).heap[gb439]? = some (.cells #[.bool t435,.int .u64 t436,.int .u64 t437] 100 (0,0))) := ⟨Z230⟩
     have n5_ : Aside0 ((((w85.setCell ⟨gb444,0,none⟩ (.bool t440)).setCell ⟨gb444,1,none⟩ (.int .u64 t441)).setCell ⟨gb444,2,none⟩ (.int .u64 t442)).heap[gb444]? = some (.cells #[.bool t440,.int .u64 t441,.int .u64 t442] 100 (0,0))) := ⟨Z161⟩
     have n6_ : Aside0 (Below w.heap.size w (((w85.setCell ⟨gb444,0,none⟩ (.bool t440)).setCell ⟨gb444,1,none⟩ (.int .u64 t441)).setCell ⟨gb444,2,none⟩ (.int .u64 t442))) := ⟨Z155⟩
     (try clear BK429)
     (try clear BK430)
     (try clear BK431)
     (try clear BK432)
     (try clear BK439)
     (try clear BK444)
     (try clear HB)
     generalize (((w85.setCell ⟨gb444,0,none⟩ (.bool t440)).setCell ⟨gb444,1,none⟩ (.int .u64 t441)).setCell ⟨gb444,2,none⟩ (.int .u64 t442)) = w92 at n0_ n1_ n2_ n3_ n4_ n5_ n6_ ⊢
     have BK429 := n0_
     have BK430 := n1_
     have BK431 := n2_
     have BK432 := n3_
     have BK439 := n4_
     have BK444 := n5_
     have HB := n6_
     clear n0_ n1_ n2_ n3_ n4_ n5_ n6_
     have n0_ := Aside0.mk (blk_drew BK429.out)
     have n1_ := Aside0.mk (blk_drew BK430.out)
     have n2_ := Aside0.mk (blk_drew BK431.out)
     have n3_ := Aside0.mk (blk_drew BK432.out)
     have n4_ := Aside0.mk (blk_drew BK439.out)
     have n5_ := Aside0.mk (blk_drew BK444.out)
     have n6_ := Aside0.mk (below_drew1 HB.out)
     clear BK429
     clear BK430
     clear BK431
     clear BK432
     clear BK439
     clear BK444
     clear HB
     have BK429 := n0_
     have BK430 := n1_
     have BK431 := n2_
     have BK432 := n3_
     have BK439 := n4_
     have BK444 := n5_
     have HB := n6_
     clear n0_ n1_ n2_ n3_ n4_ n5_ n6_
     refine start_ (n := 9) (S := fun w' => w'.cell? ⟨gb439,0,none⟩ = some (.bool t435) ∧ w'.cell? ⟨gb439,1,none⟩ = some (.int .u64 t436) ∧ w'.cell? ⟨gb439,2,none⟩ = some (.int .u64 t437) ∧ w'.cell? ⟨gb444,0,none⟩ = some (.bool t440) ∧ w'.cell? ⟨gb444,1,none⟩ = some (.int .u64 t441) ∧ w'.cell? ⟨gb444,2,none⟩ = some (.int .u64 t442)) (ds := []) #[false,false,false,false,false,false,false,false,false] Z312 rfl rfl ⟨(blk_cell BK439.out 0).trans rfl,(blk_cell BK439.out 1).trans rfl,(blk_cell BK439.out 2).trans rfl,(blk_cell BK444.out 0).trans rfl,(blk_cell BK444.out 1).trans rfl,(blk_cell BK444.out 2).trans rfl⟩ (fun hHeld => ?_);refine with_tabW impl_crossed.tab5 impl_crossed.bits5 (fun HT_ HW_ => ?_)
     generalize w92.drew = w93 at BK429 BK430 BK431 BK432 BK439 BK444 HB hHeld ⊢
     refine pure_ (i := 2) (N := some 39) (v := ?_) (a' := ?_) #[false,false,true,false,false,false,false,false,false] rfl rfl (any_of HT_.out Z312) (fun _ _ _ h => h) (Or.inl ⟨Z314,?_⟩) ?_ ?_
     rotate_left
     ·intro w'
      go_simp
      with_reducible rfl
     rotate_left
     ·simp only [Act.put,List.setIfInBounds_toArray,List.set_cons_zero,List.set_cons_succ,i64_w,i32_w]
      rfl
     refine pure_ (i := 3) (N := some 40) (v := ?_) (a' := ?_) #[false,false,true,true,false,false,false,false,false] rfl rfl (any_of HT_.out Z312) (fun _ _ _ h => h) (Or.inl ⟨Z314,?_⟩) ?_ ?_
     rotate_left
     ·intro w'
      go_simp
      with_reducible rfl
     rotate_left
     ·simp only [Act.put,List.setIfInBounds_toArray,List.set_cons_zero,List.set_cons_succ,i64_w,i32_w]
      rfl
     refine pure_ (i := 4) (N := some 41) (v := undef) (a' := ?_) #[false,false,true,true,true,false,false,false,false] rfl rfl (any_of HT_.out Z312) (fun _ _ _ h => h) (Or.inr ⟨Z314,rfl⟩) ?_ ?_
     rotate_left
     ·simp only [Act.put,List.setIfInBounds_toArray,List.set_cons_zero,List.set_cons_succ,i64_w,i32_w]
      rfl
     refine pure_ (i := 5) (N := some 42) (v := ?_) (a' := ?_) #[false,false,true,true,true,true,false,false,false] rfl rfl (any_of HT_.out Z312) (fun _ _ _ h => h) (Or.inl ⟨Z314,?_⟩) ?_ ?_
     rotate_left
     ·intro w'
      go_simp
      with_reducible rfl
     rotate_left
     ·simp only [Act.put,List.setIfInBounds_toArray,List.set_cons_zero,List.set_cons_succ,i64_w,i32_w]
      rfl
     refine take_ (i := 0) (N := some 37) (v := ?_) (a' := ?_) #[true,false,true,true,true,true,false,false,false] rfl rfl (take_ofW HT_.out HW_.out Z312) (fun _ _ _ h => h) (Or.inl ⟨Z314,?_⟩) hHeld ?_ ?_
     rotate_left
     ·rintro w' ⟨s0,s1,s2,s3,s4,s5⟩
      go_simp
      with_reducible rfl
     rotate_left
     ·simp only [Act.put,List.setIfInBounds_toArray,List.set_cons_zero,List.set_cons_succ,i64_w,i32_w]
      rfl
     refine take_ (i := 1) (N := some 38) (v := ?_) (a' := ?_) #[true,true,true,true,true,true,false,false,false] rfl rfl (take_ofW HT_.out HW_.out Z312) (fun _ _ _ h => h) (Or.inl ⟨Z314,?_⟩) hHeld ?_ ?_
     rotate_left
     ·rintro w' ⟨s0,s1,s2,s3,s4,s5⟩
      go_simp
      with_reducible rfl
     rotate_left
     ·simp only [Act.put,List.setIfInBounds_toArray,List.set_cons_zero,List.set_cons_succ,i64_w,i32_w]
      rfl
     refine one_ (i := 6) (N := none) #[true,true,true,true,true,true,true,false,false] rfl rfl (one_of HT_.out Z312) Z313 (fun K hK => ?_)
     have hs94 : w93.cell? ⟨gb431,0,none⟩ = some (.bool false) := (blk_cell BK431.out 0).trans rfl
     have hfs94 := blk_frozen BK431.out 0
     have hns94_0 := NB429_431.out
     have hns94_1 := NB430_431.out
     have hns94_3 := NB432_431.out
     have hns94_4 := NB439_431.out
     have hns94_5 := NB444_431.out
     have hms94_0 := NB431_429.out
     have hms94_1 := NB431_430.out
     have hms94_3 := NB431_432.out
     have hms94_4 := NB431_439.out
     have hms94_5 := NB431_444.out
     have hs95 : w93.cell? ⟨gb431,1,none⟩ = some (.int .u64 0) := (blk_cell BK431.out 1).trans rfl
     have hfs95 := blk_frozen BK431.out 1
     have hns95_0 := NB429_431.out
     have hns95_1 := NB430_431.out
     have hns95_3 := NB432_431.out
     have hns95_4 := NB439_431.out
     have hns95_5 := NB444_431.out
     have hms95_0 := NB431_429.out
     have hms95_1 := NB431_430.out
     have hms95_3 := NB431_432.out
     have hms95_4 := NB431_439.out
     have hms95_5 := NB431_444.out
     have hs96 : w93.cell? ⟨gb431,2,none⟩ = some (.int .u64 0) := (blk_cell BK431.out 2).trans rfl
     have hfs96 := blk_frozen BK431.out 2
     have hns96_0 := NB429_431.out
     have hns96_1 := NB430_431.out
     have hns96_3 := NB432_431.out
     have hns96_4 := NB439_431.out
     have hns96_5 := NB444_431.out
     have hms96_0 := NB431_429.out
     have hms96_1 := NB431_430.out
     have hms96_3 := NB431_432.out
     have hms96_4 := NB431_439.out
     have hms96_5 := NB431_444.out
     refine skip_ (w1 := ?_) Z314 rfl ?_ ?_
     rotate_left
     ·go_simp
      rfl
     refine hK.out _ _ ⟨((cell_far (p := ⟨gb431,_,none⟩) NB439_431.out _).trans (((cell_far (p := ⟨gb431,_,none⟩) NB439_431.out _).trans (((cell_far (p := ⟨gb431,_,none⟩) NB439_431.out _).trans (hHeld.1)))))),((cell_far (p := ⟨gb431,_,none⟩) NB439_431.out _).trans (((cell_far (p := ⟨gb431,_,none⟩) NB439_431.out _).trans (((cell_far (p := ⟨gb431,_,none⟩) NB439_431.out _).trans (hHeld.2.1)))))),((cell_far (p := ⟨gb431,_,none⟩) NB439_431.out _).trans (((cell_far (p := ⟨gb431,_,none⟩) NB439_431.out _).trans (((cell_far (p := ⟨gb431,_,none⟩) NB439_431.out _).trans (hHeld.2.2.1)))))),((cell_far (p := ⟨gb431,_,none⟩) NB444_431.out _).trans (((cell_far (p := ⟨gb431,_,none⟩) NB444_431.out _).trans (((cell_far (p := ⟨gb431,_,none⟩) NB444_431.out _).trans (hHeld.2.2.2.1)))))),((cell_far (p := ⟨gb431,_,none⟩) NB444_431.out _).trans (((cell_far (p := ⟨gb431,_,none⟩) NB444_431.out _).trans (((cell_far (p := ⟨gb431,_,none⟩) NB444_431.out _).trans (hHeld.2.2.2.2.1)))))),((cell_far (p := ⟨gb431,_,none⟩) NB444_431.out _).trans (((cell_far (p := ⟨gb431,_,none⟩) NB444_431.out _).trans (((cell_far (p := ⟨gb431,_,none⟩) NB444_431.out _).trans (hHeld.2.2.2.2.2))))))⟩ (fun hHeld => ?_)
     clear hK K
     refine one_ (i := 7) (N := none) #[true,true,true,true,true,true,true,true,false] rfl rfl (one_of HT_.out Z312) Z313 (fun K hK => ?_)
     have hs97 : w93.cell? ⟨gb432,0,none⟩ = some (.bool false) := (blk_cell BK432.out 0).trans rfl
     have hfs97 := blk_frozen BK432.out 0
     have hns97_0 := NB429_432.out
     have hns97_1 := NB430_432.out
     have hns97_2 := NB431_432.out
     have hns97_4 := NB439_432.out
     have hns97_5 := NB444_432.out
     have hms97_0 := NB432_429.out
     have hms97_1 := NB432_430.out
     have hms97_2 := NB432_431.out
     have hms97_4 := NB432_439.out
     have hms97_5 := NB432_444.out
     have hs98 : w93.cell? ⟨gb432,1,none⟩ = some (.int .u64 0) := (blk_cell BK432.out 1).trans rfl
     have hfs98 := blk_frozen BK432.out 1
     have hns98_0 := NB429_432.out
     have hns98_1 := NB430_432.out
     have hns98_2 := NB431_432.out
     have hns98_4 := NB439_432.out
     have hns98_5 := NB444_432.out
     have hms98_0 := NB432_429.out
     have hms98_1 := NB432_430.out
     have hms98_2 := NB432_431.out
     have hms98_4 := NB432_439.out
     have hms98_5 := NB432_444.out
     have hs99 : w93.cell? ⟨gb432,2,none⟩ = some (.int .u64 0) := (blk_cell BK432.out 2).trans rfl
     have hfs99 := blk_frozen BK432.out 2
     have hns99_0 := NB429_432.out
     have hns99_1 := NB430_432.out
     have hns99_2 := NB431_432.out
     have hns99_4 := NB439_432.out
     have hns99_5 := NB444_432.out
     have hms99_0 := NB432_429.out
     have hms99_1 := NB432_430.out
     have hms99_2 := NB432_431.out
     have hms99_4 := NB432_439.out
     have hms99_5 := NB432_444.out
     refine skip_ (w1 := ?_) Z314 rfl ?_ ?_
     rotate_left
     ·go_simp
      rfl
     refine hK.out _ _ ⟨((cell_far (p := ⟨gb432,_,none⟩) NB439_432.out _).trans (((cell_far (p := ⟨gb432,_,none⟩) NB439_432.out _).trans (((cell_far (p := ⟨gb432,_,none⟩) NB439_432.out _).trans (hHeld.1)))))),((cell_far (p := ⟨gb432,_,none⟩) NB439_432.out _).trans (((cell_far (p := ⟨gb432,_,none⟩) NB439_432.out _).trans (((cell_far (p := ⟨gb432,_,none⟩) NB439_432.out _).trans (hHeld.2.1)))))),((cell_far (p := ⟨gb432,_,none⟩) NB439_432.out _).trans (((cell_far (p := ⟨gb432,_,none⟩) NB439_432.out _).trans (((cell_far (p := ⟨gb432,_,none⟩) NB439_432.out _).trans (hHeld.2.2.1)))))),((cell_far (p := ⟨gb432,_,none⟩) NB444_432.out _).trans (((cell_far (p := ⟨gb432,_,none⟩) NB444_432.out _).trans (((cell_far (p := ⟨gb432,_,none⟩) NB444_432.out _).trans (hHeld.2.2.2.1)))))),((cell_far (p := ⟨gb432,_,none⟩) NB444_432.out _).trans (((cell_far (p := ⟨gb432,_,none⟩) NB444_432.out _).trans (((cell_far (p := ⟨gb432,_,none⟩) NB444_432.out _).trans (hHeld.2.2.2.2.1)))))),((cell_far (p := ⟨gb432,_,none⟩) NB444_432.out _).trans (((cell_far (p := ⟨gb432,_,none⟩) NB444_432.out _).trans (((cell_far (p := ⟨gb432,_,none⟩) NB444_432.out _).trans (hHeld.2.2.2.2.2))))))⟩ (fun hHeld => ?_)
     clear hK K
     refine pure_ (i := 8) (N := some 6) (v := ?_) (a' := ?_) #[true,true,true,true,true,true,true,true,true] rfl rfl (any_of HT_.out Z312) (fun _ _ _ h => h) (Or.inl ⟨Z314,?_⟩) ?_ ?_
     rotate_left
     ·intro w'
      go_simp
      with_reducible rfl
     rotate_left
     ·simp only [Act.put,List.setIfInBounds_toArray,List.set_cons_zero,List.set_cons_succ,i64_w,i32_w]
      rfl
     refine done_ (done_of HT_.out Z312) ?_
     try go_wp2
     refine bodyPost_ret (results_list (rs := [.cell 4 100,.cell 5 100,.tmp 6]) rfl Z553 (.cell gb431 100 #[.bool t435,.int .u64 t436,.int .u64 t437] (0,0) _ rfl Z143 Try.underlying100 rfl Z312 (.cell gb432 100 #[.bool t440,.int .u64 t441,.int .u64 t442] (0,0) _ rfl Z141 Try.underlying100 rfl Z312 (.tmp .nil)))) rfl ?_
     exact ⟨Z263,Z155⟩

/-! ### cmp_Or_int: function 166 -/
def cmp_Or_int.l0 : Nat → Int → List Int → Int → Int → Option (Int)
 | 0,_,_,_,_ => none
 | k + 1,x3,x6,x7,x8 => if x8 < x7 then (if 0 ≤ x8 then (if x8 < (x6.length : Int) then (if (rd x6 x8) = x3 then (cmp_Or_int.l0 k x3 x6 x7 (wrap64 (x8 + 1))) else (some (rd x6 x8))) else (none)) else (none)) else (some x3)
def cmp_Or_int.f (k : Nat) (l0 : List Int) : Option (Int) := cmp_Or_int.l0 k 0 l0 (l0.length : Int) 0
theorem cmp_Or_int.mono_l : ∀ k,(∀ y0 y1 y2 y3,LeO (cmp_Or_int.l0 k y0 y1 y2 y3) (cmp_Or_int.l0 (k + 1) y0 y1 y2 y3))
 | 0 => fun _ _ _ _ r h => by simp [cmp_Or_int.l0] at h
 | k + 1 => by
  have ih0 := cmp_Or_int.mono_l k
  ·intro y0 y1 y2 y3
   unfold cmp_Or_int.l0
   repeat' first
   | (with_reducible exact ih0 _ _ _ _)
   | (with_reducible exact LeO.refl _)
   | (with_reducible exact LeO.none _)
   | (with_reducible refine LeO.ite ?_ ?_)
   | (with_reducible refine LeO.bind ?_ (fun _ => ?_))
   | exact ih0 _ _ _ _
   | exact LeO.none _
   | refine LeO.ite ?_ ?_
   | refine LeO.bind ?_ (fun _ => ?_)
theorem cmp_Or_int.mono : ∀ a0 k,LeO (cmp_Or_int.f k a0) (cmp_Or_int.f (k + 1) a0) := by
 intro a0 k
 have ih0 := cmp_Or_int.mono_l k
 unfold cmp_Or_int.f
 repeat' first
   | (with_reducible exact ih0 _ _ _ _)
   | (with_reducible exact LeO.refl _)
   | (with_reducible exact LeO.none _)
   | (with_reducible refine LeO.ite ?_ ?_)
   | (with_reducible refine LeO.bind ?_ (fun _ => ?_))
   | exact ih0 _ _ _ _
   | exact LeO.none _
   | refine LeO.ite ?_ ?_
   | refine LeO.bind ?_ (fun _ => ?_)
set_option maxHeartbeats 8000000 in
set_option maxRecDepth 100000 in
theorem cmp_Or_int.calls (k : Nat) (A0 : Option Addr) (c0 : Nat) (l0 : List Int) (r : Int) (w : World) (hr0 : Kd.C (Kd.int .i64) w A0 l0.length l0) (hc0 : l0.length ≤ c0) (h : cmp_Or_int.f k l0 = some r) :
  Calls Try.prog 166 #[.slice A0 l0.length c0] w fun e w' => e = .returned (.int .i64 r) ∧ Drawn0 w w' := by
 have HR0 := Aside0.mk hr0
 have HC0 := Aside0.mk hc0
 clear hr0 hc0
 have H := h
 clear h
 unfold cmp_Or_int.f at H
 have H' := Aside0.mk H
 clear H
 go_enter Try.func166,Try.ntmps166
 go_wp2
 go_loopg [8] k (fun kq v8 w' => ∃ (x8_1 : Int),v8 = .int .i64 x8_1 ∧ Aside0 (cmp_Or_int.l0 kq 0 l0 (l0.length : Int) x8_1 = some r) ∧ Aside0 (kq ≤ k) ∧ Drawn0 w w')
 case atStart => exact ⟨(0),Z289,H',⟨Nat.le_refl _⟩,Z266⟩
 case round =>
  clear H'
  try clear c1
  obtain ⟨x8_1,rfl,HA,HK1,⟨m1,rfl⟩⟩ := hrel
  cases gk with
  | zero => exact absurd HA.out (by simp [cmp_Or_int.l0])
  | succ k1 =>
   have H := HA.out
   clear HA
   simp only [cmp_Or_int.l0] at H
   by_cases c2 : x8_1 < (l0.length : Int)
   ·rw [if_pos c2] at H
    have c2b0 : decide (x8_1 < (l0.length : Int)) = true := decide_eq_true c2
    clear c2
    by_cases c3 : 0 ≤ x8_1
    ·rw [if_pos c3] at H
     have c3b0 : decide (0 ≤ x8_1) = true := decide_eq_true c3
     clear c3
     by_cases c4 : x8_1 < (l0.length : Int)
     ·rw [if_pos c4] at H
      have c4b0 : decide (x8_1 < (l0.length : Int)) = true := decide_eq_true c4
      clear c4
      by_cases c5 : (rd l0 x8_1) = 0
      ·rw [if_pos c5] at H
       have c5b0 : ((rd l0 x8_1) == 0) = true := beq_iff_eq.mpr c5
       have c5b1 : ((rd l0 x8_1) != 0) = false := bne_eq_false_iff_eq.mpr c5
       clear c5
       have H' := Aside0.mk H
       clear H
       have p445 : 0 ≤ (x8_1 : Int) := of_decide_eq_true Z288
       have q445 : x8_1 < (l0.length : Int) := of_decide_eq_true Z288
       obtain ⟨ad445,e445,hx445_0⟩ := Kd.at_int HR0.out x8_1 p445 q445
       cases e445
       replace p445 := eq_true p445
       replace q445 := eq_true q445
       go_wp2
       go_roundg k1
       case measure => have := HK1.out;omega
       case rel => exact ⟨(wrap64 (x8_1 + 1)),Z289,H',⟨Z310⟩,Z266⟩
      ·rw [if_neg c5] at H
       have c5b0 : ((rd l0 x8_1) == 0) = false := beq_eq_false_iff_ne.mpr c5
       have c5b1 : ((rd l0 x8_1) != 0) = true := bne_iff_ne.mpr c5
       obtain rfl := Option.some.inj H
       have p445 : 0 ≤ (x8_1 : Int) := of_decide_eq_true Z288
       have q445 : x8_1 < (l0.length : Int) := of_decide_eq_true Z288
       obtain ⟨ad445,e445,hx445_0⟩ := Kd.at_int HR0.out x8_1 p445 q445
       cases e445
       replace p445 := eq_true p445
       replace q445 := eq_true q445
       go_wp2
       go_ret
       exact ⟨Z289,Z266⟩
     ·rw [if_neg c4] at H
      exact absurd H Z553
    ·rw [if_neg c3] at H
     exact absurd H Z553
   ·rw [if_neg c2] at H
    have c2b0 : decide (x8_1 < (l0.length : Int)) = false := decide_eq_false c2
    clear c2
    obtain rfl := Option.some.inj H
    go_wp2
    go_ret
    exact ⟨Z289,Z266⟩

/-! ### cmp_isNaN_uint64: function 179 -/
def cmp_isNaN_uint64.f (a0 : Int) : Option (Bool) := some (a0 != a0)
set_option maxHeartbeats 8000000 in
set_option maxRecDepth 100000 in
theorem cmp_isNaN_uint64.calls (a0 : Int) (r : Bool) (w : World) (h : cmp_isNaN_uint64.f a0 = some r) :
  Calls Try.prog 179 #[.int .u64 a0] w fun e w' => e = .returned (.bool r) ∧ Drawn0 w w' := by
 have H := h
 clear h
 unfold cmp_isNaN_uint64.f at H
 obtain rfl := Option.some.inj H
 go_enter Try.func179,Try.ntmps179
 go_wp2
 go_ret
 exact ⟨Z289,Z266⟩

/-! ### cmp_Compare_uint64: function 167 -/
def cmp_Compare_uint64.f (a0 : Int) (a1 : Int) : Option (Int) := (cmp_isNaN_uint64.f a0).bind fun t446 => ((cmp_isNaN_uint64.f a1).bind fun t447 => (if t446 = true then (if t447 = true then (some 0) else (some (-1))) else (if t447 = true then (some 1) else (if a0 < a1 then (some (-1)) else (if a0 > a1 then (some 1) else (some 0))))))
set_option maxHeartbeats 8000000 in
set_option maxRecDepth 100000 in
theorem cmp_Compare_uint64.calls (a0 : Int) (a1 : Int) (r : Int) (w : World) (h : cmp_Compare_uint64.f a0 a1 = some r) :
  Calls Try.prog 167 #[.int .u64 a0,.int .u64 a1] w fun e w' => e = .returned (.int .i64 r) ∧ Drawn0 w w' := by
 have H := h
 clear h
 unfold cmp_Compare_uint64.f at H
 obtain ⟨t446,A30,H⟩ := Option.bind_eq_some_iff.mp H
 have A3 := Aside0.mk A30
 clear A30
 obtain ⟨t447,A40,H⟩ := Option.bind_eq_some_iff.mp H
 have A4 := Aside0.mk A40
 clear A40
 by_cases c5 : t446 = true
 ·subst c5
  rw [if_pos rfl] at H
  by_cases c6 : t447 = true
  ·subst c6
   rw [if_pos rfl] at H
   obtain rfl := Option.some.inj H
   go_enter Try.func167,Try.ntmps167
   go_wp2_with (first | ((with_reducible refine gate_callee (f := 179) rfl ?_);refine goesL_ (some 8) rfl rfl Try.func179 Z312 rfl #[.int .u64 a0] rfl Z256 ?_;(with_reducible refine (cmp_isNaN_uint64.calls a0 true _ A3.out).mono ?_);rintro e w' ⟨rfl,⟨nd,rfl⟩⟩;refine ⟨_,rfl,?_⟩) | ((with_reducible refine gate_callee (f := 179) rfl ?_);refine goesL_ (some 10) rfl rfl Try.func179 Z312 rfl #[.int .u64 a1] rfl Z256 ?_;(with_reducible refine (cmp_isNaN_uint64.calls a1 true _ A4.out).mono ?_);rintro e w' ⟨rfl,⟨nd,rfl⟩⟩;refine ⟨_,rfl,?_⟩))
   go_ret
   exact ⟨Z289,Z266⟩
  ·replace c6 := Bool.eq_false_iff.mpr c6
   subst c6
   rw [if_neg Bool.false_ne_true] at H
   obtain rfl := Option.some.inj H
   go_enter Try.func167,Try.ntmps167
   go_wp2_with (first | ((with_reducible refine gate_callee (f := 179) rfl ?_);refine goesL_ (some 8) rfl rfl Try.func179 Z312 rfl #[.int .u64 a0] rfl Z256 ?_;(with_reducible refine (cmp_isNaN_uint64.calls a0 true _ A3.out).mono ?_);rintro e w' ⟨rfl,⟨nd,rfl⟩⟩;refine ⟨_,rfl,?_⟩) | ((with_reducible refine gate_callee (f := 179) rfl ?_);refine goesL_ (some 10) rfl rfl Try.func179 Z312 rfl #[.int .u64 a1] rfl Z256 ?_;(with_reducible refine (cmp_isNaN_uint64.calls a1 false _ A4.out).mono ?_);rintro e w' ⟨rfl,⟨nd,rfl⟩⟩;refine ⟨_,rfl,?_⟩))
   go_ret
   exact ⟨Z289,Z266⟩
 ·replace c5 := Bool.eq_false_iff.mpr c5
  subst c5
  rw [if_neg Bool.false_ne_true] at H
  by_cases c7 : t447 = true
  ·subst c7
   rw [if_pos rfl] at H
   obtain rfl := Option.some.inj H
   go_enter Try.func167,Try.ntmps167
   go_wp2_with (first | ((with_reducible refine gate_callee (f := 179) rfl ?_);refine goesL_ (some 8) rfl rfl Try.func179 Z312 rfl #[.int .u64 a0] rfl Z256 ?_;(with_reducible refine (cmp_isNaN_uint64.calls a0 false _ A3.out).mono ?_);rintro e w' ⟨rfl,⟨nd,rfl⟩⟩;refine ⟨_,rfl,?_⟩) | ((with_reducible refine gate_callee (f := 179) rfl ?_);refine goesL_ (some 10) rfl rfl Try.func179 Z312 rfl #[.int .u64 a1] rfl Z256 ?_;(with_reducible refine (cmp_isNaN_uint64.calls a1 true _ A4.out).mono ?_);rintro e w' ⟨rfl,⟨nd,rfl⟩⟩;refine ⟨_,rfl,?_⟩))
   go_ret
   exact ⟨Z289,Z266⟩
  ·replace c7 := Bool.eq_false_iff.mpr c7
   subst c7
   rw [if_neg Bool.false_ne_true] at H
   by_cases c8 : a0 < a1
   ·rw [if_pos c8] at H
    have c8b0 : decide (a0 < a1) = true := decide_eq_true c8
    clear c8
    obtain rfl := Option.some.inj H
    go_enter Try.func167,Try.ntmps167
    go_wp2_with (first | ((with_reducible refine gate_callee (f := 179) rfl ?_);refine goesL_ (some 8) rfl rfl Try.func179 Z312 rfl #[.int .u64 a0] rfl Z256 ?_;(with_reducible refine (cmp_isNaN_uint64.calls a0 false _ A3.out).mono ?_);rintro e w' ⟨rfl,⟨nd,rfl⟩⟩;refine ⟨_,rfl,?_⟩) | ((with_reducible refine gate_callee (f := 179) rfl ?_);refine goesL_ (some 10) rfl rfl Try.func179 Z312 rfl #[.int .u64 a1] rfl Z256 ?_;(with_reducible refine (cmp_isNaN_uint64.calls a1 false _ A4.out).mono ?_);rintro e w' ⟨rfl,⟨nd,rfl⟩⟩;refine ⟨_,rfl,?_⟩))
    go_ret
    exact ⟨Z289,Z266⟩
   ·rw [if_neg c8] at H
    have c8b0 : decide (a0 < a1) = false := decide_eq_false c8
    clear c8
    by_cases c9 : a0 > a1
    ·rw [if_pos c9] at H
     have c9b0 : decide (a1 < a0) = true := decide_eq_true c9
     clear c9
     obtain rfl := Option.some.inj H
     go_enter Try.func167,Try.ntmps167
     go_wp2_with (first | ((with_reducible refine gate_callee (f := 179) rfl ?_);refine goesL_ (some 8) rfl rfl Try.func179 Z312 rfl #[.int .u64 a0] rfl Z256 ?_;(with_reducible refine (cmp_isNaN_uint64.calls a0 false _ A3.out).mono ?_);rintro e w' ⟨rfl,⟨nd,rfl⟩⟩;refine ⟨_,rfl,?_⟩) | ((with_reducible refine gate_callee (f := 179) rfl ?_);refine goesL_ (some 10) rfl rfl Try.func179 Z312 rfl #[.int .u64 a1] rfl Z256 ?_;(with_reducible refine (cmp_isNaN_uint64.calls a1 false _ A4.out).mono ?_);rintro e w' ⟨rfl,⟨nd,rfl⟩⟩;refine ⟨_,rfl,?_⟩))
     go_ret
     exact ⟨Z289,Z266⟩
    ·rw [if_neg c9] at H
     have c9b0 : decide (a1 < a0) = false := decide_eq_false c9
     clear c9
     obtain rfl := Option.some.inj H
     go_enter Try.func167,Try.ntmps167
     go_wp2_with (first | ((with_reducible refine gate_callee (f := 179) rfl ?_);refine goesL_ (some 8) rfl rfl Try.func179 Z312 rfl #[.int .u64 a0] rfl Z256 ?_;(with_reducible refine (cmp_isNaN_uint64.calls a0 false _ A3.out).mono ?_);rintro e w' ⟨rfl,⟨nd,rfl⟩⟩;refine ⟨_,rfl,?_⟩) | ((with_reducible refine gate_callee (f := 179) rfl ?_);refine goesL_ (some 10) rfl rfl Try.func179 Z312 rfl #[.int .u64 a1] rfl Z256 ?_;(with_reducible refine (cmp_isNaN_uint64.calls a1 false _ A4.out).mono ?_);rintro e w' ⟨rfl,⟨nd,rfl⟩⟩;refine ⟨_,rfl,?_⟩))
     go_ret
     exact ⟨Z289,Z266⟩

end Go.Proofs.Ytaepeajaefpooaa.QFnExactMayPart
