/- The machine side of FnExactMayPart: what each Go function that it reaches comes to. Conditions: none. -/
import Derived.Test.YtaepeajaefpooaaQFnExactMayPartx0
import Derived.Test.YtaepeajaefpooaaQFnExactMayPartx1
import Derived.Test.YtaepeajaefpooaaQFnExactMayPartx8
namespace Go.Proofs.Ytaepeajaefpooaa.QFnExactMayPart
open Go.RowKit Go.Proofs.YtaepeajaefpooaaW.PrintWords Go.Proofs.YtaepeajaefpooaaW.PrintLast Go.Proofs.YtaepeajaefpooaaW.PrintMore
attribute [local go_sem] max2_int min2_int max_two min_two max_three min_three max_four min_four   -- for this text's walks alone
set_option linter.unusedVariables false
set_option linter.unusedSimpArgs false

/-! ### impl_LeafOf: function 84 -/
def impl_LeafOf.j0 : Nat → Int → Bool → Int → Int → Int → Int → Option (Int × Bool)
 | 0,_,_,_,_,_,_ => none
 | k + 1,x1,x19,x352000,x352001,x353000,x353001 => if x19 = true then (some (0,false)) else ((impl_FloorDiv.f k x352001 (wrap64 (x352000 + x1))).bind fun bt355 => ((impl_Brought.f bt355.1 x353000 x353001).bind fun t357 => (some (t357,true))))
def impl_LeafOf.f (k : Nat) (a0_0 : Int) (a0_1 : Int) (a1 : Int) (a2_0 : Int) (a2_1 : Int) : Option (Int × Bool) := (impl_isCount.f a0_0 a1).bind fun t353 => (if t353 = true then ((impl_BoundOk.f a2_0 a2_1).bind fun t354 => (impl_LeafOf.j0 k a1 (!t354) a0_0 a0_1 a2_0 a2_1)) else (impl_LeafOf.j0 k a1 true a0_0 a0_1 a2_0 a2_1))
theorem impl_LeafOf.mono_l : ∀ k,(∀ y0 y1 y2 y3 y4 y5,LeO (impl_LeafOf.j0 k y0 y1 y2 y3 y4 y5) (impl_LeafOf.j0 (k + 1) y0 y1 y2 y3 y4 y5))
 | 0 => fun _ _ _ _ _ _ r h => by simp [impl_LeafOf.j0] at h
 | k + 1 => by
  have ih0 := impl_LeafOf.mono_l k
  ·intro y0 y1 y2 y3 y4 y5
   unfold impl_LeafOf.j0
   repeat' first
   | (with_reducible exact ih0 _ _ _ _ _ _)
   | (with_reducible exact impl_FloorDiv.mono _ _ _)
   | (with_reducible exact LeO.refl _)
   | (with_reducible exact LeO.none _)
   | (with_reducible refine LeO.ite ?_ ?_)
   | (with_reducible refine LeO.bind ?_ (fun _ => ?_))
   | exact ih0 _ _ _ _ _ _
   | exact impl_FloorDiv.mono _ _ _
   | exact LeO.none _
   | refine LeO.ite ?_ ?_
   | refine LeO.bind ?_ (fun _ => ?_)
theorem impl_LeafOf.mono : ∀ a0 a1 a2 a3 a4 k,LeO (impl_LeafOf.f k a0 a1 a2 a3 a4) (impl_LeafOf.f (k + 1) a0 a1 a2 a3 a4) := by
 intro a0 a1 a2 a3 a4 k
 have ih0 := impl_LeafOf.mono_l k
 unfold impl_LeafOf.f
 repeat' first
   | (with_reducible exact ih0 _ _ _ _ _ _)
   | (with_reducible exact impl_FloorDiv.mono _ _ _)
   | (with_reducible exact LeO.refl _)
   | (with_reducible exact LeO.none _)
   | (with_reducible refine LeO.ite ?_ ?_)
   | (with_reducible refine LeO.bind ?_ (fun _ => ?_))
   | exact ih0 _ _ _ _ _ _
   | exact impl_FloorDiv.mono _ _ _
   | exact LeO.none _
   | refine LeO.ite ?_ ?_
   | refine LeO.bind ?_ (fun _ => ?_)
set_option maxHeartbeats 8000000 in
set_option maxRecDepth 100000 in
theorem impl_LeafOf.calls (k : Nat) (a0_0 : Int) (a0_1 : Int) (a1 : Int) (a2_0 : Int) (a2_1 : Int) (r1 : Int) (r2 : Bool) (w : World) (h : impl_LeafOf.f k a0_0 a0_1 a1 a2_0 a2_1 = some (r1,r2)) :
  Calls Try.prog 84 #[.agg #[.int .i64 a0_0,.int .i64 a0_1],.int .i64 a1,.agg #[.int .i64 a2_0,.int .i64 a2_1]] w fun e w' => e = .returned (.tuple #[.int .i64 r1,.bool r2]) ∧ Below w.heap.size w w' := by
 have hu37 := Try.underlying37
 have hu35 := Try.underlying35
 have HB := Aside0.mk (Below.refl w.heap.size w)
 have H := h
 clear h
 unfold impl_LeafOf.f at H
 have HC4 := Aside0.mk H
 clear H
 go_enter Try.func84,Try.ntmps84
 go_upto_region 1 with (first | ((with_reducible refine gate_dst (N := 3) rfl ?_);refine bE 3 #[.int .i64 a0_0,.int .i64 a0_1] 37 (h := ?_);intro gb351 hg w5 hbox hb;have n_ := jA (below_step Z614 hb) (jA (hbox) (jA ((Z456 : w.heap.size ≤ gb351)) (Aside0.mk ((Z456 : w.heap.size ≤ gb351)))));clear HB;obtain ⟨HB,BK351,GW351,GE351⟩ := n_;clear hb hbox hg) | ((with_reducible refine gate_dst (N := 5) rfl ?_);refine bE 5 #[.int .i64 a2_0,.int .i64 a2_1] 35 (h := ?_);intro gb352 hg w6 hbox hb;have n_ := jA (blk_below (g := gb351) (o := .cells #[.int .i64 a0_0,.int .i64 a0_1] 37 (0,0)) Z296 hb) (jA (below_step Z466 hb) (jA (hbox) (jA ((Z209 : w.heap.size ≤ gb352)) (jA ((Z209 : w.heap.size ≤ gb352)) (jA ((by rw [hg];exact Nat.ne_of_lt (blk_lt (g := gb351) (o := .cells #[.int .i64 a0_0,.int .i64 a0_1] 37 (0,0)) Z296) : gb351 ≠ gb352)) (Aside0.mk ((by rw [hg];exact Nat.ne_of_gt (blk_lt (g := gb351) (o := .cells #[.int .i64 a0_0,.int .i64 a0_1] 37 (0,0)) Z296) : gb352 ≠ gb351))))))));clear BK351 HB;obtain ⟨BK351,HB,BK352,GW352,GE352,NB351_352,NB352_351⟩ := n_;clear hb hbox hg))
 (try simp only [Act.put,List.setIfInBounds_toArray,List.set_cons_zero,List.set_cons_succ])
 go_cut [19] (fun v19 wc => ∃ (kq : Nat) (x19_3 : Bool),v19 = .bool x19_3 ∧ Aside0 (impl_LeafOf.j0 kq a1 x19_3 a0_0 a0_1 a2_0 a2_1 = some (r1,r2)) ∧ Aside0 (kq ≤ k) ∧ Aside0 (wc.heap[gb351]? = some (.cells #[.int .i64 a0_0,.int .i64 a0_1] 37 (0,0))) ∧ Aside0 (wc.heap[gb352]? = some (.cells #[.int .i64 a2_0,.int .i64 a2_1] 35 (0,0))) ∧ Aside0 (Below w.heap.size w wc))
 case first =>
  have H := HC4.out
  clear HC4
  obtain ⟨t353,A70,H⟩ := Option.bind_eq_some_iff.mp H
  have A7 := Aside0.mk A70
  clear A70
  by_cases c8 : t353 = true
  ·subst c8
   rw [if_pos rfl] at H
   obtain ⟨t354,A90,H⟩ := Option.bind_eq_some_iff.mp H
   have A9 := Aside0.mk A90
   clear A90
   have H' := Aside0.mk H
   clear H
   have hnb10 := NB351_352.out
   have hnc10 := NB352_351.out
   obtain ⟨hcz11_0,hcz11_1,hfz11_0,hfz11_1⟩ := cells2 BK351.out
   go_wp2_with (first | ((with_reducible refine gate_callee (f := 119) rfl ?_);refine goesL_ (some 13) rfl rfl Try.func119 Z312 rfl #[.int .i64 a0_0,.int .i64 a1] rfl Z256 ?_;(with_reducible refine (impl_isCount.calls a0_0 a1 true _ A7.out).mono ?_);rintro e w' ⟨rfl,⟨nd,rfl⟩⟩;refine ⟨_,rfl,?_⟩;obtain ⟨hcz12_0,hcz12_1,hfz12_0,hfz12_1⟩ := cells2 BK352.out) | (go_at_call 120;(with_reducible refine (impl_BoundOk.calls a2_0 a2_1 t354 _ A9.out).mono ?_);rintro e w13 ⟨rfl,hb⟩;have n_ := jA (blk_below (g := gb351) (o := .cells #[.int .i64 a0_0,.int .i64 a0_1] 37 (0,0)) Z296 hb) (jA (blk_below (g := gb352) (o := .cells #[.int .i64 a2_0,.int .i64 a2_1] 35 (0,0)) Z307 hb) (Aside0.mk (below_step Z200 hb)));clear BK351 BK352 HB;obtain ⟨BK351,BK352,HB⟩ := n_;(try clear hb);(try clear hb2);(try clear hk);(try clear hi)))
   go_meet
   case rel => exact ⟨_,(!t354),Z289,H',⟨Z291⟩,⟨Z296⟩,⟨Z307⟩,⟨Z200⟩⟩
  ·replace c8 := Bool.eq_false_iff.mpr c8
   subst c8
   rw [if_neg Bool.false_ne_true] at H
   have H' := Aside0.mk H
   clear H
   have hnb14 := NB351_352.out
   have hnc14 := NB352_351.out
   obtain ⟨hcz15_0,hcz15_1,hfz15_0,hfz15_1⟩ := cells2 BK351.out
   go_wp2_with (first | ((with_reducible refine gate_callee (f := 119) rfl ?_);refine goesL_ (some 13) rfl rfl Try.func119 Z312 rfl #[.int .i64 a0_0,.int .i64 a1] rfl Z256 ?_;(with_reducible refine (impl_isCount.calls a0_0 a1 false _ A7.out).mono ?_);rintro e w' ⟨rfl,⟨nd,rfl⟩⟩;refine ⟨_,rfl,?_⟩))
   go_meet
   case rel => exact ⟨_,(true),Z289,H',⟨Z291⟩,⟨Z296⟩,⟨Z307⟩,⟨Z200⟩⟩
 case rest =>
  clear HC4
  try clear c1
  try clear p2
  try clear c8
  try clear c10
  try clear c11
  try clear c14
  try clear hcz11_0
  try clear hcz11_1
  try clear hcz12_0
  try clear hcz12_1
  try clear hcz15_0
  try clear hcz15_1
  try clear hfz11_0
  try clear hfz11_1
  try clear hfz12_0
  try clear hfz12_1
  try clear hfz15_0
  try clear hfz15_1
  obtain ⟨kq,x19_3,rfl,HA,HJ3,BK351,BK352,HB⟩ := hcut
  cases kq with
  | zero => exact absurd HA.out (by simp [impl_LeafOf.j0])
  | succ kj3 =>
   have H := HA.out
   clear HA
   simp only [impl_LeafOf.j0] at H
   by_cases c16 : x19_3 = true
   ·subst c16
    rw [if_pos rfl] at H
    simp only [Option.some.injEq,Prod.mk.injEq] at H
    obtain ⟨rfl,rfl⟩ := H
    go_wp2
    go_ret2
    exact ⟨Z263,Z200⟩
   ·replace c16 := Bool.eq_false_iff.mpr c16
    subst c16
    rw [if_neg Bool.false_ne_true] at H
    obtain ⟨⟨t355,t356⟩,A170,H⟩ := Option.bind_eq_some_iff.mp H
    try dsimp only at H
    have A17 := Aside0.mk A170
    clear A170
    obtain ⟨t357,A180,H⟩ := Option.bind_eq_some_iff.mp H
    have A18 := Aside0.mk A180
    clear A180
    simp only [Option.some.injEq,Prod.mk.injEq] at H
    obtain ⟨rfl,rfl⟩ := H
    have hnb19 := NB351_352.out
    have hnc19 := NB352_351.out
    obtain ⟨hcz20_0,hcz20_1,hfz20_0,hfz20_1⟩ := cells2 BK351.out
    go_wp2_with (first | ((with_reducible refine gate_callee (f := 121) rfl ?_);refine goesL_ (some 27) rfl rfl Try.func121 Z312 rfl #[.int .i64 a0_1,.int .i64 (wrap64 (a0_0 + a1))] rfl Z256 ?_;(with_reducible refine (impl_FloorDiv.calls kj3 a0_1 (wrap64 (a0_0 + a1)) t355 t356 _ A17.out).mono ?_);rintro e w' ⟨rfl,⟨nd,rfl⟩⟩;refine ⟨_,rfl,?_⟩;obtain ⟨hczq1_0,hczq1_1,hfzq1_0,hfzq1_1⟩ := cells2 BK352.out) | ((with_reducible refine gate_callee (f := 122) rfl ?_);refine goesL_ (some 35) rfl rfl Try.func122 Z312 rfl #[.int .i64 t355,.int .i64 a2_0,.int .i64 a2_1] rfl Z256 ?_;(with_reducible refine (impl_Brought.calls t355 a2_0 a2_1 t357 _ A18.out).mono ?_);rintro e w' ⟨rfl,⟨nd,rfl⟩⟩;refine ⟨_,rfl,?_⟩))
    go_ret2
    exact ⟨Z263,Z200⟩

/-! ### impl_SideValues: function 38 -/
def impl_SideValues.f (k : Nat) (a0_0 : Int) (a0_1 : Int) (a0_2 : Int) (a0_3 : Int) (a0_4 : Int) (a0_5 : Int) (a0_6 : Int) (l0_7 : List Int) (a1_0 : Int) (a1_1 : Int) (a2_0 : Int) (a2_1 : Int) (a2_2 : Int) (a2_3 : Int) (a2_4 : Int) (a2_5 : Int) : Option (Int × Int × Bool) := (impl_LeafOf.f k a2_2 a2_3 a0_3 a1_0 a1_1).bind fun bt361 => ((impl_LeafOf.f k a2_4 a2_5 a0_3 a1_0 a1_1).bind fun bt363 => (if bt361.2 = true then (if bt363.2 = true then (some (bt361.1,bt363.1,true)) else (some (0,0,false))) else (some (0,0,false))))
theorem impl_SideValues.mono : ∀ a0 a1 a2 a3 a4 a5 a6 a7 a8 a9 a10 a11 a12 a13 a14 a15 k,LeO (impl_SideValues.f k a0 a1 a2 a3 a4 a5 a6 a7 a8 a9 a10 a11 a12 a13 a14 a15) (impl_SideValues.f (k + 1) a0 a1 a2 a3 a4 a5 a6 a7 a8 a9 a10 a11 a12 a13 a14 a15) := by
 intro a0 a1 a2 a3 a4 a5 a6 a7 a8 a9 a10 a11 a12 a13 a14 a15 k
 unfold impl_SideValues.f
 repeat' first
   | (with_reducible exact impl_LeafOf.mono _ _ _ _ _ _)
   | (with_reducible exact LeO.refl _)
   | (with_reducible exact LeO.none _)
   | (with_reducible refine LeO.ite ?_ ?_)
   | (with_reducible refine LeO.bind ?_ (fun _ => ?_))
   | exact impl_LeafOf.mono _ _ _ _ _ _
   | exact LeO.none _
   | refine LeO.ite ?_ ?_
   | refine LeO.bind ?_ (fun _ => ?_)
set_option maxHeartbeats 8000000 in
set_option maxRecDepth 100000 in
theorem impl_SideValues.calls (k : Nat) (a0_0 : Int) (a0_1 : Int) (a0_2 : Int) (a0_3 : Int) (a0_4 : Int) (a0_5 : Int) (a0_6 : Int) (A0_7 : Option Addr) (c0_7 : Nat) (l0_7 : List Int) (a1_0 : Int) (a1_1 : Int) (a2_0 : Int) (a2_1 : Int) (a2_2 : Int) (a2_3 : Int) (a2_4 : Int) (a2_5 : Int) (r1 : Int) (r2 : Int) (r3 : Bool) (w : World) (hr0_7 : Kd.C (Kd.int .i64) w A0_7 l0_7.length l0_7) (hc0_7 : l0_7.length ≤ c0_7) (h : impl_SideValues.f k a0_0 a0_1 a0_2 a0_3 a0_4 a0_5 a0_6 l0_7 a1_0 a1_1 a2_0 a2_1 a2_2 a2_3 a2_4 a2_5 = some (r1,r2,r3)) :
  Calls Try.prog 38 #[.agg #[.int .i64 a0_0,.int .i64 a0_1,.int .i64 a0_2,.int .i64 a0_3,.int .i64 a0_4,.int .i64 a0_5,.int .i64 a0_6,.slice A0_7 l0_7.length c0_7],.agg #[.int .i64 a1_0,.int .i64 a1_1],.agg #[.int .i64 a2_0,.int .i64 a2_1,.int .i64 a2_2,.int .i64 a2_3,.int .i64 a2_4,.int .i64 a2_5]] w fun e w' => e = .returned (.tuple #[.int .i64 r1,.int .i64 r2,.bool r3]) ∧ Below w.heap.size w w' := by
 have hu33 := Try.underlying33
 have hu35 := Try.underlying35
 have hu39 := Try.underlying39
 have hu37 := Try.underlying37
 have HR0_7 := Aside0.mk hr0_7
 have HC0_7 := Aside0.mk hc0_7
 clear hr0_7 hc0_7
 have HB := Aside0.mk (Below.refl w.heap.size w)
 have H := h
 clear h
 unfold impl_SideValues.f at H
 obtain ⟨⟨t361,t362⟩,A40,H⟩ := Option.bind_eq_some_iff.mp H
 try dsimp only at H
 have A4 := Aside0.mk A40
 clear A40
 obtain ⟨⟨t363,t364⟩,A50,H⟩ := Option.bind_eq_some_iff.mp H
 try dsimp only at H
 have A5 := Aside0.mk A50
 clear A50
 by_cases c6 : t362 = true
 ·subst c6
  rw [if_pos rfl] at H
  by_cases c7 : t364 = true
  ·subst c7
   rw [if_pos rfl] at H
   simp only [Option.some.injEq,Prod.mk.injEq] at H
   obtain ⟨rfl,rfl,rfl⟩ := H
   go_enter Try.func38,Try.ntmps38
   go_wp2_with (first | ((with_reducible refine gate_dst (N := 3) rfl ?_);refine bE 3 #[.int .i64 a0_0,.int .i64 a0_1,.int .i64 a0_2,.int .i64 a0_3,.int .i64 a0_4,.int .i64 a0_5,.int .i64 a0_6,.slice A0_7 l0_7.length c0_7] 33 (h := ?_);intro gb358 hg wq1 hbox hb;have n_ := Z113;clear HB;obtain ⟨HB,BK358,GW358,GE358⟩ := n_;clear hb hbox hg) | ((with_reducible refine gate_dst (N := 4) rfl ?_);refine bE 4 #[.int .i64 a1_0,.int .i64 a1_1] 35 (h := ?_);intro gb359 hg wq2 hbox hb;have n_ := Z58;clear BK358 HB;obtain ⟨BK358,HB,BK359,GW359,GE359,NB358_359,NB359_358⟩ := n_;clear hb hbox hg) | ((with_reducible refine gate_dst (N := 5) rfl ?_);refine bE 5 #[.int .i64 a2_0,.int .i64 a2_1,.int .i64 a2_2,.int .i64 a2_3,.int .i64 a2_4,.int .i64 a2_5] 39 (h := ?_);intro gb360 hg wq3 hbox hb;have n_ := Z28;clear BK358 BK359 HB;obtain ⟨BK358,BK359,HB,BK360,GW360,GE360,NB358_360,NB360_358,NB359_360,NB360_359⟩ := n_;clear hb hbox hg;have hnbq4 := NB360_358.out;have hncq4 := NB358_360.out;have hnbq5 := NB360_359.out;have hncq5 := NB359_360.out;obtain ⟨hczq6_0,hczq6_1,hczq6_2,hczq6_3,hczq6_4,hczq6_5,hfzq6_0,hfzq6_1,hfzq6_2,hfzq6_3,hfzq6_4,hfzq6_5⟩ := cells6 BK360.out;have hnbq7 := NB358_359.out;have hncq7 := NB359_358.out;obtain ⟨hczq8_0,hczq8_1,hczq8_2,hczq8_3,hczq8_4,hczq8_5,hczq8_6,hczq8_7,hfzq8_0,hfzq8_1,hfzq8_2,hfzq8_3,hfzq8_4,hfzq8_5,hfzq8_6,hfzq8_7⟩ := cells8 BK358.out;obtain ⟨hczq9_0,hczq9_1,hfzq9_0,hfzq9_1⟩ := cells2 BK359.out) | ((with_reducible refine gate_callee (f := 84) rfl ?_);refine goesL_ (some 19) rfl rfl Try.func84 Z312 rfl #[.agg #[.int .i64 a2_2,.int .i64 a2_3],.int .i64 a0_3,.agg #[.int .i64 a1_0,.int .i64 a1_1]] rfl Z256 ?_;(with_reducible refine (impl_LeafOf.calls k a2_2 a2_3 a0_3 a1_0 a1_1 t361 true _ A4.out).mono ?_);rintro e wq10 ⟨rfl,hb⟩;refine ⟨_,rfl,?_⟩;have n_ := Z87;clear BK358 BK359 BK360 HB;obtain ⟨BK358,BK359,BK360,HB⟩ := n_;(try clear hb);(try clear hb2);(try clear hk);(try clear hi);obtain ⟨hczq11_0,hczq11_1,hczq11_2,hczq11_3,hczq11_4,hczq11_5,hfzq11_0,hfzq11_1,hfzq11_2,hfzq11_3,hfzq11_4,hfzq11_5⟩ := cells6 BK360.out;obtain ⟨hczq12_0,hczq12_1,hczq12_2,hczq12_3,hczq12_4,hczq12_5,hczq12_6,hczq12_7,hfzq12_0,hfzq12_1,hfzq12_2,hfzq12_3,hfzq12_4,hfzq12_5,hfzq12_6,hfzq12_7⟩ := cells8 BK358.out;obtain ⟨hczq13_0,hczq13_1,hfzq13_0,hfzq13_1⟩ := cells2 BK359.out) | ((with_reducible refine gate_callee (f := 84) rfl ?_);refine goesL_ (some 28) rfl rfl Try.func84 Z312 rfl #[.agg #[.int .i64 a2_4,.int .i64 a2_5],.int .i64 a0_3,.agg #[.int .i64 a1_0,.int .i64 a1_1]] rfl Z256 ?_;(with_reducible refine (impl_LeafOf.calls k a2_4 a2_5 a0_3 a1_0 a1_1 t363 true _ A5.out).mono ?_);rintro e wq14 ⟨rfl,hb⟩;refine ⟨_,rfl,?_⟩;have n_ := Z87;clear BK358 BK359 BK360 HB;obtain ⟨BK358,BK359,BK360,HB⟩ := n_;(try clear hb);(try clear hb2);(try clear hk);(try clear hi)))
   go_ret3
   exact ⟨Z263,Z359⟩
  ·replace c7 := Bool.eq_false_iff.mpr c7
   subst c7
   rw [if_neg Bool.false_ne_true] at H
   simp only [Option.some.injEq,Prod.mk.injEq] at H
   obtain ⟨rfl,rfl,rfl⟩ := H
   go_enter Try.func38,Try.ntmps38
   go_wp2_with (first | ((with_reducible refine gate_dst (N := 3) rfl ?_);refine bE 3 #[.int .i64 a0_0,.int .i64 a0_1,.int .i64 a0_2,.int .i64 a0_3,.int .i64 a0_4,.int .i64 a0_5,.int .i64 a0_6,.slice A0_7 l0_7.length c0_7] 33 (h := ?_);intro gb358 hg wq1 hbox hb;have n_ := Z113;clear HB;obtain ⟨HB,BK358,GW358,GE358⟩ := n_;clear hb hbox hg) | ((with_reducible refine gate_dst (N := 4) rfl ?_);refine bE 4 #[.int .i64 a1_0,.int .i64 a1_1] 35 (h := ?_);intro gb359 hg wq2 hbox hb;have n_ := Z58;clear BK358 HB;obtain ⟨BK358,HB,BK359,GW359,GE359,NB358_359,NB359_358⟩ := n_;clear hb hbox hg) | ((with_reducible refine gate_dst (N := 5) rfl ?_);refine bE 5 #[.int .i64 a2_0,.int .i64 a2_1,.int .i64 a2_2,.int .i64 a2_3,.int .i64 a2_4,.int .i64 a2_5] 39 (h := ?_);intro gb360 hg wq3 hbox hb;have n_ := Z28;clear BK358 BK359 HB;obtain ⟨BK358,BK359,HB,BK360,GW360,GE360,NB358_360,NB360_358,NB359_360,NB360_359⟩ := n_;clear hb hbox hg;have hnbq4 := NB360_358.out;have hncq4 := NB358_360.out;have hnbq5 := NB360_359.out;have hncq5 := NB359_360.out;obtain ⟨hczq6_0,hczq6_1,hczq6_2,hczq6_3,hczq6_4,hczq6_5,hfzq6_0,hfzq6_1,hfzq6_2,hfzq6_3,hfzq6_4,hfzq6_5⟩ := cells6 BK360.out;have hnbq7 := NB358_359.out;have hncq7 := NB359_358.out;obtain ⟨hczq8_0,hczq8_1,hczq8_2,hczq8_3,hczq8_4,hczq8_5,hczq8_6,hczq8_7,hfzq8_0,hfzq8_1,hfzq8_2,hfzq8_3,hfzq8_4,hfzq8_5,hfzq8_6,hfzq8_7⟩ := cells8 BK358.out;obtain ⟨hczq9_0,hczq9_1,hfzq9_0,hfzq9_1⟩ := cells2 BK359.out) | ((with_reducible refine gate_callee (f := 84) rfl ?_);refine goesL_ (some 19) rfl rfl Try.func84 Z312 rfl #[.agg #[.int .i64 a2_2,.int .i64 a2_3],.int .i64 a0_3,.agg #[.int .i64 a1_0,.int .i64 a1_1]] rfl Z256 ?_;(with_reducible refine (impl_LeafOf.calls k a2_2 a2_3 a0_3 a1_0 a1_1 t361 true _ A4.out).mono ?_);rintro e wq10 ⟨rfl,hb⟩;refine ⟨_,rfl,?_⟩;have n_ := Z87;clear BK358 BK359 BK360 HB;obtain ⟨BK358,BK359,BK360,HB⟩ := n_;(try clear hb);(try clear hb2);(try clear hk);(try clear hi);obtain ⟨hczq11_0,hczq11_1,hczq11_2,hczq11_3,hczq11_4,hczq11_5,hfzq11_0,hfzq11_1,hfzq11_2,hfzq11_3,hfzq11_4,hfzq11_5⟩ := cells6 BK360.out;obtain ⟨hczq12_0,hczq12_1,hczq12_2,hczq12_3,hczq12_4,hczq12_5,hczq12_6,hczq12_7,hfzq12_0,hfzq12_1,hfzq12_2,hfzq12_3,hfzq12_4,hfzq12_5,hfzq12_6,hfzq12_7⟩ := cells8 BK358.out;obtain ⟨hczq13_0,hczq13_1,hfzq13_0,hfzq13_1⟩ := cells2 BK359.out) | ((with_reducible refine gate_callee (f := 84) rfl ?_);refine goesL_ (some 28) rfl rfl Try.func84 Z312 rfl #[.agg #[.int .i64 a2_4,.int .i64 a2_5],.int .i64 a0_3,.agg #[.int .i64 a1_0,.int .i64 a1_1]] rfl Z256 ?_;(with_reducible refine (impl_LeafOf.calls k a2_4 a2_5 a0_3 a1_0 a1_1 t363 false _ A5.out).mono ?_);rintro e wq14 ⟨rfl,hb⟩;refine ⟨_,rfl,?_⟩;have n_ := Z87;clear BK358 BK359 BK360 HB;obtain ⟨BK358,BK359,BK360,HB⟩ := n_;(try clear hb);(try clear hb2);(try clear hk);(try clear hi)))
   go_ret3
   exact ⟨Z263,Z359⟩
 ·replace c6 := Bool.eq_false_iff.mpr c6
  subst c6
  rw [if_neg Bool.false_ne_true] at H
  simp only [Option.some.injEq,Prod.mk.injEq] at H
  obtain ⟨rfl,rfl,rfl⟩ := H
  go_enter Try.func38,Try.ntmps38
  go_wp2_with (first | ((with_reducible refine gate_dst (N := 3) rfl ?_);refine bE 3 #[.int .i64 a0_0,.int .i64 a0_1,.int .i64 a0_2,.int .i64 a0_3,.int .i64 a0_4,.int .i64 a0_5,.int .i64 a0_6,.slice A0_7 l0_7.length c0_7] 33 (h := ?_);intro gb358 hg wq1 hbox hb;have n_ := Z113;clear HB;obtain ⟨HB,BK358,GW358,GE358⟩ := n_;clear hb hbox hg) | ((with_reducible refine gate_dst (N := 4) rfl ?_);refine bE 4 #[.int .i64 a1_0,.int .i64 a1_1] 35 (h := ?_);intro gb359 hg wq2 hbox hb;have n_ := Z58;clear BK358 HB;obtain ⟨BK358,HB,BK359,GW359,GE359,NB358_359,NB359_358⟩ := n_;clear hb hbox hg) | ((with_reducible refine gate_dst (N := 5) rfl ?_);refine bE 5 #[.int .i64 a2_0,.int .i64 a2_1,.int .i64 a2_2,.int .i64 a2_3,.int .i64 a2_4,.int .i64 a2_5] 39 (h := ?_);intro gb360 hg wq3 hbox hb;have n_ := Z28;clear BK358 BK359 HB;obtain ⟨BK358,BK359,HB,BK360,GW360,GE360,NB358_360,NB360_358,NB359_360,NB360_359⟩ := n_;clear hb hbox hg;have hnbq4 := NB360_358.out;have hncq4 := NB358_360.out;have hnbq5 := NB360_359.out;have hncq5 := NB359_360.out;obtain ⟨hczq6_0,hczq6_1,hczq6_2,hczq6_3,hczq6_4,hczq6_5,hfzq6_0,hfzq6_1,hfzq6_2,hfzq6_3,hfzq6_4,hfzq6_5⟩ := cells6 BK360.out;have hnbq7 := NB358_359.out;have hncq7 := NB359_358.out;obtain ⟨hczq8_0,hczq8_1,hczq8_2,hczq8_3,hczq8_4,hczq8_5,hczq8_6,hczq8_7,hfzq8_0,hfzq8_1,hfzq8_2,hfzq8_3,hfzq8_4,hfzq8_5,hfzq8_6,hfzq8_7⟩ := cells8 BK358.out;obtain ⟨hczq9_0,hczq9_1,hfzq9_0,hfzq9_1⟩ := cells2 BK359.out) | ((with_reducible refine gate_callee (f := 84) rfl ?_);refine goesL_ (some 19) rfl rfl Try.func84 Z312 rfl #[.agg #[.int .i64 a2_2,.int .i64 a2_3],.int .i64 a0_3,.agg #[.int .i64 a1_0,.int .i64 a1_1]] rfl Z256 ?_;(with_reducible refine (impl_LeafOf.calls k a2_2 a2_3 a0_3 a1_0 a1_1 t361 false _ A4.out).mono ?_);rintro e wq10 ⟨rfl,hb⟩;refine ⟨_,rfl,?_⟩;have n_ := Z87;clear BK358 BK359 BK360 HB;obtain ⟨BK358,BK359,BK360,HB⟩ := n_;(try clear hb);(try clear hb2);(try clear hk);(try clear hi);obtain ⟨hczq11_0,hczq11_1,hczq11_2,hczq11_3,hczq11_4,hczq11_5,hfzq11_0,hfzq11_1,hfzq11_2,hfzq11_3,hfzq11_4,hfzq11_5⟩ := cells6 BK360.out;obtain ⟨hczq12_0,hczq12_1,hczq12_2,hczq12_3,hczq12_4,hczq12_5,hczq12_6,hczq12_7,hfzq12_0,hfzq12_1,hfzq12_2,hfzq12_3,hfzq12_4,hfzq12_5,hfzq12_6,hfzq12_7⟩ := cells8 BK358.out;obtain ⟨hczq13_0,hczq13_1,hfzq13_0,hfzq13_1⟩ := cells2 BK359.out) | ((with_reducible refine gate_callee (f := 84) rfl ?_);refine goesL_ (some 28) rfl rfl Try.func84 Z312 rfl #[.agg #[.int .i64 a2_4,.int .i64 a2_5],.int .i64 a0_3,.agg #[.int .i64 a1_0,.int .i64 a1_1]] rfl Z256 ?_;(with_reducible refine (impl_LeafOf.calls k a2_4 a2_5 a0_3 a1_0 a1_1 t363 t364 _ A5.out).mono ?_);rintro e wq14 ⟨rfl,hb⟩;refine ⟨_,rfl,?_⟩;have n_ := Z87;clear BK358 BK359 BK360 HB;obtain ⟨BK358,BK359,BK360,HB⟩ := n_;(try clear hb);(try clear hb2);(try clear hk);(try clear hi)))
  go_ret3
  exact ⟨Z263,Z359⟩

/-! ### slices_IndexFunc_int_int: function 110 -/
def slices_IndexFunc_int_int.l0 : Nat → List Int → Int → Int → Option (Int)
 | 0,_,_,_ => none
 | k + 1,x0,x7,x8 => if x8 < x7 then (if 0 ≤ x8 then (if x8 < (x0.length : Int) then ((impl_ConfigOk_1.f (rd x0 x8)).bind fun t366 => (if t366 = true then (some x8) else (slices_IndexFunc_int_int.l0 k x0 x7 (wrap64 (x8 + 1))))) else (none)) else (none)) else (some (-1))
def slices_IndexFunc_int_int.f (k : Nat) (l0 : List Int) (a1 : Unit) : Option (Int) := slices_IndexFunc_int_int.l0 k l0 (l0.length : Int) 0
theorem slices_IndexFunc_int_int.mono_l : ∀ k,(∀ y0 y1 y2,LeO (slices_IndexFunc_int_int.l0 k y0 y1 y2) (slices_IndexFunc_int_int.l0 (k + 1) y0 y1 y2))
 | 0 => fun _ _ _ r h => by simp [slices_IndexFunc_int_int.l0] at h
 | k + 1 => by
  have ih0 := slices_IndexFunc_int_int.mono_l k
  ·intro y0 y1 y2
   unfold slices_IndexFunc_int_int.l0
   repeat' first
   | (with_reducible exact ih0 _ _ _)
   | (with_reducible exact LeO.refl _)
   | (with_reducible exact LeO.none _)
   | (with_reducible refine LeO.ite ?_ ?_)
   | (with_reducible refine LeO.bind ?_ (fun _ => ?_))
   | exact ih0 _ _ _
   | exact LeO.none _
   | refine LeO.ite ?_ ?_
   | refine LeO.bind ?_ (fun _ => ?_)
theorem slices_IndexFunc_int_int.mono : ∀ a0 a1 k,LeO (slices_IndexFunc_int_int.f k a0 a1) (slices_IndexFunc_int_int.f (k + 1) a0 a1) := by
 intro a0 a1 k
 have ih0 := slices_IndexFunc_int_int.mono_l k
 unfold slices_IndexFunc_int_int.f
 repeat' first
   | (with_reducible exact ih0 _ _ _)
   | (with_reducible exact LeO.refl _)
   | (with_reducible exact LeO.none _)
   | (with_reducible refine LeO.ite ?_ ?_)
   | (with_reducible refine LeO.bind ?_ (fun _ => ?_))
   | exact ih0 _ _ _
   | exact LeO.none _
   | refine LeO.ite ?_ ?_
   | refine LeO.bind ?_ (fun _ => ?_)
set_option maxHeartbeats 8000000 in
set_option maxRecDepth 100000 in
theorem slices_IndexFunc_int_int.calls (k : Nat) (A0 : Option Addr) (c0 : Nat) (l0 : List Int) (a1 : Unit) (r : Int) (w : World) (hr0 : Kd.C (Kd.int .i64) w A0 l0.length l0) (hc0 : l0.length ≤ c0) (h : slices_IndexFunc_int_int.f k l0 a1 = some r) :
  Calls Try.prog 110 #[.slice A0 l0.length c0,.func (.func 85) #[] #[]] w fun e w' => e = .returned (.int .i64 r) ∧ Drawn0 w w' := by
 have HR0 := Aside0.mk hr0
 have HC0 := Aside0.mk hc0
 clear hr0 hc0
 have H := h
 clear h
 unfold slices_IndexFunc_int_int.f at H
 have H' := Aside0.mk H
 clear H
 go_enter Try.func110,Try.ntmps110
 go_wp2
 go_loopg [8] k (fun kq v8 w' => ∃ (x8_1 : Int),v8 = .int .i64 x8_1 ∧ Aside0 (slices_IndexFunc_int_int.l0 kq l0 (l0.length : Int) x8_1 = some r) ∧ Aside0 (kq ≤ k) ∧ Drawn0 w w')
 case atStart => exact ⟨(0),Z289,H',⟨Nat.le_refl _⟩,Z266⟩
 case round =>
  clear H'
  try clear c1
  try clear p2
  obtain ⟨x8_1,rfl,HA,HK1,⟨m1,rfl⟩⟩ := hrel
  cases gk with
  | zero => exact absurd HA.out (by simp [slices_IndexFunc_int_int.l0])
  | succ k1 =>
   have H := HA.out
   clear HA
   simp only [slices_IndexFunc_int_int.l0] at H
   by_cases c3 : x8_1 < (l0.length : Int)
   ·rw [if_pos c3] at H
    have c3b0 : decide (x8_1 < (l0.length : Int)) = true := decide_eq_true c3
    clear c3
    by_cases c4 : 0 ≤ x8_1
    ·rw [if_pos c4] at H
     have c4b0 : decide (0 ≤ x8_1) = true := decide_eq_true c4
     clear c4
     by_cases c5 : x8_1 < (l0.length : Int)
     ·rw [if_pos c5] at H
      have c5b0 : decide (x8_1 < (l0.length : Int)) = true := decide_eq_true c5
      clear c5
      obtain ⟨t366,A60,H⟩ := Option.bind_eq_some_iff.mp H
      have A6 := Aside0.mk A60
      clear A60
      by_cases c7 : t366 = true
      ·subst c7
       rw [if_pos rfl] at H
       obtain rfl := Option.some.inj H
       have p365 : 0 ≤ (x8_1 : Int) := of_decide_eq_true Z288
       have q365 : x8_1 < (l0.length : Int) := of_decide_eq_true Z288
       obtain ⟨ad365,e365,hx365_0⟩ := Kd.at_int HR0.out x8_1 p365 q365
       cases e365
       replace p365 := eq_true p365
       replace q365 := eq_true q365
       go_wp2_with (first | (go_at_call 85;(with_reducible refine (impl_ConfigOk_1.calls (rd l0 x8_1) true _ A6.out).mono ?_);rintro e w' ⟨rfl,⟨nd,rfl⟩⟩))
       go_ret
       exact ⟨Z289,Z266⟩
      ·replace c7 := Bool.eq_false_iff.mpr c7
       subst c7
       rw [if_neg Bool.false_ne_true] at H
       have H' := Aside0.mk H
       clear H
       have p365 : 0 ≤ (x8_1 : Int) := of_decide_eq_true Z288
       have q365 : x8_1 < (l0.length : Int) := of_decide_eq_true Z288
       obtain ⟨ad365,e365,hx365_0⟩ := Kd.at_int HR0.out x8_1 p365 q365
       cases e365
       replace p365 := eq_true p365
       replace q365 := eq_true q365
       go_wp2_with (first | (go_at_call 85;(with_reducible refine (impl_ConfigOk_1.calls (rd l0 x8_1) false _ A6.out).mono ?_);rintro e w' ⟨rfl,⟨nd,rfl⟩⟩))
       go_roundg k1
       case measure => have := HK1.out;omega
       case rel => exact ⟨(wrap64 (x8_1 + 1)),Z289,H',⟨Z310⟩,Z266⟩
     ·rw [if_neg c5] at H
      exact absurd H Z553
    ·rw [if_neg c4] at H
     exact absurd H Z553
   ·rw [if_neg c3] at H
    have c3b0 : decide (x8_1 < (l0.length : Int)) = false := decide_eq_false c3
    clear c3
    obtain rfl := Option.some.inj H
    go_wp2
    go_ret
    exact ⟨Z289,Z266⟩

/-! ### slices_ContainsFunc_int_int: function 72 -/
def slices_ContainsFunc_int_int.f (k : Nat) (l0 : List Int) (a1 : Unit) : Option (Bool) := (slices_IndexFunc_int_int.f k l0 a1).bind fun t367 => (some (decide (t367 ≥ 0)))
theorem slices_ContainsFunc_int_int.mono : ∀ a0 a1 k,LeO (slices_ContainsFunc_int_int.f k a0 a1) (slices_ContainsFunc_int_int.f (k + 1) a0 a1) := by
 intro a0 a1 k
 unfold slices_ContainsFunc_int_int.f
 repeat' first
   | (with_reducible exact slices_IndexFunc_int_int.mono _ _ _)
   | (with_reducible exact LeO.refl _)
   | (with_reducible exact LeO.none _)
   | (with_reducible refine LeO.ite ?_ ?_)
   | (with_reducible refine LeO.bind ?_ (fun _ => ?_))
   | exact slices_IndexFunc_int_int.mono _ _ _
   | exact LeO.none _
   | refine LeO.ite ?_ ?_
   | refine LeO.bind ?_ (fun _ => ?_)
set_option maxHeartbeats 8000000 in
set_option maxRecDepth 100000 in
theorem slices_ContainsFunc_int_int.calls (k : Nat) (A0 : Option Addr) (c0 : Nat) (l0 : List Int) (a1 : Unit) (r : Bool) (w : World) (hr0 : Kd.C (Kd.int .i64) w A0 l0.length l0) (hc0 : l0.length ≤ c0) (h : slices_ContainsFunc_int_int.f k l0 a1 = some r) :
  Calls Try.prog 72 #[.slice A0 l0.length c0,.func (.func 85) #[] #[]] w fun e w' => e = .returned (.bool r) ∧ Drawn0 w w' := by
 have HR0 := Aside0.mk hr0
 have HC0 := Aside0.mk hc0
 clear hr0 hc0
 have H := h
 clear h
 unfold slices_ContainsFunc_int_int.f at H
 obtain ⟨t367,A30,H⟩ := Option.bind_eq_some_iff.mp H
 have A3 := Aside0.mk A30
 clear A30
 obtain rfl := Option.some.inj H
 go_enter Try.func72,Try.ntmps72
 go_wp2_with (first | ((with_reducible refine gate_callee (f := 110) rfl ?_);refine goesL_ (some 7) rfl rfl Try.func110 Z312 rfl #[.slice A0 l0.length c0,.func (.func 85) #[] #[]] rfl Z256 ?_;(with_reducible refine (slices_IndexFunc_int_int.calls k _ _ l0 a1 t367 _ ?side1 ?side2 A3.out).mono ?_);(case side1 => repeat (first | exact HR0.out | (with_reducible refine Kd.C_alloc ?_ _) | (with_reducible refine Kd.C_drewN ?_ _) | (with_reducible refine Kd.C_drew ?_)));(case side2 => exact HC0.out);rintro e w' ⟨rfl,⟨nd,rfl⟩⟩;refine ⟨_,rfl,?_⟩))
 go_ret
 exact ⟨Z289,Z266⟩

/-! ### impl_ConfigOk: function 39 -/
def impl_ConfigOk.f (k : Nat) (a0_0 : Int) (a0_1 : Int) (a0_2 : Int) (a0_3 : Int) (a0_4 : Int) (a0_5 : Int) (a0_6 : Int) (l0_7 : List Int) : Option (Bool) := (impl_within.f a0_0 1 8).bind fun t369 => (if t369 = true then ((impl_within.f a0_1 0 4).bind fun t370 => (if t370 = true then ((impl_within.f a0_2 2 8).bind fun t371 => (if t371 = true then ((impl_within.f a0_3 1 100).bind fun t372 => (if t372 = true then ((impl_within.f a0_4 1 20).bind fun t373 => (if t373 = true then ((impl_within.f a0_6 1 1000).bind fun t374 => (if t374 = true then ((impl_within.f a0_5 1 a0_6).bind fun t375 => (if t375 = true then (if (l0_7.length : Int) ≤ 4 then ((slices_ContainsFunc_int_int.f k l0_7 ()).bind fun t376 => (some (!t376))) else (some false)) else (some false))) else (some false))) else (some false))) else (some false))) else (some false))) else (some false))) else (some false))
theorem impl_ConfigOk.mono : ∀ a0 a1 a2 a3 a4 a5 a6 a7 k,LeO (impl_ConfigOk.f k a0 a1 a2 a3 a4 a5 a6 a7) (impl_ConfigOk.f (k + 1) a0 a1 a2 a3 a4 a5 a6 a7) := by
 intro a0 a1 a2 a3 a4 a5 a6 a7 k
 unfold impl_ConfigOk.f
 repeat' first
   | (with_reducible exact slices_ContainsFunc_int_int.mono _ _ _)
   | (with_reducible exact LeO.refl _)
   | (with_reducible exact LeO.none _)
   | (with_reducible refine LeO.ite ?_ ?_)
   | (with_reducible refine LeO.bind ?_ (fun _ => ?_))
   | exact slices_ContainsFunc_int_int.mono _ _ _
   | exact LeO.none _
   | refine LeO.ite ?_ ?_
   | refine LeO.bind ?_ (fun _ => ?_)
set_option maxHeartbeats 8000000 in
set_option maxRecDepth 100000 in
theorem impl_ConfigOk.calls (k : Nat) (a0_0 : Int) (a0_1 : Int) (a0_2 : Int) (a0_3 : Int) (a0_4 : Int) (a0_5 : Int) (a0_6 : Int) (A0_7 : Option Addr) (c0_7 : Nat) (l0_7 : List Int) (r : Bool) (w : World) (hr0_7 : Kd.C (Kd.int .i64) w A0_7 l0_7.length l0_7) (hc0_7 : l0_7.length ≤ c0_7) (h : impl_ConfigOk.f k a0_0 a0_1 a0_2 a0_3 a0_4 a0_5 a0_6 l0_7 = some r) :
  Calls Try.prog 39 #[.agg #[.int .i64 a0_0,.int .i64 a0_1,.int .i64 a0_2,.int .i64 a0_3,.int .i64 a0_4,.int .i64 a0_5,.int .i64 a0_6,.slice A0_7 l0_7.length c0_7]] w fun e w' => e = .returned (.bool r) ∧ Below w.heap.size w w' := by
 have hu33 := Try.underlying33
 have HR0_7 := Aside0.mk hr0_7
 have HC0_7 := Aside0.mk hc0_7
 clear hr0_7 hc0_7
 have HB := Aside0.mk (Below.refl w.heap.size w)
 have H := h
 clear h
 unfold impl_ConfigOk.f at H
 obtain ⟨t369,A20,H⟩ := Option.bind_eq_some_iff.mp H
 have A2 := Aside0.mk A20
 clear A20
 by_cases c3 : t369 = true
 ·subst c3
  rw [if_pos rfl] at H
  obtain ⟨t370,A40,H⟩ := Option.bind_eq_some_iff.mp H
  have A4 := Aside0.mk A40
  clear A40
  by_cases c5 : t370 = true
  ·subst c5
   rw [if_pos rfl] at H
   obtain ⟨t371,A60,H⟩ := Option.bind_eq_some_iff.mp H
   have A6 := Aside0.mk A60
   clear A60
   by_cases c7 : t371 = true
   ·subst c7
    rw [if_pos rfl] at H
    obtain ⟨t372,A80,H⟩ := Option.bind_eq_some_iff.mp H
    have A8 := Aside0.mk A80
    clear A80
    by_cases c9 : t372 = true
    ·subst c9
     rw [if_pos rfl] at H
     obtain ⟨t373,A100,H⟩ := Option.bind_eq_some_iff.mp H
     have A10 := Aside0.mk A100
     clear A100
     by_cases c11 : t373 = true
     ·subst c11
      rw [if_pos rfl] at H
      obtain ⟨t374,A120,H⟩ := Option.bind_eq_some_iff.mp H
      have A12 := Aside0.mk A120
      clear A120
      by_cases c13 : t374 = true
      ·subst c13
       rw [if_pos rfl] at H
       obtain ⟨t375,A140,H⟩ := Option.bind_eq_some_iff.mp H
       have A14 := Aside0.mk A140
       clear A140
       by_cases c15 : t375 = true
       ·subst c15
        rw [if_pos rfl] at H
        by_cases c16 : (l0_7.length : Int) ≤ 4
        ·rw [if_pos c16] at H
         have c16b0 : decide ((l0_7.length : Int) ≤ 4) = true := decide_eq_true c16
         have c16b1 : decide (l0_7.length ≤ 4) = true := decide_eq_true (by omega)
         clear c16
         obtain ⟨t376,A170,H⟩ := Option.bind_eq_some_iff.mp H
         have A17 := Aside0.mk A170
         clear A170
         obtain rfl := Option.some.inj H
         go_enter Try.func39,Try.ntmps39
         go_wp2_with (first | ((with_reducible refine gate_dst (N := 1) rfl ?_);(try (refine gate_guard Z314 ?_;dsimp only));refine bE 1 #[.int .i64 a0_0,.int .i64 a0_1,.int .i64 a0_2,.int .i64 a0_3,.int .i64 a0_4,.int .i64 a0_5,.int .i64 a0_6,.slice A0_7 l0_7.length c0_7] 33 (h := ?_);intro gb368 hg wq1 hbox hb;have n_ := Z99;clear HB;obtain ⟨HB,BK368,GW368,GE368⟩ := n_;clear hb hbox hg;obtain ⟨hczq2_0,hczq2_1,hczq2_2,hczq2_3,hczq2_4,hczq2_5,hczq2_6,hczq2_7,hfzq2_0,hfzq2_1,hfzq2_2,hfzq2_3,hfzq2_4,hfzq2_5,hfzq2_6,hfzq2_7⟩ := cells8 BK368.out) | ((with_reducible refine gate_callee (f := 53) rfl ?_);refine goesL_ (some 5) rfl rfl Try.func53 Z312 rfl #[.int .i64 a0_0,.int .i64 1,.int .i64 8] rfl Z256 ?_;(with_reducible refine (impl_within.calls a0_0 1 8 true _ A2.out).mono ?_);rintro e w' ⟨rfl,⟨nd,rfl⟩⟩;refine ⟨_,rfl,?_⟩) | (go_at_call 53;(with_reducible refine (impl_within.calls a0_1 0 4 true _ A4.out).mono ?_);rintro e w' ⟨rfl,⟨nd,rfl⟩⟩) | (go_at_call 53;(with_reducible refine (impl_within.calls a0_2 2 8 true _ A6.out).mono ?_);rintro e w' ⟨rfl,⟨nd,rfl⟩⟩) | (go_at_call 53;(with_reducible refine (impl_within.calls a0_3 1 100 true _ A8.out).mono ?_);rintro e w' ⟨rfl,⟨nd,rfl⟩⟩) | (go_at_call 53;(with_reducible refine (impl_within.calls a0_4 1 20 true _ A10.out).mono ?_);rintro e w' ⟨rfl,⟨nd,rfl⟩⟩) | (go_at_call 53;(with_reducible refine (impl_within.calls a0_6 1 1000 true _ A12.out).mono ?_);rintro e w' ⟨rfl,⟨nd,rfl⟩⟩) | (go_at_call 53;(with_reducible refine (impl_within.calls a0_5 1 a0_6 true _ A14.out).mono ?_);rintro e w' ⟨rfl,⟨nd,rfl⟩⟩) | (go_at_call 72;(with_reducible refine (slices_ContainsFunc_int_int.calls k _ _ l0_7 () t376 _ ?side1 ?side2 A17.out).mono ?_);(case side1 => repeat (first | exact (Kd.C_below HR0_7.out Z241) | (with_reducible refine Kd.C_alloc ?_ _) | (with_reducible refine Kd.C_drewN ?_ _) | (with_reducible refine Kd.C_drew ?_)));(case side2 => exact Z311);rintro e w' ⟨rfl,⟨nd,rfl⟩⟩))
         go_ret
         exact ⟨Z263,Z241⟩
        ·rw [if_neg c16] at H
         have c16b0 : decide ((l0_7.length : Int) ≤ 4) = false := decide_eq_false c16
         have c16b1 : decide (l0_7.length ≤ 4) = false := decide_eq_false (by omega)
         clear c16
         obtain rfl := Option.some.inj H
         go_enter Try.func39,Try.ntmps39
         go_wp2_with (first | ((with_reducible refine gate_dst (N := 1) rfl ?_);(try (refine gate_guard Z314 ?_;dsimp only));refine bE 1 #[.int .i64 a0_0,.int .i64 a0_1,.int .i64 a0_2,.int .i64 a0_3,.int .i64 a0_4,.int .i64 a0_5,.int .i64 a0_6,.slice A0_7 l0_7.length c0_7] 33 (h := ?_);intro gb368 hg wq1 hbox hb;have n_ := Z99;clear HB;obtain ⟨HB,BK368,GW368,GE368⟩ := n_;clear hb hbox hg;obtain ⟨hczq2_0,hczq2_1,hczq2_2,hczq2_3,hczq2_4,hczq2_5,hczq2_6,hczq2_7,hfzq2_0,hfzq2_1,hfzq2_2,hfzq2_3,hfzq2_4,hfzq2_5,hfzq2_6,hfzq2_7⟩ := cells8 BK368.out) | ((with_reducible refine gate_callee (f := 53) rfl ?_);refine goesL_ (some 5) rfl rfl Try.func53 Z312 rfl #[.int .i64 a0_0,.int .i64 1,.int .i64 8] rfl Z256 ?_;(with_reducible refine (impl_within.calls a0_0 1 8 true _ A2.out).mono ?_);rintro e w' ⟨rfl,⟨nd,rfl⟩⟩;refine ⟨_,rfl,?_⟩) | (go_at_call 53;(with_reducible refine (impl_within.calls a0_1 0 4 true _ A4.out).mono ?_);rintro e w' ⟨rfl,⟨nd,rfl⟩⟩) | (go_at_call 53;(with_reducible refine (impl_within.calls a0_2 2 8 true _ A6.out).mono ?_);rintro e w' ⟨rfl,⟨nd,rfl⟩⟩) | (go_at_call 53;(with_reducible refine (impl_within.calls a0_3 1 100 true _ A8.out).mono ?_);rintro e w' ⟨rfl,⟨nd,rfl⟩⟩) | (go_at_call 53;(with_reducible refine (impl_within.calls a0_4 1 20 true _ A10.out).mono ?_);rintro e w' ⟨rfl,⟨nd,rfl⟩⟩) | (go_at_call 53;(with_reducible refine (impl_within.calls a0_6 1 1000 true _ A12.out).mono ?_);rintro e w' ⟨rfl,⟨nd,rfl⟩⟩) | (go_at_call 53;(with_reducible refine (impl_within.calls a0_5 1 a0_6 true _ A14.out).mono ?_);rintro e w' ⟨rfl,⟨nd,rfl⟩⟩))
         go_ret
         exact ⟨Z263,Z241⟩
       ·replace c15 := Bool.eq_false_iff.mpr c15
        subst c15
        rw [if_neg Bool.false_ne_true] at H
        obtain rfl := Option.some.inj H
        go_enter Try.func39,Try.ntmps39
        go_wp2_with (first | ((with_reducible refine gate_dst (N := 1) rfl ?_);(try (refine gate_guard Z314 ?_;dsimp only));refine bE 1 #[.int .i64 a0_0,.int .i64 a0_1,.int .i64 a0_2,.int .i64 a0_3,.int .i64 a0_4,.int .i64 a0_5,.int .i64 a0_6,.slice A0_7 l0_7.length c0_7] 33 (h := ?_);intro gb368 hg wq1 hbox hb;have n_ := Z99;clear HB;obtain ⟨HB,BK368,GW368,GE368⟩ := n_;clear hb hbox hg;obtain ⟨hczq2_0,hczq2_1,hczq2_2,hczq2_3,hczq2_4,hczq2_5,hczq2_6,hczq2_7,hfzq2_0,hfzq2_1,hfzq2_2,hfzq2_3,hfzq2_4,hfzq2_5,hfzq2_6,hfzq2_7⟩ := cells8 BK368.out) | ((with_reducible refine gate_callee (f := 53) rfl ?_);refine goesL_ (some 5) rfl rfl Try.func53 Z312 rfl #[.int .i64 a0_0,.int .i64 1,.int .i64 8] rfl Z256 ?_;(with_reducible refine (impl_within.calls a0_0 1 8 true _ A2.out).mono ?_);rintro e w' ⟨rfl,⟨nd,rfl⟩⟩;refine ⟨_,rfl,?_⟩) | (go_at_call 53;(with_reducible refine (impl_within.calls a0_1 0 4 true _ A4.out).mono ?_);rintro e w' ⟨rfl,⟨nd,rfl⟩⟩) | (go_at_call 53;(with_reducible refine (impl_within.calls a0_2 2 8 true _ A6.out).mono ?_);rintro e w' ⟨rfl,⟨nd,rfl⟩⟩) | (go_at_call 53;(with_reducible refine (impl_within.calls a0_3 1 100 true _ A8.out).mono ?_);rintro e w' ⟨rfl,⟨nd,rfl⟩⟩) | (go_at_call 53;(with_reducible refine (impl_within.calls a0_4 1 20 true _ A10.out).mono ?_);rintro e w' ⟨rfl,⟨nd,rfl⟩⟩) | (go_at_call 53;(with_reducible refine (impl_within.calls a0_6 1 1000 true _ A12.out).mono ?_);rintro e w' ⟨rfl,⟨nd,rfl⟩⟩) | (go_at_call 53;(with_reducible refine (impl_within.calls a0_5 1 a0_6 false _ A14.out).mono ?_);rintro e w' ⟨rfl,⟨nd,rfl⟩⟩))
        go_ret
        exact ⟨Z263,Z241⟩
      ·replace c13 := Bool.eq_false_iff.mpr c13
       subst c13
       rw [if_neg Bool.false_ne_true] at H
       obtain rfl := Option.some.inj H
       go_enter Try.func39,Try.ntmps39
       go_wp2_with (first | ((with_reducible refine gate_dst (N := 1) rfl ?_);(try (refine gate_guard Z314 ?_;dsimp only));refine bE 1 #[.int .i64 a0_0,.int .i64 a0_1,.int .i64 a0_2,.int .i64 a0_3,.int .i64 a0_4,.int .i64 a0_5,.int .i64 a0_6,.slice A0_7 l0_7.length c0_7] 33 (h := ?_);intro gb368 hg wq1 hbox hb;have n_ := Z99;clear HB;obtain ⟨HB,BK368,GW368,GE368⟩ := n_;clear hb hbox hg;obtain ⟨hczq2_0,hczq2_1,hczq2_2,hczq2_3,hczq2_4,hczq2_5,hczq2_6,hczq2_7,hfzq2_0,hfzq2_1,hfzq2_2,hfzq2_3,hfzq2_4,hfzq2_5,hfzq2_6,hfzq2_7⟩ := cells8 BK368.out) | ((with_reducible refine gate_callee (f := 53) rfl ?_);refine goesL_ (some 5) rfl rfl Try.func53 Z312 rfl #[.int .i64 a0_0,.int .i64 1,.int .i64 8] rfl Z256 ?_;(with_reducible refine (impl_within.calls a0_0 1 8 true _ A2.out).mono ?_);rintro e w' ⟨rfl,⟨nd,rfl⟩⟩;refine ⟨_,rfl,?_⟩) | (go_at_call 53;(with_reducible refine (impl_within.calls a0_1 0 4 true _ A4.out).mono ?_);rintro e w' ⟨rfl,⟨nd,rfl⟩⟩) | (go_at_call 53;(with_reducible refine (impl_within.calls a0_2 2 8 true _ A6.out).mono ?_);rintro e w' ⟨rfl,⟨nd,rfl⟩⟩) | (go_at_call 53;(with_reducible refine (impl_within.calls a0_3 1 100 true _ A8.out).mono ?_);rintro e w' ⟨rfl,⟨nd,rfl⟩⟩) | (go_at_call 53;(with_reducible refine (impl_within.calls a0_4 1 20 true _ A10.out).mono ?_);rintro e w' ⟨rfl,⟨nd,rfl⟩⟩) | (go_at_call 53;(with_reducible refine (impl_within.calls a0_6 1 1000 false _ A12.out).mono ?_);rintro e w' ⟨rfl,⟨nd,rfl⟩⟩))
       go_ret
       exact ⟨Z263,Z241⟩
     ·replace c11 := Bool.eq_false_iff.mpr c11
      subst c11
      rw [if_neg Bool.false_ne_true] at H
      obtain rfl := Option.some.inj H
      go_enter Try.func39,Try.ntmps39
      go_wp2_with (first | ((with_reducible refine gate_dst (N := 1) rfl ?_);(try (refine gate_guard Z314 ?_;dsimp only));refine bE 1 #[.int .i64 a0_0,.int .i64 a0_1,.int .i64 a0_2,.int .i64 a0_3,.int .i64 a0_4,.int .i64 a0_5,.int .i64 a0_6,.slice A0_7 l0_7.length c0_7] 33 (h := ?_);intro gb368 hg wq1 hbox hb;have n_ := Z99;clear HB;obtain ⟨HB,BK368,GW368,GE368⟩ := n_;clear hb hbox hg;obtain ⟨hczq2_0,hczq2_1,hczq2_2,hczq2_3,hczq2_4,hczq2_5,hczq2_6,hczq2_7,hfzq2_0,hfzq2_1,hfzq2_2,hfzq2_3,hfzq2_4,hfzq2_5,hfzq2_6,hfzq2_7⟩ := cells8 BK368.out) | ((with_reducible refine gate_callee (f := 53) rfl ?_);refine goesL_ (some 5) rfl rfl Try.func53 Z312 rfl #[.int .i64 a0_0,.int .i64 1,.int .i64 8] rfl Z256 ?_;(with_reducible refine (impl_within.calls a0_0 1 8 true _ A2.out).mono ?_);rintro e w' ⟨rfl,⟨nd,rfl⟩⟩;refine ⟨_,rfl,?_⟩) | (go_at_call 53;(with_reducible refine (impl_within.calls a0_1 0 4 true _ A4.out).mono ?_);rintro e w' ⟨rfl,⟨nd,rfl⟩⟩) | (go_at_call 53;(with_reducible refine (impl_within.calls a0_2 2 8 true _ A6.out).mono ?_);rintro e w' ⟨rfl,⟨nd,rfl⟩⟩) | (go_at_call 53;(with_reducible refine (impl_within.calls a0_3 1 100 true _ A8.out).mono ?_);rintro e w' ⟨rfl,⟨nd,rfl⟩⟩) | (go_at_call 53;(with_reducible refine (impl_within.calls a0_4 1 20 false _ A10.out).mono ?_);rintro e w' ⟨rfl,⟨nd,rfl⟩⟩))
      go_ret
      exact ⟨Z263,Z241⟩
    ·replace c9 := Bool.eq_false_iff.mpr c9
     subst c9
     rw [if_neg Bool.false_ne_true] at H
     obtain rfl := Option.some.inj H
     go_enter Try.func39,Try.ntmps39
     go_wp2_with (first | ((with_reducible refine gate_dst (N := 1) rfl ?_);(try (refine gate_guard Z314 ?_;dsimp only));refine bE 1 #[.int .i64 a0_0,.int .i64 a0_1,.int .i64 a0_2,.int .i64 a0_3,.int .i64 a0_4,.int .i64 a0_5,.int .i64 a0_6,.slice A0_7 l0_7.length c0_7] 33 (h := ?_);intro gb368 hg wq1 hbox hb;have n_ := Z99;clear HB;obtain ⟨HB,BK368,GW368,GE368⟩ := n_;clear hb hbox hg;obtain ⟨hczq2_0,hczq2_1,hczq2_2,hczq2_3,hczq2_4,hczq2_5,hczq2_6,hczq2_7,hfzq2_0,hfzq2_1,hfzq2_2,hfzq2_3,hfzq2_4,hfzq2_5,hfzq2_6,hfzq2_7⟩ := cells8 BK368.out) | ((with_reducible refine gate_callee (f := 53) rfl ?_);refine goesL_ (some 5) rfl rfl Try.func53 Z312 rfl #[.int .i64 a0_0,.int .i64 1,.int .i64 8] rfl Z256 ?_;(with_reducible refine (impl_within.calls a0_0 1 8 true _ A2.out).mono ?_);rintro e w' ⟨rfl,⟨nd,rfl⟩⟩;refine ⟨_,rfl,?_⟩) | (go_at_call 53;(with_reducible refine (impl_within.calls a0_1 0 4 true _ A4.out).mono ?_);rintro e w' ⟨rfl,⟨nd,rfl⟩⟩) | (go_at_call 53;(with_reducible refine (impl_within.calls a0_2 2 8 true _ A6.out).mono ?_);rintro e w' ⟨rfl,⟨nd,rfl⟩⟩) | (go_at_call 53;(with_reducible refine (impl_within.calls a0_3 1 100 false _ A8.out).mono ?_);rintro e w' ⟨rfl,⟨nd,rfl⟩⟩))
     go_ret
     exact ⟨Z263,Z241⟩
   ·replace c7 := Bool.eq_false_iff.mpr c7
    subst c7
    rw [if_neg Bool.false_ne_true] at H
    obtain rfl := Option.some.inj H
    go_enter Try.func39,Try.ntmps39
    go_wp2_with (first | ((with_reducible refine gate_dst (N := 1) rfl ?_);(try (refine gate_guard Z314 ?_;dsimp only));refine bE 1 #[.int .i64 a0_0,.int .i64 a0_1,.int .i64 a0_2,.int .i64 a0_3,.int .i64 a0_4,.int .i64 a0_5,.int .i64 a0_6,.slice A0_7 l0_7.length c0_7] 33 (h := ?_);intro gb368 hg wq1 hbox hb;have n_ := Z99;clear HB;obtain ⟨HB,BK368,GW368,GE368⟩ := n_;clear hb hbox hg;obtain ⟨hczq2_0,hczq2_1,hczq2_2,hczq2_3,hczq2_4,hczq2_5,hczq2_6,hczq2_7,hfzq2_0,hfzq2_1,hfzq2_2,hfzq2_3,hfzq2_4,hfzq2_5,hfzq2_6,hfzq2_7⟩ := cells8 BK368.out) | ((with_reducible refine gate_callee (f := 53) rfl ?_);refine goesL_ (some 5) rfl rfl Try.func53 Z312 rfl #[.int .i64 a0_0,.int .i64 1,.int .i64 8] rfl Z256 ?_;(with_reducible refine (impl_within.calls a0_0 1 8 true _ A2.out).mono ?_);rintro e w' ⟨rfl,⟨nd,rfl⟩⟩;refine ⟨_,rfl,?_⟩) | (go_at_call 53;(with_reducible refine (impl_within.calls a0_1 0 4 true _ A4.out).mono ?_);rintro e w' ⟨rfl,⟨nd,rfl⟩⟩) | (go_at_call 53;(with_reducible refine (impl_within.calls a0_2 2 8 false _ A6.out).mono ?_);rintro e w' ⟨rfl,⟨nd,rfl⟩⟩))
    go_ret
    exact ⟨Z263,Z241⟩
  ·replace c5 := Bool.eq_false_iff.mpr c5
   subst c5
   rw [if_neg Bool.false_ne_true] at H
   obtain rfl := Option.some.inj H
   go_enter Try.func39,Try.ntmps39
   go_wp2_with (first | ((with_reducible refine gate_dst (N := 1) rfl ?_);(try (refine gate_guard Z314 ?_;dsimp only));refine bE 1 #[.int .i64 a0_0,.int .i64 a0_1,.int .i64 a0_2,.int .i64 a0_3,.int .i64 a0_4,.int .i64 a0_5,.int .i64 a0_6,.slice A0_7 l0_7.length c0_7] 33 (h := ?_);intro gb368 hg wq1 hbox hb;have n_ := Z99;clear HB;obtain ⟨HB,BK368,GW368,GE368⟩ := n_;clear hb hbox hg;obtain ⟨hczq2_0,hczq2_1,hczq2_2,hczq2_3,hczq2_4,hczq2_5,hczq2_6,hczq2_7,hfzq2_0,hfzq2_1,hfzq2_2,hfzq2_3,hfzq2_4,hfzq2_5,hfzq2_6,hfzq2_7⟩ := cells8 BK368.out) | ((with_reducible refine gate_callee (f := 53) rfl ?_);refine goesL_ (some 5) rfl rfl Try.func53 Z312 rfl #[.int .i64 a0_0,.int .i64 1,.int .i64 8] rfl Z256 ?_;(with_reducible refine (impl_within.calls a0_0 1 8 true _ A2.out).mono ?_);rintro e w' ⟨rfl,⟨nd,rfl⟩⟩;refine ⟨_,rfl,?_⟩) | (go_at_call 53;(with_reducible refine (impl_within.calls a0_1 0 4 false _ A4.out).mono ?_);rintro e w' ⟨rfl,⟨nd,rfl⟩⟩))
   go_ret
   exact ⟨Z263,Z241⟩
 ·replace c3 := Bool.eq_false_iff.mpr c3
  subst c3
  rw [if_neg Bool.false_ne_true] at H
  obtain rfl := Option.some.inj H
  go_enter Try.func39,Try.ntmps39
  go_wp2_with (first | ((with_reducible refine gate_dst (N := 1) rfl ?_);(try (refine gate_guard Z314 ?_;dsimp only));refine bE 1 #[.int .i64 a0_0,.int .i64 a0_1,.int .i64 a0_2,.int .i64 a0_3,.int .i64 a0_4,.int .i64 a0_5,.int .i64 a0_6,.slice A0_7 l0_7.length c0_7] 33 (h := ?_);intro gb368 hg wq1 hbox hb;have n_ := Z99;clear HB;obtain ⟨HB,BK368,GW368,GE368⟩ := n_;clear hb hbox hg;obtain ⟨hczq2_0,hczq2_1,hczq2_2,hczq2_3,hczq2_4,hczq2_5,hczq2_6,hczq2_7,hfzq2_0,hfzq2_1,hfzq2_2,hfzq2_3,hfzq2_4,hfzq2_5,hfzq2_6,hfzq2_7⟩ := cells8 BK368.out) | ((with_reducible refine gate_callee (f := 53) rfl ?_);refine goesL_ (some 5) rfl rfl Try.func53 Z312 rfl #[.int .i64 a0_0,.int .i64 1,.int .i64 8] rfl Z256 ?_;(with_reducible refine (impl_within.calls a0_0 1 8 false _ A2.out).mono ?_);rintro e w' ⟨rfl,⟨nd,rfl⟩⟩;refine ⟨_,rfl,?_⟩))
  go_ret
  exact ⟨Z263,Z241⟩

/-! ### impl_Agrees: function 40 -/
def impl_Agrees.f (a0 : Int) (a1 : Int) (a2 : Int) : Option (Bool) := if a0 = 1 then (some (decide (a1 ≤ a2))) else (if a0 = (-1) then (some (decide (a1 ≥ a2))) else (some true))
set_option maxHeartbeats 8000000 in
set_option maxRecDepth 100000 in
theorem impl_Agrees.calls (a0 : Int) (a1 : Int) (a2 : Int) (r : Bool) (w : World) (h : impl_Agrees.f a0 a1 a2 = some r) :
  Calls Try.prog 40 #[.int .i64 a0,.int .i64 a1,.int .i64 a2] w fun e w' => e = .returned (.bool r) ∧ Drawn0 w w' := by
 have H := h
 clear h
 unfold impl_Agrees.f at H
 by_cases c4 : a0 = 1
 ·rw [if_pos c4] at H
  have c4b0 : (a0 == 1) = true := beq_iff_eq.mpr c4
  have c4b1 : (a0 != 1) = false := bne_eq_false_iff_eq.mpr c4
  clear c4
  obtain rfl := Option.some.inj H
  go_enter Try.func40,Try.ntmps40
  go_wp2
  go_ret
  exact ⟨Z289,Z266⟩
 ·rw [if_neg c4] at H
  have c4b0 : (a0 == 1) = false := beq_eq_false_iff_ne.mpr c4
  have c4b1 : (a0 != 1) = true := bne_iff_ne.mpr c4
  by_cases c5 : a0 = (-1)
  ·rw [if_pos c5] at H
   have c5b0 : (a0 == (-1)) = true := beq_iff_eq.mpr c5
   have c5b1 : (a0 != (-1)) = false := bne_eq_false_iff_eq.mpr c5
   clear c5
   obtain rfl := Option.some.inj H
   go_enter Try.func40,Try.ntmps40
   go_wp2
   go_ret
   exact ⟨Z289,Z266⟩
  ·rw [if_neg c5] at H
   have c5b0 : (a0 == (-1)) = false := beq_eq_false_iff_ne.mpr c5
   have c5b1 : (a0 != (-1)) = true := bne_iff_ne.mpr c5
   obtain rfl := Option.some.inj H
   go_enter Try.func40,Try.ntmps40
   go_wp2
   go_ret
   exact ⟨Z289,Z266⟩

/-! ### impl_SignFor: function 41 -/
def impl_SignFor.f (a0_0 : Int) (a0_1 : Int) (a0_2 : Int) (a0_3 : Int) (a0_4 : Int) (a0_5 : Int) (a0_6 : Int) (l0_7 : List Int) (a1 : Int) : Option (Int) := (impl_within.f a1 0 (wrap64 ((l0_7.length : Int) - 1))).bind fun t378 => (if t378 = true then (if 0 ≤ a1 then (if a1 < (l0_7.length : Int) then (some (rd l0_7 a1)) else (none)) else (none)) else (some 0))
set_option maxHeartbeats 8000000 in
set_option maxRecDepth 100000 in
theorem impl_SignFor.calls (a0_0 : Int) (a0_1 : Int) (a0_2 : Int) (a0_3 : Int) (a0_4 : Int) (a0_5 : Int) (a0_6 : Int) (A0_7 : Option Addr) (c0_7 : Nat) (l0_7 : List Int) (a1 : Int) (r : Int) (w : World) (hr0_7 : Kd.C (Kd.int .i64) w A0_7 l0_7.length l0_7) (hc0_7 : l0_7.length ≤ c0_7) (h : impl_SignFor.f a0_0 a0_1 a0_2 a0_3 a0_4 a0_5 a0_6 l0_7 a1 = some r) :
  Calls Try.prog 41 #[.agg #[.int .i64 a0_0,.int .i64 a0_1,.int .i64 a0_2,.int .i64 a0_3,.int .i64 a0_4,.int .i64 a0_5,.int .i64 a0_6,.slice A0_7 l0_7.length c0_7],.int .i64 a1] w fun e w' => e = .returned (.int .i64 r) ∧ Below w.heap.size w w' := by
 have hu33 := Try.underlying33
 have HR0_7 := Aside0.mk hr0_7
 have HC0_7 := Aside0.mk hc0_7
 clear hr0_7 hc0_7
 have HB := Aside0.mk (Below.refl w.heap.size w)
 have H := h
 clear h
 unfold impl_SignFor.f at H
 obtain ⟨t378,A30,H⟩ := Option.bind_eq_some_iff.mp H
 have A3 := Aside0.mk A30
 clear A30
 by_cases c4 : t378 = true
 ·subst c4
  rw [if_pos rfl] at H
  by_cases c5 : 0 ≤ a1
  ·rw [if_pos c5] at H
   have c5b0 : decide (0 ≤ a1) = true := decide_eq_true c5
   clear c5
   by_cases c6 : a1 < (l0_7.length : Int)
   ·rw [if_pos c6] at H
    have c6b0 : decide (a1 < (l0_7.length : Int)) = true := decide_eq_true c6
    clear c6
    obtain rfl := Option.some.inj H
    go_enter Try.func41,Try.ntmps41
    go_wp2_with (first | ((with_reducible refine gate_dst (N := 2) rfl ?_);refine bE 2 #[.int .i64 a0_0,.int .i64 a0_1,.int .i64 a0_2,.int .i64 a0_3,.int .i64 a0_4,.int .i64 a0_5,.int .i64 a0_6,.slice A0_7 l0_7.length c0_7] 33 (h := ?_);intro gb377 hg wq1 hbox hb;have n_ := Z126;clear HB;obtain ⟨HB,BK377,GW377,GE377⟩ := n_;clear hb hbox hg;obtain ⟨hczq2_0,hczq2_1,hczq2_2,hczq2_3,hczq2_4,hczq2_5,hczq2_6,hczq2_7,hfzq2_0,hfzq2_1,hfzq2_2,hfzq2_3,hfzq2_4,hfzq2_5,hfzq2_6,hfzq2_7⟩ := cells8 BK377.out) | ((with_reducible refine gate_callee (f := 53) rfl ?_);refine goesL_ (some 10) rfl rfl Try.func53 Z312 rfl #[.int .i64 a1,.int .i64 0,.int .i64 (wrap64 ((l0_7.length : Int) - 1))] rfl Z256 ?_;(with_reducible refine (impl_within.calls a1 0 (wrap64 ((l0_7.length : Int) - 1)) true _ A3.out).mono ?_);rintro e w' ⟨rfl,⟨nd,rfl⟩⟩;refine ⟨_,rfl,?_⟩;have pq3 : 0 ≤ (a1 : Int) := of_decide_eq_true Z288;have qq3 : a1 < (l0_7.length : Int) := of_decide_eq_true Z288;obtain ⟨adq3,eq3,hxq3_0⟩ := Kd.at_int HR0_7.out a1 pq3 qq3;cases eq3;replace hxq3_0 := (HB.out.cell (World.block_lt_of_cell? w _ hxq3_0)).trans hxq3_0;replace pq3 := eq_true pq3;replace qq3 := eq_true qq3))
    go_ret
    exact ⟨Z263,Z248⟩
   ·rw [if_neg c6] at H
    exact absurd H Z553
  ·rw [if_neg c5] at H
   exact absurd H Z553
 ·replace c4 := Bool.eq_false_iff.mpr c4
  subst c4
  rw [if_neg Bool.false_ne_true] at H
  obtain rfl := Option.some.inj H
  go_enter Try.func41,Try.ntmps41
  go_wp2_with (first | ((with_reducible refine gate_dst (N := 2) rfl ?_);refine bE 2 #[.int .i64 a0_0,.int .i64 a0_1,.int .i64 a0_2,.int .i64 a0_3,.int .i64 a0_4,.int .i64 a0_5,.int .i64 a0_6,.slice A0_7 l0_7.length c0_7] 33 (h := ?_);intro gb377 hg wq1 hbox hb;have n_ := Z126;clear HB;obtain ⟨HB,BK377,GW377,GE377⟩ := n_;clear hb hbox hg;obtain ⟨hczq2_0,hczq2_1,hczq2_2,hczq2_3,hczq2_4,hczq2_5,hczq2_6,hczq2_7,hfzq2_0,hfzq2_1,hfzq2_2,hfzq2_3,hfzq2_4,hfzq2_5,hfzq2_6,hfzq2_7⟩ := cells8 BK377.out) | ((with_reducible refine gate_callee (f := 53) rfl ?_);refine goesL_ (some 10) rfl rfl Try.func53 Z312 rfl #[.int .i64 a1,.int .i64 0,.int .i64 (wrap64 ((l0_7.length : Int) - 1))] rfl Z256 ?_;(with_reducible refine (impl_within.calls a1 0 (wrap64 ((l0_7.length : Int) - 1)) false _ A3.out).mono ?_);rintro e w' ⟨rfl,⟨nd,rfl⟩⟩;refine ⟨_,rfl,?_⟩))
  go_ret
  exact ⟨Z263,Z248⟩

/-! ### impl_WideOk: function 161 -/
def impl_WideOk.f (a0_0 : Bool) (a0_1 : Int) (a0_2 : Int) : Option (Bool) := if a0_1 < 9223372036854775808 then (if a0_0 = true then (if a0_1 > 0 then (some true) else (some (decide (a0_2 > 0)))) else (some true)) else (some false)
set_option maxHeartbeats 8000000 in
set_option maxRecDepth 100000 in
theorem impl_WideOk.calls (a0_0 : Bool) (a0_1 : Int) (a0_2 : Int) (r : Bool) (w : World) (h : impl_WideOk.f a0_0 a0_1 a0_2 = some r) :
  Calls Try.prog 161 #[.agg #[.bool a0_0,.int .u64 a0_1,.int .u64 a0_2]] w fun e w' => e = .returned (.bool r) ∧ Below w.heap.size w w' := by
 have hu100 := Try.underlying100
 have HB := Aside0.mk (Below.refl w.heap.size w)
 have H := h
 clear h
 unfold impl_WideOk.f at H
 by_cases c2 : a0_1 < 9223372036854775808
 ·rw [if_pos c2] at H
  have c2b0 : decide (a0_1 < 9223372036854775808) = true := decide_eq_true c2
  clear c2
  by_cases c3 : a0_0 = true
  ·subst c3
   rw [if_pos rfl] at H
   by_cases c4 : a0_1 > 0
   ·rw [if_pos c4] at H
    have c4b0 : decide (0 < a0_1) = true := decide_eq_true c4
    clear c4
    obtain rfl := Option.some.inj H
    go_enter Try.func161,Try.ntmps161
    go_wp2_with (first | ((with_reducible refine gate_dst (N := 1) rfl ?_);refine bE 1 #[.bool true,.int .u64 a0_1,.int .u64 a0_2] 100 (h := ?_);intro gb380 hg wq1 hbox hb;have n_ := Z106;clear HB;obtain ⟨HB,BK380,GW380,GE380⟩ := n_;clear hb hbox hg;obtain ⟨hczq2_0,hczq2_1,hczq2_2,hfzq2_0,hfzq2_1,hfzq2_2⟩ := cells3 BK380.out))
    go_ret
    exact ⟨Z263,Z242⟩
   ·rw [if_neg c4] at H
    have c4b0 : decide (0 < a0_1) = false := decide_eq_false c4
    clear c4
    obtain rfl := Option.some.inj H
    go_enter Try.func161,Try.ntmps161
    go_wp2_with (first | ((with_reducible refine gate_dst (N := 1) rfl ?_);refine bE 1 #[.bool true,.int .u64 a0_1,.int .u64 a0_2] 100 (h := ?_);intro gb380 hg wq1 hbox hb;have n_ := Z106;clear HB;obtain ⟨HB,BK380,GW380,GE380⟩ := n_;clear hb hbox hg;obtain ⟨hczq2_0,hczq2_1,hczq2_2,hfzq2_0,hfzq2_1,hfzq2_2⟩ := cells3 BK380.out))
    go_ret
    exact ⟨Z263,Z242⟩
  ·replace c3 := Bool.eq_false_iff.mpr c3
   subst c3
   rw [if_neg Bool.false_ne_true] at H
   obtain rfl := Option.some.inj H
   go_enter Try.func161,Try.ntmps161
   go_wp2_with (first | ((with_reducible refine gate_dst (N := 1) rfl ?_);refine bE 1 #[.bool false,.int .u64 a0_1,.int .u64 a0_2] 100 (h := ?_);intro gb380 hg wq1 hbox hb;have n_ := Z106;clear HB;obtain ⟨HB,BK380,GW380,GE380⟩ := n_;clear hb hbox hg;obtain ⟨hczq2_0,hczq2_1,hczq2_2,hfzq2_0,hfzq2_1,hfzq2_2⟩ := cells3 BK380.out))
   go_ret
   exact ⟨Z263,Z242⟩
 ·rw [if_neg c2] at H
  have c2b0 : decide (a0_1 < 9223372036854775808) = false := decide_eq_false c2
  clear c2
  obtain rfl := Option.some.inj H
  go_enter Try.func161,Try.ntmps161
  go_wp2_with (first | ((with_reducible refine gate_dst (N := 1) rfl ?_);refine bE 1 #[.bool a0_0,.int .u64 a0_1,.int .u64 a0_2] 100 (h := ?_);intro gb380 hg wq1 hbox hb;have n_ := Z106;clear HB;obtain ⟨HB,BK380,GW380,GE380⟩ := n_;clear hb hbox hg;obtain ⟨hczq2_0,hczq2_1,hczq2_2,hfzq2_0,hfzq2_1,hfzq2_2⟩ := cells3 BK380.out))
  go_ret
  exact ⟨Z263,Z242⟩

/-! ### impl_FracOk: function 151 -/
def impl_FracOk.f (a0_0 : Bool) (a0_1 : Int) (a0_2 : Int) (a0_3 : Int) : Option (Bool) := (impl_WideOk.f a0_0 a0_1 a0_2).bind fun t382 => (if t382 = true then ((impl_within.f a0_3 1 1000000).bind fun t383 => (some t383)) else (some false))
set_option maxHeartbeats 8000000 in
set_option maxRecDepth 100000 in
theorem impl_FracOk.calls (a0_0 : Bool) (a0_1 : Int) (a0_2 : Int) (a0_3 : Int) (r : Bool) (w : World) (h : impl_FracOk.f a0_0 a0_1 a0_2 a0_3 = some r) :
  Calls Try.prog 151 #[.agg #[.bool a0_0,.int .u64 a0_1,.int .u64 a0_2,.int .i64 a0_3]] w fun e w' => e = .returned (.bool r) ∧ Below w.heap.size w w' := by
 have hu102 := Try.underlying102
 have hu100 := Try.underlying100
 have HB := Aside0.mk (Below.refl w.heap.size w)
 have H := h
 clear h
 unfold impl_FracOk.f at H
 obtain ⟨t382,A20,H⟩ := Option.bind_eq_some_iff.mp H
 have A2 := Aside0.mk A20
 clear A20
 by_cases c3 : t382 = true
 ·subst c3
  rw [if_pos rfl] at H
  obtain ⟨t383,A40,H⟩ := Option.bind_eq_some_iff.mp H
  have A4 := Aside0.mk A40
  clear A40
  obtain rfl := Option.some.inj H
  go_enter Try.func151,Try.ntmps151
  go_wp2_with (first | ((with_reducible refine gate_dst (N := 1) rfl ?_);refine bE 1 #[.bool a0_0,.int .u64 a0_1,.int .u64 a0_2,.int .i64 a0_3] 102 (h := ?_);intro gb381 hg wq1 hbox hb;have n_ := Z125;clear HB;obtain ⟨HB,BK381,GW381,GE381⟩ := n_;clear hb hbox hg;obtain ⟨hczq2_0,hczq2_1,hczq2_2,hczq2_3,hfzq2_0,hfzq2_1,hfzq2_2,hfzq2_3⟩ := cells4 BK381.out) | ((with_reducible refine gate_callee (f := 161) rfl ?_);refine goesL_ (some 5) rfl rfl Try.func161 Z312 rfl #[.agg #[.bool a0_0,.int .u64 a0_1,.int .u64 a0_2]] rfl Z256 ?_;(with_reducible refine (impl_WideOk.calls a0_0 a0_1 a0_2 true _ A2.out).mono ?_);rintro e wq3 ⟨rfl,hb⟩;refine ⟨_,rfl,?_⟩;have n_ := Z149;clear BK381 HB;obtain ⟨BK381,HB⟩ := n_;(try clear hb);(try clear hb2);(try clear hk);(try clear hi);obtain ⟨hczq4_0,hczq4_1,hczq4_2,hczq4_3,hfzq4_0,hfzq4_1,hfzq4_2,hfzq4_3⟩ := cells4 BK381.out) | (go_at_call 53;(with_reducible refine (impl_within.calls a0_3 1 1000000 t383 _ A4.out).mono ?_);rintro e w' ⟨rfl,⟨nd,rfl⟩⟩))
  go_ret
  exact ⟨Z263,Z459⟩
 ·replace c3 := Bool.eq_false_iff.mpr c3
  subst c3
  rw [if_neg Bool.false_ne_true] at H
  obtain rfl := Option.some.inj H
  go_enter Try.func151,Try.ntmps151
  go_wp2_with (first | ((with_reducible refine gate_dst (N := 1) rfl ?_);refine bE 1 #[.bool a0_0,.int .u64 a0_1,.int .u64 a0_2,.int .i64 a0_3] 102 (h := ?_);intro gb381 hg wq1 hbox hb;have n_ := Z125;clear HB;obtain ⟨HB,BK381,GW381,GE381⟩ := n_;clear hb hbox hg;obtain ⟨hczq2_0,hczq2_1,hczq2_2,hczq2_3,hfzq2_0,hfzq2_1,hfzq2_2,hfzq2_3⟩ := cells4 BK381.out) | ((with_reducible refine gate_callee (f := 161) rfl ?_);refine goesL_ (some 5) rfl rfl Try.func161 Z312 rfl #[.agg #[.bool a0_0,.int .u64 a0_1,.int .u64 a0_2]] rfl Z256 ?_;(with_reducible refine (impl_WideOk.calls a0_0 a0_1 a0_2 false _ A2.out).mono ?_);rintro e wq3 ⟨rfl,hb⟩;refine ⟨_,rfl,?_⟩;have n_ := Z149;clear BK381 HB;obtain ⟨BK381,HB⟩ := n_;(try clear hb);(try clear hb2);(try clear hk);(try clear hi)))
  go_ret
  exact ⟨Z263,Z459⟩

/-! ### impl_fracOf: function 148 -/
def impl_fracOf.f (a0_0 : Bool) (a0_1 : Int) (a0_2 : Int) (a1 : Int) : Option (Bool × Int × Int × Int × Bool) := (impl_FracOk.f a0_0 a0_1 a0_2 a1).bind fun t387 => (if t387 = true then (some (a0_0,a0_1,a0_2,a1,true)) else (some (false,0,0,0,false)))
set_option maxHeartbeats 8000000 in
set_option maxRecDepth 100000 in
theorem impl_fracOf.calls (a0_0 : Bool) (a0_1 : Int) (a0_2 : Int) (a1 : Int) (r1 : Bool) (r2 : Int) (r3 : Int) (r4 : Int) (r5 : Bool) (w : World) (h : impl_fracOf.f a0_0 a0_1 a0_2 a1 = some (r1,r2,r3,r4,r5)) :
  Calls Try.prog 148 #[.agg #[.bool a0_0,.int .u64 a0_1,.int .u64 a0_2],.int .i64 a1] w fun e w' => e = .returned (.tuple #[.agg #[.bool r1,.int .u64 r2,.int .u64 r3,.int .i64 r4],.bool r5]) ∧ Below w.heap.size w w' := by
 have hu100 := Try.underlying100
 have hu102 := Try.underlying102
 have HB := Aside0.mk (Below.refl w.heap.size w)
 have H := h
 clear h
 unfold impl_fracOf.f at H
 obtain ⟨t387,A30,H⟩ := Option.bind_eq_some_iff.mp H
 have A3 := Aside0.mk A30
 clear A30
 by_cases c4 : t387 = true
 ·subst c4
  rw [if_pos rfl] at H
  simp only [Option.some.injEq,Prod.mk.injEq] at H
  obtain ⟨rfl,rfl,rfl,rfl,rfl⟩ := H
  go_enter Try.func148,Try.ntmps148
  go_wp2_with (first | ((with_reducible refine gate_dst (N := 2) rfl ?_);refine bE 2 #[.bool a0_0,.int .u64 a0_1,.int .u64 a0_2] 100 (h := ?_);intro gb384 hg wq1 hbox hb;have n_ := Z124;clear HB;obtain ⟨HB,BK384,GW384,GE384⟩ := n_;clear hb hbox hg) | ((with_reducible refine gate_dst (N := 4) rfl ?_);refine bE 4 #[.bool false,.int .u64 0,.int .u64 0,.int .i64 0] 102 (h := ?_);intro gb385 hg wq2 hbox hb;have n_ := Z74;clear BK384 HB;obtain ⟨BK384,HB,BK385,GW385,GE385,NB384_385,NB385_384⟩ := n_;clear hb hbox hg;have hnbq3 := NB384_385.out;have hncq3 := NB385_384.out;obtain ⟨hczq4_0,hczq4_1,hczq4_2,hfzq4_0,hfzq4_1,hfzq4_2⟩ := cells3 BK384.out) | ((with_reducible refine gate_dst (N := 6) rfl ?_);refine bE 6 #[.bool false,.int .u64 0,.int .u64 0,.int .i64 0] 102 (h := ?_);intro gb386 hg wq5 hbox hb;have n_ := Z44;clear BK384 BK385 HB;obtain ⟨BK384,BK385,HB,BK386,GW386,GE386,NB384_386,NB386_384,NB385_386,NB386_385⟩ := n_;clear hb hbox hg;have hnbq6 := NB386_384.out;have hncq6 := NB384_386.out;have hnbq7 := NB386_385.out;have hncq7 := NB385_386.out;obtain ⟨hczq8_0,hczq8_1,hczq8_2,hczq8_3,hfzq8_0,hfzq8_1,hfzq8_2,hfzq8_3⟩ := cells4 BK386.out) | ((with_reducible refine gate_callee (f := 151) rfl ?_);refine goesL_ (some 11) rfl rfl Try.func151 Z312 rfl #[.agg #[.bool a0_0,.int .u64 a0_1,.int .u64 a0_2,.int .i64 a1]] rfl Z256 ?_;(with_reducible refine (impl_FracOk.calls a0_0 a0_1 a0_2 a1 true _ A3.out).mono ?_);rintro e wq9 ⟨rfl,hb⟩;refine ⟨_,rfl,?_⟩;have n_ := Z54;clear BK384 BK385 BK386 HB;obtain ⟨BK384,BK385,BK386,HB⟩ := n_;(try clear hb);(try clear hb2);(try clear hk);(try clear hi);obtain ⟨hczq10_0,hczq10_1,hczq10_2,hczq10_3,hfzq10_0,hfzq10_1,hfzq10_2,hfzq10_3⟩ := cells4 BK386.out;obtain ⟨hczq11_0,hczq11_1,hczq11_2,hczq11_3,hfzq11_0,hfzq11_1,hfzq11_2,hfzq11_3⟩ := cells4 BK385.out))
  refine bodyPost_ret (results_ct rfl _ _ gb385 102 #[.bool a0_0,.int .u64 a0_1,.int .u64 a0_2,.int .i64 a1] (0,0) _ rfl (by refine bP ?_;refine blk_put (cs := #[.bool a0_0,.int .u64 a0_1,.int .u64 a0_2,.int .i64 0]) ?_ 3 _ rfl;refine bP ?_;refine blk_put (cs := #[.bool a0_0,.int .u64 a0_1,.int .u64 0,.int .i64 0]) ?_ 2 _ rfl;refine bP ?_;refine blk_put (cs := #[.bool a0_0,.int .u64 0,.int .u64 0,.int .i64 0]) ?_ 1 _ rfl;refine bP ?_;refine blk_put (cs := #[.bool false,.int .u64 0,.int .u64 0,.int .i64 0]) ?_ 0 _ rfl;refine bP ?_;exact BK385.out) Try.underlying102 rfl Z312) rfl ?_
  exact ⟨Z263,Z362⟩
 ·replace c4 := Bool.eq_false_iff.mpr c4
  subst c4
  rw [if_neg Bool.false_ne_true] at H
  simp only [Option.some.injEq,Prod.mk.injEq] at H
  obtain ⟨rfl,rfl,rfl,rfl,rfl⟩ := H
  go_enter Try.func148,Try.ntmps148
  go_wp2_with (first | ((with_reducible refine gate_dst (N := 2) rfl ?_);refine bE 2 #[.bool a0_0,.int .u64 a0_1,.int .u64 a0_2] 100 (h := ?_);intro gb384 hg wq1 hbox hb;have n_ := Z124;clear HB;obtain ⟨HB,BK384,GW384,GE384⟩ := n_;clear hb hbox hg) | ((with_reducible refine gate_dst (N := 4) rfl ?_);refine bE 4 #[.bool false,.int .u64 0,.int .u64 0,.int .i64 0] 102 (h := ?_);intro gb385 hg wq2 hbox hb;have n_ := Z74;clear BK384 HB;obtain ⟨BK384,HB,BK385,GW385,GE385,NB384_385,NB385_384⟩ := n_;clear hb hbox hg;have hnbq3 := NB384_385.out;have hncq3 := NB385_384.out;obtain ⟨hczq4_0,hczq4_1,hczq4_2,hfzq4_0,hfzq4_1,hfzq4_2⟩ := cells3 BK384.out) | ((with_reducible refine gate_dst (N := 6) rfl ?_);refine bE 6 #[.bool false,.int .u64 0,.int .u64 0,.int .i64 0] 102 (h := ?_);intro gb386 hg wq5 hbox hb;have n_ := Z44;clear BK384 BK385 HB;obtain ⟨BK384,BK385,HB,BK386,GW386,GE386,NB384_386,NB386_384,NB385_386,NB386_385⟩ := n_;clear hb hbox hg;have hnbq6 := NB386_384.out;have hncq6 := NB384_386.out;have hnbq7 := NB386_385.out;have hncq7 := NB385_386.out;obtain ⟨hczq8_0,hczq8_1,hczq8_2,hczq8_3,hfzq8_0,hfzq8_1,hfzq8_2,hfzq8_3⟩ := cells4 BK386.out) | ((with_reducible refine gate_callee (f := 151) rfl ?_);refine goesL_ (some 11) rfl rfl Try.func151 Z312 rfl #[.agg #[.bool a0_0,.int .u64 a0_1,.int .u64 a0_2,.int .i64 a1]] rfl Z256 ?_;(with_reducible refine (impl_FracOk.calls a0_0 a0_1 a0_2 a1 false _ A3.out).mono ?_);rintro e wq9 ⟨rfl,hb⟩;refine ⟨_,rfl,?_⟩;have n_ := Z54;clear BK384 BK385 BK386 HB;obtain ⟨BK384,BK385,BK386,HB⟩ := n_;(try clear hb);(try clear hb2);(try clear hk);(try clear hi);obtain ⟨hczq10_0,hczq10_1,hczq10_2,hczq10_3,hfzq10_0,hfzq10_1,hfzq10_2,hfzq10_3⟩ := cells4 BK385.out))
  refine bodyPost_ret (results_ct rfl _ _ gb385 102 #[.bool false,.int .u64 0,.int .u64 0,.int .i64 0] (0,0) _ rfl (by refine bP ?_;refine blk_put (cs := #[.bool false,.int .u64 0,.int .u64 0,.int .i64 0]) ?_ 3 _ rfl;refine bP ?_;refine blk_put (cs := #[.bool false,.int .u64 0,.int .u64 0,.int .i64 0]) ?_ 2 _ rfl;refine bP ?_;refine blk_put (cs := #[.bool false,.int .u64 0,.int .u64 0,.int .i64 0]) ?_ 1 _ rfl;refine bP ?_;refine blk_put (cs := #[.bool false,.int .u64 0,.int .u64 0,.int .i64 0]) ?_ 0 _ rfl;refine bP ?_;exact BK385.out) Try.underlying102 rfl Z312) rfl ?_
  exact ⟨Z263,Z362⟩

/-! ### impl_wideOf: function 153 -/
def impl_wideOf.f (a0 : Bool) (a1 : Int) (a2 : Int) : Option (Bool × Int × Int) := if a0 = true then (if a1 > 0 then (some (true,a1,a2)) else (some (decide (a2 > 0),a1,a2))) else (some (false,a1,a2))
set_option maxHeartbeats 8000000 in
set_option maxRecDepth 100000 in
theorem impl_wideOf.calls (a0 : Bool) (a1 : Int) (a2 : Int) (r1 : Bool) (r2 : Int) (r3 : Int) (w : World) (h : impl_wideOf.f a0 a1 a2 = some (r1,r2,r3)) :
  Calls Try.prog 153 #[.bool a0,.int .u64 a1,.int .u64 a2] w fun e w' => e = .returned (.agg #[.bool r1,.int .u64 r2,.int .u64 r3]) ∧ Below w.heap.size w w' := by
 have hu100 := Try.underlying100
 have HB := Aside0.mk (Below.refl w.heap.size w)
 have H := h
 clear h
 unfold impl_wideOf.f at H
 by_cases c4 : a0 = true
 ·subst c4
  rw [if_pos rfl] at H
  by_cases c5 : a1 > 0
  ·rw [if_pos c5] at H
   have c5b0 : decide (0 < a1) = true := decide_eq_true c5
   clear c5
   simp only [Option.some.injEq,Prod.mk.injEq] at H
   obtain ⟨rfl,rfl,rfl⟩ := H
   go_enter Try.func153,Try.ntmps153
   go_wp2_with (first | ((with_reducible refine gate_dst (N := 6) rfl ?_);refine bE 6 #[.bool false,.int .u64 0,.int .u64 0] 100 (h := ?_);intro gb388 hg wq1 hbox hb;have n_ := Z112;clear HB;obtain ⟨HB,BK388,GW388,GE388⟩ := n_;clear hb hbox hg;obtain ⟨hczq2_0,hczq2_1,hczq2_2,hfzq2_0,hfzq2_1,hfzq2_2⟩ := cells3 BK388.out))
   refine bodyPost_ret (results_cell_row rfl _ _ gb388 100 #[.bool true,.int .u64 a1,.int .u64 a2] (0,0) _ rfl (by refine bP ?_;refine blk_put (cs := #[.bool true,.int .u64 a1,.int .u64 0]) ?_ 2 _ rfl;refine bP ?_;refine blk_put (cs := #[.bool true,.int .u64 0,.int .u64 0]) ?_ 1 _ rfl;refine bP ?_;refine blk_put (cs := #[.bool false,.int .u64 0,.int .u64 0]) ?_ 0 _ rfl;refine bP ?_;exact BK388.out) Try.underlying100 rfl Z312) rfl ?_
   exact ⟨Z263,Z245⟩
  ·rw [if_neg c5] at H
   have c5b0 : decide (0 < a1) = false := decide_eq_false c5
   clear c5
   simp only [Option.some.injEq,Prod.mk.injEq] at H
   obtain ⟨rfl,rfl,rfl⟩ := H
   go_enter Try.func153,Try.ntmps153
   go_wp2_with (first | ((with_reducible refine gate_dst (N := 6) rfl ?_);refine bE 6 #[.bool false,.int .u64 0,.int .u64 0] 100 (h := ?_);intro gb388 hg wq1 hbox hb;have n_ := Z112;clear HB;obtain ⟨HB,BK388,GW388,GE388⟩ := n_;clear hb hbox hg;obtain ⟨hczq2_0,hczq2_1,hczq2_2,hfzq2_0,hfzq2_1,hfzq2_2⟩ := cells3 BK388.out))
   refine bodyPost_ret (results_cell_row rfl _ _ gb388 100 #[.bool (decide (a2 > 0)),.int .u64 a1,.int .u64 a2] (0,0) _ rfl (by refine bP ?_;refine blk_put (cs := #[.bool (decide (a2 > 0)),.int .u64 a1,.int .u64 0]) ?_ 2 _ rfl;refine bP ?_;refine blk_put (cs := #[.bool (decide (a2 > 0)),.int .u64 0,.int .u64 0]) ?_ 1 _ rfl;refine bP ?_;refine blk_put (cs := #[.bool false,.int .u64 0,.int .u64 0]) ?_ 0 _ rfl;refine bP ?_;exact BK388.out) Try.underlying100 rfl Z312) rfl ?_
   exact ⟨Z263,Z245⟩
 ·replace c4 := Bool.eq_false_iff.mpr c4
  subst c4
  rw [if_neg Bool.false_ne_true] at H
  simp only [Option.some.injEq,Prod.mk.injEq] at H
  obtain ⟨rfl,rfl,rfl⟩ := H
  go_enter Try.func153,Try.ntmps153
  go_wp2_with (first | ((with_reducible refine gate_dst (N := 6) rfl ?_);refine bE 6 #[.bool false,.int .u64 0,.int .u64 0] 100 (h := ?_);intro gb388 hg wq1 hbox hb;have n_ := Z112;clear HB;obtain ⟨HB,BK388,GW388,GE388⟩ := n_;clear hb hbox hg;obtain ⟨hczq2_0,hczq2_1,hczq2_2,hfzq2_0,hfzq2_1,hfzq2_2⟩ := cells3 BK388.out))
  refine bodyPost_ret (results_cell_row rfl _ _ gb388 100 #[.bool false,.int .u64 a1,.int .u64 a2] (0,0) _ rfl (by refine bP ?_;refine blk_put (cs := #[.bool false,.int .u64 a1,.int .u64 0]) ?_ 2 _ rfl;refine bP ?_;refine blk_put (cs := #[.bool false,.int .u64 0,.int .u64 0]) ?_ 1 _ rfl;refine bP ?_;refine blk_put (cs := #[.bool false,.int .u64 0,.int .u64 0]) ?_ 0 _ rfl;refine bP ?_;exact BK388.out) Try.underlying100 rfl Z312) rfl ?_
  exact ⟨Z263,Z245⟩

/-! ### bits_Mul64: function 164 -/
def bits_Mul64.f (a0 : Int) (a1 : Int) : Option (Int × Int) := some (IntKind.u64.wrap ((IntKind.u64.wrap ((IntKind.u64.wrap ((a0 / 4294967296) * (a1 / 4294967296))) + ((IntKind.u64.wrap ((IntKind.u64.wrap ((a0 / 4294967296) * (Go.bits .and .u64 a1 4294967295))) + ((IntKind.u64.wrap ((Go.bits .and .u64 a0 4294967295) * (Go.bits .and .u64 a1 4294967295))) / 4294967296))) / 4294967296))) + ((IntKind.u64.wrap ((Go.bits .and .u64 (IntKind.u64.wrap ((IntKind.u64.wrap ((a0 / 4294967296) * (Go.bits .and .u64 a1 4294967295))) + ((IntKind.u64.wrap ((Go.bits .and .u64 a0 4294967295) * (Go.bits .and .u64 a1 4294967295))) / 4294967296))) 4294967295) + (IntKind.u64.wrap ((Go.bits .and .u64 a0 4294967295) * (a1 / 4294967296))))) / 4294967296)),IntKind.u64.wrap (a0 * a1))
set_option maxHeartbeats 8000000 in
set_option maxRecDepth 100000 in
theorem bits_Mul64.calls (a0 : Int) (a1 : Int) (r1 : Int) (r2 : Int) (w : World) (h : bits_Mul64.f a0 a1 = some (r1,r2)) :
  Calls Try.prog 164 #[.int .u64 a0,.int .u64 a1] w fun e w' => e = .returned (.tuple #[.int .u64 r1,.int .u64 r2]) ∧ Drawn0 w w' := by
 have H := h
 clear h
 unfold bits_Mul64.f at H
 simp only [Option.some.injEq,Prod.mk.injEq] at H
 obtain ⟨rfl,rfl⟩ := H
 go_enter Try.func164,Try.ntmps164
 go_wp2
 go_ret2
 exact ⟨Z289,Z266⟩

end Go.Proofs.Ytaepeajaefpooaa.QFnExactMayPart
