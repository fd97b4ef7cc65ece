/- The machine side of FnConfig: what each Go function that it reaches comes to. Conditions: none. -/
import Derived.Test.YtepnbcdbagjmbaeGreatDoorQFnConfigx0
import Derived.Test.YtepnbcdbagjmbaeGreatDoorQFnConfigx7
namespace Go.Proofs.YtepnbcdbagjmbaeGreatDoor.QFnConfig
open Go.RowKit Go.Proofs.YtepnbcdbagjmbaeGreatDoorW.PrintWords Go.Proofs.YtepnbcdbagjmbaeGreatDoorW.PrintLast Go.Proofs.YtepnbcdbagjmbaeGreatDoorW.PrintMore
attribute [local go_sem] max2_int min2_int max_two min_two max_three min_three max_four min_four   -- for this text's walks alone
set_option linter.unusedVariables false
set_option linter.unusedSimpArgs false

/-! ### spec_ConfigOk: function 14 -/
theorem spec_ConfigOk.change_ {P : Program} {md : Region.Mode} {ops : Array Oper} {Q : Exit → Act → World → Prop} {S S' : World → Prop} (hsub : ∀ w,S' w → S w) : ∀ (fuel : Nat) (l : Array Bool) (a : Act) (w : World),S' w → wpAnyLast P md ops Q S' [] fuel l a w → wpAnyLast P md ops Q S [] fuel l a w
 | 0,_,_,_,_,h => h
 | fuel + 1,_,_,_,hS,h => ⟨h.1,fun i hi => wpOp_mono (fun a' w' h' => ⟨fun _ _ => hsub _ (h'.1 Z286 hS),spec_ConfigOk.change_ hsub fuel _ a' w' (h'.1 Z286 hS) h'.2⟩) (h.2 i hi)⟩
mutual
def spec_ConfigOk.l0 : Nat → List Int → Int → Int → Int → Int → Int → Int → Int → Int → List Int → Option (Bool)
 | 0,_,_,_,_,_,_,_,_,_,_ => none
 | k + 1,x3,x4,x295000,x295001,x295002,x295003,x295004,x295005,x295006,x295007 => if x4 < 5 then (if 0 ≤ x4 then (if x4 < (x3.length : Int) then ((spec_l8Least.f).bind fun t299 => (if x4 < (t299.length : Int) then ((spec_l8Most.f).bind fun t303 => (if x4 < (t303.length : Int) then ((spec_l1In.f (rd x3 x4) (rd t299 x4) (rd t303 x4)).bind fun t307 => (if t307 = true then (spec_ConfigOk.l0 k x3 (wrap64 (x4 + 1)) x295000 x295001 x295002 x295003 x295004 x295005 x295006 x295007) else (some false))) else (none))) else (none))) else (none)) else (none)) else (spec_ConfigOk.l1 k 0 x295000 x295001 x295002 x295003 x295004 x295005 x295006 x295007)
def spec_ConfigOk.l1 : Nat → Int → Int → Int → Int → Int → Int → Int → Int → List Int → Option (Bool)
 | 0,_,_,_,_,_,_,_,_,_ => none
 | k + 1,x5,x295000,x295001,x295002,x295003,x295004,x295005,x295006,x295007 => if x5 < (x295007.length : Int) then (if 0 ≤ x5 then ((spec_l1In.f (rd x295007 x5) (-1) 1).bind fun t309 => (if t309 = true then (spec_ConfigOk.l1 k (wrap64 (x5 + 1)) x295000 x295001 x295002 x295003 x295004 x295005 x295006 x295007) else (some false))) else (none)) else ((spec_l1In.f x295006 1 1000).bind fun t310 => (if t310 = true then ((spec_l1In.f x295005 1 x295006).bind fun t311 => (if t311 = true then (some (decide ((x295007.length : Int) ≤ 4))) else (some false))) else (some false)))
end
def spec_ConfigOk.f (k : Nat) (a0_0 : Int) (a0_1 : Int) (a0_2 : Int) (a0_3 : Int) (a0_4 : Int) (a0_5 : Int) (a0_6 : Int) (l0_7 : List Int) : Option (Bool) := (spec_l8Numbers.f a0_0 a0_1 a0_2 a0_3 a0_4 a0_5 a0_6 l0_7).bind fun t295 => (spec_ConfigOk.l0 k t295 0 a0_0 a0_1 a0_2 a0_3 a0_4 a0_5 a0_6 l0_7)
theorem spec_ConfigOk.mono_l : ∀ k,(∀ y0 y1 y2 y3 y4 y5 y6 y7 y8 y9,LeO (spec_ConfigOk.l0 k y0 y1 y2 y3 y4 y5 y6 y7 y8 y9) (spec_ConfigOk.l0 (k + 1) y0 y1 y2 y3 y4 y5 y6 y7 y8 y9)) ∧ (∀ y0 y1 y2 y3 y4 y5 y6 y7 y8,LeO (spec_ConfigOk.l1 k y0 y1 y2 y3 y4 y5 y6 y7 y8) (spec_ConfigOk.l1 (k + 1) y0 y1 y2 y3 y4 y5 y6 y7 y8))
 | 0 => ⟨fun _ _ _ _ _ _ _ _ _ _ r h => by simp [spec_ConfigOk.l0] at h,fun _ _ _ _ _ _ _ _ _ r h => by simp [spec_ConfigOk.l1] at h⟩
 | k + 1 => by
  obtain ⟨ih0,ih1⟩ := spec_ConfigOk.mono_l k
  refine ⟨?_,?_⟩
  ·intro y0 y1 y2 y3 y4 y5 y6 y7 y8 y9
   unfold spec_ConfigOk.l0
   repeat' first
   | (with_reducible exact ih0 _ _ _ _ _ _ _ _ _ _)
   | (with_reducible exact ih1 _ _ _ _ _ _ _ _ _)
   | (with_reducible exact LeO.refl _)
   | (with_reducible exact LeO.none _)
   | (with_reducible refine LeO.ite ?_ ?_)
   | (with_reducible refine LeO.bind ?_ (fun _ => ?_))
   | exact ih0 _ _ _ _ _ _ _ _ _ _
   | exact ih1 _ _ _ _ _ _ _ _ _
   | exact LeO.none _
   | refine LeO.ite ?_ ?_
   | refine LeO.bind ?_ (fun _ => ?_)
  ·intro y0 y1 y2 y3 y4 y5 y6 y7 y8
   unfold spec_ConfigOk.l1
   repeat' first
   | (with_reducible exact ih0 _ _ _ _ _ _ _ _ _ _)
   | (with_reducible exact ih1 _ _ _ _ _ _ _ _ _)
   | (with_reducible exact LeO.refl _)
   | (with_reducible exact LeO.none _)
   | (with_reducible refine LeO.ite ?_ ?_)
   | (with_reducible refine LeO.bind ?_ (fun _ => ?_))
   | exact ih0 _ _ _ _ _ _ _ _ _ _
   | exact ih1 _ _ _ _ _ _ _ _ _
   | exact LeO.none _
   | refine LeO.ite ?_ ?_
   | refine LeO.bind ?_ (fun _ => ?_)
theorem spec_ConfigOk.mono : ∀ a0 a1 a2 a3 a4 a5 a6 a7 k,LeO (spec_ConfigOk.f k a0 a1 a2 a3 a4 a5 a6 a7) (spec_ConfigOk.f (k + 1) a0 a1 a2 a3 a4 a5 a6 a7) := by
 intro a0 a1 a2 a3 a4 a5 a6 a7 k
 obtain ⟨ih0,ih1⟩ := spec_ConfigOk.mono_l k
 unfold spec_ConfigOk.f
 repeat' first
   | (with_reducible exact ih0 _ _ _ _ _ _ _ _ _ _)
   | (with_reducible exact ih1 _ _ _ _ _ _ _ _ _)
   | (with_reducible exact LeO.refl _)
   | (with_reducible exact LeO.none _)
   | (with_reducible refine LeO.ite ?_ ?_)
   | (with_reducible refine LeO.bind ?_ (fun _ => ?_))
   | exact ih0 _ _ _ _ _ _ _ _ _ _
   | exact ih1 _ _ _ _ _ _ _ _ _
   | exact LeO.none _
   | refine LeO.ite ?_ ?_
   | refine LeO.bind ?_ (fun _ => ?_)
def spec_ConfigOk.T5 : Bool × List (List Nat × List Nat) := (true,[([],[]),([],[]),([0,1],[0,1]),([2],[2]),([],[]),([],[]),([4,5],[4,5]),([6],[6]),([4],[]),([],[]),([8,9],[8,9]),([10],[10]),([3,7,11,8],[3,7,11]),([12],[12])])
def spec_ConfigOk.B5 : List Nat := [0,0,3,7,0,0,48,112,16,0,784,1808,4095,8191]
theorem spec_ConfigOk.tab5 : rtab .any (opsOf Tryz.f14 5) = spec_ConfigOk.T5 := by kernel_rfl
theorem spec_ConfigOk.bits5 : waitsOk spec_ConfigOk.T5.2 spec_ConfigOk.B5 = true := by kernel_rfl
set_option maxHeartbeats 8000000 in
set_option maxRecDepth 100000 in
theorem spec_ConfigOk.calls (k : Nat) (a0_0 : Int) (a0_1 : Int) (a0_2 : Int) (a0_3 : Int) (a0_4 : Int) (a0_5 : Int) (a0_6 : Int) (A0_7 : Option Addr) (c0_7 : Nat) (l0_7 : List Int) (r : Bool) (w : World) (hr0_7 : Kd.C (Kd.int .i64) w A0_7 l0_7.length l0_7) (hc0_7 : l0_7.length ≤ c0_7) (h : spec_ConfigOk.f k a0_0 a0_1 a0_2 a0_3 a0_4 a0_5 a0_6 l0_7 = some r) :
  Calls Tryz.prog 14 #[.agg #[.int .i64 a0_0,.int .i64 a0_1,.int .i64 a0_2,.int .i64 a0_3,.int .i64 a0_4,.int .i64 a0_5,.int .i64 a0_6,.slice A0_7 l0_7.length c0_7]] w fun e w' => e = .returned (.bool r) ∧ Below w.heap.size w w' := by
 have hu26 := Tryz.underlying26
 have HR0_7 := Aside0.mk hr0_7
 have HC0_7 := Aside0.mk hc0_7
 clear hr0_7 hc0_7
 have HB := Aside0.mk (Below.refl w.heap.size w)
 have H := h
 clear h
 unfold spec_ConfigOk.f at H
 obtain ⟨t295,A20,H⟩ := Option.bind_eq_some_iff.mp H
 have A2 := Aside0.mk A20
 clear A20
 have H' := Aside0.mk H
 clear H
 go_enter Tryz.func14,Tryz.ntmps14
 go_wp2_with (first | ((with_reducible refine gate_dst (N := 1) rfl ?_);(try (refine gate_guard Z191 ?_;dsimp only));refine bE 1 #[.int .i64 a0_0,.int .i64 a0_1,.int .i64 a0_2,.int .i64 a0_3,.int .i64 a0_4,.int .i64 a0_5,.int .i64 a0_6,.slice A0_7 l0_7.length c0_7] 26 (h := ?_);intro gb294 hg w3 hbox hb;have n_ := jA (below_step Z298 hb) (jA (hbox) (jA ((Z240 : w.heap.size ≤ gb294)) (Aside0.mk ((Z240 : w.heap.size ≤ gb294)))));clear HB;obtain ⟨HB,BK294,GW294,GE294⟩ := n_;clear hb hbox hg;obtain ⟨hcz4_0,hcz4_1,hcz4_2,hcz4_3,hcz4_4,hcz4_5,hcz4_6,hcz4_7,hfz4_0,hfz4_1,hfz4_2,hfz4_3,hfz4_4,hfz4_5,hfz4_6,hfz4_7⟩ := cells8 BK294.out) | ((with_reducible refine gate_callee (f := 19) rfl ?_);refine goesL_ (some 7) rfl rfl Tryz.func19 Z190 rfl #[.agg #[.int .i64 a0_0,.int .i64 a0_1,.int .i64 a0_2,.int .i64 a0_3,.int .i64 a0_4,.int .i64 a0_5,.int .i64 a0_6,.slice A0_7 l0_7.length c0_7]] rfl Z130 ?_;(with_reducible refine (spec_l8Numbers.calls a0_0 a0_1 a0_2 a0_3 a0_4 a0_5 a0_6 _ _ l0_7 t295 _ ?side1 ?side2 A2.out).mono ?_);(case side1 => exact Z103);(case side2 => exact Z186);rintro e w5 ⟨v296,rfl,ho0,hb⟩;refine ⟨_,rfl,?_⟩;have n_ := jA (Kd.R_lower ho0 (below_size Z121)) (jA (blk_below (g := gb294) (o := .cells #[.int .i64 a0_0,.int .i64 a0_1,.int .i64 a0_2,.int .i64 a0_3,.int .i64 a0_4,.int .i64 a0_5,.int .i64 a0_6,.slice A0_7 l0_7.length c0_7] 26 (0,0)) Z177 hb) (Aside0.mk (below_step Z121 hb)));clear BK294 HB;obtain ⟨HO297,BK294,HB⟩ := n_;(try clear hb);(try clear hb2);(try clear hk);(try clear hi);(try clear ho0)))
 go_loopg [4] k (fun kq v4 w' => ∃ (x4_1 : Int),v4 = .int .i64 x4_1 ∧ Aside0 (spec_ConfigOk.l0 kq t295 x4_1 a0_0 a0_1 a0_2 a0_3 a0_4 a0_5 a0_6 l0_7 = some r) ∧ Aside0 (kq ≤ k) ∧ Aside0 (Kd.R (Kd.int .i64) 3 w' w.heap.size (fun _ => True) v296 t295) ∧ Aside0 (w'.heap[gb294]? = some (.cells #[.int .i64 a0_0,.int .i64 a0_1,.int .i64 a0_2,.int .i64 a0_3,.int .i64 a0_4,.int .i64 a0_5,.int .i64 a0_6,(.slice A0_7 l0_7.length c0_7)] 26 (0,0))) ∧ Aside0 (Below w.heap.size w w'))
 case atStart => exact ⟨(0),Z165,H',⟨Nat.le_refl _⟩,⟨by (with_reducible repeat (first | apply Kd.R_alloc | apply Kd.R_drewN | apply Kd.R_drew));exact HO297.out⟩,⟨Z177⟩,⟨Z121⟩⟩
 case round =>
  clear H'
  try clear c1
  try clear p2
  obtain ⟨x4_1,rfl,HA,HK1,HO_3,BK294,HB⟩ := hrel
  cases gk with
  | zero => exact absurd HA.out (by simp [spec_ConfigOk.l0])
  | succ k1 =>
   have H := HA.out
   clear HA
   simp only [spec_ConfigOk.l0] at H
   by_cases c6 : x4_1 < 5
   rotate_left
   ·rw [if_neg c6] at H
    have c6b0 : decide (x4_1 < 5) = false := decide_eq_false c6
    clear c6
    have H' := Aside0.mk H
    clear H
    go_wp2
    go_loopg [5] k1 (fun kq v5 w' => ∃ (x5_2 : Int),v5 = .int .i64 x5_2 ∧ Aside0 (spec_ConfigOk.l1 kq x5_2 a0_0 a0_1 a0_2 a0_3 a0_4 a0_5 a0_6 l0_7 = some r) ∧ Aside0 (kq ≤ k1) ∧ Aside0 (w'.heap[gb294]? = some (.cells #[.int .i64 a0_0,.int .i64 a0_1,.int .i64 a0_2,.int .i64 a0_3,.int .i64 a0_4,.int .i64 a0_5,.int .i64 a0_6,(.slice A0_7 l0_7.length c0_7)] 26 (0,0))) ∧ Aside0 (Below w.heap.size w w'))
    case atStart => exact ⟨(0),Z165,H',⟨Nat.le_refl _⟩,⟨Z177⟩,⟨Z121⟩⟩
    case round =>
     clear H'
     try clear c1
     try clear p2
     try clear q2
     try clear hx2
     try clear p3
     try clear q3
     try clear hx3
     try clear c4
     try clear c6
     try clear c6b0
     try clear p6
     try clear c7
     try clear c7b0
     try clear c8
     try clear c8b0
     try clear c10
     try clear c10b0
     try clear c12
     try clear c12b0
     try clear c14
     try clear c19
     try clear hx298_0
     try clear hx302_0
     try clear hx306_0
     try clear p2
     try clear p298
     try clear p302
     try clear p306
     try clear q298
     try clear q302
     try clear q306
     obtain ⟨x5_2,rfl,HA,HK2,BK294,HB⟩ := hrel
     cases gk with
     | zero => exact absurd HA.out (by simp [spec_ConfigOk.l1])
     | succ k2 =>
      have H := HA.out
      clear HA
      simp only [spec_ConfigOk.l1] at H
      by_cases c27 : x5_2 < (l0_7.length : Int)
      rotate_left
      ·rw [if_neg c27] at H
       have c27b0 : decide (x5_2 < (l0_7.length : Int)) = false := decide_eq_false c27
       clear c27
       obtain ⟨t310,A330,H⟩ := Option.bind_eq_some_iff.mp H
       have A33 := Aside0.mk A330
       clear A330
       by_cases c34 : t310 = true
       rotate_left
       ·replace c34 := Bool.eq_false_iff.mpr c34
        subst c34
        rw [if_neg Bool.false_ne_true] at H
        obtain rfl := Option.some.inj H
        obtain ⟨hcz39_0,hcz39_1,hcz39_2,hcz39_3,hcz39_4,hcz39_5,hcz39_6,hcz39_7,hfz39_0,hfz39_1,hfz39_2,hfz39_3,hfz39_4,hfz39_5,hfz39_6,hfz39_7⟩ := cells8 BK294.out
        go_wp2_with (first | ((with_reducible refine gate_callee (f := 40) rfl ?_);refine goesL_ (some 42) rfl rfl Tryz.func40 Z190 rfl #[.int .i64 a0_6,.int .i64 1,.int .i64 1000] rfl Z130 ?_;(with_reducible refine (spec_l1In.calls a0_6 1 1000 false _ A33.out).mono ?_);rintro e w' ⟨rfl,⟨nd,rfl⟩⟩;refine ⟨_,rfl,?_⟩))
        go_ret
        exact ⟨Z152,Z121⟩
       subst c34
       rw [if_pos rfl] at H
       obtain ⟨t311,A350,H⟩ := Option.bind_eq_some_iff.mp H
       have A35 := Aside0.mk A350
       clear A350
       by_cases c36 : t311 = true
       ·subst c36
        rw [if_pos rfl] at H
        obtain rfl := Option.some.inj H
        obtain ⟨hcz37_0,hcz37_1,hcz37_2,hcz37_3,hcz37_4,hcz37_5,hcz37_6,hcz37_7,hfz37_0,hfz37_1,hfz37_2,hfz37_3,hfz37_4,hfz37_5,hfz37_6,hfz37_7⟩ := cells8 BK294.out
        go_wp2_with (first | ((with_reducible refine gate_callee (f := 40) rfl ?_);refine goesL_ (some 42) rfl rfl Tryz.func40 Z190 rfl #[.int .i64 a0_6,.int .i64 1,.int .i64 1000] rfl Z130 ?_;(with_reducible refine (spec_l1In.calls a0_6 1 1000 true _ A33.out).mono ?_);rintro e w' ⟨rfl,⟨nd,rfl⟩⟩;refine ⟨_,rfl,?_⟩) | (go_at_call 40;(with_reducible refine (spec_l1In.calls a0_5 1 a0_6 true _ A35.out).mono ?_);rintro e w' ⟨rfl,⟨nd,rfl⟩⟩))
        go_ret
        exact ⟨Z152,Z121⟩
       replace c36 := Bool.eq_false_iff.mpr c36
       subst c36
       rw [if_neg Bool.false_ne_true] at H
       obtain rfl := Option.some.inj H
       obtain ⟨hcz38_0,hcz38_1,hcz38_2,hcz38_3,hcz38_4,hcz38_5,hcz38_6,hcz38_7,hfz38_0,hfz38_1,hfz38_2,hfz38_3,hfz38_4,hfz38_5,hfz38_6,hfz38_7⟩ := cells8 BK294.out
       go_wp2_with (first | ((with_reducible refine gate_callee (f := 40) rfl ?_);refine goesL_ (some 42) rfl rfl Tryz.func40 Z190 rfl #[.int .i64 a0_6,.int .i64 1,.int .i64 1000] rfl Z130 ?_;(with_reducible refine (spec_l1In.calls a0_6 1 1000 true _ A33.out).mono ?_);rintro e w' ⟨rfl,⟨nd,rfl⟩⟩;refine ⟨_,rfl,?_⟩) | (go_at_call 40;(with_reducible refine (spec_l1In.calls a0_5 1 a0_6 false _ A35.out).mono ?_);rintro e w' ⟨rfl,⟨nd,rfl⟩⟩))
       go_ret
       exact ⟨Z152,Z121⟩
      rw [if_pos c27] at H
      have c27b0 : decide (x5_2 < (l0_7.length : Int)) = true := decide_eq_true c27
      clear c27
      obtain ⟨c28,H⟩ := ifp H
      have c28b0 : decide (0 ≤ x5_2) = true := decide_eq_true c28
      clear c28
      obtain ⟨t309,A290,H⟩ := Option.bind_eq_some_iff.mp H
      have A29 := Aside0.mk A290
      clear A290
      by_cases c30 : t309 = true
      rotate_left
      ·replace c30 := Bool.eq_false_iff.mpr c30
       subst c30
       rw [if_neg Bool.false_ne_true] at H
       obtain rfl := Option.some.inj H
       obtain ⟨hcz32_0,hcz32_1,hcz32_2,hcz32_3,hcz32_4,hcz32_5,hcz32_6,hcz32_7,hfz32_0,hfz32_1,hfz32_2,hfz32_3,hfz32_4,hfz32_5,hfz32_6,hfz32_7⟩ := cells8 BK294.out
       have p308 : 0 ≤ (x5_2 : Int) := of_decide_eq_true Z164
       have q308 : x5_2 < (l0_7.length : Int) := of_decide_eq_true Z164
       obtain ⟨ad308,e308,hx308_0⟩ := Kd.at_int HR0_7.out x5_2 p308 q308
       cases e308
       replace hx308_0 := (HB.out.cell (World.block_lt_of_cell? w _ hx308_0)).trans hx308_0
       replace p308 := eq_true p308
       replace q308 := eq_true q308
       go_wp2_with (first | ((with_reducible refine gate_callee (f := 40) rfl ?_);refine goesL_ (some 38) rfl rfl Tryz.func40 Z190 rfl #[.int .i64 (rd l0_7 x5_2),.int .i64 (-1),.int .i64 1] rfl Z130 ?_;(with_reducible refine (spec_l1In.calls (rd l0_7 x5_2) (-1) 1 false _ A29.out).mono ?_);rintro e w' ⟨rfl,⟨nd,rfl⟩⟩;refine ⟨_,rfl,?_⟩))
       go_ret
       exact ⟨Z152,Z121⟩
      subst c30
      rw [if_pos rfl] at H
      have H' := Aside0.mk H
      clear H
      obtain ⟨hcz31_0,hcz31_1,hcz31_2,hcz31_3,hcz31_4,hcz31_5,hcz31_6,hcz31_7,hfz31_0,hfz31_1,hfz31_2,hfz31_3,hfz31_4,hfz31_5,hfz31_6,hfz31_7⟩ := cells8 BK294.out
      have p308 : 0 ≤ (x5_2 : Int) := of_decide_eq_true Z164
      have q308 : x5_2 < (l0_7.length : Int) := of_decide_eq_true Z164
      obtain ⟨ad308,e308,hx308_0⟩ := Kd.at_int HR0_7.out x5_2 p308 q308
      cases e308
      replace hx308_0 := (HB.out.cell (World.block_lt_of_cell? w _ hx308_0)).trans hx308_0
      replace p308 := eq_true p308
      replace q308 := eq_true q308
      go_wp2_with (first | ((with_reducible refine gate_callee (f := 40) rfl ?_);refine goesL_ (some 38) rfl rfl Tryz.func40 Z190 rfl #[.int .i64 (rd l0_7 x5_2),.int .i64 (-1),.int .i64 1] rfl Z130 ?_;(with_reducible refine (spec_l1In.calls (rd l0_7 x5_2) (-1) 1 true _ A29.out).mono ?_);rintro e w' ⟨rfl,⟨nd,rfl⟩⟩;refine ⟨_,rfl,?_⟩))
      go_roundg k2
      case measure => have := HK1.out;have := HK2.out;omega
      case rel => exact ⟨(wrap64 (x5_2 + 1)),Z165,H',⟨Z167⟩,⟨Z177⟩,⟨Z121⟩⟩
   rw [if_pos c6] at H
   have c6b0 : decide (x4_1 < 5) = true := decide_eq_true c6
   clear c6
   obtain ⟨c7,H⟩ := ifp H
   have c7b0 : decide (0 ≤ x4_1) = true := decide_eq_true c7
   clear c7
   obtain ⟨c8,H⟩ := ifp H
   have c8b0 : decide (x4_1 < (t295.length : Int)) = true := decide_eq_true c8
   clear c8
   obtain ⟨t299,A90,H⟩ := Option.bind_eq_some_iff.mp H
   have A9 := Aside0.mk A90
   clear A90
   obtain ⟨c10,H⟩ := ifp H
   have c10b0 : decide (x4_1 < (t299.length : Int)) = true := decide_eq_true c10
   clear c10
   obtain ⟨t303,A110,H⟩ := Option.bind_eq_some_iff.mp H
   have A11 := Aside0.mk A110
   clear A110
   obtain ⟨c12,H⟩ := ifp H
   have c12b0 : decide (x4_1 < (t303.length : Int)) = true := decide_eq_true c12
   clear c12
   obtain ⟨t307,A130,H⟩ := Option.bind_eq_some_iff.mp H
   have A13 := Aside0.mk A130
   clear A130
   by_cases c14 : t307 = true
   rotate_left
   ·replace c14 := Bool.eq_false_iff.mpr c14
    subst c14
    rw [if_neg Bool.false_ne_true] at H
    obtain rfl := Option.some.inj H
    try go_wp2
    have n_ := jA (Kd.R_drew HO_3.out) (jA (blk_drew BK294.out) (Aside0.mk (below_drew1 HB.out)))
    clear HO_3 BK294 HB
    obtain ⟨HO_3,BK294,HB⟩ := n_
    obtain ⟨Ao22,co22,eo22⟩ := Kd.R_slice HO_3.out
    (first | subst eo22 | (injection eo22 with f1_ f2_ f3_;have f4_ := f1_.symm;have f5_ := f3_.symm;clear f1_ f2_ f3_;subst f4_;subst f5_))
    have p298 : 0 ≤ (x4_1 : Int) := of_decide_eq_true Z164
    have q298 : x4_1 < (t295.length : Int) := of_decide_eq_true Z164
    obtain ⟨ad298,e298,hx298_0⟩ := Kd.at_int (Kd.R_reads' HO_3.out).2.2 x4_1 p298 q298
    cases e298
    replace p298 := eq_true p298
    replace q298 := eq_true q298
    refine start_ (n := 14) (S := fun w' => w'.cell? (ad298.add (x4_1).toNat) = some (.int .i64 (rd t295 x4_1))) (ds := []) (qM 14 0) Z190 rfl (by kernel_rfl) hx298_0 (fun hHeld => ?_);refine with_tabW spec_ConfigOk.tab5 spec_ConfigOk.bits5 (fun HT_ HW_ => ?_)
    generalize wr.drew = w21 at HO_3 BK294 HB hx298_0 hHeld ⊢
    refine rP 0 12 14 1 HT_ (h := ?_)
    refine rP 1 13 14 3 HT_ (h := ?_)
    refine rP 2 14 14 7 HT_ (h := ?_)
    refine rP 5 17 14 39 HT_ (h := ?_)
    refine rP 9 21 14 551 HT_ (h := ?_)
    refine rT1 3 15 14 559 HT_ HW_ hHeld (h := ?_)
    refine rO 4 16 14 575 HT_ (h := fun K hK => ?_)
    refine goes_ Tryz.func41 Z190 rfl #[] Z191 rfl rfl Z130 ?_
    with_reducible refine (spec_l8Least.calls  t299 _ A9.out).mono ?_
    rintro e w23 ⟨v300,rfl,ho0,hb⟩
    have HS0_ := (hb.cell (World.block_lt_of_cell? _ _ (hHeld))).trans (hHeld)
    refine ⟨_,rfl,?_⟩
    have n_ := jA (Kd.R_elder' Z151 (Kd.R_base ho0) hb) (jA (Kd.R_lower (Kd.R_new' ho0 (Kd.R_lt Z151)) (below_size Z121)) (jA (blk_below (g := gb294) (o := .cells #[.int .i64 a0_0,.int .i64 a0_1,.int .i64 a0_2,.int .i64 a0_3,.int .i64 a0_4,.int .i64 a0_5,.int .i64 a0_6,.slice A0_7 l0_7.length c0_7] 26 (0,0)) Z177 hb) (Aside0.mk (below_step Z121 hb))))
    clear HO_3 BK294 HB
    obtain ⟨HO_3,HO301,BK294,HB⟩ := n_
    (try clear hb)
    (try clear hb2)
    (try clear hk)
    (try clear hi)
    (try clear ho0)
    obtain ⟨Ao24,co24,eo24⟩ := Kd.R_slice HO301.out
    (first | subst eo24 | (injection eo24 with f1_ f2_ f3_;have f4_ := f1_.symm;have f5_ := f3_.symm;clear f1_ f2_ f3_;subst f4_;subst f5_))
    have p302 : 0 ≤ (x4_1 : Int) := of_decide_eq_true Z164
    have q302 : x4_1 < (t299.length : Int) := of_decide_eq_true Z164
    obtain ⟨ad302,e302,hx302_0⟩ := Kd.at_int (Kd.R_reads' HO301.out).2.2 x4_1 p302 q302
    cases e302
    replace p302 := eq_true p302
    replace q302 := eq_true q302
    refine hK.out _ _ HS0_ (fun hHeld => ?_)
    refine spec_ConfigOk.change_ (S' := fun w' => w'.cell? (ad298.add (x4_1).toNat) = some (.int .i64 (rd t295 x4_1)) ∧ w'.cell? (ad302.add (x4_1).toNat) = some (.int .i64 (rd t299 x4_1))) (fun _ h => h.1) _ _ _ _ ⟨hHeld,hx302_0⟩ ?_
    have hHeld1 := (And.intro (hHeld) hx302_0)
    clear hHeld
    have hHeld := hHeld1
    clear hHeld1
    clear hK K
    refine rN (h := ?_)
    refine rP 6 18 14 639 HT_ (h := ?_)
    refine rT2 7 19 14 767 HT_ HW_ hHeld (h := ?_)
    refine rO 8 20 14 1023 HT_ (h := fun K hK => ?_)
    refine goes_ Tryz.func42 Z190 rfl #[] Z191 rfl rfl Z130 ?_
    with_reducible refine (spec_l8Most.calls  t303 _ A11.out).mono ?_
    rintro e w25 ⟨v304,rfl,ho0,hb⟩
    have HS0_ := (hb.cell (World.block_lt_of_cell? _ _ (hHeld.1))).trans (hHeld.1)
    have HS1_ := (hb.cell (World.block_lt_of_cell? _ _ (hHeld.2))).trans (hHeld.2)
    refine ⟨_,rfl,?_⟩
    have n_ := jA (Kd.R_elder' Z151 (Kd.R_base ho0) hb) (jA (Kd.R_elder' Z142 (Kd.R_base ho0) hb) (jA (Kd.R_lower (Kd.R_new' (Kd.R_new' ho0 (Kd.R_lt Z151)) (Kd.R_lt Z142)) (below_size Z121)) (jA (blk_below (g := gb294) (o := .cells #[.int .i64 a0_0,.int .i64 a0_1,.int .i64 a0_2,.int .i64 a0_3,.int .i64 a0_4,.int .i64 a0_5,.int .i64 a0_6,.slice A0_7 l0_7.length c0_7] 26 (0,0)) Z177 hb) (Aside0.mk (below_step Z121 hb)))))
    clear HO_3 HO301 BK294 HB
    obtain ⟨HO_3,HO301,HO305,BK294,HB⟩ := n_
    (try clear hb)
    (try clear hb2)
    (try clear hk)
    (try clear hi)
    (try clear ho0)
    obtain ⟨Ao26,co26,eo26⟩ := Kd.R_slice HO305.out
    (first | subst eo26 | (injection eo26 with f1_ f2_ f3_;have f4_ := f1_.symm;have f5_ := f3_.symm;clear f1_ f2_ f3_;subst f4_;subst f5_))
    have p306 : 0 ≤ (x4_1 : Int) := of_decide_eq_true Z164
    have q306 : x4_1 < (t303.length : Int) := of_decide_eq_true Z164
    obtain ⟨ad306,e306,hx306_0⟩ := Kd.at_int (Kd.R_reads' HO305.out).2.2 x4_1 p306 q306
    cases e306
    replace p306 := eq_true p306
    replace q306 := eq_true q306
    refine hK.out _ _ ⟨HS0_,HS1_⟩ (fun hHeld => ?_)
    refine spec_ConfigOk.change_ (S' := fun w' => w'.cell? (ad298.add (x4_1).toNat) = some (.int .i64 (rd t295 x4_1)) ∧ w'.cell? (ad302.add (x4_1).toNat) = some (.int .i64 (rd t299 x4_1)) ∧ w'.cell? (ad306.add (x4_1).toNat) = some (.int .i64 (rd t303 x4_1))) (fun _ h => ⟨h.1,h.2.1⟩) _ _ _ _ ⟨hHeld.1,hHeld.2,hx306_0⟩ ?_
    have hHeld1 := (And.intro (hHeld.1) (And.intro (hHeld.2) hx306_0))
    clear hHeld
    have hHeld := hHeld1
    clear hHeld1
    clear hK K
    refine rN (h := ?_)
    refine rP 10 22 14 2047 HT_ (h := ?_)
    refine rT3 11 23 14 4095 HT_ HW_ hHeld (h := ?_)
    refine rO 12 24 14 8191 HT_ (h := fun K hK => ?_)
    refine goes_ Tryz.func40 Z190 rfl #[.int .i64 (rd t295 x4_1),.int .i64 (rd t299 x4_1),.int .i64 (rd t303 x4_1)] Z191 rfl rfl Z130 ?_
    with_reducible refine (spec_l1In.calls (rd t295 x4_1) (rd t299 x4_1) (rd t303 x4_1) false _ A13.out).mono ?_
    rintro e w' ⟨rfl,⟨nd,rfl⟩⟩
    refine ⟨_,rfl,?_⟩
    refine hK.out _ _ ⟨hHeld.1,hHeld.2.1,hHeld.2.2⟩ (fun hHeld => ?_)
    clear hK K
    refine rN (h := ?_)
    refine rP 13 25 14 16383 HT_ (h := ?_)
    refine done_ (done_of HT_.out Z190) ?_
    try go_wp2
    go_ret
    exact ⟨Z152,Z121⟩
   subst c14
   rw [if_pos rfl] at H
   have H' := Aside0.mk H
   clear H
   try go_wp2
   have n_ := jA (Kd.R_drew HO_3.out) (jA (blk_drew BK294.out) (Aside0.mk (below_drew1 HB.out)))
   clear HO_3 BK294 HB
   obtain ⟨HO_3,BK294,HB⟩ := n_
   obtain ⟨Ao16,co16,eo16⟩ := Kd.R_slice HO_3.out
   (first | subst eo16 | (injection eo16 with f1_ f2_ f3_;have f4_ := f1_.symm;have f5_ := f3_.symm;clear f1_ f2_ f3_;subst f4_;subst f5_))
   have p298 : 0 ≤ (x4_1 : Int) := of_decide_eq_true Z164
   have q298 : x4_1 < (t295.length : Int) := of_decide_eq_true Z164
   obtain ⟨ad298,e298,hx298_0⟩ := Kd.at_int (Kd.R_reads' HO_3.out).2.2 x4_1 p298 q298
   cases e298
   replace p298 := eq_true p298
   replace q298 := eq_true q298
   refine start_ (n := 14) (S := fun w' => w'.cell? (ad298.add (x4_1).toNat) = some (.int .i64 (rd t295 x4_1))) (ds := []) (qM 14 0) Z190 rfl (by kernel_rfl) hx298_0 (fun hHeld => ?_);refine with_tabW spec_ConfigOk.tab5 spec_ConfigOk.bits5 (fun HT_ HW_ => ?_)
   generalize wr.drew = w15 at HO_3 BK294 HB hx298_0 hHeld ⊢
   refine rP 0 12 14 1 HT_ (h := ?_)
   refine rP 1 13 14 3 HT_ (h := ?_)
   refine rP 2 14 14 7 HT_ (h := ?_)
   refine rP 5 17 14 39 HT_ (h := ?_)
   refine rP 9 21 14 551 HT_ (h := ?_)
   refine rT1 3 15 14 559 HT_ HW_ hHeld (h := ?_)
   refine rO 4 16 14 575 HT_ (h := fun K hK => ?_)
   refine goes_ Tryz.func41 Z190 rfl #[] Z191 rfl rfl Z130 ?_
   with_reducible refine (spec_l8Least.calls  t299 _ A9.out).mono ?_
   rintro e w17 ⟨v300,rfl,ho0,hb⟩
   have HS0_ := (hb.cell (World.block_lt_of_cell? _ _ (hHeld))).trans (hHeld)
   refine ⟨_,rfl,?_⟩
   have n_ := jA (Kd.R_elder' Z151 (Kd.R_base ho0) hb) (jA (Kd.R_lower (Kd.R_new' ho0 (Kd.R_lt Z151)) (below_size Z121)) (jA (blk_below (g := gb294) (o := .cells #[.int .i64 a0_0,.int .i64 a0_1,.int .i64 a0_2,.int .i64 a0_3,.int .i64 a0_4,.int .i64 a0_5,.int .i64 a0_6,.slice A0_7 l0_7.length c0_7] 26 (0,0)) Z177 hb) (Aside0.mk (below_step Z121 hb))))
   clear HO_3 BK294 HB
   obtain ⟨HO_3,HO301,BK294,HB⟩ := n_
   (try clear hb)
   (try clear hb2)
   (try clear hk)
   (try clear hi)
   (try clear ho0)
   obtain ⟨Ao18,co18,eo18⟩ := Kd.R_slice HO301.out
   (first | subst eo18 | (injection eo18 with f1_ f2_ f3_;have f4_ := f1_.symm;have f5_ := f3_.symm;clear f1_ f2_ f3_;subst f4_;subst f5_))
   have p302 : 0 ≤ (x4_1 : Int) := of_decide_eq_true Z164
   have q302 : x4_1 < (t299.length : Int) := of_decide_eq_true Z164
   obtain ⟨ad302,e302,hx302_0⟩ := Kd.at_int (Kd.R_reads' HO301.out).2.2 x4_1 p302 q302
   cases e302
   replace p302 := eq_true p302
   replace q302 := eq_true q302
   refine hK.out _ _ HS0_ (fun hHeld => ?_)
   refine spec_ConfigOk.change_ (S' := fun w' => w'.cell? (ad298.add (x4_1).toNat) = some (.int .i64 (rd t295 x4_1)) ∧ w'.cell? (ad302.add (x4_1).toNat) = some (.int .i64 (rd t299 x4_1))) (fun _ h => h.1) _ _ _ _ ⟨hHeld,hx302_0⟩ ?_
   have hHeld1 := (And.intro (hHeld) hx302_0)
   clear hHeld
   have hHeld := hHeld1
   clear hHeld1
   clear hK K
   refine rN (h := ?_)
   refine rP 6 18 14 639 HT_ (h := ?_)
   refine rT2 7 19 14 767 HT_ HW_ hHeld (h := ?_)
   refine rO 8 20 14 1023 HT_ (h := fun K hK => ?_)
   refine goes_ Tryz.func42 Z190 rfl #[] Z191 rfl rfl Z130 ?_
   with_reducible refine (spec_l8Most.calls  t303 _ A11.out).mono ?_
   rintro e w19 ⟨v304,rfl,ho0,hb⟩
   have HS0_ := (hb.cell (World.block_lt_of_cell? _ _ (hHeld.1))).trans (hHeld.1)
   have HS1_ := (hb.cell (World.block_lt_of_cell? _ _ (hHeld.2))).trans (hHeld.2)
   refine ⟨_,rfl,?_⟩
   have n_ := jA (Kd.R_elder' Z151 (Kd.R_base ho0) hb) (jA (Kd.R_elder' Z142 (Kd.R_base ho0) hb) (jA (Kd.R_lower (Kd.R_new' (Kd.R_new' ho0 (Kd.R_lt Z151)) (Kd.R_lt Z142)) (below_size Z121)) (jA (blk_below (g := gb294) (o := .cells #[.int .i64 a0_0,.int .i64 a0_1,.int .i64 a0_2,.int .i64 a0_3,.int .i64 a0_4,.int .i64 a0_5,.int .i64 a0_6,.slice A0_7 l0_7.length c0_7] 26 (0,0)) Z177 hb) (Aside0.mk (below_step Z121 hb)))))
   clear HO_3 HO301 BK294 HB
   obtain ⟨HO_3,HO301,HO305,BK294,HB⟩ := n_
   (try clear hb)
   (try clear hb2)
   (try clear hk)
   (try clear hi)
   (try clear ho0)
   obtain ⟨Ao20,co20,eo20⟩ := Kd.R_slice HO305.out
   (first | subst eo20 | (injection eo20 with f1_ f2_ f3_;have f4_ := f1_.symm;have f5_ := f3_.symm;clear f1_ f2_ f3_;subst f4_;subst f5_))
   have p306 : 0 ≤ (x4_1 : Int) := of_decide_eq_true Z164
   have q306 : x4_1 < (t303.length : Int) := of_decide_eq_true Z164
   obtain ⟨ad306,e306,hx306_0⟩ := Kd.at_int (Kd.R_reads' HO305.out).2.2 x4_1 p306 q306
   cases e306
   replace p306 := eq_true p306
   replace q306 := eq_true q306
   refine hK.out _ _ ⟨HS0_,HS1_⟩ (fun hHeld => ?_)
   refine spec_ConfigOk.change_ (S' := fun w' => w'.cell? (ad298.add (x4_1).toNat) = some (.int .i64 (rd t295 x4_1)) ∧ w'.cell? (ad302.add (x4_1).toNat) = some (.int .i64 (rd t299 x4_1)) ∧ w'.cell? (ad306.add (x4_1).toNat) = some (.int .i64 (rd t303 x4_1))) (fun _ h => ⟨h.1,h.2.1⟩) _ _ _ _ ⟨hHeld.1,hHeld.2,hx306_0⟩ ?_
   have hHeld1 := (And.intro (hHeld.1) (And.intro (hHeld.2) hx306_0))
   clear hHeld
   have hHeld := hHeld1
   clear hHeld1
   clear hK K
   refine rN (h := ?_)
   refine rP 10 22 14 2047 HT_ (h := ?_)
   refine rT3 11 23 14 4095 HT_ HW_ hHeld (h := ?_)
   refine rO 12 24 14 8191 HT_ (h := fun K hK => ?_)
   refine goes_ Tryz.func40 Z190 rfl #[.int .i64 (rd t295 x4_1),.int .i64 (rd t299 x4_1),.int .i64 (rd t303 x4_1)] Z191 rfl rfl Z130 ?_
   with_reducible refine (spec_l1In.calls (rd t295 x4_1) (rd t299 x4_1) (rd t303 x4_1) true _ A13.out).mono ?_
   rintro e w' ⟨rfl,⟨nd,rfl⟩⟩
   refine ⟨_,rfl,?_⟩
   refine hK.out _ _ ⟨hHeld.1,hHeld.2.1,hHeld.2.2⟩ (fun hHeld => ?_)
   clear hK K
   refine rN (h := ?_)
   refine rP 13 25 14 16383 HT_ (h := ?_)
   refine done_ (done_of HT_.out Z190) ?_
   try go_wp2
   go_roundg k1
   case measure => have := HK1.out;omega
   case rel => exact ⟨(wrap64 (x4_1 + 1)),Z165,H',⟨Z184⟩,⟨by (with_reducible repeat (first | apply Kd.R_alloc | apply Kd.R_drewN | apply Kd.R_drew));exact Kd.R_mono HO_3.out (fun _ hk => trivial)⟩,⟨Z177⟩,⟨Z121⟩⟩

/-! ### spec_l8Words: function 20 -/
def spec_l8Words.f  : Option (List ByteArray) := some (([(⟨#[114,111,117,110,100,115]⟩ : ByteArray),(⟨#[100,101,112,116,104]⟩ : ByteArray),(⟨#[98,105,110,115]⟩ : ByteArray),(⟨#[108,97,109,98,100,97]⟩ : ByteArray),(⟨#[114,111,119,115]⟩ : ByteArray),(⟨#[114,97,116,101]⟩ : ByteArray),(⟨#[115,105,103,110,115]⟩ : ByteArray)] : List ByteArray))
set_option maxHeartbeats 8000000 in
set_option maxRecDepth 100000 in
theorem spec_l8Words.calls  (r : List ByteArray) (w : World) (h : spec_l8Words.f  = some r) :
  Calls Tryz.prog 20 #[] w fun e w' => ∃ v0_ : Value,e = .returned (v0_) ∧ Kd.R Kd.string 9 w' w.heap.size (fun _ => True) v0_ r ∧ Below w.heap.size w w' := by
 have HB := Aside0.mk (Below.refl w.heap.size w)
 have H := h
 clear h
 unfold spec_l8Words.f at H
 obtain ⟨y312,hyy⟩ : ∃ y_ : List ByteArray,y_ = (([(⟨#[114,111,117,110,100,115]⟩ : ByteArray),(⟨#[100,101,112,116,104]⟩ : ByteArray),(⟨#[98,105,110,115]⟩ : ByteArray),(⟨#[108,97,109,98,100,97]⟩ : ByteArray),(⟨#[114,111,119,115]⟩ : ByteArray),(⟨#[114,97,116,101]⟩ : ByteArray),(⟨#[115,105,103,110,115]⟩ : ByteArray)] : List ByteArray)) := ⟨_,rfl⟩
 replace H : (some y312) = some r := zR
 have Ny312 := Aside0.mk hyy
 clear hyy
 obtain rfl := Option.some.inj H
 go_enter Tryz.func20,Tryz.ntmps20
 go_wp2_with (first | ((with_reducible refine gate_dst (N := 1) rfl ?_);refine Kd.R_lit Kd.string _ 9 ?hg (N := 1) ?hd (xs := ([(⟨#[114,111,117,110,100,115]⟩ : ByteArray),(⟨#[100,101,112,116,104]⟩ : ByteArray),(⟨#[98,105,110,115]⟩ : ByteArray),(⟨#[108,97,109,98,100,97]⟩ : ByteArray),(⟨#[114,111,119,115]⟩ : ByteArray),(⟨#[114,97,116,101]⟩ : ByteArray),(⟨#[115,105,103,110,115]⟩ : ByteArray)] : List ByteArray)) (inner := [.string (⟨#[114,111,117,110,100,115]⟩ : ByteArray),.string (⟨#[100,101,112,116,104]⟩ : ByteArray),.string (⟨#[98,105,110,115]⟩ : ByteArray),.string (⟨#[108,97,109,98,100,97]⟩ : ByteArray),.string (⟨#[114,111,119,115]⟩ : ByteArray),.string (⟨#[114,97,116,101]⟩ : ByteArray),.string (⟨#[115,105,103,110,115]⟩ : ByteArray)]) (ok := fun _ => True) (okp := fun _ => True) ?hr ?hp (fun _ hk => hk) trivial (Below.refl _ _) (Nat.le_refl _) Z286 ?_;(case hd => rfl);(case hg => rfl);(case hr => exact Z166);(case hp => exact Z31);intro vq1 wq2 hoq3 hb hg_ hnew_;clear hg_ hnew_;(first | rw [← Ny312.out] at hoq3 | (simp only [Int.reduceToNat] at hoq3;rw [← Ny312.out] at hoq3));have n_ := Z56;clear HB;obtain ⟨HO314,HB⟩ := n_;clear hb hoq3))
 go_ret
 exact ⟨_,Z152,by (with_reducible repeat (first | apply Kd.R_alloc | apply Kd.R_drewN | apply Kd.R_drew));exact HO314.out,Z298⟩

end Go.Proofs.YtepnbcdbagjmbaeGreatDoor.QFnConfig
