/- The machine side of FnExactMayPart: what each Go function that it reaches comes to. Conditions: none. -/
import Derived.Test.YtaepeajaefpooaaQFnExactMayPartx0
import Derived.Test.YtaepeajaefpooaaQFnExactMayPartx1
namespace Go.Proofs.Ytaepeajaefpooaa.QFnExactMayPart
open Go.RowKit Go.Proofs.YtaepeajaefpooaaW.PrintWords Go.Proofs.YtaepeajaefpooaaW.PrintLast Go.Proofs.YtaepeajaefpooaaW.PrintMore
attribute [local go_sem] max2_int min2_int max_two min_two max_three min_three max_four min_four   -- for this text's walks alone
set_option linter.unusedVariables false
set_option linter.unusedSimpArgs false

/-! ### spec_ConfigOk: function 32 -/
theorem spec_ConfigOk.change_ {P : Program} {md : Region.Mode} {ops : Array Oper} {Q : Exit → Act → World → Prop} {S S' : World → Prop} (hsub : ∀ w,S' w → S w) : ∀ (fuel : Nat) (l : Array Bool) (a : Act) (w : World),S' w → wpAnyLast P md ops Q S' [] fuel l a w → wpAnyLast P md ops Q S [] fuel l a w
 | 0,_,_,_,_,h => h
 | fuel + 1,_,_,_,hS,h => ⟨h.1,fun i hi => wpOp_mono (fun a' w' h' => ⟨fun _ _ => hsub _ (h'.1 Z553 hS),spec_ConfigOk.change_ hsub fuel _ a' w' (h'.1 Z553 hS) h'.2⟩) (h.2 i hi)⟩
mutual
def spec_ConfigOk.l0 : Nat → List Int → Int → Int → Int → Int → Int → Int → Int → Int → List Int → Option (Bool)
 | 0,_,_,_,_,_,_,_,_,_,_ => none
 | k + 1,x3,x4,x135000,x135001,x135002,x135003,x135004,x135005,x135006,x135007 => if x4 < 5 then (if 0 ≤ x4 then (if x4 < (x3.length : Int) then ((spec_l8Least.f).bind fun t139 => (if x4 < (t139.length : Int) then ((spec_l8Most.f).bind fun t143 => (if x4 < (t143.length : Int) then ((spec_l1In.f (rd x3 x4) (rd t139 x4) (rd t143 x4)).bind fun t147 => (if t147 = true then (spec_ConfigOk.l0 k x3 (wrap64 (x4 + 1)) x135000 x135001 x135002 x135003 x135004 x135005 x135006 x135007) else (some false))) else (none))) else (none))) else (none)) else (none)) else (spec_ConfigOk.l1 k 0 x135000 x135001 x135002 x135003 x135004 x135005 x135006 x135007)
def spec_ConfigOk.l1 : Nat → Int → Int → Int → Int → Int → Int → Int → Int → List Int → Option (Bool)
 | 0,_,_,_,_,_,_,_,_,_ => none
 | k + 1,x5,x135000,x135001,x135002,x135003,x135004,x135005,x135006,x135007 => if x5 < (x135007.length : Int) then (if 0 ≤ x5 then ((spec_l1In.f (rd x135007 x5) (-1) 1).bind fun t149 => (if t149 = true then (spec_ConfigOk.l1 k (wrap64 (x5 + 1)) x135000 x135001 x135002 x135003 x135004 x135005 x135006 x135007) else (some false))) else (none)) else ((spec_l1In.f x135006 1 1000).bind fun t150 => (if t150 = true then ((spec_l1In.f x135005 1 x135006).bind fun t151 => (if t151 = true then (some (decide ((x135007.length : Int) ≤ 4))) else (some false))) else (some false)))
end
def spec_ConfigOk.f (k : Nat) (a0_0 : Int) (a0_1 : Int) (a0_2 : Int) (a0_3 : Int) (a0_4 : Int) (a0_5 : Int) (a0_6 : Int) (l0_7 : List Int) : Option (Bool) := (spec_l8Numbers.f a0_0 a0_1 a0_2 a0_3 a0_4 a0_5 a0_6 l0_7).bind fun t135 => (spec_ConfigOk.l0 k t135 0 a0_0 a0_1 a0_2 a0_3 a0_4 a0_5 a0_6 l0_7)
theorem spec_ConfigOk.mono_l : ∀ k,(∀ y0 y1 y2 y3 y4 y5 y6 y7 y8 y9,LeO (spec_ConfigOk.l0 k y0 y1 y2 y3 y4 y5 y6 y7 y8 y9) (spec_ConfigOk.l0 (k + 1) y0 y1 y2 y3 y4 y5 y6 y7 y8 y9)) ∧ (∀ y0 y1 y2 y3 y4 y5 y6 y7 y8,LeO (spec_ConfigOk.l1 k y0 y1 y2 y3 y4 y5 y6 y7 y8) (spec_ConfigOk.l1 (k + 1) y0 y1 y2 y3 y4 y5 y6 y7 y8))
 | 0 => ⟨fun _ _ _ _ _ _ _ _ _ _ r h => by simp [spec_ConfigOk.l0] at h,fun _ _ _ _ _ _ _ _ _ r h => by simp [spec_ConfigOk.l1] at h⟩
 | k + 1 => by
  obtain ⟨ih0,ih1⟩ := spec_ConfigOk.mono_l k
  refine ⟨?_,?_⟩
  ·intro y0 y1 y2 y3 y4 y5 y6 y7 y8 y9
   unfold spec_ConfigOk.l0
   repeat' first
   | (with_reducible exact ih0 _ _ _ _ _ _ _ _ _ _)
   | (with_reducible exact ih1 _ _ _ _ _ _ _ _ _)
   | (with_reducible exact LeO.refl _)
   | (with_reducible exact LeO.none _)
   | (with_reducible refine LeO.ite ?_ ?_)
   | (with_reducible refine LeO.bind ?_ (fun _ => ?_))
   | exact ih0 _ _ _ _ _ _ _ _ _ _
   | exact ih1 _ _ _ _ _ _ _ _ _
   | exact LeO.none _
   | refine LeO.ite ?_ ?_
   | refine LeO.bind ?_ (fun _ => ?_)
  ·intro y0 y1 y2 y3 y4 y5 y6 y7 y8
   unfold spec_ConfigOk.l1
   repeat' first
   | (with_reducible exact ih0 _ _ _ _ _ _ _ _ _ _)
   | (with_reducible exact ih1 _ _ _ _ _ _ _ _ _)
   | (with_reducible exact LeO.refl _)
   | (with_reducible exact LeO.none _)
   | (with_reducible refine LeO.ite ?_ ?_)
   | (with_reducible refine LeO.bind ?_ (fun _ => ?_))
   | exact ih0 _ _ _ _ _ _ _ _ _ _
   | exact ih1 _ _ _ _ _ _ _ _ _
   | exact LeO.none _
   | refine LeO.ite ?_ ?_
   | refine LeO.bind ?_ (fun _ => ?_)
theorem spec_ConfigOk.mono : ∀ a0 a1 a2 a3 a4 a5 a6 a7 k,LeO (spec_ConfigOk.f k a0 a1 a2 a3 a4 a5 a6 a7) (spec_ConfigOk.f (k + 1) a0 a1 a2 a3 a4 a5 a6 a7) := by
 intro a0 a1 a2 a3 a4 a5 a6 a7 k
 obtain ⟨ih0,ih1⟩ := spec_ConfigOk.mono_l k
 unfold spec_ConfigOk.f
 repeat' first
   | (with_reducible exact ih0 _ _ _ _ _ _ _ _ _ _)
   | (with_reducible exact ih1 _ _ _ _ _ _ _ _ _)
   | (with_reducible exact LeO.refl _)
   | (with_reducible exact LeO.none _)
   | (with_reducible refine LeO.ite ?_ ?_)
   | (with_reducible refine LeO.bind ?_ (fun _ => ?_))
   | exact ih0 _ _ _ _ _ _ _ _ _ _
   | exact ih1 _ _ _ _ _ _ _ _ _
   | exact LeO.none _
   | refine LeO.ite ?_ ?_
   | refine LeO.bind ?_ (fun _ => ?_)
def spec_ConfigOk.T5 : Bool × List (List Nat × List Nat) := (true,[([],[]),([],[]),([0,1],[0,1]),([2],[2]),([],[]),([],[]),([4,5],[4,5]),([6],[6]),([4],[]),([],[]),([8,9],[8,9]),([10],[10]),([3,7,11,8],[3,7,11]),([12],[12])])
def spec_ConfigOk.B5 : List Nat := [0,0,3,7,0,0,48,112,16,0,784,1808,4095,8191]
theorem spec_ConfigOk.tab5 : rtab .any (opsOf Try.f32 5) = spec_ConfigOk.T5 := by kernel_rfl
theorem spec_ConfigOk.bits5 : waitsOk spec_ConfigOk.T5.2 spec_ConfigOk.B5 = true := by kernel_rfl
set_option maxHeartbeats 8000000 in
set_option maxRecDepth 100000 in
theorem spec_ConfigOk.calls (k : Nat) (a0_0 : Int) (a0_1 : Int) (a0_2 : Int) (a0_3 : Int) (a0_4 : Int) (a0_5 : Int) (a0_6 : Int) (A0_7 : Option Addr) (c0_7 : Nat) (l0_7 : List Int) (r : Bool) (w : World) (hr0_7 : Kd.C (Kd.int .i64) w A0_7 l0_7.length l0_7) (hc0_7 : l0_7.length ≤ c0_7) (h : spec_ConfigOk.f k a0_0 a0_1 a0_2 a0_3 a0_4 a0_5 a0_6 l0_7 = some r) :
  Calls Try.prog 32 #[.agg #[.int .i64 a0_0,.int .i64 a0_1,.int .i64 a0_2,.int .i64 a0_3,.int .i64 a0_4,.int .i64 a0_5,.int .i64 a0_6,.slice A0_7 l0_7.length c0_7]] w fun e w' => e = .returned (.bool r) ∧ Below w.heap.size w w' := by
 have hu33 := Try.underlying33
 have HR0_7 := Aside0.mk hr0_7
 have HC0_7 := Aside0.mk hc0_7
 clear hr0_7 hc0_7
 have HB := Aside0.mk (Below.refl w.heap.size w)
 have H := h
 clear h
 unfold spec_ConfigOk.f at H
 obtain ⟨t135,A20,H⟩ := Option.bind_eq_some_iff.mp H
 have A2 := Aside0.mk A20
 clear A20
 have H' := Aside0.mk H
 clear H
 go_enter Try.func32,Try.ntmps32
 go_wp2_with (first | ((with_reducible refine gate_dst (N := 1) rfl ?_);(try (refine gate_guard Z314 ?_;dsimp only));refine bE 1 #[.int .i64 a0_0,.int .i64 a0_1,.int .i64 a0_2,.int .i64 a0_3,.int .i64 a0_4,.int .i64 a0_5,.int .i64 a0_6,.slice A0_7 l0_7.length c0_7] 33 (h := ?_);intro gb134 hg w3 hbox hb;have n_ := jA (below_step Z614 hb) (jA (hbox) (jA ((Z456 : w.heap.size ≤ gb134)) (Aside0.mk ((Z456 : w.heap.size ≤ gb134)))));clear HB;obtain ⟨HB,BK134,GW134,GE134⟩ := n_;clear hb hbox hg;obtain ⟨hcz4_0,hcz4_1,hcz4_2,hcz4_3,hcz4_4,hcz4_5,hcz4_6,hcz4_7,hfz4_0,hfz4_1,hfz4_2,hfz4_3,hfz4_4,hfz4_5,hfz4_6,hfz4_7⟩ := cells8 BK134.out) | ((with_reducible refine gate_callee (f := 77) rfl ?_);refine goesL_ (some 7) rfl rfl Try.func77 Z312 rfl #[.agg #[.int .i64 a0_0,.int .i64 a0_1,.int .i64 a0_2,.int .i64 a0_3,.int .i64 a0_4,.int .i64 a0_5,.int .i64 a0_6,.slice A0_7 l0_7.length c0_7]] rfl Z256 ?_;(with_reducible refine (spec_l8Numbers.calls a0_0 a0_1 a0_2 a0_3 a0_4 a0_5 a0_6 _ _ l0_7 t135 _ ?side1 ?side2 A2.out).mono ?_);(case side1 => exact Z224);(case side2 => exact Z311);rintro e w5 ⟨v136,rfl,ho0,hb⟩;refine ⟨_,rfl,?_⟩;have n_ := jA (Kd.R_lower ho0 (below_size Z240)) (jA (blk_below (g := gb134) (o := .cells #[.int .i64 a0_0,.int .i64 a0_1,.int .i64 a0_2,.int .i64 a0_3,.int .i64 a0_4,.int .i64 a0_5,.int .i64 a0_6,.slice A0_7 l0_7.length c0_7] 33 (0,0)) Z293 hb) (Aside0.mk (below_step Z240 hb)));clear BK134 HB;obtain ⟨HO137,BK134,HB⟩ := n_;(try clear hb);(try clear hb2);(try clear hk);(try clear hi);(try clear ho0)))
 go_loopg [4] k (fun kq v4 w' => ∃ (x4_1 : Int),v4 = .int .i64 x4_1 ∧ Aside0 (spec_ConfigOk.l0 kq t135 x4_1 a0_0 a0_1 a0_2 a0_3 a0_4 a0_5 a0_6 l0_7 = some r) ∧ Aside0 (kq ≤ k) ∧ Aside0 (Kd.R (Kd.int .i64) 3 w' w.heap.size (fun _ => True) v136 t135) ∧ Aside0 (w'.heap[gb134]? = some (.cells #[.int .i64 a0_0,.int .i64 a0_1,.int .i64 a0_2,.int .i64 a0_3,.int .i64 a0_4,.int .i64 a0_5,.int .i64 a0_6,(.slice A0_7 l0_7.length c0_7)] 33 (0,0))) ∧ Aside0 (Below w.heap.size w w'))
 case atStart => exact ⟨(0),Z289,H',⟨Nat.le_refl _⟩,⟨by (with_reducible repeat (first | apply Kd.R_alloc | apply Kd.R_drewN | apply Kd.R_drew));exact HO137.out⟩,⟨Z293⟩,⟨Z240⟩⟩
 case round =>
  clear H'
  try clear p2
  try clear c3
  try clear hcz4_0
  try clear hcz4_1
  try clear hcz4_2
  try clear hcz4_3
  try clear hcz4_4
  try clear hcz4_5
  try clear hcz4_6
  try clear hcz4_7
  try clear hfz4_0
  try clear hfz4_1
  try clear hfz4_2
  try clear hfz4_3
  try clear hfz4_4
  try clear hfz4_5
  try clear hfz4_6
  try clear hfz4_7
  obtain ⟨x4_1,rfl,HA,HK1,HO_3,BK134,HB⟩ := hrel
  cases gk with
  | zero => exact absurd HA.out (by simp [spec_ConfigOk.l0])
  | succ k1 =>
   have H := HA.out
   clear HA
   simp only [spec_ConfigOk.l0] at H
   by_cases c6 : x4_1 < 5
   ·rw [if_pos c6] at H
    have c6b0 : decide (x4_1 < 5) = true := decide_eq_true c6
    clear c6
    by_cases c7 : 0 ≤ x4_1
    ·rw [if_pos c7] at H
     have c7b0 : decide (0 ≤ x4_1) = true := decide_eq_true c7
     clear c7
     by_cases c8 : x4_1 < (t135.length : Int)
     ·rw [if_pos c8] at H
      have c8b0 : decide (x4_1 < (t135.length : Int)) = true := decide_eq_true c8
      clear c8
      obtain ⟨t139,A90,H⟩ := Option.bind_eq_some_iff.mp H
      have A9 := Aside0.mk A90
      clear A90
      by_cases c10 : x4_1 < (t139.length : Int)
      ·rw [if_pos c10] at H
       have c10b0 : decide (x4_1 < (t139.length : Int)) = true := decide_eq_true c10
       clear c10
       obtain ⟨t143,A110,H⟩ := Option.bind_eq_some_iff.mp H
       have A11 := Aside0.mk A110
       clear A110
       by_cases c12 : x4_1 < (t143.length : Int)
       ·rw [if_pos c12] at H
        have c12b0 : decide (x4_1 < (t143.length : Int)) = true := decide_eq_true c12
        clear c12
        obtain ⟨t147,A130,H⟩ := Option.bind_eq_some_iff.mp H
        have A13 := Aside0.mk A130
        clear A130
        by_cases c14 : t147 = true
        ·subst c14
         rw [if_pos rfl] at H
         have H' := Aside0.mk H
         clear H
         try go_wp2
         have n0_ := Aside0.mk (Kd.R_drew HO_3.out)
         have n1_ := Aside0.mk (blk_drew BK134.out)
         have n2_ := Aside0.mk (below_drew1 HB.out)
         clear HO_3
         clear BK134
         clear HB
         have HO_3 := n0_
         have BK134 := n1_
         have HB := n2_
         clear n0_ n1_ n2_
         obtain ⟨Ao16,co16,eo16⟩ := Kd.R_slice HO_3.out
         (first | subst eo16 | (injection eo16 with f1_ f2_ f3_;have f4_ := f1_.symm;have f5_ := f3_.symm;clear f1_ f2_ f3_;subst f4_;subst f5_))
         have p138 : 0 ≤ (x4_1 : Int) := of_decide_eq_true Z288
         have q138 : x4_1 < (t135.length : Int) := of_decide_eq_true Z288
         obtain ⟨ad138,e138,hx138_0⟩ := Kd.at_int (Kd.R_reads' HO_3.out).2.2 x4_1 p138 q138
         cases e138
         replace p138 := eq_true p138
         replace q138 := eq_true q138
         refine start_ (n := 14) (S := fun w' => w'.cell? (ad138.add (x4_1).toNat) = some (.int .i64 (rd t135 x4_1))) (ds := []) #[false,false,false,false,false,false,false,false,false,false,false,false,false,false] Z312 rfl rfl hx138_0 (fun hHeld => ?_);refine with_tabW spec_ConfigOk.tab5 spec_ConfigOk.bits5 (fun HT_ HW_ => ?_)
         generalize wr.drew = w15 at HO_3 BK134 HB hx138_0 hHeld ⊢
         refine pure_ (i := 0) (N := some 12) (v := ?_) (a' := ?_) #[true,false,false,false,false,false,false,false,false,false,false,false,false,false] rfl rfl (any_of HT_.out Z312) (fun _ _ _ h => h) (Or.inl ⟨Z314,?_⟩) ?_ ?_
         rotate_left
         ·intro w'
          go_simp
          with_reducible rfl
         rotate_left
         ·simp only [Act.put,List.setIfInBounds_toArray,List.set_cons_zero,List.set_cons_succ,i64_w,i32_w]
          rfl
         refine pure_ (i := 1) (N := some 13) (v := ?_) (a' := ?_) #[true,true,false,false,false,false,false,false,false,false,false,false,false,false] rfl rfl (any_of HT_.out Z312) (fun _ _ _ h => h) (Or.inl ⟨Z314,?_⟩) ?_ ?_
         rotate_left
         ·intro w'
          go_simp
          with_reducible rfl
         rotate_left
         ·simp only [Act.put,List.setIfInBounds_toArray,List.set_cons_zero,List.set_cons_succ,i64_w,i32_w]
          rfl
         refine pure_ (i := 2) (N := some 14) (v := ?_) (a' := ?_) #[true,true,true,false,false,false,false,false,false,false,false,false,false,false] rfl rfl (any_of HT_.out Z312) (fun _ _ _ h => h) (Or.inl ⟨Z314,?_⟩) ?_ ?_
         rotate_left
         ·intro w'
          go_simp
          with_reducible rfl
         rotate_left
         ·simp only [Act.put,List.setIfInBounds_toArray,List.set_cons_zero,List.set_cons_succ,i64_w,i32_w]
          rfl
         refine pure_ (i := 5) (N := some 17) (v := ?_) (a' := ?_) #[true,true,true,false,false,true,false,false,false,false,false,false,false,false] rfl rfl (any_of HT_.out Z312) (fun _ _ _ h => h) (Or.inl ⟨Z314,?_⟩) ?_ ?_
         rotate_left
         ·intro w'
          go_simp
          with_reducible rfl
         rotate_left
         ·simp only [Act.put,List.setIfInBounds_toArray,List.set_cons_zero,List.set_cons_succ,i64_w,i32_w]
          rfl
         refine pure_ (i := 9) (N := some 21) (v := ?_) (a' := ?_) #[true,true,true,false,false,true,false,false,false,true,false,false,false,false] rfl rfl (any_of HT_.out Z312) (fun _ _ _ h => h) (Or.inl ⟨Z314,?_⟩) ?_ ?_
         rotate_left
         ·intro w'
          go_simp
          with_reducible rfl
         rotate_left
         ·simp only [Act.put,List.setIfInBounds_toArray,List.set_cons_zero,List.set_cons_succ,i64_w,i32_w]
          rfl
         refine take_ (i := 3) (N := some 15) (v := ?_) (a' := ?_) #[true,true,true,true,false,true,false,false,false,true,false,false,false,false] rfl rfl (take_ofW HT_.out HW_.out Z312) (fun _ _ _ h => h) (Or.inl ⟨Z314,?_⟩) hHeld ?_ ?_
         rotate_left
         ·rintro w' s0
          go_simp
          with_reducible rfl
         rotate_left
         ·simp only [Act.put,List.setIfInBounds_toArray,List.set_cons_zero,List.set_cons_succ,i64_w,i32_w]
          rfl
         refine one_ (i := 4) (N := some 16) #[true,true,true,true,true,true,false,false,false,true,false,false,false,false] rfl rfl (one_of HT_.out Z312) Z313 (fun K hK => ?_)
         refine goes_ Try.func78 Z312 rfl #[] Z314 rfl rfl Z256 ?_
         with_reducible refine (spec_l8Least.calls  t139 _ A9.out).mono ?_
         rintro e w17 ⟨v140,rfl,ho0,hb⟩
         have HS0_ := (hb.cell (World.block_lt_of_cell? _ _ (hHeld))).trans (hHeld)
         refine ⟨_,rfl,?_⟩
         have n0_ := Aside0.mk (Kd.R_elder' Z262 (Kd.R_base ho0) hb)
         have n1_ := Aside0.mk (Kd.R_lower (Kd.R_new' ho0 (Kd.R_lt Z262)) (below_size Z240))
         have n2_ := Aside0.mk (blk_below (g := gb134) (o := .cells #[.int .i64 a0_0,.int .i64 a0_1,.int .i64 a0_2,.int .i64 a0_3,.int .i64 a0_4,.int .i64 a0_5,.int .i64 a0_6,.slice A0_7 l0_7.length c0_7] 33 (0,0)) Z293 hb)
         have n3_ := Aside0.mk (below_step Z240 hb)
         clear HO_3
         clear BK134
         clear HB
         have HO_3 := n0_
         have HO141 := n1_
         have BK134 := n2_
         have HB := n3_
         clear n0_ n1_ n2_ n3_
         (try clear hb)
         (try clear hb2)
         (try clear hk)
         (try clear hi)
         (try clear ho0)
         obtain ⟨Ao18,co18,eo18⟩ := Kd.R_slice HO141.out
         (first | subst eo18 | (injection eo18 with f1_ f2_ f3_;have f4_ := f1_.symm;have f5_ := f3_.symm;clear f1_ f2_ f3_;subst f4_;subst f5_))
         have p142 : 0 ≤ (x4_1 : Int) := of_decide_eq_true Z288
         have q142 : x4_1 < (t139.length : Int) := of_decide_eq_true Z288
         obtain ⟨ad142,e142,hx142_0⟩ := Kd.at_int (Kd.R_reads' HO141.out).2.2 x4_1 p142 q142
         cases e142
         replace p142 := eq_true p142
         replace q142 := eq_true q142
         refine hK.out _ _ HS0_ (fun hHeld => ?_)
         refine spec_ConfigOk.change_ (S' := fun w' => w'.cell? (ad138.add (x4_1).toNat) = some (.int .i64 (rd t135 x4_1)) ∧ w'.cell? (ad142.add (x4_1).toNat) = some (.int .i64 (rd t139 x4_1))) (fun _ h => h.1) _ _ _ _ ⟨hHeld,hx142_0⟩ ?_
         have hHeld1 := (And.intro (hHeld) hx142_0)
         clear hHeld
         have hHeld := hHeld1
         clear hHeld1
         clear hK K
         refine norm_ (a' := ?_) ?_ ?_
         rotate_left
         ·show Act.put _ (some 16) _ = _
          simp only [Act.put,List.setIfInBounds_toArray,List.set_cons_zero,List.set_cons_succ,i64_w,i32_w]
          rfl
         refine pure_ (i := 6) (N := some 18) (v := ?_) (a' := ?_) #[true,true,true,true,true,true,true,false,false,true,false,false,false,false] rfl rfl (any_of HT_.out Z312) (fun _ _ _ h => h) (Or.inl ⟨Z314,?_⟩) ?_ ?_
         rotate_left
         ·intro w'
          go_simp
          with_reducible rfl
         rotate_left
         ·simp only [Act.put,List.setIfInBounds_toArray,List.set_cons_zero,List.set_cons_succ,i64_w,i32_w]
          rfl
         refine take_ (i := 7) (N := some 19) (v := ?_) (a' := ?_) #[true,true,true,true,true,true,true,true,false,true,false,false,false,false] rfl rfl (take_ofW HT_.out HW_.out Z312) (fun _ _ _ h => h) (Or.inl ⟨Z314,?_⟩) hHeld ?_ ?_
         rotate_left
         ·rintro w' ⟨s0,s1⟩
          go_simp
          with_reducible rfl
         rotate_left
         ·simp only [Act.put,List.setIfInBounds_toArray,List.set_cons_zero,List.set_cons_succ,i64_w,i32_w]
          rfl
         refine one_ (i := 8) (N := some 20) #[true,true,true,true,true,true,true,true,true,true,false,false,false,false] rfl rfl (one_of HT_.out Z312) Z313 (fun K hK => ?_)
         refine goes_ Try.func79 Z312 rfl #[] Z314 rfl rfl Z256 ?_
         with_reducible refine (spec_l8Most.calls  t143 _ A11.out).mono ?_
         rintro e w19 ⟨v144,rfl,ho0,hb⟩
         have HS0_ := (hb.cell (World.block_lt_of_cell? _ _ (hHeld.1))).trans (hHeld.1)
         have HS1_ := (hb.cell (World.block_lt_of_cell? _ _ (hHeld.2))).trans (hHeld.2)
         refine ⟨_,rfl,?_⟩
         have n0_ := Aside0.mk (Kd.R_elder' Z262 (Kd.R_base ho0) hb)
         have n1_ := Aside0.mk (Kd.R_elder' Z261 (Kd.R_base ho0) hb)
         have n2_ := Aside0.mk (Kd.R_lower (Kd.R_new' (Kd.R_new' ho0 (Kd.R_lt Z262)) (Kd.R_lt Z261)) (below_size Z240))
         have n3_ := Aside0.mk (blk_below (g := gb134) (o := .cells #[.int .i64 a0_0,.int .i64 a0_1,.int .i64 a0_2,.int .i64 a0_3,.int .i64 a0_4,.int .i64 a0_5,.int .i64 a0_6,.slice A0_7 l0_7.length c0_7] 33 (0,0)) Z293 hb)
         have n4_ := Aside0.mk (below_step Z240 hb)
         clear HO_3
         clear HO141
         clear BK134
         clear HB
         have HO_3 := n0_
         have HO141 := n1_
         have HO145 := n2_
         have BK134 := n3_
         have HB := n4_
         clear n0_ n1_ n2_ n3_ n4_
         (try clear hb)
         (try clear hb2)
         (try clear hk)
         (try clear hi)
         (try clear ho0)
         obtain ⟨Ao20,co20,eo20⟩ := Kd.R_slice HO145.out
         (first | subst eo20 | (injection eo20 with f1_ f2_ f3_;have f4_ := f1_.symm;have f5_ := f3_.symm;clear f1_ f2_ f3_;subst f4_;subst f5_))
         have p146 : 0 ≤ (x4_1 : Int) := of_decide_eq_true Z288
         have q146 : x4_1 < (t143.length : Int) := of_decide_eq_true Z288
         obtain ⟨ad146,e146,hx146_0⟩ := Kd.at_int (Kd.R_reads' HO145.out).2.2 x4_1 p146 q146
         cases e146
         replace p146 := eq_true p146
         replace q146 := eq_true q146
         refine hK.out _ _ ⟨HS0_,HS1_⟩ (fun hHeld => ?_)
         refine spec_ConfigOk.change_ (S' := fun w' => w'.cell? (ad138.add (x4_1).toNat) = some (.int .i64 (rd t135 x4_1)) ∧ w'.cell? (ad142.add (x4_1).toNat) = some (.int .i64 (rd t139 x4_1)) ∧ w'.cell? (ad146.add (x4_1).toNat) = some (.int .i64 (rd t143 x4_1))) (fun _ h => ⟨h.1,h.2.1⟩) _ _ _ _ ⟨hHeld.1,hHeld.2,hx146_0⟩ ?_
         have hHeld1 := (And.intro (hHeld.1) (And.intro (hHeld.2) hx146_0))
         clear hHeld
         have hHeld := hHeld1
         clear hHeld1
         clear hK K
         refine norm_ (a' := ?_) ?_ ?_
         rotate_left
         ·show Act.put _ (some 20) _ = _
          simp only [Act.put,List.setIfInBounds_toArray,List.set_cons_zero,List.set_cons_succ,i64_w,i32_w]
          rfl
         refine pure_ (i := 10) (N := some 22) (v := ?_) (a' := ?_) #[true,true,true,true,true,true,true,true,true,true,true,false,false,false] rfl rfl (any_of HT_.out Z312) (fun _ _ _ h => h) (Or.inl ⟨Z314,?_⟩) ?_ ?_
         rotate_left
         ·intro w'
          go_simp
          with_reducible rfl
         rotate_left
         ·simp only [Act.put,List.setIfInBounds_toArray,List.set_cons_zero,List.set_cons_succ,i64_w,i32_w]
          rfl
         refine take_ (i := 11) (N := some 23) (v := ?_) (a' := ?_) #[true,true,true,true,true,true,true,true,true,true,true,true,false,false] rfl rfl (take_ofW HT_.out HW_.out Z312) (fun _ _ _ h => h) (Or.inl ⟨Z314,?_⟩) hHeld ?_ ?_
         rotate_left
         ·rintro w' ⟨s0,s1,s2⟩
          go_simp
          with_reducible rfl
         rotate_left
         ·simp only [Act.put,List.setIfInBounds_toArray,List.set_cons_zero,List.set_cons_succ,i64_w,i32_w]
          rfl
         refine one_ (i := 12) (N := some 24) #[true,true,true,true,true,true,true,true,true,true,true,true,true,false] rfl rfl (one_of HT_.out Z312) Z313 (fun K hK => ?_)
         refine goes_ Try.func46 Z312 rfl #[.int .i64 (rd t135 x4_1),.int .i64 (rd t139 x4_1),.int .i64 (rd t143 x4_1)] Z314 rfl rfl Z256 ?_
         with_reducible refine (spec_l1In.calls (rd t135 x4_1) (rd t139 x4_1) (rd t143 x4_1) true _ A13.out).mono ?_
         rintro e w' ⟨rfl,⟨nd,rfl⟩⟩
         refine ⟨_,rfl,?_⟩
         refine hK.out _ _ ⟨hHeld.1,hHeld.2.1,hHeld.2.2⟩ (fun hHeld => ?_)
         clear hK K
         refine norm_ (a' := ?_) ?_ ?_
         rotate_left
         ·show Act.put _ (some 24) _ = _
          simp only [Act.put,List.setIfInBounds_toArray,List.set_cons_zero,List.set_cons_succ,i64_w,i32_w]
          rfl
         refine pure_ (i := 13) (N := some 25) (v := ?_) (a' := ?_) #[true,true,true,true,true,true,true,true,true,true,true,true,true,true] rfl rfl (any_of HT_.out Z312) (fun _ _ _ h => h) (Or.inl ⟨Z314,?_⟩) ?_ ?_
         rotate_left
         ·intro w'
          go_simp
          with_reducible rfl
         rotate_left
         ·simp only [Act.put,List.setIfInBounds_toArray,List.set_cons_zero,List.set_cons_succ,i64_w,i32_w]
          rfl
         refine done_ (done_of HT_.out Z312) ?_
         try go_wp2
         go_roundg k1
         case measure => have := HK1.out;omega
         case rel => exact ⟨(wrap64 (x4_1 + 1)),Z289,H',⟨Z310⟩,⟨by (with_reducible repeat (first | apply Kd.R_alloc | apply Kd.R_drewN | apply Kd.R_drew));exact Kd.R_mono HO_3.out (fun _ hk => trivial)⟩,⟨Z293⟩,⟨Z240⟩⟩
        ·replace c14 := Bool.eq_false_iff.mpr c14
         subst c14
         rw [if_neg Bool.false_ne_true] at H
         obtain rfl := Option.some.inj H
         try go_wp2
         have n0_ := Aside0.mk (Kd.R_drew HO_3.out)
         have n1_ := Aside0.mk (blk_drew BK134.out)
         have n2_ := Aside0.mk (below_drew1 HB.out)
         clear HO_3
         clear BK134
         clear HB
         have HO_3 := n0_
         have BK134 := n1_
         have HB := n2_
         clear n0_ n1_ n2_
         obtain ⟨Ao22,co22,eo22⟩ := Kd.R_slice HO_3.out
         (first | subst eo22 | (injection eo22 with f1_ f2_ f3_;have f4_ := f1_.symm;have f5_ := f3_.symm;clear f1_ f2_ f3_;subst f4_;subst f5_))
         have p138 : 0 ≤ (x4_1 : Int) := of_decide_eq_true Z288
         have q138 : x4_1 < (t135.length : Int) := of_decide_eq_true Z288
         obtain ⟨ad138,e138,hx138_0⟩ := Kd.at_int (Kd.R_reads' HO_3.out).2.2 x4_1 p138 q138
         cases e138
         replace p138 := eq_true p138
         replace q138 := eq_true q138
         refine start_ (n := 14) (S := fun w' => w'.cell? (ad138.add (x4_1).toNat) = some (.int .i64 (rd t135 x4_1))) (ds := []) #[false,false,false,false,false,false,false,false,false,false,false,false,false,false] Z312 rfl rfl hx138_0 (fun hHeld => ?_);refine with_tabW spec_ConfigOk.tab5 spec_ConfigOk.bits5 (fun HT_ HW_ => ?_)
         generalize wr.drew = w21 at HO_3 BK134 HB hx138_0 hHeld ⊢
         refine pure_ (i := 0) (N := some 12) (v := ?_) (a' := ?_) #[true,false,false,false,false,false,false,false,false,false,false,false,false,false] rfl rfl (any_of HT_.out Z312) (fun _ _ _ h => h) (Or.inl ⟨Z314,?_⟩) ?_ ?_
         rotate_left
         ·intro w'
          go_simp
          with_reducible rfl
         rotate_left
         ·simp only [Act.put,List.setIfInBounds_toArray,List.set_cons_zero,List.set_cons_succ,i64_w,i32_w]
          rfl
         refine pure_ (i := 1) (N := some 13) (v := ?_) (a' := ?_) #[true,true,false,false,false,false,false,false,false,false,false,false,false,false] rfl rfl (any_of HT_.out Z312) (fun _ _ _ h => h) (Or.inl ⟨Z314,?_⟩) ?_ ?_
         rotate_left
         ·intro w'
          go_simp
          with_reducible rfl
         rotate_left
         ·simp only [Act.put,List.setIfInBounds_toArray,List.set_cons_zero,List.set_cons_succ,i64_w,i32_w]
          rfl
         refine pure_ (i := 2) (N := some 14) (v := ?_) (a' := ?_) #[true,true,true,false,false,false,false,false,false,false,false,false,false,false] rfl rfl (any_of HT_.out Z312) (fun _ _ _ h => h) (Or.inl ⟨Z314,?_⟩) ?_ ?_
         rotate_left
         ·intro w'
          go_simp
          with_reducible rfl
         rotate_left
         ·simp only [Act.put,List.setIfInBounds_toArray,List.set_cons_zero,List.set_cons_succ,i64_w,i32_w]
          rfl
         refine pure_ (i := 5) (N := some 17) (v := ?_) (a' := ?_) #[true,true,true,false,false,true,false,false,false,false,false,false,false,false] rfl rfl (any_of HT_.out Z312) (fun _ _ _ h => h) (Or.inl ⟨Z314,?_⟩) ?_ ?_
         rotate_left
         ·intro w'
          go_simp
          with_reducible rfl
         rotate_left
         ·simp only [Act.put,List.setIfInBounds_toArray,List.set_cons_zero,List.set_cons_succ,i64_w,i32_w]
          rfl
         refine pure_ (i := 9) (N := some 21) (v := ?_) (a' := ?_) #[true,true,true,false,false,true,false,false,false,true,false,false,false,false] rfl rfl (any_of HT_.out Z312) (fun _ _ _ h => h) (Or.inl ⟨Z314,?_⟩) ?_ ?_
         rotate_left
         ·intro w'
          go_simp
          with_reducible rfl
         rotate_left
         ·simp only [Act.put,List.setIfInBounds_toArray,List.set_cons_zero,List.set_cons_succ,i64_w,i32_w]
          rfl
         refine take_ (i := 3) (N := some 15) (v := ?_) (a' := ?_) #[true,true,true,true,false,true,false,false,false,true,false,false,false,false] rfl rfl (take_ofW HT_.out HW_.out Z312) (fun _ _ _ h => h) (Or.inl ⟨Z314,?_⟩) hHeld ?_ ?_
         rotate_left
         ·rintro w' s0
          go_simp
          with_reducible rfl
         rotate_left
         ·simp only [Act.put,List.setIfInBounds_toArray,List.set_cons_zero,List.set_cons_succ,i64_w,i32_w]
          rfl
         refine one_ (i := 4) (N := some 16) #[true,true,true,true,true,true,false,false,false,true,false,false,false,false] rfl rfl (one_of HT_.out Z312) Z313 (fun K hK => ?_)
         refine goes_ Try.func78 Z312 rfl #[] Z314 rfl rfl Z256 ?_
         with_reducible refine (spec_l8Least.calls  t139 _ A9.out).mono ?_
         rintro e w23 ⟨v140,rfl,ho0,hb⟩
         have HS0_ := (hb.cell (World.block_lt_of_cell? _ _ (hHeld))).trans (hHeld)
         refine ⟨_,rfl,?_⟩
         have n0_ := Aside0.mk (Kd.R_elder' Z262 (Kd.R_base ho0) hb)
         have n1_ := Aside0.mk (Kd.R_lower (Kd.R_new' ho0 (Kd.R_lt Z262)) (below_size Z240))
         have n2_ := Aside0.mk (blk_below (g := gb134) (o := .cells #[.int .i64 a0_0,.int .i64 a0_1,.int .i64 a0_2,.int .i64 a0_3,.int .i64 a0_4,.int .i64 a0_5,.int .i64 a0_6,.slice A0_7 l0_7.length c0_7] 33 (0,0)) Z293 hb)
         have n3_ := Aside0.mk (below_step Z240 hb)
         clear HO_3
         clear BK134
         clear HB
         have HO_3 := n0_
         have HO141 := n1_
         have BK134 := n2_
         have HB := n3_
         clear n0_ n1_ n2_ n3_
         (try clear hb)
         (try clear hb2)
         (try clear hk)
         (try clear hi)
         (try clear ho0)
         obtain ⟨Ao24,co24,eo24⟩ := Kd.R_slice HO141.out
         (first | subst eo24 | (injection eo24 with f1_ f2_ f3_;have f4_ := f1_.symm;have f5_ := f3_.symm;clear f1_ f2_ f3_;subst f4_;subst f5_))
         have p142 : 0 ≤ (x4_1 : Int) := of_decide_eq_true Z288
         have q142 : x4_1 < (t139.length : Int) := of_decide_eq_true Z288
         obtain ⟨ad142,e142,hx142_0⟩ := Kd.at_int (Kd.R_reads' HO141.out).2.2 x4_1 p142 q142
         cases e142
         replace p142 := eq_true p142
         replace q142 := eq_true q142
         refine hK.out _ _ HS0_ (fun hHeld => ?_)
         refine spec_ConfigOk.change_ (S' := fun w' => w'.cell? (ad138.add (x4_1).toNat) = some (.int .i64 (rd t135 x4_1)) ∧ w'.cell? (ad142.add (x4_1).toNat) = some (.int .i64 (rd t139 x4_1))) (fun _ h => h.1) _ _ _ _ ⟨hHeld,hx142_0⟩ ?_
         have hHeld1 := (And.intro (hHeld) hx142_0)
         clear hHeld
         have hHeld := hHeld1
         clear hHeld1
         clear hK K
         refine norm_ (a' := ?_) ?_ ?_
         rotate_left
         ·show Act.put _ (some 16) _ = _
          simp only [Act.put,List.setIfInBounds_toArray,List.set_cons_zero,List.set_cons_succ,i64_w,i32_w]
          rfl
         refine pure_ (i := 6) (N := some 18) (v := ?_) (a' := ?_) #[true,true,true,true,true,true,true,false,false,true,false,false,false,false] rfl rfl (any_of HT_.out Z312) (fun _ _ _ h => h) (Or.inl ⟨Z314,?_⟩) ?_ ?_
         rotate_left
         ·intro w'
          go_simp
          with_reducible rfl
         rotate_left
         ·simp only [Act.put,List.setIfInBounds_toArray,List.set_cons_zero,List.set_cons_succ,i64_w,i32_w]
          rfl
         refine take_ (i := 7) (N := some 19) (v := ?_) (a' := ?_) #[true,true,true,true,true,true,true,true,false,true,false,false,false,false] rfl rfl (take_ofW HT_.out HW_.out Z312) (fun _ _ _ h => h) (Or.inl ⟨Z314,?_⟩) hHeld ?_ ?_
         rotate_left
         ·rintro w' ⟨s0,s1⟩
          go_simp
          with_reducible rfl
         rotate_left
         ·simp only [Act.put,List.setIfInBounds_toArray,List.set_cons_zero,List.set_cons_succ,i64_w,i32_w]
          rfl
         refine one_ (i := 8) (N := some 20) #[true,true,true,true,true,true,true,true,true,true,false,false,false,false] rfl rfl (one_of HT_.out Z312) Z313 (fun K hK => ?_)
         refine goes_ Try.func79 Z312 rfl #[] Z314 rfl rfl Z256 ?_
         with_reducible refine (spec_l8Most.calls  t143 _ A11.out).mono ?_
         rintro e w25 ⟨v144,rfl,ho0,hb⟩
         have HS0_ := (hb.cell (World.block_lt_of_cell? _ _ (hHeld.1))).trans (hHeld.1)
         have HS1_ := (hb.cell (World.block_lt_of_cell? _ _ (hHeld.2))).trans (hHeld.2)
         refine ⟨_,rfl,?_⟩
         have n0_ := Aside0.mk (Kd.R_elder' Z262 (Kd.R_base ho0) hb)
         have n1_ := Aside0.mk (Kd.R_elder' Z261 (Kd.R_base ho0) hb)
         have n2_ := Aside0.mk (Kd.R_lower (Kd.R_new' (Kd.R_new' ho0 (Kd.R_lt Z262)) (Kd.R_lt Z261)) (below_size Z240))
         have n3_ := Aside0.mk (blk_below (g := gb134) (o := .cells #[.int .i64 a0_0,.int .i64 a0_1,.int .i64 a0_2,.int .i64 a0_3,.int .i64 a0_4,.int .i64 a0_5,.int .i64 a0_6,.slice A0_7 l0_7.length c0_7] 33 (0,0)) Z293 hb)
         have n4_ := Aside0.mk (below_step Z240 hb)
         clear HO_3
         clear HO141
         clear BK134
         clear HB
         have HO_3 := n0_
         have HO141 := n1_
         have HO145 := n2_
         have BK134 := n3_
         have HB := n4_
         clear n0_ n1_ n2_ n3_ n4_
         (try clear hb)
         (try clear hb2)
         (try clear hk)
         (try clear hi)
         (try clear ho0)
         obtain ⟨Ao26,co26,eo26⟩ := Kd.R_slice HO145.out
         (first | subst eo26 | (injection eo26 with f1_ f2_ f3_;have f4_ := f1_.symm;have f5_ := f3_.symm;clear f1_ f2_ f3_;subst f4_;subst f5_))
         have p146 : 0 ≤ (x4_1 : Int) := of_decide_eq_true Z288
         have q146 : x4_1 < (t143.length : Int) := of_decide_eq_true Z288
         obtain ⟨ad146,e146,hx146_0⟩ := Kd.at_int (Kd.R_reads' HO145.out).2.2 x4_1 p146 q146
         cases e146
         replace p146 := eq_true p146
         replace q146 := eq_true q146
         refine hK.out _ _ ⟨HS0_,HS1_⟩ (fun hHeld => ?_)
         refine spec_ConfigOk.change_ (S' := fun w' => w'.cell? (ad138.add (x4_1).toNat) = some (.int .i64 (rd t135 x4_1)) ∧ w'.cell? (ad142.add (x4_1).toNat) = some (.int .i64 (rd t139 x4_1)) ∧ w'.cell? (ad146.add (x4_1).toNat) = some (.int .i64 (rd t143 x4_1))) (fun _ h => ⟨h.1,h.2.1⟩) _ _ _ _ ⟨hHeld.1,hHeld.2,hx146_0⟩ ?_
         have hHeld1 := (And.intro (hHeld.1) (And.intro (hHeld.2) hx146_0))
         clear hHeld
         have hHeld := hHeld1
         clear hHeld1
         clear hK K
         refine norm_ (a' := ?_) ?_ ?_
         rotate_left
         ·show Act.put _ (some 20) _ = _
          simp only [Act.put,List.setIfInBounds_toArray,List.set_cons_zero,List.set_cons_succ,i64_w,i32_w]
          rfl
         refine pure_ (i := 10) (N := some 22) (v := ?_) (a' := ?_) #[true,true,true,true,true,true,true,true,true,true,true,false,false,false] rfl rfl (any_of HT_.out Z312) (fun _ _ _ h => h) (Or.inl ⟨Z314,?_⟩) ?_ ?_
         rotate_left
         ·intro w'
          go_simp
          with_reducible rfl
         rotate_left
         ·simp only [Act.put,List.setIfInBounds_toArray,List.set_cons_zero,List.set_cons_succ,i64_w,i32_w]
          rfl
         refine take_ (i := 11) (N := some 23) (v := ?_) (a' := ?_) #[true,true,true,true,true,true,true,true,true,true,true,true,false,false] rfl rfl (take_ofW HT_.out HW_.out Z312) (fun _ _ _ h => h) (Or.inl ⟨Z314,?_⟩) hHeld ?_ ?_
         rotate_left
         ·rintro w' ⟨s0,s1,s2⟩
          go_simp
          with_reducible rfl
         rotate_left
         ·simp only [Act.put,List.setIfInBounds_toArray,List.set_cons_zero,List.set_cons_succ,i64_w,i32_w]
          rfl
         refine one_ (i := 12) (N := some 24) #[true,true,true,true,true,true,true,true,true,true,true,true,true,false] rfl rfl (one_of HT_.out Z312) Z313 (fun K hK => ?_)
         refine goes_ Try.func46 Z312 rfl #[.int .i64 (rd t135 x4_1),.int .i64 (rd t139 x4_1),.int .i64 (rd t143 x4_1)] Z314 rfl rfl Z256 ?_
         with_reducible refine (spec_l1In.calls (rd t135 x4_1) (rd t139 x4_1) (rd t143 x4_1) false _ A13.out).mono ?_
         rintro e w' ⟨rfl,⟨nd,rfl⟩⟩
         refine ⟨_,rfl,?_⟩
         refine hK.out _ _ ⟨hHeld.1,hHeld.2.1,hHeld.2.2⟩ (fun hHeld => ?_)
         clear hK K
         refine norm_ (a' := ?_) ?_ ?_
         rotate_left
         ·show Act.put _ (some 24) _ = _
          simp only [Act.put,List.setIfInBounds_toArray,List.set_cons_zero,List.set_cons_succ,i64_w,i32_w]
          rfl
         refine pure_ (i := 13) (N := some 25) (v := ?_) (a' := ?_) #[true,true,true,true,true,true,true,true,true,true,true,true,true,true] rfl rfl (any_of HT_.out Z312) (fun _ _ _ h => h) (Or.inl ⟨Z314,?_⟩) ?_ ?_
         rotate_left
         ·intro w'
          go_simp
          with_reducible rfl
         rotate_left
         ·simp only [Act.put,List.setIfInBounds_toArray,List.set_cons_zero,List.set_cons_succ,i64_w,i32_w]
          rfl
         refine done_ (done_of HT_.out Z312) ?_
         try go_wp2
         go_ret
         exact ⟨Z263,Z240⟩
       ·rw [if_neg c12] at H
        exact absurd H Z553
      ·rw [if_neg c10] at H
       exact absurd H Z553
     ·rw [if_neg c8] at H
      exact absurd H Z553
    ·rw [if_neg c7] at H
     exact absurd H Z553
   ·rw [if_neg c6] at H
    have c6b0 : decide (x4_1 < 5) = false := decide_eq_false c6
    clear c6
    have H' := Aside0.mk H
    clear H
    go_wp2
    go_loopg [5] k1 (fun kq v5 w' => ∃ (x5_2 : Int),v5 = .int .i64 x5_2 ∧ Aside0 (spec_ConfigOk.l1 kq x5_2 a0_0 a0_1 a0_2 a0_3 a0_4 a0_5 a0_6 l0_7 = some r) ∧ Aside0 (kq ≤ k1) ∧ Aside0 (w'.heap[gb134]? = some (.cells #[.int .i64 a0_0,.int .i64 a0_1,.int .i64 a0_2,.int .i64 a0_3,.int .i64 a0_4,.int .i64 a0_5,.int .i64 a0_6,(.slice A0_7 l0_7.length c0_7)] 33 (0,0))) ∧ Aside0 (Below w.heap.size w w'))
    case atStart => exact ⟨(0),Z289,H',⟨Nat.le_refl _⟩,⟨Z293⟩,⟨Z240⟩⟩
    case round =>
     clear H'
     try clear c1
     try clear p1
     try clear q1
     try clear hx1
     try clear p2
     try clear c3
     try clear c4
     try clear c6
     try clear c6b0
     try clear p6
     try clear c7
     try clear c7b0
     try clear c8
     try clear c8b0
     try clear c10
     try clear c10b0
     try clear c12
     try clear c12b0
     try clear p13
     try clear q13
     try clear hx13
     try clear c14
     try clear p14
     try clear q14
     try clear hx14
     try clear hcz4_0
     try clear hcz4_1
     try clear hcz4_2
     try clear hcz4_3
     try clear hcz4_4
     try clear hcz4_5
     try clear hcz4_6
     try clear hcz4_7
     try clear hfz4_0
     try clear hfz4_1
     try clear hfz4_2
     try clear hfz4_3
     try clear hfz4_4
     try clear hfz4_5
     try clear hfz4_6
     try clear hfz4_7
     try clear hx138_0
     try clear hx142_0
     try clear hx146_0
     try clear p138
     try clear p142
     try clear p146
     try clear p2
     try clear q138
     try clear q142
     try clear q146
     obtain ⟨x5_2,rfl,HA,HK2,BK134,HB⟩ := hrel
     cases gk with
     | zero => exact absurd HA.out (by simp [spec_ConfigOk.l1])
     | succ k2 =>
      have H := HA.out
      clear HA
      simp only [spec_ConfigOk.l1] at H
      by_cases c27 : x5_2 < (l0_7.length : Int)
      ·rw [if_pos c27] at H
       have c27b0 : decide (x5_2 < (l0_7.length : Int)) = true := decide_eq_true c27
       clear c27
       by_cases c28 : 0 ≤ x5_2
       ·rw [if_pos c28] at H
        have c28b0 : decide (0 ≤ x5_2) = true := decide_eq_true c28
        clear c28
        obtain ⟨t149,A290,H⟩ := Option.bind_eq_some_iff.mp H
        have A29 := Aside0.mk A290
        clear A290
        by_cases c30 : t149 = true
        ·subst c30
         rw [if_pos rfl] at H
         have H' := Aside0.mk H
         clear H
         obtain ⟨hcz31_0,hcz31_1,hcz31_2,hcz31_3,hcz31_4,hcz31_5,hcz31_6,hcz31_7,hfz31_0,hfz31_1,hfz31_2,hfz31_3,hfz31_4,hfz31_5,hfz31_6,hfz31_7⟩ := cells8 BK134.out
         have p148 : 0 ≤ (x5_2 : Int) := of_decide_eq_true Z288
         have q148 : x5_2 < (l0_7.length : Int) := of_decide_eq_true Z288
         obtain ⟨ad148,e148,hx148_0⟩ := Kd.at_int HR0_7.out x5_2 p148 q148
         cases e148
         replace hx148_0 := (HB.out.cell (World.block_lt_of_cell? w _ hx148_0)).trans hx148_0
         replace p148 := eq_true p148
         replace q148 := eq_true q148
         go_wp2_with (first | ((with_reducible refine gate_callee (f := 46) rfl ?_);refine goesL_ (some 38) rfl rfl Try.func46 Z312 rfl #[.int .i64 (rd l0_7 x5_2),.int .i64 (-1),.int .i64 1] rfl Z256 ?_;(with_reducible refine (spec_l1In.calls (rd l0_7 x5_2) (-1) 1 true _ A29.out).mono ?_);rintro e w' ⟨rfl,⟨nd,rfl⟩⟩;refine ⟨_,rfl,?_⟩))
         go_roundg k2
         case measure => have := HK1.out;have := HK2.out;omega
         case rel => exact ⟨(wrap64 (x5_2 + 1)),Z289,H',⟨by have := HK1.out;have := HK2.out;omega⟩,⟨Z293⟩,⟨Z240⟩⟩
        ·replace c30 := Bool.eq_false_iff.mpr c30
         subst c30
         rw [if_neg Bool.false_ne_true] at H
         obtain rfl := Option.some.inj H
         obtain ⟨hcz32_0,hcz32_1,hcz32_2,hcz32_3,hcz32_4,hcz32_5,hcz32_6,hcz32_7,hfz32_0,hfz32_1,hfz32_2,hfz32_3,hfz32_4,hfz32_5,hfz32_6,hfz32_7⟩ := cells8 BK134.out
         have p148 : 0 ≤ (x5_2 : Int) := of_decide_eq_true Z288
         have q148 : x5_2 < (l0_7.length : Int) := of_decide_eq_true Z288
         obtain ⟨ad148,e148,hx148_0⟩ := Kd.at_int HR0_7.out x5_2 p148 q148
         cases e148
         replace hx148_0 := (HB.out.cell (World.block_lt_of_cell? w _ hx148_0)).trans hx148_0
         replace p148 := eq_true p148
         replace q148 := eq_true q148
         go_wp2_with (first | ((with_reducible refine gate_callee (f := 46) rfl ?_);refine goesL_ (some 38) rfl rfl Try.func46 Z312 rfl #[.int .i64 (rd l0_7 x5_2),.int .i64 (-1),.int .i64 1] rfl Z256 ?_;(with_reducible refine (spec_l1In.calls (rd l0_7 x5_2) (-1) 1 false _ A29.out).mono ?_);rintro e w' ⟨rfl,⟨nd,rfl⟩⟩;refine ⟨_,rfl,?_⟩))
         go_ret
         exact ⟨Z263,Z240⟩
       ·rw [if_neg c28] at H
        exact absurd H Z553
      ·rw [if_neg c27] at H
       have c27b0 : decide (x5_2 < (l0_7.length : Int)) = false := decide_eq_false c27
       clear c27
       obtain ⟨t150,A330,H⟩ := Option.bind_eq_some_iff.mp H
       have A33 := Aside0.mk A330
       clear A330
       by_cases c34 : t150 = true
       ·subst c34
        rw [if_pos rfl] at H
        obtain ⟨t151,A350,H⟩ := Option.bind_eq_some_iff.mp H
        have A35 := Aside0.mk A350
        clear A350
        by_cases c36 : t151 = true
        ·subst c36
         rw [if_pos rfl] at H
         obtain rfl := Option.some.inj H
         obtain ⟨hcz37_0,hcz37_1,hcz37_2,hcz37_3,hcz37_4,hcz37_5,hcz37_6,hcz37_7,hfz37_0,hfz37_1,hfz37_2,hfz37_3,hfz37_4,hfz37_5,hfz37_6,hfz37_7⟩ := cells8 BK134.out
         go_wp2_with (first | ((with_reducible refine gate_callee (f := 46) rfl ?_);refine goesL_ (some 42) rfl rfl Try.func46 Z312 rfl #[.int .i64 a0_6,.int .i64 1,.int .i64 1000] rfl Z256 ?_;(with_reducible refine (spec_l1In.calls a0_6 1 1000 true _ A33.out).mono ?_);rintro e w' ⟨rfl,⟨nd,rfl⟩⟩;refine ⟨_,rfl,?_⟩) | (go_at_call 46;(with_reducible refine (spec_l1In.calls a0_5 1 a0_6 true _ A35.out).mono ?_);rintro e w' ⟨rfl,⟨nd,rfl⟩⟩))
         go_ret
         exact ⟨Z263,Z240⟩
        ·replace c36 := Bool.eq_false_iff.mpr c36
         subst c36
         rw [if_neg Bool.false_ne_true] at H
         obtain rfl := Option.some.inj H
         obtain ⟨hcz38_0,hcz38_1,hcz38_2,hcz38_3,hcz38_4,hcz38_5,hcz38_6,hcz38_7,hfz38_0,hfz38_1,hfz38_2,hfz38_3,hfz38_4,hfz38_5,hfz38_6,hfz38_7⟩ := cells8 BK134.out
         go_wp2_with (first | ((with_reducible refine gate_callee (f := 46) rfl ?_);refine goesL_ (some 42) rfl rfl Try.func46 Z312 rfl #[.int .i64 a0_6,.int .i64 1,.int .i64 1000] rfl Z256 ?_;(with_reducible refine (spec_l1In.calls a0_6 1 1000 true _ A33.out).mono ?_);rintro e w' ⟨rfl,⟨nd,rfl⟩⟩;refine ⟨_,rfl,?_⟩) | (go_at_call 46;(with_reducible refine (spec_l1In.calls a0_5 1 a0_6 false _ A35.out).mono ?_);rintro e w' ⟨rfl,⟨nd,rfl⟩⟩))
         go_ret
         exact ⟨Z263,Z240⟩
       ·replace c34 := Bool.eq_false_iff.mpr c34
        subst c34
        rw [if_neg Bool.false_ne_true] at H
        obtain rfl := Option.some.inj H
        obtain ⟨hcz39_0,hcz39_1,hcz39_2,hcz39_3,hcz39_4,hcz39_5,hcz39_6,hcz39_7,hfz39_0,hfz39_1,hfz39_2,hfz39_3,hfz39_4,hfz39_5,hfz39_6,hfz39_7⟩ := cells8 BK134.out
        go_wp2_with (first | ((with_reducible refine gate_callee (f := 46) rfl ?_);refine goesL_ (some 42) rfl rfl Try.func46 Z312 rfl #[.int .i64 a0_6,.int .i64 1,.int .i64 1000] rfl Z256 ?_;(with_reducible refine (spec_l1In.calls a0_6 1 1000 false _ A33.out).mono ?_);rintro e w' ⟨rfl,⟨nd,rfl⟩⟩;refine ⟨_,rfl,?_⟩))
        go_ret
        exact ⟨Z263,Z240⟩

/-! ### spec_Agrees: function 33 -/
def spec_Agrees.f (a0 : Int) (a1 : Int) (a2 : Int) : Option (Bool) := if a0 = 1 then (if a1 ≤ a2 then (some true) else (if a0 = (-1) then (some (decide (a1 ≥ a2))) else (some false))) else (if a0 = (-1) then (some (decide (a1 ≥ a2))) else (some true))
set_option maxHeartbeats 8000000 in
set_option maxRecDepth 100000 in
theorem spec_Agrees.calls (a0 : Int) (a1 : Int) (a2 : Int) (r : Bool) (w : World) (h : spec_Agrees.f a0 a1 a2 = some r) :
  Calls Try.prog 33 #[.int .i64 a0,.int .i64 a1,.int .i64 a2] w fun e w' => e = .returned (.bool r) ∧ Drawn0 w w' := by
 have H := h
 clear h
 unfold spec_Agrees.f at H
 by_cases c4 : a0 = 1
 ·rw [if_pos c4] at H
  have c4b0 : (a0 == 1) = true := beq_iff_eq.mpr c4
  have c4b1 : (a0 != 1) = false := bne_eq_false_iff_eq.mpr c4
  clear c4
  by_cases c5 : a1 ≤ a2
  ·rw [if_pos c5] at H
   have c5b0 : decide (a1 ≤ a2) = true := decide_eq_true c5
   clear c5
   obtain rfl := Option.some.inj H
   go_enter Try.func33,Try.ntmps33
   go_wp2
   go_ret
   exact ⟨Z289,Z266⟩
  ·rw [if_neg c5] at H
   have c5b0 : decide (a1 ≤ a2) = false := decide_eq_false c5
   clear c5
   by_cases c6 : a0 = (-1)
   ·rw [if_pos c6] at H
    have c6b0 : (a0 == (-1)) = true := beq_iff_eq.mpr c6
    have c6b1 : (a0 != (-1)) = false := bne_eq_false_iff_eq.mpr c6
    clear c6
    obtain rfl := Option.some.inj H
    go_enter Try.func33,Try.ntmps33
    go_wp2
    go_ret
    exact ⟨Z289,Z266⟩
   ·rw [if_neg c6] at H
    have c6b0 : (a0 == (-1)) = false := beq_eq_false_iff_ne.mpr c6
    have c6b1 : (a0 != (-1)) = true := bne_iff_ne.mpr c6
    obtain rfl := Option.some.inj H
    go_enter Try.func33,Try.ntmps33
    go_wp2
    go_ret
    exact ⟨Z289,Z266⟩
 ·rw [if_neg c4] at H
  have c4b0 : (a0 == 1) = false := beq_eq_false_iff_ne.mpr c4
  have c4b1 : (a0 != 1) = true := bne_iff_ne.mpr c4
  by_cases c7 : a0 = (-1)
  ·rw [if_pos c7] at H
   have c7b0 : (a0 == (-1)) = true := beq_iff_eq.mpr c7
   have c7b1 : (a0 != (-1)) = false := bne_eq_false_iff_eq.mpr c7
   clear c7
   obtain rfl := Option.some.inj H
   go_enter Try.func33,Try.ntmps33
   go_wp2
   go_ret
   exact ⟨Z289,Z266⟩
  ·rw [if_neg c7] at H
   have c7b0 : (a0 == (-1)) = false := beq_eq_false_iff_ne.mpr c7
   have c7b1 : (a0 != (-1)) = true := bne_iff_ne.mpr c7
   obtain rfl := Option.some.inj H
   go_enter Try.func33,Try.ntmps33
   go_wp2
   go_ret
   exact ⟨Z289,Z266⟩

end Go.Proofs.Ytaepeajaefpooaa.QFnExactMayPart
