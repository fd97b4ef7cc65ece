/- The machine side of FnConfig: what each Go function that it reaches comes to. Conditions: none. -/
import Derived.Test.YtepnbcdbagjmbaeGreatDoorQFnConfigx0
import Derived.Test.YtepnbcdbagjmbaeGreatDoorQFnConfigx7
import Derived.Test.YtepnbcdbagjmbaeGreatDoorQFnConfigx8
import Derived.Test.YtepnbcdbagjmbaeGreatDoorQFnConfigx9
namespace Go.Proofs.YtepnbcdbagjmbaeGreatDoor.QFnConfig
open Go.RowKit Go.Proofs.YtepnbcdbagjmbaeGreatDoorW.PrintWords Go.Proofs.YtepnbcdbagjmbaeGreatDoorW.PrintLast Go.Proofs.YtepnbcdbagjmbaeGreatDoorW.PrintMore
attribute [local go_sem] max2_int min2_int max_two min_two max_three min_three max_four min_four   -- for this text's walks alone
set_option linter.unusedVariables false
set_option linter.unusedSimpArgs false

/-! ### spec_ConfigText: function 7 -/
theorem spec_ConfigText.change_ {P : Program} {md : Region.Mode} {ops : Array Oper} {Q : Exit → Act → World → Prop} {S S' : World → Prop} (hsub : ∀ w,S' w → S w) : ∀ (fuel : Nat) (l : Array Bool) (a : Act) (w : World),S' w → wpAnyLast P md ops Q S' [] fuel l a w → wpAnyLast P md ops Q S [] fuel l a w
 | 0,_,_,_,_,h => h
 | fuel + 1,_,_,_,hS,h => ⟨h.1,fun i hi => wpOp_mono (fun a' w' h' => ⟨fun _ _ => hsub _ (h'.1 Z286 hS),spec_ConfigText.change_ hsub fuel _ a' w' (h'.1 Z286 hS) h'.2⟩) (h.2 i hi)⟩
mutual
def spec_ConfigText.l0 : Nat → ByteArray → List Int → Int → Int → Int → Int → Int → Int → Int → Int → List Int → Option (ByteArray)
 | 0,_,_,_,_,_,_,_,_,_,_,_ => none
 | k + 1,x3,x4,x5,x336000,x336001,x336002,x336003,x336004,x336005,x336006,x336007 => if x5 < 5 then ((spec_l8Words.f).bind fun t340 => (if 0 ≤ x5 then (if x5 < (t340.length : Int) then (if x3.size + (rdOf ByteArray.empty t340 x5).size ≤ 9223372036854775807 then (if (x3 ++ (rdOf ByteArray.empty t340 x5)).size + 1 ≤ 9223372036854775807 then (if x5 < (x4.length : Int) then ((spec_Digits.f k (rd x4 x5)).bind fun t345 => (if ((x3 ++ (rdOf ByteArray.empty t340 x5)) ++ (⟨#[61]⟩ : ByteArray)).size + t345.size ≤ 9223372036854775807 then (if (((x3 ++ (rdOf ByteArray.empty t340 x5)) ++ (⟨#[61]⟩ : ByteArray)) ++ t345).size + 1 ≤ 9223372036854775807 then (spec_ConfigText.l0 k ((((x3 ++ (rdOf ByteArray.empty t340 x5)) ++ (⟨#[61]⟩ : ByteArray)) ++ t345) ++ (⟨#[10]⟩ : ByteArray)) x4 (wrap64 (x5 + 1)) x336000 x336001 x336002 x336003 x336004 x336005 x336006 x336007) else (none)) else (none))) else (none)) else (none)) else (none)) else (none)) else (none))) else (if x3.size + 5 ≤ 9223372036854775807 then ((spec_Digits.f k x336005).bind fun t346 => (if (x3 ++ (⟨#[114,97,116,101,61]⟩ : ByteArray)).size + t346.size ≤ 9223372036854775807 then (if ((x3 ++ (⟨#[114,97,116,101,61]⟩ : ByteArray)) ++ t346).size + 1 ≤ 9223372036854775807 then ((spec_Digits.f k x336006).bind fun t347 => (if (((x3 ++ (⟨#[114,97,116,101,61]⟩ : ByteArray)) ++ t346) ++ (⟨#[47]⟩ : ByteArray)).size + t347.size ≤ 9223372036854775807 then (if ((((x3 ++ (⟨#[114,97,116,101,61]⟩ : ByteArray)) ++ t346) ++ (⟨#[47]⟩ : ByteArray)) ++ t347).size + 1 ≤ 9223372036854775807 then (if (x336007.length : Int) = 0 then (some (((((x3 ++ (⟨#[114,97,116,101,61]⟩ : ByteArray)) ++ t346) ++ (⟨#[47]⟩ : ByteArray)) ++ t347) ++ (⟨#[10]⟩ : ByteArray))) else (spec_ConfigText.l1 k (((((x3 ++ (⟨#[114,97,116,101,61]⟩ : ByteArray)) ++ t346) ++ (⟨#[47]⟩ : ByteArray)) ++ t347) ++ (⟨#[10]⟩ : ByteArray)) (([] : List ByteArray)) 0 x336000 x336001 x336002 x336003 x336004 x336005 x336006 x336007)) else (none)) else (none))) else (none)) else (none))) else (none))
def spec_ConfigText.l1 : Nat → ByteArray → List ByteArray → Int → Int → Int → Int → Int → Int → Int → Int → List Int → Option (ByteArray)
 | 0,_,_,_,_,_,_,_,_,_,_,_ => none
 | k + 1,x3,x6,x7,x336000,x336001,x336002,x336003,x336004,x336005,x336006,x336007 => if x7 < (x336007.length : Int) then ((some (([(⟨#[45]⟩ : ByteArray),(⟨#[48]⟩ : ByteArray),(⟨#[43]⟩ : ByteArray)] : List ByteArray) : List ByteArray)).bind fun y351 => (if 0 ≤ x7 then (if 0 ≤ (wrap64 ((rd x336007 x7) + 1)) then (if (wrap64 ((rd x336007 x7) + 1)) < (y351.length : Int) then (if x6.length < 8796093022208 then (spec_ConfigText.l1 k x3 (x6 ++ [rdOf ByteArray.empty y351 (wrap64 ((rd x336007 x7) + 1))]) (wrap64 (x7 + 1)) x336000 x336001 x336002 x336003 x336004 x336005 x336006 x336007) else (none)) else (none)) else (none)) else (none))) else (if x3.size + 6 ≤ 9223372036854775807 then ((spec_Joined.f k x6 (⟨#[44]⟩ : ByteArray)).bind fun t359 => (if (x3 ++ (⟨#[115,105,103,110,115,61]⟩ : ByteArray)).size + t359.size ≤ 9223372036854775807 then (if ((x3 ++ (⟨#[115,105,103,110,115,61]⟩ : ByteArray)) ++ t359).size + 1 ≤ 9223372036854775807 then (some (((x3 ++ (⟨#[115,105,103,110,115,61]⟩ : ByteArray)) ++ t359) ++ (⟨#[10]⟩ : ByteArray))) else (none)) else (none))) else (none))
end
def spec_ConfigText.f (k : Nat) (a0_0 : Int) (a0_1 : Int) (a0_2 : Int) (a0_3 : Int) (a0_4 : Int) (a0_5 : Int) (a0_6 : Int) (l0_7 : List Int) : Option (ByteArray) := (spec_ConfigOk.f k a0_0 a0_1 a0_2 a0_3 a0_4 a0_5 a0_6 l0_7).bind fun t336 => (if t336 = true then ((spec_l8Numbers.f a0_0 a0_1 a0_2 a0_3 a0_4 a0_5 a0_6 l0_7).bind fun t337 => (spec_ConfigText.l0 k (⟨#[]⟩ : ByteArray) t337 0 a0_0 a0_1 a0_2 a0_3 a0_4 a0_5 a0_6 l0_7)) else (some (⟨#[]⟩ : ByteArray)))
theorem spec_ConfigText.mono_l : ∀ k,(∀ y0 y1 y2 y3 y4 y5 y6 y7 y8 y9 y10,LeO (spec_ConfigText.l0 k y0 y1 y2 y3 y4 y5 y6 y7 y8 y9 y10) (spec_ConfigText.l0 (k + 1) y0 y1 y2 y3 y4 y5 y6 y7 y8 y9 y10)) ∧ (∀ y0 y1 y2 y3 y4 y5 y6 y7 y8 y9 y10,LeO (spec_ConfigText.l1 k y0 y1 y2 y3 y4 y5 y6 y7 y8 y9 y10) (spec_ConfigText.l1 (k + 1) y0 y1 y2 y3 y4 y5 y6 y7 y8 y9 y10))
 | 0 => ⟨fun _ _ _ _ _ _ _ _ _ _ _ r h => by simp [spec_ConfigText.l0] at h,fun _ _ _ _ _ _ _ _ _ _ _ r h => by simp [spec_ConfigText.l1] at h⟩
 | k + 1 => by
  obtain ⟨ih0,ih1⟩ := spec_ConfigText.mono_l k
  refine ⟨?_,?_⟩
  ·intro y0 y1 y2 y3 y4 y5 y6 y7 y8 y9 y10
   unfold spec_ConfigText.l0
   repeat' first
   | (with_reducible exact ih0 _ _ _ _ _ _ _ _ _ _ _)
   | (with_reducible exact ih1 _ _ _ _ _ _ _ _ _ _ _)
   | (with_reducible exact spec_ConfigOk.mono _ _ _ _ _ _ _ _ _)
   | (with_reducible exact spec_Digits.mono _ _)
   | (with_reducible exact spec_Joined.mono _ _ _)
   | (with_reducible exact LeO.refl _)
   | (with_reducible exact LeO.none _)
   | (with_reducible refine LeO.ite ?_ ?_)
   | (with_reducible refine LeO.bind ?_ (fun _ => ?_))
   | exact ih0 _ _ _ _ _ _ _ _ _ _ _
   | exact ih1 _ _ _ _ _ _ _ _ _ _ _
   | exact spec_ConfigOk.mono _ _ _ _ _ _ _ _ _
   | exact spec_Digits.mono _ _
   | exact spec_Joined.mono _ _ _
   | exact LeO.none _
   | refine LeO.ite ?_ ?_
   | refine LeO.bind ?_ (fun _ => ?_)
  ·intro y0 y1 y2 y3 y4 y5 y6 y7 y8 y9 y10
   unfold spec_ConfigText.l1
   repeat' first
   | (with_reducible exact ih0 _ _ _ _ _ _ _ _ _ _ _)
   | (with_reducible exact ih1 _ _ _ _ _ _ _ _ _ _ _)
   | (with_reducible exact spec_ConfigOk.mono _ _ _ _ _ _ _ _ _)
   | (with_reducible exact spec_Digits.mono _ _)
   | (with_reducible exact spec_Joined.mono _ _ _)
   | (with_reducible exact LeO.refl _)
   | (with_reducible exact LeO.none _)
   | (with_reducible refine LeO.ite ?_ ?_)
   | (with_reducible refine LeO.bind ?_ (fun _ => ?_))
   | exact ih0 _ _ _ _ _ _ _ _ _ _ _
   | exact ih1 _ _ _ _ _ _ _ _ _ _ _
   | exact spec_ConfigOk.mono _ _ _ _ _ _ _ _ _
   | exact spec_Digits.mono _ _
   | exact spec_Joined.mono _ _ _
   | exact LeO.none _
   | refine LeO.ite ?_ ?_
   | refine LeO.bind ?_ (fun _ => ?_)
theorem spec_ConfigText.mono : ∀ a0 a1 a2 a3 a4 a5 a6 a7 k,LeO (spec_ConfigText.f k a0 a1 a2 a3 a4 a5 a6 a7) (spec_ConfigText.f (k + 1) a0 a1 a2 a3 a4 a5 a6 a7) := by
 intro a0 a1 a2 a3 a4 a5 a6 a7 k
 obtain ⟨ih0,ih1⟩ := spec_ConfigText.mono_l k
 unfold spec_ConfigText.f
 repeat' first
   | (with_reducible exact ih0 _ _ _ _ _ _ _ _ _ _ _)
   | (with_reducible exact ih1 _ _ _ _ _ _ _ _ _ _ _)
   | (with_reducible exact spec_ConfigOk.mono _ _ _ _ _ _ _ _ _)
   | (with_reducible exact spec_Digits.mono _ _)
   | (with_reducible exact spec_Joined.mono _ _ _)
   | (with_reducible exact LeO.refl _)
   | (with_reducible exact LeO.none _)
   | (with_reducible refine LeO.ite ?_ ?_)
   | (with_reducible refine LeO.bind ?_ (fun _ => ?_))
   | exact ih0 _ _ _ _ _ _ _ _ _ _ _
   | exact ih1 _ _ _ _ _ _ _ _ _ _ _
   | exact spec_ConfigOk.mono _ _ _ _ _ _ _ _ _
   | exact spec_Digits.mono _ _
   | exact spec_Joined.mono _ _ _
   | exact LeO.none _
   | refine LeO.ite ?_ ?_
   | refine LeO.bind ?_ (fun _ => ?_)
def spec_ConfigText.T8 : Bool × List (List Nat × List Nat) := (true,[([],[]),([],[]),([],[]),([1,2],[1,2]),([3],[3]),([0,4],[0,4]),([5],[5]),([],[]),([],[]),([7,8],[7,8]),([9],[9]),([10,1],[10]),([6,11],[6,11]),([12],[12]),([13,11,0,1,2,3,4,5,6,7,8,9,10,11,12,13],[0,13])])
def spec_ConfigText.B8 : List Nat := [0,0,0,6,14,31,63,0,0,384,896,1922,4095,8191,16383]
theorem spec_ConfigText.tab8 : rtab .any (opsOf Tryz.f7 8) = spec_ConfigText.T8 := by kernel_rfl
theorem spec_ConfigText.bits8 : waitsOk spec_ConfigText.T8.2 spec_ConfigText.B8 = true := by kernel_rfl
def spec_ConfigText.T9 : Bool × List (List Nat × List Nat) := (true,[([],[]),([0],[0]),([],[]),([2],[2]),([3],[3]),([1,4],[1,4]),([5],[5]),([],[]),([7],[7]),([8,4],[8]),([6,9],[6,9]),([10],[10]),([11,9,0,1,2,3,4,5,6,7,8,9,10,11],[0,11])])
def spec_ConfigText.B9 : List Nat := [0,1,0,4,12,31,63,0,128,412,1023,2047,4095]
theorem spec_ConfigText.tab9 : rtab .any (opsOf Tryz.f7 9) = spec_ConfigText.T9 := by kernel_rfl
theorem spec_ConfigText.bits9 : waitsOk spec_ConfigText.T9.2 spec_ConfigText.B9 = true := by kernel_rfl
set_option maxHeartbeats 8000000 in
set_option maxRecDepth 100000 in
theorem spec_ConfigText.calls (k : Nat) (a0_0 : Int) (a0_1 : Int) (a0_2 : Int) (a0_3 : Int) (a0_4 : Int) (a0_5 : Int) (a0_6 : Int) (A0_7 : Option Addr) (c0_7 : Nat) (l0_7 : List Int) (r : ByteArray) (w : World) (hr0_7 : Kd.C (Kd.int .i64) w A0_7 l0_7.length l0_7) (hc0_7 : l0_7.length ≤ c0_7) (h : spec_ConfigText.f k a0_0 a0_1 a0_2 a0_3 a0_4 a0_5 a0_6 l0_7 = some r) :
  Calls Tryz.prog 7 #[.agg #[.int .i64 a0_0,.int .i64 a0_1,.int .i64 a0_2,.int .i64 a0_3,.int .i64 a0_4,.int .i64 a0_5,.int .i64 a0_6,.slice A0_7 l0_7.length c0_7]] w fun e w' => e = .returned (.string r) ∧ Below w.heap.size w w' := by
 have hu26 := Tryz.underlying26
 have HR0_7 := Aside0.mk hr0_7
 have HC0_7 := Aside0.mk hc0_7
 clear hr0_7 hc0_7
 have HB := Aside0.mk (Below.refl w.heap.size w)
 have H := h
 clear h
 unfold spec_ConfigText.f at H
 obtain ⟨t336,A20,H⟩ := Option.bind_eq_some_iff.mp H
 have A2 := Aside0.mk A20
 clear A20
 by_cases c3 : t336 = true
 rotate_left
 ·replace c3 := Bool.eq_false_iff.mpr c3
  subst c3
  rw [if_neg Bool.false_ne_true] at H
  obtain rfl := Option.some.inj H
  go_enter Tryz.func7,Tryz.ntmps7
  go_wp2_with (first | ((with_reducible refine gate_dst (N := 1) rfl ?_);refine bE 1 #[.int .i64 a0_0,.int .i64 a0_1,.int .i64 a0_2,.int .i64 a0_3,.int .i64 a0_4,.int .i64 a0_5,.int .i64 a0_6,.slice A0_7 l0_7.length c0_7] 26 (h := ?_);intro gb335 hg wq1 hbox hb;have n_ := Z48;clear HB;obtain ⟨HB,BK335,GW335,GE335⟩ := n_;clear hb hbox hg;obtain ⟨hczq2_0,hczq2_1,hczq2_2,hczq2_3,hczq2_4,hczq2_5,hczq2_6,hczq2_7,hfzq2_0,hfzq2_1,hfzq2_2,hfzq2_3,hfzq2_4,hfzq2_5,hfzq2_6,hfzq2_7⟩ := cells8 BK335.out) | ((with_reducible refine gate_callee (f := 14) rfl ?_);refine goesL_ (some 9) rfl rfl Tryz.func14 Z190 rfl #[.agg #[.int .i64 a0_0,.int .i64 a0_1,.int .i64 a0_2,.int .i64 a0_3,.int .i64 a0_4,.int .i64 a0_5,.int .i64 a0_6,.slice A0_7 l0_7.length c0_7]] rfl Z130 ?_;(with_reducible refine (spec_ConfigOk.calls k a0_0 a0_1 a0_2 a0_3 a0_4 a0_5 a0_6 _ _ l0_7 false _ ?side1 ?side2 A2.out).mono ?_);(case side1 => exact Z103);(case side2 => exact Z186);rintro e wq3 ⟨rfl,hb⟩;refine ⟨_,rfl,?_⟩;have n_ := Z55;clear BK335 HB;obtain ⟨BK335,HB⟩ := n_;(try clear hb);(try clear hb2);(try clear hk);(try clear hi)))
  go_ret
  exact ⟨Z152,Z241⟩
 subst c3
 rw [if_pos rfl] at H
 obtain ⟨t337,A40,H⟩ := Option.bind_eq_some_iff.mp H
 have A4 := Aside0.mk A40
 clear A40
 have H' := Aside0.mk H
 clear H
 go_enter Tryz.func7,Tryz.ntmps7
 go_wp2_with (first | ((with_reducible refine gate_dst (N := 1) rfl ?_);refine bE 1 #[.int .i64 a0_0,.int .i64 a0_1,.int .i64 a0_2,.int .i64 a0_3,.int .i64 a0_4,.int .i64 a0_5,.int .i64 a0_6,.slice A0_7 l0_7.length c0_7] 26 (h := ?_);intro gb335 hg w5 hbox hb;have n_ := Z48;clear HB;obtain ⟨HB,BK335,GW335,GE335⟩ := n_;clear hb hbox hg;obtain ⟨hcz6_0,hcz6_1,hcz6_2,hcz6_3,hcz6_4,hcz6_5,hcz6_6,hcz6_7,hfz6_0,hfz6_1,hfz6_2,hfz6_3,hfz6_4,hfz6_5,hfz6_6,hfz6_7⟩ := cells8 BK335.out) | ((with_reducible refine gate_callee (f := 14) rfl ?_);refine goesL_ (some 9) rfl rfl Tryz.func14 Z190 rfl #[.agg #[.int .i64 a0_0,.int .i64 a0_1,.int .i64 a0_2,.int .i64 a0_3,.int .i64 a0_4,.int .i64 a0_5,.int .i64 a0_6,.slice A0_7 l0_7.length c0_7]] rfl Z130 ?_;(with_reducible refine (spec_ConfigOk.calls k a0_0 a0_1 a0_2 a0_3 a0_4 a0_5 a0_6 _ _ l0_7 true _ ?side1 ?side2 A2.out).mono ?_);(case side1 => exact Z103);(case side2 => exact Z186);rintro e w7 ⟨rfl,hb⟩;refine ⟨_,rfl,?_⟩;have n_ := Z55;clear BK335 HB;obtain ⟨BK335,HB⟩ := n_;(try clear hb);(try clear hb2);(try clear hk);(try clear hi);obtain ⟨hcz8_0,hcz8_1,hcz8_2,hcz8_3,hcz8_4,hcz8_5,hcz8_6,hcz8_7,hfz8_0,hfz8_1,hfz8_2,hfz8_3,hfz8_4,hfz8_5,hfz8_6,hfz8_7⟩ := cells8 BK335.out) | ((with_reducible refine gate_callee (f := 19) rfl ?_);refine goesL_ (some 12) rfl rfl Tryz.func19 Z190 rfl #[.agg #[.int .i64 a0_0,.int .i64 a0_1,.int .i64 a0_2,.int .i64 a0_3,.int .i64 a0_4,.int .i64 a0_5,.int .i64 a0_6,.slice A0_7 l0_7.length c0_7]] rfl Z130 ?_;(with_reducible refine (spec_l8Numbers.calls a0_0 a0_1 a0_2 a0_3 a0_4 a0_5 a0_6 _ _ l0_7 t337 _ ?side1 ?side2 A4.out).mono ?_);(case side1 => exact Z103);(case side2 => exact Z186);rintro e w9 ⟨v338,rfl,ho0,hb⟩;refine ⟨_,rfl,?_⟩;have n_ := jA (Kd.R_lower ho0 (below_size Z241)) (jA (blk_below (g := gb335) (o := .cells #[.int .i64 a0_0,.int .i64 a0_1,.int .i64 a0_2,.int .i64 a0_3,.int .i64 a0_4,.int .i64 a0_5,.int .i64 a0_6,.slice A0_7 l0_7.length c0_7] 26 (0,0)) Z273 hb) (Aside0.mk (below_step Z241 hb)));clear BK335 HB;obtain ⟨HO339,BK335,HB⟩ := n_;(try clear hb);(try clear hb2);(try clear hk);(try clear hi);(try clear ho0)))
 go_loopg [3,5] k (fun kq v3 v5 w' => ∃ (x3_1 : ByteArray) (x5_1 : Int),v3 = .string x3_1 ∧ v5 = .int .i64 x5_1 ∧ Aside0 (spec_ConfigText.l0 kq x3_1 t337 x5_1 a0_0 a0_1 a0_2 a0_3 a0_4 a0_5 a0_6 l0_7 = some r) ∧ Aside0 (kq ≤ k) ∧ Aside0 (Kd.R (Kd.int .i64) 3 w' w.heap.size (fun _ => True) v338 t337) ∧ Aside0 (w'.heap[gb335]? = some (.cells #[.int .i64 a0_0,.int .i64 a0_1,.int .i64 a0_2,.int .i64 a0_3,.int .i64 a0_4,.int .i64 a0_5,.int .i64 a0_6,(.slice A0_7 l0_7.length c0_7)] 26 (0,0))) ∧ Aside0 (Below w.heap.size w w'))
 case atStart => exact ⟨((⟨#[]⟩ : ByteArray)),(0),Z165,Z165,H',⟨Nat.le_refl _⟩,⟨by (with_reducible repeat (first | apply Kd.R_alloc | apply Kd.R_drewN | apply Kd.R_drew));exact HO339.out⟩,⟨Z273⟩,⟨Z241⟩⟩
 case round =>
  clear H'
  try clear c1
  try clear p2
  try clear c3
  try clear c7
  obtain ⟨x3_1,x5_1,rfl,rfl,HA,HK1,HO_4,BK335,HB⟩ := hrel
  cases gk with
  | zero => exact absurd HA.out (by simp [spec_ConfigText.l0])
  | succ k1 =>
   have H := HA.out
   clear HA
   simp only [spec_ConfigText.l0] at H
   by_cases c10 : x5_1 < 5
   ·rw [if_pos c10] at H
    have c10b0 : decide (x5_1 < 5) = true := decide_eq_true c10
    clear c10
    obtain ⟨t340,A110,H⟩ := Option.bind_eq_some_iff.mp H
    have A11 := Aside0.mk A110
    clear A110
    obtain ⟨c12,H⟩ := ifp H
    have c12b0 : decide (0 ≤ x5_1) = true := decide_eq_true c12
    clear c12
    obtain ⟨c13,H⟩ := ifp H
    have c13b0 : decide (x5_1 < (t340.length : Int)) = true := decide_eq_true c13
    clear c13
    obtain ⟨c14,H⟩ := ifp H
    have c14b0 := eq_true c14
    have c14b1 : decide (x3_1.size + (rdOf ByteArray.empty t340 x5_1).size ≤ 9223372036854775807) = true := decide_eq_true c14
    try have c14b2 : (9223372036854775807 < x3_1.size + (rdOf ByteArray.empty t340 x5_1).size) = False := eq_false (Nat.not_lt.2 c14)
    obtain ⟨c15,H⟩ := ifp H
    have c15b0 := eq_true c15
    have c15b1 : decide ((x3_1 ++ (rdOf ByteArray.empty t340 x5_1)).size + 1 ≤ 9223372036854775807) = true := decide_eq_true c15
    try have c15b2 : (9223372036854775807 < (x3_1 ++ (rdOf ByteArray.empty t340 x5_1)).size + 1) = False := eq_false (Nat.not_lt.2 c15)
    try (have c15b3 := c15b2; simp only [ByteArray.size_append] at c15b3)
    try (have c15b4 := c15b3; simp only [show ∀ b0_ : UInt8, (⟨#[b0_]⟩ : ByteArray).size = 1 from fun _ => rfl, show ∀ b0_ b1_ b2_ b3_ b4_ : UInt8, (⟨#[b0_,b1_,b2_,b3_,b4_]⟩ : ByteArray).size = 5 from fun _ _ _ _ _ => rfl, show ∀ b0_ b1_ b2_ b3_ b4_ b5_ : UInt8, (⟨#[b0_,b1_,b2_,b3_,b4_,b5_]⟩ : ByteArray).size = 6 from fun _ _ _ _ _ _ => rfl] at c15b4)
    obtain ⟨c16,H⟩ := ifp H
    have c16b0 : decide (x5_1 < (t337.length : Int)) = true := decide_eq_true c16
    clear c16
    obtain ⟨t345,A170,H⟩ := Option.bind_eq_some_iff.mp H
    have A17 := Aside0.mk A170
    clear A170
    obtain ⟨c18,H⟩ := ifp H
    have c18b0 := eq_true c18
    have c18b1 : decide (((x3_1 ++ (rdOf ByteArray.empty t340 x5_1)) ++ (⟨#[61]⟩ : ByteArray)).size + t345.size ≤ 9223372036854775807) = true := decide_eq_true c18
    try have c18b2 : (9223372036854775807 < ((x3_1 ++ (rdOf ByteArray.empty t340 x5_1)) ++ (⟨#[61]⟩ : ByteArray)).size + t345.size) = False := eq_false (Nat.not_lt.2 c18)
    try (have c18b3 := c18b2; simp only [ByteArray.size_append] at c18b3)
    try (have c18b4 := c18b3; simp only [show ∀ b0_ : UInt8, (⟨#[b0_]⟩ : ByteArray).size = 1 from fun _ => rfl, show ∀ b0_ b1_ b2_ b3_ b4_ : UInt8, (⟨#[b0_,b1_,b2_,b3_,b4_]⟩ : ByteArray).size = 5 from fun _ _ _ _ _ => rfl, show ∀ b0_ b1_ b2_ b3_ b4_ b5_ : UInt8, (⟨#[b0_,b1_,b2_,b3_,b4_,b5_]⟩ : ByteArray).size = 6 from fun _ _ _ _ _ _ => rfl] at c18b4)
    obtain ⟨c19,H⟩ := ifp H
    have c19b0 := eq_true c19
    have c19b1 : decide ((((x3_1 ++ (rdOf ByteArray.empty t340 x5_1)) ++ (⟨#[61]⟩ : ByteArray)) ++ t345).size + 1 ≤ 9223372036854775807) = true := decide_eq_true c19
    try have c19b2 : (9223372036854775807 < (((x3_1 ++ (rdOf ByteArray.empty t340 x5_1)) ++ (⟨#[61]⟩ : ByteArray)) ++ t345).size + 1) = False := eq_false (Nat.not_lt.2 c19)
    try (have c19b3 := c19b2; simp only [ByteArray.size_append] at c19b3)
    try (have c19b4 := c19b3; simp only [show ∀ b0_ : UInt8, (⟨#[b0_]⟩ : ByteArray).size = 1 from fun _ => rfl, show ∀ b0_ b1_ b2_ b3_ b4_ : UInt8, (⟨#[b0_,b1_,b2_,b3_,b4_]⟩ : ByteArray).size = 5 from fun _ _ _ _ _ => rfl, show ∀ b0_ b1_ b2_ b3_ b4_ b5_ : UInt8, (⟨#[b0_,b1_,b2_,b3_,b4_,b5_]⟩ : ByteArray).size = 6 from fun _ _ _ _ _ _ => rfl] at c19b4)
    have H' := Aside0.mk H
    clear H
    try go_wp2
    have n_ := jA (Kd.R_drew HO_4.out) (jA (blk_drew BK335.out) (Aside0.mk (below_drew1 HB.out)))
    clear HO_4 BK335 HB
    obtain ⟨HO_4,BK335,HB⟩ := n_
    obtain ⟨Ao21,co21,eo21⟩ := Kd.R_slice HO_4.out
    (first | subst eo21 | (injection eo21 with f1_ f2_ f3_;have f4_ := f1_.symm;have f5_ := f3_.symm;clear f1_ f2_ f3_;subst f4_;subst f5_))
    have p344 : 0 ≤ (x5_1 : Int) := of_decide_eq_true Z164
    have q344 : x5_1 < (t337.length : Int) := of_decide_eq_true Z164
    obtain ⟨ad344,e344,hx344_0⟩ := Kd.at_int (Kd.R_reads' HO_4.out).2.2 x5_1 p344 q344
    cases e344
    replace p344 := eq_true p344
    replace q344 := eq_true q344
    refine start_ (n := 15) (S := fun w' => w'.cell? (ad344.add (x5_1).toNat) = some (.int .i64 (rd t337 x5_1))) (ds := []) (qM 15 0) Z190 rfl (by kernel_rfl) hx344_0 (fun hHeld => ?_);refine with_tabW spec_ConfigText.tab8 spec_ConfigText.bits8 (fun HT_ HW_ => ?_)
    generalize wr.drew = w20 at HO_4 BK335 HB hx344_0 hHeld ⊢
    refine rP 0 17 15 1 HT_ (h := ?_)
    refine rP 2 19 15 5 HT_ (h := ?_)
    refine rP 7 24 15 133 HT_ (h := ?_)
    refine rP 8 25 15 389 HT_ (h := ?_)
    refine rP 9 26 15 901 HT_ (h := ?_)
    refine rT1 10 27 15 1925 HT_ HW_ hHeld (h := ?_)
    refine rO 1 18 15 1927 HT_ (h := fun K hK => ?_)
    refine goes_ Tryz.func20 Z190 rfl #[] Z191 rfl rfl Z130 ?_
    with_reducible refine (spec_l8Words.calls  t340 _ A11.out).mono ?_
    rintro e w22 ⟨v341,rfl,ho0,hb⟩
    have HS0_ := (hb.cell (World.block_lt_of_cell? _ _ (hHeld))).trans (hHeld)
    refine ⟨_,rfl,?_⟩
    have n_ := jA (Kd.R_below Z269 hb) (jA (Kd.R_lower ho0 (below_size Z241)) (jA (blk_below (g := gb335) (o := .cells #[.int .i64 a0_0,.int .i64 a0_1,.int .i64 a0_2,.int .i64 a0_3,.int .i64 a0_4,.int .i64 a0_5,.int .i64 a0_6,.slice A0_7 l0_7.length c0_7] 26 (0,0)) Z273 hb) (Aside0.mk (below_step Z241 hb))))
    clear HO_4 BK335 HB
    obtain ⟨HO_4,HO342,BK335,HB⟩ := n_
    (try clear hb)
    (try clear hb2)
    (try clear hk)
    (try clear hi)
    (try clear ho0)
    obtain ⟨Ao23,co23,eo23⟩ := Kd.R_slice HO342.out
    (first | subst eo23 | (injection eo23 with f1_ f2_ f3_;have f4_ := f1_.symm;have f5_ := f3_.symm;clear f1_ f2_ f3_;subst f4_;subst f5_))
    have p343 : 0 ≤ (x5_1 : Int) := of_decide_eq_true Z164
    have q343 : x5_1 < (t340.length : Int) := of_decide_eq_true Z164
    obtain ⟨ad343,e343,hx343_0⟩ := Kd.at_string (Kd.R_reads' HO342.out).2.2 x5_1 p343 q343
    cases e343
    replace p343 := eq_true p343
    replace q343 := eq_true q343
    refine hK.out _ _ HS0_ (fun hHeld => ?_)
    refine spec_ConfigText.change_ (S' := fun w' => w'.cell? (ad344.add (x5_1).toNat) = some (.int .i64 (rd t337 x5_1)) ∧ w'.cell? (ad343.add (x5_1).toNat) = some (.string (rdOf ByteArray.empty t340 x5_1))) (fun _ h => h.1) _ _ _ _ ⟨hHeld,hx343_0⟩ ?_
    have hHeld1 := (And.intro (hHeld) hx343_0)
    clear hHeld
    have hHeld := hHeld1
    clear hHeld1
    clear hK K
    refine rN (h := ?_)
    refine rP 3 20 15 1935 HT_ (h := ?_)
    refine rT2 4 21 15 1951 HT_ HW_ hHeld (h := ?_)
    refine rP 5 22 15 1983 HT_ (h := ?_)
    refine rP 6 23 15 2047 HT_ (h := ?_)
    refine rO 11 28 15 4095 HT_ (h := fun K hK => ?_)
    refine goes_ Tryz.func21 Z190 rfl #[.int .i64 (rd t337 x5_1)] Z191 rfl rfl Z130 ?_
    with_reducible refine (spec_Digits.calls k1 (rd t337 x5_1) t345 _ A17.out).mono ?_
    rintro e w24 ⟨rfl,hb⟩
    have HS0_ := (hb.cell (World.block_lt_of_cell? _ _ (hHeld.1))).trans (hHeld.1)
    have HS1_ := (hb.cell (World.block_lt_of_cell? _ _ (hHeld.2))).trans (hHeld.2)
    refine ⟨_,rfl,?_⟩
    have n_ := jA (Kd.R_below Z269 hb) (jA (Kd.R_below (by (with_reducible repeat (first | apply Kd.R_alloc | apply Kd.R_drewN | apply Kd.R_drew));exact HO342.out) hb) (jA (blk_below (g := gb335) (o := .cells #[.int .i64 a0_0,.int .i64 a0_1,.int .i64 a0_2,.int .i64 a0_3,.int .i64 a0_4,.int .i64 a0_5,.int .i64 a0_6,.slice A0_7 l0_7.length c0_7] 26 (0,0)) Z273 hb) (Aside0.mk (below_step Z241 hb))))
    clear HO_4 HO342 BK335 HB
    obtain ⟨HO_4,HO342,BK335,HB⟩ := n_
    (try clear hb)
    (try clear hb2)
    (try clear hk)
    (try clear hi)
    refine hK.out _ _ ⟨HS0_,HS1_⟩ (fun hHeld => ?_)
    clear hK K
    refine rN (h := ?_)
    refine rP 12 29 15 8191 HT_ (h := ?_)
    refine rP 13 30 15 16383 HT_ (h := ?_)
    refine rP 14 3 15 32767 HT_ (h := ?_)
    refine done_ (done_of HT_.out Z190) ?_
    try go_wp2
    go_roundg k1
    case measure => have := HK1.out;omega
    case rel => exact ⟨((((x3_1 ++ (rdOf ByteArray.empty t340 x5_1)) ++ (⟨#[61]⟩ : ByteArray)) ++ t345) ++ (⟨#[10]⟩ : ByteArray)),(wrap64 (x5_1 + 1)),Z165,Z165,H',⟨Z184⟩,⟨Z269⟩,⟨Z273⟩,⟨Z241⟩⟩
   rw [if_neg c10] at H
   have c10b0 : decide (x5_1 < 5) = false := decide_eq_false c10
   clear c10
   obtain ⟨c25,H⟩ := ifp H
   have c25b0 := eq_true c25
   have c25b1 : decide (x3_1.size + 5 ≤ 9223372036854775807) = true := decide_eq_true c25
   try have c25b2 : (9223372036854775807 < x3_1.size + 5) = False := eq_false (Nat.not_lt.2 c25)
   obtain ⟨t346,A260,H⟩ := Option.bind_eq_some_iff.mp H
   have A26 := Aside0.mk A260
   clear A260
   obtain ⟨c27,H⟩ := ifp H
   have c27b0 := eq_true c27
   have c27b1 : decide ((x3_1 ++ (⟨#[114,97,116,101,61]⟩ : ByteArray)).size + t346.size ≤ 9223372036854775807) = true := decide_eq_true c27
   try have c27b2 : (9223372036854775807 < (x3_1 ++ (⟨#[114,97,116,101,61]⟩ : ByteArray)).size + t346.size) = False := eq_false (Nat.not_lt.2 c27)
   try (have c27b3 := c27b2; simp only [ByteArray.size_append] at c27b3)
   try (have c27b4 := c27b3; simp only [show ∀ b0_ : UInt8, (⟨#[b0_]⟩ : ByteArray).size = 1 from fun _ => rfl, show ∀ b0_ b1_ b2_ b3_ b4_ : UInt8, (⟨#[b0_,b1_,b2_,b3_,b4_]⟩ : ByteArray).size = 5 from fun _ _ _ _ _ => rfl, show ∀ b0_ b1_ b2_ b3_ b4_ b5_ : UInt8, (⟨#[b0_,b1_,b2_,b3_,b4_,b5_]⟩ : ByteArray).size = 6 from fun _ _ _ _ _ _ => rfl] at c27b4)
   obtain ⟨c28,H⟩ := ifp H
   have c28b0 := eq_true c28
   have c28b1 : decide (((x3_1 ++ (⟨#[114,97,116,101,61]⟩ : ByteArray)) ++ t346).size + 1 ≤ 9223372036854775807) = true := decide_eq_true c28
   try have c28b2 : (9223372036854775807 < ((x3_1 ++ (⟨#[114,97,116,101,61]⟩ : ByteArray)) ++ t346).size + 1) = False := eq_false (Nat.not_lt.2 c28)
   try (have c28b3 := c28b2; simp only [ByteArray.size_append] at c28b3)
   try (have c28b4 := c28b3; simp only [show ∀ b0_ : UInt8, (⟨#[b0_]⟩ : ByteArray).size = 1 from fun _ => rfl, show ∀ b0_ b1_ b2_ b3_ b4_ : UInt8, (⟨#[b0_,b1_,b2_,b3_,b4_]⟩ : ByteArray).size = 5 from fun _ _ _ _ _ => rfl, show ∀ b0_ b1_ b2_ b3_ b4_ b5_ : UInt8, (⟨#[b0_,b1_,b2_,b3_,b4_,b5_]⟩ : ByteArray).size = 6 from fun _ _ _ _ _ _ => rfl] at c28b4)
   obtain ⟨t347,A290,H⟩ := Option.bind_eq_some_iff.mp H
   have A29 := Aside0.mk A290
   clear A290
   obtain ⟨c30,H⟩ := ifp H
   have c30b0 := eq_true c30
   have c30b1 : decide ((((x3_1 ++ (⟨#[114,97,116,101,61]⟩ : ByteArray)) ++ t346) ++ (⟨#[47]⟩ : ByteArray)).size + t347.size ≤ 9223372036854775807) = true := decide_eq_true c30
   try have c30b2 : (9223372036854775807 < (((x3_1 ++ (⟨#[114,97,116,101,61]⟩ : ByteArray)) ++ t346) ++ (⟨#[47]⟩ : ByteArray)).size + t347.size) = False := eq_false (Nat.not_lt.2 c30)
   try (have c30b3 := c30b2; simp only [ByteArray.size_append] at c30b3)
   try (have c30b4 := c30b3; simp only [show ∀ b0_ : UInt8, (⟨#[b0_]⟩ : ByteArray).size = 1 from fun _ => rfl, show ∀ b0_ b1_ b2_ b3_ b4_ : UInt8, (⟨#[b0_,b1_,b2_,b3_,b4_]⟩ : ByteArray).size = 5 from fun _ _ _ _ _ => rfl, show ∀ b0_ b1_ b2_ b3_ b4_ b5_ : UInt8, (⟨#[b0_,b1_,b2_,b3_,b4_,b5_]⟩ : ByteArray).size = 6 from fun _ _ _ _ _ _ => rfl] at c30b4)
   obtain ⟨c31,H⟩ := ifp H
   have c31b0 := eq_true c31
   have c31b1 : decide (((((x3_1 ++ (⟨#[114,97,116,101,61]⟩ : ByteArray)) ++ t346) ++ (⟨#[47]⟩ : ByteArray)) ++ t347).size + 1 ≤ 9223372036854775807) = true := decide_eq_true c31
   try have c31b2 : (9223372036854775807 < ((((x3_1 ++ (⟨#[114,97,116,101,61]⟩ : ByteArray)) ++ t346) ++ (⟨#[47]⟩ : ByteArray)) ++ t347).size + 1) = False := eq_false (Nat.not_lt.2 c31)
   try (have c31b3 := c31b2; simp only [ByteArray.size_append] at c31b3)
   try (have c31b4 := c31b3; simp only [show ∀ b0_ : UInt8, (⟨#[b0_]⟩ : ByteArray).size = 1 from fun _ => rfl, show ∀ b0_ b1_ b2_ b3_ b4_ : UInt8, (⟨#[b0_,b1_,b2_,b3_,b4_]⟩ : ByteArray).size = 5 from fun _ _ _ _ _ => rfl, show ∀ b0_ b1_ b2_ b3_ b4_ b5_ : UInt8, (⟨#[b0_,b1_,b2_,b3_,b4_,b5_]⟩ : ByteArray).size = 6 from fun _ _ _ _ _ _ => rfl] at c31b4)
   by_cases c32 : (l0_7.length : Int) = 0
   ·rw [if_pos c32] at H
    have c32b0 : ((l0_7.length : Int) == 0) = true := beq_iff_eq.mpr c32
    have c32b1 : ((l0_7.length : Int) != 0) = false := bne_eq_false_iff_eq.mpr c32
    clear c32
    obtain rfl := Option.some.inj H
    try go_wp2
    have n_ := jA (Kd.R_drew HO_4.out) (jA (blk_drew BK335.out) (Aside0.mk (below_drew1 HB.out)))
    clear HO_4 BK335 HB
    obtain ⟨HO_4,BK335,HB⟩ := n_
    refine start_ (n := 13) (S := fun w' => w'.cell? ⟨gb335,0,none⟩ = some (.int .i64 a0_0) ∧ w'.cell? ⟨gb335,1,none⟩ = some (.int .i64 a0_1) ∧ w'.cell? ⟨gb335,2,none⟩ = some (.int .i64 a0_2) ∧ w'.cell? ⟨gb335,3,none⟩ = some (.int .i64 a0_3) ∧ w'.cell? ⟨gb335,4,none⟩ = some (.int .i64 a0_4) ∧ w'.cell? ⟨gb335,5,none⟩ = some (.int .i64 a0_5) ∧ w'.cell? ⟨gb335,6,none⟩ = some (.int .i64 a0_6) ∧ w'.cell? ⟨gb335,7,none⟩ = some (.slice A0_7 l0_7.length c0_7)) (ds := []) (qM 13 0) Z190 rfl (by kernel_rfl) ⟨bc BK335 0,bc BK335 1,bc BK335 2,bc BK335 3,bc BK335 4,bc BK335 5,bc BK335 6,bc BK335 7⟩ (fun hHeld => ?_);refine with_tabW spec_ConfigText.tab9 spec_ConfigText.bits9 (fun HT_ HW_ => ?_)
    generalize wr.drew = w33 at HO_4 BK335 HB hHeld ⊢
    refine rP 0 31 13 1 HT_ (h := ?_)
    refine rP 1 32 13 3 HT_ (h := ?_)
    refine rP 2 33 13 7 HT_ (h := ?_)
    refine rP 7 38 13 135 HT_ (h := ?_)
    refine rT8 3 34 13 143 HT_ HW_ hHeld (h := ?_)
    refine rT8 8 39 13 399 HT_ HW_ hHeld (h := ?_)
    refine rO 4 35 13 415 HT_ (h := fun K hK => ?_)
    refine goes_ Tryz.func21 Z190 rfl #[.int .i64 a0_5] Z191 rfl rfl Z130 ?_
    with_reducible refine (spec_Digits.calls k1 a0_5 t346 _ A26.out).mono ?_
    rintro e w34 ⟨rfl,hb⟩
    refine ⟨_,rfl,?_⟩
    have n_ := jA (Kd.R_below Z269 hb) (jA (blk_below (g := gb335) (o := .cells #[.int .i64 a0_0,.int .i64 a0_1,.int .i64 a0_2,.int .i64 a0_3,.int .i64 a0_4,.int .i64 a0_5,.int .i64 a0_6,.slice A0_7 l0_7.length c0_7] 26 (0,0)) Z273 hb) (Aside0.mk (below_step Z241 hb)))
    clear HO_4 BK335 HB
    obtain ⟨HO_4,BK335,HB⟩ := n_
    (try clear hb)
    (try clear hb2)
    (try clear hk)
    (try clear hi)
    refine hK.out _ _ ⟨bc BK335 0,bc BK335 1,bc BK335 2,bc BK335 3,bc BK335 4,bc BK335 5,bc BK335 6,bc BK335 7⟩ (fun hHeld => ?_)
    clear hK K
    refine rN (h := ?_)
    refine rP 5 36 13 447 HT_ (h := ?_)
    refine rP 6 37 13 511 HT_ (h := ?_)
    refine rO 9 40 13 1023 HT_ (h := fun K hK => ?_)
    refine goes_ Tryz.func21 Z190 rfl #[.int .i64 a0_6] Z191 rfl rfl Z130 ?_
    with_reducible refine (spec_Digits.calls k1 a0_6 t347 _ A29.out).mono ?_
    rintro e w35 ⟨rfl,hb⟩
    refine ⟨_,rfl,?_⟩
    have n_ := jA (Kd.R_below Z269 hb) (jA (blk_below (g := gb335) (o := .cells #[.int .i64 a0_0,.int .i64 a0_1,.int .i64 a0_2,.int .i64 a0_3,.int .i64 a0_4,.int .i64 a0_5,.int .i64 a0_6,.slice A0_7 l0_7.length c0_7] 26 (0,0)) Z273 hb) (Aside0.mk (below_step Z241 hb)))
    clear HO_4 BK335 HB
    obtain ⟨HO_4,BK335,HB⟩ := n_
    (try clear hb)
    (try clear hb2)
    (try clear hk)
    (try clear hi)
    refine hK.out _ _ ⟨bc BK335 0,bc BK335 1,bc BK335 2,bc BK335 3,bc BK335 4,bc BK335 5,bc BK335 6,bc BK335 7⟩ (fun hHeld => ?_)
    clear hK K
    refine rN (h := ?_)
    refine rP 10 41 13 2047 HT_ (h := ?_)
    refine rP 11 42 13 4095 HT_ (h := ?_)
    refine rP 12 3 13 8191 HT_ (h := ?_)
    refine done_ (done_of HT_.out Z190) ?_
    obtain ⟨hcz36_0,hcz36_1,hcz36_2,hcz36_3,hcz36_4,hcz36_5,hcz36_6,hcz36_7,hfz36_0,hfz36_1,hfz36_2,hfz36_3,hfz36_4,hfz36_5,hfz36_6,hfz36_7⟩ := cells8 BK335.out
    try go_wp2
    go_ret
    exact ⟨Z152,Z241⟩
   rw [if_neg c32] at H
   have c32b0 : ((l0_7.length : Int) == 0) = false := beq_eq_false_iff_ne.mpr c32
   have c32b1 : ((l0_7.length : Int) != 0) = true := bne_iff_ne.mpr c32
   have c32b2 : ¬ (l0_7 = []) := fun h_ => c32 (by rw [h_];rfl)
   obtain ⟨y348,hyy⟩ : ∃ y_ : List ByteArray,y_ = (([] : List ByteArray)) := ⟨_,rfl⟩
   replace H : (spec_ConfigText.l1 k1 (((((x3_1 ++ (⟨#[114,97,116,101,61]⟩ : ByteArray)) ++ t346) ++ (⟨#[47]⟩ : ByteArray)) ++ t347) ++ (⟨#[10]⟩ : ByteArray)) y348 0 a0_0 a0_1 a0_2 a0_3 a0_4 a0_5 a0_6 l0_7) = some r := zR
   have Ny348 := Aside0.mk hyy
   clear hyy
   have H' := Aside0.mk H
   clear H
   try go_wp2
   have n_ := jA (Kd.R_drew HO_4.out) (jA (blk_drew BK335.out) (Aside0.mk (below_drew1 HB.out)))
   clear HO_4 BK335 HB
   obtain ⟨HO_4,BK335,HB⟩ := n_
   refine start_ (n := 13) (S := fun w' => w'.cell? ⟨gb335,0,none⟩ = some (.int .i64 a0_0) ∧ w'.cell? ⟨gb335,1,none⟩ = some (.int .i64 a0_1) ∧ w'.cell? ⟨gb335,2,none⟩ = some (.int .i64 a0_2) ∧ w'.cell? ⟨gb335,3,none⟩ = some (.int .i64 a0_3) ∧ w'.cell? ⟨gb335,4,none⟩ = some (.int .i64 a0_4) ∧ w'.cell? ⟨gb335,5,none⟩ = some (.int .i64 a0_5) ∧ w'.cell? ⟨gb335,6,none⟩ = some (.int .i64 a0_6) ∧ w'.cell? ⟨gb335,7,none⟩ = some (.slice A0_7 l0_7.length c0_7)) (ds := []) (qM 13 0) Z190 rfl (by kernel_rfl) ⟨bc BK335 0,bc BK335 1,bc BK335 2,bc BK335 3,bc BK335 4,bc BK335 5,bc BK335 6,bc BK335 7⟩ (fun hHeld => ?_);refine with_tabW spec_ConfigText.tab9 spec_ConfigText.bits9 (fun HT_ HW_ => ?_)
   generalize wr.drew = w37 at HO_4 BK335 HB hHeld ⊢
   refine rP 0 31 13 1 HT_ (h := ?_)
   refine rP 1 32 13 3 HT_ (h := ?_)
   refine rP 2 33 13 7 HT_ (h := ?_)
   refine rP 7 38 13 135 HT_ (h := ?_)
   refine rT8 3 34 13 143 HT_ HW_ hHeld (h := ?_)
   refine rT8 8 39 13 399 HT_ HW_ hHeld (h := ?_)
   refine rO 4 35 13 415 HT_ (h := fun K hK => ?_)
   refine goes_ Tryz.func21 Z190 rfl #[.int .i64 a0_5] Z191 rfl rfl Z130 ?_
   with_reducible refine (spec_Digits.calls k1 a0_5 t346 _ A26.out).mono ?_
   rintro e w38 ⟨rfl,hb⟩
   refine ⟨_,rfl,?_⟩
   have n_ := jA (Kd.R_below Z269 hb) (jA (blk_below (g := gb335) (o := .cells #[.int .i64 a0_0,.int .i64 a0_1,.int .i64 a0_2,.int .i64 a0_3,.int .i64 a0_4,.int .i64 a0_5,.int .i64 a0_6,.slice A0_7 l0_7.length c0_7] 26 (0,0)) Z273 hb) (Aside0.mk (below_step Z241 hb)))
   clear HO_4 BK335 HB
   obtain ⟨HO_4,BK335,HB⟩ := n_
   (try clear hb)
   (try clear hb2)
   (try clear hk)
   (try clear hi)
   refine hK.out _ _ ⟨bc BK335 0,bc BK335 1,bc BK335 2,bc BK335 3,bc BK335 4,bc BK335 5,bc BK335 6,bc BK335 7⟩ (fun hHeld => ?_)
   clear hK K
   refine rN (h := ?_)
   refine rP 5 36 13 447 HT_ (h := ?_)
   refine rP 6 37 13 511 HT_ (h := ?_)
   refine rO 9 40 13 1023 HT_ (h := fun K hK => ?_)
   refine goes_ Tryz.func21 Z190 rfl #[.int .i64 a0_6] Z191 rfl rfl Z130 ?_
   with_reducible refine (spec_Digits.calls k1 a0_6 t347 _ A29.out).mono ?_
   rintro e w39 ⟨rfl,hb⟩
   refine ⟨_,rfl,?_⟩
   have n_ := jA (Kd.R_below Z269 hb) (jA (blk_below (g := gb335) (o := .cells #[.int .i64 a0_0,.int .i64 a0_1,.int .i64 a0_2,.int .i64 a0_3,.int .i64 a0_4,.int .i64 a0_5,.int .i64 a0_6,.slice A0_7 l0_7.length c0_7] 26 (0,0)) Z273 hb) (Aside0.mk (below_step Z241 hb)))
   clear HO_4 BK335 HB
   obtain ⟨HO_4,BK335,HB⟩ := n_
   (try clear hb)
   (try clear hb2)
   (try clear hk)
   (try clear hi)
   refine hK.out _ _ ⟨bc BK335 0,bc BK335 1,bc BK335 2,bc BK335 3,bc BK335 4,bc BK335 5,bc BK335 6,bc BK335 7⟩ (fun hHeld => ?_)
   clear hK K
   refine rN (h := ?_)
   refine rP 10 41 13 2047 HT_ (h := ?_)
   refine rP 11 42 13 4095 HT_ (h := ?_)
   refine rP 12 3 13 8191 HT_ (h := ?_)
   refine done_ (done_of HT_.out Z190) ?_
   obtain ⟨hcz40_0,hcz40_1,hcz40_2,hcz40_3,hcz40_4,hcz40_5,hcz40_6,hcz40_7,hfz40_0,hfz40_1,hfz40_2,hfz40_3,hfz40_4,hfz40_5,hfz40_6,hfz40_7⟩ := cells8 BK335.out
   try go_wp2_with (first | ((with_reducible refine gate_dst (N := 48) rfl ?_);refine Kd.R_lit Kd.string _ 9 ?hg (N := 48) ?hd (xs := ([] : List ByteArray)) (inner := []) (ok := fun _ => True) (okp := fun _ => True) ?hr ?hp (fun _ hk => hk) trivial (Below.refl _ _) (Nat.le_refl _) Z286 ?_;(case hd => rfl);(case hg => rfl);(case hr => exact Z166);(case hp => exact Z185);intro v349 w41 ho42 hb hg_ hnew_;clear hg_ hnew_;(first | rw [← Ny348.out] at ho42 | (simp only [Int.reduceToNat] at ho42;rw [← Ny348.out] at ho42));have n_ := jA (Kd.R_below Z269 hb) (jA (Kd.R_lower ho42 (below_size Z241)) (jA (blk_below (g := gb335) (o := .cells #[.int .i64 a0_0,.int .i64 a0_1,.int .i64 a0_2,.int .i64 a0_3,.int .i64 a0_4,.int .i64 a0_5,.int .i64 a0_6,.slice A0_7 l0_7.length c0_7] 26 (0,0)) Z273 hb) (Aside0.mk (below_step Z241 hb))));clear HO_4 BK335 HB;obtain ⟨HO_4,HO350,BK335,HB⟩ := n_;clear hb ho42))
   go_loopg [6,7] k1 (fun kq v6 v7 w' => ∃ (x6_2 : List ByteArray) (x7_2 : Int),v7 = .int .i64 x7_2 ∧ Aside0 (spec_ConfigText.l1 kq (((((x3_1 ++ (⟨#[114,97,116,101,61]⟩ : ByteArray)) ++ t346) ++ (⟨#[47]⟩ : ByteArray)) ++ t347) ++ (⟨#[10]⟩ : ByteArray)) x6_2 x7_2 a0_0 a0_1 a0_2 a0_3 a0_4 a0_5 a0_6 l0_7 = some r) ∧ Aside0 (kq ≤ k1) ∧ Aside0 (Kd.R Kd.string 9 w' w.heap.size (fun _ => True) v6 x6_2) ∧ Aside0 (w'.heap[gb335]? = some (.cells #[.int .i64 a0_0,.int .i64 a0_1,.int .i64 a0_2,.int .i64 a0_3,.int .i64 a0_4,.int .i64 a0_5,.int .i64 a0_6,(.slice A0_7 l0_7.length c0_7)] 26 (0,0))) ∧ Aside0 (Below w.heap.size w w'))
   case atStart => exact ⟨(y348),(0),Z165,H',⟨Nat.le_refl _⟩,⟨by (with_reducible repeat (first | apply Kd.R_alloc | apply Kd.R_drewN | apply Kd.R_drew));exact HO350.out⟩,⟨Z273⟩,⟨Z241⟩⟩
   case round =>
    clear H'
    try clear c1
    try clear c2
    try clear p2
    try clear c3
    try clear p3
    try clear q3
    try clear hx3
    try clear p6
    try clear c10
    try clear c10b0
    try clear c12
    try clear c13
    try clear c14
    try clear c15
    try clear c16
    try clear c18
    try clear c19
    try clear c20
    try clear c21
    try clear c25
    try clear c25b0
    try clear c25b1
    try clear c25b2
    try clear c27
    try clear c27b0
    try clear c27b1
    try clear c27b2
    try clear c28
    try clear c28b0
    try clear c28b1
    try clear c28b2
    try clear c30
    try clear c30b0
    try clear c30b1
    try clear c30b2
    try clear c31
    try clear c31b0
    try clear c31b1
    try clear c31b2
    try clear c32
    try clear c32b0
    try clear c32b1
    try clear c32b2
    try clear p34
    try clear q34
    try clear hx34
    try clear hx343_0
    try clear hx344_0
    try clear p343
    try clear p344
    try clear q343
    try clear q344
    obtain ⟨x6_2,x7_2,rfl,HA,HK2,HO_6,BK335,HB⟩ := hrel
    cases gk with
    | zero => exact absurd HA.out (by simp [spec_ConfigText.l1])
    | succ k2 =>
     have H := HA.out
     clear HA
     simp only [spec_ConfigText.l1] at H
     by_cases c43 : x7_2 < (l0_7.length : Int)
     rotate_left
     ·rw [if_neg c43] at H
      have c43b0 : decide (x7_2 < (l0_7.length : Int)) = false := decide_eq_false c43
      clear c43
      obtain ⟨c55,H⟩ := ifp H
      have c55b0 := eq_true c55
      have c55b1 : decide ((((((x3_1 ++ (⟨#[114,97,116,101,61]⟩ : ByteArray)) ++ t346) ++ (⟨#[47]⟩ : ByteArray)) ++ t347) ++ (⟨#[10]⟩ : ByteArray)).size + 6 ≤ 9223372036854775807) = true := decide_eq_true c55
      try have c55b2 : (9223372036854775807 < (((((x3_1 ++ (⟨#[114,97,116,101,61]⟩ : ByteArray)) ++ t346) ++ (⟨#[47]⟩ : ByteArray)) ++ t347) ++ (⟨#[10]⟩ : ByteArray)).size + 6) = False := eq_false (Nat.not_lt.2 c55)
      try (have c55b3 := c55b2; simp only [ByteArray.size_append] at c55b3)
      try (have c55b4 := c55b3; simp only [show ∀ b0_ : UInt8, (⟨#[b0_]⟩ : ByteArray).size = 1 from fun _ => rfl, show ∀ b0_ b1_ b2_ b3_ b4_ : UInt8, (⟨#[b0_,b1_,b2_,b3_,b4_]⟩ : ByteArray).size = 5 from fun _ _ _ _ _ => rfl, show ∀ b0_ b1_ b2_ b3_ b4_ b5_ : UInt8, (⟨#[b0_,b1_,b2_,b3_,b4_,b5_]⟩ : ByteArray).size = 6 from fun _ _ _ _ _ _ => rfl] at c55b4)
      obtain ⟨t359,A560,H⟩ := Option.bind_eq_some_iff.mp H
      have A56 := Aside0.mk A560
      clear A560
      obtain ⟨c57,H⟩ := ifp H
      have c57b0 := eq_true c57
      have c57b1 : decide (((((((x3_1 ++ (⟨#[114,97,116,101,61]⟩ : ByteArray)) ++ t346) ++ (⟨#[47]⟩ : ByteArray)) ++ t347) ++ (⟨#[10]⟩ : ByteArray)) ++ (⟨#[115,105,103,110,115,61]⟩ : ByteArray)).size + t359.size ≤ 9223372036854775807) = true := decide_eq_true c57
      try have c57b2 : (9223372036854775807 < ((((((x3_1 ++ (⟨#[114,97,116,101,61]⟩ : ByteArray)) ++ t346) ++ (⟨#[47]⟩ : ByteArray)) ++ t347) ++ (⟨#[10]⟩ : ByteArray)) ++ (⟨#[115,105,103,110,115,61]⟩ : ByteArray)).size + t359.size) = False := eq_false (Nat.not_lt.2 c57)
      try (have c57b3 := c57b2; simp only [ByteArray.size_append] at c57b3)
      try (have c57b4 := c57b3; simp only [show ∀ b0_ : UInt8, (⟨#[b0_]⟩ : ByteArray).size = 1 from fun _ => rfl, show ∀ b0_ b1_ b2_ b3_ b4_ : UInt8, (⟨#[b0_,b1_,b2_,b3_,b4_]⟩ : ByteArray).size = 5 from fun _ _ _ _ _ => rfl, show ∀ b0_ b1_ b2_ b3_ b4_ b5_ : UInt8, (⟨#[b0_,b1_,b2_,b3_,b4_,b5_]⟩ : ByteArray).size = 6 from fun _ _ _ _ _ _ => rfl] at c57b4)
      obtain ⟨c58,H⟩ := ifp H
      have c58b0 := eq_true c58
      have c58b1 : decide ((((((((x3_1 ++ (⟨#[114,97,116,101,61]⟩ : ByteArray)) ++ t346) ++ (⟨#[47]⟩ : ByteArray)) ++ t347) ++ (⟨#[10]⟩ : ByteArray)) ++ (⟨#[115,105,103,110,115,61]⟩ : ByteArray)) ++ t359).size + 1 ≤ 9223372036854775807) = true := decide_eq_true c58
      try have c58b2 : (9223372036854775807 < (((((((x3_1 ++ (⟨#[114,97,116,101,61]⟩ : ByteArray)) ++ t346) ++ (⟨#[47]⟩ : ByteArray)) ++ t347) ++ (⟨#[10]⟩ : ByteArray)) ++ (⟨#[115,105,103,110,115,61]⟩ : ByteArray)) ++ t359).size + 1) = False := eq_false (Nat.not_lt.2 c58)
      try (have c58b3 := c58b2; simp only [ByteArray.size_append] at c58b3)
      try (have c58b4 := c58b3; simp only [show ∀ b0_ : UInt8, (⟨#[b0_]⟩ : ByteArray).size = 1 from fun _ => rfl, show ∀ b0_ b1_ b2_ b3_ b4_ : UInt8, (⟨#[b0_,b1_,b2_,b3_,b4_]⟩ : ByteArray).size = 5 from fun _ _ _ _ _ => rfl, show ∀ b0_ b1_ b2_ b3_ b4_ b5_ : UInt8, (⟨#[b0_,b1_,b2_,b3_,b4_,b5_]⟩ : ByteArray).size = 6 from fun _ _ _ _ _ _ => rfl] at c58b4)
      obtain rfl := Option.some.inj H
      obtain ⟨hcz59_0,hcz59_1,hcz59_2,hcz59_3,hcz59_4,hcz59_5,hcz59_6,hcz59_7,hfz59_0,hfz59_1,hfz59_2,hfz59_3,hfz59_4,hfz59_5,hfz59_6,hfz59_7⟩ := cells8 BK335.out
      obtain ⟨Ao60,co60,eo60⟩ := Kd.R_slice HO_6.out
      subst eo60
      go_wp2_with (first | ((with_reducible refine gate_callee (f := 22) rfl ?_);refine goesL_ (some 71) rfl rfl Tryz.func22 Z190 rfl #[.slice Ao60 x6_2.length co60,.string (⟨#[44]⟩ : ByteArray)] rfl Z130 ?_;(with_reducible refine (spec_Joined.calls k2 _ _ x6_2 (⟨#[44]⟩ : ByteArray) t359 _ ?side1 ?side2 A56.out).mono ?_);(case side1 => repeat (first | exact (Kd.R_reads' HO_6.out).2.2 | (with_reducible refine Kd.C_alloc ?_ _) | (with_reducible refine Kd.C_drewN ?_ _) | (with_reducible refine Kd.C_drew ?_)));(case side2 => exact (Kd.R_reads' HO_6.out).2.1);rintro e wq1 ⟨rfl,hb⟩;refine ⟨_,rfl,?_⟩;have n_ := jA (Kd.R_below Z268 hb) (jA (blk_below (g := gb335) (o := .cells #[.int .i64 a0_0,.int .i64 a0_1,.int .i64 a0_2,.int .i64 a0_3,.int .i64 a0_4,.int .i64 a0_5,.int .i64 a0_6,.slice A0_7 l0_7.length c0_7] 26 (0,0)) Z273 hb) (Aside0.mk (below_step Z241 hb)));clear HO_6 BK335 HB;obtain ⟨HO_6,BK335,HB⟩ := n_;(try clear hb);(try clear hb2);(try clear hk);(try clear hi)))
      go_ret
      exact ⟨Z152,Z241⟩
     rw [if_pos c43] at H
     have c43b0 : decide (x7_2 < (l0_7.length : Int)) = true := decide_eq_true c43
     clear c43
     obtain ⟨y351,hyy⟩ : ∃ y_ : List ByteArray,y_ = (([(⟨#[45]⟩ : ByteArray),(⟨#[48]⟩ : ByteArray),(⟨#[43]⟩ : ByteArray)] : List ByteArray)) := ⟨_,rfl⟩
     replace H : (if 0 ≤ x7_2 then (if 0 ≤ (wrap64 ((rd l0_7 x7_2) + 1)) then (if (wrap64 ((rd l0_7 x7_2) + 1)) < (y351.length : Int) then (if x6_2.length < 8796093022208 then (spec_ConfigText.l1 k2 (((((x3_1 ++ (⟨#[114,97,116,101,61]⟩ : ByteArray)) ++ t346) ++ (⟨#[47]⟩ : ByteArray)) ++ t347) ++ (⟨#[10]⟩ : ByteArray)) (x6_2 ++ [rdOf ByteArray.empty y351 (wrap64 ((rd l0_7 x7_2) + 1))]) (wrap64 (x7_2 + 1)) a0_0 a0_1 a0_2 a0_3 a0_4 a0_5 a0_6 l0_7) else (none)) else (none)) else (none)) else (none)) = some r := zR
     have Ny351 := Aside0.mk hyy
     clear hyy
     obtain ⟨c44,H⟩ := ifp H
     have c44b0 : decide (0 ≤ x7_2) = true := decide_eq_true c44
     clear c44
     obtain ⟨ji45,hji45⟩ : ∃ j_ : Int,(wrap64 ((rd l0_7 x7_2) + 1)) = j_ := ⟨_,rfl⟩
     replace H : (if 0 ≤ (ji45) then (if (ji45) < (y351.length : Int) then (if x6_2.length < 8796093022208 then (spec_ConfigText.l1 k2 (((((x3_1 ++ (⟨#[114,97,116,101,61]⟩ : ByteArray)) ++ t346) ++ (⟨#[47]⟩ : ByteArray)) ++ t347) ++ (⟨#[10]⟩ : ByteArray)) (x6_2 ++ [rdOf ByteArray.empty y351 (ji45)]) (wrap64 (x7_2 + 1)) a0_0 a0_1 a0_2 a0_3 a0_4 a0_5 a0_6 l0_7) else (none)) else (none)) else (none)) = some r := by first | (rw [hji45] at H;exact H) | (simp only [hji45] at H ⊢;exact H)
     have hji45w : (IntKind.i64.wrap ((rd l0_7 x7_2) + 1)) = ji45 := (i64_w _).trans hji45
     obtain ⟨c46,H⟩ := ifp H
     have c46b0 : decide (0 ≤ (ji45)) = true := decide_eq_true c46
     clear c46
     obtain ⟨c47,H⟩ := ifp H
     have c47b0 : decide ((ji45) < (y351.length : Int)) = true := decide_eq_true c47
     clear c47
     obtain ⟨c48,H⟩ := ifp H
     have LMc48 := Aside0.mk c48
     clear c48
     obtain ⟨y356,hyy⟩ : ∃ y_ : List ByteArray,y_ = (x6_2 ++ [rdOf ByteArray.empty y351 (ji45)]) := ⟨_,rfl⟩
     replace H : (spec_ConfigText.l1 k2 (((((x3_1 ++ (⟨#[114,97,116,101,61]⟩ : ByteArray)) ++ t346) ++ (⟨#[47]⟩ : ByteArray)) ++ t347) ++ (⟨#[10]⟩ : ByteArray)) y356 (wrap64 (x7_2 + 1)) a0_0 a0_1 a0_2 a0_3 a0_4 a0_5 a0_6 l0_7) = some r := zR
     have Ny356 := Aside0.mk hyy
     clear hyy
     have H' := Aside0.mk H
     clear H
     obtain ⟨hcz49_0,hcz49_1,hcz49_2,hcz49_3,hcz49_4,hcz49_5,hcz49_6,hcz49_7,hfz49_0,hfz49_1,hfz49_2,hfz49_3,hfz49_4,hfz49_5,hfz49_6,hfz49_7⟩ := cells8 BK335.out
     go_wp2_with (first | ((with_reducible refine gate_dst (N := 57) rfl ?_);refine Kd.R_lit Kd.string _ 9 ?hg (N := 57) ?hd (xs := ([(⟨#[45]⟩ : ByteArray),(⟨#[48]⟩ : ByteArray),(⟨#[43]⟩ : ByteArray)] : List ByteArray)) (inner := [.string (⟨#[45]⟩ : ByteArray),.string (⟨#[48]⟩ : ByteArray),.string (⟨#[43]⟩ : ByteArray)]) (ok := fun _ => True) (okp := fun _ => True) ?hr ?hp (fun _ hk => hk) trivial (Below.refl _ _) (Nat.le_refl _) Z286 ?_;(case hd => rfl);(case hg => rfl);(case hr => exact Z166);(case hp => exact (Reps.one (show Kd.M Kd.string _ _ _ (⟨#[45]⟩ : ByteArray) [.string (⟨#[45]⟩ : ByteArray)] from rfl) (Reps.one (show Kd.M Kd.string _ _ _ (⟨#[48]⟩ : ByteArray) [.string (⟨#[48]⟩ : ByteArray)] from rfl) (Reps.one (show Kd.M Kd.string _ _ _ (⟨#[43]⟩ : ByteArray) [.string (⟨#[43]⟩ : ByteArray)] from rfl) (Reps.none _ _)))));intro v352 w50 ho51 hb hg_ hnew_;clear hg_ hnew_;(first | rw [← Ny351.out] at ho51 | (simp only [Int.reduceToNat] at ho51;rw [← Ny351.out] at ho51));have n_ := jA (Kd.R_elder' Z268 (Kd.R_base ho51) hb) (jA (Kd.R_lower (Kd.R_new' ho51 (Kd.R_lt Z268)) (below_size Z241)) (jA (blk_below (g := gb335) (o := .cells #[.int .i64 a0_0,.int .i64 a0_1,.int .i64 a0_2,.int .i64 a0_3,.int .i64 a0_4,.int .i64 a0_5,.int .i64 a0_6,.slice A0_7 l0_7.length c0_7] 26 (0,0)) Z273 hb) (Aside0.mk (below_step Z241 hb))));clear HO_6 BK335 HB;obtain ⟨HO_6,HO353,BK335,HB⟩ := n_;clear hb ho51;obtain ⟨hcz52_0,hcz52_1,hcz52_2,hcz52_3,hcz52_4,hcz52_5,hcz52_6,hcz52_7,hfz52_0,hfz52_1,hfz52_2,hfz52_3,hfz52_4,hfz52_5,hfz52_6,hfz52_7⟩ := cells8 BK335.out;have p354 : 0 ≤ (x7_2 : Int) := of_decide_eq_true Z164;have q354 : x7_2 < (l0_7.length : Int) := of_decide_eq_true Z164;obtain ⟨ad354,e354,hx354_0⟩ := Kd.at_int HR0_7.out x7_2 p354 q354;cases e354;replace hx354_0 := (HB.out.cell (World.block_lt_of_cell? w _ hx354_0)).trans hx354_0;replace p354 := eq_true p354;replace q354 := eq_true q354;obtain ⟨Ao53,co53,eo53⟩ := Kd.R_slice HO353.out;subst eo53;have p355 : 0 ≤ ((ji45) : Int) := of_decide_eq_true Z164;have q355 : (ji45) < (y351.length : Int) := of_decide_eq_true Z164;obtain ⟨ad355,e355,hx355_0⟩ := Kd.at_string (Kd.R_reads' HO353.out).2.2 (ji45) p355 q355;cases e355;replace p355 := eq_true p355;replace q355 := eq_true q355) | ((with_reducible refine gate_builtin (b := .append) (xs := #[.tmp 56,.tmp 66]) rfl ?_);at_builtin;refine Kd.R_append Kd.string (w0 := w) w.heap.size rfl (.tmp 56) (.tmp 66) 42 9 (.string ⟨#[]⟩) 16 rfl Tryz.underlying42 info9 rfl Z306 Z285 u6 x6_2 (rdOf ByteArray.empty y351 (ji45)) [.string (rdOf ByteArray.empty y351 (ji45))] (fun k_ => some k_ ≠ (.slice (some ad355) y351.length co53 : Value).ownBlock) (fun _ => False) rfl rfl ?aP (fun _ hk => hk.elim) ?aF ?aO ?aB ?aS ?aL ?_;(case aP => exact rfl);(case aB => exact Z241);(case aF => exact (fun k_ hk => Kd.fresh' (Kd.R_lt Z147) k_ hk));(case aO => exact (by (with_reducible repeat (first | apply Kd.R_alloc | apply Kd.R_drewN | apply Kd.R_drew));exact Kd.R_mono HO_6.out (fun _ hk => hk.2)));(case aS => exact (below_size Z241));(case aL => have := LMc48.out;omega);intro v357 w54 ho hb hg hat;rw [← Ny356.out] at ho;have n_ := jA (blk_grown (g := gb335) (o := .cells #[.int .i64 a0_0,.int .i64 a0_1,.int .i64 a0_2,.int .i64 a0_3,.int .i64 a0_4,.int .i64 a0_5,.int .i64 a0_6,.slice (some ad354) l0_7.length c0_7] 26 (0,0)) Z273 hg (Kd.R_ne HO_6.out BK335.out Z306)) (jA (Kd.R_after (ok := (fun _ => True)) Z147 hg hat) (jA (hb) (Aside0.mk (ho))));clear BK335 HO353 HB HO_6;obtain ⟨BK335,HO353,HB,HO358⟩ := n_;clear ho hb hg hat))
     go_roundg k2
     case measure => have := HK1.out;have := HK2.out;omega
     case rel => exact ⟨(y356),(wrap64 (x7_2 + 1)),Z165,H',⟨Z167⟩,⟨by (with_reducible repeat (first | apply Kd.R_alloc | apply Kd.R_drewN | apply Kd.R_drew));exact Kd.R_mono HO358.out (fun _ hk => trivial)⟩,⟨Z273⟩,⟨Z241⟩⟩

end Go.Proofs.YtepnbcdbagjmbaeGreatDoor.QFnConfig
