/- The machine side of FnConfig: what each Go function that it reaches comes to. Conditions: none. -/
import Derived.Test.YtepnbcdbagjmbaeGreatDoorQFnConfigx0
import Derived.Test.YtepnbcdbagjmbaeGreatDoorQFnConfigx1
import Derived.Test.YtepnbcdbagjmbaeGreatDoorQFnConfigx2
import Derived.Test.YtepnbcdbagjmbaeGreatDoorQFnConfigx4
import Derived.Test.YtepnbcdbagjmbaeGreatDoorQFnConfigx5
import Derived.Test.YtepnbcdbagjmbaeGreatDoorQFnConfigx6
import Derived.Test.YtepnbcdbagjmbaeGreatDoorQFnConfigx8
import Derived.Test.YtepnbcdbagjmbaeGreatDoorQFnConfigx10
import Derived.Test.YtepnbcdbagjmbaeGreatDoorQFnConfigx12
import Derived.Test.YtepnbcdbagjmbaeGreatDoorQFnConfigx13
import Derived.Test.YtepnbcdbagjmbaeGreatDoorQFnConfigx17
import Derived.Test.YtepnbcdbagjmbaeGreatDoorQFnConfigx19
import Derived.Test.YtepnbcdbagjmbaeGreatDoorQFnConfigx21
namespace Go.Proofs.YtepnbcdbagjmbaeGreatDoor.QFnConfig
open Go.RowKit Go.Proofs.YtepnbcdbagjmbaeGreatDoorW.PrintWords Go.Proofs.YtepnbcdbagjmbaeGreatDoorW.PrintLast Go.Proofs.YtepnbcdbagjmbaeGreatDoorW.PrintMore
attribute [local go_sem] max2_int min2_int max_two min_two max_three min_three max_four min_four   -- for this text's walks alone
set_option linter.unusedVariables false
set_option linter.unusedSimpArgs false

attribute [local go_sem high] eqA31
/-! ### laws_FnConfig: function 3 -/
def laws_FnConfig.j0 : Nat → List Int → ByteArray → Bool → Int → Int → Int → Int → Int → Int → Int → List Int → Option (Bool)
 | 0,_,_,_,_,_,_,_,_,_,_,_ => none
 | k + 1,x0,x4,x28,x644000,x644001,x644002,x644003,x644004,x644005,x644006,x644007 => if x28 = true then (some false) else ((impl_ReadConfig.f k x4).bind fun bt647 => ((spec_DrawReadConfig.f k x0).bind fun t662 => ((impl_ReadConfig.f k t662).bind fun bt663 => ((spec_ReadConfig.f k t662).bind fun bt678 => (if (!(bt663.2.2.2.2.2.2.2.2.1 == bt678.2.2.2.2.2.2.2.2.1) || (!(bt663.2.2.2.2.2.2.2.2.2.1 == bt678.2.2.2.2.2.2.2.2.2.1) || (!(bt663.2.2.2.2.2.2.2.2.2.2 == bt678.2.2.2.2.2.2.2.2.2.2)))) = true then (some false) else (if x4.toList = ([] : List UInt8) then (if bt663.2.2.2.2.2.2.2.2.1 = 0 then ((spec_ConfigOk.f k bt663.1 bt663.2.1 bt663.2.2.1 bt663.2.2.2.1 bt663.2.2.2.2.1 bt663.2.2.2.2.2.1 bt663.2.2.2.2.2.2.1 bt663.2.2.2.2.2.2.2.1).bind fun t693 => (some t693)) else (some true)) else (if bt647.2.2.2.2.2.2.2.2.1 = 0 then ((spec_SameConfig.f k bt647.1 bt647.2.1 bt647.2.2.1 bt647.2.2.2.1 bt647.2.2.2.2.1 bt647.2.2.2.2.2.1 bt647.2.2.2.2.2.2.1 bt647.2.2.2.2.2.2.2.1 x644000 x644001 x644002 x644003 x644004 x644005 x644006 x644007).bind fun t694 => (if t694 = true then ((impl_SameConfig.f k bt647.1 bt647.2.1 bt647.2.2.1 bt647.2.2.2.1 bt647.2.2.2.2.1 bt647.2.2.2.2.2.1 bt647.2.2.2.2.2.2.1 bt647.2.2.2.2.2.2.2.1 x644000 x644001 x644002 x644003 x644004 x644005 x644006 x644007).bind fun t695 => (if t695 = true then (if bt663.2.2.2.2.2.2.2.2.1 = 0 then ((spec_ConfigOk.f k bt663.1 bt663.2.1 bt663.2.2.1 bt663.2.2.2.1 bt663.2.2.2.2.1 bt663.2.2.2.2.2.1 bt663.2.2.2.2.2.2.1 bt663.2.2.2.2.2.2.2.1).bind fun t696 => (some t696)) else (some true)) else (some false))) else (some false))) else (some false))))))))
def laws_FnConfig.f (k : Nat) (l0 : List Int) : Option (Bool) := (laws_big.f l0).bind fun t632 => (if t632 = true then (some true) else ((spec_DrawConfigText.f k l0).bind fun bt633 => ((impl_ConfigText.f k bt633.1 bt633.2.1 bt633.2.2.1 bt633.2.2.2.1 bt633.2.2.2.2.1 bt633.2.2.2.2.2.1 bt633.2.2.2.2.2.2.1 bt633.2.2.2.2.2.2.2).bind fun t644 => ((spec_ConfigText.f k bt633.1 bt633.2.1 bt633.2.2.1 bt633.2.2.2.1 bt633.2.2.2.2.1 bt633.2.2.2.2.2.1 bt633.2.2.2.2.2.2.1 bt633.2.2.2.2.2.2.2).bind fun t645 => (if t644.toList = t645.toList then ((impl_ConfigOk.f k bt633.1 bt633.2.1 bt633.2.2.1 bt633.2.2.2.1 bt633.2.2.2.2.1 bt633.2.2.2.2.2.1 bt633.2.2.2.2.2.2.1 bt633.2.2.2.2.2.2.2).bind fun t646 => (laws_FnConfig.j0 k l0 t644 ((t644.toList != ([] : List UInt8)) != t646) bt633.1 bt633.2.1 bt633.2.2.1 bt633.2.2.2.1 bt633.2.2.2.2.1 bt633.2.2.2.2.2.1 bt633.2.2.2.2.2.2.1 bt633.2.2.2.2.2.2.2)) else (laws_FnConfig.j0 k l0 t644 true bt633.1 bt633.2.1 bt633.2.2.1 bt633.2.2.2.1 bt633.2.2.2.2.1 bt633.2.2.2.2.2.1 bt633.2.2.2.2.2.2.1 bt633.2.2.2.2.2.2.2))))))
theorem laws_FnConfig.mono_l : ∀ k,(∀ y0 y1 y2 y3 y4 y5 y6 y7 y8 y9 y10,LeO (laws_FnConfig.j0 k y0 y1 y2 y3 y4 y5 y6 y7 y8 y9 y10) (laws_FnConfig.j0 (k + 1) y0 y1 y2 y3 y4 y5 y6 y7 y8 y9 y10))
 | 0 => fun _ _ _ _ _ _ _ _ _ _ _ r h => by simp [laws_FnConfig.j0] at h
 | k + 1 => by
  have ih0 := laws_FnConfig.mono_l k
  ·intro y0 y1 y2 y3 y4 y5 y6 y7 y8 y9 y10
   unfold laws_FnConfig.j0
   repeat' first
   | (with_reducible exact ih0 _ _ _ _ _ _ _ _ _ _ _)
   | (with_reducible exact impl_ConfigOk.mono _ _ _ _ _ _ _ _ _)
   | (with_reducible exact impl_ConfigText.mono _ _ _ _ _ _ _ _ _)
   | (with_reducible exact impl_ReadConfig.mono _ _)
   | (with_reducible exact impl_SameConfig.mono _ _ _ _ _ _ _ _ _ _ _ _ _ _ _ _ _)
   | (with_reducible exact spec_ConfigOk.mono _ _ _ _ _ _ _ _ _)
   | (with_reducible exact spec_ConfigText.mono _ _ _ _ _ _ _ _ _)
   | (with_reducible exact spec_DrawConfigText.mono _ _)
   | (with_reducible exact spec_DrawReadConfig.mono _ _)
   | (with_reducible exact spec_ReadConfig.mono _ _)
   | (with_reducible exact spec_SameConfig.mono _ _ _ _ _ _ _ _ _ _ _ _ _ _ _ _ _)
   | (with_reducible exact LeO.refl _)
   | (with_reducible exact LeO.none _)
   | (with_reducible refine LeO.ite ?_ ?_)
   | (with_reducible refine LeO.bind ?_ (fun _ => ?_))
   | exact ih0 _ _ _ _ _ _ _ _ _ _ _
   | exact impl_ConfigOk.mono _ _ _ _ _ _ _ _ _
   | exact impl_ConfigText.mono _ _ _ _ _ _ _ _ _
   | exact impl_ReadConfig.mono _ _
   | exact impl_SameConfig.mono _ _ _ _ _ _ _ _ _ _ _ _ _ _ _ _ _
   | exact spec_ConfigOk.mono _ _ _ _ _ _ _ _ _
   | exact spec_ConfigText.mono _ _ _ _ _ _ _ _ _
   | exact spec_DrawConfigText.mono _ _
   | exact spec_DrawReadConfig.mono _ _
   | exact spec_ReadConfig.mono _ _
   | exact spec_SameConfig.mono _ _ _ _ _ _ _ _ _ _ _ _ _ _ _ _ _
   | exact LeO.none _
   | refine LeO.ite ?_ ?_
   | refine LeO.bind ?_ (fun _ => ?_)
theorem laws_FnConfig.mono : ∀ a0 k,LeO (laws_FnConfig.f k a0) (laws_FnConfig.f (k + 1) a0) := by
 intro a0 k
 have ih0 := laws_FnConfig.mono_l k
 unfold laws_FnConfig.f
 repeat' first
   | (with_reducible exact ih0 _ _ _ _ _ _ _ _ _ _ _)
   | (with_reducible exact impl_ConfigOk.mono _ _ _ _ _ _ _ _ _)
   | (with_reducible exact impl_ConfigText.mono _ _ _ _ _ _ _ _ _)
   | (with_reducible exact impl_ReadConfig.mono _ _)
   | (with_reducible exact impl_SameConfig.mono _ _ _ _ _ _ _ _ _ _ _ _ _ _ _ _ _)
   | (with_reducible exact spec_ConfigOk.mono _ _ _ _ _ _ _ _ _)
   | (with_reducible exact spec_ConfigText.mono _ _ _ _ _ _ _ _ _)
   | (with_reducible exact spec_DrawConfigText.mono _ _)
   | (with_reducible exact spec_DrawReadConfig.mono _ _)
   | (with_reducible exact spec_ReadConfig.mono _ _)
   | (with_reducible exact spec_SameConfig.mono _ _ _ _ _ _ _ _ _ _ _ _ _ _ _ _ _)
   | (with_reducible exact LeO.refl _)
   | (with_reducible exact LeO.none _)
   | (with_reducible refine LeO.ite ?_ ?_)
   | (with_reducible refine LeO.bind ?_ (fun _ => ?_))
   | exact ih0 _ _ _ _ _ _ _ _ _ _ _
   | exact impl_ConfigOk.mono _ _ _ _ _ _ _ _ _
   | exact impl_ConfigText.mono _ _ _ _ _ _ _ _ _
   | exact impl_ReadConfig.mono _ _
   | exact impl_SameConfig.mono _ _ _ _ _ _ _ _ _ _ _ _ _ _ _ _ _
   | exact spec_ConfigOk.mono _ _ _ _ _ _ _ _ _
   | exact spec_ConfigText.mono _ _ _ _ _ _ _ _ _
   | exact spec_DrawConfigText.mono _ _
   | exact spec_DrawReadConfig.mono _ _
   | exact spec_ReadConfig.mono _ _
   | exact spec_SameConfig.mono _ _ _ _ _ _ _ _ _ _ _ _ _ _ _ _ _
   | exact LeO.none _
   | refine LeO.ite ?_ ?_
   | refine LeO.bind ?_ (fun _ => ?_)
theorem laws_FnConfig.j0_stop {k : Nat} {r : Bool} {y0 : List Int} {y4 : ByteArray} {y644000 : Int} {y644001 : Int} {y644002 : Int} {y644003 : Int} {y644004 : Int} {y644005 : Int} {y644006 : Int} {y644007 : List Int} (h : laws_FnConfig.j0 k y0 y4 true y644000 y644001 y644002 y644003 y644004 y644005 y644006 y644007 = some r) : r = false := by
 cases k with
 | zero => simp [laws_FnConfig.j0] at h
 | succ k =>
  simp only [laws_FnConfig.j0] at h
  rw [if_pos trivial] at h
  exact (Option.some.inj h).symm
set_option maxHeartbeats 8000000 in
set_option maxRecDepth 100000 in
theorem laws_FnConfig.calls (k : Nat) (A0 : Option Addr) (c0 : Nat) (l0 : List Int) (r : Bool) (w : World) (hr0 : Kd.C (Kd.int .u8) w A0 l0.length l0) (hc0 : l0.length ≤ c0) (hG : GT w) (h : laws_FnConfig.f k l0 = some r) (hr_ : r = true) :
  Calls Tryz.prog 3 #[.slice A0 l0.length c0] w fun e w' => e = .returned (.bool r) ∧ Below w.heap.size w w' := by
 have HRT := Aside0.mk hr_
 clear hr_
 have HG := Aside0.mk hG
 clear hG
 have hu26 := Tryz.underlying26
 have hu31 := Tryz.underlying31
 have HR0 := Aside0.mk hr0
 have HC0 := Aside0.mk hc0
 clear hr0 hc0
 have HB := Aside0.mk (Below.refl w.heap.size w)
 have H := h
 clear h
 unfold laws_FnConfig.f at H
 obtain ⟨t632,A20,H⟩ := Option.bind_eq_some_iff.mp H
 have A2 := Aside0.mk A20
 clear A20
 by_cases c3 : t632 = true
 ·subst c3
  rw [if_pos rfl] at H
  obtain rfl := Option.some.inj H
  go_enter Tryz.func3,Tryz.ntmps3
  go_wp2_with (first | ((with_reducible refine gate_callee (f := 4) rfl ?_);refine goesL_ (some 13) rfl rfl Tryz.func4 Z190 rfl #[.slice A0 l0.length c0] rfl Z130 ?_;(with_reducible refine (laws_big.calls _ _ l0 true _ ?side1 ?side2 A2.out).mono ?_);(case side1 => exact Z127);(case side2 => exact HC0.out);rintro e w' ⟨rfl,⟨nd,rfl⟩⟩;refine ⟨_,rfl,?_⟩))
  go_ret
  exact ⟨Z152,Z298⟩
 replace c3 := Bool.eq_false_iff.mpr c3
 subst c3
 rw [if_neg Bool.false_ne_true] at H
 obtain ⟨⟨t633,t634,t635,t636,t637,t638,t639,t640⟩,A40,H⟩ := Option.bind_eq_some_iff.mp H
 try dsimp only at H
 have A4 := Aside0.mk A40
 clear A40
 obtain ⟨t644,A50,H⟩ := Option.bind_eq_some_iff.mp H
 have A5 := Aside0.mk A50
 clear A50
 have HC6 := Aside0.mk H
 clear H
 go_enter Tryz.func3,Tryz.ntmps3
 go_upto_region 5 with (first | ((with_reducible refine gate_callee (f := 4) rfl ?_);refine goesL_ (some 13) rfl rfl Tryz.func4 Z190 rfl #[.slice A0 l0.length c0] rfl Z130 ?_;(with_reducible refine (laws_big.calls _ _ l0 false _ ?side1 ?side2 A2.out).mono ?_);(case side1 => exact Z127);(case side2 => exact HC0.out);rintro e w' ⟨rfl,⟨nd,rfl⟩⟩;refine ⟨_,rfl,?_⟩) | ((with_reducible refine gate_callee (f := 5) rfl ?_);refine goesL_ (some 15) rfl rfl Tryz.func5 Z190 rfl #[.slice A0 l0.length c0] rfl Z130 ?_;(with_reducible refine (spec_DrawConfigText.calls k _ _ l0 t633 t634 t635 t636 t637 t638 t639 t640 _ ?side1 ?side2 A4.out).mono ?_);(case side1 => exact Z127);(case side2 => exact HC0.out);rintro e w7 ⟨v641,rfl,ho0,hb⟩;refine ⟨_,rfl,?_⟩;have n_ := Z58;clear HB;obtain ⟨HO642,HB⟩ := n_;(try clear hb);(try clear hb2);(try clear hk);(try clear hi);(try clear ho0)) | ((with_reducible refine gate_dst (N := 3) rfl ?_);refine bE 3 #[.int .i64 0,.int .i64 0,.int .i64 0,.int .i64 0,.int .i64 0,.int .i64 0,.int .i64 0,.slice none 0 0] 26 (h := ?_);intro gb643 hg w8 hbox hb;have n_ := jA (Kd.R_below Z265 hb) (jA (below_step Z298 hb) (jA (hbox) (jA ((Z240 : w.heap.size ≤ gb643)) (Aside0.mk ((Z240 : w.heap.size ≤ gb643))))));clear HO642 HB;obtain ⟨HO642,HB,BK643,GW643,GE643⟩ := n_;clear hb hbox hg;obtain ⟨hcz9_0,hcz9_1,hcz9_2,hcz9_3,hcz9_4,hcz9_5,hcz9_6,hcz9_7,hfz9_0,hfz9_1,hfz9_2,hfz9_3,hfz9_4,hfz9_5,hfz9_6,hfz9_7⟩ := cells8 BK643.out;obtain ⟨Ao10,co10,eo10⟩ := Kd.R_slice HO642.out;subst eo10) | ((with_reducible refine gate_callee (f := 6) rfl ?_);refine goesL_ (some 17) rfl rfl Tryz.func6 Z190 rfl #[.agg #[.int .i64 t633,.int .i64 t634,.int .i64 t635,.int .i64 t636,.int .i64 t637,.int .i64 t638,.int .i64 t639,.slice Ao10 t640.length co10]] rfl Z130 ?_;(with_reducible refine (impl_ConfigText.calls k t633 t634 t635 t636 t637 t638 t639 _ _ t640 t644 _ ?side1 ?side2 ?side3 A5.out).mono ?_);(case side1 => refine (Kd.R_reads' (e := 3) (base := w.heap.size) (ok := fun k_ => True) (n := t640.length) (c := co10) ?_).2.2;exact Z39);(case side2 => exact (Kd.R_reads' HO642.out).2.1);(case side3 => exact Z99);rintro e w11 ⟨rfl,hb⟩;refine ⟨_,rfl,?_⟩;have n_ := jA (Kd.R_below Z39 hb) (jA (blk_below (g := gb643) (o := .cells #[.int .i64 t633,.int .i64 t634,.int .i64 t635,.int .i64 t636,.int .i64 t637,.int .i64 t638,.int .i64 t639,.slice Ao10 t640.length co10] 26 (0,0)) (by refine bP ?_;refine blk_put (cs := #[.int .i64 t633,.int .i64 t634,.int .i64 t635,.int .i64 t636,.int .i64 t637,.int .i64 t638,.int .i64 t639,.slice none 0 0]) ?_ 7 _ rfl;refine bP ?_;refine blk_put (cs := #[.int .i64 t633,.int .i64 t634,.int .i64 t635,.int .i64 t636,.int .i64 t637,.int .i64 t638,.int .i64 0,.slice none 0 0]) ?_ 6 _ rfl;refine bP ?_;refine blk_put (cs := #[.int .i64 t633,.int .i64 t634,.int .i64 t635,.int .i64 t636,.int .i64 t637,.int .i64 0,.int .i64 0,.slice none 0 0]) ?_ 5 _ rfl;refine bP ?_;refine blk_put (cs := #[.int .i64 t633,.int .i64 t634,.int .i64 t635,.int .i64 t636,.int .i64 0,.int .i64 0,.int .i64 0,.slice none 0 0]) ?_ 4 _ rfl;refine bP ?_;refine blk_put (cs := #[.int .i64 t633,.int .i64 t634,.int .i64 t635,.int .i64 0,.int .i64 0,.int .i64 0,.int .i64 0,.slice none 0 0]) ?_ 3 _ rfl;refine bP ?_;refine blk_put (cs := #[.int .i64 t633,.int .i64 t634,.int .i64 0,.int .i64 0,.int .i64 0,.int .i64 0,.int .i64 0,.slice none 0 0]) ?_ 2 _ rfl;refine bP ?_;refine blk_put (cs := #[.int .i64 t633,.int .i64 0,.int .i64 0,.int .i64 0,.int .i64 0,.int .i64 0,.int .i64 0,.slice none 0 0]) ?_ 1 _ rfl;refine bP ?_;refine blk_put (cs := #[.int .i64 0,.int .i64 0,.int .i64 0,.int .i64 0,.int .i64 0,.int .i64 0,.int .i64 0,.slice none 0 0]) ?_ 0 _ rfl;refine bP ?_;exact BK643.out) hb) (Aside0.mk (below_step Z293 hb)));clear HO642 BK643 HB;obtain ⟨HO642,BK643,HB⟩ := n_;(try clear hb);(try clear hb2);(try clear hk);(try clear hi)))
 (try simp only [Act.put,List.setIfInBounds_toArray,List.set_cons_zero,List.set_cons_succ])
 go_cut [28] (fun v28 wc => ∃ (kq : Nat) (x28_5 : Bool),v28 = .bool x28_5 ∧ Aside0 (laws_FnConfig.j0 kq l0 t644 x28_5 t633 t634 t635 t636 t637 t638 t639 t640 = some r) ∧ Aside0 (kq ≤ k) ∧ Aside0 (Kd.R (Kd.int .i64) 3 wc w.heap.size (fun _ => True) (.slice Ao10 t640.length co10) t640) ∧ Aside0 (wc.heap[gb643]? = some (.cells #[.int .i64 t633,.int .i64 t634,.int .i64 t635,.int .i64 t636,.int .i64 t637,.int .i64 t638,.int .i64 t639,(.slice Ao10 t640.length co10)] 26 (0,0))) ∧ Aside0 (Below w.heap.size w wc))
 case first =>
  have H := HC6.out
  clear HC6
  obtain ⟨t645,A120,H⟩ := Option.bind_eq_some_iff.mp H
  have A12 := Aside0.mk A120
  clear A120
  by_cases c13 : t644.toList = t645.toList
  rotate_left
  ·rw [if_neg c13] at H
   have c13b0 : (t644.toList == t645.toList) = false := beq_eq_false_iff_ne.mpr c13
   have c13b1 : (t644.toList != t645.toList) = true := bne_iff_ne.mpr c13
   (first | rw [c13b0] | (simp only [i64_w,i32_w];rw [c13b0]) | skip)
   exact absurd ((laws_FnConfig.j0_stop H).symm.trans HRT.out) Z306
  rw [if_pos c13] at H
  have c13b0 : (t644.toList == t645.toList) = true := beq_iff_eq.mpr c13
  have c13b1 : (t644.toList != t645.toList) = false := bne_eq_false_iff_eq.mpr c13
  clear c13
  (first | rw [c13b0] | (simp only [i64_w,i32_w];rw [c13b0]) | skip)
  obtain ⟨t646,A140,H⟩ := Option.bind_eq_some_iff.mp H
  have A14 := Aside0.mk A140
  clear A140
  have H' := Aside0.mk H
  clear H
  obtain ⟨hcz15_0,hcz15_1,hcz15_2,hcz15_3,hcz15_4,hcz15_5,hcz15_6,hcz15_7,hfz15_0,hfz15_1,hfz15_2,hfz15_3,hfz15_4,hfz15_5,hfz15_6,hfz15_7⟩ := cells8 BK643.out
  go_wp2_with (first | ((with_reducible refine gate_callee (f := 7) rfl ?_);refine goesL_ (some 20) rfl rfl Tryz.func7 Z190 rfl #[.agg #[.int .i64 t633,.int .i64 t634,.int .i64 t635,.int .i64 t636,.int .i64 t637,.int .i64 t638,.int .i64 t639,.slice Ao10 t640.length co10]] rfl Z130 ?_;(with_reducible refine (spec_ConfigText.calls k t633 t634 t635 t636 t637 t638 t639 _ _ t640 t645 _ ?side1 ?side2 A12.out).mono ?_);(case side1 => exact Z112);(case side2 => exact (Kd.R_reads' HO642.out).2.1);rintro e w16 ⟨rfl,hb⟩;refine ⟨_,rfl,?_⟩;have n_ := Z49;clear HO642 BK643 HB;obtain ⟨HO642,BK643,HB⟩ := n_;(try clear hb);(try clear hb2);(try clear hk);(try clear hi);obtain ⟨hcz17_0,hcz17_1,hcz17_2,hcz17_3,hcz17_4,hcz17_5,hcz17_6,hcz17_7,hfz17_0,hfz17_1,hfz17_2,hfz17_3,hfz17_4,hfz17_5,hfz17_6,hfz17_7⟩ := cells8 BK643.out) | (go_at_call 8;(with_reducible refine (impl_ConfigOk.calls k t633 t634 t635 t636 t637 t638 t639 _ _ t640 t646 _ ?side1 ?side2 A14.out).mono ?_);(case side1 => exact Z112);(case side2 => exact (Kd.R_reads' HO642.out).2.1);rintro e w18 ⟨rfl,hb⟩;have n_ := Z49;clear HO642 BK643 HB;obtain ⟨HO642,BK643,HB⟩ := n_;(try clear hb);(try clear hb2);(try clear hk);(try clear hi)))
  go_meet
  case rel => exact ⟨_,(((t644.toList != ([] : List UInt8)) != t646)),(by simp [*];cases t646 <;> cases t644.toList <;> rfl),H',⟨Z169⟩,⟨Z265⟩,⟨Z301⟩,⟨Z293⟩⟩
 case rest =>
  clear HC6
  try clear c1
  try clear p2
  try clear c3
  try clear c4
  try clear c5
  try clear c6
  try clear c7
  try clear c13
  try clear c13b0
  try clear c13b1
  obtain ⟨kq,x28_5,rfl,HA,HJ5,HO_644007,BK643,HB⟩ := hcut
  cases kq with
  | zero => exact absurd HA.out (by simp [laws_FnConfig.j0])
  | succ kj5 =>
   have H := HA.out
   clear HA
   simp only [laws_FnConfig.j0] at H
   by_cases c19 : x28_5 = true
   ·subst c19
    rw [if_pos rfl] at H
    exact absurd ((Option.some.inj H).trans HRT.out) Z306
   replace c19 := Bool.eq_false_iff.mpr c19
   subst c19
   rw [if_neg Bool.false_ne_true] at H
   obtain ⟨⟨t647,t648,t649,t650,t651,t652,t653,t654,t657,t658,t659⟩,A200,H⟩ := Option.bind_eq_some_iff.mp H
   try dsimp only at H
   have A20 := Aside0.mk A200
   clear A200
   obtain ⟨t662,A210,H⟩ := Option.bind_eq_some_iff.mp H
   have A21 := Aside0.mk A210
   clear A210
   obtain ⟨⟨t663,t664,t665,t666,t667,t668,t669,t670,t673,t674,t675⟩,A220,H⟩ := Option.bind_eq_some_iff.mp H
   try dsimp only at H
   have A22 := Aside0.mk A220
   clear A220
   obtain ⟨⟨t678,t679,t680,t681,t682,t683,t684,t685,t688,t689,t690⟩,A230,H⟩ := Option.bind_eq_some_iff.mp H
   try dsimp only at H
   have A23 := Aside0.mk A230
   clear A230
   by_cases c24 : (!(t673 == t688) || (!(t674 == t689) || (!(t675 == t690)))) = true
   ·rw [if_pos c24] at H
    have c24b0 : (!(t673 == t688) || (!(t674 == t689) || (!(t675 == t690)))) = true := c24
    clear c24
    exact absurd ((Option.some.inj H).trans HRT.out) Z306
   rw [if_neg c24] at H
   have c24b0 : (!(t673 == t688) || (!(t674 == t689) || (!(t675 == t690)))) = false := by simpa using c24
   clear c24
   by_cases c25 : t644.toList = ([] : List UInt8)
   ·rw [if_pos c25] at H
    have c25b0 : (t644.toList == ([] : List UInt8)) = true := beq_iff_eq.mpr c25
    have c25b1 : (t644.toList != ([] : List UInt8)) = false := bne_eq_false_iff_eq.mpr c25
    clear c25
    by_cases c26 : t673 = 0
    rotate_left
    ·rw [if_neg c26] at H
     have c26b0 : (t673 == 0) = false := beq_eq_false_iff_ne.mpr c26
     have c26b1 : (t673 != 0) = true := bne_iff_ne.mpr c26
     obtain rfl := Option.some.inj H
     go_wp2_with (first | ((with_reducible refine gate_callee (f := 9) rfl ?_);refine goesL_ (some 31) rfl rfl Tryz.func9 Z190 rfl #[.string t644] rfl Z130 ?_;(with_reducible refine (impl_ReadConfig.calls kj5 t644 t647 t648 t649 t650 t651 t652 t653 t654 t657 t658 t659 _ ?side1 A20.out).mono ?_);(case side1 => exact Z99);rintro e wq1 ⟨vq2,rfl,hoq3,hb⟩;refine ⟨_,rfl,?_⟩;have n_ := Z35;clear HO_644007 BK643 HB;obtain ⟨HO_644007,HO656,BK643,HB⟩ := n_;(try clear hb);(try clear hb2);(try clear hk);(try clear hi);(try clear hoq3)) | ((with_reducible refine gate_dst (N := 5) rfl ?_);refine bE 5 #[.int .i64 0,.int .i64 0,.int .i64 0,.int .i64 0,.int .i64 0,.int .i64 0,.int .i64 0,.slice none 0 0] 26 (h := ?_);intro gb660 hg wq4 hbox hb;have n_ := Z15;clear HO_644007 HO656 BK643 HB;obtain ⟨HO_644007,HO656,BK643,HB,BK660,GW660,GE660,NB643_660,NB660_643⟩ := n_;clear hb hbox hg) | ((with_reducible refine gate_dst (N := 6) rfl ?_);refine bE 6 #[.int .i64 0,.int .i64 0,.int .i64 0] 31 (h := ?_);intro gb661 hg wq5 hbox hb;have n_ := Z10;clear HO_644007 HO656 BK643 BK660 HB;obtain ⟨HO_644007,HO656,BK643,BK660,HB,BK661,GW661,GE661,NB643_661,NB661_643,NB660_661,NB661_660⟩ := n_;clear hb hbox hg;have hnbq6 := NB660_643.out;have hncq6 := NB643_660.out;have hnbq7 := NB660_661.out;have hncq7 := NB661_660.out;obtain ⟨hczq8_0,hczq8_1,hczq8_2,hczq8_3,hczq8_4,hczq8_5,hczq8_6,hczq8_7,hfzq8_0,hfzq8_1,hfzq8_2,hfzq8_3,hfzq8_4,hfzq8_5,hfzq8_6,hfzq8_7⟩ := cells8 BK660.out;obtain ⟨Aoq9,coq9,eoq9⟩ := Kd.R_slice HO656.out;subst eoq9;have hnbq10 := NB661_643.out;have hncq10 := NB643_661.out;obtain ⟨hczq11_0,hczq11_1,hczq11_2,hfzq11_0,hfzq11_1,hfzq11_2⟩ := cells3 BK661.out) | ((with_reducible refine gate_callee (f := 10) rfl ?_);refine goesL_ (some 35) rfl rfl Tryz.func10 Z190 rfl #[.slice A0 l0.length c0] rfl Z130 ?_;(with_reducible refine (spec_DrawReadConfig.calls kj5 _ _ l0 t662 _ ?side1 ?side2 A21.out).mono ?_);(case side1 => exact Z75);(case side2 => exact HC0.out);rintro e wq12 ⟨rfl,hb⟩;refine ⟨_,rfl,?_⟩;have n_ := Z4;clear HO_644007 HO656 BK643 BK660 BK661 HB;obtain ⟨HO_644007,HO656,BK643,BK660,BK661,HB⟩ := n_;(try clear hb);(try clear hb2);(try clear hk);(try clear hi)) | ((with_reducible refine gate_callee (f := 9) rfl ?_);refine goesL_ (some 38) rfl rfl Tryz.func9 Z190 rfl #[.string t662] rfl Z130 ?_;(with_reducible refine (impl_ReadConfig.calls kj5 t662 t663 t664 t665 t666 t667 t668 t669 t670 t673 t674 t675 _ ?side1 A22.out).mono ?_);(case side1 => exact Z77);rintro e wq13 ⟨vq14,rfl,hoq3,hb⟩;refine ⟨_,rfl,?_⟩;have n_ := Z16;clear HO_644007 HO656 BK643 BK660 BK661 HB;obtain ⟨HO_644007,HO656,HO672,BK643,BK660,BK661,HB⟩ := n_;(try clear hb);(try clear hb2);(try clear hk);(try clear hi);(try clear hoq3)) | ((with_reducible refine gate_dst (N := 8) rfl ?_);refine bE 8 #[.int .i64 0,.int .i64 0,.int .i64 0,.int .i64 0,.int .i64 0,.int .i64 0,.int .i64 0,.slice none 0 0] 26 (h := ?_);intro gb676 hg wq15 hbox hb;have n_ := Z8;clear HO_644007 HO656 HO672 BK643 BK660 BK661 HB;obtain ⟨HO_644007,HO656,HO672,BK643,BK660,BK661,HB,BK676,GW676,GE676,NB643_676,NB676_643,NB660_676,NB676_660,NB661_676,NB676_661⟩ := n_;clear hb hbox hg) | ((with_reducible refine gate_dst (N := 9) rfl ?_);refine bE 9 #[.int .i64 0,.int .i64 0,.int .i64 0] 31 (h := ?_);intro gb677 hg wq16 hbox hb;have n_ := Z6;clear HO_644007 HO656 HO672 BK643 BK660 BK661 BK676 HB;obtain ⟨HO_644007,HO656,HO672,BK643,BK660,BK661,BK676,HB,BK677,GW677,GE677,NB643_677,NB677_643,NB660_677,NB677_660,NB661_677,NB677_661,NB676_677,NB677_676⟩ := n_;clear hb hbox hg;have hnbq17 := NB676_643.out;have hncq17 := NB643_676.out;have hnbq18 := NB676_660.out;have hncq18 := NB660_676.out;have hnbq19 := NB676_661.out;have hncq19 := NB661_676.out;have hnbq20 := NB676_677.out;have hncq20 := NB677_676.out;obtain ⟨hczq21_0,hczq21_1,hczq21_2,hczq21_3,hczq21_4,hczq21_5,hczq21_6,hczq21_7,hfzq21_0,hfzq21_1,hfzq21_2,hfzq21_3,hfzq21_4,hfzq21_5,hfzq21_6,hfzq21_7⟩ := cells8 BK676.out;obtain ⟨Aoq22,coq22,eoq22⟩ := Kd.R_slice HO672.out;subst eoq22;have hnbq23 := NB677_643.out;have hncq23 := NB643_677.out;have hnbq24 := NB677_660.out;have hncq24 := NB660_677.out;have hnbq25 := NB677_661.out;have hncq25 := NB661_677.out;obtain ⟨hczq26_0,hczq26_1,hczq26_2,hfzq26_0,hfzq26_1,hfzq26_2⟩ := cells3 BK677.out) | ((with_reducible refine gate_callee (f := 11) rfl ?_);refine goesL_ (some 43) rfl rfl Tryz.func11 Z190 rfl #[.string t662] rfl Z130 ?_;(with_reducible refine (spec_ReadConfig.calls kj5 t662 t678 t679 t680 t681 t682 t683 t684 t685 t688 t689 t690 _ A23.out).mono ?_);rintro e wq27 ⟨vq28,rfl,hoq3,hb⟩;refine ⟨_,rfl,?_⟩;have n_ := Z1;clear HO_644007 HO656 HO672 BK643 BK660 BK661 BK676 BK677 HB;obtain ⟨HO_644007,HO656,HO672,HO687,BK643,BK660,BK661,BK676,BK677,HB⟩ := n_;(try clear hb);(try clear hb2);(try clear hk);(try clear hi);(try clear hoq3)) | ((with_reducible refine gate_dst (N := 10) rfl ?_);refine bE 10 #[.int .i64 0,.int .i64 0,.int .i64 0,.int .i64 0,.int .i64 0,.int .i64 0,.int .i64 0,.slice none 0 0] 26 (h := ?_);intro gb691 hg wq29 hbox hb;have n_ := Z5;clear HO_644007 HO656 HO672 HO687 BK643 BK660 BK661 BK676 BK677 HB;obtain ⟨HO_644007,HO656,HO672,HO687,BK643,BK660,BK661,BK676,BK677,HB,BK691,GW691,GE691,NB643_691,NB691_643,NB660_691,NB691_660,NB661_691,NB691_661,NB676_691,NB691_676,NB677_691,NB691_677⟩ := n_;clear hb hbox hg) | ((with_reducible refine gate_dst (N := 11) rfl ?_);refine bE 11 #[.int .i64 0,.int .i64 0,.int .i64 0] 31 (h := ?_);intro gb692 hg wq30 hbox hb;have n_ := Z3;clear HO_644007 HO656 HO672 HO687 BK643 BK660 BK661 BK676 BK677 BK691 HB;obtain ⟨HO_644007,HO656,HO672,HO687,BK643,BK660,BK661,BK676,BK677,BK691,HB,BK692,GW692,GE692,NB643_692,NB692_643,NB660_692,NB692_660,NB661_692,NB692_661,NB676_692,NB692_676,NB677_692,NB692_677,NB691_692,NB692_691⟩ := n_;clear hb hbox hg;have hnbq31 := NB691_643.out;have hncq31 := NB643_691.out;have hnbq32 := NB691_660.out;have hncq32 := NB660_691.out;have hnbq33 := NB691_661.out;have hncq33 := NB661_691.out;have hnbq34 := NB691_676.out;have hncq34 := NB676_691.out;have hnbq35 := NB691_677.out;have hncq35 := NB677_691.out;have hnbq36 := NB691_692.out;have hncq36 := NB692_691.out;obtain ⟨hczq37_0,hczq37_1,hczq37_2,hczq37_3,hczq37_4,hczq37_5,hczq37_6,hczq37_7,hfzq37_0,hfzq37_1,hfzq37_2,hfzq37_3,hfzq37_4,hfzq37_5,hfzq37_6,hfzq37_7⟩ := cells8 BK691.out;obtain ⟨Aoq38,coq38,eoq38⟩ := Kd.R_slice HO687.out;subst eoq38;have hnbq39 := NB692_643.out;have hncq39 := NB643_692.out;have hnbq40 := NB692_660.out;have hncq40 := NB660_692.out;have hnbq41 := NB692_661.out;have hncq41 := NB661_692.out;have hnbq42 := NB692_676.out;have hncq42 := NB676_692.out;have hnbq43 := NB692_677.out;have hncq43 := NB677_692.out;obtain ⟨hczq44_0,hczq44_1,hczq44_2,hfzq44_0,hfzq44_1,hfzq44_2⟩ := cells3 BK692.out;obtain ⟨hczq45_0,hczq45_1,hczq45_2,hfzq45_0,hfzq45_1,hfzq45_2⟩ := cells3 BK677.out))
     go_ret
     exact ⟨Z152,Z200⟩
    rw [if_pos c26] at H
    have c26b0 : (t673 == 0) = true := beq_iff_eq.mpr c26
    have c26b1 : (t673 != 0) = false := bne_eq_false_iff_eq.mpr c26
    clear c26
    obtain ⟨t693,A270,H⟩ := Option.bind_eq_some_iff.mp H
    have A27 := Aside0.mk A270
    clear A270
    obtain rfl := Option.some.inj H
    go_wp2_with (first | ((with_reducible refine gate_callee (f := 9) rfl ?_);refine goesL_ (some 31) rfl rfl Tryz.func9 Z190 rfl #[.string t644] rfl Z130 ?_;(with_reducible refine (impl_ReadConfig.calls kj5 t644 t647 t648 t649 t650 t651 t652 t653 t654 t657 t658 t659 _ ?side1 A20.out).mono ?_);(case side1 => exact Z99);rintro e wq1 ⟨vq2,rfl,hoq3,hb⟩;refine ⟨_,rfl,?_⟩;have n_ := Z35;clear HO_644007 BK643 HB;obtain ⟨HO_644007,HO656,BK643,HB⟩ := n_;(try clear hb);(try clear hb2);(try clear hk);(try clear hi);(try clear hoq3)) | ((with_reducible refine gate_dst (N := 5) rfl ?_);refine bE 5 #[.int .i64 0,.int .i64 0,.int .i64 0,.int .i64 0,.int .i64 0,.int .i64 0,.int .i64 0,.slice none 0 0] 26 (h := ?_);intro gb660 hg wq4 hbox hb;have n_ := Z15;clear HO_644007 HO656 BK643 HB;obtain ⟨HO_644007,HO656,BK643,HB,BK660,GW660,GE660,NB643_660,NB660_643⟩ := n_;clear hb hbox hg) | ((with_reducible refine gate_dst (N := 6) rfl ?_);refine bE 6 #[.int .i64 0,.int .i64 0,.int .i64 0] 31 (h := ?_);intro gb661 hg wq5 hbox hb;have n_ := Z10;clear HO_644007 HO656 BK643 BK660 HB;obtain ⟨HO_644007,HO656,BK643,BK660,HB,BK661,GW661,GE661,NB643_661,NB661_643,NB660_661,NB661_660⟩ := n_;clear hb hbox hg;have hnbq6 := NB660_643.out;have hncq6 := NB643_660.out;have hnbq7 := NB660_661.out;have hncq7 := NB661_660.out;obtain ⟨hczq8_0,hczq8_1,hczq8_2,hczq8_3,hczq8_4,hczq8_5,hczq8_6,hczq8_7,hfzq8_0,hfzq8_1,hfzq8_2,hfzq8_3,hfzq8_4,hfzq8_5,hfzq8_6,hfzq8_7⟩ := cells8 BK660.out;obtain ⟨Aoq9,coq9,eoq9⟩ := Kd.R_slice HO656.out;subst eoq9;have hnbq10 := NB661_643.out;have hncq10 := NB643_661.out;obtain ⟨hczq11_0,hczq11_1,hczq11_2,hfzq11_0,hfzq11_1,hfzq11_2⟩ := cells3 BK661.out) | ((with_reducible refine gate_callee (f := 10) rfl ?_);refine goesL_ (some 35) rfl rfl Tryz.func10 Z190 rfl #[.slice A0 l0.length c0] rfl Z130 ?_;(with_reducible refine (spec_DrawReadConfig.calls kj5 _ _ l0 t662 _ ?side1 ?side2 A21.out).mono ?_);(case side1 => exact Z75);(case side2 => exact HC0.out);rintro e wq12 ⟨rfl,hb⟩;refine ⟨_,rfl,?_⟩;have n_ := Z4;clear HO_644007 HO656 BK643 BK660 BK661 HB;obtain ⟨HO_644007,HO656,BK643,BK660,BK661,HB⟩ := n_;(try clear hb);(try clear hb2);(try clear hk);(try clear hi)) | ((with_reducible refine gate_callee (f := 9) rfl ?_);refine goesL_ (some 38) rfl rfl Tryz.func9 Z190 rfl #[.string t662] rfl Z130 ?_;(with_reducible refine (impl_ReadConfig.calls kj5 t662 t663 t664 t665 t666 t667 t668 t669 t670 t673 t674 t675 _ ?side1 A22.out).mono ?_);(case side1 => exact Z77);rintro e wq13 ⟨vq14,rfl,hoq3,hb⟩;refine ⟨_,rfl,?_⟩;have n_ := Z16;clear HO_644007 HO656 BK643 BK660 BK661 HB;obtain ⟨HO_644007,HO656,HO672,BK643,BK660,BK661,HB⟩ := n_;(try clear hb);(try clear hb2);(try clear hk);(try clear hi);(try clear hoq3)) | ((with_reducible refine gate_dst (N := 8) rfl ?_);refine bE 8 #[.int .i64 0,.int .i64 0,.int .i64 0,.int .i64 0,.int .i64 0,.int .i64 0,.int .i64 0,.slice none 0 0] 26 (h := ?_);intro gb676 hg wq15 hbox hb;have n_ := Z8;clear HO_644007 HO656 HO672 BK643 BK660 BK661 HB;obtain ⟨HO_644007,HO656,HO672,BK643,BK660,BK661,HB,BK676,GW676,GE676,NB643_676,NB676_643,NB660_676,NB676_660,NB661_676,NB676_661⟩ := n_;clear hb hbox hg) | ((with_reducible refine gate_dst (N := 9) rfl ?_);refine bE 9 #[.int .i64 0,.int .i64 0,.int .i64 0] 31 (h := ?_);intro gb677 hg wq16 hbox hb;have n_ := Z6;clear HO_644007 HO656 HO672 BK643 BK660 BK661 BK676 HB;obtain ⟨HO_644007,HO656,HO672,BK643,BK660,BK661,BK676,HB,BK677,GW677,GE677,NB643_677,NB677_643,NB660_677,NB677_660,NB661_677,NB677_661,NB676_677,NB677_676⟩ := n_;clear hb hbox hg;have hnbq17 := NB676_643.out;have hncq17 := NB643_676.out;have hnbq18 := NB676_660.out;have hncq18 := NB660_676.out;have hnbq19 := NB676_661.out;have hncq19 := NB661_676.out;have hnbq20 := NB676_677.out;have hncq20 := NB677_676.out;obtain ⟨hczq21_0,hczq21_1,hczq21_2,hczq21_3,hczq21_4,hczq21_5,hczq21_6,hczq21_7,hfzq21_0,hfzq21_1,hfzq21_2,hfzq21_3,hfzq21_4,hfzq21_5,hfzq21_6,hfzq21_7⟩ := cells8 BK676.out;obtain ⟨Aoq22,coq22,eoq22⟩ := Kd.R_slice HO672.out;subst eoq22;have hnbq23 := NB677_643.out;have hncq23 := NB643_677.out;have hnbq24 := NB677_660.out;have hncq24 := NB660_677.out;have hnbq25 := NB677_661.out;have hncq25 := NB661_677.out;obtain ⟨hczq26_0,hczq26_1,hczq26_2,hfzq26_0,hfzq26_1,hfzq26_2⟩ := cells3 BK677.out) | ((with_reducible refine gate_callee (f := 11) rfl ?_);refine goesL_ (some 43) rfl rfl Tryz.func11 Z190 rfl #[.string t662] rfl Z130 ?_;(with_reducible refine (spec_ReadConfig.calls kj5 t662 t678 t679 t680 t681 t682 t683 t684 t685 t688 t689 t690 _ A23.out).mono ?_);rintro e wq27 ⟨vq28,rfl,hoq3,hb⟩;refine ⟨_,rfl,?_⟩;have n_ := Z1;clear HO_644007 HO656 HO672 BK643 BK660 BK661 BK676 BK677 HB;obtain ⟨HO_644007,HO656,HO672,HO687,BK643,BK660,BK661,BK676,BK677,HB⟩ := n_;(try clear hb);(try clear hb2);(try clear hk);(try clear hi);(try clear hoq3)) | ((with_reducible refine gate_dst (N := 10) rfl ?_);refine bE 10 #[.int .i64 0,.int .i64 0,.int .i64 0,.int .i64 0,.int .i64 0,.int .i64 0,.int .i64 0,.slice none 0 0] 26 (h := ?_);intro gb691 hg wq29 hbox hb;have n_ := Z5;clear HO_644007 HO656 HO672 HO687 BK643 BK660 BK661 BK676 BK677 HB;obtain ⟨HO_644007,HO656,HO672,HO687,BK643,BK660,BK661,BK676,BK677,HB,BK691,GW691,GE691,NB643_691,NB691_643,NB660_691,NB691_660,NB661_691,NB691_661,NB676_691,NB691_676,NB677_691,NB691_677⟩ := n_;clear hb hbox hg) | ((with_reducible refine gate_dst (N := 11) rfl ?_);refine bE 11 #[.int .i64 0,.int .i64 0,.int .i64 0] 31 (h := ?_);intro gb692 hg wq30 hbox hb;have n_ := Z3;clear HO_644007 HO656 HO672 HO687 BK643 BK660 BK661 BK676 BK677 BK691 HB;obtain ⟨HO_644007,HO656,HO672,HO687,BK643,BK660,BK661,BK676,BK677,BK691,HB,BK692,GW692,GE692,NB643_692,NB692_643,NB660_692,NB692_660,NB661_692,NB692_661,NB676_692,NB692_676,NB677_692,NB692_677,NB691_692,NB692_691⟩ := n_;clear hb hbox hg;have hnbq31 := NB691_643.out;have hncq31 := NB643_691.out;have hnbq32 := NB691_660.out;have hncq32 := NB660_691.out;have hnbq33 := NB691_661.out;have hncq33 := NB661_691.out;have hnbq34 := NB691_676.out;have hncq34 := NB676_691.out;have hnbq35 := NB691_677.out;have hncq35 := NB677_691.out;have hnbq36 := NB691_692.out;have hncq36 := NB692_691.out;obtain ⟨hczq37_0,hczq37_1,hczq37_2,hczq37_3,hczq37_4,hczq37_5,hczq37_6,hczq37_7,hfzq37_0,hfzq37_1,hfzq37_2,hfzq37_3,hfzq37_4,hfzq37_5,hfzq37_6,hfzq37_7⟩ := cells8 BK691.out;obtain ⟨Aoq38,coq38,eoq38⟩ := Kd.R_slice HO687.out;subst eoq38;have hnbq39 := NB692_643.out;have hncq39 := NB643_692.out;have hnbq40 := NB692_660.out;have hncq40 := NB660_692.out;have hnbq41 := NB692_661.out;have hncq41 := NB661_692.out;have hnbq42 := NB692_676.out;have hncq42 := NB676_692.out;have hnbq43 := NB692_677.out;have hncq43 := NB677_692.out;obtain ⟨hczq44_0,hczq44_1,hczq44_2,hfzq44_0,hfzq44_1,hfzq44_2⟩ := cells3 BK692.out;obtain ⟨hczq45_0,hczq45_1,hczq45_2,hfzq45_0,hfzq45_1,hfzq45_2⟩ := cells3 BK677.out;obtain ⟨hczq46_0,hczq46_1,hczq46_2,hczq46_3,hczq46_4,hczq46_5,hczq46_6,hczq46_7,hfzq46_0,hfzq46_1,hfzq46_2,hfzq46_3,hfzq46_4,hfzq46_5,hfzq46_6,hfzq46_7⟩ := cells8 BK676.out) | (go_at_call 14;(with_reducible refine (spec_ConfigOk.calls kj5 t663 t664 t665 t666 t667 t668 t669 _ _ t670 t693 _ ?side1 ?side2 A27.out).mono ?_);(case side1 => refine (Kd.R_reads' (e := 3) (base := w.heap.size) (ok := fun k_ => (((True ∧ some k_ ≠ (.slice Ao10 t640.length co10 : Value).ownBlock) ∧ some k_ ≠ (.slice Aoq9 t654.length coq9 : Value).ownBlock) ∧ some k_ ≠ (.slice Aoq38 t685.length coq38 : Value).ownBlock)) (n := t670.length) (c := coq22) ?_).2.2;exact Z195);(case side2 => exact (Kd.R_reads' HO672.out).2.1);rintro e wq47 ⟨rfl,hb⟩;have n_ := Z2;clear HO_644007 HO656 HO672 HO687 BK643 BK660 BK661 BK676 BK677 BK691 BK692 HB;obtain ⟨HO_644007,HO656,HO672,HO687,BK643,BK660,BK661,BK676,BK677,BK691,BK692,HB⟩ := n_;(try clear hb);(try clear hb2);(try clear hk);(try clear hi)))
    go_ret
    exact ⟨Z152,Z200⟩
   rw [if_neg c25] at H
   have c25b0 : (t644.toList == ([] : List UInt8)) = false := beq_eq_false_iff_ne.mpr c25
   have c25b1 : (t644.toList != ([] : List UInt8)) = true := bne_iff_ne.mpr c25
   by_cases c112 : t657 = 0
   rotate_left
   ·rw [if_neg c112] at H
    have c112b0 : (t657 == 0) = false := beq_eq_false_iff_ne.mpr c112
    have c112b1 : (t657 != 0) = true := bne_iff_ne.mpr c112
    exact absurd ((Option.some.inj H).trans HRT.out) Z306
   rw [if_pos c112] at H
   have c112b0 : (t657 == 0) = true := beq_iff_eq.mpr c112
   have c112b1 : (t657 != 0) = false := bne_eq_false_iff_eq.mpr c112
   clear c112
   obtain ⟨t694,A1130,H⟩ := Option.bind_eq_some_iff.mp H
   have A113 := Aside0.mk A1130
   clear A1130
   by_cases c114 : t694 = true
   rotate_left
   ·replace c114 := Bool.eq_false_iff.mpr c114
    subst c114
    rw [if_neg Bool.false_ne_true] at H
    exact absurd ((Option.some.inj H).trans HRT.out) Z306
   subst c114
   rw [if_pos rfl] at H
   obtain ⟨t695,A1150,H⟩ := Option.bind_eq_some_iff.mp H
   have A115 := Aside0.mk A1150
   clear A1150
   by_cases c116 : t695 = true
   rotate_left
   ·replace c116 := Bool.eq_false_iff.mpr c116
    subst c116
    rw [if_neg Bool.false_ne_true] at H
    exact absurd ((Option.some.inj H).trans HRT.out) Z306
   subst c116
   rw [if_pos rfl] at H
   by_cases c117 : t673 = 0
   rotate_left
   ·rw [if_neg c117] at H
    have c117b0 : (t673 == 0) = false := beq_eq_false_iff_ne.mpr c117
    have c117b1 : (t673 != 0) = true := bne_iff_ne.mpr c117
    obtain rfl := Option.some.inj H
    go_wp2_with (first | ((with_reducible refine gate_callee (f := 9) rfl ?_);refine goesL_ (some 31) rfl rfl Tryz.func9 Z190 rfl #[.string t644] rfl Z130 ?_;(with_reducible refine (impl_ReadConfig.calls kj5 t644 t647 t648 t649 t650 t651 t652 t653 t654 t657 t658 t659 _ ?side1 A20.out).mono ?_);(case side1 => exact Z99);rintro e wq1 ⟨vq2,rfl,hoq3,hb⟩;refine ⟨_,rfl,?_⟩;have n_ := Z35;clear HO_644007 BK643 HB;obtain ⟨HO_644007,HO656,BK643,HB⟩ := n_;(try clear hb);(try clear hb2);(try clear hk);(try clear hi);(try clear hoq3)) | ((with_reducible refine gate_dst (N := 5) rfl ?_);refine bE 5 #[.int .i64 0,.int .i64 0,.int .i64 0,.int .i64 0,.int .i64 0,.int .i64 0,.int .i64 0,.slice none 0 0] 26 (h := ?_);intro gb660 hg wq4 hbox hb;have n_ := Z15;clear HO_644007 HO656 BK643 HB;obtain ⟨HO_644007,HO656,BK643,HB,BK660,GW660,GE660,NB643_660,NB660_643⟩ := n_;clear hb hbox hg) | ((with_reducible refine gate_dst (N := 6) rfl ?_);refine bE 6 #[.int .i64 0,.int .i64 0,.int .i64 0] 31 (h := ?_);intro gb661 hg wq5 hbox hb;have n_ := Z10;clear HO_644007 HO656 BK643 BK660 HB;obtain ⟨HO_644007,HO656,BK643,BK660,HB,BK661,GW661,GE661,NB643_661,NB661_643,NB660_661,NB661_660⟩ := n_;clear hb hbox hg;have hnbq6 := NB660_643.out;have hncq6 := NB643_660.out;have hnbq7 := NB660_661.out;have hncq7 := NB661_660.out;obtain ⟨hczq8_0,hczq8_1,hczq8_2,hczq8_3,hczq8_4,hczq8_5,hczq8_6,hczq8_7,hfzq8_0,hfzq8_1,hfzq8_2,hfzq8_3,hfzq8_4,hfzq8_5,hfzq8_6,hfzq8_7⟩ := cells8 BK660.out;obtain ⟨Aoq9,coq9,eoq9⟩ := Kd.R_slice HO656.out;subst eoq9;have hnbq10 := NB661_643.out;have hncq10 := NB643_661.out;obtain ⟨hczq11_0,hczq11_1,hczq11_2,hfzq11_0,hfzq11_1,hfzq11_2⟩ := cells3 BK661.out) | ((with_reducible refine gate_callee (f := 10) rfl ?_);refine goesL_ (some 35) rfl rfl Tryz.func10 Z190 rfl #[.slice A0 l0.length c0] rfl Z130 ?_;(with_reducible refine (spec_DrawReadConfig.calls kj5 _ _ l0 t662 _ ?side1 ?side2 A21.out).mono ?_);(case side1 => exact Z75);(case side2 => exact HC0.out);rintro e wq12 ⟨rfl,hb⟩;refine ⟨_,rfl,?_⟩;have n_ := Z4;clear HO_644007 HO656 BK643 BK660 BK661 HB;obtain ⟨HO_644007,HO656,BK643,BK660,BK661,HB⟩ := n_;(try clear hb);(try clear hb2);(try clear hk);(try clear hi)) | ((with_reducible refine gate_callee (f := 9) rfl ?_);refine goesL_ (some 38) rfl rfl Tryz.func9 Z190 rfl #[.string t662] rfl Z130 ?_;(with_reducible refine (impl_ReadConfig.calls kj5 t662 t663 t664 t665 t666 t667 t668 t669 t670 t673 t674 t675 _ ?side1 A22.out).mono ?_);(case side1 => exact Z77);rintro e wq13 ⟨vq14,rfl,hoq3,hb⟩;refine ⟨_,rfl,?_⟩;have n_ := Z16;clear HO_644007 HO656 BK643 BK660 BK661 HB;obtain ⟨HO_644007,HO656,HO672,BK643,BK660,BK661,HB⟩ := n_;(try clear hb);(try clear hb2);(try clear hk);(try clear hi);(try clear hoq3)) | ((with_reducible refine gate_dst (N := 8) rfl ?_);refine bE 8 #[.int .i64 0,.int .i64 0,.int .i64 0,.int .i64 0,.int .i64 0,.int .i64 0,.int .i64 0,.slice none 0 0] 26 (h := ?_);intro gb676 hg wq15 hbox hb;have n_ := Z8;clear HO_644007 HO656 HO672 BK643 BK660 BK661 HB;obtain ⟨HO_644007,HO656,HO672,BK643,BK660,BK661,HB,BK676,GW676,GE676,NB643_676,NB676_643,NB660_676,NB676_660,NB661_676,NB676_661⟩ := n_;clear hb hbox hg) | ((with_reducible refine gate_dst (N := 9) rfl ?_);refine bE 9 #[.int .i64 0,.int .i64 0,.int .i64 0] 31 (h := ?_);intro gb677 hg wq16 hbox hb;have n_ := Z6;clear HO_644007 HO656 HO672 BK643 BK660 BK661 BK676 HB;obtain ⟨HO_644007,HO656,HO672,BK643,BK660,BK661,BK676,HB,BK677,GW677,GE677,NB643_677,NB677_643,NB660_677,NB677_660,NB661_677,NB677_661,NB676_677,NB677_676⟩ := n_;clear hb hbox hg;have hnbq17 := NB676_643.out;have hncq17 := NB643_676.out;have hnbq18 := NB676_660.out;have hncq18 := NB660_676.out;have hnbq19 := NB676_661.out;have hncq19 := NB661_676.out;have hnbq20 := NB676_677.out;have hncq20 := NB677_676.out;obtain ⟨hczq21_0,hczq21_1,hczq21_2,hczq21_3,hczq21_4,hczq21_5,hczq21_6,hczq21_7,hfzq21_0,hfzq21_1,hfzq21_2,hfzq21_3,hfzq21_4,hfzq21_5,hfzq21_6,hfzq21_7⟩ := cells8 BK676.out;obtain ⟨Aoq22,coq22,eoq22⟩ := Kd.R_slice HO672.out;subst eoq22;have hnbq23 := NB677_643.out;have hncq23 := NB643_677.out;have hnbq24 := NB677_660.out;have hncq24 := NB660_677.out;have hnbq25 := NB677_661.out;have hncq25 := NB661_677.out;obtain ⟨hczq26_0,hczq26_1,hczq26_2,hfzq26_0,hfzq26_1,hfzq26_2⟩ := cells3 BK677.out) | ((with_reducible refine gate_callee (f := 11) rfl ?_);refine goesL_ (some 43) rfl rfl Tryz.func11 Z190 rfl #[.string t662] rfl Z130 ?_;(with_reducible refine (spec_ReadConfig.calls kj5 t662 t678 t679 t680 t681 t682 t683 t684 t685 t688 t689 t690 _ A23.out).mono ?_);rintro e wq27 ⟨vq28,rfl,hoq3,hb⟩;refine ⟨_,rfl,?_⟩;have n_ := Z1;clear HO_644007 HO656 HO672 BK643 BK660 BK661 BK676 BK677 HB;obtain ⟨HO_644007,HO656,HO672,HO687,BK643,BK660,BK661,BK676,BK677,HB⟩ := n_;(try clear hb);(try clear hb2);(try clear hk);(try clear hi);(try clear hoq3)) | ((with_reducible refine gate_dst (N := 10) rfl ?_);refine bE 10 #[.int .i64 0,.int .i64 0,.int .i64 0,.int .i64 0,.int .i64 0,.int .i64 0,.int .i64 0,.slice none 0 0] 26 (h := ?_);intro gb691 hg wq29 hbox hb;have n_ := Z5;clear HO_644007 HO656 HO672 HO687 BK643 BK660 BK661 BK676 BK677 HB;obtain ⟨HO_644007,HO656,HO672,HO687,BK643,BK660,BK661,BK676,BK677,HB,BK691,GW691,GE691,NB643_691,NB691_643,NB660_691,NB691_660,NB661_691,NB691_661,NB676_691,NB691_676,NB677_691,NB691_677⟩ := n_;clear hb hbox hg) | ((with_reducible refine gate_dst (N := 11) rfl ?_);refine bE 11 #[.int .i64 0,.int .i64 0,.int .i64 0] 31 (h := ?_);intro gb692 hg wq30 hbox hb;have n_ := Z3;clear HO_644007 HO656 HO672 HO687 BK643 BK660 BK661 BK676 BK677 BK691 HB;obtain ⟨HO_644007,HO656,HO672,HO687,BK643,BK660,BK661,BK676,BK677,BK691,HB,BK692,GW692,GE692,NB643_692,NB692_643,NB660_692,NB692_660,NB661_692,NB692_661,NB676_692,NB692_676,NB677_692,NB692_677,NB691_692,NB692_691⟩ := n_;clear hb hbox hg;have hnbq31 := NB691_643.out;have hncq31 := NB643_691.out;have hnbq32 := NB691_660.out;have hncq32 := NB660_691.out;have hnbq33 := NB691_661.out;have hncq33 := NB661_691.out;have hnbq34 := NB691_676.out;have hncq34 := NB676_691.out;have hnbq35 := NB691_677.out;have hncq35 := NB677_691.out;have hnbq36 := NB691_692.out;have hncq36 := NB692_691.out;obtain ⟨hczq37_0,hczq37_1,hczq37_2,hczq37_3,hczq37_4,hczq37_5,hczq37_6,hczq37_7,hfzq37_0,hfzq37_1,hfzq37_2,hfzq37_3,hfzq37_4,hfzq37_5,hfzq37_6,hfzq37_7⟩ := cells8 BK691.out;obtain ⟨Aoq38,coq38,eoq38⟩ := Kd.R_slice HO687.out;subst eoq38;have hnbq39 := NB692_643.out;have hncq39 := NB643_692.out;have hnbq40 := NB692_660.out;have hncq40 := NB660_692.out;have hnbq41 := NB692_661.out;have hncq41 := NB661_692.out;have hnbq42 := NB692_676.out;have hncq42 := NB676_692.out;have hnbq43 := NB692_677.out;have hncq43 := NB677_692.out;obtain ⟨hczq44_0,hczq44_1,hczq44_2,hfzq44_0,hfzq44_1,hfzq44_2⟩ := cells3 BK692.out;obtain ⟨hczq45_0,hczq45_1,hczq45_2,hfzq45_0,hfzq45_1,hfzq45_2⟩ := cells3 BK677.out;obtain ⟨hczq46_0,hczq46_1,hczq46_2,hfzq46_0,hfzq46_1,hfzq46_2⟩ := cells3 BK661.out;obtain ⟨hczq47_0,hczq47_1,hczq47_2,hczq47_3,hczq47_4,hczq47_5,hczq47_6,hczq47_7,hfzq47_0,hfzq47_1,hfzq47_2,hfzq47_3,hfzq47_4,hfzq47_5,hfzq47_6,hfzq47_7⟩ := cells8 BK660.out;obtain ⟨hczq48_0,hczq48_1,hczq48_2,hczq48_3,hczq48_4,hczq48_5,hczq48_6,hczq48_7,hfzq48_0,hfzq48_1,hfzq48_2,hfzq48_3,hfzq48_4,hfzq48_5,hfzq48_6,hfzq48_7⟩ := cells8 BK643.out) | (go_at_call 12;(with_reducible refine (spec_SameConfig.calls kj5 t647 t648 t649 t650 t651 t652 t653 _ _ t654 t633 t634 t635 t636 t637 t638 t639 _ _ t640 true _ ?side1 ?side2 ?side3 ?side4 A113.out).mono ?_);(case side1 => exact Z22);(case side2 => exact Z171);(case side3 => exact Z21);(case side4 => exact Z168);rintro e wq49 ⟨rfl,hb⟩;have n_ := Z2;clear HO_644007 HO656 HO672 HO687 BK643 BK660 BK661 BK676 BK677 BK691 BK692 HB;obtain ⟨HO_644007,HO656,HO672,HO687,BK643,BK660,BK661,BK676,BK677,BK691,BK692,HB⟩ := n_;(try clear hb);(try clear hb2);(try clear hk);(try clear hi);obtain ⟨hczq50_0,hczq50_1,hczq50_2,hczq50_3,hczq50_4,hczq50_5,hczq50_6,hczq50_7,hfzq50_0,hfzq50_1,hfzq50_2,hfzq50_3,hfzq50_4,hfzq50_5,hfzq50_6,hfzq50_7⟩ := cells8 BK660.out;obtain ⟨hczq51_0,hczq51_1,hczq51_2,hczq51_3,hczq51_4,hczq51_5,hczq51_6,hczq51_7,hfzq51_0,hfzq51_1,hfzq51_2,hfzq51_3,hfzq51_4,hfzq51_5,hfzq51_6,hfzq51_7⟩ := cells8 BK643.out) | (go_at_call 13;(with_reducible refine (impl_SameConfig.calls kj5 t647 t648 t649 t650 t651 t652 t653 _ _ t654 t633 t634 t635 t636 t637 t638 t639 _ _ t640 true _ ?side1 ?side2 ?side3 ?side4 A115.out).mono ?_);(case side1 => exact Z111);(case side2 => exact Z171);(case side3 => exact Z102);(case side4 => exact Z168);rintro e wq52 ⟨rfl,hb⟩;have n_ := Z11;clear HO_644007 HO656 HO672 HO687 BK643 BK660 BK661 BK676 BK677 BK691 BK692 HB;obtain ⟨HO_644007,HO656,HO672,HO687,BK643,BK660,BK661,BK676,BK677,BK691,BK692,HB⟩ := n_;(try clear hb);(try clear hb2);(try clear hk);(try clear hi);obtain ⟨hczq53_0,hczq53_1,hczq53_2,hfzq53_0,hfzq53_1,hfzq53_2⟩ := cells3 BK677.out))
    go_ret
    exact ⟨Z152,Z200⟩
   rw [if_pos c117] at H
   have c117b0 : (t673 == 0) = true := beq_iff_eq.mpr c117
   have c117b1 : (t673 != 0) = false := bne_eq_false_iff_eq.mpr c117
   clear c117
   obtain ⟨t696,A1180,H⟩ := Option.bind_eq_some_iff.mp H
   have A118 := Aside0.mk A1180
   clear A1180
   obtain rfl := Option.some.inj H
   go_wp2_with (first | ((with_reducible refine gate_callee (f := 9) rfl ?_);refine goesL_ (some 31) rfl rfl Tryz.func9 Z190 rfl #[.string t644] rfl Z130 ?_;(with_reducible refine (impl_ReadConfig.calls kj5 t644 t647 t648 t649 t650 t651 t652 t653 t654 t657 t658 t659 _ ?side1 A20.out).mono ?_);(case side1 => exact Z99);rintro e wq1 ⟨vq2,rfl,hoq3,hb⟩;refine ⟨_,rfl,?_⟩;have n_ := Z35;clear HO_644007 BK643 HB;obtain ⟨HO_644007,HO656,BK643,HB⟩ := n_;(try clear hb);(try clear hb2);(try clear hk);(try clear hi);(try clear hoq3)) | ((with_reducible refine gate_dst (N := 5) rfl ?_);refine bE 5 #[.int .i64 0,.int .i64 0,.int .i64 0,.int .i64 0,.int .i64 0,.int .i64 0,.int .i64 0,.slice none 0 0] 26 (h := ?_);intro gb660 hg wq4 hbox hb;have n_ := Z15;clear HO_644007 HO656 BK643 HB;obtain ⟨HO_644007,HO656,BK643,HB,BK660,GW660,GE660,NB643_660,NB660_643⟩ := n_;clear hb hbox hg) | ((with_reducible refine gate_dst (N := 6) rfl ?_);refine bE 6 #[.int .i64 0,.int .i64 0,.int .i64 0] 31 (h := ?_);intro gb661 hg wq5 hbox hb;have n_ := Z10;clear HO_644007 HO656 BK643 BK660 HB;obtain ⟨HO_644007,HO656,BK643,BK660,HB,BK661,GW661,GE661,NB643_661,NB661_643,NB660_661,NB661_660⟩ := n_;clear hb hbox hg;have hnbq6 := NB660_643.out;have hncq6 := NB643_660.out;have hnbq7 := NB660_661.out;have hncq7 := NB661_660.out;obtain ⟨hczq8_0,hczq8_1,hczq8_2,hczq8_3,hczq8_4,hczq8_5,hczq8_6,hczq8_7,hfzq8_0,hfzq8_1,hfzq8_2,hfzq8_3,hfzq8_4,hfzq8_5,hfzq8_6,hfzq8_7⟩ := cells8 BK660.out;obtain ⟨Aoq9,coq9,eoq9⟩ := Kd.R_slice HO656.out;subst eoq9;have hnbq10 := NB661_643.out;have hncq10 := NB643_661.out;obtain ⟨hczq11_0,hczq11_1,hczq11_2,hfzq11_0,hfzq11_1,hfzq11_2⟩ := cells3 BK661.out) | ((with_reducible refine gate_callee (f := 10) rfl ?_);refine goesL_ (some 35) rfl rfl Tryz.func10 Z190 rfl #[.slice A0 l0.length c0] rfl Z130 ?_;(with_reducible refine (spec_DrawReadConfig.calls kj5 _ _ l0 t662 _ ?side1 ?side2 A21.out).mono ?_);(case side1 => exact Z75);(case side2 => exact HC0.out);rintro e wq12 ⟨rfl,hb⟩;refine ⟨_,rfl,?_⟩;have n_ := Z4;clear HO_644007 HO656 BK643 BK660 BK661 HB;obtain ⟨HO_644007,HO656,BK643,BK660,BK661,HB⟩ := n_;(try clear hb);(try clear hb2);(try clear hk);(try clear hi)) | ((with_reducible refine gate_callee (f := 9) rfl ?_);refine goesL_ (some 38) rfl rfl Tryz.func9 Z190 rfl #[.string t662] rfl Z130 ?_;(with_reducible refine (impl_ReadConfig.calls kj5 t662 t663 t664 t665 t666 t667 t668 t669 t670 t673 t674 t675 _ ?side1 A22.out).mono ?_);(case side1 => exact Z77);rintro e wq13 ⟨vq14,rfl,hoq3,hb⟩;refine ⟨_,rfl,?_⟩;have n_ := Z16;clear HO_644007 HO656 BK643 BK660 BK661 HB;obtain ⟨HO_644007,HO656,HO672,BK643,BK660,BK661,HB⟩ := n_;(try clear hb);(try clear hb2);(try clear hk);(try clear hi);(try clear hoq3)) | ((with_reducible refine gate_dst (N := 8) rfl ?_);refine bE 8 #[.int .i64 0,.int .i64 0,.int .i64 0,.int .i64 0,.int .i64 0,.int .i64 0,.int .i64 0,.slice none 0 0] 26 (h := ?_);intro gb676 hg wq15 hbox hb;have n_ := Z8;clear HO_644007 HO656 HO672 BK643 BK660 BK661 HB;obtain ⟨HO_644007,HO656,HO672,BK643,BK660,BK661,HB,BK676,GW676,GE676,NB643_676,NB676_643,NB660_676,NB676_660,NB661_676,NB676_661⟩ := n_;clear hb hbox hg) | ((with_reducible refine gate_dst (N := 9) rfl ?_);refine bE 9 #[.int .i64 0,.int .i64 0,.int .i64 0] 31 (h := ?_);intro gb677 hg wq16 hbox hb;have n_ := Z6;clear HO_644007 HO656 HO672 BK643 BK660 BK661 BK676 HB;obtain ⟨HO_644007,HO656,HO672,BK643,BK660,BK661,BK676,HB,BK677,GW677,GE677,NB643_677,NB677_643,NB660_677,NB677_660,NB661_677,NB677_661,NB676_677,NB677_676⟩ := n_;clear hb hbox hg;have hnbq17 := NB676_643.out;have hncq17 := NB643_676.out;have hnbq18 := NB676_660.out;have hncq18 := NB660_676.out;have hnbq19 := NB676_661.out;have hncq19 := NB661_676.out;have hnbq20 := NB676_677.out;have hncq20 := NB677_676.out;obtain ⟨hczq21_0,hczq21_1,hczq21_2,hczq21_3,hczq21_4,hczq21_5,hczq21_6,hczq21_7,hfzq21_0,hfzq21_1,hfzq21_2,hfzq21_3,hfzq21_4,hfzq21_5,hfzq21_6,hfzq21_7⟩ := cells8 BK676.out;obtain ⟨Aoq22,coq22,eoq22⟩ := Kd.R_slice HO672.out;subst eoq22;have hnbq23 := NB677_643.out;have hncq23 := NB643_677.out;have hnbq24 := NB677_660.out;have hncq24 := NB660_677.out;have hnbq25 := NB677_661.out;have hncq25 := NB661_677.out;obtain ⟨hczq26_0,hczq26_1,hczq26_2,hfzq26_0,hfzq26_1,hfzq26_2⟩ := cells3 BK677.out) | ((with_reducible refine gate_callee (f := 11) rfl ?_);refine goesL_ (some 43) rfl rfl Tryz.func11 Z190 rfl #[.string t662] rfl Z130 ?_;(with_reducible refine (spec_ReadConfig.calls kj5 t662 t678 t679 t680 t681 t682 t683 t684 t685 t688 t689 t690 _ A23.out).mono ?_);rintro e wq27 ⟨vq28,rfl,hoq3,hb⟩;refine ⟨_,rfl,?_⟩;have n_ := Z1;clear HO_644007 HO656 HO672 BK643 BK660 BK661 BK676 BK677 HB;obtain ⟨HO_644007,HO656,HO672,HO687,BK643,BK660,BK661,BK676,BK677,HB⟩ := n_;(try clear hb);(try clear hb2);(try clear hk);(try clear hi);(try clear hoq3)) | ((with_reducible refine gate_dst (N := 10) rfl ?_);refine bE 10 #[.int .i64 0,.int .i64 0,.int .i64 0,.int .i64 0,.int .i64 0,.int .i64 0,.int .i64 0,.slice none 0 0] 26 (h := ?_);intro gb691 hg wq29 hbox hb;have n_ := Z5;clear HO_644007 HO656 HO672 HO687 BK643 BK660 BK661 BK676 BK677 HB;obtain ⟨HO_644007,HO656,HO672,HO687,BK643,BK660,BK661,BK676,BK677,HB,BK691,GW691,GE691,NB643_691,NB691_643,NB660_691,NB691_660,NB661_691,NB691_661,NB676_691,NB691_676,NB677_691,NB691_677⟩ := n_;clear hb hbox hg) | ((with_reducible refine gate_dst (N := 11) rfl ?_);refine bE 11 #[.int .i64 0,.int .i64 0,.int .i64 0] 31 (h := ?_);intro gb692 hg wq30 hbox hb;have n_ := Z3;clear HO_644007 HO656 HO672 HO687 BK643 BK660 BK661 BK676 BK677 BK691 HB;obtain ⟨HO_644007,HO656,HO672,HO687,BK643,BK660,BK661,BK676,BK677,BK691,HB,BK692,GW692,GE692,NB643_692,NB692_643,NB660_692,NB692_660,NB661_692,NB692_661,NB676_692,NB692_676,NB677_692,NB692_677,NB691_692,NB692_691⟩ := n_;clear hb hbox hg;have hnbq31 := NB691_643.out;have hncq31 := NB643_691.out;have hnbq32 := NB691_660.out;have hncq32 := NB660_691.out;have hnbq33 := NB691_661.out;have hncq33 := NB661_691.out;have hnbq34 := NB691_676.out;have hncq34 := NB676_691.out;have hnbq35 := NB691_677.out;have hncq35 := NB677_691.out;have hnbq36 := NB691_692.out;have hncq36 := NB692_691.out;obtain ⟨hczq37_0,hczq37_1,hczq37_2,hczq37_3,hczq37_4,hczq37_5,hczq37_6,hczq37_7,hfzq37_0,hfzq37_1,hfzq37_2,hfzq37_3,hfzq37_4,hfzq37_5,hfzq37_6,hfzq37_7⟩ := cells8 BK691.out;obtain ⟨Aoq38,coq38,eoq38⟩ := Kd.R_slice HO687.out;subst eoq38;have hnbq39 := NB692_643.out;have hncq39 := NB643_692.out;have hnbq40 := NB692_660.out;have hncq40 := NB660_692.out;have hnbq41 := NB692_661.out;have hncq41 := NB661_692.out;have hnbq42 := NB692_676.out;have hncq42 := NB676_692.out;have hnbq43 := NB692_677.out;have hncq43 := NB677_692.out;obtain ⟨hczq44_0,hczq44_1,hczq44_2,hfzq44_0,hfzq44_1,hfzq44_2⟩ := cells3 BK692.out;obtain ⟨hczq45_0,hczq45_1,hczq45_2,hfzq45_0,hfzq45_1,hfzq45_2⟩ := cells3 BK677.out;obtain ⟨hczq46_0,hczq46_1,hczq46_2,hfzq46_0,hfzq46_1,hfzq46_2⟩ := cells3 BK661.out;obtain ⟨hczq47_0,hczq47_1,hczq47_2,hczq47_3,hczq47_4,hczq47_5,hczq47_6,hczq47_7,hfzq47_0,hfzq47_1,hfzq47_2,hfzq47_3,hfzq47_4,hfzq47_5,hfzq47_6,hfzq47_7⟩ := cells8 BK660.out;obtain ⟨hczq48_0,hczq48_1,hczq48_2,hczq48_3,hczq48_4,hczq48_5,hczq48_6,hczq48_7,hfzq48_0,hfzq48_1,hfzq48_2,hfzq48_3,hfzq48_4,hfzq48_5,hfzq48_6,hfzq48_7⟩ := cells8 BK643.out) | (go_at_call 12;(with_reducible refine (spec_SameConfig.calls kj5 t647 t648 t649 t650 t651 t652 t653 _ _ t654 t633 t634 t635 t636 t637 t638 t639 _ _ t640 true _ ?side1 ?side2 ?side3 ?side4 A113.out).mono ?_);(case side1 => exact Z22);(case side2 => exact Z171);(case side3 => exact Z21);(case side4 => exact Z168);rintro e wq49 ⟨rfl,hb⟩;have n_ := Z2;clear HO_644007 HO656 HO672 HO687 BK643 BK660 BK661 BK676 BK677 BK691 BK692 HB;obtain ⟨HO_644007,HO656,HO672,HO687,BK643,BK660,BK661,BK676,BK677,BK691,BK692,HB⟩ := n_;(try clear hb);(try clear hb2);(try clear hk);(try clear hi);obtain ⟨hczq50_0,hczq50_1,hczq50_2,hczq50_3,hczq50_4,hczq50_5,hczq50_6,hczq50_7,hfzq50_0,hfzq50_1,hfzq50_2,hfzq50_3,hfzq50_4,hfzq50_5,hfzq50_6,hfzq50_7⟩ := cells8 BK660.out;obtain ⟨hczq51_0,hczq51_1,hczq51_2,hczq51_3,hczq51_4,hczq51_5,hczq51_6,hczq51_7,hfzq51_0,hfzq51_1,hfzq51_2,hfzq51_3,hfzq51_4,hfzq51_5,hfzq51_6,hfzq51_7⟩ := cells8 BK643.out) | (go_at_call 13;(with_reducible refine (impl_SameConfig.calls kj5 t647 t648 t649 t650 t651 t652 t653 _ _ t654 t633 t634 t635 t636 t637 t638 t639 _ _ t640 true _ ?side1 ?side2 ?side3 ?side4 A115.out).mono ?_);(case side1 => exact Z111);(case side2 => exact Z171);(case side3 => exact Z102);(case side4 => exact Z168);rintro e wq52 ⟨rfl,hb⟩;have n_ := Z11;clear HO_644007 HO656 HO672 HO687 BK643 BK660 BK661 BK676 BK677 BK691 BK692 HB;obtain ⟨HO_644007,HO656,HO672,HO687,BK643,BK660,BK661,BK676,BK677,BK691,BK692,HB⟩ := n_;(try clear hb);(try clear hb2);(try clear hk);(try clear hi);obtain ⟨hczq53_0,hczq53_1,hczq53_2,hfzq53_0,hfzq53_1,hfzq53_2⟩ := cells3 BK677.out;obtain ⟨hczq54_0,hczq54_1,hczq54_2,hczq54_3,hczq54_4,hczq54_5,hczq54_6,hczq54_7,hfzq54_0,hfzq54_1,hfzq54_2,hfzq54_3,hfzq54_4,hfzq54_5,hfzq54_6,hfzq54_7⟩ := cells8 BK676.out) | (go_at_call 14;(with_reducible refine (spec_ConfigOk.calls kj5 t663 t664 t665 t666 t667 t668 t669 _ _ t670 t696 _ ?side1 ?side2 A118.out).mono ?_);(case side1 => repeat (first | exact (Kd.R_reads' HO672.out).2.2 | (with_reducible refine Kd.C_alloc ?_ _) | (with_reducible refine Kd.C_drewN ?_ _) | (with_reducible refine Kd.C_drew ?_)));(case side2 => exact (Kd.R_reads' HO672.out).2.1);rintro e wq55 ⟨rfl,hb⟩;have n_ := Z11;clear HO_644007 HO656 HO672 HO687 BK643 BK660 BK661 BK676 BK677 BK691 BK692 HB;obtain ⟨HO_644007,HO656,HO672,HO687,BK643,BK660,BK661,BK676,BK677,BK691,BK692,HB⟩ := n_;(try clear hb);(try clear hb2);(try clear hk);(try clear hi)))
   go_ret
   exact ⟨Z152,Z200⟩

/-- THE ONE PURE STATEMENT of laws_FnConfig: yours. -/
def laws_FnConfig.Pure : Prop := ∀ (l0 : List Int),l0.length ≤ maxLen → l0.length * 1 ≤ 140737488351232 → (∀ x ∈ l0,(Lit.int .u8 x).wf = true) → ∃ k,laws_FnConfig.f k l0 = some true
theorem laws_FnConfig.walk (P : laws_FnConfig.Pure) (a0 : Option Addr) (len0 cap0 : Nat) (z0 : List Int) (w : World) (hG : GT w) (w0 : (a0 = none ∧ len0 = 0 ∧ cap0 = 0 ∧ z0 = []) ∨ ∃ x,a0 = some x ∧ len0 ≤ cap0 ∧ cap0 ≤ maxLen ∧ z0.length = cap0 ∧ (∀ i,i < z0.length → w.cell? (x.add i) = some (.int .u8 (z0.getD i 0))) ∧ ∀ n ∈ z0,(Lit.int .u8 n).wf = true) (y0 : len0 * 1 ≤ 140737488351232) :
  Calls Tryz.prog 3 #[.slice a0 len0 cap0] w fun e w' => e = .returned (.bool true) ∧ Below w.heap.size w w' := by
 obtain ⟨l0,rfl,hr0,hm0,hw0,hc0⟩ := ReadsInt.ofRowC w0
 obtain ⟨k,h⟩ := P l0 hm0 y0 hw0
 refine (laws_FnConfig.calls k _ _ l0 true w (Kd.C_of_reads (d := (0 : Int)) (h1 := fun _ => rfl) hr0) hc0 hG h rfl).mono ?_
 rintro e w' ⟨rfl,hd⟩
 exact ⟨rfl,hd⟩

end Go.Proofs.YtepnbcdbagjmbaeGreatDoor.QFnConfig
