/- The machine side of FnConfigLines: what each Go function that it reaches comes to. Conditions: none. -/
import Derived.Test.YtepnbcdbagjmbadGreatDoorQFnConfigLinesx0
import Derived.Test.YtepnbcdbagjmbadGreatDoorQFnConfigLinesx1
import Derived.Test.YtepnbcdbagjmbadGreatDoorQFnConfigLinesx3
import Derived.Test.YtepnbcdbagjmbadGreatDoorQFnConfigLinesx5
import Derived.Test.YtepnbcdbagjmbadGreatDoorQFnConfigLinesx6
import Derived.Test.YtepnbcdbagjmbadGreatDoorQFnConfigLinesx9
import Derived.Test.YtepnbcdbagjmbadGreatDoorQFnConfigLinesx10
import Derived.Test.YtepnbcdbagjmbadGreatDoorQFnConfigLinesx11
import Derived.Test.YtepnbcdbagjmbadGreatDoorQFnConfigLinesx12
namespace Go.Proofs.YtepnbcdbagjmbadGreatDoor.QFnConfigLines
open Go.RowKit Go.Proofs.YtepnbcdbagjmbadGreatDoorW.PrintWords Go.Proofs.YtepnbcdbagjmbadGreatDoorW.PrintLast Go.Proofs.YtepnbcdbagjmbadGreatDoorW.PrintMore
attribute [local go_sem] max2_int min2_int max_two min_two max_three min_three max_four min_four   -- for this text's walks alone
set_option linter.unusedVariables false
set_option linter.unusedSimpArgs false

/-! ### laws_FnConfigLines: function 3 -/
def laws_FnConfigLines.j0 : Nat → List Int → ByteArray → Bool → Int → Int → Int → Int → Int → Int → Int → List Int → Option (Bool)
 | 0,_,_,_,_,_,_,_,_,_,_,_ => none
 | k + 1,x0,x4,x23,x468000,x468001,x468002,x468003,x468004,x468005,x468006,x468007 => if x23 = true then ((spec_ConfigText.f k x468000 x468001 x468002 x468003 x468004 x468005 x468006 x468007).bind fun t470 => (some (x4.toList == t470.toList))) else ((spec_Parts.f k x4 10).bind fun t471 => ((laws_at0.f x0 2).bind fun t474 => (if (t471.length : Int) = 0 then (none) else ((some (([] : List ByteArray) : List ByteArray)).bind fun y475 => (if 0 ≤ (Int.tmod t474 (t471.length : Int)) then (if (Int.tmod t474 (t471.length : Int)) ≤ (t471.length : Int) then ((some (t471.drop ((Int.tmod t474 (t471.length : Int)) : Int).toNat : List ByteArray)).bind fun y478 => (if y475.length + y478.length < 8796093022208 then ((some (y475 ++ y478 : List ByteArray)).bind fun y482 => ((some (t471.take ((Int.tmod t474 (t471.length : Int)) : Int).toNat : List ByteArray)).bind fun y485 => (if y482.length + y485.length < 8796093022208 then ((spec_Joined.f k (y482 ++ y485) (⟨#[10]⟩ : ByteArray)).bind fun t492 => ((impl_ReadConfig.f k t492).bind fun bt493 => (if bt493.2.2.2.2.2.2.2.2.1 = 0 then ((spec_SameConfig.f k bt493.1 bt493.2.1 bt493.2.2.1 bt493.2.2.2.1 bt493.2.2.2.2.1 bt493.2.2.2.2.2.1 bt493.2.2.2.2.2.2.1 bt493.2.2.2.2.2.2.2.1 x468000 x468001 x468002 x468003 x468004 x468005 x468006 x468007).bind fun t508 => (some t508)) else (some false)))) else (none)))) else (none))) else (none)) else (none))))))
def laws_FnConfigLines.f (k : Nat) (l0 : List Int) : Option (Bool) := (laws_big.f l0).bind fun t456 => (if t456 = true then (some true) else ((spec_DrawConfigText.f k l0).bind fun bt457 => ((impl_ConfigText.f k bt457.1 bt457.2.1 bt457.2.2.1 bt457.2.2.2.1 bt457.2.2.2.2.1 bt457.2.2.2.2.2.1 bt457.2.2.2.2.2.2.1 bt457.2.2.2.2.2.2.2).bind fun t468 => ((spec_ConfigText.f k bt457.1 bt457.2.1 bt457.2.2.1 bt457.2.2.2.1 bt457.2.2.2.2.1 bt457.2.2.2.2.2.1 bt457.2.2.2.2.2.2.1 bt457.2.2.2.2.2.2.2).bind fun t469 => (if t468.toList = t469.toList then (laws_FnConfigLines.j0 k l0 t468 (t468.toList == ([] : List UInt8)) bt457.1 bt457.2.1 bt457.2.2.1 bt457.2.2.2.1 bt457.2.2.2.2.1 bt457.2.2.2.2.2.1 bt457.2.2.2.2.2.2.1 bt457.2.2.2.2.2.2.2) else (laws_FnConfigLines.j0 k l0 t468 true bt457.1 bt457.2.1 bt457.2.2.1 bt457.2.2.2.1 bt457.2.2.2.2.1 bt457.2.2.2.2.2.1 bt457.2.2.2.2.2.2.1 bt457.2.2.2.2.2.2.2))))))
theorem laws_FnConfigLines.mono_l : ∀ k,(∀ y0 y1 y2 y3 y4 y5 y6 y7 y8 y9 y10,LeO (laws_FnConfigLines.j0 k y0 y1 y2 y3 y4 y5 y6 y7 y8 y9 y10) (laws_FnConfigLines.j0 (k + 1) y0 y1 y2 y3 y4 y5 y6 y7 y8 y9 y10))
 | 0 => fun _ _ _ _ _ _ _ _ _ _ _ r h => by simp [laws_FnConfigLines.j0] at h
 | k + 1 => by
  have ih0 := laws_FnConfigLines.mono_l k
  ·intro y0 y1 y2 y3 y4 y5 y6 y7 y8 y9 y10
   unfold laws_FnConfigLines.j0
   repeat' first
   | (with_reducible exact ih0 _ _ _ _ _ _ _ _ _ _ _)
   | (with_reducible exact impl_ConfigText.mono _ _ _ _ _ _ _ _ _)
   | (with_reducible exact impl_ReadConfig.mono _ _)
   | (with_reducible exact spec_ConfigText.mono _ _ _ _ _ _ _ _ _)
   | (with_reducible exact spec_DrawConfigText.mono _ _)
   | (with_reducible exact spec_Joined.mono _ _ _)
   | (with_reducible exact spec_Parts.mono _ _ _)
   | (with_reducible exact spec_SameConfig.mono _ _ _ _ _ _ _ _ _ _ _ _ _ _ _ _ _)
   | (with_reducible exact LeO.refl _)
   | (with_reducible exact LeO.none _)
   | (with_reducible refine LeO.ite ?_ ?_)
   | (with_reducible refine LeO.bind ?_ (fun _ => ?_))
   | exact ih0 _ _ _ _ _ _ _ _ _ _ _
   | exact impl_ConfigText.mono _ _ _ _ _ _ _ _ _
   | exact impl_ReadConfig.mono _ _
   | exact spec_ConfigText.mono _ _ _ _ _ _ _ _ _
   | exact spec_DrawConfigText.mono _ _
   | exact spec_Joined.mono _ _ _
   | exact spec_Parts.mono _ _ _
   | exact spec_SameConfig.mono _ _ _ _ _ _ _ _ _ _ _ _ _ _ _ _ _
   | exact LeO.none _
   | refine LeO.ite ?_ ?_
   | refine LeO.bind ?_ (fun _ => ?_)
theorem laws_FnConfigLines.mono : ∀ a0 k,LeO (laws_FnConfigLines.f k a0) (laws_FnConfigLines.f (k + 1) a0) := by
 intro a0 k
 have ih0 := laws_FnConfigLines.mono_l k
 unfold laws_FnConfigLines.f
 repeat' first
   | (with_reducible exact ih0 _ _ _ _ _ _ _ _ _ _ _)
   | (with_reducible exact impl_ConfigText.mono _ _ _ _ _ _ _ _ _)
   | (with_reducible exact impl_ReadConfig.mono _ _)
   | (with_reducible exact spec_ConfigText.mono _ _ _ _ _ _ _ _ _)
   | (with_reducible exact spec_DrawConfigText.mono _ _)
   | (with_reducible exact spec_Joined.mono _ _ _)
   | (with_reducible exact spec_Parts.mono _ _ _)
   | (with_reducible exact spec_SameConfig.mono _ _ _ _ _ _ _ _ _ _ _ _ _ _ _ _ _)
   | (with_reducible exact LeO.refl _)
   | (with_reducible exact LeO.none _)
   | (with_reducible refine LeO.ite ?_ ?_)
   | (with_reducible refine LeO.bind ?_ (fun _ => ?_))
   | exact ih0 _ _ _ _ _ _ _ _ _ _ _
   | exact impl_ConfigText.mono _ _ _ _ _ _ _ _ _
   | exact impl_ReadConfig.mono _ _
   | exact spec_ConfigText.mono _ _ _ _ _ _ _ _ _
   | exact spec_DrawConfigText.mono _ _
   | exact spec_Joined.mono _ _ _
   | exact spec_Parts.mono _ _ _
   | exact spec_SameConfig.mono _ _ _ _ _ _ _ _ _ _ _ _ _ _ _ _ _
   | exact LeO.none _
   | refine LeO.ite ?_ ?_
   | refine LeO.bind ?_ (fun _ => ?_)
def laws_FnConfigLines.T9 : Bool × List (List Nat × List Nat) := (true,[([],[]),([],[]),([],[]),([1,2],[1,2]),([0,3],[0,3]),([],[]),([],[]),([5,6],[5,6]),([4,7,4],[4,7]),([8,8],[8]),([9,9,0,1,2,3,4,5,6,7,8,9],[9])])
def laws_FnConfigLines.B9 : List Nat := [0,0,0,6,15,0,0,96,255,511,1023]
theorem laws_FnConfigLines.tab9 : rtab .any (opsOf Tryz.f3 9) = laws_FnConfigLines.T9 := by kernel_rfl
theorem laws_FnConfigLines.bits9 : waitsOk laws_FnConfigLines.T9.2 laws_FnConfigLines.B9 = true := by kernel_rfl
set_option maxHeartbeats 8000000 in
set_option maxRecDepth 100000 in
theorem laws_FnConfigLines.calls (k : Nat) (A0 : Option Addr) (c0 : Nat) (l0 : List Int) (r : Bool) (w : World) (hr0 : Kd.C (Kd.int .u8) w A0 l0.length l0) (hc0 : l0.length ≤ c0) (hG : GT w) (h : laws_FnConfigLines.f k l0 = some r) (hr_ : r = true) :
  Calls Tryz.prog 3 #[.slice A0 l0.length c0] w fun e w' => e = .returned (.bool r) ∧ Below w.heap.size w w' := by
 have HRT := Aside0.mk hr_
 clear hr_
 have HG := Aside0.mk hG
 clear hG
 have hu26 := Tryz.underlying26
 have hu34 := Tryz.underlying34
 have HR0 := Aside0.mk hr0
 have HC0 := Aside0.mk hc0
 clear hr0 hc0
 have HB := Aside0.mk (Below.refl w.heap.size w)
 have H := h
 clear h
 unfold laws_FnConfigLines.f at H
 obtain ⟨t456,A20,H⟩ := Option.bind_eq_some_iff.mp H
 have A2 := Aside0.mk A20
 clear A20
 by_cases c3 : t456 = true
 ·subst c3
  rw [if_pos rfl] at H
  obtain rfl := Option.some.inj H
  go_enter Tryz.func3,Tryz.ntmps3
  go_wp2_with (first | ((with_reducible refine gate_callee (f := 4) rfl ?_);refine goesL_ (some 11) rfl rfl Tryz.func4 Z114 rfl #[.slice A0 l0.length c0] rfl Z74 ?_;(with_reducible refine (laws_big.calls _ _ l0 true _ ?side1 ?side2 A2.out).mono ?_);(case side1 => exact Z71);(case side2 => exact HC0.out);rintro e w' ⟨rfl,⟨nd,rfl⟩⟩;refine ⟨_,rfl,?_⟩))
  go_ret
  exact ⟨Z92,Z169⟩
 replace c3 := Bool.eq_false_iff.mpr c3
 subst c3
 rw [if_neg Bool.false_ne_true] at H
 obtain ⟨⟨t457,t458,t459,t460,t461,t462,t463,t464⟩,A40,H⟩ := Option.bind_eq_some_iff.mp H
 try dsimp only at H
 have A4 := Aside0.mk A40
 clear A40
 obtain ⟨t468,A50,H⟩ := Option.bind_eq_some_iff.mp H
 have A5 := Aside0.mk A50
 clear A50
 have HC6 := Aside0.mk H
 clear H
 go_enter Tryz.func3,Tryz.ntmps3
 go_upto_region 5 with (first | ((with_reducible refine gate_callee (f := 4) rfl ?_);refine goesL_ (some 11) rfl rfl Tryz.func4 Z114 rfl #[.slice A0 l0.length c0] rfl Z74 ?_;(with_reducible refine (laws_big.calls _ _ l0 false _ ?side1 ?side2 A2.out).mono ?_);(case side1 => exact Z71);(case side2 => exact HC0.out);rintro e w' ⟨rfl,⟨nd,rfl⟩⟩;refine ⟨_,rfl,?_⟩) | ((with_reducible refine gate_callee (f := 5) rfl ?_);refine goesL_ (some 13) rfl rfl Tryz.func5 Z114 rfl #[.slice A0 l0.length c0] rfl Z74 ?_;(with_reducible refine (spec_DrawConfigText.calls k _ _ l0 t457 t458 t459 t460 t461 t462 t463 t464 _ ?side1 ?side2 A4.out).mono ?_);(case side1 => exact Z71);(case side2 => exact HC0.out);rintro e w7 ⟨v465,rfl,ho0,hb⟩;refine ⟨_,rfl,?_⟩;have n_ := jA (Kd.R_lower ho0 (below_size Z169)) (Aside0.mk (below_step Z169 hb));clear HB;obtain ⟨HO466,HB⟩ := n_;(try clear hb);(try clear hb2);(try clear hk);(try clear hi);(try clear ho0)) | ((with_reducible refine gate_dst (N := 3) rfl ?_);refine bE 3 #[.int .i64 0,.int .i64 0,.int .i64 0,.int .i64 0,.int .i64 0,.int .i64 0,.int .i64 0,.slice none 0 0] 26 (h := ?_);intro gb467 hg w8 hbox hb;have n_ := jA (Kd.R_below Z148 hb) (jA (below_step Z169 hb) (jA (hbox) (jA ((Z138 : w.heap.size ≤ gb467)) (Aside0.mk ((Z138 : w.heap.size ≤ gb467))))));clear HO466 HB;obtain ⟨HO466,HB,BK467,GW467,GE467⟩ := n_;clear hb hbox hg;obtain ⟨hcz9_0,hcz9_1,hcz9_2,hcz9_3,hcz9_4,hcz9_5,hcz9_6,hcz9_7,hfz9_0,hfz9_1,hfz9_2,hfz9_3,hfz9_4,hfz9_5,hfz9_6,hfz9_7⟩ := cells8 BK467.out;obtain ⟨Ao10,co10,eo10⟩ := Kd.R_slice HO466.out;subst eo10) | ((with_reducible refine gate_callee (f := 6) rfl ?_);refine goesL_ (some 15) rfl rfl Tryz.func6 Z114 rfl #[.agg #[.int .i64 t457,.int .i64 t458,.int .i64 t459,.int .i64 t460,.int .i64 t461,.int .i64 t462,.int .i64 t463,.slice Ao10 t464.length co10]] rfl Z74 ?_;(with_reducible refine (impl_ConfigText.calls k t457 t458 t459 t460 t461 t462 t463 _ _ t464 t468 _ ?side1 ?side2 ?side3 A5.out).mono ?_);(case side1 => refine (Kd.R_reads' (e := 3) (base := w.heap.size) (ok := fun k_ => True) (n := t464.length) (c := co10) ?_).2.2;exact Z15);(case side2 => exact (Kd.R_reads' HO466.out).2.1);(case side3 => exact Z49);rintro e w11 ⟨rfl,hb⟩;refine ⟨_,rfl,?_⟩;have n_ := jA (Kd.R_below Z15 hb) (jA (blk_below (g := gb467) (o := .cells #[.int .i64 t457,.int .i64 t458,.int .i64 t459,.int .i64 t460,.int .i64 t461,.int .i64 t462,.int .i64 t463,.slice Ao10 t464.length co10] 26 (0,0)) (by refine bP ?_;refine blk_put (cs := #[.int .i64 t457,.int .i64 t458,.int .i64 t459,.int .i64 t460,.int .i64 t461,.int .i64 t462,.int .i64 t463,.slice none 0 0]) ?_ 7 _ rfl;refine bP ?_;refine blk_put (cs := #[.int .i64 t457,.int .i64 t458,.int .i64 t459,.int .i64 t460,.int .i64 t461,.int .i64 t462,.int .i64 0,.slice none 0 0]) ?_ 6 _ rfl;refine bP ?_;refine blk_put (cs := #[.int .i64 t457,.int .i64 t458,.int .i64 t459,.int .i64 t460,.int .i64 t461,.int .i64 0,.int .i64 0,.slice none 0 0]) ?_ 5 _ rfl;refine bP ?_;refine blk_put (cs := #[.int .i64 t457,.int .i64 t458,.int .i64 t459,.int .i64 t460,.int .i64 0,.int .i64 0,.int .i64 0,.slice none 0 0]) ?_ 4 _ rfl;refine bP ?_;refine blk_put (cs := #[.int .i64 t457,.int .i64 t458,.int .i64 t459,.int .i64 0,.int .i64 0,.int .i64 0,.int .i64 0,.slice none 0 0]) ?_ 3 _ rfl;refine bP ?_;refine blk_put (cs := #[.int .i64 t457,.int .i64 t458,.int .i64 0,.int .i64 0,.int .i64 0,.int .i64 0,.int .i64 0,.slice none 0 0]) ?_ 2 _ rfl;refine bP ?_;refine blk_put (cs := #[.int .i64 t457,.int .i64 0,.int .i64 0,.int .i64 0,.int .i64 0,.int .i64 0,.int .i64 0,.slice none 0 0]) ?_ 1 _ rfl;refine bP ?_;refine blk_put (cs := #[.int .i64 0,.int .i64 0,.int .i64 0,.int .i64 0,.int .i64 0,.int .i64 0,.int .i64 0,.slice none 0 0]) ?_ 0 _ rfl;refine bP ?_;exact BK467.out) hb) (Aside0.mk (below_step Z139 hb)));clear HO466 BK467 HB;obtain ⟨HO466,BK467,HB⟩ := n_;(try clear hb);(try clear hb2);(try clear hk);(try clear hi)))
 (try simp only [Act.put,List.setIfInBounds_toArray,List.set_cons_zero,List.set_cons_succ])
 go_cut [23] (fun v23 wc => ∃ (kq : Nat) (x23_5 : Bool),v23 = .bool x23_5 ∧ Aside0 (laws_FnConfigLines.j0 kq l0 t468 x23_5 t457 t458 t459 t460 t461 t462 t463 t464 = some r) ∧ Aside0 (kq ≤ k) ∧ Aside0 (Kd.R (Kd.int .i64) 3 wc w.heap.size (fun _ => True) (.slice Ao10 t464.length co10) t464) ∧ Aside0 (wc.heap[gb467]? = some (.cells #[.int .i64 t457,.int .i64 t458,.int .i64 t459,.int .i64 t460,.int .i64 t461,.int .i64 t462,.int .i64 t463,(.slice Ao10 t464.length co10)] 26 (0,0))) ∧ Aside0 (Below w.heap.size w wc))
 case first =>
  have H := HC6.out
  clear HC6
  obtain ⟨t469,A120,H⟩ := Option.bind_eq_some_iff.mp H
  have A12 := Aside0.mk A120
  clear A120
  by_cases c13 : t468.toList = t469.toList
  rotate_left
  ·rw [if_neg c13] at H
   have c13b0 : (t468.toList == t469.toList) = false := beq_eq_false_iff_ne.mpr c13
   have c13b1 : (t468.toList != t469.toList) = true := bne_iff_ne.mpr c13
   (first | rw [c13b0] | (simp only [i64_w,i32_w];rw [c13b0]) | skip)
   have H' := Aside0.mk H
   clear H
   obtain ⟨hcz16_0,hcz16_1,hcz16_2,hcz16_3,hcz16_4,hcz16_5,hcz16_6,hcz16_7,hfz16_0,hfz16_1,hfz16_2,hfz16_3,hfz16_4,hfz16_5,hfz16_6,hfz16_7⟩ := cells8 BK467.out
   go_wp2_with (first | ((with_reducible refine gate_callee (f := 7) rfl ?_);refine goesL_ (some 18) rfl rfl Tryz.func7 Z114 rfl #[.agg #[.int .i64 t457,.int .i64 t458,.int .i64 t459,.int .i64 t460,.int .i64 t461,.int .i64 t462,.int .i64 t463,.slice Ao10 t464.length co10]] rfl Z74 ?_;(with_reducible refine (spec_ConfigText.calls k t457 t458 t459 t460 t461 t462 t463 _ _ t464 t469 _ ?side1 ?side2 A12.out).mono ?_);(case side1 => exact Z59);(case side2 => exact (Kd.R_reads' HO466.out).2.1);rintro e w17 ⟨rfl,hb⟩;refine ⟨_,rfl,?_⟩;have n_ := Z23;clear HO466 BK467 HB;obtain ⟨HO466,BK467,HB⟩ := n_;(try clear hb);(try clear hb2);(try clear hk);(try clear hi)))
   go_meet
   case rel => exact ⟨_,(true),Z100,H',⟨Z102⟩,⟨Z148⟩,⟨Z156⟩,⟨Z139⟩⟩
  rw [if_pos c13] at H
  have c13b0 : (t468.toList == t469.toList) = true := beq_iff_eq.mpr c13
  have c13b1 : (t468.toList != t469.toList) = false := bne_eq_false_iff_eq.mpr c13
  clear c13
  (first | rw [c13b0] | (simp only [i64_w,i32_w];rw [c13b0]) | skip)
  have H' := Aside0.mk H
  clear H
  obtain ⟨hcz14_0,hcz14_1,hcz14_2,hcz14_3,hcz14_4,hcz14_5,hcz14_6,hcz14_7,hfz14_0,hfz14_1,hfz14_2,hfz14_3,hfz14_4,hfz14_5,hfz14_6,hfz14_7⟩ := cells8 BK467.out
  go_wp2_with (first | ((with_reducible refine gate_callee (f := 7) rfl ?_);refine goesL_ (some 18) rfl rfl Tryz.func7 Z114 rfl #[.agg #[.int .i64 t457,.int .i64 t458,.int .i64 t459,.int .i64 t460,.int .i64 t461,.int .i64 t462,.int .i64 t463,.slice Ao10 t464.length co10]] rfl Z74 ?_;(with_reducible refine (spec_ConfigText.calls k t457 t458 t459 t460 t461 t462 t463 _ _ t464 t469 _ ?side1 ?side2 A12.out).mono ?_);(case side1 => exact Z59);(case side2 => exact (Kd.R_reads' HO466.out).2.1);rintro e w15 ⟨rfl,hb⟩;refine ⟨_,rfl,?_⟩;have n_ := Z23;clear HO466 BK467 HB;obtain ⟨HO466,BK467,HB⟩ := n_;(try clear hb);(try clear hb2);(try clear hk);(try clear hi)))
  go_meet
  case rel => exact ⟨_,((t468.toList == ([] : List UInt8))),Z100,H',⟨Z102⟩,⟨Z148⟩,⟨Z156⟩,⟨Z139⟩⟩
 case rest =>
  clear HC6
  try clear c1
  try clear p2
  try clear c3
  try clear c4
  try clear c5
  try clear c6
  try clear c7
  try clear c13
  try clear c13b0
  try clear c13b1
  obtain ⟨kq,x23_5,rfl,HA,HJ5,HO_468007,BK467,HB⟩ := hcut
  cases kq with
  | zero => exact absurd HA.out (by simp [laws_FnConfigLines.j0])
  | succ kj5 =>
   have H := HA.out
   clear HA
   simp only [laws_FnConfigLines.j0] at H
   by_cases c18 : x23_5 = true
   ·subst c18
    rw [if_pos rfl] at H
    obtain ⟨t470,A190,H⟩ := Option.bind_eq_some_iff.mp H
    have A19 := Aside0.mk A190
    clear A190
    obtain rfl := Option.some.inj H
    obtain ⟨hcz20_0,hcz20_1,hcz20_2,hcz20_3,hcz20_4,hcz20_5,hcz20_6,hcz20_7,hfz20_0,hfz20_1,hfz20_2,hfz20_3,hfz20_4,hfz20_5,hfz20_6,hfz20_7⟩ := cells8 BK467.out
    go_wp2_with (first | ((with_reducible refine gate_callee (f := 7) rfl ?_);refine goesL_ (some 26) rfl rfl Tryz.func7 Z114 rfl #[.agg #[.int .i64 t457,.int .i64 t458,.int .i64 t459,.int .i64 t460,.int .i64 t461,.int .i64 t462,.int .i64 t463,.slice Ao10 t464.length co10]] rfl Z74 ?_;(with_reducible refine (spec_ConfigText.calls kj5 t457 t458 t459 t460 t461 t462 t463 _ _ t464 t470 _ ?side1 ?side2 A19.out).mono ?_);(case side1 => repeat (first | exact (Kd.R_reads' HO_468007.out).2.2 | (with_reducible refine Kd.C_alloc ?_ _) | (with_reducible refine Kd.C_drewN ?_ _) | (with_reducible refine Kd.C_drew ?_)));(case side2 => exact (Kd.R_reads' HO_468007.out).2.1);rintro e wq1 ⟨rfl,hb⟩;refine ⟨_,rfl,?_⟩;have n_ := jA (Kd.R_below Z79 hb) (jA (blk_below (g := gb467) (o := .cells #[.int .i64 t457,.int .i64 t458,.int .i64 t459,.int .i64 t460,.int .i64 t461,.int .i64 t462,.int .i64 t463,.slice Ao10 t464.length co10] 26 (0,0)) Z156 hb) (Aside0.mk (below_step Z139 hb)));clear HO_468007 BK467 HB;obtain ⟨HO_468007,BK467,HB⟩ := n_;(try clear hb);(try clear hb2);(try clear hk);(try clear hi)))
    go_ret
    exact ⟨Z92,Z139⟩
   replace c18 := Bool.eq_false_iff.mpr c18
   subst c18
   rw [if_neg Bool.false_ne_true] at H
   obtain ⟨t471,A220,H⟩ := Option.bind_eq_some_iff.mp H
   have A22 := Aside0.mk A220
   clear A220
   obtain ⟨t474,A230,H⟩ := Option.bind_eq_some_iff.mp H
   have A23 := Aside0.mk A230
   clear A230
   by_cases c24 : (t471.length : Int) = 0
   ·rw [if_pos c24] at H
    exact absurd H Z164
   rw [if_neg c24] at H
   have c24b0 : ((t471.length : Int) == 0) = false := beq_eq_false_iff_ne.mpr c24
   have c24b1 : ((t471.length : Int) != 0) = true := bne_iff_ne.mpr c24
   have c24b2 : ¬ (t471 = []) := fun h_ => c24 (by rw [h_];rfl)
   obtain ⟨y475,hyy⟩ : ∃ y_ : List ByteArray,y_ = (([] : List ByteArray)) := ⟨_,rfl⟩
   replace H : (if 0 ≤ (Int.tmod t474 (t471.length : Int)) then (if (Int.tmod t474 (t471.length : Int)) ≤ (t471.length : Int) then ((some (t471.drop ((Int.tmod t474 (t471.length : Int)) : Int).toNat : List ByteArray)).bind fun y478 => (if y475.length + y478.length < 8796093022208 then ((some (y475 ++ y478 : List ByteArray)).bind fun y482 => ((some (t471.take ((Int.tmod t474 (t471.length : Int)) : Int).toNat : List ByteArray)).bind fun y485 => (if y482.length + y485.length < 8796093022208 then ((spec_Joined.f kj5 (y482 ++ y485) (⟨#[10]⟩ : ByteArray)).bind fun t492 => ((impl_ReadConfig.f kj5 t492).bind fun bt493 => (if bt493.2.2.2.2.2.2.2.2.1 = 0 then ((spec_SameConfig.f kj5 bt493.1 bt493.2.1 bt493.2.2.1 bt493.2.2.2.1 bt493.2.2.2.2.1 bt493.2.2.2.2.2.1 bt493.2.2.2.2.2.2.1 bt493.2.2.2.2.2.2.2.1 t457 t458 t459 t460 t461 t462 t463 t464).bind fun t508 => (some t508)) else (some false)))) else (none)))) else (none))) else (none)) else (none)) = some r := zR
   have Ny475 := Aside0.mk hyy
   clear hyy
   obtain ⟨ji25,hji25⟩ : ∃ j_ : Int,(Int.tmod t474 (t471.length : Int)) = j_ := ⟨_,rfl⟩
   replace H : (if 0 ≤ (ji25) then (if (ji25) ≤ (t471.length : Int) then ((some (t471.drop ((ji25) : Int).toNat : List ByteArray)).bind fun y478 => (if y475.length + y478.length < 8796093022208 then ((some (y475 ++ y478 : List ByteArray)).bind fun y482 => ((some (t471.take ((ji25) : Int).toNat : List ByteArray)).bind fun y485 => (if y482.length + y485.length < 8796093022208 then ((spec_Joined.f kj5 (y482 ++ y485) (⟨#[10]⟩ : ByteArray)).bind fun t492 => ((impl_ReadConfig.f kj5 t492).bind fun bt493 => (if bt493.2.2.2.2.2.2.2.2.1 = 0 then ((spec_SameConfig.f kj5 bt493.1 bt493.2.1 bt493.2.2.1 bt493.2.2.2.1 bt493.2.2.2.2.1 bt493.2.2.2.2.2.1 bt493.2.2.2.2.2.2.1 bt493.2.2.2.2.2.2.2.1 t457 t458 t459 t460 t461 t462 t463 t464).bind fun t508 => (some t508)) else (some false)))) else (none)))) else (none))) else (none)) else (none)) = some r := by first | (rw [hji25] at H;exact H) | (simp only [hji25] at H ⊢;exact H)
   (try rw [hji25] at A22)
   (try rw [hji25] at A23)
   obtain ⟨c26,H⟩ := ifp H
   have c26b0 := eq_true c26
   have c26b1 : decide (0 ≤ (ji25)) = true := decide_eq_true c26
   clear c26
   obtain ⟨c27,H⟩ := ifp H
   have c27b0 := eq_true c27
   have c27b1 : decide ((ji25) ≤ (t471.length : Int)) = true := decide_eq_true c27
   clear c27
   obtain ⟨y478,hyy⟩ : ∃ y_ : List ByteArray,y_ = (t471.drop ((ji25) : Int).toNat) := ⟨_,rfl⟩
   replace H : (if y475.length + y478.length < 8796093022208 then ((some (y475 ++ y478 : List ByteArray)).bind fun y482 => ((some (t471.take ((ji25) : Int).toNat : List ByteArray)).bind fun y485 => (if y482.length + y485.length < 8796093022208 then ((spec_Joined.f kj5 (y482 ++ y485) (⟨#[10]⟩ : ByteArray)).bind fun t492 => ((impl_ReadConfig.f kj5 t492).bind fun bt493 => (if bt493.2.2.2.2.2.2.2.2.1 = 0 then ((spec_SameConfig.f kj5 bt493.1 bt493.2.1 bt493.2.2.1 bt493.2.2.2.1 bt493.2.2.2.2.1 bt493.2.2.2.2.2.1 bt493.2.2.2.2.2.2.1 bt493.2.2.2.2.2.2.2.1 t457 t458 t459 t460 t461 t462 t463 t464).bind fun t508 => (some t508)) else (some false)))) else (none)))) else (none)) = some r := zR
   have Ny478 := Aside0.mk hyy
   clear hyy
   obtain ⟨c28,H⟩ := ifp H
   have LMc28 := Aside0.mk c28
   clear c28
   obtain ⟨y482,hyy⟩ : ∃ y_ : List ByteArray,y_ = (y475 ++ y478) := ⟨_,rfl⟩
   replace H : ((some (t471.take ((ji25) : Int).toNat : List ByteArray)).bind fun y485 => (if y482.length + y485.length < 8796093022208 then ((spec_Joined.f kj5 (y482 ++ y485) (⟨#[10]⟩ : ByteArray)).bind fun t492 => ((impl_ReadConfig.f kj5 t492).bind fun bt493 => (if bt493.2.2.2.2.2.2.2.2.1 = 0 then ((spec_SameConfig.f kj5 bt493.1 bt493.2.1 bt493.2.2.1 bt493.2.2.2.1 bt493.2.2.2.2.1 bt493.2.2.2.2.2.1 bt493.2.2.2.2.2.2.1 bt493.2.2.2.2.2.2.2.1 t457 t458 t459 t460 t461 t462 t463 t464).bind fun t508 => (some t508)) else (some false)))) else (none))) = some r := zR
   have Ny482 := Aside0.mk hyy
   clear hyy
   have c29b0 := eq_true (of_decide_eq_true Z99 : 0 ≤ (ji25))
   have c30b0 := eq_true (of_decide_eq_true Z99 : (ji25) ≤ (t471.length : Int))
   obtain ⟨y485,hyy⟩ : ∃ y_ : List ByteArray,y_ = (t471.take ((ji25) : Int).toNat) := ⟨_,rfl⟩
   replace H : (if y482.length + y485.length < 8796093022208 then ((spec_Joined.f kj5 (y482 ++ y485) (⟨#[10]⟩ : ByteArray)).bind fun t492 => ((impl_ReadConfig.f kj5 t492).bind fun bt493 => (if bt493.2.2.2.2.2.2.2.2.1 = 0 then ((spec_SameConfig.f kj5 bt493.1 bt493.2.1 bt493.2.2.1 bt493.2.2.2.1 bt493.2.2.2.2.1 bt493.2.2.2.2.2.1 bt493.2.2.2.2.2.2.1 bt493.2.2.2.2.2.2.2.1 t457 t458 t459 t460 t461 t462 t463 t464).bind fun t508 => (some t508)) else (some false)))) else (none)) = some r := zR
   have Ny485 := Aside0.mk hyy
   clear hyy
   obtain ⟨c31,H⟩ := ifp H
   have LMc31 := Aside0.mk c31
   clear c31
   obtain ⟨y489,hyy⟩ : ∃ y_ : List ByteArray,y_ = (y482 ++ y485) := ⟨_,rfl⟩
   replace H : ((spec_Joined.f kj5 y489 (⟨#[10]⟩ : ByteArray)).bind fun t492 => ((impl_ReadConfig.f kj5 t492).bind fun bt493 => (if bt493.2.2.2.2.2.2.2.2.1 = 0 then ((spec_SameConfig.f kj5 bt493.1 bt493.2.1 bt493.2.2.1 bt493.2.2.2.1 bt493.2.2.2.2.1 bt493.2.2.2.2.2.1 bt493.2.2.2.2.2.2.1 bt493.2.2.2.2.2.2.2.1 t457 t458 t459 t460 t461 t462 t463 t464).bind fun t508 => (some t508)) else (some false)))) = some r := zR
   have Ny489 := Aside0.mk hyy
   clear hyy
   obtain ⟨t492,A320,H⟩ := Option.bind_eq_some_iff.mp H
   have A32 := Aside0.mk A320
   clear A320
   obtain ⟨⟨t493,t494,t495,t496,t497,t498,t499,t500,t503,t504,t505⟩,A330,H⟩ := Option.bind_eq_some_iff.mp H
   try dsimp only at H
   have A33 := Aside0.mk A330
   clear A330
   by_cases c34 : t503 = 0
   rotate_left
   ·rw [if_neg c34] at H
    have c34b0 : (t503 == 0) = false := beq_eq_false_iff_ne.mpr c34
    have c34b1 : (t503 != 0) = true := bne_iff_ne.mpr c34
    exact absurd ((Option.some.inj H).trans HRT.out) Z163
   rw [if_pos c34] at H
   have c34b0 : (t503 == 0) = true := beq_iff_eq.mpr c34
   have c34b1 : (t503 != 0) = false := bne_eq_false_iff_eq.mpr c34
   clear c34
   obtain ⟨t508,A350,H⟩ := Option.bind_eq_some_iff.mp H
   have A35 := Aside0.mk A350
   clear A350
   obtain rfl := Option.some.inj H
   try go_wp2_with (first | ((with_reducible refine gate_callee (f := 8) rfl ?_);refine goesL_ (some 29) rfl rfl Tryz.func8 Z114 rfl #[.string t468,.int .u8 10] rfl Z74 ?_;(with_reducible refine (spec_Parts.calls kj5 t468 10 t471 _ A22.out).mono ?_);rintro e w36 ⟨v472,rfl,ho0,hb⟩;refine ⟨_,rfl,?_⟩;have n_ := jA (Kd.R_below Z79 hb) (jA (Kd.R_lower ho0 (below_size Z139)) (jA (blk_below (g := gb467) (o := .cells #[.int .i64 t457,.int .i64 t458,.int .i64 t459,.int .i64 t460,.int .i64 t461,.int .i64 t462,.int .i64 t463,.slice Ao10 t464.length co10] 26 (0,0)) Z156 hb) (Aside0.mk (below_step Z139 hb))));clear HO_468007 BK467 HB;obtain ⟨HO_468007,HO473,BK467,HB⟩ := n_;(try clear hb);(try clear hb2);(try clear hk);(try clear hi);(try clear ho0)) | ((with_reducible refine gate_callee (f := 9) rfl ?_);refine goesL_ (some 31) rfl rfl Tryz.func9 Z114 rfl #[.slice A0 l0.length c0,.int .i64 2] rfl Z74 ?_;(with_reducible refine (laws_at0.calls _ _ l0 2 t474 _ ?side1 ?side2 A23.out).mono ?_);(case side1 => repeat (first | exact (Kd.C_below HR0.out HB.out) | (with_reducible refine Kd.C_alloc ?_ _) | (with_reducible refine Kd.C_drewN ?_ _) | (with_reducible refine Kd.C_drew ?_)));(case side2 => exact HC0.out);rintro e w' ⟨rfl,⟨nd,rfl⟩⟩;refine ⟨_,rfl,?_⟩;(iterate 4 (try (rw [drewN_self w36];generalize hq_ : World.drewN w36 _ = w36;have n0_ : Aside0 (Kd.R Kd.string 9 w36 w.heap.size (fun _ => True) v472 t471) := ⟨by rw [← hq_];exact Z146⟩;have n1_ : Aside0 (Kd.R (Kd.int .i64) 3 w36 w.heap.size (fun _ => True) (.slice Ao10 t464.length co10) t464) := ⟨by rw [← hq_];exact Z79⟩;have n2_ : Aside0 (w36.heap[gb467]? = some (.cells #[.int .i64 t457,.int .i64 t458,.int .i64 t459,.int .i64 t460,.int .i64 t461,.int .i64 t462,.int .i64 t463,.slice Ao10 t464.length co10] 26 (0,0))) := ⟨by rw [← hq_];exact Z156⟩;have n3_ : Aside0 (Below w.heap.size w w36) := ⟨by rw [← hq_];exact Z139⟩;clear HO473 HO_468007 BK467 HB hq_;have HO473 := n0_;have HO_468007 := n1_;have BK467 := n2_;have HB := n3_;clear n0_ n1_ n2_ n3_)));obtain ⟨Ao37,co37,eo37⟩ := Kd.R_slice HO473.out;subst eo37))
   have n_ := jA (Kd.R_drew HO_468007.out) (jA (Kd.R_drew HO473.out) (jA (blk_drew BK467.out) (Aside0.mk (below_drew1 HB.out))))
   clear HO_468007 HO473 BK467 HB
   obtain ⟨HO_468007,HO473,BK467,HB⟩ := n_
   have q39 : ((ji25) : Int) ≤ ((t471.length : Int) : Int) := of_decide_eq_true Z99
   obtain ⟨i039,hi039,_,hsz39,_⟩ := info_parts info9
   have hroom39 : t471.length ≤ co37 := (Kd.R_reads' HO473.out).2.1
   have hC39 : Kd.C Kd.string _ Ao37 t471.length t471 := (Kd.R_reads' HO473.out).2.2
   have q039 : (0 : Int) ≤ ((ji25) : Int) := of_decide_eq_true Z99
   have hcut39 := cut_from (P := Tryz.prog) 29 9 .i64 Tryz.underlying29 hi039 1 hsz39 Ao37 t471.length co37 (ji25) q039 q39
   have hr39 := Kd.C_drop (m := ((ji25) : Int).toNat) (c := co37) hC39 Z115 hroom39
   obtain ⟨A39,hA39⟩ : ∃ A1,A1 = (if co37 = ((ji25) : Int).toNat then Ao37 else (Ao37 : Option Addr).map (·.add (((ji25) : Int).toNat * 1))) := ⟨_,rfl⟩
   obtain ⟨c39,hc39⟩ : ∃ c1,c1 = co37 - ((ji25) : Int).toNat := ⟨_,rfl⟩
   have hy39 : y478.length = t471.length - ((ji25) : Int).toNat := (by rw [Ny478.out,List.length_drop] <;> omega)
   rw [show (t471).drop ((ji25) : Int).toNat = y478 from Ny478.out.symm] at hr39
   replace hr39 : Kd.C Kd.string _ A39 y478.length y478 := (by rw [hA39];exact hr39)
   rw [← hy39,← hA39,← hc39] at hcut39
   have HR481 := Aside0.mk hr39
   have HC481 := Aside0.mk (show y478.length ≤ c39 from by rw [hy39,hc39];exact Nat.sub_le_sub_right hroom39 _)
   clear hr39 hC39 hroom39 hi039 hsz39 hc39
   have KY39 := Aside0.mk hy39
   have KA39 := Aside0.mk hA39
   clear hy39 hA39
   have KL39 := Aside0.mk (show ((ji25) : Int).toNat ≤ t471.length from Z115)
   replace q39 := eq_true q39
   have q40 : ((ji25) : Int) ≤ ((t471.length : Int) : Int) := of_decide_eq_true Z99
   obtain ⟨i040,hi040,_,hsz40,_⟩ := info_parts info9
   have hroom40 : t471.length ≤ co37 := (Kd.R_reads' HO473.out).2.1
   have hC40 : Kd.C Kd.string _ Ao37 t471.length t471 := (Kd.R_reads' HO473.out).2.2
   have hcut40 := cut_to (P := Tryz.prog) 29 9 .i64 Tryz.underlying29 hi040 Ao37 t471.length co37 (ji25) (of_decide_eq_true Z99) q40 hroom40
   have hr40 := Kd.C_take (m := ((ji25) : Int).toNat) hC40 Z115
   have hy40 : y485.length = ((ji25) : Int).toNat := (by rw [Ny485.out,List.length_take];omega)
   rw [← Ny485.out] at hr40
   rw [← hy40] at hcut40
   have HR488 := Aside0.mk hr40
   have HC488 := Aside0.mk (show y485.length ≤ co37 from Z115)
   clear hr40 hC40 hroom40 hi040 hsz40
   have KY40 := Aside0.mk hy40
   clear hy40
   have KL40 := Aside0.mk (show ((ji25) : Int).toNat ≤ t471.length from Z115)
   replace q40 := eq_true q40
   refine start_ (n := 11) (S := fun w' => True) (ds := []) (qM 11 0) Z114 rfl (by kernel_rfl) trivial (fun hHeld => ?_);refine with_tabW laws_FnConfigLines.tab9 laws_FnConfigLines.bits9 (fun HT_ HW_ => ?_)
   generalize w36.drew = w38 at HO_468007 HO473 BK467 HB HR481 HR488 hHeld ⊢
   refine rP 1 36 11 2 HT_ (h := ?_)
   refine rP 2 37 11 6 HT_ (h := ?_)
   refine rP 3 38 11 14 HT_ (h := ?_)
   refine rP 5 40 11 46 HT_ (h := ?_)
   refine rP 6 41 11 110 HT_ (h := ?_)
   refine rP 7 42 11 238 HT_ (h := ?_)
   refine rO 0 35 11 239 HT_ (h := fun K hK => ?_)
   refine Kd.R_lit_step Kd.string _ 9 ?hg (N := 35) ?hd (xs := ([] : List ByteArray)) (inner := []) (ok := fun _ => True) (okp := fun _ => True) ?hr ?hp (fun _ hk => hk) trivial (Below.refl _ _) (Nat.le_refl _) Z164 ?_;(case hd => rfl);(case hg => rfl);(case hr => exact Z101);(case hp => exact Z112)
   intro v476 w41 ho42 hb hg_ hnew_
   clear hg_ hnew_
   (first | rw [← Ny475.out] at ho42 | (simp only [Int.reduceToNat] at ho42;rw [← Ny475.out] at ho42))
   have n_ := jA (Kd.R_below Z79 hb) (jA (Kd.R_elder' Z146 (Kd.R_base ho42) hb) (jA (Kd.R_lower (Kd.R_new' ho42 (Kd.R_lt Z146)) (below_size Z139)) (jA (blk_below (g := gb467) (o := .cells #[.int .i64 t457,.int .i64 t458,.int .i64 t459,.int .i64 t460,.int .i64 t461,.int .i64 t462,.int .i64 t463,.slice Ao10 t464.length co10] 26 (0,0)) Z156 hb) (jA (Kd.C_below Z51 hb) (jA (Kd.C_below Z50 hb) (Aside0.mk (below_step Z139 hb)))))))
   clear HO_468007 HO473 BK467 HR481 HR488 HB
   obtain ⟨HO_468007,HO473,HO477,BK467,HR481,HR488,HB⟩ := n_
   clear hb ho42
   refine hK.out _ _ trivial (fun hHeld => ?_)
   clear hK K
   refine rN (h := ?_)
   refine rO 4 39 11 255 HT_ (h := fun K hK => ?_)
   refine Kd.R_append_rows_step Kd.string (w0 := w) w.heap.size Z116 (.tmp 35) (.tmp 38) 29 9 (.string ⟨#[]⟩) 16 rfl Tryz.underlying29 info9 rfl Z163 Z115 v476 y475 y478 _ _ _ (fun k_ => some k_ ≠ (.slice Ao37 t471.length co37 : Value).ownBlock) (fun _ => False) rfl rfl ?aO ?aR (fun _ _ h => h) (fun _ h => h.elim) ?aF ?aB ?aS ?aL ?_
   (case aR => repeat (first | exact Z51 | (with_reducible refine Kd.C_alloc ?_ _) | (with_reducible refine Kd.C_drewN ?_ _) | (with_reducible refine Kd.C_drew ?_)))
   (case aB => exact Z55)
   (case aF => exact Z70)
   (case aO => exact (by (with_reducible repeat (first | apply Kd.R_alloc | apply Kd.R_drewN | apply Kd.R_drew));exact Kd.R_mono HO477.out (fun _ hk => hk.2)))
   (case aS => exact Z52)
   (case aL => have := LMc28.out;omega)
   intro v483 w43 ho hb hg hat
   rw [← Ny482.out] at ho
   have n_ := jA (Kd.R_over' Z79 (Kd.R_typed (by (with_reducible repeat (first | apply Kd.R_alloc | apply Kd.R_drewN | apply Kd.R_drew));exact HO477.out)) Z163 hg) (jA (blk_grown (g := gb467) (o := .cells #[.int .i64 t457,.int .i64 t458,.int .i64 t459,.int .i64 t460,.int .i64 t461,.int .i64 t462,.int .i64 t463,.slice Ao10 t464.length co10] 26 (0,0)) Z156 hg (Kd.R_ne HO477.out BK467.out Z163)) (jA (Kd.R_after (ok := (fun _ => True)) Z146 hg hat) (jA (hb) (jA ((show Kd.C Kd.string w43 A39 y478.length y478 from Z25)) (jA ((show Kd.C Kd.string w43 Ao37 y485.length y485 from Z37)) (Aside0.mk (ho)))))))
   clear HO_468007 BK467 HO473 HB HR481 HR488 HO477
   obtain ⟨HO_468007,BK467,HO473,HB,HR481,HR488,HO484⟩ := n_
   clear ho hb hg hat
   refine hK.out _ _ trivial (fun hHeld => ?_)
   clear hK K
   refine rN (h := ?_)
   refine rO 8 43 11 511 HT_ (h := fun K hK => ?_)
   refine Kd.R_append_rows_step Kd.string (w0 := w) w.heap.size Z116 (.tmp 39) (.tmp 42) 29 9 (.string ⟨#[]⟩) 16 rfl Tryz.underlying29 info9 rfl Z163 Z115 v483 y482 y485 _ _ _ (fun k_ => some k_ ≠ (.slice Ao37 t471.length co37 : Value).ownBlock) (fun _ => False) rfl rfl ?aO ?aR (fun _ _ h => h) (fun _ h => h.elim) ?aF ?aB ?aS ?aL ?_
   (case aR => repeat (first | exact Z50 | (with_reducible refine Kd.C_alloc ?_ _) | (with_reducible refine Kd.C_drewN ?_ _) | (with_reducible refine Kd.C_drew ?_)))
   (case aB => exact Z55)
   (case aF => exact Z70)
   (case aO => exact Z86)
   (case aS => exact Z52)
   (case aL => have := LMc31.out;omega)
   intro v490 w44 ho hb hg hat
   rw [← Ny489.out] at ho
   have n_ := jA (Kd.R_over' Z79 (Kd.R_typed Z86) Z163 hg) (jA (blk_grown (g := gb467) (o := .cells #[.int .i64 t457,.int .i64 t458,.int .i64 t459,.int .i64 t460,.int .i64 t461,.int .i64 t462,.int .i64 t463,.slice Ao10 t464.length co10] 26 (0,0)) Z156 hg (Kd.R_ne HO484.out BK467.out Z163)) (jA (Kd.R_after (ok := (fun _ => True)) Z146 hg hat) (jA (hb) (jA ((show Kd.C Kd.string w44 A39 y478.length y478 from Z25)) (jA ((show Kd.C Kd.string w44 Ao37 y485.length y485 from Z37)) (Aside0.mk (ho)))))))
   clear HO_468007 BK467 HO473 HB HR481 HR488 HO484
   obtain ⟨HO_468007,BK467,HO473,HB,HR481,HR488,HO491⟩ := n_
   clear ho hb hg hat
   obtain ⟨Ao45,co45,eo45⟩ := Kd.R_slice HO491.out
   (first | subst eo45 | (injection eo45 with f1_ f2_ f3_;have f4_ := f1_.symm;have f5_ := f3_.symm;clear f1_ f2_ f3_;subst f4_;subst f5_))
   refine hK.out _ _ trivial (fun hHeld => ?_)
   clear hK K
   refine rN (h := ?_)
   refine rO 9 44 11 1023 HT_ (h := fun K hK => ?_)
   refine goes_ Tryz.func10 Z114 rfl #[.slice Ao45 y489.length co45,.string (⟨#[10]⟩ : ByteArray)] Z116 rfl rfl Z74 ?_
   with_reducible refine (spec_Joined.calls kj5 _ _ y489 (⟨#[10]⟩ : ByteArray) t492 _ ?side1 ?side2 A32.out).mono ?_
   (case side1 => repeat (first | exact (Kd.R_reads' HO491.out).2.2 | (with_reducible refine Kd.C_alloc ?_ _) | (with_reducible refine Kd.C_drewN ?_ _) | (with_reducible refine Kd.C_drew ?_)))
   (case side2 => exact (Kd.R_reads' HO491.out).2.1)
   rintro e w46 ⟨rfl,hb⟩
   refine ⟨_,rfl,?_⟩
   have n_ := jA (Kd.R_below Z79 hb) (jA (Kd.R_below Z146 hb) (jA (Kd.R_below Z82 hb) (jA (blk_below (g := gb467) (o := .cells #[.int .i64 t457,.int .i64 t458,.int .i64 t459,.int .i64 t460,.int .i64 t461,.int .i64 t462,.int .i64 t463,.slice Ao10 t464.length co10] 26 (0,0)) Z156 hb) (jA (Kd.C_below Z51 hb) (jA (Kd.C_below Z50 hb) (Aside0.mk (below_step Z139 hb)))))))
   clear HO_468007 HO473 HO491 BK467 HR481 HR488 HB
   obtain ⟨HO_468007,HO473,HO491,BK467,HR481,HR488,HB⟩ := n_
   (try clear hb)
   (try clear hb2)
   (try clear hk)
   (try clear hi)
   refine hK.out _ _ trivial (fun hHeld => ?_)
   clear hK K
   refine rN (h := ?_)
   refine rP 10 7 11 2047 HT_ (h := ?_)
   refine done_ (done_of HT_.out Z114) ?_
   try go_wp2_with (first | ((with_reducible refine gate_callee (f := 11) rfl ?_);refine goesL_ (some 47) rfl rfl Tryz.func11 Z114 rfl #[.string t492] rfl Z74 ?_;(with_reducible refine (impl_ReadConfig.calls kj5 t492 t493 t494 t495 t496 t497 t498 t499 t500 t503 t504 t505 _ ?side1 A33.out).mono ?_);(case side1 => exact Z49);rintro e w47 ⟨v501,rfl,ho0,hb⟩;refine ⟨_,rfl,?_⟩;have n_ := jA (Kd.R_elder' Z79 (Kd.R_base ho0) hb) (jA (Kd.R_below Z146 hb) (jA (Kd.R_below Z82 hb) (jA (Kd.R_lower (Kd.R_new' ho0 (Kd.R_lt Z79)) (below_size Z139)) (jA (blk_below (g := gb467) (o := .cells #[.int .i64 t457,.int .i64 t458,.int .i64 t459,.int .i64 t460,.int .i64 t461,.int .i64 t462,.int .i64 t463,.slice Ao10 t464.length co10] 26 (0,0)) Z156 hb) (jA (Kd.C_below Z51 hb) (jA (Kd.C_below Z50 hb) (Aside0.mk (below_step Z139 hb))))))));clear HO_468007 HO473 HO491 BK467 HR481 HR488 HB;obtain ⟨HO_468007,HO473,HO491,HO502,BK467,HR481,HR488,HB⟩ := n_;(try clear hb);(try clear hb2);(try clear hk);(try clear hi);(try clear ho0)) | ((with_reducible refine gate_dst (N := 8) rfl ?_);refine bE 8 #[.int .i64 0,.int .i64 0,.int .i64 0,.int .i64 0,.int .i64 0,.int .i64 0,.int .i64 0,.slice none 0 0] 26 (h := ?_);intro gb506 hg w48 hbox hb;have n_ := jA (Kd.R_below Z79 hb) (jA (Kd.R_below Z146 hb) (jA (Kd.R_below Z82 hb) (jA (Kd.R_below Z85 hb) (jA (blk_below (g := gb467) (o := .cells #[.int .i64 t457,.int .i64 t458,.int .i64 t459,.int .i64 t460,.int .i64 t461,.int .i64 t462,.int .i64 t463,.slice Ao10 t464.length co10] 26 (0,0)) Z156 hb) (jA (Kd.C_below Z51 hb) (jA (Kd.C_below Z50 hb) (jA (below_step Z139 hb) (jA (hbox) (jA ((Z47 : w.heap.size ≤ gb506)) (jA ((Z47 : w.heap.size ≤ gb506)) (jA ((Z34 : gb467 ≠ gb506)) (Aside0.mk ((Z35 : gb506 ≠ gb467))))))))))))));clear HO_468007 HO473 HO491 HO502 BK467 HR481 HR488 HB;obtain ⟨HO_468007,HO473,HO491,HO502,BK467,HR481,HR488,HB,BK506,GW506,GE506,NB467_506,NB506_467⟩ := n_;clear hb hbox hg) | ((with_reducible refine gate_dst (N := 9) rfl ?_);refine bE 9 #[.int .i64 0,.int .i64 0,.int .i64 0] 34 (h := ?_);intro gb507 hg w49 hbox hb;have n_ := jA (Kd.R_below Z79 hb) (jA (Kd.R_below Z146 hb) (jA (Kd.R_below Z82 hb) (jA (Kd.R_below Z85 hb) (jA (blk_below (g := gb467) (o := .cells #[.int .i64 t457,.int .i64 t458,.int .i64 t459,.int .i64 t460,.int .i64 t461,.int .i64 t462,.int .i64 t463,.slice Ao10 t464.length co10] 26 (0,0)) Z156 hb) (jA (Kd.C_below Z51 hb) (jA (Kd.C_below Z50 hb) (jA (blk_below (g := gb506) (o := .cells #[.int .i64 0,.int .i64 0,.int .i64 0,.int .i64 0,.int .i64 0,.int .i64 0,.int .i64 0,.slice none 0 0] 26 (0,0)) Z109 hb) (jA (below_step Z131 hb) (jA (hbox) (jA ((Z40 : w.heap.size ≤ gb507)) (jA ((Z40 : w.heap.size ≤ gb507)) (jA ((Z34 : gb467 ≠ gb507)) (jA ((Z35 : gb507 ≠ gb467)) (jA ((by rw [hg];exact Nat.ne_of_lt (blk_lt (g := gb506) (o := .cells #[.int .i64 0,.int .i64 0,.int .i64 0,.int .i64 0,.int .i64 0,.int .i64 0,.int .i64 0,.slice none 0 0] 26 (0,0)) Z109) : gb506 ≠ gb507)) (Aside0.mk ((by rw [hg];exact Nat.ne_of_gt (blk_lt (g := gb506) (o := .cells #[.int .i64 0,.int .i64 0,.int .i64 0,.int .i64 0,.int .i64 0,.int .i64 0,.int .i64 0,.slice none 0 0] 26 (0,0)) Z109) : gb507 ≠ gb506)))))))))))))))));clear HO_468007 HO473 HO491 HO502 BK467 HR481 HR488 BK506 HB;obtain ⟨HO_468007,HO473,HO491,HO502,BK467,HR481,HR488,BK506,HB,BK507,GW507,GE507,NB467_507,NB507_467,NB506_507,NB507_506⟩ := n_;clear hb hbox hg;have hnb50 := NB506_467.out;have hnc50 := NB467_506.out;have hnb51 := NB506_507.out;have hnc51 := NB507_506.out;obtain ⟨hcz52_0,hcz52_1,hcz52_2,hcz52_3,hcz52_4,hcz52_5,hcz52_6,hcz52_7,hfz52_0,hfz52_1,hfz52_2,hfz52_3,hfz52_4,hfz52_5,hfz52_6,hfz52_7⟩ := cells8 BK506.out;obtain ⟨Ao53,co53,eo53⟩ := Kd.R_slice HO502.out;subst eo53;have hnb54 := NB507_467.out;have hnc54 := NB467_507.out;obtain ⟨hcz55_0,hcz55_1,hcz55_2,hfz55_0,hfz55_1,hfz55_2⟩ := cells3 BK507.out;obtain ⟨hcz56_0,hcz56_1,hcz56_2,hcz56_3,hcz56_4,hcz56_5,hcz56_6,hcz56_7,hfz56_0,hfz56_1,hfz56_2,hfz56_3,hfz56_4,hfz56_5,hfz56_6,hfz56_7⟩ := cells8 BK467.out) | (go_at_call 12;(with_reducible refine (spec_SameConfig.calls kj5 t493 t494 t495 t496 t497 t498 t499 _ _ t500 t457 t458 t459 t460 t461 t462 t463 _ _ t464 t508 _ ?side1 ?side2 ?side3 ?side4 A35.out).mono ?_);(case side1 => refine (Kd.R_reads' (e := 3) (base := w.heap.size) (ok := fun k_ => (True ∧ some k_ ≠ (.slice Ao10 t464.length co10 : Value).ownBlock)) (n := t500.length) (c := co53) ?_).2.2;exact Z12);(case side2 => exact (Kd.R_reads' HO502.out).2.1);(case side3 => refine (Kd.R_reads' (e := 3) (base := w.heap.size) (ok := fun k_ => (True ∧ some k_ ≠ (.slice Ao53 t500.length co53 : Value).ownBlock)) (n := t464.length) (c := co10) ?_).2.2;exact Z11);(case side4 => exact (Kd.R_reads' HO_468007.out).2.1);rintro e w57 ⟨rfl,hb⟩;have n_ := jA (Kd.R_below Z11 hb) (jA (Kd.R_below (by (with_reducible repeat (first | apply Kd.R_alloc | apply Kd.R_drewN | apply Kd.R_drew));exact (Kd.R_mono (Kd.R_mono (Kd.R_far (p := ⟨gb507,2,none⟩) (Kd.R_far (p := ⟨gb507,1,none⟩) (Kd.R_far (p := ⟨gb507,0,none⟩) (Kd.R_far (p := ⟨gb506,7,none⟩) (Kd.R_far (p := ⟨gb506,6,none⟩) (Kd.R_far (p := ⟨gb506,5,none⟩) (Kd.R_far (p := ⟨gb506,4,none⟩) (Kd.R_far (p := ⟨gb506,3,none⟩) (Kd.R_far (p := ⟨gb506,2,none⟩) (Kd.R_far (p := ⟨gb506,1,none⟩) (Kd.R_far (p := ⟨gb506,0,none⟩) (Kd.R_types (Kd.R_types HO473.out BK506.out Z163) BK507.out Z163) (fun _ hk => hk.1.2) (.int .i64 t493)) (fun _ hk => hk.1.2) (.int .i64 t494)) (fun _ hk => hk.1.2) (.int .i64 t495)) (fun _ hk => hk.1.2) (.int .i64 t496)) (fun _ hk => hk.1.2) (.int .i64 t497)) (fun _ hk => hk.1.2) (.int .i64 t498)) (fun _ hk => hk.1.2) (.int .i64 t499)) (fun _ hk => hk.1.2) (.slice Ao53 t500.length co53)) (fun _ hk => hk.2) (.int .i64 t503)) (fun _ hk => hk.2) (.int .i64 t504)) (fun _ hk => hk.2) (.int .i64 t505)) (fun _ h_ => h_.1)) (fun _ h_ => h_.1))) hb) (jA (Kd.R_below (by (with_reducible repeat (first | apply Kd.R_alloc | apply Kd.R_drewN | apply Kd.R_drew));exact (Kd.R_mono (Kd.R_mono (Kd.R_far (p := ⟨gb507,2,none⟩) (Kd.R_far (p := ⟨gb507,1,none⟩) (Kd.R_far (p := ⟨gb507,0,none⟩) (Kd.R_far (p := ⟨gb506,7,none⟩) (Kd.R_far (p := ⟨gb506,6,none⟩) (Kd.R_far (p := ⟨gb506,5,none⟩) (Kd.R_far (p := ⟨gb506,4,none⟩) (Kd.R_far (p := ⟨gb506,3,none⟩) (Kd.R_far (p := ⟨gb506,2,none⟩) (Kd.R_far (p := ⟨gb506,1,none⟩) (Kd.R_far (p := ⟨gb506,0,none⟩) (Kd.R_types (Kd.R_types HO491.out BK506.out Z163) BK507.out Z163) (fun _ hk => hk.1.2) (.int .i64 t493)) (fun _ hk => hk.1.2) (.int .i64 t494)) (fun _ hk => hk.1.2) (.int .i64 t495)) (fun _ hk => hk.1.2) (.int .i64 t496)) (fun _ hk => hk.1.2) (.int .i64 t497)) (fun _ hk => hk.1.2) (.int .i64 t498)) (fun _ hk => hk.1.2) (.int .i64 t499)) (fun _ hk => hk.1.2) (.slice Ao53 t500.length co53)) (fun _ hk => hk.2) (.int .i64 t503)) (fun _ hk => hk.2) (.int .i64 t504)) (fun _ hk => hk.2) (.int .i64 t505)) (fun _ h_ => h_.1)) (fun _ h_ => h_.1))) hb) (jA (Kd.R_below Z12 hb) (jA (blk_below (g := gb467) (o := .cells #[.int .i64 t457,.int .i64 t458,.int .i64 t459,.int .i64 t460,.int .i64 t461,.int .i64 t462,.int .i64 t463,.slice Ao10 t464.length co10] 26 (0,0)) (by refine bP ?_;refine blk_far ?_ NB467_507.out _;refine bP ?_;refine blk_far ?_ NB467_507.out _;refine bP ?_;refine blk_far ?_ NB467_507.out _;refine bP ?_;refine blk_far ?_ NB467_506.out _;refine bP ?_;refine blk_far ?_ NB467_506.out _;refine bP ?_;refine blk_far ?_ NB467_506.out _;refine bP ?_;refine blk_far ?_ NB467_506.out _;refine bP ?_;refine blk_far ?_ NB467_506.out _;refine bP ?_;refine blk_far ?_ NB467_506.out _;refine bP ?_;refine blk_far ?_ NB467_506.out _;refine bP ?_;refine blk_far ?_ NB467_506.out _;refine bP ?_;exact BK467.out) hb) (jA (blk_below (g := gb506) (o := .cells #[.int .i64 t493,.int .i64 t494,.int .i64 t495,.int .i64 t496,.int .i64 t497,.int .i64 t498,.int .i64 t499,.slice Ao53 t500.length co53] 26 (0,0)) (by refine bP ?_;refine blk_far ?_ NB506_507.out _;refine bP ?_;refine blk_far ?_ NB506_507.out _;refine bP ?_;refine blk_far ?_ NB506_507.out _;refine bP ?_;refine blk_put (cs := #[.int .i64 t493,.int .i64 t494,.int .i64 t495,.int .i64 t496,.int .i64 t497,.int .i64 t498,.int .i64 t499,.slice none 0 0]) ?_ 7 _ rfl;refine bP ?_;refine blk_put (cs := #[.int .i64 t493,.int .i64 t494,.int .i64 t495,.int .i64 t496,.int .i64 t497,.int .i64 t498,.int .i64 0,.slice none 0 0]) ?_ 6 _ rfl;refine bP ?_;refine blk_put (cs := #[.int .i64 t493,.int .i64 t494,.int .i64 t495,.int .i64 t496,.int .i64 t497,.int .i64 0,.int .i64 0,.slice none 0 0]) ?_ 5 _ rfl;refine bP ?_;refine blk_put (cs := #[.int .i64 t493,.int .i64 t494,.int .i64 t495,.int .i64 t496,.int .i64 0,.int .i64 0,.int .i64 0,.slice none 0 0]) ?_ 4 _ rfl;refine bP ?_;refine blk_put (cs := #[.int .i64 t493,.int .i64 t494,.int .i64 t495,.int .i64 0,.int .i64 0,.int .i64 0,.int .i64 0,.slice none 0 0]) ?_ 3 _ rfl;refine bP ?_;refine blk_put (cs := #[.int .i64 t493,.int .i64 t494,.int .i64 0,.int .i64 0,.int .i64 0,.int .i64 0,.int .i64 0,.slice none 0 0]) ?_ 2 _ rfl;refine bP ?_;refine blk_put (cs := #[.int .i64 t493,.int .i64 0,.int .i64 0,.int .i64 0,.int .i64 0,.int .i64 0,.int .i64 0,.slice none 0 0]) ?_ 1 _ rfl;refine bP ?_;refine blk_put (cs := #[.int .i64 0,.int .i64 0,.int .i64 0,.int .i64 0,.int .i64 0,.int .i64 0,.int .i64 0,.slice none 0 0]) ?_ 0 _ rfl;refine bP ?_;exact BK506.out) hb) (jA (blk_below (g := gb507) (o := .cells #[.int .i64 t503,.int .i64 t504,.int .i64 t505] 34 (0,0)) (by refine bP ?_;refine blk_put (cs := #[.int .i64 t503,.int .i64 t504,.int .i64 0]) ?_ 2 _ rfl;refine bP ?_;refine blk_put (cs := #[.int .i64 t503,.int .i64 0,.int .i64 0]) ?_ 1 _ rfl;refine bP ?_;refine blk_put (cs := #[.int .i64 0,.int .i64 0,.int .i64 0]) ?_ 0 _ rfl;refine bP ?_;refine blk_far ?_ NB507_506.out _;refine bP ?_;refine blk_far ?_ NB507_506.out _;refine bP ?_;refine blk_far ?_ NB507_506.out _;refine bP ?_;refine blk_far ?_ NB507_506.out _;refine bP ?_;refine blk_far ?_ NB507_506.out _;refine bP ?_;refine blk_far ?_ NB507_506.out _;refine bP ?_;refine blk_far ?_ NB507_506.out _;refine bP ?_;refine blk_far ?_ NB507_506.out _;refine bP ?_;exact BK507.out) hb) (Aside0.mk (below_step Z39 hb))))))));clear HO_468007 HO473 HO491 HO502 BK467 BK506 BK507 HB;obtain ⟨HO_468007,HO473,HO491,HO502,BK467,BK506,BK507,HB⟩ := n_;(try clear hb);(try clear hb2);(try clear hk);(try clear hi)))
   go_ret
   exact ⟨by first | rfl | (simp [errW_none,errW_some] <;> rfl) | (simp only [← hji25];first | rfl | (simp [errW_none,errW_some] <;> rfl)) | (simp [*,errW_none,errW_some] <;> rfl),Z39⟩

/-- THE ONE PURE STATEMENT of laws_FnConfigLines: yours. -/
def laws_FnConfigLines.Pure : Prop := ∀ (l0 : List Int),l0.length ≤ maxLen → l0.length * 1 ≤ 140737488351232 → (∀ x ∈ l0,(Lit.int .u8 x).wf = true) → ∃ k,laws_FnConfigLines.f k l0 = some true
theorem laws_FnConfigLines.walk (P : laws_FnConfigLines.Pure) (a0 : Option Addr) (len0 cap0 : Nat) (z0 : List Int) (w : World) (hG : GT w) (w0 : (a0 = none ∧ len0 = 0 ∧ cap0 = 0 ∧ z0 = []) ∨ ∃ x,a0 = some x ∧ len0 ≤ cap0 ∧ cap0 ≤ maxLen ∧ z0.length = cap0 ∧ (∀ i,i < z0.length → w.cell? (x.add i) = some (.int .u8 (z0.getD i 0))) ∧ ∀ n ∈ z0,(Lit.int .u8 n).wf = true) (y0 : len0 * 1 ≤ 140737488351232) :
  Calls Tryz.prog 3 #[.slice a0 len0 cap0] w fun e w' => e = .returned (.bool true) ∧ Below w.heap.size w w' := by
 obtain ⟨l0,rfl,hr0,hm0,hw0,hc0⟩ := ReadsInt.ofRowC w0
 obtain ⟨k,h⟩ := P l0 hm0 y0 hw0
 refine (laws_FnConfigLines.calls k _ _ l0 true w (Kd.C_of_reads (d := (0 : Int)) (h1 := fun _ => rfl) hr0) hc0 hG h rfl).mono ?_
 rintro e w' ⟨rfl,hd⟩
 exact ⟨rfl,hd⟩

end Go.Proofs.YtepnbcdbagjmbadGreatDoor.QFnConfigLines
