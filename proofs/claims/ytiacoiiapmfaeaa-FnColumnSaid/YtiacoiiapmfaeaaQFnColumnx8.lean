/- The machine side of FnColumn: what each Go function that it reaches comes to. Conditions: none. -/
import Derived.Test.YtiacoiiapmfaeaaQFnColumnx0
import Derived.Test.YtiacoiiapmfaeaaQFnColumnx1
import Derived.Test.YtiacoiiapmfaeaaQFnColumnx5
import Derived.Test.YtiacoiiapmfaeaaQFnColumnx7
namespace Go.Proofs.Ytiacoiiapmfaeaa.QFnColumn
open Go.RowKit Go.Proofs.YtiacoiiapmfaeaaW.PrintWords Go.Proofs.YtiacoiiapmfaeaaW.PrintLast Go.Proofs.YtiacoiiapmfaeaaW.PrintMore
attribute [local go_sem] max2_int min2_int max_two min_two max_three min_three max_four min_four   -- for this text's walks alone
set_option linter.unusedVariables false
set_option linter.unusedSimpArgs false

/-! ### laws_FnColumn: function 4 -/
mutual
def laws_FnColumn.l0 : Nat → Int → List Int → Int → List ByteArray → ByteArray → List (List Int) → List Int → Option (Bool)
 | 0,_,_,_,_,_,_,_ => none
 | k + 1,x4,x5,x6,x395000,x395001,x395002,x395003 => if x6 < (x5.length : Int) then ((spec_TableOk.f k x395000 x395001 x395002 x395003).bind fun t402 => (laws_FnColumn.j1 k x4 x5 x6 t402 x395000 x395001 x395002 x395003)) else (laws_FnColumn.j1 k x4 x5 x6 false x395000 x395001 x395002 x395003)
def laws_FnColumn.j1 : Nat → Int → List Int → Int → Bool → List ByteArray → ByteArray → List (List Int) → List Int → Option (Bool)
 | 0,_,_,_,_,_,_,_,_ => none
 | k + 1,x4,x5,x6,x30,x395000,x395001,x395002,x395003 => if x30 = true then (if 0 ≤ x6 then (if x6 < (x5.length : Int) then (if x6 < (x395002.length : Int) then (if 0 ≤ x4 then (if x4 < ((rd_L3 x395002 x6).length : Int) then (if (rd x5 x6) = (rd (rd_L3 x395002 x6) x4) then (laws_FnColumn.l0 k x4 x5 (wrap64 (x6 + 1)) x395000 x395001 x395002 x395003) else (some false)) else (none)) else (none)) else (none)) else (none)) else (none)) else (if (x5.length : Int) = 0 then (some true) else (some ((x5.length : Int) == (x395002.length : Int))))
end
def laws_FnColumn.f (k : Nat) (l0 : List Int) : Option (Bool) := (laws_big.f l0).bind fun t382 => (if t382 = true then (some true) else ((spec_DrawColumn.f k l0).bind fun bt383 => ((impl_Column.f k bt383.1 bt383.2.1 bt383.2.2.1 bt383.2.2.2.1 bt383.2.2.2.2).bind fun t395 => ((spec_Column.f k bt383.1 bt383.2.1 bt383.2.2.1 bt383.2.2.2.1 bt383.2.2.2.2).bind fun t398 => ((laws_sameInts.f k t395 t398).bind fun t401 => (if t401 = true then (laws_FnColumn.l0 k bt383.2.2.2.2 t395 0 bt383.1 bt383.2.1 bt383.2.2.1 bt383.2.2.2.1) else (some false)))))))
theorem laws_FnColumn.mono_l : ∀ k,(∀ y0 y1 y2 y3 y4 y5 y6,LeO (laws_FnColumn.l0 k y0 y1 y2 y3 y4 y5 y6) (laws_FnColumn.l0 (k + 1) y0 y1 y2 y3 y4 y5 y6)) ∧ (∀ y0 y1 y2 y3 y4 y5 y6 y7,LeO (laws_FnColumn.j1 k y0 y1 y2 y3 y4 y5 y6 y7) (laws_FnColumn.j1 (k + 1) y0 y1 y2 y3 y4 y5 y6 y7))
 | 0 => ⟨fun _ _ _ _ _ _ _ r h => by simp [laws_FnColumn.l0] at h,fun _ _ _ _ _ _ _ _ r h => by simp [laws_FnColumn.j1] at h⟩
 | k + 1 => by
  obtain ⟨ih0,ih1⟩ := laws_FnColumn.mono_l k
  refine ⟨?_,?_⟩
  ·intro y0 y1 y2 y3 y4 y5 y6
   unfold laws_FnColumn.l0
   repeat' first
   | (with_reducible exact ih0 _ _ _ _ _ _ _)
   | (with_reducible exact ih1 _ _ _ _ _ _ _ _)
   | (with_reducible exact impl_Column.mono _ _ _ _ _ _)
   | (with_reducible exact laws_sameInts.mono _ _ _)
   | (with_reducible exact spec_Column.mono _ _ _ _ _ _)
   | (with_reducible exact spec_DrawColumn.mono _ _)
   | (with_reducible exact spec_TableOk.mono _ _ _ _ _)
   | (with_reducible exact LeO.refl _)
   | (with_reducible exact LeO.none _)
   | (with_reducible refine LeO.ite ?_ ?_)
   | (with_reducible refine LeO.bind ?_ (fun _ => ?_))
   | exact ih0 _ _ _ _ _ _ _
   | exact ih1 _ _ _ _ _ _ _ _
   | exact impl_Column.mono _ _ _ _ _ _
   | exact laws_sameInts.mono _ _ _
   | exact spec_Column.mono _ _ _ _ _ _
   | exact spec_DrawColumn.mono _ _
   | exact spec_TableOk.mono _ _ _ _ _
   | exact LeO.none _
   | refine LeO.ite ?_ ?_
   | refine LeO.bind ?_ (fun _ => ?_)
  ·intro y0 y1 y2 y3 y4 y5 y6 y7
   unfold laws_FnColumn.j1
   repeat' first
   | (with_reducible exact ih0 _ _ _ _ _ _ _)
   | (with_reducible exact ih1 _ _ _ _ _ _ _ _)
   | (with_reducible exact impl_Column.mono _ _ _ _ _ _)
   | (with_reducible exact laws_sameInts.mono _ _ _)
   | (with_reducible exact spec_Column.mono _ _ _ _ _ _)
   | (with_reducible exact spec_DrawColumn.mono _ _)
   | (with_reducible exact spec_TableOk.mono _ _ _ _ _)
   | (with_reducible exact LeO.refl _)
   | (with_reducible exact LeO.none _)
   | (with_reducible refine LeO.ite ?_ ?_)
   | (with_reducible refine LeO.bind ?_ (fun _ => ?_))
   | exact ih0 _ _ _ _ _ _ _
   | exact ih1 _ _ _ _ _ _ _ _
   | exact impl_Column.mono _ _ _ _ _ _
   | exact laws_sameInts.mono _ _ _
   | exact spec_Column.mono _ _ _ _ _ _
   | exact spec_DrawColumn.mono _ _
   | exact spec_TableOk.mono _ _ _ _ _
   | exact LeO.none _
   | refine LeO.ite ?_ ?_
   | refine LeO.bind ?_ (fun _ => ?_)
theorem laws_FnColumn.mono : ∀ a0 k,LeO (laws_FnColumn.f k a0) (laws_FnColumn.f (k + 1) a0) := by
 intro a0 k
 obtain ⟨ih0,ih1⟩ := laws_FnColumn.mono_l k
 unfold laws_FnColumn.f
 repeat' first
   | (with_reducible exact ih0 _ _ _ _ _ _ _)
   | (with_reducible exact ih1 _ _ _ _ _ _ _ _)
   | (with_reducible exact impl_Column.mono _ _ _ _ _ _)
   | (with_reducible exact laws_sameInts.mono _ _ _)
   | (with_reducible exact spec_Column.mono _ _ _ _ _ _)
   | (with_reducible exact spec_DrawColumn.mono _ _)
   | (with_reducible exact spec_TableOk.mono _ _ _ _ _)
   | (with_reducible exact LeO.refl _)
   | (with_reducible exact LeO.none _)
   | (with_reducible refine LeO.ite ?_ ?_)
   | (with_reducible refine LeO.bind ?_ (fun _ => ?_))
   | exact ih0 _ _ _ _ _ _ _
   | exact ih1 _ _ _ _ _ _ _ _
   | exact impl_Column.mono _ _ _ _ _ _
   | exact laws_sameInts.mono _ _ _
   | exact spec_Column.mono _ _ _ _ _ _
   | exact spec_DrawColumn.mono _ _
   | exact spec_TableOk.mono _ _ _ _ _
   | exact LeO.none _
   | refine LeO.ite ?_ ?_
   | refine LeO.bind ?_ (fun _ => ?_)
set_option maxHeartbeats 8000000 in
set_option maxRecDepth 100000 in
theorem laws_FnColumn.calls (k : Nat) (A0 : Option Addr) (c0 : Nat) (l0 : List Int) (r : Bool) (w : World) (hr0 : Kd.C (Kd.int .u8) w A0 l0.length l0) (hc0 : l0.length ≤ c0) (h : laws_FnColumn.f k l0 = some r) (hr_ : r = true) :
  Calls Try.prog 4 #[.slice A0 l0.length c0] w fun e w' => e = .returned (.bool r) ∧ Below w.heap.size w w' := by
 have HRT := Aside0.mk hr_
 clear hr_
 have hu36 := Try.underlying36
 have HR0 := Aside0.mk hr0
 have HC0 := Aside0.mk hc0
 clear hr0 hc0
 have HB := Aside0.mk (Below.refl w.heap.size w)
 have H := h
 clear h
 unfold laws_FnColumn.f at H
 obtain ⟨t382,A20,H⟩ := Option.bind_eq_some_iff.mp H
 have A2 := Aside0.mk A20
 clear A20
 by_cases c3 : t382 = true
 ·subst c3
  rw [if_pos rfl] at H
  obtain rfl := Option.some.inj H
  go_enter Try.func4,Try.ntmps4
  go_wp2_with (first | (go_at_call 13;(with_reducible refine (laws_big.calls _ _ l0 true _ ?side1 ?side2 A2.out).mono ?_);(case side1 => exact Z55);(case side2 => exact HC0.out);rintro e w' ⟨rfl,⟨nd,rfl⟩⟩;(try first | exact ⟨rfl,_,World.drewN_drewN _ _ _⟩ | exact ⟨rfl,_,Eq.trans (World.drewN_drewN _ _ _) (congrArg (World.drewN _) (Nat.add_assoc _ _ _))⟩)))
  repeat (go_quiet (first | (go_at_call 13;(with_reducible refine (laws_big.calls _ _ l0 true _ ?side1 ?side2 A2.out).mono ?_);(case side1 => exact Z55);(case side2 => exact HC0.out);rintro e w' ⟨rfl,⟨nd,rfl⟩⟩;(try first | exact ⟨rfl,_,World.drewN_drewN _ _ _⟩ | exact ⟨rfl,_,Eq.trans (World.drewN_drewN _ _ _) (congrArg (World.drewN _) (Nat.add_assoc _ _ _))⟩)));try go_wp2_with (first | (go_at_call 13;(with_reducible refine (laws_big.calls _ _ l0 true _ ?side1 ?side2 A2.out).mono ?_);(case side1 => exact Z55);(case side2 => exact HC0.out);rintro e w' ⟨rfl,⟨nd,rfl⟩⟩;(try first | exact ⟨rfl,_,World.drewN_drewN _ _ _⟩ | exact ⟨rfl,_,Eq.trans (World.drewN_drewN _ _ _) (congrArg (World.drewN _) (Nat.add_assoc _ _ _))⟩))))
  go_ret
  exact ⟨Z77,Z153⟩
 ·replace c3 := Bool.eq_false_iff.mpr c3
  subst c3
  rw [if_neg Bool.false_ne_true] at H
  obtain ⟨⟨t383,t386,t387,t390,t393⟩,A40,H⟩ := Option.bind_eq_some_iff.mp H
  try dsimp only at H
  have A4 := Aside0.mk A40
  clear A40
  obtain ⟨t395,A50,H⟩ := Option.bind_eq_some_iff.mp H
  have A5 := Aside0.mk A50
  clear A50
  obtain ⟨t398,A60,H⟩ := Option.bind_eq_some_iff.mp H
  have A6 := Aside0.mk A60
  clear A60
  obtain ⟨t401,A70,H⟩ := Option.bind_eq_some_iff.mp H
  have A7 := Aside0.mk A70
  clear A70
  by_cases c8 : t401 = true
  ·subst c8
   rw [if_pos rfl] at H
   have H' := Aside0.mk H
   clear H
   go_enter Try.func4,Try.ntmps4
   go_wp2_with (first | (go_at_call 13;(with_reducible refine (laws_big.calls _ _ l0 false _ ?side1 ?side2 A2.out).mono ?_);(case side1 => exact Z55);(case side2 => exact HC0.out);rintro e w' ⟨rfl,⟨nd,rfl⟩⟩;(try first | exact ⟨rfl,_,World.drewN_drewN _ _ _⟩ | exact ⟨rfl,_,Eq.trans (World.drewN_drewN _ _ _) (congrArg (World.drewN _) (Nat.add_assoc _ _ _))⟩)) | (go_at_call 14;(with_reducible refine (spec_DrawColumn.calls k _ _ l0 t383 t386 t387 t390 t393 _ ?side1 ?side2 A4.out).mono ?_);(case side1 => exact Z55);(case side2 => exact HC0.out);rintro e w9 ⟨v384,v388,v391,rfl,ho0,ho1,ho2,hb⟩;have n_ := Z15;clear HB;obtain ⟨HO385,HO389,HO392,HB⟩ := n_;(try clear hb);(try clear hb2);(try clear hk);(try clear hi);(try clear ho0);(try clear ho1);(try clear ho2)) | ((with_reducible refine gate_dst (N := 3) rfl ?_);(try (refine gate_guard Z103 ?_;dsimp only));refine bE 3 #[.slice none 0 0,.string (⟨#[]⟩ : ByteArray),.slice none 0 0,.slice none 0 0] 36 (h := ?_);intro gb394 hg w10 hbox hb;have n_ := Z12;clear HO385 HO389 HO392 HB;obtain ⟨HO385,HO389,HO392,HB,BK394,GW394,GE394⟩ := n_;clear hb hbox hg;obtain ⟨Ao11,co11,eo11⟩ := Kd.R_slice HO385.out;subst eo11;obtain ⟨hcz12_0,hcz12_1,hcz12_2,hcz12_3,hfz12_0,hfz12_1,hfz12_2,hfz12_3⟩ := cells4 BK394.out;obtain ⟨Ao13,co13,eo13⟩ := Kd.S_slice HO389.out;subst eo13;obtain ⟨Ao14,co14,eo14⟩ := Kd.R_slice HO392.out;subst eo14) | (go_at_call 15;(with_reducible refine (impl_Column.calls k _ _ t383 t386 _ _ t387 _ _ t390 t393 t395 _ ?side1 ?side2 ?side3 ?side4 ?side5 ?side6 A5.out).mono ?_);(case side1 => exact Z17);(case side2 => exact Z95);(case side3 => exact Z16);(case side4 => exact Z93);(case side5 => exact Z18);(case side6 => exact Z94);rintro e w15 ⟨v396,rfl,ho0,hb⟩;have n_ := Z2;clear HO385 HO389 HO392 BK394 HB;obtain ⟨HO385,HO389,HO392,HO397,BK394,HB⟩ := n_;(try clear hb);(try clear hb2);(try clear hk);(try clear hi);(try clear ho0);obtain ⟨hcz16_0,hcz16_1,hcz16_2,hcz16_3,hfz16_0,hfz16_1,hfz16_2,hfz16_3⟩ := cells4 BK394.out) | (go_at_call 17;(with_reducible refine (spec_Column.calls k _ _ t383 t386 _ _ t387 _ _ t390 t393 t398 _ ?side1 ?side2 ?side3 ?side4 ?side5 ?side6 A6.out).mono ?_);(case side1 => exact Z50);(case side2 => exact Z95);(case side3 => exact Z46);(case side4 => exact Z93);(case side5 => exact Z49);(case side6 => exact Z94);rintro e w17 ⟨v399,rfl,ho0,hb⟩;have n_ := Z9;clear HO385 HO389 HO392 HO397 BK394 HB;obtain ⟨HO385,HO389,HO392,HO397,HO400,BK394,HB⟩ := n_;(try clear hb);(try clear hb2);(try clear hk);(try clear hi);(try clear ho0);obtain ⟨Ao18,co18,eo18⟩ := Kd.R_slice HO397.out;subst eo18;obtain ⟨Ao19,co19,eo19⟩ := Kd.R_slice HO400.out;subst eo19) | (go_at_call 16;(with_reducible refine (laws_sameInts.calls k _ _ t395 _ _ t398 true _ ?side1 ?side2 ?side3 ?side4 A7.out).mono ?_);(case side1 => exact Z48);(case side2 => exact (Kd.R_reads' HO397.out).2.1);(case side3 => exact Z47);(case side4 => exact (Kd.R_reads' HO400.out).2.1);rintro e w' ⟨rfl,⟨nd,rfl⟩⟩;(try first | exact ⟨rfl,_,World.drewN_drewN _ _ _⟩ | exact ⟨rfl,_,Eq.trans (World.drewN_drewN _ _ _) (congrArg (World.drewN _) (Nat.add_assoc _ _ _))⟩)))
   repeat (go_quiet (first | (go_at_call 13;(with_reducible refine (laws_big.calls _ _ l0 false _ ?side1 ?side2 A2.out).mono ?_);(case side1 => exact Z55);(case side2 => exact HC0.out);rintro e w' ⟨rfl,⟨nd,rfl⟩⟩;(try first | exact ⟨rfl,_,World.drewN_drewN _ _ _⟩ | exact ⟨rfl,_,Eq.trans (World.drewN_drewN _ _ _) (congrArg (World.drewN _) (Nat.add_assoc _ _ _))⟩)) | (go_at_call 14;(with_reducible refine (spec_DrawColumn.calls k _ _ l0 t383 t386 t387 t390 t393 _ ?side1 ?side2 A4.out).mono ?_);(case side1 => exact Z55);(case side2 => exact HC0.out);rintro e w9 ⟨v384,v388,v391,rfl,ho0,ho1,ho2,hb⟩;have n_ := Z15;clear HB;obtain ⟨HO385,HO389,HO392,HB⟩ := n_;(try clear hb);(try clear hb2);(try clear hk);(try clear hi);(try clear ho0);(try clear ho1);(try clear ho2)) | ((with_reducible refine gate_dst (N := 3) rfl ?_);(try (refine gate_guard Z103 ?_;dsimp only));refine bE 3 #[.slice none 0 0,.string (⟨#[]⟩ : ByteArray),.slice none 0 0,.slice none 0 0] 36 (h := ?_);intro gb394 hg w10 hbox hb;have n_ := Z12;clear HO385 HO389 HO392 HB;obtain ⟨HO385,HO389,HO392,HB,BK394,GW394,GE394⟩ := n_;clear hb hbox hg;obtain ⟨Ao11,co11,eo11⟩ := Kd.R_slice HO385.out;subst eo11;obtain ⟨hcz12_0,hcz12_1,hcz12_2,hcz12_3,hfz12_0,hfz12_1,hfz12_2,hfz12_3⟩ := cells4 BK394.out;obtain ⟨Ao13,co13,eo13⟩ := Kd.S_slice HO389.out;subst eo13;obtain ⟨Ao14,co14,eo14⟩ := Kd.R_slice HO392.out;subst eo14) | (go_at_call 15;(with_reducible refine (impl_Column.calls k _ _ t383 t386 _ _ t387 _ _ t390 t393 t395 _ ?side1 ?side2 ?side3 ?side4 ?side5 ?side6 A5.out).mono ?_);(case side1 => exact Z17);(case side2 => exact Z95);(case side3 => exact Z16);(case side4 => exact Z93);(case side5 => exact Z18);(case side6 => exact Z94);rintro e w15 ⟨v396,rfl,ho0,hb⟩;have n_ := Z2;clear HO385 HO389 HO392 BK394 HB;obtain ⟨HO385,HO389,HO392,HO397,BK394,HB⟩ := n_;(try clear hb);(try clear hb2);(try clear hk);(try clear hi);(try clear ho0);obtain ⟨hcz16_0,hcz16_1,hcz16_2,hcz16_3,hfz16_0,hfz16_1,hfz16_2,hfz16_3⟩ := cells4 BK394.out) | (go_at_call 17;(with_reducible refine (spec_Column.calls k _ _ t383 t386 _ _ t387 _ _ t390 t393 t398 _ ?side1 ?side2 ?side3 ?side4 ?side5 ?side6 A6.out).mono ?_);(case side1 => exact Z50);(case side2 => exact Z95);(case side3 => exact Z46);(case side4 => exact Z93);(case side5 => exact Z49);(case side6 => exact Z94);rintro e w17 ⟨v399,rfl,ho0,hb⟩;have n_ := Z9;clear HO385 HO389 HO392 HO397 BK394 HB;obtain ⟨HO385,HO389,HO392,HO397,HO400,BK394,HB⟩ := n_;(try clear hb);(try clear hb2);(try clear hk);(try clear hi);(try clear ho0);obtain ⟨Ao18,co18,eo18⟩ := Kd.R_slice HO397.out;subst eo18;obtain ⟨Ao19,co19,eo19⟩ := Kd.R_slice HO400.out;subst eo19) | (go_at_call 16;(with_reducible refine (laws_sameInts.calls k _ _ t395 _ _ t398 true _ ?side1 ?side2 ?side3 ?side4 A7.out).mono ?_);(case side1 => exact Z48);(case side2 => exact (Kd.R_reads' HO397.out).2.1);(case side3 => exact Z47);(case side4 => exact (Kd.R_reads' HO400.out).2.1);rintro e w' ⟨rfl,⟨nd,rfl⟩⟩;(try first | exact ⟨rfl,_,World.drewN_drewN _ _ _⟩ | exact ⟨rfl,_,Eq.trans (World.drewN_drewN _ _ _) (congrArg (World.drewN _) (Nat.add_assoc _ _ _))⟩)));try go_wp2_with (first | (go_at_call 13;(with_reducible refine (laws_big.calls _ _ l0 false _ ?side1 ?side2 A2.out).mono ?_);(case side1 => exact Z55);(case side2 => exact HC0.out);rintro e w' ⟨rfl,⟨nd,rfl⟩⟩;(try first | exact ⟨rfl,_,World.drewN_drewN _ _ _⟩ | exact ⟨rfl,_,Eq.trans (World.drewN_drewN _ _ _) (congrArg (World.drewN _) (Nat.add_assoc _ _ _))⟩)) | (go_at_call 14;(with_reducible refine (spec_DrawColumn.calls k _ _ l0 t383 t386 t387 t390 t393 _ ?side1 ?side2 A4.out).mono ?_);(case side1 => exact Z55);(case side2 => exact HC0.out);rintro e w9 ⟨v384,v388,v391,rfl,ho0,ho1,ho2,hb⟩;have n_ := Z15;clear HB;obtain ⟨HO385,HO389,HO392,HB⟩ := n_;(try clear hb);(try clear hb2);(try clear hk);(try clear hi);(try clear ho0);(try clear ho1);(try clear ho2)) | ((with_reducible refine gate_dst (N := 3) rfl ?_);(try (refine gate_guard Z103 ?_;dsimp only));refine bE 3 #[.slice none 0 0,.string (⟨#[]⟩ : ByteArray),.slice none 0 0,.slice none 0 0] 36 (h := ?_);intro gb394 hg w10 hbox hb;have n_ := Z12;clear HO385 HO389 HO392 HB;obtain ⟨HO385,HO389,HO392,HB,BK394,GW394,GE394⟩ := n_;clear hb hbox hg;obtain ⟨Ao11,co11,eo11⟩ := Kd.R_slice HO385.out;subst eo11;obtain ⟨hcz12_0,hcz12_1,hcz12_2,hcz12_3,hfz12_0,hfz12_1,hfz12_2,hfz12_3⟩ := cells4 BK394.out;obtain ⟨Ao13,co13,eo13⟩ := Kd.S_slice HO389.out;subst eo13;obtain ⟨Ao14,co14,eo14⟩ := Kd.R_slice HO392.out;subst eo14) | (go_at_call 15;(with_reducible refine (impl_Column.calls k _ _ t383 t386 _ _ t387 _ _ t390 t393 t395 _ ?side1 ?side2 ?side3 ?side4 ?side5 ?side6 A5.out).mono ?_);(case side1 => exact Z17);(case side2 => exact Z95);(case side3 => exact Z16);(case side4 => exact Z93);(case side5 => exact Z18);(case side6 => exact Z94);rintro e w15 ⟨v396,rfl,ho0,hb⟩;have n_ := Z2;clear HO385 HO389 HO392 BK394 HB;obtain ⟨HO385,HO389,HO392,HO397,BK394,HB⟩ := n_;(try clear hb);(try clear hb2);(try clear hk);(try clear hi);(try clear ho0);obtain ⟨hcz16_0,hcz16_1,hcz16_2,hcz16_3,hfz16_0,hfz16_1,hfz16_2,hfz16_3⟩ := cells4 BK394.out) | (go_at_call 17;(with_reducible refine (spec_Column.calls k _ _ t383 t386 _ _ t387 _ _ t390 t393 t398 _ ?side1 ?side2 ?side3 ?side4 ?side5 ?side6 A6.out).mono ?_);(case side1 => exact Z50);(case side2 => exact Z95);(case side3 => exact Z46);(case side4 => exact Z93);(case side5 => exact Z49);(case side6 => exact Z94);rintro e w17 ⟨v399,rfl,ho0,hb⟩;have n_ := Z9;clear HO385 HO389 HO392 HO397 BK394 HB;obtain ⟨HO385,HO389,HO392,HO397,HO400,BK394,HB⟩ := n_;(try clear hb);(try clear hb2);(try clear hk);(try clear hi);(try clear ho0);obtain ⟨Ao18,co18,eo18⟩ := Kd.R_slice HO397.out;subst eo18;obtain ⟨Ao19,co19,eo19⟩ := Kd.R_slice HO400.out;subst eo19) | (go_at_call 16;(with_reducible refine (laws_sameInts.calls k _ _ t395 _ _ t398 true _ ?side1 ?side2 ?side3 ?side4 A7.out).mono ?_);(case side1 => exact Z48);(case side2 => exact (Kd.R_reads' HO397.out).2.1);(case side3 => exact Z47);(case side4 => exact (Kd.R_reads' HO400.out).2.1);rintro e w' ⟨rfl,⟨nd,rfl⟩⟩;(try first | exact ⟨rfl,_,World.drewN_drewN _ _ _⟩ | exact ⟨rfl,_,Eq.trans (World.drewN_drewN _ _ _) (congrArg (World.drewN _) (Nat.add_assoc _ _ _))⟩))))
   go_loopg [6] k (fun kq v6 w' => ∃ (x6_1 : Int),v6 = .int .i64 x6_1 ∧ Aside0 (laws_FnColumn.l0 kq t393 t395 x6_1 t383 t386 t387 t390 = some r) ∧ Aside0 (kq ≤ k) ∧ Aside0 (Kd.R (Kd.int .i64) 3 w' w.heap.size (fun k_ => some k_ ≠ ((.slice Ao14 t390.length co14) : Value).ownBlock) (.slice Ao18 t395.length co18) t395) ∧ Aside0 (Kd.R Kd.string 9 w' w.heap.size (fun _ => True) (.slice Ao11 t383.length co11) t383) ∧ Aside0 (Kd.S (Kd.slice 3 (Kd.int .i64)) 34 w' w.heap.size (fun k_ => some k_ ≠ ((.slice Ao18 t395.length co18) : Value).ownBlock ∧ some k_ ≠ ((.slice Ao14 t390.length co14) : Value).ownBlock) (.slice Ao13 t387.length co13) t387) ∧ Aside0 (Kd.R (Kd.int .i64) 3 w' w.heap.size (fun k_ => some k_ ≠ ((.slice Ao18 t395.length co18) : Value).ownBlock) (.slice Ao14 t390.length co14) t390) ∧ Aside0 (w'.heap[gb394]? = some (.cells #[(.slice Ao11 t383.length co11),.string t386,(.slice Ao13 t387.length co13),(.slice Ao14 t390.length co14)] 36 (0,0))) ∧ Aside0 (Below w.heap.size w w'))
   case atStart => exact ⟨(0),Z86,H',⟨Nat.le_refl _⟩,⟨by (with_reducible repeat (first | apply Kd.R_alloc | apply Kd.R_drewN | apply Kd.R_drew));exact Kd.R_mono HO397.out (fun _ hk => hk.1.2)⟩,⟨Z137⟩,⟨by (with_reducible repeat (first | apply Kd.S_alloc | apply Kd.S_drewN | apply Kd.S_drew));exact Kd.S_mono HO389.out (fun _ hk => ⟨hk.1.2,hk.1.1⟩)⟩,⟨by (with_reducible repeat (first | apply Kd.R_alloc | apply Kd.R_drewN | apply Kd.R_drew));exact Kd.R_mono HO392.out (fun _ hk => hk.1.2)⟩,⟨Z148⟩,⟨Z122⟩⟩
   case round =>
    clear H'
    try clear p2
    try clear c3
    try clear c4
    try clear c8
    try clear hcz12_0
    try clear hcz12_1
    try clear hcz12_2
    try clear hcz12_3
    try clear hcz16_0
    try clear hcz16_1
    try clear hcz16_2
    try clear hcz16_3
    try clear hfz12_0
    try clear hfz12_1
    try clear hfz12_2
    try clear hfz12_3
    try clear hfz16_0
    try clear hfz16_1
    try clear hfz16_2
    try clear hfz16_3
    obtain ⟨x6_1,rfl,HA,HK1,HO_5,HO_395000,HO_395002,HO_395003,BK394,HB⟩ := hrel
    cases gk with
    | zero => exact absurd HA.out (by simp [laws_FnColumn.l0])
    | succ k1 =>
     have H := HA.out
     clear HA
     simp only [laws_FnColumn.l0] at H
     have HC20 := Aside0.mk H
     clear H
     go_upto_region 8 with (fail)
     repeat (go_quiet (fail);go_upto_region 8 with (fail))
     go_cut [30] (fun v30 wc => ∃ (kq : Nat) (x30_19 : Bool),v30 = .bool x30_19 ∧ Aside0 (laws_FnColumn.j1 kq t393 t395 x6_1 x30_19 t383 t386 t387 t390 = some r) ∧ Aside0 (kq ≤ k1) ∧ Aside0 (Kd.R (Kd.int .i64) 3 wc w.heap.size (fun k_ => some k_ ≠ ((.slice Ao14 t390.length co14) : Value).ownBlock) (.slice Ao18 t395.length co18) t395) ∧ Aside0 (Kd.R Kd.string 9 wc w.heap.size (fun _ => True) (.slice Ao11 t383.length co11) t383) ∧ Aside0 (Kd.S (Kd.slice 3 (Kd.int .i64)) 34 wc w.heap.size (fun k_ => some k_ ≠ ((.slice Ao18 t395.length co18) : Value).ownBlock ∧ some k_ ≠ ((.slice Ao14 t390.length co14) : Value).ownBlock) (.slice Ao13 t387.length co13) t387) ∧ Aside0 (Kd.R (Kd.int .i64) 3 wc w.heap.size (fun k_ => some k_ ≠ ((.slice Ao18 t395.length co18) : Value).ownBlock) (.slice Ao14 t390.length co14) t390) ∧ Aside0 (wc.heap[gb394]? = some (.cells #[(.slice Ao11 t383.length co11),.string t386,(.slice Ao13 t387.length co13),(.slice Ao14 t390.length co14)] 36 (0,0))) ∧ Aside0 (Below w.heap.size w wc))
     case first =>
      have H := HC20.out
      clear HC20
      by_cases c21 : x6_1 < (t395.length : Int)
      ·rw [if_pos c21] at H
       have c21b0 : decide (x6_1 < (t395.length : Int)) = true := decide_eq_true c21
       clear c21
       (first | rw [c21b0] | (simp only [i64_w,i32_w];rw [c21b0]) | skip)
       obtain ⟨t402,A220,H⟩ := Option.bind_eq_some_iff.mp H
       have A22 := Aside0.mk A220
       clear A220
       have H' := Aside0.mk H
       clear H
       obtain ⟨hcz23_0,hcz23_1,hcz23_2,hcz23_3,hfz23_0,hfz23_1,hfz23_2,hfz23_3⟩ := cells4 BK394.out
       go_wp2_with (first | (go_at_call 18;(with_reducible refine (spec_TableOk.calls k1 _ _ t383 t386 _ _ t387 _ _ t390 t402 _ ?side1 ?side2 ?side3 ?side4 ?side5 ?side6 A22.out).mono ?_);(case side1 => exact Z43);(case side2 => exact Z91);(case side3 => exact Z41);(case side4 => exact Z89);(case side5 => exact Z42);(case side6 => exact Z90);rintro e w24 ⟨rfl,hb⟩;have n_ := Z13;clear HO_5 HO_395000 HO_395002 HO_395003 BK394 HB;obtain ⟨HO_5,HO_395000,HO_395002,HO_395003,BK394,HB⟩ := n_;(try clear hb);(try clear hb2);(try clear hk);(try clear hi)))
       repeat (go_quiet (first | (go_at_call 18;(with_reducible refine (spec_TableOk.calls k1 _ _ t383 t386 _ _ t387 _ _ t390 t402 _ ?side1 ?side2 ?side3 ?side4 ?side5 ?side6 A22.out).mono ?_);(case side1 => exact Z43);(case side2 => exact Z91);(case side3 => exact Z41);(case side4 => exact Z89);(case side5 => exact Z42);(case side6 => exact Z90);rintro e w24 ⟨rfl,hb⟩;have n_ := Z13;clear HO_5 HO_395000 HO_395002 HO_395003 BK394 HB;obtain ⟨HO_5,HO_395000,HO_395002,HO_395003,BK394,HB⟩ := n_;(try clear hb);(try clear hb2);(try clear hk);(try clear hi)));try go_wp2_with (first | (go_at_call 18;(with_reducible refine (spec_TableOk.calls k1 _ _ t383 t386 _ _ t387 _ _ t390 t402 _ ?side1 ?side2 ?side3 ?side4 ?side5 ?side6 A22.out).mono ?_);(case side1 => exact Z43);(case side2 => exact Z91);(case side3 => exact Z41);(case side4 => exact Z89);(case side5 => exact Z42);(case side6 => exact Z90);rintro e w24 ⟨rfl,hb⟩;have n_ := Z13;clear HO_5 HO_395000 HO_395002 HO_395003 BK394 HB;obtain ⟨HO_5,HO_395000,HO_395002,HO_395003,BK394,HB⟩ := n_;(try clear hb);(try clear hb2);(try clear hk);(try clear hi))))
       go_meet
       case rel => exact ⟨_,(t402),Z86,H',⟨Z84⟩,⟨Z140⟩,⟨Z132⟩,⟨Z130⟩,⟨Z131⟩,⟨Z148⟩,⟨Z122⟩⟩
      ·rw [if_neg c21] at H
       have c21b0 : decide (x6_1 < (t395.length : Int)) = false := decide_eq_false c21
       clear c21
       (first | rw [c21b0] | (simp only [i64_w,i32_w];rw [c21b0]) | skip)
       have H' := Aside0.mk H
       clear H
       go_wp2
       repeat (go_quiet (fail);try go_wp2)
       go_meet
       case rel => exact ⟨_,(false),Z86,H',⟨Z84⟩,⟨Z140⟩,⟨Z132⟩,⟨Z130⟩,⟨Z131⟩,⟨Z148⟩,⟨Z122⟩⟩
     case rest =>
      clear HC20
      try clear c2
      try clear p2
      try clear c3
      try clear c4
      try clear c8
      try clear c21
      try clear c21b0
      try clear hcz12_0
      try clear hcz12_1
      try clear hcz12_2
      try clear hcz12_3
      try clear hcz16_0
      try clear hcz16_1
      try clear hcz16_2
      try clear hcz16_3
      try clear hcz23_0
      try clear hcz23_1
      try clear hcz23_2
      try clear hcz23_3
      try clear hfz12_0
      try clear hfz12_1
      try clear hfz12_2
      try clear hfz12_3
      try clear hfz16_0
      try clear hfz16_1
      try clear hfz16_2
      try clear hfz16_3
      try clear hfz23_0
      try clear hfz23_1
      try clear hfz23_2
      try clear hfz23_3
      try clear p2
      obtain ⟨kq,x30_19,rfl,HA,HJ19,HO_5,HO_395000,HO_395002,HO_395003,BK394,HB⟩ := hcut
      cases kq with
      | zero => exact absurd HA.out (by simp [laws_FnColumn.j1])
      | succ kj19 =>
       have H := HA.out
       clear HA
       simp only [laws_FnColumn.j1] at H
       by_cases c25 : x30_19 = true
       ·subst c25
        rw [if_pos rfl] at H
        by_cases c26 : 0 ≤ x6_1
        ·rw [if_pos c26] at H
         have c26b0 : decide (0 ≤ x6_1) = true := decide_eq_true c26
         clear c26
         by_cases c27 : x6_1 < (t395.length : Int)
         ·rw [if_pos c27] at H
          have c27b0 : decide (x6_1 < (t395.length : Int)) = true := decide_eq_true c27
          clear c27
          by_cases c28 : x6_1 < (t387.length : Int)
          ·rw [if_pos c28] at H
           have c28b0 : decide (x6_1 < (t387.length : Int)) = true := decide_eq_true c28
           clear c28
           by_cases c29 : 0 ≤ t393
           ·rw [if_pos c29] at H
            have c29b0 : decide (0 ≤ t393) = true := decide_eq_true c29
            clear c29
            by_cases c30 : t393 < ((rd_L3 t387 x6_1).length : Int)
            ·rw [if_pos c30] at H
             have c30b0 : decide (t393 < ((rd_L3 t387 x6_1).length : Int)) = true := decide_eq_true c30
             clear c30
             by_cases c31 : (rd t395 x6_1) = (rd (rd_L3 t387 x6_1) t393)
             ·rw [if_pos c31] at H
              have c31b0 : ((rd t395 x6_1) == (rd (rd_L3 t387 x6_1) t393)) = true := beq_iff_eq.mpr c31
              have c31b1 : ((rd t395 x6_1) != (rd (rd_L3 t387 x6_1) t393)) = false := bne_eq_false_iff_eq.mpr c31
              clear c31
              have H' := Aside0.mk H
              clear H
              have p403 : 0 ≤ (x6_1 : Int) := of_decide_eq_true Z85
              have q403 : x6_1 < (t395.length : Int) := of_decide_eq_true Z85
              obtain ⟨ad403,e403,hx403_0⟩ := Kd.at_int (Kd.R_reads' HO_5.out).2.2 x6_1 p403 q403
              cases e403
              replace p403 := eq_true p403
              replace q403 := eq_true q403
              obtain ⟨hcz32_0,hcz32_1,hcz32_2,hcz32_3,hfz32_0,hfz32_1,hfz32_2,hfz32_3⟩ := cells4 BK394.out
              have p404 : 0 ≤ (x6_1 : Int) := of_decide_eq_true Z85
              have q404 : x6_1 < (t387.length : Int) := of_decide_eq_true Z85
              obtain ⟨ad404,A404_0,c404_0,e404,hx404_0,hl404_0,hi404_0⟩ := at_L3 (Kd.S_reads' HO_395002.out).2.2 x6_1 p404 q404
              cases e404
              obtain ⟨ce404,hce404,hMe404,hcc404⟩ := Kd.S_get HO_395002.out [] x6_1 p404 (by first | exact q404 | exact of_decide_eq_true Z85 | (have e_ := (Kd.S_reads' HO_395002.out).1;omega))
              obtain ⟨ve404_0,rfl,ge404_0⟩ := hMe404
              have hv404_0 := hcc404 0 _ rfl
              rw [Nat.add_zero,show ((Kd.slice 3 (Kd.int .i64))).sz = 1 from rfl,Nat.mul_one] at hv404_0
              replace hv404_0 := Option.some.inj (hv404_0.symm.trans hx404_0)
              rw [hv404_0] at ge404_0
              have HL404_0 := Aside0.mk (show Kd.R (Kd.int .i64) 3 _ _ _ _ (rd_L3 t387 x6_1) from ge404_0)
              clear hv404_0 ge404_0
              clear hcc404 hce404
              have HR404_0 := Aside0.mk hi404_0
              have HC404_0 := Aside0.mk hl404_0
              clear hi404_0 hl404_0
              replace p404 := eq_true p404
              replace q404 := eq_true q404
              have p405 : 0 ≤ (t393 : Int) := of_decide_eq_true Z85
              have q405 : t393 < ((rd_L3 t387 x6_1).length : Int) := of_decide_eq_true Z85
              obtain ⟨ad405,e405,hx405_0⟩ := Kd.at_int (by repeat (first | (with_reducible exact HR404_0.out) | (with_reducible refine Kd.C_alloc ?_ _) | (with_reducible refine Kd.C_drewN ?_ _) | (with_reducible refine Kd.C_drew ?_) | exact HR404_0.out)) t393 p405 q405
              cases e405
              replace p405 := eq_true p405
              replace q405 := eq_true q405
              go_wp2
              repeat (go_quiet (fail);try go_wp2)
              go_roundg kj19
              case measure => have := HK1.out;have := HJ19.out;omega
              case rel => exact ⟨(wrap64 (x6_1 + 1)),Z86,H',⟨by have := HK1.out;have := HJ19.out;omega⟩,⟨Z140⟩,⟨Z132⟩,⟨Z130⟩,⟨Z131⟩,⟨Z148⟩,⟨Z122⟩⟩
             ·rw [if_neg c31] at H
              have c31b0 : ((rd t395 x6_1) == (rd (rd_L3 t387 x6_1) t393)) = false := beq_eq_false_iff_ne.mpr c31
              have c31b1 : ((rd t395 x6_1) != (rd (rd_L3 t387 x6_1) t393)) = true := bne_iff_ne.mpr c31
              exact absurd ((Option.some.inj H).trans HRT.out) Z154
            ·rw [if_neg c30] at H
             exact absurd H Z150
           ·rw [if_neg c29] at H
            exact absurd H Z150
          ·rw [if_neg c28] at H
           exact absurd H Z150
         ·rw [if_neg c27] at H
          exact absurd H Z150
        ·rw [if_neg c26] at H
         exact absurd H Z150
       ·replace c25 := Bool.eq_false_iff.mpr c25
        subst c25
        rw [if_neg Bool.false_ne_true] at H
        by_cases c33 : (t395.length : Int) = 0
        ·rw [if_pos c33] at H
         have c33b0 : ((t395.length : Int) == 0) = true := beq_iff_eq.mpr c33
         have c33b1 : ((t395.length : Int) != 0) = false := bne_eq_false_iff_eq.mpr c33
         clear c33
         obtain rfl := Option.some.inj H
         go_wp2
         repeat (go_quiet (fail);try go_wp2)
         go_ret
         exact ⟨Z77,Z122⟩
        ·rw [if_neg c33] at H
         have c33b0 : ((t395.length : Int) == 0) = false := beq_eq_false_iff_ne.mpr c33
         have c33b1 : ((t395.length : Int) != 0) = true := bne_iff_ne.mpr c33
         have c33b2 : ¬ (t395 = []) := fun h_ => c33 (by rw [h_];rfl)
         obtain rfl := Option.some.inj H
         obtain ⟨hcz34_0,hcz34_1,hcz34_2,hcz34_3,hfz34_0,hfz34_1,hfz34_2,hfz34_3⟩ := cells4 BK394.out
         go_wp2
         repeat (go_quiet (fail);try go_wp2)
         go_ret
         exact ⟨Z77,Z122⟩
  ·replace c8 := Bool.eq_false_iff.mpr c8
   subst c8
   rw [if_neg Bool.false_ne_true] at H
   exact absurd ((Option.some.inj H).trans HRT.out) Z154

/-- THE ONE PURE STATEMENT of laws_FnColumn: yours. -/
def laws_FnColumn.Pure : Prop := ∀ (l0 : List Int),l0.length ≤ maxLen → l0.length * 1 ≤ 140737488351232 → (∀ x ∈ l0,(Lit.int .u8 x).wf = true) → ∃ k,laws_FnColumn.f k l0 = some true
theorem laws_FnColumn.walk (P : laws_FnColumn.Pure) (a0 : Option Addr) (len0 cap0 : Nat) (z0 : List Int) (w : World) (w0 : (a0 = none ∧ len0 = 0 ∧ cap0 = 0 ∧ z0 = []) ∨ ∃ x,a0 = some x ∧ len0 ≤ cap0 ∧ cap0 ≤ maxLen ∧ z0.length = cap0 ∧ (∀ i,i < z0.length → w.cell? (x.add i) = some (.int .u8 (z0.getD i 0))) ∧ ∀ n ∈ z0,(Lit.int .u8 n).wf = true) (y0 : len0 * 1 ≤ 140737488351232) :
  Calls Try.prog 4 #[.slice a0 len0 cap0] w fun e w' => e = .returned (.bool true) ∧ Below w.heap.size w w' := by
 obtain ⟨l0,rfl,hr0,hm0,hw0,hc0⟩ := ReadsInt.ofRowC w0
 obtain ⟨k,h⟩ := P l0 hm0 y0 hw0
 refine (laws_FnColumn.calls k _ _ l0 true w (Kd.C_of_reads (d := (0 : Int)) (h1 := fun _ => rfl) hr0) hc0 h rfl).mono ?_
 rintro e w' ⟨rfl,hd⟩
 exact ⟨rfl,hd⟩

end Go.Proofs.Ytiacoiiapmfaeaa.QFnColumn
