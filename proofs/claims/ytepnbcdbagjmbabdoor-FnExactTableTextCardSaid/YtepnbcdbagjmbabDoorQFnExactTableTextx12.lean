/- The machine side of FnExactTableText: what each Go function that it reaches comes to. Conditions: none. -/
import Derived.Test.YtepnbcdbagjmbabDoorQFnExactTableTextx0
import Derived.Test.YtepnbcdbagjmbabDoorQFnExactTableTextx1
import Derived.Test.YtepnbcdbagjmbabDoorQFnExactTableTextx5
import Derived.Test.YtepnbcdbagjmbabDoorQFnExactTableTextx6
import Derived.Test.YtepnbcdbagjmbabDoorQFnExactTableTextx10
import Derived.Test.YtepnbcdbagjmbabDoorQFnExactTableTextx11
namespace Go.Proofs.YtepnbcdbagjmbabDoor.QFnExactTableText
open Go.RowKit Go.Proofs.YtepnbcdbagjmbabDoorW.PrintWords Go.Proofs.YtepnbcdbagjmbabDoorW.PrintLast Go.Proofs.YtepnbcdbagjmbabDoorW.PrintMore
attribute [local go_sem] max2_int min2_int max_two min_two max_three min_three max_four min_four   -- for this text's walks alone
set_option linter.unusedVariables false
set_option linter.unusedSimpArgs false

/-! ### laws_FnExactTableText: function 3 -/
def laws_FnExactTableText.f (k : Nat) (l0_0 : List ByteArray) (a0_1 : ByteArray) (l0_2 : List (List Int)) (l0_3 : List Int) : Option (Bool) := (laws_szTable.f k l0_0 a0_1 l0_2 l0_3 1048576).bind fun t380 => (if t380 < 0 then (some true) else ((laws_toTable.f k l0_0 a0_1 l0_2 l0_3).bind fun bt381 => ((spec_TableText.f k bt381.1 bt381.2.1 bt381.2.2.1 bt381.2.2.2).bind fun t391 => ((laws_toTable.f k l0_0 a0_1 l0_2 l0_3).bind fun bt392 => ((impl_TableText.f k bt392.1 bt392.2.1 bt392.2.2.1 bt392.2.2.2).bind fun t403 => (if t403.toList = t391.toList then ((laws_toTable.f k l0_0 a0_1 l0_2 l0_3).bind fun bt404 => ((laws_eqTable.f k bt392.1 bt392.2.1 bt392.2.2.1 bt392.2.2.2 bt404.1 bt404.2.1 bt404.2.2.1 bt404.2.2.2).bind fun t414 => (if t414 = true then (some true) else (some false)))) else (some false)))))))
theorem laws_FnExactTableText.mono : ∀ a0 a1 a2 a3 k,LeO (laws_FnExactTableText.f k a0 a1 a2 a3) (laws_FnExactTableText.f (k + 1) a0 a1 a2 a3) := by
 intro a0 a1 a2 a3 k
 unfold laws_FnExactTableText.f
 repeat' first
   | (with_reducible exact impl_TableText.mono _ _ _ _ _)
   | (with_reducible exact laws_eqTable.mono _ _ _ _ _ _ _ _ _)
   | (with_reducible exact laws_szTable.mono _ _ _ _ _ _)
   | (with_reducible exact laws_toTable.mono _ _ _ _ _)
   | (with_reducible exact spec_TableText.mono _ _ _ _ _)
   | (with_reducible exact LeO.refl _)
   | (with_reducible exact LeO.none _)
   | (with_reducible refine LeO.ite ?_ ?_)
   | (with_reducible refine LeO.bind ?_ (fun _ => ?_))
   | exact impl_TableText.mono _ _ _ _ _
   | exact laws_eqTable.mono _ _ _ _ _ _ _ _ _
   | exact laws_szTable.mono _ _ _ _ _ _
   | exact laws_toTable.mono _ _ _ _ _
   | exact spec_TableText.mono _ _ _ _ _
   | exact LeO.none _
   | refine LeO.ite ?_ ?_
   | refine LeO.bind ?_ (fun _ => ?_)
set_option maxHeartbeats 8000000 in
set_option maxRecDepth 100000 in
theorem laws_FnExactTableText.calls (k : Nat) (A0_0 : Option Addr) (c0_0 : Nat) (l0_0 : List ByteArray) (a0_1 : ByteArray) (A0_2 : Option Addr) (c0_2 : Nat) (l0_2 : List (List Int)) (A0_3 : Option Addr) (c0_3 : Nat) (l0_3 : List Int) (r : Bool) (w : World) (hr0_0 : Kd.C Kd.string w A0_0 l0_0.length l0_0) (hc0_0 : l0_0.length ≤ c0_0) (hr0_2 : Kd.C (Kd.slice 3 (Kd.int .i64)) w A0_2 l0_2.length l0_2) (hc0_2 : l0_2.length ≤ c0_2) (hr0_3 : Kd.C (Kd.int .i64) w A0_3 l0_3.length l0_3) (hc0_3 : l0_3.length ≤ c0_3) (hG : GT w) (h : laws_FnExactTableText.f k l0_0 a0_1 l0_2 l0_3 = some r) (hr_ : r = true) :
  Calls Tryd.prog 3 #[.agg #[.slice A0_0 l0_0.length c0_0,.string a0_1,.slice A0_2 l0_2.length c0_2,.slice A0_3 l0_3.length c0_3]] w fun e w' => e = .returned (.bool r) ∧ Below w.heap.size w w' := by
 have HRT := Aside0.mk hr_
 clear hr_
 have HG := Aside0.mk hG
 clear hG
 have hu26 := Tryd.underlying26
 have hu29 := Tryd.underlying29
 have HR0_0 := Aside0.mk hr0_0
 have HC0_0 := Aside0.mk hc0_0
 clear hr0_0 hc0_0
 have HR0_2 := Aside0.mk hr0_2
 have HC0_2 := Aside0.mk hc0_2
 clear hr0_2 hc0_2
 have HR0_3 := Aside0.mk hr0_3
 have HC0_3 := Aside0.mk hc0_3
 clear hr0_3 hc0_3
 have HB := Aside0.mk (Below.refl w.heap.size w)
 have H := h
 clear h
 unfold laws_FnExactTableText.f at H
 obtain ⟨t380,A20,H⟩ := Option.bind_eq_some_iff.mp H
 have A2 := Aside0.mk A20
 clear A20
 by_cases c3 : t380 < 0
 ·rw [if_pos c3] at H
  have c3b0 : decide (t380 < 0) = true := decide_eq_true c3
  clear c3
  obtain rfl := Option.some.inj H
  go_enter Tryd.func3,Tryd.ntmps3
  go_wp2_with (first | ((with_reducible refine gate_dst (N := 1) rfl ?_);refine bE 1 #[.slice A0_0 l0_0.length c0_0,.string a0_1,.slice A0_2 l0_2.length c0_2,.slice A0_3 l0_3.length c0_3] 26 (h := ?_);intro gb379 hg wq1 hbox hb;have n_ := Z7;clear HB;obtain ⟨HB,BK379,GW379,GE379⟩ := n_;clear hb hbox hg;obtain ⟨hczq2_0,hczq2_1,hczq2_2,hczq2_3,hfzq2_0,hfzq2_1,hfzq2_2,hfzq2_3⟩ := cells4 BK379.out) | ((with_reducible refine gate_callee (f := 4) rfl ?_);refine goesL_ (some 9) rfl rfl Tryd.func4 Z121 rfl #[.agg #[.slice A0_0 l0_0.length c0_0,.string a0_1,.slice A0_2 l0_2.length c0_2,.slice A0_3 l0_3.length c0_3],.int .i64 1048576] rfl Z66 ?_;(with_reducible refine (laws_szTable.calls k _ _ l0_0 a0_1 _ _ l0_2 _ _ l0_3 1048576 t380 _ ?side1 ?side2 ?side3 ?side4 ?side5 ?side6 A2.out).mono ?_);(case side1 => exact Z41);(case side2 => exact Z118);(case side3 => exact Z43);(case side4 => exact Z119);(case side5 => exact Z42);(case side6 => exact Z120);rintro e wq3 ⟨rfl,hb⟩;refine ⟨_,rfl,?_⟩;have n_ := Z13;clear BK379 HB;obtain ⟨BK379,HB⟩ := n_;(try clear hb);(try clear hb2);(try clear hk);(try clear hi)))
  go_ret
  exact ⟨Z98,Z132⟩
 rw [if_neg c3] at H
 have c3b0 : decide (t380 < 0) = false := decide_eq_false c3
 clear c3
 obtain ⟨⟨t381,t384,t385,t388⟩,A70,H⟩ := Option.bind_eq_some_iff.mp H
 try dsimp only at H
 have A7 := Aside0.mk A70
 clear A70
 obtain ⟨t391,A80,H⟩ := Option.bind_eq_some_iff.mp H
 have A8 := Aside0.mk A80
 clear A80
 obtain ⟨⟨t392,t395,t396,t399⟩,A90,H⟩ := Option.bind_eq_some_iff.mp H
 try dsimp only at H
 have A9 := Aside0.mk A90
 clear A90
 obtain ⟨t403,A100,H⟩ := Option.bind_eq_some_iff.mp H
 have A10 := Aside0.mk A100
 clear A100
 by_cases c11 : t403.toList = t391.toList
 rotate_left
 ·rw [if_neg c11] at H
  have c11b0 : (t403.toList == t391.toList) = false := beq_eq_false_iff_ne.mpr c11
  have c11b1 : (t403.toList != t391.toList) = true := bne_iff_ne.mpr c11
  exact absurd ((Option.some.inj H).trans HRT.out) Z145
 rw [if_pos c11] at H
 have c11b0 : (t403.toList == t391.toList) = true := beq_iff_eq.mpr c11
 have c11b1 : (t403.toList != t391.toList) = false := bne_eq_false_iff_eq.mpr c11
 clear c11
 obtain ⟨⟨t404,t407,t408,t411⟩,A120,H⟩ := Option.bind_eq_some_iff.mp H
 try dsimp only at H
 have A12 := Aside0.mk A120
 clear A120
 obtain ⟨t414,A130,H⟩ := Option.bind_eq_some_iff.mp H
 have A13 := Aside0.mk A130
 clear A130
 by_cases c14 : t414 = true
 rotate_left
 ·replace c14 := Bool.eq_false_iff.mpr c14
  subst c14
  rw [if_neg Bool.false_ne_true] at H
  exact absurd ((Option.some.inj H).trans HRT.out) Z145
 subst c14
 rw [if_pos rfl] at H
 obtain rfl := Option.some.inj H
 go_enter Tryd.func3,Tryd.ntmps3
 try go_wp2_with (first | ((with_reducible refine gate_dst (N := 1) rfl ?_);refine bE 1 #[.slice A0_0 l0_0.length c0_0,.string a0_1,.slice A0_2 l0_2.length c0_2,.slice A0_3 l0_3.length c0_3] 26 (h := ?_);intro gb379 hg w15 hbox hb;have n_ := Z7;clear HB;obtain ⟨HB,BK379,GW379,GE379⟩ := n_;clear hb hbox hg;obtain ⟨hcz16_0,hcz16_1,hcz16_2,hcz16_3,hfz16_0,hfz16_1,hfz16_2,hfz16_3⟩ := cells4 BK379.out) | ((with_reducible refine gate_callee (f := 4) rfl ?_);refine goesL_ (some 9) rfl rfl Tryd.func4 Z121 rfl #[.agg #[.slice A0_0 l0_0.length c0_0,.string a0_1,.slice A0_2 l0_2.length c0_2,.slice A0_3 l0_3.length c0_3],.int .i64 1048576] rfl Z66 ?_;(with_reducible refine (laws_szTable.calls k _ _ l0_0 a0_1 _ _ l0_2 _ _ l0_3 1048576 t380 _ ?side1 ?side2 ?side3 ?side4 ?side5 ?side6 A2.out).mono ?_);(case side1 => exact Z41);(case side2 => exact Z118);(case side3 => exact Z43);(case side4 => exact Z119);(case side5 => exact Z42);(case side6 => exact Z120);rintro e w17 ⟨rfl,hb⟩;refine ⟨_,rfl,?_⟩;have n_ := Z13;clear BK379 HB;obtain ⟨BK379,HB⟩ := n_;(try clear hb);(try clear hb2);(try clear hk);(try clear hi);obtain ⟨hcz18_0,hcz18_1,hcz18_2,hcz18_3,hfz18_0,hfz18_1,hfz18_2,hfz18_3⟩ := cells4 BK379.out) | ((with_reducible refine gate_callee (f := 6) rfl ?_);refine goesL_ (some 13) rfl rfl Tryd.func6 Z121 rfl #[.agg #[.slice A0_0 l0_0.length c0_0,.string a0_1,.slice A0_2 l0_2.length c0_2,.slice A0_3 l0_3.length c0_3]] rfl Z66 ?_;(with_reducible refine (laws_toTable.calls k _ _ l0_0 a0_1 _ _ l0_2 _ _ l0_3 t381 t384 t385 t388 _ ?side1 ?side2 ?side3 ?side4 ?side5 ?side6 A7.out).mono ?_);(case side1 => exact Z41);(case side2 => exact Z118);(case side3 => exact Z43);(case side4 => exact Z119);(case side5 => exact Z42);(case side6 => exact Z120);rintro e w19 ⟨v382,v386,v389,rfl,ho0,ho1,ho2,hb⟩;refine ⟨_,rfl,?_⟩;have n_ := jA (Kd.R_lower ho0 (below_size Z132)) (jA (Kd.S_lower ho1 (below_size Z132)) (jA (Kd.R_lower ho2 (below_size Z132)) (jA (blk_below (g := gb379) (o := .cells #[.slice A0_0 l0_0.length c0_0,.string a0_1,.slice A0_2 l0_2.length c0_2,.slice A0_3 l0_3.length c0_3] 26 (0,0)) Z142 hb) (Aside0.mk (below_step Z132 hb)))));clear BK379 HB;obtain ⟨HO383,HO387,HO390,BK379,HB⟩ := n_;(try clear hb);(try clear hb2);(try clear hk);(try clear hi);(try clear ho0);(try clear ho1);(try clear ho2);obtain ⟨Ao20,co20,eo20⟩ := Kd.R_slice HO383.out;subst eo20;obtain ⟨Ao21,co21,eo21⟩ := Kd.S_slice HO387.out;subst eo21;obtain ⟨Ao22,co22,eo22⟩ := Kd.R_slice HO390.out;subst eo22) | ((with_reducible refine gate_callee (f := 5) rfl ?_);refine goesL_ (some 14) rfl rfl Tryd.func5 Z121 rfl #[.agg #[.slice Ao20 t381.length co20,.string t384,.slice Ao21 t385.length co21,.slice Ao22 t388.length co22]] rfl Z66 ?_;(with_reducible refine (spec_TableText.calls k _ _ t381 t384 _ _ t385 _ _ t388 t391 _ ?side1 ?side2 ?side3 ?side4 ?side5 ?side6 A8.out).mono ?_);(case side1 => repeat (first | exact (Kd.R_reads' HO383.out).2.2 | (with_reducible refine Kd.C_alloc ?_ _) | (with_reducible refine Kd.C_drewN ?_ _) | (with_reducible refine Kd.C_drew ?_)));(case side2 => exact (Kd.R_reads' HO383.out).2.1);(case side3 => repeat (first | exact (Kd.S_reads' HO387.out).2.2 | (with_reducible refine Kd.C_alloc ?_ _) | (with_reducible refine Kd.C_drewN ?_ _) | (with_reducible refine Kd.C_drew ?_)));(case side4 => exact (Kd.S_reads' HO387.out).2.1);(case side5 => repeat (first | exact (Kd.R_reads' HO390.out).2.2 | (with_reducible refine Kd.C_alloc ?_ _) | (with_reducible refine Kd.C_drewN ?_ _) | (with_reducible refine Kd.C_drew ?_)));(case side6 => exact (Kd.R_reads' HO390.out).2.1);rintro e w23 ⟨rfl,hb⟩;refine ⟨_,rfl,?_⟩;have n_ := jA (Kd.R_below Z78 hb) (jA (Kd.S_below Z77 hb) (jA (Kd.R_below Z76 hb) (jA (blk_below (g := gb379) (o := .cells #[.slice A0_0 l0_0.length c0_0,.string a0_1,.slice A0_2 l0_2.length c0_2,.slice A0_3 l0_3.length c0_3] 26 (0,0)) Z142 hb) (Aside0.mk (below_step Z132 hb)))));clear HO383 HO387 HO390 BK379 HB;obtain ⟨HO383,HO387,HO390,BK379,HB⟩ := n_;(try clear hb);(try clear hb2);(try clear hk);(try clear hi);obtain ⟨hcz24_0,hcz24_1,hcz24_2,hcz24_3,hfz24_0,hfz24_1,hfz24_2,hfz24_3⟩ := cells4 BK379.out) | ((with_reducible refine gate_callee (f := 6) rfl ?_);refine goesL_ (some 16) rfl rfl Tryd.func6 Z121 rfl #[.agg #[.slice A0_0 l0_0.length c0_0,.string a0_1,.slice A0_2 l0_2.length c0_2,.slice A0_3 l0_3.length c0_3]] rfl Z66 ?_;(with_reducible refine (laws_toTable.calls k _ _ l0_0 a0_1 _ _ l0_2 _ _ l0_3 t392 t395 t396 t399 _ ?side1 ?side2 ?side3 ?side4 ?side5 ?side6 A9.out).mono ?_);(case side1 => exact Z41);(case side2 => exact Z118);(case side3 => exact Z43);(case side4 => exact Z119);(case side5 => exact Z42);(case side6 => exact Z120);rintro e w25 ⟨v393,v397,v400,rfl,ho0,ho1,ho2,hb⟩;refine ⟨_,rfl,?_⟩;have n_ := jA (Kd.R_elder' Z78 (Kd.R_base ho0) hb) (jA (Kd.S_mono (Kd.S_told (Kd.S_told (Kd.S_old Z77 hb) (Kd.S_base ho1)) (Kd.R_base ho2)) (fun _ h_ => h_.1)) (jA (Kd.R_elder' Z76 (Kd.R_base ho2) hb) (jA (Kd.R_lower (Kd.R_new' ho0 (Kd.R_lt Z78)) (below_size Z132)) (jA (Kd.S_lower (Kd.S_new' (Kd.S_new' ho1 (Kd.S_lt Z77)) (Kd.R_lt Z76)) (below_size Z132)) (jA (Kd.R_lower (Kd.R_new' ho2 (Kd.R_lt Z76)) (below_size Z132)) (jA (blk_below (g := gb379) (o := .cells #[.slice A0_0 l0_0.length c0_0,.string a0_1,.slice A0_2 l0_2.length c0_2,.slice A0_3 l0_3.length c0_3] 26 (0,0)) Z142 hb) (Aside0.mk (below_step Z132 hb))))))));clear HO383 HO387 HO390 BK379 HB;obtain ⟨HO383,HO387,HO390,HO394,HO398,HO401,BK379,HB⟩ := n_;(try clear hb);(try clear hb2);(try clear hk);(try clear hi);(try clear ho0);(try clear ho1);(try clear ho2)) | ((with_reducible refine gate_dst (N := 5) rfl ?_);refine bE 5 #[.slice none 0 0,.string (⟨#[]⟩ : ByteArray),.slice none 0 0,.slice none 0 0] 29 (h := ?_);intro gb402 hg w26 hbox hb;have n_ := jA (Kd.R_below Z78 hb) (jA (Kd.S_below Z77 hb) (jA (Kd.R_below Z76 hb) (jA (Kd.R_below Z85 hb) (jA (Kd.S_below Z84 hb) (jA (Kd.R_below Z81 hb) (jA (blk_below (g := gb379) (o := .cells #[.slice A0_0 l0_0.length c0_0,.string a0_1,.slice A0_2 l0_2.length c0_2,.slice A0_3 l0_3.length c0_3] 26 (0,0)) Z142 hb) (jA (below_step Z132 hb) (jA (hbox) (jA ((Z35 : w.heap.size ≤ gb402)) (jA ((Z35 : w.heap.size ≤ gb402)) (jA ((by rw [hg];exact Nat.ne_of_lt (blk_lt (g := gb379) (o := .cells #[.slice A0_0 l0_0.length c0_0,.string a0_1,.slice A0_2 l0_2.length c0_2,.slice A0_3 l0_3.length c0_3] 26 (0,0)) Z142) : gb379 ≠ gb402)) (Aside0.mk ((by rw [hg];exact Nat.ne_of_gt (blk_lt (g := gb379) (o := .cells #[.slice A0_0 l0_0.length c0_0,.string a0_1,.slice A0_2 l0_2.length c0_2,.slice A0_3 l0_3.length c0_3] 26 (0,0)) Z142) : gb402 ≠ gb379))))))))))))));clear HO383 HO387 HO390 HO394 HO398 HO401 BK379 HB;obtain ⟨HO383,HO387,HO390,HO394,HO398,HO401,BK379,HB,BK402,GW402,GE402,NB379_402,NB402_379⟩ := n_;clear hb hbox hg;obtain ⟨Ao27,co27,eo27⟩ := Kd.R_slice HO394.out;subst eo27;have hnb28 := NB402_379.out;have hnc28 := NB379_402.out;obtain ⟨hcz29_0,hcz29_1,hcz29_2,hcz29_3,hfz29_0,hfz29_1,hfz29_2,hfz29_3⟩ := cells4 BK402.out;obtain ⟨Ao30,co30,eo30⟩ := Kd.S_slice HO398.out;subst eo30;obtain ⟨Ao31,co31,eo31⟩ := Kd.R_slice HO401.out;subst eo31) | ((with_reducible refine gate_callee (f := 7) rfl ?_);refine goesL_ (some 18) rfl rfl Tryd.func7 Z121 rfl #[.agg #[.slice Ao27 t392.length co27,.string t395,.slice Ao30 t396.length co30,.slice Ao31 t399.length co31]] rfl Z66 ?_;(with_reducible refine (impl_TableText.calls k _ _ t392 t395 _ _ t396 _ _ t399 t403 _ ?side1 ?side2 ?side3 ?side4 ?side5 ?side6 ?side7 A10.out).mono ?_);(case side1 => refine (Kd.R_reads' (e := 9) (base := w.heap.size) (ok := fun k_ => (True ∧ some k_ ≠ (.slice Ao20 t381.length co20 : Value).ownBlock)) (n := t392.length) (c := co27) ?_).2.2;exact Z12);(case side2 => exact (Kd.R_reads' HO394.out).2.1);(case side3 => refine (Kd.S_reads' (e := 24) (base := w.heap.size) (ok := fun k_ => ((some k_ ≠ (.slice Ao31 t399.length co31 : Value).ownBlock ∧ some k_ ≠ (.slice Ao21 t385.length co21 : Value).ownBlock) ∧ some k_ ≠ (.slice Ao22 t388.length co22 : Value).ownBlock)) (n := t396.length) (c := co30) ?_).2.2;exact Z10);(case side4 => exact (Kd.S_reads' HO398.out).2.1);(case side5 => refine (Kd.R_reads' (e := 3) (base := w.heap.size) (ok := fun k_ => (True ∧ some k_ ≠ (.slice Ao22 t388.length co22 : Value).ownBlock)) (n := t399.length) (c := co31) ?_).2.2;exact Z11);(case side6 => exact (Kd.R_reads' HO401.out).2.1);(case side7 => exact GT_below HG.out Z34);rintro e w32 ⟨rfl,hb⟩;refine ⟨_,rfl,?_⟩;have n_ := jA (Kd.R_below (by (with_reducible repeat (first | apply Kd.R_alloc | apply Kd.R_drewN | apply Kd.R_drew));exact (Kd.R_mono (Kd.R_far (p := ⟨gb402,3,none⟩) (Kd.R_far (p := ⟨gb402,2,none⟩) (Kd.R_far (p := ⟨gb402,1,none⟩) (Kd.R_far (p := ⟨gb402,0,none⟩) (Kd.R_types HO383.out BK402.out Z145) (fun _ hk => hk.2) (.slice Ao27 t392.length co27)) (fun _ hk => hk.2) (.string t395)) (fun _ hk => hk.2) (.slice Ao30 t396.length co30)) (fun _ hk => hk.2) (.slice Ao31 t399.length co31)) (fun _ h_ => h_.1))) hb) (jA (Kd.S_below (by (with_reducible repeat (first | apply Kd.S_alloc | apply Kd.S_drewN | apply Kd.S_drew));exact (Kd.S_mono (Kd.S_far (p := ⟨gb402,3,none⟩) (Kd.S_far (p := ⟨gb402,2,none⟩) (Kd.S_far (p := ⟨gb402,1,none⟩) (Kd.S_far (p := ⟨gb402,0,none⟩) (Kd.S_types HO387.out BK402.out Z145) (fun _ hk => hk.2) (.slice Ao27 t392.length co27)) (fun _ hk => hk.2) (.string t395)) (fun _ hk => hk.2) (.slice Ao30 t396.length co30)) (fun _ hk => hk.2) (.slice Ao31 t399.length co31)) (fun _ h_ => h_.1))) hb) (jA (Kd.R_below (by (with_reducible repeat (first | apply Kd.R_alloc | apply Kd.R_drewN | apply Kd.R_drew));exact (Kd.R_mono (Kd.R_far (p := ⟨gb402,3,none⟩) (Kd.R_far (p := ⟨gb402,2,none⟩) (Kd.R_far (p := ⟨gb402,1,none⟩) (Kd.R_far (p := ⟨gb402,0,none⟩) (Kd.R_types HO390.out BK402.out Z145) (fun _ hk => hk.2) (.slice Ao27 t392.length co27)) (fun _ hk => hk.2) (.string t395)) (fun _ hk => hk.2) (.slice Ao30 t396.length co30)) (fun _ hk => hk.2) (.slice Ao31 t399.length co31)) (fun _ h_ => h_.1))) hb) (jA (Kd.R_below Z12 hb) (jA (Kd.S_below Z10 hb) (jA (Kd.R_below Z11 hb) (jA (blk_below (g := gb379) (o := .cells #[.slice A0_0 l0_0.length c0_0,.string a0_1,.slice A0_2 l0_2.length c0_2,.slice A0_3 l0_3.length c0_3] 26 (0,0)) (by refine bP ?_;refine blk_far ?_ NB379_402.out _;refine bP ?_;refine blk_far ?_ NB379_402.out _;refine bP ?_;refine blk_far ?_ NB379_402.out _;refine bP ?_;refine blk_far ?_ NB379_402.out _;refine bP ?_;exact BK379.out) hb) (jA (blk_below (g := gb402) (o := .cells #[.slice Ao27 t392.length co27,.string t395,.slice Ao30 t396.length co30,.slice Ao31 t399.length co31] 29 (0,0)) (by refine bP ?_;refine blk_put (cs := #[.slice Ao27 t392.length co27,.string t395,.slice Ao30 t396.length co30,.slice none 0 0]) ?_ 3 _ rfl;refine bP ?_;refine blk_put (cs := #[.slice Ao27 t392.length co27,.string t395,.slice none 0 0,.slice none 0 0]) ?_ 2 _ rfl;refine bP ?_;refine blk_put (cs := #[.slice Ao27 t392.length co27,.string (⟨#[]⟩ : ByteArray),.slice none 0 0,.slice none 0 0]) ?_ 1 _ rfl;refine bP ?_;refine blk_put (cs := #[.slice none 0 0,.string (⟨#[]⟩ : ByteArray),.slice none 0 0,.slice none 0 0]) ?_ 0 _ rfl;refine bP ?_;exact BK402.out) hb) (Aside0.mk (below_step Z34 hb)))))))));clear HO383 HO387 HO390 HO394 HO398 HO401 BK379 BK402 HB;obtain ⟨HO383,HO387,HO390,HO394,HO398,HO401,BK379,BK402,HB⟩ := n_;(try clear hb);(try clear hb2);(try clear hk);(try clear hi)))
 have n_ := jA (Kd.R_drew HO383.out) (jA (Kd.S_drew HO387.out) (jA (Kd.R_drew HO390.out) (jA (Kd.R_drew HO394.out) (jA (Kd.S_drew HO398.out) (jA (Kd.R_drew HO401.out) (jA (blk_drew BK379.out) (jA (blk_drew BK402.out) (Aside0.mk (below_drew1 HB.out)))))))))
 clear HO383 HO387 HO390 HO394 HO398 HO401 BK379 BK402 HB
 obtain ⟨HO383,HO387,HO390,HO394,HO398,HO401,BK379,BK402,HB⟩ := n_
 refine start_ (n := 5) (S := fun w' => w'.cell? ⟨gb402,0,none⟩ = some (.slice Ao27 t392.length co27) ∧ w'.cell? ⟨gb402,1,none⟩ = some (.string t395) ∧ w'.cell? ⟨gb402,2,none⟩ = some (.slice Ao30 t396.length co30) ∧ w'.cell? ⟨gb402,3,none⟩ = some (.slice Ao31 t399.length co31) ∧ w'.cell? ⟨gb379,0,none⟩ = some (.slice A0_0 l0_0.length c0_0) ∧ w'.cell? ⟨gb379,1,none⟩ = some (.string a0_1) ∧ w'.cell? ⟨gb379,2,none⟩ = some (.slice A0_2 l0_2.length c0_2) ∧ w'.cell? ⟨gb379,3,none⟩ = some (.slice A0_3 l0_3.length c0_3)) (ds := []) (qM 5 0) Z121 rfl (by kernel_rfl) ⟨bc BK402 0,bc BK402 1,bc BK402 2,bc BK402 3,bc BK379 0,bc BK379 1,bc BK379 2,bc BK379 3⟩ (fun hHeld => ?_)
 generalize w32.drew = w33 at HO383 HO387 HO390 HO394 HO398 HO401 BK379 BK402 HB hHeld ⊢
 refine sT8 0 22 5 1 hHeld (h := ?_)
 refine sT8 1 23 5 3 hHeld (h := ?_)
 refine sO 2 24 5 7 (h := fun K hK => ?_)
 refine goes_ Tryd.func6 Z121 rfl #[.agg #[.slice A0_0 l0_0.length c0_0,.string a0_1,.slice A0_2 l0_2.length c0_2,.slice A0_3 l0_3.length c0_3]] Z123 rfl rfl Z66 ?_
 with_reducible refine (laws_toTable.calls k _ _ l0_0 a0_1 _ _ l0_2 _ _ l0_3 t404 t407 t408 t411 _ ?side1 ?side2 ?side3 ?side4 ?side5 ?side6 A12.out).mono ?_
 (case side1 => exact Z41)
 (case side2 => exact Z118)
 (case side3 => exact Z43)
 (case side4 => exact Z119)
 (case side5 => exact Z42)
 (case side6 => exact Z120)
 rintro e w34 ⟨v405,v409,v412,rfl,ho0,ho1,ho2,hb⟩
 refine ⟨_,rfl,?_⟩
 have n_ := jA (Kd.R_elder' Z78 (Kd.R_base ho0) hb) (jA (Kd.S_mono (Kd.S_told (Kd.S_told (Kd.S_old Z77 hb) (Kd.S_base ho1)) (Kd.R_base ho2)) (fun _ h_ => h_.1)) (jA (Kd.R_elder' Z76 (Kd.R_base ho2) hb) (jA (Kd.R_elder' Z85 (Kd.R_base ho0) hb) (jA (Kd.S_mono (Kd.S_told (Kd.S_told (Kd.S_old Z84 hb) (Kd.S_base ho1)) (Kd.R_base ho2)) (fun _ h_ => h_.1)) (jA (Kd.R_elder' Z81 (Kd.R_base ho2) hb) (jA (Kd.R_lower (Kd.R_new' (Kd.R_new' ho0 (Kd.R_lt Z78)) (Kd.R_lt Z85)) (below_size Z34)) (jA (Kd.S_lower (Kd.S_new' (Kd.S_new' (Kd.S_new' (Kd.S_new' ho1 (Kd.S_lt Z77)) (Kd.R_lt Z76)) (Kd.S_lt Z84)) (Kd.R_lt Z81)) (below_size Z34)) (jA (Kd.R_lower (Kd.R_new' (Kd.R_new' ho2 (Kd.R_lt Z76)) (Kd.R_lt Z81)) (below_size Z34)) (jA (blk_below (g := gb379) (o := .cells #[.slice A0_0 l0_0.length c0_0,.string a0_1,.slice A0_2 l0_2.length c0_2,.slice A0_3 l0_3.length c0_3] 26 (0,0)) Z142 hb) (jA (blk_below (g := gb402) (o := .cells #[.slice Ao27 t392.length co27,.string t395,.slice Ao30 t396.length co30,.slice Ao31 t399.length co31] 29 (0,0)) (by refine bP ?_;exact BK402.out) hb) (Aside0.mk (below_step Z34 hb))))))))))))
 clear HO383 HO387 HO390 HO394 HO398 HO401 BK379 BK402 HB
 obtain ⟨HO383,HO387,HO390,HO394,HO398,HO401,HO406,HO410,HO413,BK379,BK402,HB⟩ := n_
 (try clear hb)
 (try clear hb2)
 (try clear hk)
 (try clear hi)
 (try clear ho0)
 (try clear ho1)
 (try clear ho2)
 obtain ⟨Ao35,co35,eo35⟩ := Kd.R_slice HO406.out
 (first | subst eo35 | (injection eo35 with f1_ f2_ f3_;have f4_ := f1_.symm;have f5_ := f3_.symm;clear f1_ f2_ f3_;subst f4_;subst f5_))
 obtain ⟨Ao36,co36,eo36⟩ := Kd.S_slice HO410.out
 (first | subst eo36 | (injection eo36 with f1_ f2_ f3_;have f4_ := f1_.symm;have f5_ := f3_.symm;clear f1_ f2_ f3_;subst f4_;subst f5_))
 obtain ⟨Ao37,co37,eo37⟩ := Kd.R_slice HO413.out
 (first | subst eo37 | (injection eo37 with f1_ f2_ f3_;have f4_ := f1_.symm;have f5_ := f3_.symm;clear f1_ f2_ f3_;subst f4_;subst f5_))
 refine hK.out _ _ ⟨bc BK402 0,bc BK402 1,bc BK402 2,bc BK402 3,bc BK379 0,bc BK379 1,bc BK379 2,bc BK379 3⟩ (fun hHeld => ?_)
 clear hK K
 refine rN (h := ?_)
 refine sO 3 25 5 15 (h := fun K hK => ?_)
 refine goes_ Tryd.func8 Z121 rfl #[.agg #[.slice Ao27 t392.length co27,.string t395,.slice Ao30 t396.length co30,.slice Ao31 t399.length co31],.agg #[.slice Ao35 t404.length co35,.string t407,.slice Ao36 t408.length co36,.slice Ao37 t411.length co37]] Z123 rfl rfl Z66 ?_
 with_reducible refine (laws_eqTable.calls k _ _ t392 t395 _ _ t396 _ _ t399 _ _ t404 t407 _ _ t408 _ _ t411 true _ ?side1 ?side2 ?side3 ?side4 ?side5 ?side6 ?side7 ?side8 ?side9 ?side10 ?side11 ?side12 A13.out).mono ?_
 (case side1 => repeat (first | exact (Kd.R_reads' HO394.out).2.2 | (with_reducible refine Kd.C_alloc ?_ _) | (with_reducible refine Kd.C_drewN ?_ _) | (with_reducible refine Kd.C_drew ?_)))
 (case side2 => exact (Kd.R_reads' HO394.out).2.1)
 (case side3 => repeat (first | exact (Kd.S_reads' HO398.out).2.2 | (with_reducible refine Kd.C_alloc ?_ _) | (with_reducible refine Kd.C_drewN ?_ _) | (with_reducible refine Kd.C_drew ?_)))
 (case side4 => exact (Kd.S_reads' HO398.out).2.1)
 (case side5 => repeat (first | exact (Kd.R_reads' HO401.out).2.2 | (with_reducible refine Kd.C_alloc ?_ _) | (with_reducible refine Kd.C_drewN ?_ _) | (with_reducible refine Kd.C_drew ?_)))
 (case side6 => exact (Kd.R_reads' HO401.out).2.1)
 (case side7 => repeat (first | exact (Kd.R_reads' HO406.out).2.2 | (with_reducible refine Kd.C_alloc ?_ _) | (with_reducible refine Kd.C_drewN ?_ _) | (with_reducible refine Kd.C_drew ?_)))
 (case side8 => exact (Kd.R_reads' HO406.out).2.1)
 (case side9 => repeat (first | exact (Kd.S_reads' HO410.out).2.2 | (with_reducible refine Kd.C_alloc ?_ _) | (with_reducible refine Kd.C_drewN ?_ _) | (with_reducible refine Kd.C_drew ?_)))
 (case side10 => exact (Kd.S_reads' HO410.out).2.1)
 (case side11 => repeat (first | exact (Kd.R_reads' HO413.out).2.2 | (with_reducible refine Kd.C_alloc ?_ _) | (with_reducible refine Kd.C_drewN ?_ _) | (with_reducible refine Kd.C_drew ?_)))
 (case side12 => exact (Kd.R_reads' HO413.out).2.1)
 rintro e w38 ⟨rfl,hb⟩
 refine ⟨_,rfl,?_⟩
 have n_ := jA (Kd.R_below Z78 hb) (jA (Kd.S_below Z77 hb) (jA (Kd.R_below Z76 hb) (jA (Kd.R_below Z85 hb) (jA (Kd.S_below Z84 hb) (jA (Kd.R_below Z81 hb) (jA (Kd.R_below (by (with_reducible repeat (first | apply Kd.R_alloc | apply Kd.R_drewN | apply Kd.R_drew));exact HO406.out) hb) (jA (Kd.S_below (by (with_reducible repeat (first | apply Kd.S_alloc | apply Kd.S_drewN | apply Kd.S_drew));exact HO410.out) hb) (jA (Kd.R_below (by (with_reducible repeat (first | apply Kd.R_alloc | apply Kd.R_drewN | apply Kd.R_drew));exact HO413.out) hb) (jA (blk_below (g := gb379) (o := .cells #[.slice A0_0 l0_0.length c0_0,.string a0_1,.slice A0_2 l0_2.length c0_2,.slice A0_3 l0_3.length c0_3] 26 (0,0)) Z142 hb) (jA (blk_below (g := gb402) (o := .cells #[.slice Ao27 t392.length co27,.string t395,.slice Ao30 t396.length co30,.slice Ao31 t399.length co31] 29 (0,0)) (by refine bP ?_;exact BK402.out) hb) (Aside0.mk (below_step Z34 hb))))))))))))
 clear HO383 HO387 HO390 HO394 HO398 HO401 HO406 HO410 HO413 BK379 BK402 HB
 obtain ⟨HO383,HO387,HO390,HO394,HO398,HO401,HO406,HO410,HO413,BK379,BK402,HB⟩ := n_
 (try clear hb)
 (try clear hb2)
 (try clear hk)
 (try clear hi)
 refine hK.out _ _ ⟨bc BK402 0,bc BK402 1,bc BK402 2,bc BK402 3,bc BK379 0,bc BK379 1,bc BK379 2,bc BK379 3⟩ (fun hHeld => ?_)
 clear hK K
 refine rN (h := ?_)
 refine sP 4 26 5 31 (h := ?_)
 refine done_ Z121 ?_
 try go_wp2
 go_ret
 exact ⟨Z98,Z34⟩

end Go.Proofs.YtepnbcdbagjmbabDoor.QFnExactTableText
