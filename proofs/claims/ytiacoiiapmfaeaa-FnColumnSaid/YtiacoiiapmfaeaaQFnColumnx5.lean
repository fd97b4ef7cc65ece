/- The machine side of FnColumn: what each Go function that it reaches comes to. Conditions: none. -/
import Derived.Test.YtiacoiiapmfaeaaQFnColumnx0
import Derived.Test.YtiacoiiapmfaeaaQFnColumnx1
import Derived.Test.YtiacoiiapmfaeaaQFnColumnx4
namespace Go.Proofs.Ytiacoiiapmfaeaa.QFnColumn
open Go.RowKit Go.Proofs.YtiacoiiapmfaeaaW.PrintWords Go.Proofs.YtiacoiiapmfaeaaW.PrintLast Go.Proofs.YtiacoiiapmfaeaaW.PrintMore
attribute [local go_sem] max2_int min2_int max_two min_two max_three min_three max_four min_four   -- for this text's walks alone
set_option linter.unusedVariables false
set_option linter.unusedSimpArgs false

/-! ### spec_DrawColumn: function 14 -/
def spec_DrawColumn.f (k : Nat) (l0 : List Int) : Option (List ByteArray × ByteArray × (List (List Int)) × List Int × Int) := (spec_l1New.f k l0).bind fun bt310 => ((spec_l9Bent.f k bt310.1 bt310.2.1 bt310.2.2).bind fun bt314 => ((spec_l1PickInt.f bt310.1 bt314.2.2.2.2.1 bt314.2.2.2.2.2 (([0,1,2,3,(-1),9223372036854775807] : List Int))).bind fun bt329 => (some (bt314.1,bt314.2.1,bt314.2.2.1,bt314.2.2.2.1,bt329.1))))
theorem spec_DrawColumn.mono : ∀ a0 k,LeO (spec_DrawColumn.f k a0) (spec_DrawColumn.f (k + 1) a0) := by
 intro a0 k
 unfold spec_DrawColumn.f
 repeat' first
   | (with_reducible exact spec_l1New.mono _ _)
   | (with_reducible exact spec_l9Bent.mono _ _ _ _)
   | (with_reducible exact LeO.refl _)
   | (with_reducible exact LeO.none _)
   | (with_reducible refine LeO.ite ?_ ?_)
   | (with_reducible refine LeO.bind ?_ (fun _ => ?_))
   | exact spec_l1New.mono _ _
   | exact spec_l9Bent.mono _ _ _ _
   | exact LeO.none _
   | refine LeO.ite ?_ ?_
   | refine LeO.bind ?_ (fun _ => ?_)
set_option maxHeartbeats 8000000 in
set_option maxRecDepth 100000 in
theorem spec_DrawColumn.calls (k : Nat) (A0 : Option Addr) (c0 : Nat) (l0 : List Int) (r1 : List ByteArray) (r2 : ByteArray) (r3 : List (List Int)) (r4 : List Int) (r5 : Int) (w : World) (hr0 : Kd.C (Kd.int .u8) w A0 l0.length l0) (hc0 : l0.length ≤ c0) (h : spec_DrawColumn.f k l0 = some (r1,r2,r3,r4,r5)) :
  Calls Try.prog 14 #[.slice A0 l0.length c0] w fun e w' => ∃ v0_ v2_ v3_ : Value,e = .returned (.tuple #[.agg #[v0_,.string r2,v2_,v3_],.int .i64 r5]) ∧ Kd.R Kd.string 9 w' w.heap.size (fun _ => True) v0_ r1 ∧ Kd.S (Kd.slice 3 (Kd.int .i64)) 34 w' w.heap.size (fun k_ => some k_ ≠ (v3_ : Value).ownBlock) v2_ r3 ∧ Kd.R (Kd.int .i64) 3 w' w.heap.size (fun _ => True) v3_ r4 ∧ Below w.heap.size w w' := by
 have hu36 := Try.underlying36
 have HR0 := Aside0.mk hr0
 have HC0 := Aside0.mk hc0
 clear hr0 hc0
 have HB := Aside0.mk (Below.refl w.heap.size w)
 have H := h
 clear h
 unfold spec_DrawColumn.f at H
 obtain ⟨⟨t310,t311,t312⟩,A20,H⟩ := Option.bind_eq_some_iff.mp H
 try dsimp only at H
 have A2 := Aside0.mk A20
 clear A20
 obtain ⟨⟨t314,t317,t318,t321,t324,t325⟩,A30,H⟩ := Option.bind_eq_some_iff.mp H
 try dsimp only at H
 have A3 := Aside0.mk A30
 clear A30
 obtain ⟨y326,hy326⟩ : ∃ y_ : List Int,y_ = (([0,1,2,3,(-1),9223372036854775807] : List Int)) := ⟨_,rfl⟩
 replace H : ((spec_l1PickInt.f t310 t324 t325 y326).bind fun bt329 => (some (t314,t317,t318,t321,bt329.1))) = some (r1,r2,r3,r4,r5) := by first | (rw [hy326];with_reducible exact H) | (have H2_ := (Option.bind_some _ _).symm.trans H;rw [hy326];with_reducible exact H2_) | (have H2_ := (Option.bind_some _ _).symm.trans H;with_reducible exact H2_) | with_reducible exact H | (rw [hy326];exact H) | exact H
 have Ny326 := Aside0.mk hy326
 clear hy326
 obtain ⟨⟨t329,t330,t331⟩,A40,H⟩ := Option.bind_eq_some_iff.mp H
 try dsimp only at H
 have A4 := Aside0.mk A40
 clear A40
 simp only [Option.some.injEq,Prod.mk.injEq] at H
 obtain ⟨rfl,rfl,rfl,rfl,rfl⟩ := H
 go_enter Try.func14,Try.ntmps14
 go_wp2_with (first | ((with_reducible refine gate_dst (N := 2) rfl ?_);refine bE 2 #[.slice none 0 0,.string (⟨#[]⟩ : ByteArray),.slice none 0 0,.slice none 0 0] 36 (h := ?_);intro gb309 hg wq1 hbox hb;have n_ := jA (below_step Z153 hb) (jA (hbox) (jA ((Z124 : w.heap.size ≤ gb309)) (Aside0.mk ((Z124 : w.heap.size ≤ gb309)))));clear HB;obtain ⟨HB,BK309,GW309,GE309⟩ := n_;clear hb hbox hg) | ((with_reducible refine gate_callee (f := 47) rfl ?_);refine goesL_ (some 6) rfl rfl Try.func47 Z102 rfl #[.slice A0 l0.length c0] rfl Z60 ?_;(with_reducible refine (spec_l1New.calls k _ _ l0 t310 t311 t312 w _ ?side1 ?side2 ?side3 A2.out).mono ?_);(case side1 => repeat (first | (with_reducible first | exact HB.out | apply below_alloc | apply pw_below_drewN | apply below_drew1 | refine below_set ?_ GE309.out) | exact HB.out));(case side2 => exact HR0.out);(case side3 => exact HC0.out);rintro e wq2 ⟨gq3,rfl,hi,hb,hbq4⟩;refine ⟨_,rfl,?_⟩;have n_ := jA (blk_below (g := gb309) (o := .cells #[.slice none 0 0,.string (⟨#[]⟩ : ByteArray),.slice none 0 0,.slice none 0 0] 36 (0,0)) Z97 hbq4) (jA (hb) (jA (hi) (jA (IsS100.ne_blk hi (blk_below (g := gb309) (o := .cells #[.slice none 0 0,.string (⟨#[]⟩ : ByteArray),.slice none 0 0,.slice none 0 0] 36 (0,0)) Z97 hbq4) Z154) (Aside0.mk (Ne.symm (IsS100.ne_blk hi (blk_below (g := gb309) (o := .cells #[.slice none 0 0,.string (⟨#[]⟩ : ByteArray),.slice none 0 0,.slice none 0 0] 36 (0,0)) Z97 hbq4) Z154))))));clear BK309 HB;obtain ⟨BK309,HB,HI313,NB313_309,NB309_313⟩ := n_;(try clear hb);(try clear hbq4);(try clear hk);(try clear hi)) | ((with_reducible refine gate_callee (f := 48) rfl ?_);refine goesL_ (some 8) rfl rfl Try.func48 Z102 rfl #[.pointer (some ⟨gq3,0,none⟩)] rfl Z60 ?_;(with_reducible refine (spec_l9Bent.calls k gq3 t310 t311 t312 t314 t317 t318 t321 t324 t325 w _ ?side1 ?side2 A3.out).mono ?_);(case side1 => exact Z32);(case side2 => exact Z35);rintro e wq5 ⟨vq6,vq7,vq8,rfl,hoq9,hoq10,hoq4,hi,hb,hk⟩;refine ⟨_,rfl,?_⟩;have n_ := jA (KeepBut.blk hk (g' := gb309) (o := .cells #[.slice none 0 0,.string (⟨#[]⟩ : ByteArray),.slice none 0 0,.slice none 0 0] 36 (0,0)) Z97 NB309_313.out Z150) (jA (Kd.R_lower hoq9 (below_size Z35)) (jA (Kd.S_lower hoq10 (below_size Z35)) (jA (Kd.R_lower hoq4 (below_size Z35)) (jA (hb) (Aside0.mk (hi))))));clear BK309 HB HI313;obtain ⟨BK309,HO316,HO320,HO323,HB,HI313⟩ := n_;(try clear hb);(try clear hbq4);(try clear hk);(try clear hi);(try clear hoq9);(try clear hoq10);(try clear hoq4)) | ((with_reducible refine gate_dst (N := 10) rfl ?_);refine Kd.R_lit (Kd.int .i64) _ 3 ?hg (N := 10) ?hd (xs := ([0,1,2,3,(-1),9223372036854775807] : List Int)) (inner := [.int .i64 0,.int .i64 1,.int .i64 2,.int .i64 3,.int .i64 (-1),.int .i64 9223372036854775807]) (ok := fun _ => True) (okp := fun _ => True) ?hr ?hp (fun _ hk => hk) trivial (Below.refl _ _) (Nat.le_refl _) Z150 ?_;(case hd => rfl);(case hg => rfl);(case hr => exact Z87);(case hp => exact (Reps.one (show Kd.M (Kd.int .i64) _ _ _ 0 [.int .i64 0] from rfl) (Reps.one (show Kd.M (Kd.int .i64) _ _ _ 1 [.int .i64 1] from rfl) (Reps.one (show Kd.M (Kd.int .i64) _ _ _ 2 [.int .i64 2] from rfl) (Reps.one (show Kd.M (Kd.int .i64) _ _ _ 3 [.int .i64 3] from rfl) (Reps.one (show Kd.M (Kd.int .i64) _ _ _ (-1) [.int .i64 (-1)] from rfl) (Reps.one (show Kd.M (Kd.int .i64) _ _ _ 9223372036854775807 [.int .i64 9223372036854775807] from rfl) (Reps.none _ _))))))));intro vq11 wq12 hoq13 hb hg_ hnew_;clear hg_ hnew_;(first | rw [← Ny326.out] at hoq13 | (simp only [Int.reduceToNat] at hoq13;rw [← Ny326.out] at hoq13));have n_ := jA (Kd.R_below Z74 hb) (jA (Kd.S_elder' Z73 (Kd.R_base hoq13) hb) (jA (Kd.R_elder' Z71 (Kd.R_base hoq13) hb) (jA (Kd.R_lower (Kd.R_new' hoq13 (Kd.R_lt Z71)) (below_size Z35)) (jA (blk_below (g := gb309) (o := .cells #[.slice none 0 0,.string (⟨#[]⟩ : ByteArray),.slice none 0 0,.slice none 0 0] 36 (0,0)) Z97 hb) (jA (IsS100.below Z32 hb) (Aside0.mk (below_step Z35 hb)))))));clear HO316 HO320 HO323 BK309 HI313 HB;obtain ⟨HO316,HO320,HO323,HO328,BK309,HI313,HB⟩ := n_;clear hb hoq13;obtain ⟨Aoq14,coq14,eoq14⟩ := Kd.R_slice HO328.out;subst eoq14) | ((with_reducible refine gate_callee (f := 49) rfl ?_);refine goesL_ (some 11) rfl rfl Try.func49 Z102 rfl #[.pointer (some ⟨gq3,0,none⟩),.slice Aoq14 y326.length coq14] rfl Z60 ?_;(with_reducible refine (spec_l1PickInt.calls gq3 t310 t324 t325 _ _ y326 t329 t330 t331 w _ ?side1 ?side2 ?side3 ?side4 ?side5 A4.out).mono ?_);(case side1 => exact Z32);(case side2 => exact Z35);(case side3 => repeat (first | exact (Kd.R_reads' HO328.out).2.2 | (with_reducible refine Kd.C_alloc ?_ _) | (with_reducible refine Kd.C_drewN ?_ _) | (with_reducible refine Kd.C_drew ?_)));(case side4 => exact (Kd.R_reads' HO328.out).2.1);(case side5 => exact far_slice (IsS100.own_ne HI313.out HO328.out Z154));rintro e wq15 ⟨rfl,hi,hb,hk⟩;refine ⟨_,rfl,?_⟩;have n_ := jA (KeepBut.blk hk (g' := gb309) (o := .cells #[.slice none 0 0,.string (⟨#[]⟩ : ByteArray),.slice none 0 0,.slice none 0 0] 36 (0,0)) Z97 NB309_313.out Z150) (jA (Kd.R_mono (Kd.R_keep (IsS100.apart (show IsS100 w _ gq3 t310 t324 t325 from Z32) Z74 Z154) hk (fun _ h => h.2)) (fun _ h => h.1)) (jA (Kd.S_mono (Kd.S_keep (IsS100.apartS (show IsS100 w _ gq3 t310 t324 t325 from Z32) Z73 Z154) hk (fun _ h => h.2)) (fun _ h => h.1)) (jA (Kd.R_mono (Kd.R_keep (IsS100.apart (show IsS100 w _ gq3 t310 t324 t325 from Z32) Z71 Z154) hk (fun _ h => h.2)) (fun _ h => h.1)) (jA (Kd.R_mono (Kd.R_keep (IsS100.apart (show IsS100 w _ gq3 t310 t324 t325 from Z32) (by (with_reducible repeat (first | apply Kd.R_alloc | apply Kd.R_drewN | apply Kd.R_drew));exact HO328.out) Z154) hk (fun _ h => h.2)) (fun _ h => h.1)) (jA (hb) (Aside0.mk (hi)))))));clear BK309 HO316 HO320 HO323 HO328 HB HI313;obtain ⟨BK309,HO316,HO320,HO323,HO328,HB,HI313⟩ := n_;(try clear hb);(try clear hbq4);(try clear hk);(try clear hi);obtain ⟨Aoq16,coq16,eoq16⟩ := Kd.R_slice HO316.out;subst eoq16;have hnbq17 := NB309_313.out;have hncq17 := NB313_309.out;obtain ⟨hczq18_0,hczq18_1,hczq18_2,hczq18_3,hfzq18_0,hfzq18_1,hfzq18_2,hfzq18_3⟩ := cells4 BK309.out;obtain ⟨Aoq19,coq19,eoq19⟩ := Kd.S_slice HO320.out;subst eoq19;obtain ⟨Aoq20,coq20,eoq20⟩ := Kd.R_slice HO323.out;subst eoq20))
 refine bodyPost_ret (results_ct rfl _ _ gb309 36 #[.slice Aoq16 t314.length coq16,.string t317,.slice Aoq19 t318.length coq19,.slice Aoq20 t321.length coq20] (0,0) _ rfl (by refine bP ?_;refine blk_put (cs := #[.slice Aoq16 t314.length coq16,.string t317,.slice Aoq19 t318.length coq19,.slice none 0 0]) ?_ 3 _ rfl;refine bP ?_;refine blk_put (cs := #[.slice Aoq16 t314.length coq16,.string t317,.slice none 0 0,.slice none 0 0]) ?_ 2 _ rfl;refine bP ?_;refine blk_put (cs := #[.slice Aoq16 t314.length coq16,.string (⟨#[]⟩ : ByteArray),.slice none 0 0,.slice none 0 0]) ?_ 1 _ rfl;refine bP ?_;refine blk_put (cs := #[.slice none 0 0,.string (⟨#[]⟩ : ByteArray),.slice none 0 0,.slice none 0 0]) ?_ 0 _ rfl;refine bP ?_;exact BK309.out) Try.underlying36 rfl Z102) rfl ?_
 exact ⟨_,_,_,Z77,by (with_reducible repeat (first | apply Kd.R_alloc | apply Kd.R_drewN | apply Kd.R_drew));exact Kd.R_mono (Kd.R_far (p := ⟨gb309,3,none⟩) (Kd.R_far (p := ⟨gb309,2,none⟩) (Kd.R_far (p := ⟨gb309,1,none⟩) (Kd.R_far (p := ⟨gb309,0,none⟩) (Kd.R_types HO316.out BK309.out Z154) (fun _ hk => hk.2) (.slice Aoq16 t314.length coq16)) (fun _ hk => hk.2) (.string t317)) (fun _ hk => hk.2) (.slice Aoq19 t318.length coq19)) (fun _ hk => hk.2) (.slice Aoq20 t321.length coq20)) (fun _ hk => trivial),by (with_reducible repeat (first | apply Kd.S_alloc | apply Kd.S_drewN | apply Kd.S_drew));exact Kd.S_mono (Kd.S_far (p := ⟨gb309,3,none⟩) (Kd.S_far (p := ⟨gb309,2,none⟩) (Kd.S_far (p := ⟨gb309,1,none⟩) (Kd.S_far (p := ⟨gb309,0,none⟩) (Kd.S_types HO320.out BK309.out Z154) (fun _ hk => hk.2) (.slice Aoq16 t314.length coq16)) (fun _ hk => hk.2) (.string t317)) (fun _ hk => hk.2) (.slice Aoq19 t318.length coq19)) (fun _ hk => hk.2) (.slice Aoq20 t321.length coq20)) (fun _ hk => hk.1.1),by (with_reducible repeat (first | apply Kd.R_alloc | apply Kd.R_drewN | apply Kd.R_drew));exact Kd.R_mono (Kd.R_far (p := ⟨gb309,3,none⟩) (Kd.R_far (p := ⟨gb309,2,none⟩) (Kd.R_far (p := ⟨gb309,1,none⟩) (Kd.R_far (p := ⟨gb309,0,none⟩) (Kd.R_types HO323.out BK309.out Z154) (fun _ hk => hk.2) (.slice Aoq16 t314.length coq16)) (fun _ hk => hk.2) (.string t317)) (fun _ hk => hk.2) (.slice Aoq19 t318.length coq19)) (fun _ hk => hk.2) (.slice Aoq20 t321.length coq20)) (fun _ hk => trivial),Z35⟩

/-! ### impl_within: function 41 -/
def impl_within.f (a0 : Int) (a1 : Int) (a2 : Int) : Option (Bool) := if a0 ≥ a1 then (some (decide (a0 ≤ a2))) else (some false)
set_option maxHeartbeats 8000000 in
set_option maxRecDepth 100000 in
theorem impl_within.calls (a0 : Int) (a1 : Int) (a2 : Int) (r : Bool) (w : World) (h : impl_within.f a0 a1 a2 = some r) :
  Calls Try.prog 41 #[.int .i64 a0,.int .i64 a1,.int .i64 a2] w fun e w' => e = .returned (.bool r) ∧ Drawn0 w w' := by
 have H := h
 clear h
 unfold impl_within.f at H
 by_cases c4 : a0 ≥ a1
 ·rw [if_pos c4] at H
  have c4b0 : decide (a1 ≤ a0) = true := decide_eq_true c4
  clear c4
  obtain rfl := Option.some.inj H
  go_enter Try.func41,Try.ntmps41
  go_wp2
  go_ret
  exact ⟨Z86,Z82⟩
 ·rw [if_neg c4] at H
  have c4b0 : decide (a1 ≤ a0) = false := decide_eq_false c4
  clear c4
  obtain rfl := Option.some.inj H
  go_enter Try.func41,Try.ntmps41
  go_wp2
  go_ret
  exact ⟨Z86,Z82⟩

/-! ### impl_Column: function 15 -/
def impl_Column.l0 : Nat → Int → List Int → List (List Int) → Int → Int → Option (List Int)
 | 0,_,_,_,_,_ => none
 | k + 1,x1,x5,x19,x20,x21 => if x21 < x20 then (if 0 ≤ x21 then (if x21 < (x19.length : Int) then (if x1 < ((rd_L3 x19 x21).length : Int) then (if 0 ≤ x1 then (if x5.length < 17592186044416 then (impl_Column.l0 k x1 (x5 ++ [rd (rd_L3 x19 x21) x1]) x19 x20 (wrap64 (x21 + 1))) else (none)) else (none)) else (if x5.length < 17592186044416 then (impl_Column.l0 k x1 (x5 ++ [0]) x19 x20 (wrap64 (x21 + 1))) else (none))) else (none)) else (none)) else (some x5)
def impl_Column.f (k : Nat) (l0_0 : List ByteArray) (a0_1 : ByteArray) (l0_2 : List (List Int)) (l0_3 : List Int) (a1 : Int) : Option (List Int) := (some (([] : List Int) : List Int)).bind fun y333 => ((impl_within.f a1 0 (wrap64 ((l0_0.length : Int) - 1))).bind fun t336 => (if t336 = true then (impl_Column.l0 k a1 y333 l0_2 (l0_2.length : Int) 0) else (some y333)))
theorem impl_Column.mono_l : ∀ k,(∀ y0 y1 y2 y3 y4,LeO (impl_Column.l0 k y0 y1 y2 y3 y4) (impl_Column.l0 (k + 1) y0 y1 y2 y3 y4))
 | 0 => fun _ _ _ _ _ r h => by simp [impl_Column.l0] at h
 | k + 1 => by
  have ih0 := impl_Column.mono_l k
  ·intro y0 y1 y2 y3 y4
   unfold impl_Column.l0
   repeat' first
   | (with_reducible exact ih0 _ _ _ _ _)
   | (with_reducible exact LeO.refl _)
   | (with_reducible exact LeO.none _)
   | (with_reducible refine LeO.ite ?_ ?_)
   | (with_reducible refine LeO.bind ?_ (fun _ => ?_))
   | exact ih0 _ _ _ _ _
   | exact LeO.none _
   | refine LeO.ite ?_ ?_
   | refine LeO.bind ?_ (fun _ => ?_)
theorem impl_Column.mono : ∀ a0 a1 a2 a3 a4 k,LeO (impl_Column.f k a0 a1 a2 a3 a4) (impl_Column.f (k + 1) a0 a1 a2 a3 a4) := by
 intro a0 a1 a2 a3 a4 k
 have ih0 := impl_Column.mono_l k
 unfold impl_Column.f
 repeat' first
   | (with_reducible exact ih0 _ _ _ _ _)
   | (with_reducible exact LeO.refl _)
   | (with_reducible exact LeO.none _)
   | (with_reducible refine LeO.ite ?_ ?_)
   | (with_reducible refine LeO.bind ?_ (fun _ => ?_))
   | exact ih0 _ _ _ _ _
   | exact LeO.none _
   | refine LeO.ite ?_ ?_
   | refine LeO.bind ?_ (fun _ => ?_)
set_option maxHeartbeats 8000000 in
set_option maxRecDepth 100000 in
theorem impl_Column.calls (k : Nat) (A0_0 : Option Addr) (c0_0 : Nat) (l0_0 : List ByteArray) (a0_1 : ByteArray) (A0_2 : Option Addr) (c0_2 : Nat) (l0_2 : List (List Int)) (A0_3 : Option Addr) (c0_3 : Nat) (l0_3 : List Int) (a1 : Int) (r : List Int) (w : World) (hr0_0 : Kd.C Kd.string w A0_0 l0_0.length l0_0) (hc0_0 : l0_0.length ≤ c0_0) (hr0_2 : Kd.C (Kd.slice 3 (Kd.int .i64)) w A0_2 l0_2.length l0_2) (hc0_2 : l0_2.length ≤ c0_2) (hr0_3 : Kd.C (Kd.int .i64) w A0_3 l0_3.length l0_3) (hc0_3 : l0_3.length ≤ c0_3) (h : impl_Column.f k l0_0 a0_1 l0_2 l0_3 a1 = some r) :
  Calls Try.prog 15 #[.agg #[.slice A0_0 l0_0.length c0_0,.string a0_1,.slice A0_2 l0_2.length c0_2,.slice A0_3 l0_3.length c0_3],.int .i64 a1] w fun e w' => ∃ v0_ : Value,e = .returned (v0_) ∧ Kd.R (Kd.int .i64) 3 w' w.heap.size (fun _ => True) v0_ r ∧ Below w.heap.size w w' := by
 have hu36 := Try.underlying36
 have HR0_0 := Aside0.mk hr0_0
 have HC0_0 := Aside0.mk hc0_0
 clear hr0_0 hc0_0
 have HR0_2 := Aside0.mk hr0_2
 have HC0_2 := Aside0.mk hc0_2
 clear hr0_2 hc0_2
 have HR0_3 := Aside0.mk hr0_3
 have HC0_3 := Aside0.mk hc0_3
 clear hr0_3 hc0_3
 have HB := Aside0.mk (Below.refl w.heap.size w)
 have H := h
 clear h
 unfold impl_Column.f at H
 obtain ⟨y333,hy333⟩ : ∃ y_ : List Int,y_ = (([] : List Int)) := ⟨_,rfl⟩
 replace H : ((impl_within.f a1 0 (wrap64 ((l0_0.length : Int) - 1))).bind fun t336 => (if t336 = true then (impl_Column.l0 k a1 y333 l0_2 (l0_2.length : Int) 0) else (some y333))) = some r := by first | (rw [hy333];with_reducible exact H) | (have H2_ := (Option.bind_some _ _).symm.trans H;rw [hy333];with_reducible exact H2_) | (have H2_ := (Option.bind_some _ _).symm.trans H;with_reducible exact H2_) | with_reducible exact H | (rw [hy333];exact H) | exact H
 have Ny333 := Aside0.mk hy333
 clear hy333
 obtain ⟨t336,A30,H⟩ := Option.bind_eq_some_iff.mp H
 have A3 := Aside0.mk A30
 clear A30
 by_cases c4 : t336 = true
 ·subst c4
  rw [if_pos rfl] at H
  have H' := Aside0.mk H
  clear H
  go_enter Try.func15,Try.ntmps15
  go_wp2_with (first | ((with_reducible refine gate_dst (N := 2) rfl ?_);refine bE 2 #[.slice A0_0 l0_0.length c0_0,.string a0_1,.slice A0_2 l0_2.length c0_2,.slice A0_3 l0_3.length c0_3] 36 (h := ?_);intro gb332 hg w5 hbox hb;have n_ := Z20;clear HB;obtain ⟨HB,BK332,GW332,GE332⟩ := n_;clear hb hbox hg) | ((with_reducible refine gate_dst (N := 9) rfl ?_);refine Kd.R_lit (Kd.int .i64) _ 3 ?hg (N := 9) ?hd (xs := ([] : List Int)) (inner := []) (ok := fun _ => True) (okp := fun _ => True) ?hr ?hp (fun _ hk => hk) trivial (Below.refl _ _) (Nat.le_refl _) Z150 ?_;(case hd => rfl);(case hg => rfl);(case hr => exact Z87);(case hp => exact Z100);intro v334 w6 ho7 hb hg_ hnew_;clear hg_ hnew_;(first | rw [← Ny333.out] at ho7 | (simp only [Int.reduceToNat] at ho7;rw [← Ny333.out] at ho7));have n_ := jA (Kd.R_lower ho7 (below_size Z121)) (jA (blk_below (g := gb332) (o := .cells #[.slice A0_0 l0_0.length c0_0,.string a0_1,.slice A0_2 l0_2.length c0_2,.slice A0_3 l0_3.length c0_3] 36 (0,0)) Z147 hb) (Aside0.mk (below_step Z121 hb)));clear BK332 HB;obtain ⟨HO335,BK332,HB⟩ := n_;clear hb ho7;obtain ⟨hcz8_0,hcz8_1,hcz8_2,hcz8_3,hfz8_0,hfz8_1,hfz8_2,hfz8_3⟩ := cells4 BK332.out) | ((with_reducible refine gate_callee (f := 41) rfl ?_);refine goesL_ (some 15) rfl rfl Try.func41 Z102 rfl #[.int .i64 a1,.int .i64 0,.int .i64 (wrap64 ((l0_0.length : Int) - 1))] rfl Z60 ?_;(with_reducible refine (impl_within.calls a1 0 (wrap64 ((l0_0.length : Int) - 1)) true _ A3.out).mono ?_);rintro e w' ⟨rfl,⟨nd,rfl⟩⟩;refine ⟨_,rfl,?_⟩))
  go_loopg [5,21] k (fun kq v5 v21 w' => ∃ (x5_1 : List Int) (x21_1 : Int),v21 = .int .i64 x21_1 ∧ Aside0 (impl_Column.l0 kq a1 x5_1 l0_2 (l0_2.length : Int) x21_1 = some r) ∧ Aside0 (kq ≤ k) ∧ Aside0 (Kd.R (Kd.int .i64) 3 w' w.heap.size (fun _ => True) v5 x5_1) ∧ Aside0 (w'.heap[gb332]? = some (.cells #[(.slice A0_0 l0_0.length c0_0),.string a0_1,(.slice A0_2 l0_2.length c0_2),(.slice A0_3 l0_3.length c0_3)] 36 (0,0))) ∧ Aside0 (Below w.heap.size w w'))
  case atStart => exact ⟨(y333),(0),Z86,H',⟨Nat.le_refl _⟩,⟨Z76⟩,⟨Z147⟩,⟨Z121⟩⟩
  case round =>
   clear H'
   try clear c1
   try clear p2
   try clear c4
   try clear p6
   try clear hcz8_0
   try clear hcz8_1
   try clear hcz8_2
   try clear hcz8_3
   try clear hfz8_0
   try clear hfz8_1
   try clear hfz8_2
   try clear hfz8_3
   obtain ⟨x5_1,x21_1,rfl,HA,HK1,HO_5,BK332,HB⟩ := hrel
   cases gk with
   | zero => exact absurd HA.out (by simp [impl_Column.l0])
   | succ k1 =>
    have H := HA.out
    clear HA
    simp only [impl_Column.l0] at H
    by_cases c9 : x21_1 < (l0_2.length : Int)
    ·rw [if_pos c9] at H
     have c9b0 : decide (x21_1 < (l0_2.length : Int)) = true := decide_eq_true c9
     clear c9
     by_cases c10 : 0 ≤ x21_1
     ·rw [if_pos c10] at H
      have c10b0 : decide (0 ≤ x21_1) = true := decide_eq_true c10
      clear c10
      by_cases c11 : x21_1 < (l0_2.length : Int)
      ·rw [if_pos c11] at H
       have c11b0 : decide (x21_1 < (l0_2.length : Int)) = true := decide_eq_true c11
       clear c11
       by_cases c12 : a1 < ((rd_L3 l0_2 x21_1).length : Int)
       ·rw [if_pos c12] at H
        have c12b0 : decide (a1 < ((rd_L3 l0_2 x21_1).length : Int)) = true := decide_eq_true c12
        clear c12
        by_cases c13 : 0 ≤ a1
        ·rw [if_pos c13] at H
         have c13b0 : decide (0 ≤ a1) = true := decide_eq_true c13
         clear c13
         by_cases c14 : x5_1.length < 17592186044416
         ·rw [if_pos c14] at H
          have LMc14 := Aside0.mk c14
          clear c14
          obtain ⟨y339,hy339⟩ : ∃ y_ : List Int,y_ = (x5_1 ++ [rd (rd_L3 l0_2 x21_1) a1]) := ⟨_,rfl⟩
          replace H : (impl_Column.l0 k1 a1 y339 l0_2 (l0_2.length : Int) (wrap64 (x21_1 + 1))) = some r := by first | (rw [hy339];with_reducible exact H) | (have H2_ := (Option.bind_some _ _).symm.trans H;rw [hy339];with_reducible exact H2_) | (have H2_ := (Option.bind_some _ _).symm.trans H;with_reducible exact H2_) | with_reducible exact H | (rw [hy339];exact H) | exact H
          have Ny339 := Aside0.mk hy339
          clear hy339
          have H' := Aside0.mk H
          clear H
          have p337 : 0 ≤ (x21_1 : Int) := of_decide_eq_true Z85
          have q337 : x21_1 < (l0_2.length : Int) := of_decide_eq_true Z85
          obtain ⟨ad337,A337_0,c337_0,e337,hx337_0,hl337_0,hi337_0⟩ := at_L3 HR0_2.out x21_1 p337 q337
          cases e337
          replace hx337_0 := (HB.out.cell (World.block_lt_of_cell? w _ hx337_0)).trans hx337_0
          have HR337_0 := Aside0.mk hi337_0
          have HC337_0 := Aside0.mk hl337_0
          clear hi337_0 hl337_0
          replace p337 := eq_true p337
          replace q337 := eq_true q337
          have p338 : 0 ≤ (a1 : Int) := of_decide_eq_true Z85
          have q338 : a1 < ((rd_L3 l0_2 x21_1).length : Int) := of_decide_eq_true Z85
          obtain ⟨ad338,e338,hx338_0⟩ := Kd.at_int HR337_0.out a1 p338 q338
          cases e338
          replace hx338_0 := (HB.out.cell (World.block_lt_of_cell? w _ hx338_0)).trans hx338_0
          replace p338 := eq_true p338
          replace q338 := eq_true q338
          go_wp2_with (first | ((with_reducible refine gate_builtin (b := .append) (xs := #[.tmp 33,.tmp 35]) rfl ?_);at_builtin;refine Kd.R_append (Kd.int .i64) (w0 := w) w.heap.size rfl (.tmp 33) (.tmp 35) 34 3 (.int .i64 0) 8 rfl Try.underlying34 info3 rfl Z154 Z149 u5 x5_1 (rd (rd_L3 l0_2 x21_1) a1) [.int .i64 (rd (rd_L3 l0_2 x21_1) a1)] (fun _ => True) (fun _ => False) rfl rfl ?aP (fun _ hk => hk.elim) ?aF ?aO ?aB ?aS ?aL ?_;(case aP => exact rfl);(case aB => exact Z45);(case aF => exact Z98);(case aO => exact Z61);(case aS => exact Z40);(case aL => have := LMc14.out;omega);intro v340 w15 ho hb hg hat;rw [← Ny339.out] at ho;have n_ := Z26;clear BK332 HB HO_5;obtain ⟨BK332,HB,HO341⟩ := n_;clear ho hb hg hat))
          go_roundg k1
          case measure => have := HK1.out;omega
          case rel => exact ⟨(y339),(wrap64 (x21_1 + 1)),Z86,H',⟨Z99⟩,⟨by (with_reducible repeat (first | apply Kd.R_alloc | apply Kd.R_drewN | apply Kd.R_drew));exact HO341.out⟩,⟨Z147⟩,⟨Z121⟩⟩
         ·rw [if_neg c14] at H
          exact absurd H Z150
        ·rw [if_neg c13] at H
         exact absurd H Z150
       ·rw [if_neg c12] at H
        have c12b0 : decide (a1 < ((rd_L3 l0_2 x21_1).length : Int)) = false := decide_eq_false c12
        clear c12
        by_cases c16 : x5_1.length < 17592186044416
        ·rw [if_pos c16] at H
         have LMc16 := Aside0.mk c16
         clear c16
         obtain ⟨y342,hy342⟩ : ∃ y_ : List Int,y_ = (x5_1 ++ [0]) := ⟨_,rfl⟩
         replace H : (impl_Column.l0 k1 a1 y342 l0_2 (l0_2.length : Int) (wrap64 (x21_1 + 1))) = some r := by first | (rw [hy342];with_reducible exact H) | (have H2_ := (Option.bind_some _ _).symm.trans H;rw [hy342];with_reducible exact H2_) | (have H2_ := (Option.bind_some _ _).symm.trans H;with_reducible exact H2_) | with_reducible exact H | (rw [hy342];exact H) | exact H
         have Ny342 := Aside0.mk hy342
         clear hy342
         have H' := Aside0.mk H
         clear H
         have p337 : 0 ≤ (x21_1 : Int) := of_decide_eq_true Z85
         have q337 : x21_1 < (l0_2.length : Int) := of_decide_eq_true Z85
         obtain ⟨ad337,A337_0,c337_0,e337,hx337_0,hl337_0,hi337_0⟩ := at_L3 HR0_2.out x21_1 p337 q337
         cases e337
         replace hx337_0 := (HB.out.cell (World.block_lt_of_cell? w _ hx337_0)).trans hx337_0
         have HR337_0 := Aside0.mk hi337_0
         have HC337_0 := Aside0.mk hl337_0
         clear hi337_0 hl337_0
         replace p337 := eq_true p337
         replace q337 := eq_true q337
         go_wp2_with (first | ((with_reducible refine gate_builtin (b := .append) (xs := #[.tmp 33,.tmp 35]) rfl ?_);at_builtin;refine Kd.R_append (Kd.int .i64) (w0 := w) w.heap.size rfl (.tmp 33) (.tmp 35) 34 3 (.int .i64 0) 8 rfl Try.underlying34 info3 rfl Z154 Z149 u5 x5_1 0 [.int .i64 0] (fun _ => True) (fun _ => False) rfl rfl ?aP (fun _ hk => hk.elim) ?aF ?aO ?aB ?aS ?aL ?_;(case aP => exact rfl);(case aB => exact Z45);(case aF => exact Z98);(case aO => exact Z61);(case aS => exact Z40);(case aL => have := LMc16.out;omega);intro v343 w17 ho hb hg hat;rw [← Ny342.out] at ho;have n_ := Z26;clear BK332 HB HO_5;obtain ⟨BK332,HB,HO344⟩ := n_;clear ho hb hg hat))
         go_roundg k1
         case measure => have := HK1.out;omega
         case rel => exact ⟨(y342),(wrap64 (x21_1 + 1)),Z86,H',⟨Z99⟩,⟨by (with_reducible repeat (first | apply Kd.R_alloc | apply Kd.R_drewN | apply Kd.R_drew));exact HO344.out⟩,⟨Z147⟩,⟨Z121⟩⟩
        ·rw [if_neg c16] at H
         exact absurd H Z150
      ·rw [if_neg c11] at H
       exact absurd H Z150
     ·rw [if_neg c10] at H
      exact absurd H Z150
    ·rw [if_neg c9] at H
     have c9b0 : decide (x21_1 < (l0_2.length : Int)) = false := decide_eq_false c9
     clear c9
     obtain rfl := Option.some.inj H
     go_wp2
     go_ret
     exact ⟨_,Z77,Z140,Z121⟩
 ·replace c4 := Bool.eq_false_iff.mpr c4
  subst c4
  rw [if_neg Bool.false_ne_true] at H
  obtain rfl := Option.some.inj H
  go_enter Try.func15,Try.ntmps15
  go_wp2_with (first | ((with_reducible refine gate_dst (N := 2) rfl ?_);refine bE 2 #[.slice A0_0 l0_0.length c0_0,.string a0_1,.slice A0_2 l0_2.length c0_2,.slice A0_3 l0_3.length c0_3] 36 (h := ?_);intro gb332 hg wq1 hbox hb;have n_ := Z20;clear HB;obtain ⟨HB,BK332,GW332,GE332⟩ := n_;clear hb hbox hg) | ((with_reducible refine gate_dst (N := 9) rfl ?_);refine Kd.R_lit (Kd.int .i64) _ 3 ?hg (N := 9) ?hd (xs := ([] : List Int)) (inner := []) (ok := fun _ => True) (okp := fun _ => True) ?hr ?hp (fun _ hk => hk) trivial (Below.refl _ _) (Nat.le_refl _) Z150 ?_;(case hd => rfl);(case hg => rfl);(case hr => exact Z87);(case hp => exact Z100);intro vq2 wq3 hoq4 hb hg_ hnew_;clear hg_ hnew_;(first | rw [← Ny333.out] at hoq4 | (simp only [Int.reduceToNat] at hoq4;rw [← Ny333.out] at hoq4));have n_ := jA (Kd.R_lower hoq4 (below_size Z121)) (jA (blk_below (g := gb332) (o := .cells #[.slice A0_0 l0_0.length c0_0,.string a0_1,.slice A0_2 l0_2.length c0_2,.slice A0_3 l0_3.length c0_3] 36 (0,0)) Z147 hb) (Aside0.mk (below_step Z121 hb)));clear BK332 HB;obtain ⟨HO335,BK332,HB⟩ := n_;clear hb hoq4;obtain ⟨hczq5_0,hczq5_1,hczq5_2,hczq5_3,hfzq5_0,hfzq5_1,hfzq5_2,hfzq5_3⟩ := cells4 BK332.out) | ((with_reducible refine gate_callee (f := 41) rfl ?_);refine goesL_ (some 15) rfl rfl Try.func41 Z102 rfl #[.int .i64 a1,.int .i64 0,.int .i64 (wrap64 ((l0_0.length : Int) - 1))] rfl Z60 ?_;(with_reducible refine (impl_within.calls a1 0 (wrap64 ((l0_0.length : Int) - 1)) false _ A3.out).mono ?_);rintro e w' ⟨rfl,⟨nd,rfl⟩⟩;refine ⟨_,rfl,?_⟩))
  go_ret
  exact ⟨_,Z77,Z76,Z121⟩

/-! ### laws_sameInts: function 16 -/
def laws_sameInts.l0 : Nat → List Int → List Int → Int → Option (Bool)
 | 0,_,_,_ => none
 | k + 1,x0,x1,x5 => if x5 < (x0.length : Int) then (if 0 ≤ x5 then (if x5 < (x1.length : Int) then (if (rd x0 x5) = (rd x1 x5) then (laws_sameInts.l0 k x0 x1 (wrap64 (x5 + 1))) else (some false)) else (none)) else (none)) else (some true)
def laws_sameInts.f (k : Nat) (l0 : List Int) (l1 : List Int) : Option (Bool) := if (l0.length : Int) = (l1.length : Int) then (laws_sameInts.l0 k l0 l1 0) else (some false)
theorem laws_sameInts.mono_l : ∀ k,(∀ y0 y1 y2,LeO (laws_sameInts.l0 k y0 y1 y2) (laws_sameInts.l0 (k + 1) y0 y1 y2))
 | 0 => fun _ _ _ r h => by simp [laws_sameInts.l0] at h
 | k + 1 => by
  have ih0 := laws_sameInts.mono_l k
  ·intro y0 y1 y2
   unfold laws_sameInts.l0
   repeat' first
   | (with_reducible exact ih0 _ _ _)
   | (with_reducible exact LeO.refl _)
   | (with_reducible exact LeO.none _)
   | (with_reducible refine LeO.ite ?_ ?_)
   | (with_reducible refine LeO.bind ?_ (fun _ => ?_))
   | exact ih0 _ _ _
   | exact LeO.none _
   | refine LeO.ite ?_ ?_
   | refine LeO.bind ?_ (fun _ => ?_)
theorem laws_sameInts.mono : ∀ a0 a1 k,LeO (laws_sameInts.f k a0 a1) (laws_sameInts.f (k + 1) a0 a1) := by
 intro a0 a1 k
 have ih0 := laws_sameInts.mono_l k
 unfold laws_sameInts.f
 repeat' first
   | (with_reducible exact ih0 _ _ _)
   | (with_reducible exact LeO.refl _)
   | (with_reducible exact LeO.none _)
   | (with_reducible refine LeO.ite ?_ ?_)
   | (with_reducible refine LeO.bind ?_ (fun _ => ?_))
   | exact ih0 _ _ _
   | exact LeO.none _
   | refine LeO.ite ?_ ?_
   | refine LeO.bind ?_ (fun _ => ?_)
set_option maxHeartbeats 8000000 in
set_option maxRecDepth 100000 in
theorem laws_sameInts.calls (k : Nat) (A0 : Option Addr) (c0 : Nat) (l0 : List Int) (A1 : Option Addr) (c1 : Nat) (l1 : List Int) (r : Bool) (w : World) (hr0 : Kd.C (Kd.int .i64) w A0 l0.length l0) (hc0 : l0.length ≤ c0) (hr1 : Kd.C (Kd.int .i64) w A1 l1.length l1) (hc1 : l1.length ≤ c1) (h : laws_sameInts.f k l0 l1 = some r) :
  Calls Try.prog 16 #[.slice A0 l0.length c0,.slice A1 l1.length c1] w fun e w' => e = .returned (.bool r) ∧ Drawn0 w w' := by
 have HR0 := Aside0.mk hr0
 have HC0 := Aside0.mk hc0
 clear hr0 hc0
 have HR1 := Aside0.mk hr1
 have HC1 := Aside0.mk hc1
 clear hr1 hc1
 have H := h
 clear h
 unfold laws_sameInts.f at H
 by_cases c3 : (l0.length : Int) = (l1.length : Int)
 ·rw [if_pos c3] at H
  have c3b0 : ((l0.length : Int) == (l1.length : Int)) = true := beq_iff_eq.mpr c3
  have c3b1 : ((l0.length : Int) != (l1.length : Int)) = false := bne_eq_false_iff_eq.mpr c3
  have c3b2 : (l0.length == l1.length) = true := by first | simpa using c3 | (simp at c3 ⊢;omega)
  clear c3
  have H' := Aside0.mk H
  clear H
  go_enter Try.func16,Try.ntmps16
  go_wp2
  repeat (go_quiet (fail);try go_wp2)
  go_loopg [5] k (fun kq v5 w' => ∃ (x5_1 : Int),v5 = .int .i64 x5_1 ∧ Aside0 (laws_sameInts.l0 kq l0 l1 x5_1 = some r) ∧ Aside0 (kq ≤ k) ∧ Drawn0 w w')
  case atStart => exact ⟨(0),Z86,H',⟨Nat.le_refl _⟩,Z82⟩
  case round =>
   clear H'
   try clear c1
   try clear p2
   try clear c3
   try clear c3b0
   try clear c3b1
   try clear c3b2
   obtain ⟨x5_1,rfl,HA,HK1,⟨m1,rfl⟩⟩ := hrel
   cases gk with
   | zero => exact absurd HA.out (by simp [laws_sameInts.l0])
   | succ k1 =>
    have H := HA.out
    clear HA
    simp only [laws_sameInts.l0] at H
    by_cases c4 : x5_1 < (l0.length : Int)
    ·rw [if_pos c4] at H
     have c4b0 : decide (x5_1 < (l0.length : Int)) = true := decide_eq_true c4
     clear c4
     by_cases c5 : 0 ≤ x5_1
     ·rw [if_pos c5] at H
      have c5b0 : decide (0 ≤ x5_1) = true := decide_eq_true c5
      clear c5
      by_cases c6 : x5_1 < (l1.length : Int)
      ·rw [if_pos c6] at H
       have c6b0 : decide (x5_1 < (l1.length : Int)) = true := decide_eq_true c6
       clear c6
       by_cases c7 : (rd l0 x5_1) = (rd l1 x5_1)
       ·rw [if_pos c7] at H
        have c7b0 : ((rd l0 x5_1) == (rd l1 x5_1)) = true := beq_iff_eq.mpr c7
        have c7b1 : ((rd l0 x5_1) != (rd l1 x5_1)) = false := bne_eq_false_iff_eq.mpr c7
        clear c7
        have H' := Aside0.mk H
        clear H
        have p345 : 0 ≤ (x5_1 : Int) := of_decide_eq_true Z85
        have q345 : x5_1 < (l0.length : Int) := of_decide_eq_true Z85
        obtain ⟨ad345,e345,hx345_0⟩ := Kd.at_int HR0.out x5_1 p345 q345
        cases e345
        replace p345 := eq_true p345
        replace q345 := eq_true q345
        have p346 : 0 ≤ (x5_1 : Int) := of_decide_eq_true Z85
        have q346 : x5_1 < (l1.length : Int) := of_decide_eq_true Z85
        obtain ⟨ad346,e346,hx346_0⟩ := Kd.at_int HR1.out x5_1 p346 q346
        cases e346
        replace p346 := eq_true p346
        replace q346 := eq_true q346
        go_wp2
        repeat (go_quiet (fail);try go_wp2)
        go_roundg k1
        case measure => have := HK1.out;omega
        case rel => exact ⟨(wrap64 (x5_1 + 1)),Z86,H',⟨Z99⟩,Z82⟩
       ·rw [if_neg c7] at H
        have c7b0 : ((rd l0 x5_1) == (rd l1 x5_1)) = false := beq_eq_false_iff_ne.mpr c7
        have c7b1 : ((rd l0 x5_1) != (rd l1 x5_1)) = true := bne_iff_ne.mpr c7
        obtain rfl := Option.some.inj H
        have p345 : 0 ≤ (x5_1 : Int) := of_decide_eq_true Z85
        have q345 : x5_1 < (l0.length : Int) := of_decide_eq_true Z85
        obtain ⟨ad345,e345,hx345_0⟩ := Kd.at_int HR0.out x5_1 p345 q345
        cases e345
        replace p345 := eq_true p345
        replace q345 := eq_true q345
        have p346 : 0 ≤ (x5_1 : Int) := of_decide_eq_true Z85
        have q346 : x5_1 < (l1.length : Int) := of_decide_eq_true Z85
        obtain ⟨ad346,e346,hx346_0⟩ := Kd.at_int HR1.out x5_1 p346 q346
        cases e346
        replace p346 := eq_true p346
        replace q346 := eq_true q346
        go_wp2
        repeat (go_quiet (fail);try go_wp2)
        go_ret
        exact ⟨Z86,Z82⟩
      ·rw [if_neg c6] at H
       exact absurd H Z150
     ·rw [if_neg c5] at H
      exact absurd H Z150
    ·rw [if_neg c4] at H
     have c4b0 : decide (x5_1 < (l0.length : Int)) = false := decide_eq_false c4
     clear c4
     obtain rfl := Option.some.inj H
     go_wp2
     repeat (go_quiet (fail);try go_wp2)
     go_ret
     exact ⟨Z86,Z82⟩
 ·rw [if_neg c3] at H
  have c3b0 : ((l0.length : Int) == (l1.length : Int)) = false := beq_eq_false_iff_ne.mpr c3
  have c3b1 : ((l0.length : Int) != (l1.length : Int)) = true := bne_iff_ne.mpr c3
  have c3b2 : (l0.length == l1.length) = false := by first | simpa using c3 | (simp at c3 ⊢;omega)
  obtain rfl := Option.some.inj H
  go_enter Try.func16,Try.ntmps16
  go_wp2
  repeat (go_quiet (fail);try go_wp2)
  go_ret
  exact ⟨Z86,Z82⟩

/-! ### spec_l1In: function 37 -/
def spec_l1In.f (a0 : Int) (a1 : Int) (a2 : Int) : Option (Bool) := if a0 ≥ a1 then (some (decide (a0 ≤ a2))) else (some false)
set_option maxHeartbeats 8000000 in
set_option maxRecDepth 100000 in
theorem spec_l1In.calls (a0 : Int) (a1 : Int) (a2 : Int) (r : Bool) (w : World) (h : spec_l1In.f a0 a1 a2 = some r) :
  Calls Try.prog 37 #[.int .i64 a0,.int .i64 a1,.int .i64 a2] w fun e w' => e = .returned (.bool r) ∧ Drawn0 w w' := by
 have H := h
 clear h
 unfold spec_l1In.f at H
 by_cases c4 : a0 ≥ a1
 ·rw [if_pos c4] at H
  have c4b0 : decide (a1 ≤ a0) = true := decide_eq_true c4
  clear c4
  obtain rfl := Option.some.inj H
  go_enter Try.func37,Try.ntmps37
  go_wp2
  go_ret
  exact ⟨Z86,Z82⟩
 ·rw [if_neg c4] at H
  have c4b0 : decide (a1 ≤ a0) = false := decide_eq_false c4
  clear c4
  obtain rfl := Option.some.inj H
  go_enter Try.func37,Try.ntmps37
  go_wp2
  go_ret
  exact ⟨Z86,Z82⟩

/-! ### spec_Column: function 17 -/
mutual
def spec_Column.l0 : Nat → Int → List Int → Int → List ByteArray → ByteArray → List (List Int) → List Int → Option (List Int)
 | 0,_,_,_,_,_,_,_ => none
 | k + 1,x1,x5,x6,x348000,x348001,x348002,x348003 => if x6 < (x348002.length : Int) then ((spec_l1In.f x1 0 (wrap64 ((x348000.length : Int) - 1))).bind fun t351 => (spec_Column.j1 k x1 x5 x6 t351 x348000 x348001 x348002 x348003)) else (spec_Column.j1 k x1 x5 x6 false x348000 x348001 x348002 x348003)
def spec_Column.j1 : Nat → Int → List Int → Int → Bool → List ByteArray → ByteArray → List (List Int) → List Int → Option (List Int)
 | 0,_,_,_,_,_,_,_,_ => none
 | k + 1,x1,x5,x6,x20,x348000,x348001,x348002,x348003 => if x20 = true then (if 0 ≤ x6 then (if x6 < (x348002.length : Int) then (if x1 < ((rd_L3 x348002 x6).length : Int) then (if 0 ≤ x1 then (if x5.length < 17592186044416 then (spec_Column.l0 k x1 (x5 ++ [rd (rd_L3 x348002 x6) x1]) (wrap64 (x6 + 1)) x348000 x348001 x348002 x348003) else (none)) else (none)) else (if x5.length < 17592186044416 then (spec_Column.l0 k x1 (x5 ++ [0]) (wrap64 (x6 + 1)) x348000 x348001 x348002 x348003) else (none))) else (none)) else (none)) else (some x5)
end
def spec_Column.f (k : Nat) (l0_0 : List ByteArray) (a0_1 : ByteArray) (l0_2 : List (List Int)) (l0_3 : List Int) (a1 : Int) : Option (List Int) := spec_Column.l0 k a1 (([] : List Int)) 0 l0_0 a0_1 l0_2 l0_3
theorem spec_Column.mono_l : ∀ k,(∀ y0 y1 y2 y3 y4 y5 y6,LeO (spec_Column.l0 k y0 y1 y2 y3 y4 y5 y6) (spec_Column.l0 (k + 1) y0 y1 y2 y3 y4 y5 y6)) ∧ (∀ y0 y1 y2 y3 y4 y5 y6 y7,LeO (spec_Column.j1 k y0 y1 y2 y3 y4 y5 y6 y7) (spec_Column.j1 (k + 1) y0 y1 y2 y3 y4 y5 y6 y7))
 | 0 => ⟨fun _ _ _ _ _ _ _ r h => by simp [spec_Column.l0] at h,fun _ _ _ _ _ _ _ _ r h => by simp [spec_Column.j1] at h⟩
 | k + 1 => by
  obtain ⟨ih0,ih1⟩ := spec_Column.mono_l k
  refine ⟨?_,?_⟩
  ·intro y0 y1 y2 y3 y4 y5 y6
   unfold spec_Column.l0
   repeat' first
   | (with_reducible exact ih0 _ _ _ _ _ _ _)
   | (with_reducible exact ih1 _ _ _ _ _ _ _ _)
   | (with_reducible exact LeO.refl _)
   | (with_reducible exact LeO.none _)
   | (with_reducible refine LeO.ite ?_ ?_)
   | (with_reducible refine LeO.bind ?_ (fun _ => ?_))
   | exact ih0 _ _ _ _ _ _ _
   | exact ih1 _ _ _ _ _ _ _ _
   | exact LeO.none _
   | refine LeO.ite ?_ ?_
   | refine LeO.bind ?_ (fun _ => ?_)
  ·intro y0 y1 y2 y3 y4 y5 y6 y7
   unfold spec_Column.j1
   repeat' first
   | (with_reducible exact ih0 _ _ _ _ _ _ _)
   | (with_reducible exact ih1 _ _ _ _ _ _ _ _)
   | (with_reducible exact LeO.refl _)
   | (with_reducible exact LeO.none _)
   | (with_reducible refine LeO.ite ?_ ?_)
   | (with_reducible refine LeO.bind ?_ (fun _ => ?_))
   | exact ih0 _ _ _ _ _ _ _
   | exact ih1 _ _ _ _ _ _ _ _
   | exact LeO.none _
   | refine LeO.ite ?_ ?_
   | refine LeO.bind ?_ (fun _ => ?_)
theorem spec_Column.mono : ∀ a0 a1 a2 a3 a4 k,LeO (spec_Column.f k a0 a1 a2 a3 a4) (spec_Column.f (k + 1) a0 a1 a2 a3 a4) := by
 intro a0 a1 a2 a3 a4 k
 obtain ⟨ih0,ih1⟩ := spec_Column.mono_l k
 unfold spec_Column.f
 repeat' first
   | (with_reducible exact ih0 _ _ _ _ _ _ _)
   | (with_reducible exact ih1 _ _ _ _ _ _ _ _)
   | (with_reducible exact LeO.refl _)
   | (with_reducible exact LeO.none _)
   | (with_reducible refine LeO.ite ?_ ?_)
   | (with_reducible refine LeO.bind ?_ (fun _ => ?_))
   | exact ih0 _ _ _ _ _ _ _
   | exact ih1 _ _ _ _ _ _ _ _
   | exact LeO.none _
   | refine LeO.ite ?_ ?_
   | refine LeO.bind ?_ (fun _ => ?_)
set_option maxHeartbeats 8000000 in
set_option maxRecDepth 100000 in
theorem spec_Column.calls (k : Nat) (A0_0 : Option Addr) (c0_0 : Nat) (l0_0 : List ByteArray) (a0_1 : ByteArray) (A0_2 : Option Addr) (c0_2 : Nat) (l0_2 : List (List Int)) (A0_3 : Option Addr) (c0_3 : Nat) (l0_3 : List Int) (a1 : Int) (r : List Int) (w : World) (hr0_0 : Kd.C Kd.string w A0_0 l0_0.length l0_0) (hc0_0 : l0_0.length ≤ c0_0) (hr0_2 : Kd.C (Kd.slice 3 (Kd.int .i64)) w A0_2 l0_2.length l0_2) (hc0_2 : l0_2.length ≤ c0_2) (hr0_3 : Kd.C (Kd.int .i64) w A0_3 l0_3.length l0_3) (hc0_3 : l0_3.length ≤ c0_3) (h : spec_Column.f k l0_0 a0_1 l0_2 l0_3 a1 = some r) :
  Calls Try.prog 17 #[.agg #[.slice A0_0 l0_0.length c0_0,.string a0_1,.slice A0_2 l0_2.length c0_2,.slice A0_3 l0_3.length c0_3],.int .i64 a1] w fun e w' => ∃ v0_ : Value,e = .returned (v0_) ∧ Kd.R (Kd.int .i64) 3 w' w.heap.size (fun _ => True) v0_ r ∧ Below w.heap.size w w' := by
 have hu36 := Try.underlying36
 have HR0_0 := Aside0.mk hr0_0
 have HC0_0 := Aside0.mk hc0_0
 clear hr0_0 hc0_0
 have HR0_2 := Aside0.mk hr0_2
 have HC0_2 := Aside0.mk hc0_2
 clear hr0_2 hc0_2
 have HR0_3 := Aside0.mk hr0_3
 have HC0_3 := Aside0.mk hc0_3
 clear hr0_3 hc0_3
 have HB := Aside0.mk (Below.refl w.heap.size w)
 have H := h
 clear h
 unfold spec_Column.f at H
 obtain ⟨y348,hy348⟩ : ∃ y_ : List Int,y_ = (([] : List Int)) := ⟨_,rfl⟩
 replace H : (spec_Column.l0 k a1 y348 0 l0_0 a0_1 l0_2 l0_3) = some r := by first | (rw [hy348];with_reducible exact H) | (have H2_ := (Option.bind_some _ _).symm.trans H;rw [hy348];with_reducible exact H2_) | (have H2_ := (Option.bind_some _ _).symm.trans H;with_reducible exact H2_) | with_reducible exact H | (rw [hy348];exact H) | exact H
 have Ny348 := Aside0.mk hy348
 clear hy348
 have H' := Aside0.mk H
 clear H
 go_enter Try.func17,Try.ntmps17
 go_wp2_with (first | ((with_reducible refine gate_dst (N := 2) rfl ?_);(try (refine gate_guard Z103 ?_;dsimp only));refine bE 2 #[.slice A0_0 l0_0.length c0_0,.string a0_1,.slice A0_2 l0_2.length c0_2,.slice A0_3 l0_3.length c0_3] 36 (h := ?_);intro gb347 hg w3 hbox hb;have n_ := jA (below_step Z153 hb) (jA (hbox) (jA ((Z124 : w.heap.size ≤ gb347)) (Aside0.mk ((Z124 : w.heap.size ≤ gb347)))));clear HB;obtain ⟨HB,BK347,GW347,GE347⟩ := n_;clear hb hbox hg) | ((with_reducible refine gate_dst (N := 7) rfl ?_);(try (refine gate_guard Z103 ?_;dsimp only));refine Kd.R_lit (Kd.int .i64) _ 3 ?hg (N := 7) ?hd (xs := ([] : List Int)) (inner := []) (ok := fun _ => True) (okp := fun _ => True) ?hr ?hp (fun _ hk => hk) trivial (Below.refl _ _) (Nat.le_refl _) Z150 ?_;(case hd => rfl);(case hg => rfl);(case hr => exact Z87);(case hp => exact Z100);intro v349 w4 ho5 hb hg_ hnew_;clear hg_ hnew_;(first | rw [← Ny348.out] at ho5 | (simp only [Int.reduceToNat] at ho5;rw [← Ny348.out] at ho5));have n_ := jA (Kd.R_lower ho5 (below_size Z123)) (jA (blk_below (g := gb347) (o := .cells #[.slice A0_0 l0_0.length c0_0,.string a0_1,.slice A0_2 l0_2.length c0_2,.slice A0_3 l0_3.length c0_3] 36 (0,0)) Z146 hb) (Aside0.mk (below_step Z123 hb)));clear BK347 HB;obtain ⟨HO350,BK347,HB⟩ := n_;clear hb ho5))
 go_loopg [5,6] k (fun kq v5 v6 w' => ∃ (x5_1 : List Int) (x6_1 : Int),v6 = .int .i64 x6_1 ∧ Aside0 (spec_Column.l0 kq a1 x5_1 x6_1 l0_0 a0_1 l0_2 l0_3 = some r) ∧ Aside0 (kq ≤ k) ∧ Aside0 (Kd.R (Kd.int .i64) 3 w' w.heap.size (fun _ => True) v5 x5_1) ∧ Aside0 (w'.heap[gb347]? = some (.cells #[(.slice A0_0 l0_0.length c0_0),.string a0_1,(.slice A0_2 l0_2.length c0_2),(.slice A0_3 l0_3.length c0_3)] 36 (0,0))) ∧ Aside0 (Below w.heap.size w w'))
 case atStart => exact ⟨(y348),(0),Z86,H',⟨Nat.le_refl _⟩,⟨by (with_reducible repeat (first | apply Kd.R_alloc | apply Kd.R_drewN | apply Kd.R_drew));exact HO350.out⟩,⟨Z146⟩,⟨Z123⟩⟩
 case round =>
  clear H'
  try clear c1
  try clear p2
  obtain ⟨x5_1,x6_1,rfl,HA,HK1,HO_5,BK347,HB⟩ := hrel
  cases gk with
  | zero => exact absurd HA.out (by simp [spec_Column.l0])
  | succ k1 =>
   have H := HA.out
   clear HA
   simp only [spec_Column.l0] at H
   have HC6 := Aside0.mk H
   clear H
   go_upto_region 3 with (fail)
   go_cut [20] (fun v20 wc => ∃ (kq : Nat) (x20_5 : Bool),v20 = .bool x20_5 ∧ Aside0 (spec_Column.j1 kq a1 x5_1 x6_1 x20_5 l0_0 a0_1 l0_2 l0_3 = some r) ∧ Aside0 (kq ≤ k1) ∧ Aside0 (Kd.R (Kd.int .i64) 3 wc w.heap.size (fun _ => True) u5 x5_1) ∧ Aside0 (wc.heap[gb347]? = some (.cells #[(.slice A0_0 l0_0.length c0_0),.string a0_1,(.slice A0_2 l0_2.length c0_2),(.slice A0_3 l0_3.length c0_3)] 36 (0,0))) ∧ Aside0 (Below w.heap.size w wc))
   case first =>
    have H := HC6.out
    clear HC6
    by_cases c7 : x6_1 < (l0_2.length : Int)
    ·rw [if_pos c7] at H
     have c7b0 : decide (x6_1 < (l0_2.length : Int)) = true := decide_eq_true c7
     clear c7
     (first | rw [c7b0] | (simp only [i64_w,i32_w];rw [c7b0]) | skip)
     obtain ⟨t351,A80,H⟩ := Option.bind_eq_some_iff.mp H
     have A8 := Aside0.mk A80
     clear A80
     have H' := Aside0.mk H
     clear H
     obtain ⟨hcz9_0,hcz9_1,hcz9_2,hcz9_3,hfz9_0,hfz9_1,hfz9_2,hfz9_3⟩ := cells4 BK347.out
     go_wp2_with (first | (go_at_call 37;(with_reducible refine (spec_l1In.calls a1 0 (wrap64 ((l0_0.length : Int) - 1)) t351 _ A8.out).mono ?_);rintro e w' ⟨rfl,⟨nd,rfl⟩⟩))
     go_meet
     case rel => exact ⟨_,(t351),Z86,H',⟨Z84⟩,⟨Z140⟩,⟨Z146⟩,⟨Z123⟩⟩
    ·rw [if_neg c7] at H
     have c7b0 : decide (x6_1 < (l0_2.length : Int)) = false := decide_eq_false c7
     clear c7
     (first | rw [c7b0] | (simp only [i64_w,i32_w];rw [c7b0]) | skip)
     have H' := Aside0.mk H
     clear H
     obtain ⟨hcz10_0,hcz10_1,hcz10_2,hcz10_3,hfz10_0,hfz10_1,hfz10_2,hfz10_3⟩ := cells4 BK347.out
     go_wp2
     go_meet
     case rel => exact ⟨_,(false),Z86,H',⟨Z84⟩,⟨Z140⟩,⟨Z146⟩,⟨Z123⟩⟩
   case rest =>
    clear HC6
    try clear c1
    try clear p2
    try clear p6
    try clear c7
    try clear c7b0
    try clear hcz10_0
    try clear hcz10_1
    try clear hcz10_2
    try clear hcz10_3
    try clear hcz9_0
    try clear hcz9_1
    try clear hcz9_2
    try clear hcz9_3
    try clear hfz10_0
    try clear hfz10_1
    try clear hfz10_2
    try clear hfz10_3
    try clear hfz9_0
    try clear hfz9_1
    try clear hfz9_2
    try clear hfz9_3
    try clear p2
    obtain ⟨kq,x20_5,rfl,HA,HJ5,HO_5,BK347,HB⟩ := hcut
    cases kq with
    | zero => exact absurd HA.out (by simp [spec_Column.j1])
    | succ kj5 =>
     have H := HA.out
     clear HA
     simp only [spec_Column.j1] at H
     by_cases c11 : x20_5 = true
     ·subst c11
      rw [if_pos rfl] at H
      by_cases c12 : 0 ≤ x6_1
      ·rw [if_pos c12] at H
       have c12b0 : decide (0 ≤ x6_1) = true := decide_eq_true c12
       clear c12
       by_cases c13 : x6_1 < (l0_2.length : Int)
       ·rw [if_pos c13] at H
        have c13b0 : decide (x6_1 < (l0_2.length : Int)) = true := decide_eq_true c13
        clear c13
        by_cases c14 : a1 < ((rd_L3 l0_2 x6_1).length : Int)
        ·rw [if_pos c14] at H
         have c14b0 : decide (a1 < ((rd_L3 l0_2 x6_1).length : Int)) = true := decide_eq_true c14
         clear c14
         by_cases c15 : 0 ≤ a1
         ·rw [if_pos c15] at H
          have c15b0 : decide (0 ≤ a1) = true := decide_eq_true c15
          clear c15
          by_cases c16 : x5_1.length < 17592186044416
          ·rw [if_pos c16] at H
           have LMc16 := Aside0.mk c16
           clear c16
           obtain ⟨y355,hy355⟩ : ∃ y_ : List Int,y_ = (x5_1 ++ [rd (rd_L3 l0_2 x6_1) a1]) := ⟨_,rfl⟩
           replace H : (spec_Column.l0 kj5 a1 y355 (wrap64 (x6_1 + 1)) l0_0 a0_1 l0_2 l0_3) = some r := by first | (rw [hy355];with_reducible exact H) | (have H2_ := (Option.bind_some _ _).symm.trans H;rw [hy355];with_reducible exact H2_) | (have H2_ := (Option.bind_some _ _).symm.trans H;with_reducible exact H2_) | with_reducible exact H | (rw [hy355];exact H) | exact H
           have Ny355 := Aside0.mk hy355
           clear hy355
           have H' := Aside0.mk H
           clear H
           obtain ⟨hcz17_0,hcz17_1,hcz17_2,hcz17_3,hfz17_0,hfz17_1,hfz17_2,hfz17_3⟩ := cells4 BK347.out
           have p352 : 0 ≤ (x6_1 : Int) := of_decide_eq_true Z85
           have q352 : x6_1 < (l0_2.length : Int) := of_decide_eq_true Z85
           obtain ⟨ad352,A352_0,c352_0,e352,hx352_0,hl352_0,hi352_0⟩ := at_L3 HR0_2.out x6_1 p352 q352
           cases e352
           replace hx352_0 := (HB.out.cell (World.block_lt_of_cell? w _ hx352_0)).trans hx352_0
           have HR352_0 := Aside0.mk hi352_0
           have HC352_0 := Aside0.mk hl352_0
           clear hi352_0 hl352_0
           replace p352 := eq_true p352
           replace q352 := eq_true q352
           have p353 : 0 ≤ (x6_1 : Int) := of_decide_eq_true Z85
           have q353 : x6_1 < (l0_2.length : Int) := of_decide_eq_true Z85
           obtain ⟨ad353,A353_0,c353_0,e353,hx353_0,hl353_0,hi353_0⟩ := at_L3 HR0_2.out x6_1 p353 q353
           obtain rfl : ad352 = ad353 := (by injection e353)
           replace hx353_0 := (HB.out.cell (World.block_lt_of_cell? w _ hx353_0)).trans hx353_0
           have HR353_0 := Aside0.mk hi353_0
           have HC353_0 := Aside0.mk hl353_0
           clear hi353_0 hl353_0
           replace p353 := eq_true p353
           replace q353 := eq_true q353
           have ea_ := Option.some.inj (hx352_0.symm.trans hx353_0)
           injection ea_ with ea_ en_ ec_
           subst ea_
           subst ec_
           clear en_
           have p354 : 0 ≤ (a1 : Int) := of_decide_eq_true Z85
           have q354 : a1 < ((rd_L3 l0_2 x6_1).length : Int) := of_decide_eq_true Z85
           obtain ⟨ad354,e354,hx354_0⟩ := Kd.at_int HR353_0.out a1 p354 q354
           cases e354
           replace hx354_0 := (HB.out.cell (World.block_lt_of_cell? w _ hx354_0)).trans hx354_0
           replace p354 := eq_true p354
           replace q354 := eq_true q354
           go_wp2_with (first | ((with_reducible refine gate_builtin (b := .append) (xs := #[.tmp 31,.tmp 40]) rfl ?_);(try (refine gate_guard Z103 ?_;dsimp only));at_builtin;refine Kd.R_append (Kd.int .i64) (w0 := w) w.heap.size rfl (.tmp 31) (.tmp 40) 34 3 (.int .i64 0) 8 rfl Try.underlying34 info3 rfl Z154 Z149 u5 x5_1 (rd (rd_L3 l0_2 x6_1) a1) [.int .i64 (rd (rd_L3 l0_2 x6_1) a1)] (fun _ => True) (fun _ => False) rfl rfl ?aP (fun _ hk => hk.elim) ?aF ?aO ?aB ?aS ?aL ?_;(case aP => exact rfl);(case aB => exact Z44);(case aF => exact Z98);(case aO => exact Z61);(case aS => exact Z39);(case aL => have := LMc16.out;omega);intro v356 w18 ho hb hg hat;rw [← Ny355.out] at ho;have n_ := Z25;clear BK347 HB HO_5;obtain ⟨BK347,HB,HO357⟩ := n_;clear ho hb hg hat))
           go_roundg kj5
           case measure => have := HK1.out;have := HJ5.out;omega
           case rel => exact ⟨(y355),(wrap64 (x6_1 + 1)),Z86,H',⟨by have := HK1.out;have := HJ5.out;omega⟩,⟨by (with_reducible repeat (first | apply Kd.R_alloc | apply Kd.R_drewN | apply Kd.R_drew));exact HO357.out⟩,⟨Z146⟩,⟨Z123⟩⟩
          ·rw [if_neg c16] at H
           exact absurd H Z150
         ·rw [if_neg c15] at H
          exact absurd H Z150
        ·rw [if_neg c14] at H
         have c14b0 : decide (a1 < ((rd_L3 l0_2 x6_1).length : Int)) = false := decide_eq_false c14
         clear c14
         by_cases c19 : x5_1.length < 17592186044416
         ·rw [if_pos c19] at H
          have LMc19 := Aside0.mk c19
          clear c19
          obtain ⟨y358,hy358⟩ : ∃ y_ : List Int,y_ = (x5_1 ++ [0]) := ⟨_,rfl⟩
          replace H : (spec_Column.l0 kj5 a1 y358 (wrap64 (x6_1 + 1)) l0_0 a0_1 l0_2 l0_3) = some r := by first | (rw [hy358];with_reducible exact H) | (have H2_ := (Option.bind_some _ _).symm.trans H;rw [hy358];with_reducible exact H2_) | (have H2_ := (Option.bind_some _ _).symm.trans H;with_reducible exact H2_) | with_reducible exact H | (rw [hy358];exact H) | exact H
          have Ny358 := Aside0.mk hy358
          clear hy358
          have H' := Aside0.mk H
          clear H
          obtain ⟨hcz20_0,hcz20_1,hcz20_2,hcz20_3,hfz20_0,hfz20_1,hfz20_2,hfz20_3⟩ := cells4 BK347.out
          have p352 : 0 ≤ (x6_1 : Int) := of_decide_eq_true Z85
          have q352 : x6_1 < (l0_2.length : Int) := of_decide_eq_true Z85
          obtain ⟨ad352,A352_0,c352_0,e352,hx352_0,hl352_0,hi352_0⟩ := at_L3 HR0_2.out x6_1 p352 q352
          cases e352
          replace hx352_0 := (HB.out.cell (World.block_lt_of_cell? w _ hx352_0)).trans hx352_0
          have HR352_0 := Aside0.mk hi352_0
          have HC352_0 := Aside0.mk hl352_0
          clear hi352_0 hl352_0
          replace p352 := eq_true p352
          replace q352 := eq_true q352
          go_wp2_with (first | ((with_reducible refine gate_builtin (b := .append) (xs := #[.tmp 42,.tmp 43]) rfl ?_);(try (refine gate_guard Z103 ?_;dsimp only));at_builtin;refine Kd.R_append (Kd.int .i64) (w0 := w) w.heap.size rfl (.tmp 42) (.tmp 43) 34 3 (.int .i64 0) 8 rfl Try.underlying34 info3 rfl Z154 Z149 u5 x5_1 0 [.int .i64 0] (fun _ => True) (fun _ => False) rfl rfl ?aP (fun _ hk => hk.elim) ?aF ?aO ?aB ?aS ?aL ?_;(case aP => exact rfl);(case aB => exact Z44);(case aF => exact Z98);(case aO => exact Z61);(case aS => exact Z39);(case aL => have := LMc19.out;omega);intro v359 w21 ho hb hg hat;rw [← Ny358.out] at ho;have n_ := Z25;clear BK347 HB HO_5;obtain ⟨BK347,HB,HO360⟩ := n_;clear ho hb hg hat))
          go_roundg kj5
          case measure => have := HK1.out;have := HJ5.out;omega
          case rel => exact ⟨(y358),(wrap64 (x6_1 + 1)),Z86,H',⟨by have := HK1.out;have := HJ5.out;omega⟩,⟨by (with_reducible repeat (first | apply Kd.R_alloc | apply Kd.R_drewN | apply Kd.R_drew));exact HO360.out⟩,⟨Z146⟩,⟨Z123⟩⟩
         ·rw [if_neg c19] at H
          exact absurd H Z150
       ·rw [if_neg c13] at H
        exact absurd H Z150
      ·rw [if_neg c12] at H
       exact absurd H Z150
     ·replace c11 := Bool.eq_false_iff.mpr c11
      subst c11
      rw [if_neg Bool.false_ne_true] at H
      obtain rfl := Option.some.inj H
      go_wp2
      go_ret
      exact ⟨_,Z77,Z140,Z123⟩

end Go.Proofs.Ytiacoiiapmfaeaa.QFnColumn
