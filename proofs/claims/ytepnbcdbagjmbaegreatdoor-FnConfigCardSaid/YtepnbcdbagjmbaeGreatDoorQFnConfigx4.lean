/- The machine side of FnConfig: what each Go function that it reaches comes to. Conditions: none. -/
import Derived.Test.YtepnbcdbagjmbaeGreatDoorQFnConfigx0
import Derived.Test.YtepnbcdbagjmbaeGreatDoorQFnConfigx2
import Derived.Test.YtepnbcdbagjmbaeGreatDoorQFnConfigx3
namespace Go.Proofs.YtepnbcdbagjmbaeGreatDoor.QFnConfig
open Go.RowKit Go.Proofs.YtepnbcdbagjmbaeGreatDoorW.PrintWords Go.Proofs.YtepnbcdbagjmbaeGreatDoorW.PrintLast Go.Proofs.YtepnbcdbagjmbaeGreatDoorW.PrintMore
attribute [local go_sem] max2_int min2_int max_two min_two max_three min_three max_four min_four   -- for this text's walks alone
set_option linter.unusedVariables false
set_option linter.unusedSimpArgs false

/-! ### spec_l8Bent: function 15 -/
def spec_l8Bent.f (k : Nat) (s0_0 : List Int) (s0_1 : Int) (s0_2 : Int) : Option (Int × Int × Int × Int × Int × Int × Int × List Int × Int × Int) := (spec_l8Right.f k s0_0 s0_1 s0_2).bind fun bt168 => ((spec_l1Below.f s0_0 bt168.2.2.2.2.2.2.2.2.1 bt168.2.2.2.2.2.2.2.2.2 12).bind fun bt181 => (if bt181.1 = 0 then ((spec_l1PickInt.f s0_0 bt181.2.1 bt181.2.2 (([0,1,8,9,(-1)] : List Int))).bind fun bt187 => (some (bt187.1,bt168.2.1,bt168.2.2.1,bt168.2.2.2.1,bt168.2.2.2.2.1,bt168.2.2.2.2.2.1,bt168.2.2.2.2.2.2.1,bt168.2.2.2.2.2.2.2.1,bt187.2.1,bt187.2.2))) else (if bt181.1 = 1 then ((spec_l1PickInt.f s0_0 bt181.2.1 bt181.2.2 (([(-1),0,4,5] : List Int))).bind fun bt193 => (some (bt168.1,bt193.1,bt168.2.2.1,bt168.2.2.2.1,bt168.2.2.2.2.1,bt168.2.2.2.2.2.1,bt168.2.2.2.2.2.2.1,bt168.2.2.2.2.2.2.2.1,bt193.2.1,bt193.2.2))) else (if bt181.1 = 2 then ((spec_l1PickInt.f s0_0 bt181.2.1 bt181.2.2 (([1,2,8,9] : List Int))).bind fun bt199 => (some (bt168.1,bt168.2.1,bt199.1,bt168.2.2.2.1,bt168.2.2.2.2.1,bt168.2.2.2.2.2.1,bt168.2.2.2.2.2.2.1,bt168.2.2.2.2.2.2.2.1,bt199.2.1,bt199.2.2))) else (if bt181.1 = 3 then ((spec_l1PickInt.f s0_0 bt181.2.1 bt181.2.2 (([0,1,100,101,9223372036854775807] : List Int))).bind fun bt205 => (some (bt168.1,bt168.2.1,bt168.2.2.1,bt205.1,bt168.2.2.2.2.1,bt168.2.2.2.2.2.1,bt168.2.2.2.2.2.2.1,bt168.2.2.2.2.2.2.2.1,bt205.2.1,bt205.2.2))) else (if bt181.1 = 4 then ((spec_l1PickInt.f s0_0 bt181.2.1 bt181.2.2 (([0,1,20,21] : List Int))).bind fun bt211 => (some (bt168.1,bt168.2.1,bt168.2.2.1,bt168.2.2.2.1,bt211.1,bt168.2.2.2.2.2.1,bt168.2.2.2.2.2.2.1,bt168.2.2.2.2.2.2.2.1,bt211.2.1,bt211.2.2))) else (if bt181.1 = 5 then ((spec_l1PickInt.f s0_0 bt181.2.1 bt181.2.2 (([0,1,bt168.2.2.2.2.2.2.1,wrap64 (bt168.2.2.2.2.2.2.1 + 1),(-1)] : List Int))).bind fun bt217 => (some (bt168.1,bt168.2.1,bt168.2.2.1,bt168.2.2.2.1,bt168.2.2.2.2.1,bt217.1,bt168.2.2.2.2.2.2.1,bt168.2.2.2.2.2.2.2.1,bt217.2.1,bt217.2.2))) else (if bt181.1 = 6 then ((spec_l1PickInt.f s0_0 bt181.2.1 bt181.2.2 (([0,1,1000,1001,9223372036854775807] : List Int))).bind fun bt223 => (some (bt168.1,bt168.2.1,bt168.2.2.1,bt168.2.2.2.1,bt168.2.2.2.2.1,bt168.2.2.2.2.2.1,bt223.1,bt168.2.2.2.2.2.2.2.1,bt223.2.1,bt223.2.2))) else (if bt181.1 = 7 then ((spec_l1Below.f s0_0 bt181.2.1 bt181.2.2 5).bind fun bt226 => (if bt168.2.2.2.2.2.2.2.1.length < 17592186044416 then (some (bt168.1,bt168.2.1,bt168.2.2.1,bt168.2.2.2.1,bt168.2.2.2.2.1,bt168.2.2.2.2.2.1,bt168.2.2.2.2.2.2.1,(bt168.2.2.2.2.2.2.2.1 ++ [wrap64 (bt226.1 - 2)]),bt226.2.1,bt226.2.2)) else (none))) else (some (bt168.1,bt168.2.1,bt168.2.2.1,bt168.2.2.2.1,bt168.2.2.2.2.1,bt168.2.2.2.2.2.1,bt168.2.2.2.2.2.2.1,bt168.2.2.2.2.2.2.2.1,bt181.2.1,bt181.2.2)))))))))))
theorem spec_l8Bent.mono : ∀ a0 a1 a2 k,LeO (spec_l8Bent.f k a0 a1 a2) (spec_l8Bent.f (k + 1) a0 a1 a2) := by
 intro a0 a1 a2 k
 unfold spec_l8Bent.f
 repeat' first
   | (with_reducible exact spec_l8Right.mono _ _ _ _)
   | (with_reducible exact LeO.refl _)
   | (with_reducible exact LeO.none _)
   | (with_reducible refine LeO.ite ?_ ?_)
   | (with_reducible refine LeO.bind ?_ (fun _ => ?_))
   | exact spec_l8Right.mono _ _ _ _
   | exact LeO.none _
   | refine LeO.ite ?_ ?_
   | refine LeO.bind ?_ (fun _ => ?_)
def spec_l8Bent.T18 : Bool × List (List Nat × List Nat) := (true,[([],[]),([0],[0]),([],[]),([2],[2]),([3],[3]),([4],[4]),([1,5,3],[1,5]),([0,1,2,3,4,5,6],[]),([7,6,6,0,1,2,3,4,5,6],[6,7])])
def spec_l8Bent.B18 : List Nat := [0,1,0,4,12,28,63,127,255]
theorem spec_l8Bent.tab18 : rtab .any (opsOf Tryz.f15 18) = spec_l8Bent.T18 := by kernel_rfl
theorem spec_l8Bent.bits18 : waitsOk spec_l8Bent.T18.2 spec_l8Bent.B18 = true := by kernel_rfl
set_option maxHeartbeats 8000000 in
set_option maxRecDepth 100000 in
theorem spec_l8Bent.calls (k : Nat) (g : Nat) (s0_0 : List Int) (s0_1 : Int) (s0_2 : Int) (r1 : Int) (r2 : Int) (r3 : Int) (r4 : Int) (r5 : Int) (r6 : Int) (r7 : Int) (r8 : List Int) (r9 : Int) (r10 : Int) (w0 w : World) (hI : IsS65 w0 w g s0_0 s0_1 s0_2) (hB : Below w0.heap.size w0 w) (h : spec_l8Bent.f k s0_0 s0_1 s0_2 = some (r1,r2,r3,r4,r5,r6,r7,r8,r9,r10)) :
  Calls Tryz.prog 15 #[.pointer (some ⟨g,0,none⟩)] w fun e w' => ∃ v7_ : Value,e = .returned (.agg #[.int .i64 r1,.int .i64 r2,.int .i64 r3,.int .i64 r4,.int .i64 r5,.int .i64 r6,.int .i64 r7,v7_]) ∧ Kd.R (Kd.int .i64) 3 w' w.heap.size (fun _ => True) v7_ r8 ∧ IsS65 w0 w' g s0_0 r9 r10 ∧ Below w0.heap.size w0 w' ∧ KeepBut w w' g none := by
 have hu26 := Tryz.underlying26
 have HI0 := Aside0.mk hI
 have HK := Aside0.mk (KeepBut.refl w g none)
 have HL := Aside0.mk hB.size
 clear hI
 have HW0 := Aside0.mk hB.size
 have HB := Aside0.mk hB
 clear hB
 have H := h
 clear h
 unfold spec_l8Bent.f at H
 obtain ⟨⟨t168,t169,t170,t171,t172,t173,t174,t175,t178,t179⟩,A20,H⟩ := Option.bind_eq_some_iff.mp H
 try dsimp only at H
 have A2 := Aside0.mk A20
 clear A20
 obtain ⟨⟨t181,t182,t183⟩,A30,H⟩ := Option.bind_eq_some_iff.mp H
 try dsimp only at H
 have A3 := Aside0.mk A30
 clear A30
 by_cases c4 : t181 = 0
 ·rw [if_pos c4] at H
  have c4b0 : (t181 == 0) = true := beq_iff_eq.mpr c4
  have c4b1 : (t181 != 0) = false := bne_eq_false_iff_eq.mpr c4
  clear c4
  obtain ⟨y184,hyy⟩ : ∃ y_ : List Int,y_ = (([0,1,8,9,(-1)] : List Int)) := ⟨_,rfl⟩
  replace H : ((spec_l1PickInt.f s0_0 t182 t183 y184).bind fun bt187 => (some (bt187.1,t169,t170,t171,t172,t173,t174,t175,bt187.2.1,bt187.2.2))) = some (r1,r2,r3,r4,r5,r6,r7,r8,r9,r10) := zR
  have Ny184 := Aside0.mk hyy
  clear hyy
  obtain ⟨⟨t187,t188,t189⟩,A50,H⟩ := Option.bind_eq_some_iff.mp H
  try dsimp only at H
  have A5 := Aside0.mk A50
  clear A50
  simp only [Option.some.injEq,Prod.mk.injEq] at H
  obtain ⟨rfl,rfl,rfl,rfl,rfl,rfl,rfl,rfl,rfl,rfl⟩ := H
  go_enter Tryz.func15,Tryz.ntmps15
  go_wp2_with (first | ((with_reducible refine gate_dst (N := 2) rfl ?_);refine bE 2 #[.int .i64 0,.int .i64 0,.int .i64 0,.int .i64 0,.int .i64 0,.int .i64 0,.int .i64 0,.slice none 0 0] 26 (h := ?_);intro gb167 hg wq1 hbox hb;have n_ := Z14;clear HI0 HK HB;obtain ⟨HI0,HK,HB,BK167,GW167,GE167,NB0_167,NB167_0⟩ := n_;clear hb hbox hg) | ((with_reducible refine gate_callee (f := 43) rfl ?_);refine goesL_ (some 5) rfl rfl Tryz.func43 Z190 rfl #[.pointer (some ⟨g,0,none⟩)] rfl Z130 ?_;(with_reducible refine (spec_l8Right.calls k g s0_0 s0_1 s0_2 t168 t169 t170 t171 t172 t173 t174 t175 t178 t179 w0 _ ?side1 ?side2 A2.out).mono ?_);(case side1 => exact Z227);(case side2 => exact Z228);rintro e wq2 ⟨vq3,rfl,hoq4,hi,hb,hk⟩;refine ⟨_,rfl,?_⟩;have n_ := Z42;clear BK167 HK HB HI0;obtain ⟨BK167,HO177,HK,HB,HI0⟩ := n_;(try clear hb);(try clear hb2);(try clear hk);(try clear hi);(try clear hoq4)) | ((with_reducible refine gate_dst (N := 3) rfl ?_);refine bE 3 #[.int .i64 0,.int .i64 0,.int .i64 0,.int .i64 0,.int .i64 0,.int .i64 0,.int .i64 0,.slice none 0 0] 26 (h := ?_);intro gb180 hg wq5 hbox hb;have n_ := Z9;clear HO177 HI0 BK167 HK HB;obtain ⟨HO177,HI0,BK167,HK,HB,BK180,GW180,GE180,NB167_180,NB180_167,NB0_180,NB180_0⟩ := n_;clear hb hbox hg;have hnbq6 := NB180_167.out;have hncq6 := NB167_180.out;have hnbq7 := NB180_0.out;have hncq7 := NB0_180.out;obtain ⟨hczq8_0,hczq8_1,hczq8_2,hczq8_3,hczq8_4,hczq8_5,hczq8_6,hczq8_7,hfzq8_0,hfzq8_1,hfzq8_2,hfzq8_3,hfzq8_4,hfzq8_5,hfzq8_6,hfzq8_7⟩ := cells8 BK180.out;obtain ⟨Aoq9,coq9,eoq9⟩ := Kd.R_slice HO177.out;subst eoq9) | ((with_reducible refine gate_callee (f := 44) rfl ?_);refine goesL_ (some 7) rfl rfl Tryz.func44 Z190 rfl #[.pointer (some ⟨g,0,none⟩),.int .i64 12] rfl Z130 ?_;(with_reducible refine (spec_l1Below.calls g s0_0 t178 t179 12 t181 t182 t183 w0 _ ?side1 ?side2 A3.out).mono ?_);(case side1 => exact Z207);(case side2 => exact Z213);rintro e wq10 ⟨rfl,hi,hb,hk⟩;refine ⟨_,rfl,?_⟩;have n_ := Z7;clear BK167 HO177 BK180 HK HB HI0;obtain ⟨BK167,HO177,BK180,HK,HB,HI0⟩ := n_;(try clear hb);(try clear hb2);(try clear hk);(try clear hi)) | ((with_reducible refine gate_dst (N := 11) rfl ?_);refine Kd.R_lit (Kd.int .i64) _ 3 ?hg (N := 11) ?hd (xs := ([0,1,8,9,(-1)] : List Int)) (inner := [.int .i64 0,.int .i64 1,.int .i64 8,.int .i64 9,.int .i64 (-1)]) (ok := fun _ => True) (okp := fun _ => True) ?hr ?hp (fun _ hk => hk) trivial (Below.refl _ _) (Nat.le_refl _) Z286 ?_;(case hd => rfl);(case hg => rfl);(case hr => exact Z166);(case hp => exact (Reps.one (show Kd.M (Kd.int .i64) _ _ _ 0 [.int .i64 0] from rfl) (Reps.one (show Kd.M (Kd.int .i64) _ _ _ 1 [.int .i64 1] from rfl) (Reps.one (show Kd.M (Kd.int .i64) _ _ _ 8 [.int .i64 8] from rfl) (Reps.one (show Kd.M (Kd.int .i64) _ _ _ 9 [.int .i64 9] from rfl) (Reps.one (show Kd.M (Kd.int .i64) _ _ _ (-1) [.int .i64 (-1)] from rfl) (Reps.none _ _)))))));intro vq11 wq12 hoq13 hb hg_ hnew_;clear hg_ hnew_;(first | rw [← Ny184.out] at hoq13 | (simp only [Int.reduceToNat] at hoq13;rw [← Ny184.out] at hoq13));have n_ := Z13;clear HO177 HI0 BK167 BK180 HK HB;obtain ⟨HO177,HO186,HI0,BK167,BK180,HK,HB⟩ := n_;clear hb hoq13;obtain ⟨Aoq14,coq14,eoq14⟩ := Kd.R_slice HO186.out;subst eoq14) | ((with_reducible refine gate_callee (f := 45) rfl ?_);refine goesL_ (some 12) rfl rfl Tryz.func45 Z190 rfl #[.pointer (some ⟨g,0,none⟩),.slice Aoq14 y184.length coq14] rfl Z130 ?_;(with_reducible refine (spec_l1PickInt.calls g s0_0 t182 t183 _ _ y184 t187 t188 t189 w0 _ ?side1 ?side2 ?side3 ?side4 ?side5 A5.out).mono ?_);(case side1 => exact Z207);(case side2 => exact Z213);(case side3 => repeat (first | exact (Kd.R_reads' HO186.out).2.2 | (with_reducible refine Kd.C_alloc ?_ _) | (with_reducible refine Kd.C_drewN ?_ _) | (with_reducible refine Kd.C_drew ?_)));(case side4 => exact (Kd.R_reads' HO186.out).2.1);(case side5 => exact far_slice (IsS65.own_ne HI0.out HO186.out Z306));rintro e wq15 ⟨rfl,hi,hb,hk⟩;refine ⟨_,rfl,?_⟩;have n_ := jA (KeepBut.blk hk (g' := gb167) (o := .cells #[.int .i64 0,.int .i64 0,.int .i64 0,.int .i64 0,.int .i64 0,.int .i64 0,.int .i64 0,.slice none 0 0] 26 (0,0)) Z272 NB167_0.out Z286) (jA (Kd.R_mono (Kd.R_keep (IsS65.apart (show IsS65 w0 _ g s0_0 t182 t183 from Z207) Z256 Z306) hk (fun _ h => h.2)) (fun _ h => h.1)) (jA (KeepBut.blk hk (g' := gb180) (o := .cells #[.int .i64 t168,.int .i64 t169,.int .i64 t170,.int .i64 t171,.int .i64 t172,.int .i64 t173,.int .i64 t174,.slice Aoq9 t175.length coq9] 26 (0,0)) Z278 NB180_0.out Z286) (jA (Kd.R_mono (Kd.R_keep (IsS65.apart (show IsS65 w0 _ g s0_0 t182 t183 from Z207) (by (with_reducible repeat (first | apply Kd.R_alloc | apply Kd.R_drewN | apply Kd.R_drew));exact HO186.out) Z306) hk (fun _ h => h.2)) (fun _ h => h.1)) (jA (KeepBut.trans Z220 hk (.inl rfl)) (jA (hb) (Aside0.mk (hi)))))));clear BK167 HO177 BK180 HO186 HK HB HI0;obtain ⟨BK167,HO177,BK180,HO186,HK,HB,HI0⟩ := n_;(try clear hb);(try clear hb2);(try clear hk);(try clear hi);obtain ⟨hczq16_0,hczq16_1,hczq16_2,hczq16_3,hczq16_4,hczq16_5,hczq16_6,hczq16_7,hfzq16_0,hfzq16_1,hfzq16_2,hfzq16_3,hfzq16_4,hfzq16_5,hfzq16_6,hfzq16_7⟩ := cells8 BK180.out;have hnbq17 := NB167_0.out;have hncq17 := NB0_167.out;obtain ⟨hczq18_0,hczq18_1,hczq18_2,hczq18_3,hczq18_4,hczq18_5,hczq18_6,hczq18_7,hfzq18_0,hfzq18_1,hfzq18_2,hfzq18_3,hfzq18_4,hfzq18_5,hfzq18_6,hfzq18_7⟩ := cells8 BK167.out))
  refine bodyPost_ret (results_cell_row rfl _ _ gb167 26 #[.int .i64 t187,.int .i64 t169,.int .i64 t170,.int .i64 t171,.int .i64 t172,.int .i64 t173,.int .i64 t174,.slice Aoq9 t175.length coq9] (0,0) _ rfl (by refine bP ?_;refine blk_put (cs := #[.int .i64 t187,.int .i64 t169,.int .i64 t170,.int .i64 t171,.int .i64 t172,.int .i64 t173,.int .i64 t174,.slice none 0 0]) ?_ 7 _ rfl;refine bP ?_;refine blk_put (cs := #[.int .i64 t187,.int .i64 t169,.int .i64 t170,.int .i64 t171,.int .i64 t172,.int .i64 t173,.int .i64 0,.slice none 0 0]) ?_ 6 _ rfl;refine bP ?_;refine blk_put (cs := #[.int .i64 t187,.int .i64 t169,.int .i64 t170,.int .i64 t171,.int .i64 t172,.int .i64 0,.int .i64 0,.slice none 0 0]) ?_ 5 _ rfl;refine bP ?_;refine blk_put (cs := #[.int .i64 t187,.int .i64 t169,.int .i64 t170,.int .i64 t171,.int .i64 0,.int .i64 0,.int .i64 0,.slice none 0 0]) ?_ 4 _ rfl;refine bP ?_;refine blk_put (cs := #[.int .i64 t187,.int .i64 t169,.int .i64 t170,.int .i64 0,.int .i64 0,.int .i64 0,.int .i64 0,.slice none 0 0]) ?_ 3 _ rfl;refine bP ?_;refine blk_put (cs := #[.int .i64 t187,.int .i64 t169,.int .i64 0,.int .i64 0,.int .i64 0,.int .i64 0,.int .i64 0,.slice none 0 0]) ?_ 2 _ rfl;refine bP ?_;refine blk_put (cs := #[.int .i64 t187,.int .i64 0,.int .i64 0,.int .i64 0,.int .i64 0,.int .i64 0,.int .i64 0,.slice none 0 0]) ?_ 1 _ rfl;refine bP ?_;refine blk_put (cs := #[.int .i64 0,.int .i64 0,.int .i64 0,.int .i64 0,.int .i64 0,.int .i64 0,.int .i64 0,.slice none 0 0]) ?_ 0 _ rfl;refine bP ?_;refine blk_far ?_ NB167_180.out _;refine bP ?_;exact BK167.out) Tryz.underlying26 rfl Z190) rfl ?_
  exact ⟨_,Z152,by (with_reducible repeat (first | apply Kd.R_alloc | apply Kd.R_drewN | apply Kd.R_drew));exact Kd.R_mono (Kd.R_far (p := ⟨gb167,7,none⟩) (Kd.R_far (p := ⟨gb167,6,none⟩) (Kd.R_far (p := ⟨gb167,5,none⟩) (Kd.R_far (p := ⟨gb167,4,none⟩) (Kd.R_far (p := ⟨gb167,3,none⟩) (Kd.R_far (p := ⟨gb167,2,none⟩) (Kd.R_far (p := ⟨gb167,1,none⟩) (Kd.R_far (p := ⟨gb167,0,none⟩) (Kd.R_far (p := ⟨gb180,0,none⟩) (Kd.R_types (Kd.R_types HO177.out BK180.out Z306) BK167.out Z306) (fun _ hk => hk.1.2) (.int .i64 t187)) (fun _ hk => hk.2) (.int .i64 t187)) (fun _ hk => hk.2) (.int .i64 t169)) (fun _ hk => hk.2) (.int .i64 t170)) (fun _ hk => hk.2) (.int .i64 t171)) (fun _ hk => hk.2) (.int .i64 t172)) (fun _ hk => hk.2) (.int .i64 t173)) (fun _ hk => hk.2) (.int .i64 t174)) (fun _ hk => hk.2) (.slice Aoq9 t175.length coq9)) (fun _ hk => trivial),Z207,Z213,Z220⟩
 rw [if_neg c4] at H
 have c4b0 : (t181 == 0) = false := beq_eq_false_iff_ne.mpr c4
 have c4b1 : (t181 != 0) = true := bne_iff_ne.mpr c4
 by_cases c21 : t181 = 1
 ·rw [if_pos c21] at H
  have c21b0 : (t181 == 1) = true := beq_iff_eq.mpr c21
  have c21b1 : (t181 != 1) = false := bne_eq_false_iff_eq.mpr c21
  clear c21
  obtain ⟨y190,hyy⟩ : ∃ y_ : List Int,y_ = (([(-1),0,4,5] : List Int)) := ⟨_,rfl⟩
  replace H : ((spec_l1PickInt.f s0_0 t182 t183 y190).bind fun bt193 => (some (t168,bt193.1,t170,t171,t172,t173,t174,t175,bt193.2.1,bt193.2.2))) = some (r1,r2,r3,r4,r5,r6,r7,r8,r9,r10) := zR
  have Ny190 := Aside0.mk hyy
  clear hyy
  obtain ⟨⟨t193,t194,t195⟩,A220,H⟩ := Option.bind_eq_some_iff.mp H
  try dsimp only at H
  have A22 := Aside0.mk A220
  clear A220
  simp only [Option.some.injEq,Prod.mk.injEq] at H
  obtain ⟨rfl,rfl,rfl,rfl,rfl,rfl,rfl,rfl,rfl,rfl⟩ := H
  go_enter Tryz.func15,Tryz.ntmps15
  go_wp2_with (first | ((with_reducible refine gate_dst (N := 2) rfl ?_);refine bE 2 #[.int .i64 0,.int .i64 0,.int .i64 0,.int .i64 0,.int .i64 0,.int .i64 0,.int .i64 0,.slice none 0 0] 26 (h := ?_);intro gb167 hg wq1 hbox hb;have n_ := Z14;clear HI0 HK HB;obtain ⟨HI0,HK,HB,BK167,GW167,GE167,NB0_167,NB167_0⟩ := n_;clear hb hbox hg) | ((with_reducible refine gate_callee (f := 43) rfl ?_);refine goesL_ (some 5) rfl rfl Tryz.func43 Z190 rfl #[.pointer (some ⟨g,0,none⟩)] rfl Z130 ?_;(with_reducible refine (spec_l8Right.calls k g s0_0 s0_1 s0_2 t168 t169 t170 t171 t172 t173 t174 t175 t178 t179 w0 _ ?side1 ?side2 A2.out).mono ?_);(case side1 => exact Z227);(case side2 => exact Z228);rintro e wq2 ⟨vq3,rfl,hoq4,hi,hb,hk⟩;refine ⟨_,rfl,?_⟩;have n_ := Z42;clear BK167 HK HB HI0;obtain ⟨BK167,HO177,HK,HB,HI0⟩ := n_;(try clear hb);(try clear hb2);(try clear hk);(try clear hi);(try clear hoq4)) | ((with_reducible refine gate_dst (N := 3) rfl ?_);refine bE 3 #[.int .i64 0,.int .i64 0,.int .i64 0,.int .i64 0,.int .i64 0,.int .i64 0,.int .i64 0,.slice none 0 0] 26 (h := ?_);intro gb180 hg wq5 hbox hb;have n_ := Z9;clear HO177 HI0 BK167 HK HB;obtain ⟨HO177,HI0,BK167,HK,HB,BK180,GW180,GE180,NB167_180,NB180_167,NB0_180,NB180_0⟩ := n_;clear hb hbox hg;have hnbq6 := NB180_167.out;have hncq6 := NB167_180.out;have hnbq7 := NB180_0.out;have hncq7 := NB0_180.out;obtain ⟨hczq8_0,hczq8_1,hczq8_2,hczq8_3,hczq8_4,hczq8_5,hczq8_6,hczq8_7,hfzq8_0,hfzq8_1,hfzq8_2,hfzq8_3,hfzq8_4,hfzq8_5,hfzq8_6,hfzq8_7⟩ := cells8 BK180.out;obtain ⟨Aoq9,coq9,eoq9⟩ := Kd.R_slice HO177.out;subst eoq9) | ((with_reducible refine gate_callee (f := 44) rfl ?_);refine goesL_ (some 7) rfl rfl Tryz.func44 Z190 rfl #[.pointer (some ⟨g,0,none⟩),.int .i64 12] rfl Z130 ?_;(with_reducible refine (spec_l1Below.calls g s0_0 t178 t179 12 t181 t182 t183 w0 _ ?side1 ?side2 A3.out).mono ?_);(case side1 => exact Z207);(case side2 => exact Z213);rintro e wq10 ⟨rfl,hi,hb,hk⟩;refine ⟨_,rfl,?_⟩;have n_ := Z7;clear BK167 HO177 BK180 HK HB HI0;obtain ⟨BK167,HO177,BK180,HK,HB,HI0⟩ := n_;(try clear hb);(try clear hb2);(try clear hk);(try clear hi)) | ((with_reducible refine gate_dst (N := 17) rfl ?_);refine Kd.R_lit (Kd.int .i64) _ 3 ?hg (N := 17) ?hd (xs := ([(-1),0,4,5] : List Int)) (inner := [.int .i64 (-1),.int .i64 0,.int .i64 4,.int .i64 5]) (ok := fun _ => True) (okp := fun _ => True) ?hr ?hp (fun _ hk => hk) trivial (Below.refl _ _) (Nat.le_refl _) Z286 ?_;(case hd => rfl);(case hg => rfl);(case hr => exact Z166);(case hp => exact (Reps.one (show Kd.M (Kd.int .i64) _ _ _ (-1) [.int .i64 (-1)] from rfl) (Reps.one (show Kd.M (Kd.int .i64) _ _ _ 0 [.int .i64 0] from rfl) (Reps.one (show Kd.M (Kd.int .i64) _ _ _ 4 [.int .i64 4] from rfl) (Reps.one (show Kd.M (Kd.int .i64) _ _ _ 5 [.int .i64 5] from rfl) (Reps.none _ _))))));intro vq11 wq12 hoq13 hb hg_ hnew_;clear hg_ hnew_;(first | rw [← Ny190.out] at hoq13 | (simp only [Int.reduceToNat] at hoq13;rw [← Ny190.out] at hoq13));have n_ := Z13;clear HO177 HI0 BK167 BK180 HK HB;obtain ⟨HO177,HO192,HI0,BK167,BK180,HK,HB⟩ := n_;clear hb hoq13;obtain ⟨Aoq14,coq14,eoq14⟩ := Kd.R_slice HO192.out;subst eoq14) | ((with_reducible refine gate_callee (f := 45) rfl ?_);refine goesL_ (some 18) rfl rfl Tryz.func45 Z190 rfl #[.pointer (some ⟨g,0,none⟩),.slice Aoq14 y190.length coq14] rfl Z130 ?_;(with_reducible refine (spec_l1PickInt.calls g s0_0 t182 t183 _ _ y190 t193 t194 t195 w0 _ ?side1 ?side2 ?side3 ?side4 ?side5 A22.out).mono ?_);(case side1 => exact Z207);(case side2 => exact Z213);(case side3 => repeat (first | exact (Kd.R_reads' HO192.out).2.2 | (with_reducible refine Kd.C_alloc ?_ _) | (with_reducible refine Kd.C_drewN ?_ _) | (with_reducible refine Kd.C_drew ?_)));(case side4 => exact (Kd.R_reads' HO192.out).2.1);(case side5 => exact far_slice (IsS65.own_ne HI0.out HO192.out Z306));rintro e wq15 ⟨rfl,hi,hb,hk⟩;refine ⟨_,rfl,?_⟩;have n_ := jA (KeepBut.blk hk (g' := gb167) (o := .cells #[.int .i64 0,.int .i64 0,.int .i64 0,.int .i64 0,.int .i64 0,.int .i64 0,.int .i64 0,.slice none 0 0] 26 (0,0)) Z272 NB167_0.out Z286) (jA (Kd.R_mono (Kd.R_keep (IsS65.apart (show IsS65 w0 _ g s0_0 t182 t183 from Z207) Z256 Z306) hk (fun _ h => h.2)) (fun _ h => h.1)) (jA (KeepBut.blk hk (g' := gb180) (o := .cells #[.int .i64 t168,.int .i64 t169,.int .i64 t170,.int .i64 t171,.int .i64 t172,.int .i64 t173,.int .i64 t174,.slice Aoq9 t175.length coq9] 26 (0,0)) Z278 NB180_0.out Z286) (jA (Kd.R_mono (Kd.R_keep (IsS65.apart (show IsS65 w0 _ g s0_0 t182 t183 from Z207) (by (with_reducible repeat (first | apply Kd.R_alloc | apply Kd.R_drewN | apply Kd.R_drew));exact HO192.out) Z306) hk (fun _ h => h.2)) (fun _ h => h.1)) (jA (KeepBut.trans Z220 hk (.inl rfl)) (jA (hb) (Aside0.mk (hi)))))));clear BK167 HO177 BK180 HO192 HK HB HI0;obtain ⟨BK167,HO177,BK180,HO192,HK,HB,HI0⟩ := n_;(try clear hb);(try clear hb2);(try clear hk);(try clear hi);obtain ⟨hczq16_0,hczq16_1,hczq16_2,hczq16_3,hczq16_4,hczq16_5,hczq16_6,hczq16_7,hfzq16_0,hfzq16_1,hfzq16_2,hfzq16_3,hfzq16_4,hfzq16_5,hfzq16_6,hfzq16_7⟩ := cells8 BK180.out;have hnbq17 := NB167_0.out;have hncq17 := NB0_167.out;obtain ⟨hczq18_0,hczq18_1,hczq18_2,hczq18_3,hczq18_4,hczq18_5,hczq18_6,hczq18_7,hfzq18_0,hfzq18_1,hfzq18_2,hfzq18_3,hfzq18_4,hfzq18_5,hfzq18_6,hfzq18_7⟩ := cells8 BK167.out))
  refine bodyPost_ret (results_cell_row rfl _ _ gb167 26 #[.int .i64 t168,.int .i64 t193,.int .i64 t170,.int .i64 t171,.int .i64 t172,.int .i64 t173,.int .i64 t174,.slice Aoq9 t175.length coq9] (0,0) _ rfl (by refine bP ?_;refine blk_put (cs := #[.int .i64 t168,.int .i64 t193,.int .i64 t170,.int .i64 t171,.int .i64 t172,.int .i64 t173,.int .i64 t174,.slice none 0 0]) ?_ 7 _ rfl;refine bP ?_;refine blk_put (cs := #[.int .i64 t168,.int .i64 t193,.int .i64 t170,.int .i64 t171,.int .i64 t172,.int .i64 t173,.int .i64 0,.slice none 0 0]) ?_ 6 _ rfl;refine bP ?_;refine blk_put (cs := #[.int .i64 t168,.int .i64 t193,.int .i64 t170,.int .i64 t171,.int .i64 t172,.int .i64 0,.int .i64 0,.slice none 0 0]) ?_ 5 _ rfl;refine bP ?_;refine blk_put (cs := #[.int .i64 t168,.int .i64 t193,.int .i64 t170,.int .i64 t171,.int .i64 0,.int .i64 0,.int .i64 0,.slice none 0 0]) ?_ 4 _ rfl;refine bP ?_;refine blk_put (cs := #[.int .i64 t168,.int .i64 t193,.int .i64 t170,.int .i64 0,.int .i64 0,.int .i64 0,.int .i64 0,.slice none 0 0]) ?_ 3 _ rfl;refine bP ?_;refine blk_put (cs := #[.int .i64 t168,.int .i64 t193,.int .i64 0,.int .i64 0,.int .i64 0,.int .i64 0,.int .i64 0,.slice none 0 0]) ?_ 2 _ rfl;refine bP ?_;refine blk_put (cs := #[.int .i64 t168,.int .i64 0,.int .i64 0,.int .i64 0,.int .i64 0,.int .i64 0,.int .i64 0,.slice none 0 0]) ?_ 1 _ rfl;refine bP ?_;refine blk_put (cs := #[.int .i64 0,.int .i64 0,.int .i64 0,.int .i64 0,.int .i64 0,.int .i64 0,.int .i64 0,.slice none 0 0]) ?_ 0 _ rfl;refine bP ?_;refine blk_far ?_ NB167_180.out _;refine bP ?_;exact BK167.out) Tryz.underlying26 rfl Z190) rfl ?_
  exact ⟨_,Z152,by (with_reducible repeat (first | apply Kd.R_alloc | apply Kd.R_drewN | apply Kd.R_drew));exact Kd.R_mono (Kd.R_far (p := ⟨gb167,7,none⟩) (Kd.R_far (p := ⟨gb167,6,none⟩) (Kd.R_far (p := ⟨gb167,5,none⟩) (Kd.R_far (p := ⟨gb167,4,none⟩) (Kd.R_far (p := ⟨gb167,3,none⟩) (Kd.R_far (p := ⟨gb167,2,none⟩) (Kd.R_far (p := ⟨gb167,1,none⟩) (Kd.R_far (p := ⟨gb167,0,none⟩) (Kd.R_far (p := ⟨gb180,1,none⟩) (Kd.R_types (Kd.R_types HO177.out BK180.out Z306) BK167.out Z306) (fun _ hk => hk.1.2) (.int .i64 t193)) (fun _ hk => hk.2) (.int .i64 t168)) (fun _ hk => hk.2) (.int .i64 t193)) (fun _ hk => hk.2) (.int .i64 t170)) (fun _ hk => hk.2) (.int .i64 t171)) (fun _ hk => hk.2) (.int .i64 t172)) (fun _ hk => hk.2) (.int .i64 t173)) (fun _ hk => hk.2) (.int .i64 t174)) (fun _ hk => hk.2) (.slice Aoq9 t175.length coq9)) (fun _ hk => trivial),Z207,Z213,Z220⟩
 rw [if_neg c21] at H
 have c21b0 : (t181 == 1) = false := beq_eq_false_iff_ne.mpr c21
 have c21b1 : (t181 != 1) = true := bne_iff_ne.mpr c21
 by_cases c38 : t181 = 2
 ·rw [if_pos c38] at H
  have c38b0 : (t181 == 2) = true := beq_iff_eq.mpr c38
  have c38b1 : (t181 != 2) = false := bne_eq_false_iff_eq.mpr c38
  clear c38
  obtain ⟨y196,hyy⟩ : ∃ y_ : List Int,y_ = (([1,2,8,9] : List Int)) := ⟨_,rfl⟩
  replace H : ((spec_l1PickInt.f s0_0 t182 t183 y196).bind fun bt199 => (some (t168,t169,bt199.1,t171,t172,t173,t174,t175,bt199.2.1,bt199.2.2))) = some (r1,r2,r3,r4,r5,r6,r7,r8,r9,r10) := zR
  have Ny196 := Aside0.mk hyy
  clear hyy
  obtain ⟨⟨t199,t200,t201⟩,A390,H⟩ := Option.bind_eq_some_iff.mp H
  try dsimp only at H
  have A39 := Aside0.mk A390
  clear A390
  simp only [Option.some.injEq,Prod.mk.injEq] at H
  obtain ⟨rfl,rfl,rfl,rfl,rfl,rfl,rfl,rfl,rfl,rfl⟩ := H
  go_enter Tryz.func15,Tryz.ntmps15
  go_wp2_with (first | ((with_reducible refine gate_dst (N := 2) rfl ?_);refine bE 2 #[.int .i64 0,.int .i64 0,.int .i64 0,.int .i64 0,.int .i64 0,.int .i64 0,.int .i64 0,.slice none 0 0] 26 (h := ?_);intro gb167 hg wq1 hbox hb;have n_ := Z14;clear HI0 HK HB;obtain ⟨HI0,HK,HB,BK167,GW167,GE167,NB0_167,NB167_0⟩ := n_;clear hb hbox hg) | ((with_reducible refine gate_callee (f := 43) rfl ?_);refine goesL_ (some 5) rfl rfl Tryz.func43 Z190 rfl #[.pointer (some ⟨g,0,none⟩)] rfl Z130 ?_;(with_reducible refine (spec_l8Right.calls k g s0_0 s0_1 s0_2 t168 t169 t170 t171 t172 t173 t174 t175 t178 t179 w0 _ ?side1 ?side2 A2.out).mono ?_);(case side1 => exact Z227);(case side2 => exact Z228);rintro e wq2 ⟨vq3,rfl,hoq4,hi,hb,hk⟩;refine ⟨_,rfl,?_⟩;have n_ := Z42;clear BK167 HK HB HI0;obtain ⟨BK167,HO177,HK,HB,HI0⟩ := n_;(try clear hb);(try clear hb2);(try clear hk);(try clear hi);(try clear hoq4)) | ((with_reducible refine gate_dst (N := 3) rfl ?_);refine bE 3 #[.int .i64 0,.int .i64 0,.int .i64 0,.int .i64 0,.int .i64 0,.int .i64 0,.int .i64 0,.slice none 0 0] 26 (h := ?_);intro gb180 hg wq5 hbox hb;have n_ := Z9;clear HO177 HI0 BK167 HK HB;obtain ⟨HO177,HI0,BK167,HK,HB,BK180,GW180,GE180,NB167_180,NB180_167,NB0_180,NB180_0⟩ := n_;clear hb hbox hg;have hnbq6 := NB180_167.out;have hncq6 := NB167_180.out;have hnbq7 := NB180_0.out;have hncq7 := NB0_180.out;obtain ⟨hczq8_0,hczq8_1,hczq8_2,hczq8_3,hczq8_4,hczq8_5,hczq8_6,hczq8_7,hfzq8_0,hfzq8_1,hfzq8_2,hfzq8_3,hfzq8_4,hfzq8_5,hfzq8_6,hfzq8_7⟩ := cells8 BK180.out;obtain ⟨Aoq9,coq9,eoq9⟩ := Kd.R_slice HO177.out;subst eoq9) | ((with_reducible refine gate_callee (f := 44) rfl ?_);refine goesL_ (some 7) rfl rfl Tryz.func44 Z190 rfl #[.pointer (some ⟨g,0,none⟩),.int .i64 12] rfl Z130 ?_;(with_reducible refine (spec_l1Below.calls g s0_0 t178 t179 12 t181 t182 t183 w0 _ ?side1 ?side2 A3.out).mono ?_);(case side1 => exact Z207);(case side2 => exact Z213);rintro e wq10 ⟨rfl,hi,hb,hk⟩;refine ⟨_,rfl,?_⟩;have n_ := Z7;clear BK167 HO177 BK180 HK HB HI0;obtain ⟨BK167,HO177,BK180,HK,HB,HI0⟩ := n_;(try clear hb);(try clear hb2);(try clear hk);(try clear hi)) | ((with_reducible refine gate_dst (N := 23) rfl ?_);refine Kd.R_lit (Kd.int .i64) _ 3 ?hg (N := 23) ?hd (xs := ([1,2,8,9] : List Int)) (inner := [.int .i64 1,.int .i64 2,.int .i64 8,.int .i64 9]) (ok := fun _ => True) (okp := fun _ => True) ?hr ?hp (fun _ hk => hk) trivial (Below.refl _ _) (Nat.le_refl _) Z286 ?_;(case hd => rfl);(case hg => rfl);(case hr => exact Z166);(case hp => exact (Reps.one (show Kd.M (Kd.int .i64) _ _ _ 1 [.int .i64 1] from rfl) (Reps.one (show Kd.M (Kd.int .i64) _ _ _ 2 [.int .i64 2] from rfl) (Reps.one (show Kd.M (Kd.int .i64) _ _ _ 8 [.int .i64 8] from rfl) (Reps.one (show Kd.M (Kd.int .i64) _ _ _ 9 [.int .i64 9] from rfl) (Reps.none _ _))))));intro vq11 wq12 hoq13 hb hg_ hnew_;clear hg_ hnew_;(first | rw [← Ny196.out] at hoq13 | (simp only [Int.reduceToNat] at hoq13;rw [← Ny196.out] at hoq13));have n_ := Z13;clear HO177 HI0 BK167 BK180 HK HB;obtain ⟨HO177,HO198,HI0,BK167,BK180,HK,HB⟩ := n_;clear hb hoq13;obtain ⟨Aoq14,coq14,eoq14⟩ := Kd.R_slice HO198.out;subst eoq14) | ((with_reducible refine gate_callee (f := 45) rfl ?_);refine goesL_ (some 24) rfl rfl Tryz.func45 Z190 rfl #[.pointer (some ⟨g,0,none⟩),.slice Aoq14 y196.length coq14] rfl Z130 ?_;(with_reducible refine (spec_l1PickInt.calls g s0_0 t182 t183 _ _ y196 t199 t200 t201 w0 _ ?side1 ?side2 ?side3 ?side4 ?side5 A39.out).mono ?_);(case side1 => exact Z207);(case side2 => exact Z213);(case side3 => repeat (first | exact (Kd.R_reads' HO198.out).2.2 | (with_reducible refine Kd.C_alloc ?_ _) | (with_reducible refine Kd.C_drewN ?_ _) | (with_reducible refine Kd.C_drew ?_)));(case side4 => exact (Kd.R_reads' HO198.out).2.1);(case side5 => exact far_slice (IsS65.own_ne HI0.out HO198.out Z306));rintro e wq15 ⟨rfl,hi,hb,hk⟩;refine ⟨_,rfl,?_⟩;have n_ := jA (KeepBut.blk hk (g' := gb167) (o := .cells #[.int .i64 0,.int .i64 0,.int .i64 0,.int .i64 0,.int .i64 0,.int .i64 0,.int .i64 0,.slice none 0 0] 26 (0,0)) Z272 NB167_0.out Z286) (jA (Kd.R_mono (Kd.R_keep (IsS65.apart (show IsS65 w0 _ g s0_0 t182 t183 from Z207) Z256 Z306) hk (fun _ h => h.2)) (fun _ h => h.1)) (jA (KeepBut.blk hk (g' := gb180) (o := .cells #[.int .i64 t168,.int .i64 t169,.int .i64 t170,.int .i64 t171,.int .i64 t172,.int .i64 t173,.int .i64 t174,.slice Aoq9 t175.length coq9] 26 (0,0)) Z278 NB180_0.out Z286) (jA (Kd.R_mono (Kd.R_keep (IsS65.apart (show IsS65 w0 _ g s0_0 t182 t183 from Z207) (by (with_reducible repeat (first | apply Kd.R_alloc | apply Kd.R_drewN | apply Kd.R_drew));exact HO198.out) Z306) hk (fun _ h => h.2)) (fun _ h => h.1)) (jA (KeepBut.trans Z220 hk (.inl rfl)) (jA (hb) (Aside0.mk (hi)))))));clear BK167 HO177 BK180 HO198 HK HB HI0;obtain ⟨BK167,HO177,BK180,HO198,HK,HB,HI0⟩ := n_;(try clear hb);(try clear hb2);(try clear hk);(try clear hi);obtain ⟨hczq16_0,hczq16_1,hczq16_2,hczq16_3,hczq16_4,hczq16_5,hczq16_6,hczq16_7,hfzq16_0,hfzq16_1,hfzq16_2,hfzq16_3,hfzq16_4,hfzq16_5,hfzq16_6,hfzq16_7⟩ := cells8 BK180.out;have hnbq17 := NB167_0.out;have hncq17 := NB0_167.out;obtain ⟨hczq18_0,hczq18_1,hczq18_2,hczq18_3,hczq18_4,hczq18_5,hczq18_6,hczq18_7,hfzq18_0,hfzq18_1,hfzq18_2,hfzq18_3,hfzq18_4,hfzq18_5,hfzq18_6,hfzq18_7⟩ := cells8 BK167.out))
  refine bodyPost_ret (results_cell_row rfl _ _ gb167 26 #[.int .i64 t168,.int .i64 t169,.int .i64 t199,.int .i64 t171,.int .i64 t172,.int .i64 t173,.int .i64 t174,.slice Aoq9 t175.length coq9] (0,0) _ rfl (by refine bP ?_;refine blk_put (cs := #[.int .i64 t168,.int .i64 t169,.int .i64 t199,.int .i64 t171,.int .i64 t172,.int .i64 t173,.int .i64 t174,.slice none 0 0]) ?_ 7 _ rfl;refine bP ?_;refine blk_put (cs := #[.int .i64 t168,.int .i64 t169,.int .i64 t199,.int .i64 t171,.int .i64 t172,.int .i64 t173,.int .i64 0,.slice none 0 0]) ?_ 6 _ rfl;refine bP ?_;refine blk_put (cs := #[.int .i64 t168,.int .i64 t169,.int .i64 t199,.int .i64 t171,.int .i64 t172,.int .i64 0,.int .i64 0,.slice none 0 0]) ?_ 5 _ rfl;refine bP ?_;refine blk_put (cs := #[.int .i64 t168,.int .i64 t169,.int .i64 t199,.int .i64 t171,.int .i64 0,.int .i64 0,.int .i64 0,.slice none 0 0]) ?_ 4 _ rfl;refine bP ?_;refine blk_put (cs := #[.int .i64 t168,.int .i64 t169,.int .i64 t199,.int .i64 0,.int .i64 0,.int .i64 0,.int .i64 0,.slice none 0 0]) ?_ 3 _ rfl;refine bP ?_;refine blk_put (cs := #[.int .i64 t168,.int .i64 t169,.int .i64 0,.int .i64 0,.int .i64 0,.int .i64 0,.int .i64 0,.slice none 0 0]) ?_ 2 _ rfl;refine bP ?_;refine blk_put (cs := #[.int .i64 t168,.int .i64 0,.int .i64 0,.int .i64 0,.int .i64 0,.int .i64 0,.int .i64 0,.slice none 0 0]) ?_ 1 _ rfl;refine bP ?_;refine blk_put (cs := #[.int .i64 0,.int .i64 0,.int .i64 0,.int .i64 0,.int .i64 0,.int .i64 0,.int .i64 0,.slice none 0 0]) ?_ 0 _ rfl;refine bP ?_;refine blk_far ?_ NB167_180.out _;refine bP ?_;exact BK167.out) Tryz.underlying26 rfl Z190) rfl ?_
  exact ⟨_,Z152,by (with_reducible repeat (first | apply Kd.R_alloc | apply Kd.R_drewN | apply Kd.R_drew));exact Kd.R_mono (Kd.R_far (p := ⟨gb167,7,none⟩) (Kd.R_far (p := ⟨gb167,6,none⟩) (Kd.R_far (p := ⟨gb167,5,none⟩) (Kd.R_far (p := ⟨gb167,4,none⟩) (Kd.R_far (p := ⟨gb167,3,none⟩) (Kd.R_far (p := ⟨gb167,2,none⟩) (Kd.R_far (p := ⟨gb167,1,none⟩) (Kd.R_far (p := ⟨gb167,0,none⟩) (Kd.R_far (p := ⟨gb180,2,none⟩) (Kd.R_types (Kd.R_types HO177.out BK180.out Z306) BK167.out Z306) (fun _ hk => hk.1.2) (.int .i64 t199)) (fun _ hk => hk.2) (.int .i64 t168)) (fun _ hk => hk.2) (.int .i64 t169)) (fun _ hk => hk.2) (.int .i64 t199)) (fun _ hk => hk.2) (.int .i64 t171)) (fun _ hk => hk.2) (.int .i64 t172)) (fun _ hk => hk.2) (.int .i64 t173)) (fun _ hk => hk.2) (.int .i64 t174)) (fun _ hk => hk.2) (.slice Aoq9 t175.length coq9)) (fun _ hk => trivial),Z207,Z213,Z220⟩
 rw [if_neg c38] at H
 have c38b0 : (t181 == 2) = false := beq_eq_false_iff_ne.mpr c38
 have c38b1 : (t181 != 2) = true := bne_iff_ne.mpr c38
 by_cases c55 : t181 = 3
 ·rw [if_pos c55] at H
  have c55b0 : (t181 == 3) = true := beq_iff_eq.mpr c55
  have c55b1 : (t181 != 3) = false := bne_eq_false_iff_eq.mpr c55
  clear c55
  obtain ⟨y202,hyy⟩ : ∃ y_ : List Int,y_ = (([0,1,100,101,9223372036854775807] : List Int)) := ⟨_,rfl⟩
  replace H : ((spec_l1PickInt.f s0_0 t182 t183 y202).bind fun bt205 => (some (t168,t169,t170,bt205.1,t172,t173,t174,t175,bt205.2.1,bt205.2.2))) = some (r1,r2,r3,r4,r5,r6,r7,r8,r9,r10) := zR
  have Ny202 := Aside0.mk hyy
  clear hyy
  obtain ⟨⟨t205,t206,t207⟩,A560,H⟩ := Option.bind_eq_some_iff.mp H
  try dsimp only at H
  have A56 := Aside0.mk A560
  clear A560
  simp only [Option.some.injEq,Prod.mk.injEq] at H
  obtain ⟨rfl,rfl,rfl,rfl,rfl,rfl,rfl,rfl,rfl,rfl⟩ := H
  go_enter Tryz.func15,Tryz.ntmps15
  go_wp2_with (first | ((with_reducible refine gate_dst (N := 2) rfl ?_);refine bE 2 #[.int .i64 0,.int .i64 0,.int .i64 0,.int .i64 0,.int .i64 0,.int .i64 0,.int .i64 0,.slice none 0 0] 26 (h := ?_);intro gb167 hg wq1 hbox hb;have n_ := Z14;clear HI0 HK HB;obtain ⟨HI0,HK,HB,BK167,GW167,GE167,NB0_167,NB167_0⟩ := n_;clear hb hbox hg) | ((with_reducible refine gate_callee (f := 43) rfl ?_);refine goesL_ (some 5) rfl rfl Tryz.func43 Z190 rfl #[.pointer (some ⟨g,0,none⟩)] rfl Z130 ?_;(with_reducible refine (spec_l8Right.calls k g s0_0 s0_1 s0_2 t168 t169 t170 t171 t172 t173 t174 t175 t178 t179 w0 _ ?side1 ?side2 A2.out).mono ?_);(case side1 => exact Z227);(case side2 => exact Z228);rintro e wq2 ⟨vq3,rfl,hoq4,hi,hb,hk⟩;refine ⟨_,rfl,?_⟩;have n_ := Z42;clear BK167 HK HB HI0;obtain ⟨BK167,HO177,HK,HB,HI0⟩ := n_;(try clear hb);(try clear hb2);(try clear hk);(try clear hi);(try clear hoq4)) | ((with_reducible refine gate_dst (N := 3) rfl ?_);refine bE 3 #[.int .i64 0,.int .i64 0,.int .i64 0,.int .i64 0,.int .i64 0,.int .i64 0,.int .i64 0,.slice none 0 0] 26 (h := ?_);intro gb180 hg wq5 hbox hb;have n_ := Z9;clear HO177 HI0 BK167 HK HB;obtain ⟨HO177,HI0,BK167,HK,HB,BK180,GW180,GE180,NB167_180,NB180_167,NB0_180,NB180_0⟩ := n_;clear hb hbox hg;have hnbq6 := NB180_167.out;have hncq6 := NB167_180.out;have hnbq7 := NB180_0.out;have hncq7 := NB0_180.out;obtain ⟨hczq8_0,hczq8_1,hczq8_2,hczq8_3,hczq8_4,hczq8_5,hczq8_6,hczq8_7,hfzq8_0,hfzq8_1,hfzq8_2,hfzq8_3,hfzq8_4,hfzq8_5,hfzq8_6,hfzq8_7⟩ := cells8 BK180.out;obtain ⟨Aoq9,coq9,eoq9⟩ := Kd.R_slice HO177.out;subst eoq9) | ((with_reducible refine gate_callee (f := 44) rfl ?_);refine goesL_ (some 7) rfl rfl Tryz.func44 Z190 rfl #[.pointer (some ⟨g,0,none⟩),.int .i64 12] rfl Z130 ?_;(with_reducible refine (spec_l1Below.calls g s0_0 t178 t179 12 t181 t182 t183 w0 _ ?side1 ?side2 A3.out).mono ?_);(case side1 => exact Z207);(case side2 => exact Z213);rintro e wq10 ⟨rfl,hi,hb,hk⟩;refine ⟨_,rfl,?_⟩;have n_ := Z7;clear BK167 HO177 BK180 HK HB HI0;obtain ⟨BK167,HO177,BK180,HK,HB,HI0⟩ := n_;(try clear hb);(try clear hb2);(try clear hk);(try clear hi)) | ((with_reducible refine gate_dst (N := 29) rfl ?_);refine Kd.R_lit (Kd.int .i64) _ 3 ?hg (N := 29) ?hd (xs := ([0,1,100,101,9223372036854775807] : List Int)) (inner := [.int .i64 0,.int .i64 1,.int .i64 100,.int .i64 101,.int .i64 9223372036854775807]) (ok := fun _ => True) (okp := fun _ => True) ?hr ?hp (fun _ hk => hk) trivial (Below.refl _ _) (Nat.le_refl _) Z286 ?_;(case hd => rfl);(case hg => rfl);(case hr => exact Z166);(case hp => exact (Reps.one (show Kd.M (Kd.int .i64) _ _ _ 0 [.int .i64 0] from rfl) (Reps.one (show Kd.M (Kd.int .i64) _ _ _ 1 [.int .i64 1] from rfl) (Reps.one (show Kd.M (Kd.int .i64) _ _ _ 100 [.int .i64 100] from rfl) (Reps.one (show Kd.M (Kd.int .i64) _ _ _ 101 [.int .i64 101] from rfl) (Reps.one (show Kd.M (Kd.int .i64) _ _ _ 9223372036854775807 [.int .i64 9223372036854775807] from rfl) (Reps.none _ _)))))));intro vq11 wq12 hoq13 hb hg_ hnew_;clear hg_ hnew_;(first | rw [← Ny202.out] at hoq13 | (simp only [Int.reduceToNat] at hoq13;rw [← Ny202.out] at hoq13));have n_ := Z13;clear HO177 HI0 BK167 BK180 HK HB;obtain ⟨HO177,HO204,HI0,BK167,BK180,HK,HB⟩ := n_;clear hb hoq13;obtain ⟨Aoq14,coq14,eoq14⟩ := Kd.R_slice HO204.out;subst eoq14) | ((with_reducible refine gate_callee (f := 45) rfl ?_);refine goesL_ (some 30) rfl rfl Tryz.func45 Z190 rfl #[.pointer (some ⟨g,0,none⟩),.slice Aoq14 y202.length coq14] rfl Z130 ?_;(with_reducible refine (spec_l1PickInt.calls g s0_0 t182 t183 _ _ y202 t205 t206 t207 w0 _ ?side1 ?side2 ?side3 ?side4 ?side5 A56.out).mono ?_);(case side1 => exact Z207);(case side2 => exact Z213);(case side3 => repeat (first | exact (Kd.R_reads' HO204.out).2.2 | (with_reducible refine Kd.C_alloc ?_ _) | (with_reducible refine Kd.C_drewN ?_ _) | (with_reducible refine Kd.C_drew ?_)));(case side4 => exact (Kd.R_reads' HO204.out).2.1);(case side5 => exact far_slice (IsS65.own_ne HI0.out HO204.out Z306));rintro e wq15 ⟨rfl,hi,hb,hk⟩;refine ⟨_,rfl,?_⟩;have n_ := jA (KeepBut.blk hk (g' := gb167) (o := .cells #[.int .i64 0,.int .i64 0,.int .i64 0,.int .i64 0,.int .i64 0,.int .i64 0,.int .i64 0,.slice none 0 0] 26 (0,0)) Z272 NB167_0.out Z286) (jA (Kd.R_mono (Kd.R_keep (IsS65.apart (show IsS65 w0 _ g s0_0 t182 t183 from Z207) Z256 Z306) hk (fun _ h => h.2)) (fun _ h => h.1)) (jA (KeepBut.blk hk (g' := gb180) (o := .cells #[.int .i64 t168,.int .i64 t169,.int .i64 t170,.int .i64 t171,.int .i64 t172,.int .i64 t173,.int .i64 t174,.slice Aoq9 t175.length coq9] 26 (0,0)) Z278 NB180_0.out Z286) (jA (Kd.R_mono (Kd.R_keep (IsS65.apart (show IsS65 w0 _ g s0_0 t182 t183 from Z207) (by (with_reducible repeat (first | apply Kd.R_alloc | apply Kd.R_drewN | apply Kd.R_drew));exact HO204.out) Z306) hk (fun _ h => h.2)) (fun _ h => h.1)) (jA (KeepBut.trans Z220 hk (.inl rfl)) (jA (hb) (Aside0.mk (hi)))))));clear BK167 HO177 BK180 HO204 HK HB HI0;obtain ⟨BK167,HO177,BK180,HO204,HK,HB,HI0⟩ := n_;(try clear hb);(try clear hb2);(try clear hk);(try clear hi);obtain ⟨hczq16_0,hczq16_1,hczq16_2,hczq16_3,hczq16_4,hczq16_5,hczq16_6,hczq16_7,hfzq16_0,hfzq16_1,hfzq16_2,hfzq16_3,hfzq16_4,hfzq16_5,hfzq16_6,hfzq16_7⟩ := cells8 BK180.out;have hnbq17 := NB167_0.out;have hncq17 := NB0_167.out;obtain ⟨hczq18_0,hczq18_1,hczq18_2,hczq18_3,hczq18_4,hczq18_5,hczq18_6,hczq18_7,hfzq18_0,hfzq18_1,hfzq18_2,hfzq18_3,hfzq18_4,hfzq18_5,hfzq18_6,hfzq18_7⟩ := cells8 BK167.out))
  refine bodyPost_ret (results_cell_row rfl _ _ gb167 26 #[.int .i64 t168,.int .i64 t169,.int .i64 t170,.int .i64 t205,.int .i64 t172,.int .i64 t173,.int .i64 t174,.slice Aoq9 t175.length coq9] (0,0) _ rfl (by refine bP ?_;refine blk_put (cs := #[.int .i64 t168,.int .i64 t169,.int .i64 t170,.int .i64 t205,.int .i64 t172,.int .i64 t173,.int .i64 t174,.slice none 0 0]) ?_ 7 _ rfl;refine bP ?_;refine blk_put (cs := #[.int .i64 t168,.int .i64 t169,.int .i64 t170,.int .i64 t205,.int .i64 t172,.int .i64 t173,.int .i64 0,.slice none 0 0]) ?_ 6 _ rfl;refine bP ?_;refine blk_put (cs := #[.int .i64 t168,.int .i64 t169,.int .i64 t170,.int .i64 t205,.int .i64 t172,.int .i64 0,.int .i64 0,.slice none 0 0]) ?_ 5 _ rfl;refine bP ?_;refine blk_put (cs := #[.int .i64 t168,.int .i64 t169,.int .i64 t170,.int .i64 t205,.int .i64 0,.int .i64 0,.int .i64 0,.slice none 0 0]) ?_ 4 _ rfl;refine bP ?_;refine blk_put (cs := #[.int .i64 t168,.int .i64 t169,.int .i64 t170,.int .i64 0,.int .i64 0,.int .i64 0,.int .i64 0,.slice none 0 0]) ?_ 3 _ rfl;refine bP ?_;refine blk_put (cs := #[.int .i64 t168,.int .i64 t169,.int .i64 0,.int .i64 0,.int .i64 0,.int .i64 0,.int .i64 0,.slice none 0 0]) ?_ 2 _ rfl;refine bP ?_;refine blk_put (cs := #[.int .i64 t168,.int .i64 0,.int .i64 0,.int .i64 0,.int .i64 0,.int .i64 0,.int .i64 0,.slice none 0 0]) ?_ 1 _ rfl;refine bP ?_;refine blk_put (cs := #[.int .i64 0,.int .i64 0,.int .i64 0,.int .i64 0,.int .i64 0,.int .i64 0,.int .i64 0,.slice none 0 0]) ?_ 0 _ rfl;refine bP ?_;refine blk_far ?_ NB167_180.out _;refine bP ?_;exact BK167.out) Tryz.underlying26 rfl Z190) rfl ?_
  exact ⟨_,Z152,by (with_reducible repeat (first | apply Kd.R_alloc | apply Kd.R_drewN | apply Kd.R_drew));exact Kd.R_mono (Kd.R_far (p := ⟨gb167,7,none⟩) (Kd.R_far (p := ⟨gb167,6,none⟩) (Kd.R_far (p := ⟨gb167,5,none⟩) (Kd.R_far (p := ⟨gb167,4,none⟩) (Kd.R_far (p := ⟨gb167,3,none⟩) (Kd.R_far (p := ⟨gb167,2,none⟩) (Kd.R_far (p := ⟨gb167,1,none⟩) (Kd.R_far (p := ⟨gb167,0,none⟩) (Kd.R_far (p := ⟨gb180,3,none⟩) (Kd.R_types (Kd.R_types HO177.out BK180.out Z306) BK167.out Z306) (fun _ hk => hk.1.2) (.int .i64 t205)) (fun _ hk => hk.2) (.int .i64 t168)) (fun _ hk => hk.2) (.int .i64 t169)) (fun _ hk => hk.2) (.int .i64 t170)) (fun _ hk => hk.2) (.int .i64 t205)) (fun _ hk => hk.2) (.int .i64 t172)) (fun _ hk => hk.2) (.int .i64 t173)) (fun _ hk => hk.2) (.int .i64 t174)) (fun _ hk => hk.2) (.slice Aoq9 t175.length coq9)) (fun _ hk => trivial),Z207,Z213,Z220⟩
 rw [if_neg c55] at H
 have c55b0 : (t181 == 3) = false := beq_eq_false_iff_ne.mpr c55
 have c55b1 : (t181 != 3) = true := bne_iff_ne.mpr c55
 by_cases c72 : t181 = 4
 ·rw [if_pos c72] at H
  have c72b0 : (t181 == 4) = true := beq_iff_eq.mpr c72
  have c72b1 : (t181 != 4) = false := bne_eq_false_iff_eq.mpr c72
  clear c72
  obtain ⟨y208,hyy⟩ : ∃ y_ : List Int,y_ = (([0,1,20,21] : List Int)) := ⟨_,rfl⟩
  replace H : ((spec_l1PickInt.f s0_0 t182 t183 y208).bind fun bt211 => (some (t168,t169,t170,t171,bt211.1,t173,t174,t175,bt211.2.1,bt211.2.2))) = some (r1,r2,r3,r4,r5,r6,r7,r8,r9,r10) := zR
  have Ny208 := Aside0.mk hyy
  clear hyy
  obtain ⟨⟨t211,t212,t213⟩,A730,H⟩ := Option.bind_eq_some_iff.mp H
  try dsimp only at H
  have A73 := Aside0.mk A730
  clear A730
  simp only [Option.some.injEq,Prod.mk.injEq] at H
  obtain ⟨rfl,rfl,rfl,rfl,rfl,rfl,rfl,rfl,rfl,rfl⟩ := H
  go_enter Tryz.func15,Tryz.ntmps15
  go_wp2_with (first | ((with_reducible refine gate_dst (N := 2) rfl ?_);refine bE 2 #[.int .i64 0,.int .i64 0,.int .i64 0,.int .i64 0,.int .i64 0,.int .i64 0,.int .i64 0,.slice none 0 0] 26 (h := ?_);intro gb167 hg wq1 hbox hb;have n_ := Z14;clear HI0 HK HB;obtain ⟨HI0,HK,HB,BK167,GW167,GE167,NB0_167,NB167_0⟩ := n_;clear hb hbox hg) | ((with_reducible refine gate_callee (f := 43) rfl ?_);refine goesL_ (some 5) rfl rfl Tryz.func43 Z190 rfl #[.pointer (some ⟨g,0,none⟩)] rfl Z130 ?_;(with_reducible refine (spec_l8Right.calls k g s0_0 s0_1 s0_2 t168 t169 t170 t171 t172 t173 t174 t175 t178 t179 w0 _ ?side1 ?side2 A2.out).mono ?_);(case side1 => exact Z227);(case side2 => exact Z228);rintro e wq2 ⟨vq3,rfl,hoq4,hi,hb,hk⟩;refine ⟨_,rfl,?_⟩;have n_ := Z42;clear BK167 HK HB HI0;obtain ⟨BK167,HO177,HK,HB,HI0⟩ := n_;(try clear hb);(try clear hb2);(try clear hk);(try clear hi);(try clear hoq4)) | ((with_reducible refine gate_dst (N := 3) rfl ?_);refine bE 3 #[.int .i64 0,.int .i64 0,.int .i64 0,.int .i64 0,.int .i64 0,.int .i64 0,.int .i64 0,.slice none 0 0] 26 (h := ?_);intro gb180 hg wq5 hbox hb;have n_ := Z9;clear HO177 HI0 BK167 HK HB;obtain ⟨HO177,HI0,BK167,HK,HB,BK180,GW180,GE180,NB167_180,NB180_167,NB0_180,NB180_0⟩ := n_;clear hb hbox hg;have hnbq6 := NB180_167.out;have hncq6 := NB167_180.out;have hnbq7 := NB180_0.out;have hncq7 := NB0_180.out;obtain ⟨hczq8_0,hczq8_1,hczq8_2,hczq8_3,hczq8_4,hczq8_5,hczq8_6,hczq8_7,hfzq8_0,hfzq8_1,hfzq8_2,hfzq8_3,hfzq8_4,hfzq8_5,hfzq8_6,hfzq8_7⟩ := cells8 BK180.out;obtain ⟨Aoq9,coq9,eoq9⟩ := Kd.R_slice HO177.out;subst eoq9) | ((with_reducible refine gate_callee (f := 44) rfl ?_);refine goesL_ (some 7) rfl rfl Tryz.func44 Z190 rfl #[.pointer (some ⟨g,0,none⟩),.int .i64 12] rfl Z130 ?_;(with_reducible refine (spec_l1Below.calls g s0_0 t178 t179 12 t181 t182 t183 w0 _ ?side1 ?side2 A3.out).mono ?_);(case side1 => exact Z207);(case side2 => exact Z213);rintro e wq10 ⟨rfl,hi,hb,hk⟩;refine ⟨_,rfl,?_⟩;have n_ := Z7;clear BK167 HO177 BK180 HK HB HI0;obtain ⟨BK167,HO177,BK180,HK,HB,HI0⟩ := n_;(try clear hb);(try clear hb2);(try clear hk);(try clear hi)) | ((with_reducible refine gate_dst (N := 35) rfl ?_);refine Kd.R_lit (Kd.int .i64) _ 3 ?hg (N := 35) ?hd (xs := ([0,1,20,21] : List Int)) (inner := [.int .i64 0,.int .i64 1,.int .i64 20,.int .i64 21]) (ok := fun _ => True) (okp := fun _ => True) ?hr ?hp (fun _ hk => hk) trivial (Below.refl _ _) (Nat.le_refl _) Z286 ?_;(case hd => rfl);(case hg => rfl);(case hr => exact Z166);(case hp => exact (Reps.one (show Kd.M (Kd.int .i64) _ _ _ 0 [.int .i64 0] from rfl) (Reps.one (show Kd.M (Kd.int .i64) _ _ _ 1 [.int .i64 1] from rfl) (Reps.one (show Kd.M (Kd.int .i64) _ _ _ 20 [.int .i64 20] from rfl) (Reps.one (show Kd.M (Kd.int .i64) _ _ _ 21 [.int .i64 21] from rfl) (Reps.none _ _))))));intro vq11 wq12 hoq13 hb hg_ hnew_;clear hg_ hnew_;(first | rw [← Ny208.out] at hoq13 | (simp only [Int.reduceToNat] at hoq13;rw [← Ny208.out] at hoq13));have n_ := Z13;clear HO177 HI0 BK167 BK180 HK HB;obtain ⟨HO177,HO210,HI0,BK167,BK180,HK,HB⟩ := n_;clear hb hoq13;obtain ⟨Aoq14,coq14,eoq14⟩ := Kd.R_slice HO210.out;subst eoq14) | ((with_reducible refine gate_callee (f := 45) rfl ?_);refine goesL_ (some 36) rfl rfl Tryz.func45 Z190 rfl #[.pointer (some ⟨g,0,none⟩),.slice Aoq14 y208.length coq14] rfl Z130 ?_;(with_reducible refine (spec_l1PickInt.calls g s0_0 t182 t183 _ _ y208 t211 t212 t213 w0 _ ?side1 ?side2 ?side3 ?side4 ?side5 A73.out).mono ?_);(case side1 => exact Z207);(case side2 => exact Z213);(case side3 => repeat (first | exact (Kd.R_reads' HO210.out).2.2 | (with_reducible refine Kd.C_alloc ?_ _) | (with_reducible refine Kd.C_drewN ?_ _) | (with_reducible refine Kd.C_drew ?_)));(case side4 => exact (Kd.R_reads' HO210.out).2.1);(case side5 => exact far_slice (IsS65.own_ne HI0.out HO210.out Z306));rintro e wq15 ⟨rfl,hi,hb,hk⟩;refine ⟨_,rfl,?_⟩;have n_ := jA (KeepBut.blk hk (g' := gb167) (o := .cells #[.int .i64 0,.int .i64 0,.int .i64 0,.int .i64 0,.int .i64 0,.int .i64 0,.int .i64 0,.slice none 0 0] 26 (0,0)) Z272 NB167_0.out Z286) (jA (Kd.R_mono (Kd.R_keep (IsS65.apart (show IsS65 w0 _ g s0_0 t182 t183 from Z207) Z256 Z306) hk (fun _ h => h.2)) (fun _ h => h.1)) (jA (KeepBut.blk hk (g' := gb180) (o := .cells #[.int .i64 t168,.int .i64 t169,.int .i64 t170,.int .i64 t171,.int .i64 t172,.int .i64 t173,.int .i64 t174,.slice Aoq9 t175.length coq9] 26 (0,0)) Z278 NB180_0.out Z286) (jA (Kd.R_mono (Kd.R_keep (IsS65.apart (show IsS65 w0 _ g s0_0 t182 t183 from Z207) (by (with_reducible repeat (first | apply Kd.R_alloc | apply Kd.R_drewN | apply Kd.R_drew));exact HO210.out) Z306) hk (fun _ h => h.2)) (fun _ h => h.1)) (jA (KeepBut.trans Z220 hk (.inl rfl)) (jA (hb) (Aside0.mk (hi)))))));clear BK167 HO177 BK180 HO210 HK HB HI0;obtain ⟨BK167,HO177,BK180,HO210,HK,HB,HI0⟩ := n_;(try clear hb);(try clear hb2);(try clear hk);(try clear hi);obtain ⟨hczq16_0,hczq16_1,hczq16_2,hczq16_3,hczq16_4,hczq16_5,hczq16_6,hczq16_7,hfzq16_0,hfzq16_1,hfzq16_2,hfzq16_3,hfzq16_4,hfzq16_5,hfzq16_6,hfzq16_7⟩ := cells8 BK180.out;have hnbq17 := NB167_0.out;have hncq17 := NB0_167.out;obtain ⟨hczq18_0,hczq18_1,hczq18_2,hczq18_3,hczq18_4,hczq18_5,hczq18_6,hczq18_7,hfzq18_0,hfzq18_1,hfzq18_2,hfzq18_3,hfzq18_4,hfzq18_5,hfzq18_6,hfzq18_7⟩ := cells8 BK167.out))
  refine bodyPost_ret (results_cell_row rfl _ _ gb167 26 #[.int .i64 t168,.int .i64 t169,.int .i64 t170,.int .i64 t171,.int .i64 t211,.int .i64 t173,.int .i64 t174,.slice Aoq9 t175.length coq9] (0,0) _ rfl (by refine bP ?_;refine blk_put (cs := #[.int .i64 t168,.int .i64 t169,.int .i64 t170,.int .i64 t171,.int .i64 t211,.int .i64 t173,.int .i64 t174,.slice none 0 0]) ?_ 7 _ rfl;refine bP ?_;refine blk_put (cs := #[.int .i64 t168,.int .i64 t169,.int .i64 t170,.int .i64 t171,.int .i64 t211,.int .i64 t173,.int .i64 0,.slice none 0 0]) ?_ 6 _ rfl;refine bP ?_;refine blk_put (cs := #[.int .i64 t168,.int .i64 t169,.int .i64 t170,.int .i64 t171,.int .i64 t211,.int .i64 0,.int .i64 0,.slice none 0 0]) ?_ 5 _ rfl;refine bP ?_;refine blk_put (cs := #[.int .i64 t168,.int .i64 t169,.int .i64 t170,.int .i64 t171,.int .i64 0,.int .i64 0,.int .i64 0,.slice none 0 0]) ?_ 4 _ rfl;refine bP ?_;refine blk_put (cs := #[.int .i64 t168,.int .i64 t169,.int .i64 t170,.int .i64 0,.int .i64 0,.int .i64 0,.int .i64 0,.slice none 0 0]) ?_ 3 _ rfl;refine bP ?_;refine blk_put (cs := #[.int .i64 t168,.int .i64 t169,.int .i64 0,.int .i64 0,.int .i64 0,.int .i64 0,.int .i64 0,.slice none 0 0]) ?_ 2 _ rfl;refine bP ?_;refine blk_put (cs := #[.int .i64 t168,.int .i64 0,.int .i64 0,.int .i64 0,.int .i64 0,.int .i64 0,.int .i64 0,.slice none 0 0]) ?_ 1 _ rfl;refine bP ?_;refine blk_put (cs := #[.int .i64 0,.int .i64 0,.int .i64 0,.int .i64 0,.int .i64 0,.int .i64 0,.int .i64 0,.slice none 0 0]) ?_ 0 _ rfl;refine bP ?_;refine blk_far ?_ NB167_180.out _;refine bP ?_;exact BK167.out) Tryz.underlying26 rfl Z190) rfl ?_
  exact ⟨_,Z152,by (with_reducible repeat (first | apply Kd.R_alloc | apply Kd.R_drewN | apply Kd.R_drew));exact Kd.R_mono (Kd.R_far (p := ⟨gb167,7,none⟩) (Kd.R_far (p := ⟨gb167,6,none⟩) (Kd.R_far (p := ⟨gb167,5,none⟩) (Kd.R_far (p := ⟨gb167,4,none⟩) (Kd.R_far (p := ⟨gb167,3,none⟩) (Kd.R_far (p := ⟨gb167,2,none⟩) (Kd.R_far (p := ⟨gb167,1,none⟩) (Kd.R_far (p := ⟨gb167,0,none⟩) (Kd.R_far (p := ⟨gb180,4,none⟩) (Kd.R_types (Kd.R_types HO177.out BK180.out Z306) BK167.out Z306) (fun _ hk => hk.1.2) (.int .i64 t211)) (fun _ hk => hk.2) (.int .i64 t168)) (fun _ hk => hk.2) (.int .i64 t169)) (fun _ hk => hk.2) (.int .i64 t170)) (fun _ hk => hk.2) (.int .i64 t171)) (fun _ hk => hk.2) (.int .i64 t211)) (fun _ hk => hk.2) (.int .i64 t173)) (fun _ hk => hk.2) (.int .i64 t174)) (fun _ hk => hk.2) (.slice Aoq9 t175.length coq9)) (fun _ hk => trivial),Z207,Z213,Z220⟩
 rw [if_neg c72] at H
 have c72b0 : (t181 == 4) = false := beq_eq_false_iff_ne.mpr c72
 have c72b1 : (t181 != 4) = true := bne_iff_ne.mpr c72
 by_cases c89 : t181 = 5
 ·rw [if_pos c89] at H
  have c89b0 : (t181 == 5) = true := beq_iff_eq.mpr c89
  have c89b1 : (t181 != 5) = false := bne_eq_false_iff_eq.mpr c89
  clear c89
  obtain ⟨y214,hyy⟩ : ∃ y_ : List Int,y_ = (([0,1,t174,wrap64 (t174 + 1),(-1)] : List Int)) := ⟨_,rfl⟩
  replace H : ((spec_l1PickInt.f s0_0 t182 t183 y214).bind fun bt217 => (some (t168,t169,t170,t171,t172,bt217.1,t174,t175,bt217.2.1,bt217.2.2))) = some (r1,r2,r3,r4,r5,r6,r7,r8,r9,r10) := zR
  have Ny214 := Aside0.mk hyy
  clear hyy
  obtain ⟨⟨t217,t218,t219⟩,A900,H⟩ := Option.bind_eq_some_iff.mp H
  try dsimp only at H
  have A90 := Aside0.mk A900
  clear A900
  simp only [Option.some.injEq,Prod.mk.injEq] at H
  obtain ⟨rfl,rfl,rfl,rfl,rfl,rfl,rfl,rfl,rfl,rfl⟩ := H
  go_enter Tryz.func15,Tryz.ntmps15
  go_wp2_with (first | ((with_reducible refine gate_dst (N := 2) rfl ?_);refine bE 2 #[.int .i64 0,.int .i64 0,.int .i64 0,.int .i64 0,.int .i64 0,.int .i64 0,.int .i64 0,.slice none 0 0] 26 (h := ?_);intro gb167 hg wq1 hbox hb;have n_ := Z14;clear HI0 HK HB;obtain ⟨HI0,HK,HB,BK167,GW167,GE167,NB0_167,NB167_0⟩ := n_;clear hb hbox hg) | ((with_reducible refine gate_callee (f := 43) rfl ?_);refine goesL_ (some 5) rfl rfl Tryz.func43 Z190 rfl #[.pointer (some ⟨g,0,none⟩)] rfl Z130 ?_;(with_reducible refine (spec_l8Right.calls k g s0_0 s0_1 s0_2 t168 t169 t170 t171 t172 t173 t174 t175 t178 t179 w0 _ ?side1 ?side2 A2.out).mono ?_);(case side1 => exact Z227);(case side2 => exact Z228);rintro e wq2 ⟨vq3,rfl,hoq4,hi,hb,hk⟩;refine ⟨_,rfl,?_⟩;have n_ := Z42;clear BK167 HK HB HI0;obtain ⟨BK167,HO177,HK,HB,HI0⟩ := n_;(try clear hb);(try clear hb2);(try clear hk);(try clear hi);(try clear hoq4)) | ((with_reducible refine gate_dst (N := 3) rfl ?_);refine bE 3 #[.int .i64 0,.int .i64 0,.int .i64 0,.int .i64 0,.int .i64 0,.int .i64 0,.int .i64 0,.slice none 0 0] 26 (h := ?_);intro gb180 hg wq5 hbox hb;have n_ := Z9;clear HO177 HI0 BK167 HK HB;obtain ⟨HO177,HI0,BK167,HK,HB,BK180,GW180,GE180,NB167_180,NB180_167,NB0_180,NB180_0⟩ := n_;clear hb hbox hg;have hnbq6 := NB180_167.out;have hncq6 := NB167_180.out;have hnbq7 := NB180_0.out;have hncq7 := NB0_180.out;obtain ⟨hczq8_0,hczq8_1,hczq8_2,hczq8_3,hczq8_4,hczq8_5,hczq8_6,hczq8_7,hfzq8_0,hfzq8_1,hfzq8_2,hfzq8_3,hfzq8_4,hfzq8_5,hfzq8_6,hfzq8_7⟩ := cells8 BK180.out;obtain ⟨Aoq9,coq9,eoq9⟩ := Kd.R_slice HO177.out;subst eoq9) | ((with_reducible refine gate_callee (f := 44) rfl ?_);refine goesL_ (some 7) rfl rfl Tryz.func44 Z190 rfl #[.pointer (some ⟨g,0,none⟩),.int .i64 12] rfl Z130 ?_;(with_reducible refine (spec_l1Below.calls g s0_0 t178 t179 12 t181 t182 t183 w0 _ ?side1 ?side2 A3.out).mono ?_);(case side1 => exact Z207);(case side2 => exact Z213);rintro e wq10 ⟨rfl,hi,hb,hk⟩;refine ⟨_,rfl,?_⟩;have n_ := Z7;clear BK167 HO177 BK180 HK HB HI0;obtain ⟨BK167,HO177,BK180,HK,HB,HI0⟩ := n_;(try clear hb);(try clear hb2);(try clear hk);(try clear hi);obtain ⟨hczq11_0,hczq11_1,hczq11_2,hczq11_3,hczq11_4,hczq11_5,hczq11_6,hczq11_7,hfzq11_0,hfzq11_1,hfzq11_2,hfzq11_3,hfzq11_4,hfzq11_5,hfzq11_6,hfzq11_7⟩ := cells8 BK180.out) | ((with_reducible refine gate_dst (N := 46) rfl ?_);refine Kd.R_lit (Kd.int .i64) _ 3 ?hg (N := 46) ?hd (xs := ([0,1,t174,wrap64 (t174 + 1),(-1)] : List Int)) (inner := [.int .i64 0,.int .i64 1,.int .i64 t174,.int .i64 (wrap64 (t174 + 1)),.int .i64 (-1)]) (ok := fun _ => True) (okp := fun _ => True) ?hr ?hp (fun _ hk => hk) trivial (Below.refl _ _) (Nat.le_refl _) Z286 ?_;(case hd => rfl);(case hg => rfl);(case hr => exact Z166);(case hp => exact (Reps.one (show Kd.M (Kd.int .i64) _ _ _ 0 [.int .i64 0] from rfl) (Reps.one (show Kd.M (Kd.int .i64) _ _ _ 1 [.int .i64 1] from rfl) (Reps.one (show Kd.M (Kd.int .i64) _ _ _ t174 [.int .i64 t174] from rfl) (Reps.one (show Kd.M (Kd.int .i64) _ _ _ (wrap64 (t174 + 1)) [.int .i64 (wrap64 (t174 + 1))] from rfl) (Reps.one (show Kd.M (Kd.int .i64) _ _ _ (-1) [.int .i64 (-1)] from rfl) (Reps.none _ _)))))));intro vq12 wq13 hoq14 hb hg_ hnew_;clear hg_ hnew_;(first | rw [← Ny214.out] at hoq14 | (simp only [Int.reduceToNat] at hoq14;rw [← Ny214.out] at hoq14));have n_ := jA (Kd.R_elder' Z256 (Kd.R_base hoq14) hb) (jA (Kd.R_lower (Kd.R_new' hoq14 (Kd.R_lt Z256)) (keep_size (w := w) (g := g) (row := none) Z220)) (jA (IsS65.below Z207 hb) (jA (blk_below (g := gb167) (o := .cells #[.int .i64 0,.int .i64 0,.int .i64 0,.int .i64 0,.int .i64 0,.int .i64 0,.int .i64 0,.slice none 0 0] 26 (0,0)) Z272 hb) (jA (blk_below (g := gb180) (o := .cells #[.int .i64 t168,.int .i64 t169,.int .i64 t170,.int .i64 t171,.int .i64 t172,.int .i64 t173,.int .i64 t174,.slice Aoq9 t175.length coq9] 26 (0,0)) Z278 hb) (jA (KeepBut.trans Z220 (KeepBut.of_below hb g none) (.inl rfl)) (Aside0.mk (below_step Z213 hb)))))));clear HO177 HI0 BK167 BK180 HK HB;obtain ⟨HO177,HO216,HI0,BK167,BK180,HK,HB⟩ := n_;clear hb hoq14;obtain ⟨Aoq15,coq15,eoq15⟩ := Kd.R_slice HO216.out;subst eoq15) | ((with_reducible refine gate_callee (f := 45) rfl ?_);refine goesL_ (some 47) rfl rfl Tryz.func45 Z190 rfl #[.pointer (some ⟨g,0,none⟩),.slice Aoq15 y214.length coq15] rfl Z130 ?_;(with_reducible refine (spec_l1PickInt.calls g s0_0 t182 t183 _ _ y214 t217 t218 t219 w0 _ ?side1 ?side2 ?side3 ?side4 ?side5 A90.out).mono ?_);(case side1 => exact Z207);(case side2 => exact Z213);(case side3 => repeat (first | exact (Kd.R_reads' HO216.out).2.2 | (with_reducible refine Kd.C_alloc ?_ _) | (with_reducible refine Kd.C_drewN ?_ _) | (with_reducible refine Kd.C_drew ?_)));(case side4 => exact (Kd.R_reads' HO216.out).2.1);(case side5 => exact far_slice (IsS65.own_ne HI0.out HO216.out Z306));rintro e wq16 ⟨rfl,hi,hb,hk⟩;refine ⟨_,rfl,?_⟩;have n_ := jA (KeepBut.blk hk (g' := gb167) (o := .cells #[.int .i64 0,.int .i64 0,.int .i64 0,.int .i64 0,.int .i64 0,.int .i64 0,.int .i64 0,.slice none 0 0] 26 (0,0)) Z272 NB167_0.out Z286) (jA (Kd.R_mono (Kd.R_keep (IsS65.apart (show IsS65 w0 _ g s0_0 t182 t183 from Z207) Z256 Z306) hk (fun _ h => h.2)) (fun _ h => h.1)) (jA (KeepBut.blk hk (g' := gb180) (o := .cells #[.int .i64 t168,.int .i64 t169,.int .i64 t170,.int .i64 t171,.int .i64 t172,.int .i64 t173,.int .i64 t174,.slice Aoq9 t175.length coq9] 26 (0,0)) Z278 NB180_0.out Z286) (jA (Kd.R_mono (Kd.R_keep (IsS65.apart (show IsS65 w0 _ g s0_0 t182 t183 from Z207) (by (with_reducible repeat (first | apply Kd.R_alloc | apply Kd.R_drewN | apply Kd.R_drew));exact HO216.out) Z306) hk (fun _ h => h.2)) (fun _ h => h.1)) (jA (KeepBut.trans Z220 hk (.inl rfl)) (jA (hb) (Aside0.mk (hi)))))));clear BK167 HO177 BK180 HO216 HK HB HI0;obtain ⟨BK167,HO177,BK180,HO216,HK,HB,HI0⟩ := n_;(try clear hb);(try clear hb2);(try clear hk);(try clear hi);obtain ⟨hczq17_0,hczq17_1,hczq17_2,hczq17_3,hczq17_4,hczq17_5,hczq17_6,hczq17_7,hfzq17_0,hfzq17_1,hfzq17_2,hfzq17_3,hfzq17_4,hfzq17_5,hfzq17_6,hfzq17_7⟩ := cells8 BK180.out;have hnbq18 := NB167_0.out;have hncq18 := NB0_167.out;obtain ⟨hczq19_0,hczq19_1,hczq19_2,hczq19_3,hczq19_4,hczq19_5,hczq19_6,hczq19_7,hfzq19_0,hfzq19_1,hfzq19_2,hfzq19_3,hfzq19_4,hfzq19_5,hfzq19_6,hfzq19_7⟩ := cells8 BK167.out))
  refine bodyPost_ret (results_cell_row rfl _ _ gb167 26 #[.int .i64 t168,.int .i64 t169,.int .i64 t170,.int .i64 t171,.int .i64 t172,.int .i64 t217,.int .i64 t174,.slice Aoq9 t175.length coq9] (0,0) _ rfl (by refine bP ?_;refine blk_put (cs := #[.int .i64 t168,.int .i64 t169,.int .i64 t170,.int .i64 t171,.int .i64 t172,.int .i64 t217,.int .i64 t174,.slice none 0 0]) ?_ 7 _ rfl;refine bP ?_;refine blk_put (cs := #[.int .i64 t168,.int .i64 t169,.int .i64 t170,.int .i64 t171,.int .i64 t172,.int .i64 t217,.int .i64 0,.slice none 0 0]) ?_ 6 _ rfl;refine bP ?_;refine blk_put (cs := #[.int .i64 t168,.int .i64 t169,.int .i64 t170,.int .i64 t171,.int .i64 t172,.int .i64 0,.int .i64 0,.slice none 0 0]) ?_ 5 _ rfl;refine bP ?_;refine blk_put (cs := #[.int .i64 t168,.int .i64 t169,.int .i64 t170,.int .i64 t171,.int .i64 0,.int .i64 0,.int .i64 0,.slice none 0 0]) ?_ 4 _ rfl;refine bP ?_;refine blk_put (cs := #[.int .i64 t168,.int .i64 t169,.int .i64 t170,.int .i64 0,.int .i64 0,.int .i64 0,.int .i64 0,.slice none 0 0]) ?_ 3 _ rfl;refine bP ?_;refine blk_put (cs := #[.int .i64 t168,.int .i64 t169,.int .i64 0,.int .i64 0,.int .i64 0,.int .i64 0,.int .i64 0,.slice none 0 0]) ?_ 2 _ rfl;refine bP ?_;refine blk_put (cs := #[.int .i64 t168,.int .i64 0,.int .i64 0,.int .i64 0,.int .i64 0,.int .i64 0,.int .i64 0,.slice none 0 0]) ?_ 1 _ rfl;refine bP ?_;refine blk_put (cs := #[.int .i64 0,.int .i64 0,.int .i64 0,.int .i64 0,.int .i64 0,.int .i64 0,.int .i64 0,.slice none 0 0]) ?_ 0 _ rfl;refine bP ?_;refine blk_far ?_ NB167_180.out _;refine bP ?_;exact BK167.out) Tryz.underlying26 rfl Z190) rfl ?_
  exact ⟨_,Z152,by (with_reducible repeat (first | apply Kd.R_alloc | apply Kd.R_drewN | apply Kd.R_drew));exact Kd.R_mono (Kd.R_far (p := ⟨gb167,7,none⟩) (Kd.R_far (p := ⟨gb167,6,none⟩) (Kd.R_far (p := ⟨gb167,5,none⟩) (Kd.R_far (p := ⟨gb167,4,none⟩) (Kd.R_far (p := ⟨gb167,3,none⟩) (Kd.R_far (p := ⟨gb167,2,none⟩) (Kd.R_far (p := ⟨gb167,1,none⟩) (Kd.R_far (p := ⟨gb167,0,none⟩) (Kd.R_far (p := ⟨gb180,5,none⟩) (Kd.R_types (Kd.R_types HO177.out BK180.out Z306) BK167.out Z306) (fun _ hk => hk.1.2) (.int .i64 t217)) (fun _ hk => hk.2) (.int .i64 t168)) (fun _ hk => hk.2) (.int .i64 t169)) (fun _ hk => hk.2) (.int .i64 t170)) (fun _ hk => hk.2) (.int .i64 t171)) (fun _ hk => hk.2) (.int .i64 t172)) (fun _ hk => hk.2) (.int .i64 t217)) (fun _ hk => hk.2) (.int .i64 t174)) (fun _ hk => hk.2) (.slice Aoq9 t175.length coq9)) (fun _ hk => trivial),Z207,Z213,Z220⟩
 rw [if_neg c89] at H
 have c89b0 : (t181 == 5) = false := beq_eq_false_iff_ne.mpr c89
 have c89b1 : (t181 != 5) = true := bne_iff_ne.mpr c89
 by_cases c107 : t181 = 6
 ·rw [if_pos c107] at H
  have c107b0 : (t181 == 6) = true := beq_iff_eq.mpr c107
  have c107b1 : (t181 != 6) = false := bne_eq_false_iff_eq.mpr c107
  clear c107
  obtain ⟨y220,hyy⟩ : ∃ y_ : List Int,y_ = (([0,1,1000,1001,9223372036854775807] : List Int)) := ⟨_,rfl⟩
  replace H : ((spec_l1PickInt.f s0_0 t182 t183 y220).bind fun bt223 => (some (t168,t169,t170,t171,t172,t173,bt223.1,t175,bt223.2.1,bt223.2.2))) = some (r1,r2,r3,r4,r5,r6,r7,r8,r9,r10) := zR
  have Ny220 := Aside0.mk hyy
  clear hyy
  obtain ⟨⟨t223,t224,t225⟩,A1080,H⟩ := Option.bind_eq_some_iff.mp H
  try dsimp only at H
  have A108 := Aside0.mk A1080
  clear A1080
  simp only [Option.some.injEq,Prod.mk.injEq] at H
  obtain ⟨rfl,rfl,rfl,rfl,rfl,rfl,rfl,rfl,rfl,rfl⟩ := H
  go_enter Tryz.func15,Tryz.ntmps15
  go_wp2_with (first | ((with_reducible refine gate_dst (N := 2) rfl ?_);refine bE 2 #[.int .i64 0,.int .i64 0,.int .i64 0,.int .i64 0,.int .i64 0,.int .i64 0,.int .i64 0,.slice none 0 0] 26 (h := ?_);intro gb167 hg wq1 hbox hb;have n_ := Z14;clear HI0 HK HB;obtain ⟨HI0,HK,HB,BK167,GW167,GE167,NB0_167,NB167_0⟩ := n_;clear hb hbox hg) | ((with_reducible refine gate_callee (f := 43) rfl ?_);refine goesL_ (some 5) rfl rfl Tryz.func43 Z190 rfl #[.pointer (some ⟨g,0,none⟩)] rfl Z130 ?_;(with_reducible refine (spec_l8Right.calls k g s0_0 s0_1 s0_2 t168 t169 t170 t171 t172 t173 t174 t175 t178 t179 w0 _ ?side1 ?side2 A2.out).mono ?_);(case side1 => exact Z227);(case side2 => exact Z228);rintro e wq2 ⟨vq3,rfl,hoq4,hi,hb,hk⟩;refine ⟨_,rfl,?_⟩;have n_ := Z42;clear BK167 HK HB HI0;obtain ⟨BK167,HO177,HK,HB,HI0⟩ := n_;(try clear hb);(try clear hb2);(try clear hk);(try clear hi);(try clear hoq4)) | ((with_reducible refine gate_dst (N := 3) rfl ?_);refine bE 3 #[.int .i64 0,.int .i64 0,.int .i64 0,.int .i64 0,.int .i64 0,.int .i64 0,.int .i64 0,.slice none 0 0] 26 (h := ?_);intro gb180 hg wq5 hbox hb;have n_ := Z9;clear HO177 HI0 BK167 HK HB;obtain ⟨HO177,HI0,BK167,HK,HB,BK180,GW180,GE180,NB167_180,NB180_167,NB0_180,NB180_0⟩ := n_;clear hb hbox hg;have hnbq6 := NB180_167.out;have hncq6 := NB167_180.out;have hnbq7 := NB180_0.out;have hncq7 := NB0_180.out;obtain ⟨hczq8_0,hczq8_1,hczq8_2,hczq8_3,hczq8_4,hczq8_5,hczq8_6,hczq8_7,hfzq8_0,hfzq8_1,hfzq8_2,hfzq8_3,hfzq8_4,hfzq8_5,hfzq8_6,hfzq8_7⟩ := cells8 BK180.out;obtain ⟨Aoq9,coq9,eoq9⟩ := Kd.R_slice HO177.out;subst eoq9) | ((with_reducible refine gate_callee (f := 44) rfl ?_);refine goesL_ (some 7) rfl rfl Tryz.func44 Z190 rfl #[.pointer (some ⟨g,0,none⟩),.int .i64 12] rfl Z130 ?_;(with_reducible refine (spec_l1Below.calls g s0_0 t178 t179 12 t181 t182 t183 w0 _ ?side1 ?side2 A3.out).mono ?_);(case side1 => exact Z207);(case side2 => exact Z213);rintro e wq10 ⟨rfl,hi,hb,hk⟩;refine ⟨_,rfl,?_⟩;have n_ := Z7;clear BK167 HO177 BK180 HK HB HI0;obtain ⟨BK167,HO177,BK180,HK,HB,HI0⟩ := n_;(try clear hb);(try clear hb2);(try clear hk);(try clear hi)) | ((with_reducible refine gate_dst (N := 52) rfl ?_);refine Kd.R_lit (Kd.int .i64) _ 3 ?hg (N := 52) ?hd (xs := ([0,1,1000,1001,9223372036854775807] : List Int)) (inner := [.int .i64 0,.int .i64 1,.int .i64 1000,.int .i64 1001,.int .i64 9223372036854775807]) (ok := fun _ => True) (okp := fun _ => True) ?hr ?hp (fun _ hk => hk) trivial (Below.refl _ _) (Nat.le_refl _) Z286 ?_;(case hd => rfl);(case hg => rfl);(case hr => exact Z166);(case hp => exact (Reps.one (show Kd.M (Kd.int .i64) _ _ _ 0 [.int .i64 0] from rfl) (Reps.one (show Kd.M (Kd.int .i64) _ _ _ 1 [.int .i64 1] from rfl) (Reps.one (show Kd.M (Kd.int .i64) _ _ _ 1000 [.int .i64 1000] from rfl) (Reps.one (show Kd.M (Kd.int .i64) _ _ _ 1001 [.int .i64 1001] from rfl) (Reps.one (show Kd.M (Kd.int .i64) _ _ _ 9223372036854775807 [.int .i64 9223372036854775807] from rfl) (Reps.none _ _)))))));intro vq11 wq12 hoq13 hb hg_ hnew_;clear hg_ hnew_;(first | rw [← Ny220.out] at hoq13 | (simp only [Int.reduceToNat] at hoq13;rw [← Ny220.out] at hoq13));have n_ := Z13;clear HO177 HI0 BK167 BK180 HK HB;obtain ⟨HO177,HO222,HI0,BK167,BK180,HK,HB⟩ := n_;clear hb hoq13;obtain ⟨Aoq14,coq14,eoq14⟩ := Kd.R_slice HO222.out;subst eoq14) | ((with_reducible refine gate_callee (f := 45) rfl ?_);refine goesL_ (some 53) rfl rfl Tryz.func45 Z190 rfl #[.pointer (some ⟨g,0,none⟩),.slice Aoq14 y220.length coq14] rfl Z130 ?_;(with_reducible refine (spec_l1PickInt.calls g s0_0 t182 t183 _ _ y220 t223 t224 t225 w0 _ ?side1 ?side2 ?side3 ?side4 ?side5 A108.out).mono ?_);(case side1 => exact Z207);(case side2 => exact Z213);(case side3 => repeat (first | exact (Kd.R_reads' HO222.out).2.2 | (with_reducible refine Kd.C_alloc ?_ _) | (with_reducible refine Kd.C_drewN ?_ _) | (with_reducible refine Kd.C_drew ?_)));(case side4 => exact (Kd.R_reads' HO222.out).2.1);(case side5 => exact far_slice (IsS65.own_ne HI0.out HO222.out Z306));rintro e wq15 ⟨rfl,hi,hb,hk⟩;refine ⟨_,rfl,?_⟩;have n_ := jA (KeepBut.blk hk (g' := gb167) (o := .cells #[.int .i64 0,.int .i64 0,.int .i64 0,.int .i64 0,.int .i64 0,.int .i64 0,.int .i64 0,.slice none 0 0] 26 (0,0)) Z272 NB167_0.out Z286) (jA (Kd.R_mono (Kd.R_keep (IsS65.apart (show IsS65 w0 _ g s0_0 t182 t183 from Z207) Z256 Z306) hk (fun _ h => h.2)) (fun _ h => h.1)) (jA (KeepBut.blk hk (g' := gb180) (o := .cells #[.int .i64 t168,.int .i64 t169,.int .i64 t170,.int .i64 t171,.int .i64 t172,.int .i64 t173,.int .i64 t174,.slice Aoq9 t175.length coq9] 26 (0,0)) Z278 NB180_0.out Z286) (jA (Kd.R_mono (Kd.R_keep (IsS65.apart (show IsS65 w0 _ g s0_0 t182 t183 from Z207) (by (with_reducible repeat (first | apply Kd.R_alloc | apply Kd.R_drewN | apply Kd.R_drew));exact HO222.out) Z306) hk (fun _ h => h.2)) (fun _ h => h.1)) (jA (KeepBut.trans Z220 hk (.inl rfl)) (jA (hb) (Aside0.mk (hi)))))));clear BK167 HO177 BK180 HO222 HK HB HI0;obtain ⟨BK167,HO177,BK180,HO222,HK,HB,HI0⟩ := n_;(try clear hb);(try clear hb2);(try clear hk);(try clear hi);obtain ⟨hczq16_0,hczq16_1,hczq16_2,hczq16_3,hczq16_4,hczq16_5,hczq16_6,hczq16_7,hfzq16_0,hfzq16_1,hfzq16_2,hfzq16_3,hfzq16_4,hfzq16_5,hfzq16_6,hfzq16_7⟩ := cells8 BK180.out;have hnbq17 := NB167_0.out;have hncq17 := NB0_167.out;obtain ⟨hczq18_0,hczq18_1,hczq18_2,hczq18_3,hczq18_4,hczq18_5,hczq18_6,hczq18_7,hfzq18_0,hfzq18_1,hfzq18_2,hfzq18_3,hfzq18_4,hfzq18_5,hfzq18_6,hfzq18_7⟩ := cells8 BK167.out))
  refine bodyPost_ret (results_cell_row rfl _ _ gb167 26 #[.int .i64 t168,.int .i64 t169,.int .i64 t170,.int .i64 t171,.int .i64 t172,.int .i64 t173,.int .i64 t223,.slice Aoq9 t175.length coq9] (0,0) _ rfl (by refine bP ?_;refine blk_put (cs := #[.int .i64 t168,.int .i64 t169,.int .i64 t170,.int .i64 t171,.int .i64 t172,.int .i64 t173,.int .i64 t223,.slice none 0 0]) ?_ 7 _ rfl;refine bP ?_;refine blk_put (cs := #[.int .i64 t168,.int .i64 t169,.int .i64 t170,.int .i64 t171,.int .i64 t172,.int .i64 t173,.int .i64 0,.slice none 0 0]) ?_ 6 _ rfl;refine bP ?_;refine blk_put (cs := #[.int .i64 t168,.int .i64 t169,.int .i64 t170,.int .i64 t171,.int .i64 t172,.int .i64 0,.int .i64 0,.slice none 0 0]) ?_ 5 _ rfl;refine bP ?_;refine blk_put (cs := #[.int .i64 t168,.int .i64 t169,.int .i64 t170,.int .i64 t171,.int .i64 0,.int .i64 0,.int .i64 0,.slice none 0 0]) ?_ 4 _ rfl;refine bP ?_;refine blk_put (cs := #[.int .i64 t168,.int .i64 t169,.int .i64 t170,.int .i64 0,.int .i64 0,.int .i64 0,.int .i64 0,.slice none 0 0]) ?_ 3 _ rfl;refine bP ?_;refine blk_put (cs := #[.int .i64 t168,.int .i64 t169,.int .i64 0,.int .i64 0,.int .i64 0,.int .i64 0,.int .i64 0,.slice none 0 0]) ?_ 2 _ rfl;refine bP ?_;refine blk_put (cs := #[.int .i64 t168,.int .i64 0,.int .i64 0,.int .i64 0,.int .i64 0,.int .i64 0,.int .i64 0,.slice none 0 0]) ?_ 1 _ rfl;refine bP ?_;refine blk_put (cs := #[.int .i64 0,.int .i64 0,.int .i64 0,.int .i64 0,.int .i64 0,.int .i64 0,.int .i64 0,.slice none 0 0]) ?_ 0 _ rfl;refine bP ?_;refine blk_far ?_ NB167_180.out _;refine bP ?_;exact BK167.out) Tryz.underlying26 rfl Z190) rfl ?_
  exact ⟨_,Z152,by (with_reducible repeat (first | apply Kd.R_alloc | apply Kd.R_drewN | apply Kd.R_drew));exact Kd.R_mono (Kd.R_far (p := ⟨gb167,7,none⟩) (Kd.R_far (p := ⟨gb167,6,none⟩) (Kd.R_far (p := ⟨gb167,5,none⟩) (Kd.R_far (p := ⟨gb167,4,none⟩) (Kd.R_far (p := ⟨gb167,3,none⟩) (Kd.R_far (p := ⟨gb167,2,none⟩) (Kd.R_far (p := ⟨gb167,1,none⟩) (Kd.R_far (p := ⟨gb167,0,none⟩) (Kd.R_far (p := ⟨gb180,6,none⟩) (Kd.R_types (Kd.R_types HO177.out BK180.out Z306) BK167.out Z306) (fun _ hk => hk.1.2) (.int .i64 t223)) (fun _ hk => hk.2) (.int .i64 t168)) (fun _ hk => hk.2) (.int .i64 t169)) (fun _ hk => hk.2) (.int .i64 t170)) (fun _ hk => hk.2) (.int .i64 t171)) (fun _ hk => hk.2) (.int .i64 t172)) (fun _ hk => hk.2) (.int .i64 t173)) (fun _ hk => hk.2) (.int .i64 t223)) (fun _ hk => hk.2) (.slice Aoq9 t175.length coq9)) (fun _ hk => trivial),Z207,Z213,Z220⟩
 rw [if_neg c107] at H
 have c107b0 : (t181 == 6) = false := beq_eq_false_iff_ne.mpr c107
 have c107b1 : (t181 != 6) = true := bne_iff_ne.mpr c107
 by_cases c124 : t181 = 7
 rotate_left
 ·rw [if_neg c124] at H
  have c124b0 : (t181 == 7) = false := beq_eq_false_iff_ne.mpr c124
  have c124b1 : (t181 != 7) = true := bne_iff_ne.mpr c124
  simp only [Option.some.injEq,Prod.mk.injEq] at H
  obtain ⟨rfl,rfl,rfl,rfl,rfl,rfl,rfl,rfl,rfl,rfl⟩ := H
  go_enter Tryz.func15,Tryz.ntmps15
  go_wp2_with (first | ((with_reducible refine gate_dst (N := 2) rfl ?_);refine bE 2 #[.int .i64 0,.int .i64 0,.int .i64 0,.int .i64 0,.int .i64 0,.int .i64 0,.int .i64 0,.slice none 0 0] 26 (h := ?_);intro gb167 hg wq1 hbox hb;have n_ := Z14;clear HI0 HK HB;obtain ⟨HI0,HK,HB,BK167,GW167,GE167,NB0_167,NB167_0⟩ := n_;clear hb hbox hg) | ((with_reducible refine gate_callee (f := 43) rfl ?_);refine goesL_ (some 5) rfl rfl Tryz.func43 Z190 rfl #[.pointer (some ⟨g,0,none⟩)] rfl Z130 ?_;(with_reducible refine (spec_l8Right.calls k g s0_0 s0_1 s0_2 t168 t169 t170 t171 t172 t173 t174 t175 t178 t179 w0 _ ?side1 ?side2 A2.out).mono ?_);(case side1 => exact Z227);(case side2 => exact Z228);rintro e wq2 ⟨vq3,rfl,hoq4,hi,hb,hk⟩;refine ⟨_,rfl,?_⟩;have n_ := Z42;clear BK167 HK HB HI0;obtain ⟨BK167,HO177,HK,HB,HI0⟩ := n_;(try clear hb);(try clear hb2);(try clear hk);(try clear hi);(try clear hoq4)) | ((with_reducible refine gate_dst (N := 3) rfl ?_);refine bE 3 #[.int .i64 0,.int .i64 0,.int .i64 0,.int .i64 0,.int .i64 0,.int .i64 0,.int .i64 0,.slice none 0 0] 26 (h := ?_);intro gb180 hg wq5 hbox hb;have n_ := Z9;clear HO177 HI0 BK167 HK HB;obtain ⟨HO177,HI0,BK167,HK,HB,BK180,GW180,GE180,NB167_180,NB180_167,NB0_180,NB180_0⟩ := n_;clear hb hbox hg;have hnbq6 := NB180_167.out;have hncq6 := NB167_180.out;have hnbq7 := NB180_0.out;have hncq7 := NB0_180.out;obtain ⟨hczq8_0,hczq8_1,hczq8_2,hczq8_3,hczq8_4,hczq8_5,hczq8_6,hczq8_7,hfzq8_0,hfzq8_1,hfzq8_2,hfzq8_3,hfzq8_4,hfzq8_5,hfzq8_6,hfzq8_7⟩ := cells8 BK180.out;obtain ⟨Aoq9,coq9,eoq9⟩ := Kd.R_slice HO177.out;subst eoq9) | ((with_reducible refine gate_callee (f := 44) rfl ?_);refine goesL_ (some 7) rfl rfl Tryz.func44 Z190 rfl #[.pointer (some ⟨g,0,none⟩),.int .i64 12] rfl Z130 ?_;(with_reducible refine (spec_l1Below.calls g s0_0 t178 t179 12 t181 t182 t183 w0 _ ?side1 ?side2 A3.out).mono ?_);(case side1 => exact Z207);(case side2 => exact Z213);rintro e wq10 ⟨rfl,hi,hb,hk⟩;refine ⟨_,rfl,?_⟩;have n_ := Z7;clear BK167 HO177 BK180 HK HB HI0;obtain ⟨BK167,HO177,BK180,HK,HB,HI0⟩ := n_;(try clear hb);(try clear hb2);(try clear hk);(try clear hi);obtain ⟨hczq11_0,hczq11_1,hczq11_2,hczq11_3,hczq11_4,hczq11_5,hczq11_6,hczq11_7,hfzq11_0,hfzq11_1,hfzq11_2,hfzq11_3,hfzq11_4,hfzq11_5,hfzq11_6,hfzq11_7⟩ := cells8 BK180.out;have hnbq12 := NB167_0.out;have hncq12 := NB0_167.out;obtain ⟨hczq13_0,hczq13_1,hczq13_2,hczq13_3,hczq13_4,hczq13_5,hczq13_6,hczq13_7,hfzq13_0,hfzq13_1,hfzq13_2,hfzq13_3,hfzq13_4,hfzq13_5,hfzq13_6,hfzq13_7⟩ := cells8 BK167.out))
  refine bodyPost_ret (results_cell_row rfl _ _ gb167 26 #[.int .i64 t168,.int .i64 t169,.int .i64 t170,.int .i64 t171,.int .i64 t172,.int .i64 t173,.int .i64 t174,.slice Aoq9 t175.length coq9] (0,0) _ rfl (by refine bP ?_;refine blk_put (cs := #[.int .i64 t168,.int .i64 t169,.int .i64 t170,.int .i64 t171,.int .i64 t172,.int .i64 t173,.int .i64 t174,.slice none 0 0]) ?_ 7 _ rfl;refine bP ?_;refine blk_put (cs := #[.int .i64 t168,.int .i64 t169,.int .i64 t170,.int .i64 t171,.int .i64 t172,.int .i64 t173,.int .i64 0,.slice none 0 0]) ?_ 6 _ rfl;refine bP ?_;refine blk_put (cs := #[.int .i64 t168,.int .i64 t169,.int .i64 t170,.int .i64 t171,.int .i64 t172,.int .i64 0,.int .i64 0,.slice none 0 0]) ?_ 5 _ rfl;refine bP ?_;refine blk_put (cs := #[.int .i64 t168,.int .i64 t169,.int .i64 t170,.int .i64 t171,.int .i64 0,.int .i64 0,.int .i64 0,.slice none 0 0]) ?_ 4 _ rfl;refine bP ?_;refine blk_put (cs := #[.int .i64 t168,.int .i64 t169,.int .i64 t170,.int .i64 0,.int .i64 0,.int .i64 0,.int .i64 0,.slice none 0 0]) ?_ 3 _ rfl;refine bP ?_;refine blk_put (cs := #[.int .i64 t168,.int .i64 t169,.int .i64 0,.int .i64 0,.int .i64 0,.int .i64 0,.int .i64 0,.slice none 0 0]) ?_ 2 _ rfl;refine bP ?_;refine blk_put (cs := #[.int .i64 t168,.int .i64 0,.int .i64 0,.int .i64 0,.int .i64 0,.int .i64 0,.int .i64 0,.slice none 0 0]) ?_ 1 _ rfl;refine bP ?_;refine blk_put (cs := #[.int .i64 0,.int .i64 0,.int .i64 0,.int .i64 0,.int .i64 0,.int .i64 0,.int .i64 0,.slice none 0 0]) ?_ 0 _ rfl;refine bP ?_;exact BK167.out) Tryz.underlying26 rfl Z190) rfl ?_
  exact ⟨_,Z152,by (with_reducible repeat (first | apply Kd.R_alloc | apply Kd.R_drewN | apply Kd.R_drew));exact Kd.R_mono (Kd.R_far (p := ⟨gb167,7,none⟩) (Kd.R_far (p := ⟨gb167,6,none⟩) (Kd.R_far (p := ⟨gb167,5,none⟩) (Kd.R_far (p := ⟨gb167,4,none⟩) (Kd.R_far (p := ⟨gb167,3,none⟩) (Kd.R_far (p := ⟨gb167,2,none⟩) (Kd.R_far (p := ⟨gb167,1,none⟩) (Kd.R_far (p := ⟨gb167,0,none⟩) (Kd.R_types HO177.out BK167.out Z306) (fun _ hk => hk.2) (.int .i64 t168)) (fun _ hk => hk.2) (.int .i64 t169)) (fun _ hk => hk.2) (.int .i64 t170)) (fun _ hk => hk.2) (.int .i64 t171)) (fun _ hk => hk.2) (.int .i64 t172)) (fun _ hk => hk.2) (.int .i64 t173)) (fun _ hk => hk.2) (.int .i64 t174)) (fun _ hk => hk.2) (.slice Aoq9 t175.length coq9)) (fun _ hk => trivial),Z207,Z213,Z220⟩
 rw [if_pos c124] at H
 have c124b0 : (t181 == 7) = true := beq_iff_eq.mpr c124
 have c124b1 : (t181 != 7) = false := bne_eq_false_iff_eq.mpr c124
 clear c124
 obtain ⟨⟨t226,t227,t228⟩,A1250,H⟩ := Option.bind_eq_some_iff.mp H
 try dsimp only at H
 have A125 := Aside0.mk A1250
 clear A1250
 obtain ⟨c126,H⟩ := ifp H
 have LMc126 := Aside0.mk c126
 clear c126
 obtain ⟨y229,hyy⟩ : ∃ y_ : List Int,y_ = (t175 ++ [wrap64 (t226 - 2)]) := ⟨_,rfl⟩
 replace H : (some (t168,t169,t170,t171,t172,t173,t174,y229,t227,t228)) = some (r1,r2,r3,r4,r5,r6,r7,r8,r9,r10) := zR
 have Ny229 := Aside0.mk hyy
 clear hyy
 simp only [Option.some.injEq,Prod.mk.injEq] at H
 obtain ⟨rfl,rfl,rfl,rfl,rfl,rfl,rfl,rfl,rfl,rfl⟩ := H
 go_enter Tryz.func15,Tryz.ntmps15
 try go_wp2_with (first | ((with_reducible refine gate_dst (N := 2) rfl ?_);refine bE 2 #[.int .i64 0,.int .i64 0,.int .i64 0,.int .i64 0,.int .i64 0,.int .i64 0,.int .i64 0,.slice none 0 0] 26 (h := ?_);intro gb167 hg w127 hbox hb;have n_ := Z14;clear HI0 HK HB;obtain ⟨HI0,HK,HB,BK167,GW167,GE167,NB0_167,NB167_0⟩ := n_;clear hb hbox hg) | ((with_reducible refine gate_callee (f := 43) rfl ?_);refine goesL_ (some 5) rfl rfl Tryz.func43 Z190 rfl #[.pointer (some ⟨g,0,none⟩)] rfl Z130 ?_;(with_reducible refine (spec_l8Right.calls k g s0_0 s0_1 s0_2 t168 t169 t170 t171 t172 t173 t174 t175 t178 t179 w0 _ ?side1 ?side2 A2.out).mono ?_);(case side1 => exact Z227);(case side2 => exact Z228);rintro e w128 ⟨v176,rfl,ho0,hi,hb,hk⟩;refine ⟨_,rfl,?_⟩;have n_ := jA (KeepBut.blk hk (g' := gb167) (o := .cells #[.int .i64 0,.int .i64 0,.int .i64 0,.int .i64 0,.int .i64 0,.int .i64 0,.int .i64 0,.slice none 0 0] 26 (0,0)) Z272 NB167_0.out Z286) (jA (Kd.R_lower ho0 (keep_size (w := w) (g := g) (row := none) Z292)) (jA (KeepBut.trans Z292 hk (.inl rfl)) (jA (hb) (Aside0.mk (hi)))));clear BK167 HK HB HI0;obtain ⟨BK167,HO177,HK,HB,HI0⟩ := n_;(try clear hb);(try clear hb2);(try clear hk);(try clear hi);(try clear ho0)) | ((with_reducible refine gate_dst (N := 3) rfl ?_);refine bE 3 #[.int .i64 0,.int .i64 0,.int .i64 0,.int .i64 0,.int .i64 0,.int .i64 0,.int .i64 0,.slice none 0 0] 26 (h := ?_);intro gb180 hg w129 hbox hb;have n_ := Z9;clear HO177 HI0 BK167 HK HB;obtain ⟨HO177,HI0,BK167,HK,HB,BK180,GW180,GE180,NB167_180,NB180_167,NB0_180,NB180_0⟩ := n_;clear hb hbox hg;have hnb130 := NB180_167.out;have hnc130 := NB167_180.out;have hnb131 := NB180_0.out;have hnc131 := NB0_180.out;obtain ⟨hcz132_0,hcz132_1,hcz132_2,hcz132_3,hcz132_4,hcz132_5,hcz132_6,hcz132_7,hfz132_0,hfz132_1,hfz132_2,hfz132_3,hfz132_4,hfz132_5,hfz132_6,hfz132_7⟩ := cells8 BK180.out;obtain ⟨Ao133,co133,eo133⟩ := Kd.R_slice HO177.out;subst eo133) | ((with_reducible refine gate_callee (f := 44) rfl ?_);refine goesL_ (some 7) rfl rfl Tryz.func44 Z190 rfl #[.pointer (some ⟨g,0,none⟩),.int .i64 12] rfl Z130 ?_;(with_reducible refine (spec_l1Below.calls g s0_0 t178 t179 12 t181 t182 t183 w0 _ ?side1 ?side2 A3.out).mono ?_);(case side1 => exact Z207);(case side2 => exact Z213);rintro e w134 ⟨rfl,hi,hb,hk⟩;refine ⟨_,rfl,?_⟩;have n_ := jA (KeepBut.blk hk (g' := gb167) (o := .cells #[.int .i64 0,.int .i64 0,.int .i64 0,.int .i64 0,.int .i64 0,.int .i64 0,.int .i64 0,.slice none 0 0] 26 (0,0)) Z199 NB167_0.out Z286) (jA (Kd.R_mono (Kd.R_keep (IsS65.apart (show IsS65 w0 _ g s0_0 t178 t179 from Z207) (by (with_reducible repeat (first | apply Kd.R_alloc | apply Kd.R_drewN | apply Kd.R_drew));exact (Kd.R_mono (Kd.R_far (p := ⟨gb180,7,none⟩) (Kd.R_far (p := ⟨gb180,6,none⟩) (Kd.R_far (p := ⟨gb180,5,none⟩) (Kd.R_far (p := ⟨gb180,4,none⟩) (Kd.R_far (p := ⟨gb180,3,none⟩) (Kd.R_far (p := ⟨gb180,2,none⟩) (Kd.R_far (p := ⟨gb180,1,none⟩) (Kd.R_far (p := ⟨gb180,0,none⟩) (Kd.R_types HO177.out BK180.out Z306) (fun _ hk => hk.2) (.int .i64 t168)) (fun _ hk => hk.2) (.int .i64 t169)) (fun _ hk => hk.2) (.int .i64 t170)) (fun _ hk => hk.2) (.int .i64 t171)) (fun _ hk => hk.2) (.int .i64 t172)) (fun _ hk => hk.2) (.int .i64 t173)) (fun _ hk => hk.2) (.int .i64 t174)) (fun _ hk => hk.2) (.slice Ao133 t175.length co133)) (fun _ h_ => h_.1))) Z306) hk (fun _ h => h.2)) (fun _ h => h.1)) (jA (KeepBut.blk hk (g' := gb180) (o := .cells #[.int .i64 t168,.int .i64 t169,.int .i64 t170,.int .i64 t171,.int .i64 t172,.int .i64 t173,.int .i64 t174,.slice Ao133 t175.length co133] 26 (0,0)) Z192 NB180_0.out Z286) (jA (KeepBut.trans Z220 hk (.inl rfl)) (jA (hb) (Aside0.mk (hi))))));clear BK167 HO177 BK180 HK HB HI0;obtain ⟨BK167,HO177,BK180,HK,HB,HI0⟩ := n_;(try clear hb);(try clear hb2);(try clear hk);(try clear hi)))
 have n_ := jA (Kd.R_drew HO177.out) (jA (blk_drew BK167.out) (jA (blk_drew BK180.out) (jA (IsS65.drew HI0.out) (jA (keep_drew HK.out) (Aside0.mk (below_drew1 HB.out))))))
 clear HO177 BK167 BK180 HI0 HK HB
 obtain ⟨HO177,BK167,BK180,HI0,HK,HB⟩ := n_
 refine start_ (n := 9) (S := fun w' => w'.cell? ⟨gb180,0,none⟩ = some (.int .i64 t168) ∧ w'.cell? ⟨gb180,1,none⟩ = some (.int .i64 t169) ∧ w'.cell? ⟨gb180,2,none⟩ = some (.int .i64 t170) ∧ w'.cell? ⟨gb180,3,none⟩ = some (.int .i64 t171) ∧ w'.cell? ⟨gb180,4,none⟩ = some (.int .i64 t172) ∧ w'.cell? ⟨gb180,5,none⟩ = some (.int .i64 t173) ∧ w'.cell? ⟨gb180,6,none⟩ = some (.int .i64 t174) ∧ w'.cell? ⟨gb180,7,none⟩ = some (.slice Ao133 t175.length co133)) (ds := [8]) (qM 9 0) Z190 rfl (by kernel_rfl) ⟨bc BK180 0,bc BK180 1,bc BK180 2,bc BK180 3,bc BK180 4,bc BK180 5,bc BK180 6,bc BK180 7⟩ (fun hHeld => ?_);refine with_tabW spec_l8Bent.tab18 spec_l8Bent.bits18 (fun HT_ HW_ => ?_)
 generalize w134.drew = w135 at HO177 BK167 BK180 HI0 HK HB hHeld ⊢
 refine rP 0 57 9 1 HT_ (h := ?_)
 refine rP 2 59 9 5 HT_ (h := ?_)
 refine rT8 1 58 9 7 HT_ HW_ hHeld (h := ?_)
 refine rO 3 60 9 15 HT_ (h := fun K hK => ?_)
 refine goes_ Tryz.func44 Z190 rfl #[.pointer (some ⟨g,0,none⟩),.int .i64 5] Z191 rfl rfl Z130 ?_
 with_reducible refine (spec_l1Below.calls g s0_0 t182 t183 5 t226 t227 t228 w0 _ ?side1 ?side2 A125.out).mono ?_
 (case side1 => exact Z207)
 (case side2 => exact Z213)
 rintro e w136 ⟨rfl,hi,hb,hk⟩
 refine ⟨_,rfl,?_⟩
 have n_ := jA (KeepBut.blk hk (g' := gb167) (o := .cells #[.int .i64 0,.int .i64 0,.int .i64 0,.int .i64 0,.int .i64 0,.int .i64 0,.int .i64 0,.slice none 0 0] 26 (0,0)) Z272 NB167_0.out Z286) (jA (Kd.R_mono (Kd.R_keep (IsS65.apart (show IsS65 w0 _ g s0_0 t182 t183 from Z207) Z256 Z306) hk (fun _ h => h.2)) (fun _ h => h.1)) (jA (KeepBut.blk hk (g' := gb180) (o := .cells #[.int .i64 t168,.int .i64 t169,.int .i64 t170,.int .i64 t171,.int .i64 t172,.int .i64 t173,.int .i64 t174,.slice Ao133 t175.length co133] 26 (0,0)) Z278 NB180_0.out Z286) (jA (KeepBut.trans Z220 hk (.inl rfl)) (jA (hb) (Aside0.mk (hi))))))
 clear BK167 HO177 BK180 HK HB HI0
 obtain ⟨BK167,HO177,BK180,HK,HB,HI0⟩ := n_
 (try clear hb)
 (try clear hb2)
 (try clear hk)
 (try clear hi)
 refine hK.out _ _ ⟨bc BK180 0,bc BK180 1,bc BK180 2,bc BK180 3,bc BK180 4,bc BK180 5,bc BK180 6,bc BK180 7⟩ (fun hHeld => ?_)
 clear hK K
 refine rN (h := ?_)
 refine rP 4 61 9 31 HT_ (h := ?_)
 refine rO 5 62 9 63 HT_ (h := fun K hK => ?_)
 refine value_ (w1 := ?_) (v := ?_) Z191 rfl ?_ ?_
 rotate_left 2
 ·go_simp
  constructor
  ·rfl
  rfl
 refine hK.out _ _ ⟨(blk_cell (blk_alloc BK180.out _) 0).trans rfl,(blk_cell (blk_alloc BK180.out _) 1).trans rfl,(blk_cell (blk_alloc BK180.out _) 2).trans rfl,(blk_cell (blk_alloc BK180.out _) 3).trans rfl,(blk_cell (blk_alloc BK180.out _) 4).trans rfl,(blk_cell (blk_alloc BK180.out _) 5).trans rfl,(blk_cell (blk_alloc BK180.out _) 6).trans rfl,(blk_cell (blk_alloc BK180.out _) 7).trans rfl⟩ (fun hHeld => ?_)
 clear hK K
 refine rN (h := ?_)
 refine rO 6 63 9 127 HT_ (h := fun K hK => ?_)
 refine Kd.R_append_step (Kd.int .i64) w.heap.size Z191 (.tmp 58) (.tmp 62) 24 3 (.int .i64 0) 8 rfl Tryz.underlying24 info3 rfl Z306 Z285 (.slice Ao133 t175.length co133) t175 (wrap64 (t226 - 2)) [.int .i64 (wrap64 (t226 - 2))] (fun _ => True) (fun _ => False) rfl rfl ?aP (fun _ hk => hk.elim) ?aF ?aO (Below.refl _ _) ?aS ?aL ?_
 (case aP => exact rfl)
 (case aF => exact Z183)
 (case aO => exact Z256)
 (case aS => exact (keep_size (w := w) (g := g) (row := none) Z220))
 (case aL => have := LMc126.out;omega)
 intro v230 w137 ho hb hg hat
 rw [← Ny229.out] at ho
 have n_ := jA (IsS65.grown (by repeat (first | (with_reducible first | exact HI0.out | exact IsS65.far HI0.out NB0_167.out _ | exact IsS65.far HI0.out NB0_180.out _ | apply IsS65.alloc | apply IsS65.drewN | apply IsS65.drew | apply IsS65.set_1 | apply IsS65.set_2 | refine IsS65.far ?_ NB0_167.out _ | refine IsS65.far ?_ NB0_180.out _) | exact HI0.out)) hg (IsS65.own_ne HI0.out HO177.out Z306)) (jA (blk_grown (g := gb167) (o := .cells #[.int .i64 0,.int .i64 0,.int .i64 0,.int .i64 0,.int .i64 0,.int .i64 0,.int .i64 0,.slice none 0 0] 26 (0,0)) Z272 hg (Kd.R_ne HO177.out BK167.out Z306)) (jA (blk_grown (g := gb180) (o := .cells #[.int .i64 t168,.int .i64 t169,.int .i64 t170,.int .i64 t171,.int .i64 t172,.int .i64 t173,.int .i64 t174,.slice Ao133 t175.length co133] 26 (0,0)) Z278 hg (Kd.R_ne HO177.out BK180.out Z306)) (jA (below_weaken Z213 HL.out hb) (jA (KeepBut.trans Z220 (KeepBut.of_grown hg g) (Kd.R_base2 HO177.out)) (Aside0.mk (ho))))))
 clear HI0 BK167 BK180 HB HK HO177
 obtain ⟨HI0,BK167,BK180,HB,HK,HO231⟩ := n_
 clear ho hb hg hat
 obtain ⟨Ao138,co138,eo138⟩ := Kd.R_slice HO231.out
 (first | subst eo138 | (injection eo138 with f1_ f2_ f3_;have f4_ := f1_.symm;have f5_ := f3_.symm;clear f1_ f2_ f3_;subst f4_;subst f5_))
 refine hK.out _ _ ⟨bc BK180 0,bc BK180 1,bc BK180 2,bc BK180 3,bc BK180 4,bc BK180 5,bc BK180 6,bc BK180 7⟩ (fun hHeld => ?_)
 clear hK K
 refine rN (h := ?_)
 refine rP 7 64 9 255 HT_ (h := ?_)
 refine last_ (i := 8) (N := none) (qM 9 511) rfl rfl (one_of HT_.out Z190) Z306 (fun K hK => ?_)
 have hs139 : w137.cell? ⟨gb180,7,none⟩ = some (.slice Ao133 t175.length co133) := bc BK180 7
 have hfs139 := blk_frozen BK180.out 7
 have hns139_0 := NB167_180.out
 have hms139_0 := NB180_167.out
 refine skip_ (w1 := ?_) Z191 rfl ?_ ?_
 rotate_left
 ·go_simp
  rfl
 refine hK.out _ _ ?_
 clear hK K
 refine done_ (done_of HT_.out Z190) ?_
 obtain ⟨hcz140_0,hcz140_1,hcz140_2,hcz140_3,hcz140_4,hcz140_5,hcz140_6,hcz140_7,hfz140_0,hfz140_1,hfz140_2,hfz140_3,hfz140_4,hfz140_5,hfz140_6,hfz140_7⟩ := cells8 BK180.out
 have hnb141 := NB167_0.out
 have hnc141 := NB0_167.out
 obtain ⟨hcz142_0,hcz142_1,hcz142_2,hcz142_3,hcz142_4,hcz142_5,hcz142_6,hcz142_7,hfz142_0,hfz142_1,hfz142_2,hfz142_3,hfz142_4,hfz142_5,hfz142_6,hfz142_7⟩ := cells8 BK167.out
 try go_wp2
 refine bodyPost_ret (results_cell_row rfl _ _ gb167 26 #[.int .i64 t168,.int .i64 t169,.int .i64 t170,.int .i64 t171,.int .i64 t172,.int .i64 t173,.int .i64 t174,.slice Ao138 y229.length co138] (0,0) _ rfl (by refine bP ?_;refine blk_put (cs := #[.int .i64 t168,.int .i64 t169,.int .i64 t170,.int .i64 t171,.int .i64 t172,.int .i64 t173,.int .i64 t174,.slice none 0 0]) ?_ 7 _ rfl;refine bP ?_;refine blk_put (cs := #[.int .i64 t168,.int .i64 t169,.int .i64 t170,.int .i64 t171,.int .i64 t172,.int .i64 t173,.int .i64 0,.slice none 0 0]) ?_ 6 _ rfl;refine bP ?_;refine blk_put (cs := #[.int .i64 t168,.int .i64 t169,.int .i64 t170,.int .i64 t171,.int .i64 t172,.int .i64 0,.int .i64 0,.slice none 0 0]) ?_ 5 _ rfl;refine bP ?_;refine blk_put (cs := #[.int .i64 t168,.int .i64 t169,.int .i64 t170,.int .i64 t171,.int .i64 0,.int .i64 0,.int .i64 0,.slice none 0 0]) ?_ 4 _ rfl;refine bP ?_;refine blk_put (cs := #[.int .i64 t168,.int .i64 t169,.int .i64 t170,.int .i64 0,.int .i64 0,.int .i64 0,.int .i64 0,.slice none 0 0]) ?_ 3 _ rfl;refine bP ?_;refine blk_put (cs := #[.int .i64 t168,.int .i64 t169,.int .i64 0,.int .i64 0,.int .i64 0,.int .i64 0,.int .i64 0,.slice none 0 0]) ?_ 2 _ rfl;refine bP ?_;refine blk_put (cs := #[.int .i64 t168,.int .i64 0,.int .i64 0,.int .i64 0,.int .i64 0,.int .i64 0,.int .i64 0,.slice none 0 0]) ?_ 1 _ rfl;refine bP ?_;refine blk_put (cs := #[.int .i64 0,.int .i64 0,.int .i64 0,.int .i64 0,.int .i64 0,.int .i64 0,.int .i64 0,.slice none 0 0]) ?_ 0 _ rfl;refine bP ?_;refine blk_far ?_ NB167_180.out _;refine bP ?_;exact BK167.out) Tryz.underlying26 rfl Z190) rfl ?_
 exact ⟨_,Z152,by (with_reducible repeat (first | apply Kd.R_alloc | apply Kd.R_drewN | apply Kd.R_drew));exact Kd.R_mono (Kd.R_far (p := ⟨gb167,7,none⟩) (Kd.R_far (p := ⟨gb167,6,none⟩) (Kd.R_far (p := ⟨gb167,5,none⟩) (Kd.R_far (p := ⟨gb167,4,none⟩) (Kd.R_far (p := ⟨gb167,3,none⟩) (Kd.R_far (p := ⟨gb167,2,none⟩) (Kd.R_far (p := ⟨gb167,1,none⟩) (Kd.R_far (p := ⟨gb167,0,none⟩) (Kd.R_far (p := ⟨gb180,7,none⟩) (Kd.R_types (Kd.R_types HO231.out BK180.out Z306) BK167.out Z306) (fun _ hk => hk.1.2) (.slice Ao138 y229.length co138)) (fun _ hk => hk.2) (.int .i64 t168)) (fun _ hk => hk.2) (.int .i64 t169)) (fun _ hk => hk.2) (.int .i64 t170)) (fun _ hk => hk.2) (.int .i64 t171)) (fun _ hk => hk.2) (.int .i64 t172)) (fun _ hk => hk.2) (.int .i64 t173)) (fun _ hk => hk.2) (.int .i64 t174)) (fun _ hk => hk.2) (.slice Ao138 y229.length co138)) (fun _ hk => trivial),Z207,Z213,Z220⟩

/-! ### spec_l1New: function 16 -/
def spec_l1New.l0 : Nat → List Int → Int → Int → Option (List Int × Int × Int)
 | 0,_,_,_ => none
 | k + 1,x0,x3,x4 => if x4 < (x0.length : Int) then (if x4 < 4000 then (if 0 ≤ x4 then (spec_l1New.l0 k x0 (Go.bits .and .i64 (wrap64 ((wrap64 ((wrap64 (x3 * 131)) + (wrap64 (rd x0 x4)))) + 7)) 1073741823) (wrap64 (x4 + 1))) else (none)) else (some (x0,0,x3))) else (some (x0,0,x3))
def spec_l1New.f (k : Nat) (l0 : List Int) : Option (List Int × Int × Int) := spec_l1New.l0 k l0 (wrap64 (28507 + (l0.length : Int))) 0
theorem spec_l1New.mono_l : ∀ k,(∀ y0 y1 y2,LeO (spec_l1New.l0 k y0 y1 y2) (spec_l1New.l0 (k + 1) y0 y1 y2))
 | 0 => fun _ _ _ r h => by simp [spec_l1New.l0] at h
 | k + 1 => by
  have ih0 := spec_l1New.mono_l k
  ·intro y0 y1 y2
   unfold spec_l1New.l0
   repeat' first
   | (with_reducible exact ih0 _ _ _)
   | (with_reducible exact LeO.refl _)
   | (with_reducible exact LeO.none _)
   | (with_reducible refine LeO.ite ?_ ?_)
   | (with_reducible refine LeO.bind ?_ (fun _ => ?_))
   | exact ih0 _ _ _
   | exact LeO.none _
   | refine LeO.ite ?_ ?_
   | refine LeO.bind ?_ (fun _ => ?_)
theorem spec_l1New.mono : ∀ a0 k,LeO (spec_l1New.f k a0) (spec_l1New.f (k + 1) a0) := by
 intro a0 k
 have ih0 := spec_l1New.mono_l k
 unfold spec_l1New.f
 repeat' first
   | (with_reducible exact ih0 _ _ _)
   | (with_reducible exact LeO.refl _)
   | (with_reducible exact LeO.none _)
   | (with_reducible refine LeO.ite ?_ ?_)
   | (with_reducible refine LeO.bind ?_ (fun _ => ?_))
   | exact ih0 _ _ _
   | exact LeO.none _
   | refine LeO.ite ?_ ?_
   | refine LeO.bind ?_ (fun _ => ?_)
set_option maxHeartbeats 8000000 in
set_option maxRecDepth 100000 in
theorem spec_l1New.calls (k : Nat) (A0 : Option Addr) (c0 : Nat) (l0 : List Int) (r1 : List Int) (r2 : Int) (r3 : Int) (w0 w : World) (hB : Below w0.heap.size w0 w) (hr0 : Kd.C (Kd.int .u8) w0 A0 l0.length l0) (hc0 : l0.length ≤ c0) (h : spec_l1New.f k l0 = some (r1,r2,r3)) :
  Calls Tryz.prog 16 #[.slice A0 l0.length c0] w fun e w' => ∃ g_ : Nat,e = .returned (.pointer (some ⟨g_,0,none⟩)) ∧ IsS65 w0 w' g_ r1 r2 r3 ∧ Below w0.heap.size w0 w' ∧ Below w.heap.size w w' := by
 have hu65 := Tryz.underlying65
 have HR0 := Aside0.mk hr0
 have HC0 := Aside0.mk hc0
 clear hr0 hc0
 have HBW := Aside0.mk (Below.refl w.heap.size w)
 have HW0 := Aside0.mk hB.size
 have HB := Aside0.mk hB
 clear hB
 have H := h
 clear h
 unfold spec_l1New.f at H
 have H' := Aside0.mk H
 clear H
 go_enter Tryz.func16,Tryz.ntmps16
 go_wp2
 go_loopg [3,4] k (fun kq v3 v4 w' => ∃ (x3_1 : Int) (x4_1 : Int),v3 = .int .i64 x3_1 ∧ v4 = .int .i64 x4_1 ∧ Aside0 (spec_l1New.l0 kq l0 x3_1 x4_1 = some (r1,r2,r3)) ∧ Aside0 (kq ≤ k) ∧ Aside0 (Below w0.heap.size w0 w') ∧ Aside0 (Below w.heap.size w w'))
 case atStart => exact ⟨(wrap64 (28507 + (l0.length : Int))),(0),Z165,Z165,H',⟨Nat.le_refl _⟩,⟨Z298⟩,⟨Z251⟩⟩
 case round =>
  clear H'
  try clear c1
  obtain ⟨x3_1,x4_1,rfl,rfl,HA,HK1,HB,HBW⟩ := hrel
  cases gk with
  | zero => exact absurd HA.out (by simp [spec_l1New.l0])
  | succ k1 =>
   have H := HA.out
   clear HA
   simp only [spec_l1New.l0] at H
   by_cases c2 : x4_1 < (l0.length : Int)
   rotate_left
   ·rw [if_neg c2] at H
    have c2b0 : decide (x4_1 < (l0.length : Int)) = false := decide_eq_false c2
    clear c2
    simp only [Option.some.injEq,Prod.mk.injEq] at H
    obtain ⟨rfl,rfl,rfl⟩ := H
    go_wp2_with (first | ((with_reducible refine gate_dst (N := 31) rfl ?_);refine bE 31 #[.slice A0 l0.length c0,.int .i64 0,.int .i64 x3_1] 65 (h := ?_);intro gb234 hg wq1 hbox hb;have n_ := jA (below_step HBW.out hb) (jA (below_step Z298 hb) (jA (hbox) (jA ((Z120 : w.heap.size ≤ gb234)) (Aside0.mk ((Nat.le_trans HW0.out (Z120 : w.heap.size ≤ gb234) : w0.heap.size ≤ gb234))))));clear HBW HB;obtain ⟨HBW,HB,BK234,GW234,GE234⟩ := n_;clear hb hbox hg))
    go_ret
    exact ⟨_,rfl,(show IsS65 w0 _ gb234 l0 0 x3_1 from ⟨_,_,by refine bP ?_;exact BK234.out,GE234.out,HR0.out⟩),by repeat (first | (with_reducible first | exact HB.out | apply below_alloc | apply pw_below_drewN | apply below_drew1 | refine below_set ?_ GE234.out) | exact HB.out),by repeat (first | (with_reducible first | exact HBW.out | apply below_alloc | apply pw_below_drewN | apply below_drew1 | refine below_set ?_ GW234.out) | exact HBW.out)⟩
   rw [if_pos c2] at H
   have c2b0 : decide (x4_1 < (l0.length : Int)) = true := decide_eq_true c2
   clear c2
   by_cases c3 : x4_1 < 4000
   ·rw [if_pos c3] at H
    have c3b0 : decide (x4_1 < 4000) = true := decide_eq_true c3
    clear c3
    obtain ⟨c4,H⟩ := ifp H
    have c4b0 : decide (0 ≤ x4_1) = true := decide_eq_true c4
    clear c4
    have H' := Aside0.mk H
    clear H
    have p232 : 0 ≤ (x4_1 : Int) := of_decide_eq_true Z164
    have q232 : x4_1 < (l0.length : Int) := of_decide_eq_true Z164
    obtain ⟨ad232,e232,hx232_0⟩ := Kd.at_int HR0.out x4_1 p232 q232
    cases e232
    replace hx232_0 := pw_cell_below HB.out hx232_0
    replace p232 := eq_true p232
    replace q232 := eq_true q232
    go_wp2
    go_roundg k1
    case measure => have := HK1.out;omega
    case rel => exact ⟨(Go.bits .and .i64 (wrap64 ((wrap64 ((wrap64 (x3_1 * 131)) + (wrap64 (rd l0 x4_1)))) + 7)) 1073741823),(wrap64 (x4_1 + 1)),Z165,Z165,H',⟨Z184⟩,⟨Z298⟩,⟨Z251⟩⟩
   rw [if_neg c3] at H
   have c3b0 : decide (x4_1 < 4000) = false := decide_eq_false c3
   clear c3
   simp only [Option.some.injEq,Prod.mk.injEq] at H
   obtain ⟨rfl,rfl,rfl⟩ := H
   go_wp2_with (first | ((with_reducible refine gate_dst (N := 31) rfl ?_);refine bE 31 #[.slice A0 l0.length c0,.int .i64 0,.int .i64 x3_1] 65 (h := ?_);intro gb233 hg wq1 hbox hb;have n_ := jA (below_step HBW.out hb) (jA (below_step Z298 hb) (jA (hbox) (jA ((Z120 : w.heap.size ≤ gb233)) (Aside0.mk ((Nat.le_trans HW0.out (Z120 : w.heap.size ≤ gb233) : w0.heap.size ≤ gb233))))));clear HBW HB;obtain ⟨HBW,HB,BK233,GW233,GE233⟩ := n_;clear hb hbox hg))
   go_ret
   exact ⟨_,rfl,(show IsS65 w0 _ gb233 l0 0 x3_1 from ⟨_,_,by refine bP ?_;exact BK233.out,GE233.out,HR0.out⟩),by repeat (first | (with_reducible first | exact HB.out | apply below_alloc | apply pw_below_drewN | apply below_drew1 | refine below_set ?_ GE233.out) | exact HB.out),by repeat (first | (with_reducible first | exact HBW.out | apply below_alloc | apply pw_below_drewN | apply below_drew1 | refine below_set ?_ GW233.out) | exact HBW.out)⟩

/-! ### spec_DrawConfigText: function 5 -/
def spec_DrawConfigText.f (k : Nat) (l0 : List Int) : Option (Int × Int × Int × Int × Int × Int × Int × List Int) := (spec_l1New.f k l0).bind fun bt236 => ((spec_l8Bent.f k bt236.1 bt236.2.1 bt236.2.2).bind fun bt240 => (some (bt240.1,bt240.2.1,bt240.2.2.1,bt240.2.2.2.1,bt240.2.2.2.2.1,bt240.2.2.2.2.2.1,bt240.2.2.2.2.2.2.1,bt240.2.2.2.2.2.2.2.1)))
theorem spec_DrawConfigText.mono : ∀ a0 k,LeO (spec_DrawConfigText.f k a0) (spec_DrawConfigText.f (k + 1) a0) := by
 intro a0 k
 unfold spec_DrawConfigText.f
 repeat' first
   | (with_reducible exact spec_l1New.mono _ _)
   | (with_reducible exact spec_l8Bent.mono _ _ _ _)
   | (with_reducible exact LeO.refl _)
   | (with_reducible exact LeO.none _)
   | (with_reducible refine LeO.ite ?_ ?_)
   | (with_reducible refine LeO.bind ?_ (fun _ => ?_))
   | exact spec_l1New.mono _ _
   | exact spec_l8Bent.mono _ _ _ _
   | exact LeO.none _
   | refine LeO.ite ?_ ?_
   | refine LeO.bind ?_ (fun _ => ?_)
set_option maxHeartbeats 8000000 in
set_option maxRecDepth 100000 in
theorem spec_DrawConfigText.calls (k : Nat) (A0 : Option Addr) (c0 : Nat) (l0 : List Int) (r1 : Int) (r2 : Int) (r3 : Int) (r4 : Int) (r5 : Int) (r6 : Int) (r7 : Int) (r8 : List Int) (w : World) (hr0 : Kd.C (Kd.int .u8) w A0 l0.length l0) (hc0 : l0.length ≤ c0) (h : spec_DrawConfigText.f k l0 = some (r1,r2,r3,r4,r5,r6,r7,r8)) :
  Calls Tryz.prog 5 #[.slice A0 l0.length c0] w fun e w' => ∃ v7_ : Value,e = .returned (.agg #[.int .i64 r1,.int .i64 r2,.int .i64 r3,.int .i64 r4,.int .i64 r5,.int .i64 r6,.int .i64 r7,v7_]) ∧ Kd.R (Kd.int .i64) 3 w' w.heap.size (fun _ => True) v7_ r8 ∧ Below w.heap.size w w' := by
 have hu26 := Tryz.underlying26
 have HR0 := Aside0.mk hr0
 have HC0 := Aside0.mk hc0
 clear hr0 hc0
 have HB := Aside0.mk (Below.refl w.heap.size w)
 have H := h
 clear h
 unfold spec_DrawConfigText.f at H
 obtain ⟨⟨t236,t237,t238⟩,A20,H⟩ := Option.bind_eq_some_iff.mp H
 try dsimp only at H
 have A2 := Aside0.mk A20
 clear A20
 obtain ⟨⟨t240,t241,t242,t243,t244,t245,t246,t247,t250,t251⟩,A30,H⟩ := Option.bind_eq_some_iff.mp H
 try dsimp only at H
 have A3 := Aside0.mk A30
 clear A30
 simp only [Option.some.injEq,Prod.mk.injEq] at H
 obtain ⟨rfl,rfl,rfl,rfl,rfl,rfl,rfl,rfl⟩ := H
 go_enter Tryz.func5,Tryz.ntmps5
 go_wp2_with (first | ((with_reducible refine gate_dst (N := 2) rfl ?_);refine bE 2 #[.int .i64 0,.int .i64 0,.int .i64 0,.int .i64 0,.int .i64 0,.int .i64 0,.int .i64 0,.slice none 0 0] 26 (h := ?_);intro gb235 hg wq1 hbox hb;have n_ := jA (below_step Z298 hb) (jA (hbox) (jA ((Z240 : w.heap.size ≤ gb235)) (Aside0.mk ((Z240 : w.heap.size ≤ gb235)))));clear HB;obtain ⟨HB,BK235,GW235,GE235⟩ := n_;clear hb hbox hg) | ((with_reducible refine gate_callee (f := 16) rfl ?_);refine goesL_ (some 4) rfl rfl Tryz.func16 Z190 rfl #[.slice A0 l0.length c0] rfl Z130 ?_;(with_reducible refine (spec_l1New.calls k _ _ l0 t236 t237 t238 w _ ?side1 ?side2 ?side3 A2.out).mono ?_);(case side1 => repeat (first | (with_reducible first | exact HB.out | apply below_alloc | apply pw_below_drewN | apply below_drew1 | refine below_set ?_ GE235.out) | exact HB.out));(case side2 => exact HR0.out);(case side3 => exact HC0.out);rintro e wq2 ⟨gq3,rfl,hi,hb,hbq4⟩;refine ⟨_,rfl,?_⟩;have n_ := jA (blk_below (g := gb235) (o := .cells #[.int .i64 0,.int .i64 0,.int .i64 0,.int .i64 0,.int .i64 0,.int .i64 0,.int .i64 0,.slice none 0 0] 26 (0,0)) Z182 hbq4) (jA (hb) (jA (hi) (jA (IsS65.ne_blk hi (blk_below (g := gb235) (o := .cells #[.int .i64 0,.int .i64 0,.int .i64 0,.int .i64 0,.int .i64 0,.int .i64 0,.int .i64 0,.slice none 0 0] 26 (0,0)) Z182 hbq4) Z306) (Aside0.mk (Ne.symm (IsS65.ne_blk hi (blk_below (g := gb235) (o := .cells #[.int .i64 0,.int .i64 0,.int .i64 0,.int .i64 0,.int .i64 0,.int .i64 0,.int .i64 0,.slice none 0 0] 26 (0,0)) Z182 hbq4) Z306))))));clear BK235 HB;obtain ⟨BK235,HB,HI239,NB239_235,NB235_239⟩ := n_;(try clear hb);(try clear hbq4);(try clear hk);(try clear hi)) | ((with_reducible refine gate_callee (f := 15) rfl ?_);refine goesL_ (some 5) rfl rfl Tryz.func15 Z190 rfl #[.pointer (some ⟨gq3,0,none⟩)] rfl Z130 ?_;(with_reducible refine (spec_l8Bent.calls k gq3 t236 t237 t238 t240 t241 t242 t243 t244 t245 t246 t247 t250 t251 w _ ?side1 ?side2 A3.out).mono ?_);(case side1 => repeat (first | (with_reducible first | exact HI239.out | apply IsS65.alloc | apply IsS65.drewN | apply IsS65.drew | apply IsS65.set_1 | apply IsS65.set_2 | refine IsS65.far ?_ NB239_235.out _) | exact HI239.out));(case side2 => exact Z91);rintro e wq5 ⟨vq6,rfl,hoq7,hi,hb,hk⟩;refine ⟨_,rfl,?_⟩;have n_ := jA (KeepBut.blk hk (g' := gb235) (o := .cells #[.int .i64 0,.int .i64 0,.int .i64 0,.int .i64 0,.int .i64 0,.int .i64 0,.int .i64 0,.slice none 0 0] 26 (0,0)) Z182 NB235_239.out Z286) (jA (Kd.R_lower hoq7 (below_size Z91)) (jA (hb) (Aside0.mk (hi))));clear BK235 HB HI239;obtain ⟨BK235,HO249,HB,HI239⟩ := n_;(try clear hb);(try clear hbq4);(try clear hk);(try clear hi);(try clear hoq7);have hnbq8 := NB235_239.out;have hncq8 := NB239_235.out;obtain ⟨hczq9_0,hczq9_1,hczq9_2,hczq9_3,hczq9_4,hczq9_5,hczq9_6,hczq9_7,hfzq9_0,hfzq9_1,hfzq9_2,hfzq9_3,hfzq9_4,hfzq9_5,hfzq9_6,hfzq9_7⟩ := cells8 BK235.out;obtain ⟨Aoq10,coq10,eoq10⟩ := Kd.R_slice HO249.out;subst eoq10))
 refine bodyPost_ret (results_cell_row rfl _ _ gb235 26 #[.int .i64 t240,.int .i64 t241,.int .i64 t242,.int .i64 t243,.int .i64 t244,.int .i64 t245,.int .i64 t246,.slice Aoq10 t247.length coq10] (0,0) _ rfl (by refine bP ?_;refine blk_put (cs := #[.int .i64 t240,.int .i64 t241,.int .i64 t242,.int .i64 t243,.int .i64 t244,.int .i64 t245,.int .i64 t246,.slice none 0 0]) ?_ 7 _ rfl;refine bP ?_;refine blk_put (cs := #[.int .i64 t240,.int .i64 t241,.int .i64 t242,.int .i64 t243,.int .i64 t244,.int .i64 t245,.int .i64 0,.slice none 0 0]) ?_ 6 _ rfl;refine bP ?_;refine blk_put (cs := #[.int .i64 t240,.int .i64 t241,.int .i64 t242,.int .i64 t243,.int .i64 t244,.int .i64 0,.int .i64 0,.slice none 0 0]) ?_ 5 _ rfl;refine bP ?_;refine blk_put (cs := #[.int .i64 t240,.int .i64 t241,.int .i64 t242,.int .i64 t243,.int .i64 0,.int .i64 0,.int .i64 0,.slice none 0 0]) ?_ 4 _ rfl;refine bP ?_;refine blk_put (cs := #[.int .i64 t240,.int .i64 t241,.int .i64 t242,.int .i64 0,.int .i64 0,.int .i64 0,.int .i64 0,.slice none 0 0]) ?_ 3 _ rfl;refine bP ?_;refine blk_put (cs := #[.int .i64 t240,.int .i64 t241,.int .i64 0,.int .i64 0,.int .i64 0,.int .i64 0,.int .i64 0,.slice none 0 0]) ?_ 2 _ rfl;refine bP ?_;refine blk_put (cs := #[.int .i64 t240,.int .i64 0,.int .i64 0,.int .i64 0,.int .i64 0,.int .i64 0,.int .i64 0,.slice none 0 0]) ?_ 1 _ rfl;refine bP ?_;refine blk_put (cs := #[.int .i64 0,.int .i64 0,.int .i64 0,.int .i64 0,.int .i64 0,.int .i64 0,.int .i64 0,.slice none 0 0]) ?_ 0 _ rfl;refine bP ?_;exact BK235.out) Tryz.underlying26 rfl Z190) rfl ?_
 exact ⟨_,Z152,by (with_reducible repeat (first | apply Kd.R_alloc | apply Kd.R_drewN | apply Kd.R_drew));exact Kd.R_mono (Kd.R_far (p := ⟨gb235,7,none⟩) (Kd.R_far (p := ⟨gb235,6,none⟩) (Kd.R_far (p := ⟨gb235,5,none⟩) (Kd.R_far (p := ⟨gb235,4,none⟩) (Kd.R_far (p := ⟨gb235,3,none⟩) (Kd.R_far (p := ⟨gb235,2,none⟩) (Kd.R_far (p := ⟨gb235,1,none⟩) (Kd.R_far (p := ⟨gb235,0,none⟩) (Kd.R_types HO249.out BK235.out Z306) (fun _ hk => hk.2) (.int .i64 t240)) (fun _ hk => hk.2) (.int .i64 t241)) (fun _ hk => hk.2) (.int .i64 t242)) (fun _ hk => hk.2) (.int .i64 t243)) (fun _ hk => hk.2) (.int .i64 t244)) (fun _ hk => hk.2) (.int .i64 t245)) (fun _ hk => hk.2) (.int .i64 t246)) (fun _ hk => hk.2) (.slice Aoq10 t247.length coq10)) (fun _ hk => trivial),Z91⟩

/-! ### slices_IndexFunc_int_int: function 48 -/
def slices_IndexFunc_int_int.l0 : Nat → List Int → Int → Int → Option (Int)
 | 0,_,_,_ => none
 | k + 1,x0,x7,x8 => if x8 < x7 then (if 0 ≤ x8 then (if x8 < (x0.length : Int) then ((impl_ConfigOk_1.f (rd x0 x8)).bind fun t253 => (if t253 = true then (some x8) else (slices_IndexFunc_int_int.l0 k x0 x7 (wrap64 (x8 + 1))))) else (none)) else (none)) else (some (-1))
def slices_IndexFunc_int_int.f (k : Nat) (l0 : List Int) (a1 : Unit) : Option (Int) := slices_IndexFunc_int_int.l0 k l0 (l0.length : Int) 0
theorem slices_IndexFunc_int_int.mono_l : ∀ k,(∀ y0 y1 y2,LeO (slices_IndexFunc_int_int.l0 k y0 y1 y2) (slices_IndexFunc_int_int.l0 (k + 1) y0 y1 y2))
 | 0 => fun _ _ _ r h => by simp [slices_IndexFunc_int_int.l0] at h
 | k + 1 => by
  have ih0 := slices_IndexFunc_int_int.mono_l k
  ·intro y0 y1 y2
   unfold slices_IndexFunc_int_int.l0
   repeat' first
   | (with_reducible exact ih0 _ _ _)
   | (with_reducible exact LeO.refl _)
   | (with_reducible exact LeO.none _)
   | (with_reducible refine LeO.ite ?_ ?_)
   | (with_reducible refine LeO.bind ?_ (fun _ => ?_))
   | exact ih0 _ _ _
   | exact LeO.none _
   | refine LeO.ite ?_ ?_
   | refine LeO.bind ?_ (fun _ => ?_)
theorem slices_IndexFunc_int_int.mono : ∀ a0 a1 k,LeO (slices_IndexFunc_int_int.f k a0 a1) (slices_IndexFunc_int_int.f (k + 1) a0 a1) := by
 intro a0 a1 k
 have ih0 := slices_IndexFunc_int_int.mono_l k
 unfold slices_IndexFunc_int_int.f
 repeat' first
   | (with_reducible exact ih0 _ _ _)
   | (with_reducible exact LeO.refl _)
   | (with_reducible exact LeO.none _)
   | (with_reducible refine LeO.ite ?_ ?_)
   | (with_reducible refine LeO.bind ?_ (fun _ => ?_))
   | exact ih0 _ _ _
   | exact LeO.none _
   | refine LeO.ite ?_ ?_
   | refine LeO.bind ?_ (fun _ => ?_)
set_option maxHeartbeats 8000000 in
set_option maxRecDepth 100000 in
theorem slices_IndexFunc_int_int.calls (k : Nat) (A0 : Option Addr) (c0 : Nat) (l0 : List Int) (a1 : Unit) (r : Int) (w : World) (hr0 : Kd.C (Kd.int .i64) w A0 l0.length l0) (hc0 : l0.length ≤ c0) (h : slices_IndexFunc_int_int.f k l0 a1 = some r) :
  Calls Tryz.prog 48 #[.slice A0 l0.length c0,.func (.func 25) #[] #[]] w fun e w' => e = .returned (.int .i64 r) ∧ Drawn0 w w' := by
 have HR0 := Aside0.mk hr0
 have HC0 := Aside0.mk hc0
 clear hr0 hc0
 have H := h
 clear h
 unfold slices_IndexFunc_int_int.f at H
 have H' := Aside0.mk H
 clear H
 go_enter Tryz.func48,Tryz.ntmps48
 go_wp2
 go_loopg [8] k (fun kq v8 w' => ∃ (x8_1 : Int),v8 = .int .i64 x8_1 ∧ Aside0 (slices_IndexFunc_int_int.l0 kq l0 (l0.length : Int) x8_1 = some r) ∧ Aside0 (kq ≤ k) ∧ Drawn0 w w')
 case atStart => exact ⟨(0),Z165,H',⟨Nat.le_refl _⟩,Z158⟩
 case round =>
  clear H'
  try clear p2
  obtain ⟨x8_1,rfl,HA,HK1,⟨m1,rfl⟩⟩ := hrel
  cases gk with
  | zero => exact absurd HA.out (by simp [slices_IndexFunc_int_int.l0])
  | succ k1 =>
   have H := HA.out
   clear HA
   simp only [slices_IndexFunc_int_int.l0] at H
   by_cases c3 : x8_1 < (l0.length : Int)
   rotate_left
   ·rw [if_neg c3] at H
    have c3b0 : decide (x8_1 < (l0.length : Int)) = false := decide_eq_false c3
    clear c3
    obtain rfl := Option.some.inj H
    go_wp2
    go_ret
    exact ⟨Z165,Z158⟩
   rw [if_pos c3] at H
   have c3b0 : decide (x8_1 < (l0.length : Int)) = true := decide_eq_true c3
   clear c3
   obtain ⟨c4,H⟩ := ifp H
   have c4b0 : decide (0 ≤ x8_1) = true := decide_eq_true c4
   clear c4
   obtain ⟨c5,H⟩ := ifp H
   have c5b0 : decide (x8_1 < (l0.length : Int)) = true := decide_eq_true c5
   clear c5
   obtain ⟨t253,A60,H⟩ := Option.bind_eq_some_iff.mp H
   have A6 := Aside0.mk A60
   clear A60
   by_cases c7 : t253 = true
   ·subst c7
    rw [if_pos rfl] at H
    obtain rfl := Option.some.inj H
    have p252 : 0 ≤ (x8_1 : Int) := of_decide_eq_true Z164
    have q252 : x8_1 < (l0.length : Int) := of_decide_eq_true Z164
    obtain ⟨ad252,e252,hx252_0⟩ := Kd.at_int HR0.out x8_1 p252 q252
    cases e252
    replace p252 := eq_true p252
    replace q252 := eq_true q252
    go_wp2_with (first | (go_at_call 25;(with_reducible refine (impl_ConfigOk_1.calls (rd l0 x8_1) true _ A6.out).mono ?_);rintro e w' ⟨rfl,⟨nd,rfl⟩⟩))
    go_ret
    exact ⟨Z165,Z158⟩
   replace c7 := Bool.eq_false_iff.mpr c7
   subst c7
   rw [if_neg Bool.false_ne_true] at H
   have H' := Aside0.mk H
   clear H
   have p252 : 0 ≤ (x8_1 : Int) := of_decide_eq_true Z164
   have q252 : x8_1 < (l0.length : Int) := of_decide_eq_true Z164
   obtain ⟨ad252,e252,hx252_0⟩ := Kd.at_int HR0.out x8_1 p252 q252
   cases e252
   replace p252 := eq_true p252
   replace q252 := eq_true q252
   go_wp2_with (first | (go_at_call 25;(with_reducible refine (impl_ConfigOk_1.calls (rd l0 x8_1) false _ A6.out).mono ?_);rintro e w' ⟨rfl,⟨nd,rfl⟩⟩))
   go_roundg k1
   case measure => have := HK1.out;omega
   case rel => exact ⟨(wrap64 (x8_1 + 1)),Z165,H',⟨Z184⟩,Z158⟩

/-! ### slices_ContainsFunc_int_int: function 24 -/
def slices_ContainsFunc_int_int.f (k : Nat) (l0 : List Int) (a1 : Unit) : Option (Bool) := (slices_IndexFunc_int_int.f k l0 a1).bind fun t254 => (some (decide (t254 ≥ 0)))
theorem slices_ContainsFunc_int_int.mono : ∀ a0 a1 k,LeO (slices_ContainsFunc_int_int.f k a0 a1) (slices_ContainsFunc_int_int.f (k + 1) a0 a1) := by
 intro a0 a1 k
 unfold slices_ContainsFunc_int_int.f
 repeat' first
   | (with_reducible exact slices_IndexFunc_int_int.mono _ _ _)
   | (with_reducible exact LeO.refl _)
   | (with_reducible exact LeO.none _)
   | (with_reducible refine LeO.ite ?_ ?_)
   | (with_reducible refine LeO.bind ?_ (fun _ => ?_))
   | exact slices_IndexFunc_int_int.mono _ _ _
   | exact LeO.none _
   | refine LeO.ite ?_ ?_
   | refine LeO.bind ?_ (fun _ => ?_)
set_option maxHeartbeats 8000000 in
set_option maxRecDepth 100000 in
theorem slices_ContainsFunc_int_int.calls (k : Nat) (A0 : Option Addr) (c0 : Nat) (l0 : List Int) (a1 : Unit) (r : Bool) (w : World) (hr0 : Kd.C (Kd.int .i64) w A0 l0.length l0) (hc0 : l0.length ≤ c0) (h : slices_ContainsFunc_int_int.f k l0 a1 = some r) :
  Calls Tryz.prog 24 #[.slice A0 l0.length c0,.func (.func 25) #[] #[]] w fun e w' => e = .returned (.bool r) ∧ Drawn0 w w' := by
 have HR0 := Aside0.mk hr0
 have HC0 := Aside0.mk hc0
 clear hr0 hc0
 have H := h
 clear h
 unfold slices_ContainsFunc_int_int.f at H
 obtain ⟨t254,A30,H⟩ := Option.bind_eq_some_iff.mp H
 have A3 := Aside0.mk A30
 clear A30
 obtain rfl := Option.some.inj H
 go_enter Tryz.func24,Tryz.ntmps24
 go_wp2_with (first | ((with_reducible refine gate_callee (f := 48) rfl ?_);refine goesL_ (some 7) rfl rfl Tryz.func48 Z190 rfl #[.slice A0 l0.length c0,.func (.func 25) #[] #[]] rfl Z130 ?_;(with_reducible refine (slices_IndexFunc_int_int.calls k _ _ l0 a1 t254 _ ?side1 ?side2 A3.out).mono ?_);(case side1 => exact Z127);(case side2 => exact HC0.out);rintro e w' ⟨rfl,⟨nd,rfl⟩⟩;refine ⟨_,rfl,?_⟩))
 go_ret
 exact ⟨Z165,Z158⟩

end Go.Proofs.YtepnbcdbagjmbaeGreatDoor.QFnConfig
