/- The machine side of FnConfig: what each Go function that it reaches comes to. Conditions: none. -/
import Derived.Test.YtepnbcdbagjmbaeGreatDoorQFnConfigx0
import Derived.Test.YtepnbcdbagjmbaeGreatDoorQFnConfigx2
import Derived.Test.YtepnbcdbagjmbaeGreatDoorQFnConfigx11
namespace Go.Proofs.YtepnbcdbagjmbaeGreatDoor.QFnConfig
open Go.RowKit Go.Proofs.YtepnbcdbagjmbaeGreatDoorW.PrintWords Go.Proofs.YtepnbcdbagjmbaeGreatDoorW.PrintLast Go.Proofs.YtepnbcdbagjmbaeGreatDoorW.PrintMore
attribute [local go_sem] max2_int min2_int max_two min_two max_three min_three max_four min_four   -- for this text's walks alone
set_option linter.unusedVariables false
set_option linter.unusedSimpArgs false

/-! ### impl_ReadConfig: function 9 -/
def impl_ReadConfig.l0 : Nat → List ByteArray → List ByteArray → Int → Int → Int → Int → Int → Int → Int → Int → Int → List Int → Option (Int × Int × Int × Int × Int × Int × Int × List Int × Int × Int × Int)
 | 0,_,_,_,_,_,_,_,_,_,_,_,_ => none
 | k + 1,x5,x20,x21,x22,x399000,x399001,x399002,x399003,x399004,x399005,x399006,x399007 => if x22 < x21 then (if 0 ≤ x22 then (if x22 < (x20.length : Int) then (if (rdOf ByteArray.empty x20 x22).toList = ([] : List UInt8) then (impl_ReadConfig.l0 k x5 x20 x21 (wrap64 (x22 + 1)) x399000 x399001 x399002 x399003 x399004 x399005 x399006 x399007) else ((strings_Cut.f (rdOf ByteArray.empty x20 x22) (⟨#[61]⟩ : ByteArray)).bind fun bt403 => (if bt403.2.2 = true then ((slices_Contains_string_string.f k (([(⟨#[114,111,117,110,100,115]⟩ : ByteArray),(⟨#[100,101,112,116,104]⟩ : ByteArray),(⟨#[98,105,110,115]⟩ : ByteArray),(⟨#[108,97,109,98,100,97]⟩ : ByteArray),(⟨#[114,111,119,115]⟩ : ByteArray),(⟨#[114,97,116,101]⟩ : ByteArray),(⟨#[115,105,103,110,115]⟩ : ByteArray)] : List ByteArray)) bt403.1).bind fun t409 => (if t409 = true then ((slices_Contains_string_string.f k x5 bt403.1).bind fun t410 => (if t410 = true then (if 6 = 0 then (if x5.length < 8796093022208 then (impl_ReadConfig.l0 k (x5 ++ [bt403.1]) x20 x21 (wrap64 (x22 + 1)) x399000 x399001 x399002 x399003 x399004 x399005 x399006 x399007) else (none)) else (some (0,0,0,0,0,0,0,([] : List Int),6,x22,0))) else ((impl_Config_set.f k x399000 x399001 x399002 x399003 x399004 x399005 x399006 x399007 bt403.1 bt403.2.1).bind fun bt414 => (if bt414.1 = 0 then (if x5.length < 8796093022208 then (impl_ReadConfig.l0 k (x5 ++ [bt403.1]) x20 x21 (wrap64 (x22 + 1)) bt414.2.1 bt414.2.2.1 bt414.2.2.2.1 bt414.2.2.2.2.1 bt414.2.2.2.2.2.1 bt414.2.2.2.2.2.2.1 bt414.2.2.2.2.2.2.2.1 bt414.2.2.2.2.2.2.2.2) else (none)) else (some (0,0,0,0,0,0,0,([] : List Int),bt414.1,x22,0)))))) else (if 11 = 0 then (if x5.length < 8796093022208 then (impl_ReadConfig.l0 k (x5 ++ [bt403.1]) x20 x21 (wrap64 (x22 + 1)) x399000 x399001 x399002 x399003 x399004 x399005 x399006 x399007) else (none)) else (some (0,0,0,0,0,0,0,([] : List Int),11,x22,0))))) else (if 10 = 0 then (if x5.length < 8796093022208 then (impl_ReadConfig.l0 k (x5 ++ [bt403.1]) x20 x21 (wrap64 (x22 + 1)) x399000 x399001 x399002 x399003 x399004 x399005 x399006 x399007) else (none)) else (some (0,0,0,0,0,0,0,([] : List Int),10,x22,0)))))) else (none)) else (none)) else (some (x399000,x399001,x399002,x399003,x399004,x399005,x399006,x399007,0,0,0))
def impl_ReadConfig.f (k : Nat) (a0 : ByteArray) : Option (Int × Int × Int × Int × Int × Int × Int × List Int × Int × Int × Int) := if (a0.size : Int) > 4000 then (some (0,0,0,0,0,0,0,([] : List Int),1,0,0)) else ((impl_UsualConfig.f).bind fun bt385 => ((impl_Parts.f a0 10).bind fun t399 => (impl_ReadConfig.l0 k (([] : List ByteArray)) t399 (t399.length : Int) 0 bt385.1 bt385.2.1 bt385.2.2.1 bt385.2.2.2.1 bt385.2.2.2.2.1 bt385.2.2.2.2.2.1 bt385.2.2.2.2.2.2.1 bt385.2.2.2.2.2.2.2)))
theorem impl_ReadConfig.mono_l : ∀ k,(∀ y0 y1 y2 y3 y4 y5 y6 y7 y8 y9 y10 y11,LeO (impl_ReadConfig.l0 k y0 y1 y2 y3 y4 y5 y6 y7 y8 y9 y10 y11) (impl_ReadConfig.l0 (k + 1) y0 y1 y2 y3 y4 y5 y6 y7 y8 y9 y10 y11))
 | 0 => fun _ _ _ _ _ _ _ _ _ _ _ _ r h => by simp [impl_ReadConfig.l0] at h
 | k + 1 => by
  have ih0 := impl_ReadConfig.mono_l k
  ·intro y0 y1 y2 y3 y4 y5 y6 y7 y8 y9 y10 y11
   unfold impl_ReadConfig.l0
   repeat' first
   | (with_reducible exact ih0 _ _ _ _ _ _ _ _ _ _ _ _)
   | (with_reducible exact impl_Config_set.mono _ _ _ _ _ _ _ _ _ _ _)
   | (with_reducible exact slices_Contains_string_string.mono _ _ _)
   | (with_reducible exact LeO.refl _)
   | (with_reducible exact LeO.none _)
   | (with_reducible refine LeO.ite ?_ ?_)
   | (with_reducible refine LeO.bind ?_ (fun _ => ?_))
   | exact ih0 _ _ _ _ _ _ _ _ _ _ _ _
   | exact impl_Config_set.mono _ _ _ _ _ _ _ _ _ _ _
   | exact slices_Contains_string_string.mono _ _ _
   | exact LeO.none _
   | refine LeO.ite ?_ ?_
   | refine LeO.bind ?_ (fun _ => ?_)
theorem impl_ReadConfig.mono : ∀ a0 k,LeO (impl_ReadConfig.f k a0) (impl_ReadConfig.f (k + 1) a0) := by
 intro a0 k
 have ih0 := impl_ReadConfig.mono_l k
 unfold impl_ReadConfig.f
 repeat' first
   | (with_reducible exact ih0 _ _ _ _ _ _ _ _ _ _ _ _)
   | (with_reducible exact impl_Config_set.mono _ _ _ _ _ _ _ _ _ _ _)
   | (with_reducible exact slices_Contains_string_string.mono _ _ _)
   | (with_reducible exact LeO.refl _)
   | (with_reducible exact LeO.none _)
   | (with_reducible refine LeO.ite ?_ ?_)
   | (with_reducible refine LeO.bind ?_ (fun _ => ?_))
   | exact ih0 _ _ _ _ _ _ _ _ _ _ _ _
   | exact impl_Config_set.mono _ _ _ _ _ _ _ _ _ _ _
   | exact slices_Contains_string_string.mono _ _ _
   | exact LeO.none _
   | refine LeO.ite ?_ ?_
   | refine LeO.bind ?_ (fun _ => ?_)
set_option maxHeartbeats 8000000 in
set_option maxRecDepth 100000 in
theorem impl_ReadConfig.calls (k : Nat) (a0 : ByteArray) (r1 : Int) (r2 : Int) (r3 : Int) (r4 : Int) (r5 : Int) (r6 : Int) (r7 : Int) (r8 : List Int) (r9 : Int) (r10 : Int) (r11 : Int) (w : World) (hG : GT w) (h : impl_ReadConfig.f k a0 = some (r1,r2,r3,r4,r5,r6,r7,r8,r9,r10,r11)) :
  Calls Tryz.prog 9 #[.string a0] w fun e w' => ∃ v7_ : Value,e = .returned (.tuple #[.agg #[.int .i64 r1,.int .i64 r2,.int .i64 r3,.int .i64 r4,.int .i64 r5,.int .i64 r6,.int .i64 r7,v7_],.agg #[.int .i64 r9,.int .i64 r10,.int .i64 r11]]) ∧ Kd.R (Kd.int .i64) 3 w' w.heap.size (fun _ => True) v7_ r8 ∧ Below w.heap.size w w' := by
 have HG := Aside0.mk hG
 clear hG
 have hu26 := Tryz.underlying26
 have hu31 := Tryz.underlying31
 have HB := Aside0.mk (Below.refl w.heap.size w)
 have H := h
 clear h
 unfold impl_ReadConfig.f at H
 by_cases c2 : (a0.size : Int) > 4000
 ·rw [if_pos c2] at H
  have c2b0 : decide (4000 < (a0.size : Int)) = true := decide_eq_true c2
  have c2b1 : decide (4000 < a0.size) = true := decide_eq_true Z285
  clear c2
  simp only [Option.some.injEq,Prod.mk.injEq] at H
  obtain ⟨rfl,rfl,rfl,rfl,rfl,rfl,rfl,rfl,rfl,rfl,rfl⟩ := H
  go_enter Tryz.func9,Tryz.ntmps9
  go_wp2_with (first | ((with_reducible refine gate_dst (N := 2) rfl ?_);refine bE 2 #[.int .i64 0,.int .i64 0,.int .i64 0,.int .i64 0,.int .i64 0,.int .i64 0,.int .i64 0,.slice none 0 0] 26 (h := ?_);intro gb383 hg wq1 hbox hb;have n_ := Z47;clear HB;obtain ⟨HB,BK383,GW383,GE383⟩ := n_;clear hb hbox hg) | ((with_reducible refine gate_dst (N := 3) rfl ?_);refine bE 3 #[.int .i64 0,.int .i64 0,.int .i64 0] 31 (h := ?_);intro gb384 hg wq2 hbox hb;have n_ := Z25;clear BK383 HB;obtain ⟨BK383,HB,BK384,GW384,GE384,NB383_384,NB384_383⟩ := n_;clear hb hbox hg;have hnbq3 := NB383_384.out;have hncq3 := NB384_383.out;obtain ⟨hczq4_0,hczq4_1,hczq4_2,hczq4_3,hczq4_4,hczq4_5,hczq4_6,hczq4_7,hfzq4_0,hfzq4_1,hfzq4_2,hfzq4_3,hfzq4_4,hfzq4_5,hfzq4_6,hfzq4_7⟩ := cells8 BK383.out;obtain ⟨hczq5_0,hczq5_1,hczq5_2,hfzq5_0,hfzq5_1,hfzq5_2⟩ := cells3 BK384.out))
  refine bodyPost_ret (results_cc rfl _ _ gb383 gb384 26 31 #[.int .i64 0,.int .i64 0,.int .i64 0,.int .i64 0,.int .i64 0,.int .i64 0,.int .i64 0,.slice none 0 0] #[.int .i64 1,.int .i64 0,.int .i64 0] (0,0) (0,0) _ _ rfl (by refine bP ?_;refine blk_far ?_ NB383_384.out _;refine bP ?_;refine blk_far ?_ NB383_384.out _;refine bP ?_;refine blk_far ?_ NB383_384.out _;refine bP ?_;refine blk_put (cs := #[.int .i64 0,.int .i64 0,.int .i64 0,.int .i64 0,.int .i64 0,.int .i64 0,.int .i64 0,.slice none 0 0]) ?_ 7 _ rfl;refine bP ?_;refine blk_put (cs := #[.int .i64 0,.int .i64 0,.int .i64 0,.int .i64 0,.int .i64 0,.int .i64 0,.int .i64 0,.slice none 0 0]) ?_ 6 _ rfl;refine bP ?_;refine blk_put (cs := #[.int .i64 0,.int .i64 0,.int .i64 0,.int .i64 0,.int .i64 0,.int .i64 0,.int .i64 0,.slice none 0 0]) ?_ 5 _ rfl;refine bP ?_;refine blk_put (cs := #[.int .i64 0,.int .i64 0,.int .i64 0,.int .i64 0,.int .i64 0,.int .i64 0,.int .i64 0,.slice none 0 0]) ?_ 4 _ rfl;refine bP ?_;refine blk_put (cs := #[.int .i64 0,.int .i64 0,.int .i64 0,.int .i64 0,.int .i64 0,.int .i64 0,.int .i64 0,.slice none 0 0]) ?_ 3 _ rfl;refine bP ?_;refine blk_put (cs := #[.int .i64 0,.int .i64 0,.int .i64 0,.int .i64 0,.int .i64 0,.int .i64 0,.int .i64 0,.slice none 0 0]) ?_ 2 _ rfl;refine bP ?_;refine blk_put (cs := #[.int .i64 0,.int .i64 0,.int .i64 0,.int .i64 0,.int .i64 0,.int .i64 0,.int .i64 0,.slice none 0 0]) ?_ 1 _ rfl;refine bP ?_;refine blk_put (cs := #[.int .i64 0,.int .i64 0,.int .i64 0,.int .i64 0,.int .i64 0,.int .i64 0,.int .i64 0,.slice none 0 0]) ?_ 0 _ rfl;refine bP ?_;exact BK383.out) Tryz.underlying26 rfl Z190 rfl (by refine bP ?_;refine blk_put (cs := #[.int .i64 1,.int .i64 0,.int .i64 0]) ?_ 2 _ rfl;refine bP ?_;refine blk_put (cs := #[.int .i64 1,.int .i64 0,.int .i64 0]) ?_ 1 _ rfl;refine bP ?_;refine blk_put (cs := #[.int .i64 0,.int .i64 0,.int .i64 0]) ?_ 0 _ rfl;refine bP ?_;refine blk_far ?_ NB384_383.out _;refine bP ?_;refine blk_far ?_ NB384_383.out _;refine bP ?_;refine blk_far ?_ NB384_383.out _;refine bP ?_;refine blk_far ?_ NB384_383.out _;refine bP ?_;refine blk_far ?_ NB384_383.out _;refine bP ?_;refine blk_far ?_ NB384_383.out _;refine bP ?_;refine blk_far ?_ NB384_383.out _;refine bP ?_;refine blk_far ?_ NB384_383.out _;refine bP ?_;exact BK384.out) Tryz.underlying31 rfl Z190) rfl ?_
  exact ⟨_,Z152,Z129,Z229⟩
 rw [if_neg c2] at H
 have c2b0 : decide (4000 < (a0.size : Int)) = false := decide_eq_false c2
 have c2b1 : decide (4000 < a0.size) = false := decide_eq_false Z285
 clear c2
 obtain ⟨⟨t385,t386,t387,t388,t389,t390,t391,t392⟩,A80,H⟩ := Option.bind_eq_some_iff.mp H
 try dsimp only at H
 have A8 := Aside0.mk A80
 clear A80
 obtain ⟨y395,hyy⟩ : ∃ y_ : List ByteArray,y_ = (([] : List ByteArray)) := ⟨_,rfl⟩
 replace H : ((impl_Parts.f a0 10).bind fun t399 => (impl_ReadConfig.l0 k y395 t399 (t399.length : Int) 0 t385 t386 t387 t388 t389 t390 t391 t392)) = some (r1,r2,r3,r4,r5,r6,r7,r8,r9,r10,r11) := zR
 have Ny395 := Aside0.mk hyy
 clear hyy
 obtain ⟨t399,A90,H⟩ := Option.bind_eq_some_iff.mp H
 have A9 := Aside0.mk A90
 clear A90
 have H' := Aside0.mk H
 clear H
 go_enter Tryz.func9,Tryz.ntmps9
 go_wp2_with (first | ((with_reducible refine gate_dst (N := 2) rfl ?_);refine bE 2 #[.int .i64 0,.int .i64 0,.int .i64 0,.int .i64 0,.int .i64 0,.int .i64 0,.int .i64 0,.slice none 0 0] 26 (h := ?_);intro gb383 hg w10 hbox hb;have n_ := Z47;clear HB;obtain ⟨HB,BK383,GW383,GE383⟩ := n_;clear hb hbox hg) | ((with_reducible refine gate_dst (N := 3) rfl ?_);refine bE 3 #[.int .i64 0,.int .i64 0,.int .i64 0] 31 (h := ?_);intro gb384 hg w11 hbox hb;have n_ := Z25;clear BK383 HB;obtain ⟨BK383,HB,BK384,GW384,GE384,NB383_384,NB384_383⟩ := n_;clear hb hbox hg) | ((with_reducible refine gate_callee (f := 27) rfl ?_);refine goesL_ (some 17) rfl rfl Tryz.func27 Z190 rfl #[] rfl Z130 ?_;(with_reducible refine (impl_UsualConfig.calls  t385 t386 t387 t388 t389 t390 t391 t392 _ A8.out).mono ?_);rintro e w12 ⟨v393,rfl,ho0,hb⟩;refine ⟨_,rfl,?_⟩;have n_ := jA (Kd.R_lower ho0 (below_size Z229)) (jA (blk_below (g := gb383) (o := .cells #[.int .i64 0,.int .i64 0,.int .i64 0,.int .i64 0,.int .i64 0,.int .i64 0,.int .i64 0,.slice none 0 0] 26 (0,0)) Z300 hb) (jA (blk_below (g := gb384) (o := .cells #[.int .i64 0,.int .i64 0,.int .i64 0] 31 (0,0)) Z275 hb) (Aside0.mk (below_step Z229 hb))));clear BK383 BK384 HB;obtain ⟨HO394,BK383,BK384,HB⟩ := n_;(try clear hb);(try clear hb2);(try clear hk);(try clear hi);(try clear ho0)) | ((with_reducible refine gate_dst (N := 18) rfl ?_);refine Kd.R_lit Kd.string _ 9 ?hg (N := 18) ?hd (xs := ([] : List ByteArray)) (inner := []) (ok := fun _ => True) (okp := fun _ => True) ?hr ?hp (fun _ hk => hk) trivial (Below.refl _ _) (Nat.le_refl _) Z286 ?_;(case hd => rfl);(case hg => rfl);(case hr => exact Z166);(case hp => exact Z185);intro v396 w13 ho14 hb hg_ hnew_;clear hg_ hnew_;(first | rw [← Ny395.out] at ho14 | (simp only [Int.reduceToNat] at ho14;rw [← Ny395.out] at ho14));have n_ := jA (Kd.R_below Z146 hb) (jA (Kd.R_lower ho14 (below_size Z229)) (jA (blk_below (g := gb383) (o := .cells #[.int .i64 0,.int .i64 0,.int .i64 0,.int .i64 0,.int .i64 0,.int .i64 0,.int .i64 0,.slice none 0 0] 26 (0,0)) Z300 hb) (jA (blk_below (g := gb384) (o := .cells #[.int .i64 0,.int .i64 0,.int .i64 0] 31 (0,0)) Z275 hb) (Aside0.mk (below_step Z229 hb)))));clear HO394 BK383 BK384 HB;obtain ⟨HO394,HO397,BK383,BK384,HB⟩ := n_;clear hb ho14) | ((with_reducible refine gate_dst (N := 4) rfl ?_);refine bE 4 #[.int .i64 0,.int .i64 0,.int .i64 0,.int .i64 0,.int .i64 0,.int .i64 0,.int .i64 0,.slice none 0 0] 26 (h := ?_);intro gb398 hg w15 hbox hb;have n_ := jA (Kd.R_below Z146 hb) (jA (Kd.R_below (by (with_reducible repeat (first | apply Kd.R_alloc | apply Kd.R_drewN | apply Kd.R_drew));exact HO397.out) hb) (jA (blk_below (g := gb383) (o := .cells #[.int .i64 0,.int .i64 0,.int .i64 0,.int .i64 0,.int .i64 0,.int .i64 0,.int .i64 0,.slice none 0 0] 26 (0,0)) Z300 hb) (jA (blk_below (g := gb384) (o := .cells #[.int .i64 0,.int .i64 0,.int .i64 0] 31 (0,0)) Z275 hb) (jA (below_step Z229 hb) (jA (hbox) (jA ((Z89 : w.heap.size ≤ gb398)) (jA ((Z89 : w.heap.size ≤ gb398)) (jA ((Z224 : gb383 ≠ gb398)) (jA ((Z226 : gb398 ≠ gb383)) (jA ((by rw [hg];exact Nat.ne_of_lt (blk_lt (g := gb384) (o := .cells #[.int .i64 0,.int .i64 0,.int .i64 0] 31 (0,0)) Z275) : gb384 ≠ gb398)) (Aside0.mk ((by rw [hg];exact Nat.ne_of_gt (blk_lt (g := gb384) (o := .cells #[.int .i64 0,.int .i64 0,.int .i64 0] 31 (0,0)) Z275) : gb398 ≠ gb384)))))))))))));clear HO394 HO397 BK383 BK384 HB;obtain ⟨HO394,HO397,BK383,BK384,HB,BK398,GW398,GE398,NB383_398,NB398_383,NB384_398,NB398_384⟩ := n_;clear hb hbox hg;have hnb16 := NB398_383.out;have hnc16 := NB383_398.out;have hnb17 := NB398_384.out;have hnc17 := NB384_398.out;obtain ⟨hcz18_0,hcz18_1,hcz18_2,hcz18_3,hcz18_4,hcz18_5,hcz18_6,hcz18_7,hfz18_0,hfz18_1,hfz18_2,hfz18_3,hfz18_4,hfz18_5,hfz18_6,hfz18_7⟩ := cells8 BK398.out;obtain ⟨Ao19,co19,eo19⟩ := Kd.R_slice HO394.out;subst eo19) | ((with_reducible refine gate_callee (f := 28) rfl ?_);refine goesL_ (some 20) rfl rfl Tryz.func28 Z190 rfl #[.string a0,.int .u8 10] rfl Z130 ?_;(with_reducible refine (impl_Parts.calls a0 10 t399 _ ?side1 A9.out).mono ?_);(case side1 => exact Z76);rintro e w20 ⟨v400,rfl,ho0,hb⟩;refine ⟨_,rfl,?_⟩;have n_ := jA (Kd.R_below (by (with_reducible repeat (first | apply Kd.R_alloc | apply Kd.R_drewN | apply Kd.R_drew));exact (Kd.R_mono (Kd.R_far (p := ⟨gb398,7,none⟩) (Kd.R_far (p := ⟨gb398,6,none⟩) (Kd.R_far (p := ⟨gb398,5,none⟩) (Kd.R_far (p := ⟨gb398,4,none⟩) (Kd.R_far (p := ⟨gb398,3,none⟩) (Kd.R_far (p := ⟨gb398,2,none⟩) (Kd.R_far (p := ⟨gb398,1,none⟩) (Kd.R_far (p := ⟨gb398,0,none⟩) (Kd.R_types HO394.out BK398.out Z306) (fun _ hk => hk.2) (.int .i64 t385)) (fun _ hk => hk.2) (.int .i64 t386)) (fun _ hk => hk.2) (.int .i64 t387)) (fun _ hk => hk.2) (.int .i64 t388)) (fun _ hk => hk.2) (.int .i64 t389)) (fun _ hk => hk.2) (.int .i64 t390)) (fun _ hk => hk.2) (.int .i64 t391)) (fun _ hk => hk.2) (.slice Ao19 t392.length co19)) (fun _ h_ => h_.1))) hb) (jA (Kd.R_elder' Z40 (Kd.R_base ho0) hb) (jA (Kd.R_lower (Kd.R_new' ho0 (Kd.R_lt Z40)) (below_size Z215)) (jA (blk_below (g := gb383) (o := .cells #[.int .i64 0,.int .i64 0,.int .i64 0,.int .i64 0,.int .i64 0,.int .i64 0,.int .i64 0,.slice none 0 0] 26 (0,0)) (by refine bP ?_;refine blk_far ?_ NB383_398.out _;refine bP ?_;refine blk_far ?_ NB383_398.out _;refine bP ?_;refine blk_far ?_ NB383_398.out _;refine bP ?_;refine blk_far ?_ NB383_398.out _;refine bP ?_;refine blk_far ?_ NB383_398.out _;refine bP ?_;refine blk_far ?_ NB383_398.out _;refine bP ?_;refine blk_far ?_ NB383_398.out _;refine bP ?_;refine blk_far ?_ NB383_398.out _;refine bP ?_;exact BK383.out) hb) (jA (blk_below (g := gb384) (o := .cells #[.int .i64 0,.int .i64 0,.int .i64 0] 31 (0,0)) (by refine bP ?_;refine blk_far ?_ NB384_398.out _;refine bP ?_;refine blk_far ?_ NB384_398.out _;refine bP ?_;refine blk_far ?_ NB384_398.out _;refine bP ?_;refine blk_far ?_ NB384_398.out _;refine bP ?_;refine blk_far ?_ NB384_398.out _;refine bP ?_;refine blk_far ?_ NB384_398.out _;refine bP ?_;refine blk_far ?_ NB384_398.out _;refine bP ?_;refine blk_far ?_ NB384_398.out _;refine bP ?_;exact BK384.out) hb) (jA (blk_below (g := gb398) (o := .cells #[.int .i64 t385,.int .i64 t386,.int .i64 t387,.int .i64 t388,.int .i64 t389,.int .i64 t390,.int .i64 t391,.slice Ao19 t392.length co19] 26 (0,0)) (by refine bP ?_;refine blk_put (cs := #[.int .i64 t385,.int .i64 t386,.int .i64 t387,.int .i64 t388,.int .i64 t389,.int .i64 t390,.int .i64 t391,.slice none 0 0]) ?_ 7 _ rfl;refine bP ?_;refine blk_put (cs := #[.int .i64 t385,.int .i64 t386,.int .i64 t387,.int .i64 t388,.int .i64 t389,.int .i64 t390,.int .i64 0,.slice none 0 0]) ?_ 6 _ rfl;refine bP ?_;refine blk_put (cs := #[.int .i64 t385,.int .i64 t386,.int .i64 t387,.int .i64 t388,.int .i64 t389,.int .i64 0,.int .i64 0,.slice none 0 0]) ?_ 5 _ rfl;refine bP ?_;refine blk_put (cs := #[.int .i64 t385,.int .i64 t386,.int .i64 t387,.int .i64 t388,.int .i64 0,.int .i64 0,.int .i64 0,.slice none 0 0]) ?_ 4 _ rfl;refine bP ?_;refine blk_put (cs := #[.int .i64 t385,.int .i64 t386,.int .i64 t387,.int .i64 0,.int .i64 0,.int .i64 0,.int .i64 0,.slice none 0 0]) ?_ 3 _ rfl;refine bP ?_;refine blk_put (cs := #[.int .i64 t385,.int .i64 t386,.int .i64 0,.int .i64 0,.int .i64 0,.int .i64 0,.int .i64 0,.slice none 0 0]) ?_ 2 _ rfl;refine bP ?_;refine blk_put (cs := #[.int .i64 t385,.int .i64 0,.int .i64 0,.int .i64 0,.int .i64 0,.int .i64 0,.int .i64 0,.slice none 0 0]) ?_ 1 _ rfl;refine bP ?_;refine blk_put (cs := #[.int .i64 0,.int .i64 0,.int .i64 0,.int .i64 0,.int .i64 0,.int .i64 0,.int .i64 0,.slice none 0 0]) ?_ 0 _ rfl;refine bP ?_;exact BK398.out) hb) (Aside0.mk (below_step Z215 hb)))))));clear HO394 HO397 BK383 BK384 BK398 HB;obtain ⟨HO394,HO397,HO401,BK383,BK384,BK398,HB⟩ := n_;(try clear hb);(try clear hb2);(try clear hk);(try clear hi);(try clear ho0);obtain ⟨Ao21,co21,eo21⟩ := Kd.R_slice HO401.out;subst eo21))
 go_loopg [5,22] k (fun kq v5 v22 w' => ∃ (x5_1 : List ByteArray) (x22_1 : Int) (x384000_1 : Int) (x384001_1 : Int) (x384002_1 : Int) (x384003_1 : Int) (x384004_1 : Int) (x384005_1 : Int) (x384006_1 : Int) (x385000_1 : Int) (x385001_1 : Int) (x385002_1 : Int) (x399000_1 : Int) (x399001_1 : Int) (x399002_1 : Int) (x399003_1 : Int) (x399004_1 : Int) (x399005_1 : Int) (x399006_1 : Int) (x399007_1 : List Int) (u399007 : Value),v22 = .int .i64 x22_1 ∧ Aside0 (impl_ReadConfig.l0 kq x5_1 t399 (t399.length : Int) x22_1 x399000_1 x399001_1 x399002_1 x399003_1 x399004_1 x399005_1 x399006_1 x399007_1 = some (r1,r2,r3,r4,r5,r6,r7,r8,r9,r10,r11)) ∧ Aside0 (kq ≤ k) ∧ Aside0 (Kd.R Kd.string 9 w' w.heap.size (fun k_ => some k_ ≠ ((.slice Ao21 t399.length co21) : Value).ownBlock) v5 x5_1) ∧ Aside0 (Kd.R Kd.string 9 w' w.heap.size (fun k_ => some k_ ≠ (v5 : Value).ownBlock) (.slice Ao21 t399.length co21) t399) ∧ Aside0 (Kd.R (Kd.int .i64) 3 w' w.heap.size (fun _ => True) u399007 x399007_1) ∧ Aside0 (w'.heap[gb383]? = some (.cells #[.int .i64 x384000_1,.int .i64 x384001_1,.int .i64 x384002_1,.int .i64 x384003_1,.int .i64 x384004_1,.int .i64 x384005_1,.int .i64 x384006_1,(.slice none 0 0)] 26 (0,0))) ∧ Aside0 (w'.heap[gb384]? = some (.cells #[.int .i64 x385000_1,.int .i64 x385001_1,.int .i64 x385002_1] 31 (0,0))) ∧ Aside0 (w'.heap[gb398]? = some (.cells #[.int .i64 x399000_1,.int .i64 x399001_1,.int .i64 x399002_1,.int .i64 x399003_1,.int .i64 x399004_1,.int .i64 x399005_1,.int .i64 x399006_1,u399007] 26 (0,0))) ∧ Aside0 (Below w.heap.size w w'))
 case atStart => exact ⟨(y395),(0),(0),(0),(0),(0),(0),(0),(0),(0),(0),(0),(t385),(t386),(t387),(t388),(t389),(t390),(t391),(t392),(.slice Ao19 t392.length co19),Z165,H',⟨Nat.le_refl _⟩,⟨by (with_reducible repeat (first | apply Kd.R_alloc | apply Kd.R_drewN | apply Kd.R_drew));exact Kd.R_mono HO397.out (fun _ hk => hk.2)⟩,⟨by (with_reducible repeat (first | apply Kd.R_alloc | apply Kd.R_drewN | apply Kd.R_drew));exact Kd.R_mono HO401.out (fun _ hk => hk.2)⟩,⟨Z146⟩,⟨Z300⟩,⟨Z275⟩,⟨Z279⟩,⟨Z215⟩⟩
 case round =>
  clear H'
  try clear c1
  try clear c2
  try clear c2b0
  try clear c2b1
  try clear p2
  try clear c5
  try clear c9
  try clear c16
  try clear c17
  obtain ⟨x5_1,x22_1,x384000_1,x384001_1,x384002_1,x384003_1,x384004_1,x384005_1,x384006_1,x385000_1,x385001_1,x385002_1,x399000_1,x399001_1,x399002_1,x399003_1,x399004_1,x399005_1,x399006_1,x399007_1,u399007,rfl,HA,HK1,HO_5,HO_20,HO_399007,BK383,BK384,BK398,HB⟩ := hrel
  cases gk with
  | zero => exact absurd HA.out (by simp [impl_ReadConfig.l0])
  | succ k1 =>
   have H := HA.out
   clear HA
   simp only [impl_ReadConfig.l0] at H
   by_cases c22 : x22_1 < (t399.length : Int)
   rotate_left
   ·rw [if_neg c22] at H
    have c22b0 : decide (x22_1 < (t399.length : Int)) = false := decide_eq_false c22
    clear c22
    simp only [Option.some.injEq,Prod.mk.injEq] at H
    obtain ⟨rfl,rfl,rfl,rfl,rfl,rfl,rfl,rfl,rfl,rfl,rfl⟩ := H
    have hnb97 := NB398_383.out
    have hnc97 := NB383_398.out
    have hnb98 := NB398_384.out
    have hnc98 := NB384_398.out
    obtain ⟨hcz99_0,hcz99_1,hcz99_2,hcz99_3,hcz99_4,hcz99_5,hcz99_6,hcz99_7,hfz99_0,hfz99_1,hfz99_2,hfz99_3,hfz99_4,hfz99_5,hfz99_6,hfz99_7⟩ := cells8 BK398.out
    have hnb100 := NB383_384.out
    have hnc100 := NB384_383.out
    obtain ⟨hcz101_0,hcz101_1,hcz101_2,hcz101_3,hcz101_4,hcz101_5,hcz101_6,hcz101_7,hfz101_0,hfz101_1,hfz101_2,hfz101_3,hfz101_4,hfz101_5,hfz101_6,hfz101_7⟩ := cells8 BK383.out
    obtain ⟨Ao102,co102,eo102⟩ := Kd.R_slice HO_399007.out
    subst eo102
    obtain ⟨hcz103_0,hcz103_1,hcz103_2,hfz103_0,hfz103_1,hfz103_2⟩ := cells3 BK384.out
    go_wp2
    refine bodyPost_ret (results_cc rfl _ _ gb383 gb384 26 31 #[.int .i64 x399000_1,.int .i64 x399001_1,.int .i64 x399002_1,.int .i64 x399003_1,.int .i64 x399004_1,.int .i64 x399005_1,.int .i64 x399006_1,.slice Ao102 x399007_1.length co102] #[.int .i64 0,.int .i64 0,.int .i64 0] (0,0) (0,0) _ _ rfl (by refine bP ?_;refine blk_far ?_ NB383_384.out _;refine bP ?_;refine blk_far ?_ NB383_384.out _;refine bP ?_;refine blk_far ?_ NB383_384.out _;refine bP ?_;refine blk_put (cs := #[.int .i64 x399000_1,.int .i64 x399001_1,.int .i64 x399002_1,.int .i64 x399003_1,.int .i64 x399004_1,.int .i64 x399005_1,.int .i64 x399006_1,.slice none 0 0]) ?_ 7 _ rfl;refine bP ?_;refine blk_put (cs := #[.int .i64 x399000_1,.int .i64 x399001_1,.int .i64 x399002_1,.int .i64 x399003_1,.int .i64 x399004_1,.int .i64 x399005_1,.int .i64 x384006_1,.slice none 0 0]) ?_ 6 _ rfl;refine bP ?_;refine blk_put (cs := #[.int .i64 x399000_1,.int .i64 x399001_1,.int .i64 x399002_1,.int .i64 x399003_1,.int .i64 x399004_1,.int .i64 x384005_1,.int .i64 x384006_1,.slice none 0 0]) ?_ 5 _ rfl;refine bP ?_;refine blk_put (cs := #[.int .i64 x399000_1,.int .i64 x399001_1,.int .i64 x399002_1,.int .i64 x399003_1,.int .i64 x384004_1,.int .i64 x384005_1,.int .i64 x384006_1,.slice none 0 0]) ?_ 4 _ rfl;refine bP ?_;refine blk_put (cs := #[.int .i64 x399000_1,.int .i64 x399001_1,.int .i64 x399002_1,.int .i64 x384003_1,.int .i64 x384004_1,.int .i64 x384005_1,.int .i64 x384006_1,.slice none 0 0]) ?_ 3 _ rfl;refine bP ?_;refine blk_put (cs := #[.int .i64 x399000_1,.int .i64 x399001_1,.int .i64 x384002_1,.int .i64 x384003_1,.int .i64 x384004_1,.int .i64 x384005_1,.int .i64 x384006_1,.slice none 0 0]) ?_ 2 _ rfl;refine bP ?_;refine blk_put (cs := #[.int .i64 x399000_1,.int .i64 x384001_1,.int .i64 x384002_1,.int .i64 x384003_1,.int .i64 x384004_1,.int .i64 x384005_1,.int .i64 x384006_1,.slice none 0 0]) ?_ 1 _ rfl;refine bP ?_;refine blk_put (cs := #[.int .i64 x384000_1,.int .i64 x384001_1,.int .i64 x384002_1,.int .i64 x384003_1,.int .i64 x384004_1,.int .i64 x384005_1,.int .i64 x384006_1,.slice none 0 0]) ?_ 0 _ rfl;refine bP ?_;exact BK383.out) Tryz.underlying26 rfl Z190 rfl (by refine bP ?_;refine blk_put (cs := #[.int .i64 0,.int .i64 0,.int .i64 x385002_1]) ?_ 2 _ rfl;refine bP ?_;refine blk_put (cs := #[.int .i64 0,.int .i64 x385001_1,.int .i64 x385002_1]) ?_ 1 _ rfl;refine bP ?_;refine blk_put (cs := #[.int .i64 x385000_1,.int .i64 x385001_1,.int .i64 x385002_1]) ?_ 0 _ rfl;refine bP ?_;refine blk_far ?_ NB384_383.out _;refine bP ?_;refine blk_far ?_ NB384_383.out _;refine bP ?_;refine blk_far ?_ NB384_383.out _;refine bP ?_;refine blk_far ?_ NB384_383.out _;refine bP ?_;refine blk_far ?_ NB384_383.out _;refine bP ?_;refine blk_far ?_ NB384_383.out _;refine bP ?_;refine blk_far ?_ NB384_383.out _;refine bP ?_;refine blk_far ?_ NB384_383.out _;refine bP ?_;exact BK384.out) Tryz.underlying31 rfl Z190) rfl ?_
    exact ⟨_,Z152,by (with_reducible repeat (first | apply Kd.R_alloc | apply Kd.R_drewN | apply Kd.R_drew));exact Kd.R_mono (Kd.R_far (p := ⟨gb384,2,none⟩) (Kd.R_far (p := ⟨gb384,1,none⟩) (Kd.R_far (p := ⟨gb384,0,none⟩) (Kd.R_far (p := ⟨gb383,7,none⟩) (Kd.R_far (p := ⟨gb383,6,none⟩) (Kd.R_far (p := ⟨gb383,5,none⟩) (Kd.R_far (p := ⟨gb383,4,none⟩) (Kd.R_far (p := ⟨gb383,3,none⟩) (Kd.R_far (p := ⟨gb383,2,none⟩) (Kd.R_far (p := ⟨gb383,1,none⟩) (Kd.R_far (p := ⟨gb383,0,none⟩) (Kd.R_types (Kd.R_types HO_399007.out BK383.out Z306) BK384.out Z306) (fun _ hk => hk.1.2) (.int .i64 x399000_1)) (fun _ hk => hk.1.2) (.int .i64 x399001_1)) (fun _ hk => hk.1.2) (.int .i64 x399002_1)) (fun _ hk => hk.1.2) (.int .i64 x399003_1)) (fun _ hk => hk.1.2) (.int .i64 x399004_1)) (fun _ hk => hk.1.2) (.int .i64 x399005_1)) (fun _ hk => hk.1.2) (.int .i64 x399006_1)) (fun _ hk => hk.1.2) (.slice Ao102 x399007_1.length co102)) (fun _ hk => hk.2) (.int .i64 0)) (fun _ hk => hk.2) (.int .i64 0)) (fun _ hk => hk.2) (.int .i64 0)) (fun _ hk => trivial),Z215⟩
   rw [if_pos c22] at H
   have c22b0 : decide (x22_1 < (t399.length : Int)) = true := decide_eq_true c22
   clear c22
   obtain ⟨c23,H⟩ := ifp H
   have c23b0 : decide (0 ≤ x22_1) = true := decide_eq_true c23
   clear c23
   obtain ⟨c24,H⟩ := ifp H
   have c24b0 : decide (x22_1 < (t399.length : Int)) = true := decide_eq_true c24
   clear c24
   by_cases c25 : (rdOf ByteArray.empty t399 x22_1).toList = ([] : List UInt8)
   ·rw [if_pos c25] at H
    have c25b0 : ((rdOf ByteArray.empty t399 x22_1).toList == ([] : List UInt8)) = true := beq_iff_eq.mpr c25
    have c25b1 : ((rdOf ByteArray.empty t399 x22_1).toList != ([] : List UInt8)) = false := bne_eq_false_iff_eq.mpr c25
    clear c25
    have H' := Aside0.mk H
    clear H
    have p402 : 0 ≤ (x22_1 : Int) := of_decide_eq_true Z164
    have q402 : x22_1 < (t399.length : Int) := of_decide_eq_true Z164
    obtain ⟨ad402,e402,hx402_0⟩ := Kd.at_string (Kd.R_reads' HO_20.out).2.2 x22_1 p402 q402
    cases e402
    replace p402 := eq_true p402
    replace q402 := eq_true q402
    go_wp2
    go_roundg k1
    case measure => have := HK1.out;omega
    case rel => exact ⟨(x5_1),(wrap64 (x22_1 + 1)),(x384000_1),(x384001_1),(x384002_1),(x384003_1),(x384004_1),(x384005_1),(x384006_1),(x385000_1),(x385001_1),(x385002_1),(x399000_1),(x399001_1),(x399002_1),(x399003_1),(x399004_1),(x399005_1),(x399006_1),(x399007_1),(u399007),Z165,H',⟨Z184⟩,⟨Z267⟩,⟨Z261⟩,⟨Z255⟩,⟨Z300⟩,⟨Z275⟩,⟨Z279⟩,⟨Z215⟩⟩
   rw [if_neg c25] at H
   have c25b0 : ((rdOf ByteArray.empty t399 x22_1).toList == ([] : List UInt8)) = false := beq_eq_false_iff_ne.mpr c25
   have c25b1 : ((rdOf ByteArray.empty t399 x22_1).toList != ([] : List UInt8)) = true := bne_iff_ne.mpr c25
   obtain ⟨⟨t403,t404,t405⟩,A260,H⟩ := Option.bind_eq_some_iff.mp H
   try dsimp only at H
   have A26 := Aside0.mk A260
   clear A260
   by_cases c27 : t405 = true
   rotate_left
   ·replace c27 := Bool.eq_false_iff.mpr c27
    subst c27
    rw [if_neg Bool.false_ne_true] at H
    by_cases c87 : 10 = 0
    ·exact absurd c87 Z306
    rw [if_neg c87] at H
    have c87b0 : (10 == 0) = false := beq_eq_false_iff_ne.mpr c87
    have c87b1 : (10 != 0) = true := bne_iff_ne.mpr c87
    simp only [Option.some.injEq,Prod.mk.injEq] at H
    obtain ⟨rfl,rfl,rfl,rfl,rfl,rfl,rfl,rfl,rfl,rfl,rfl⟩ := H
    have p402 : 0 ≤ (x22_1 : Int) := of_decide_eq_true Z164
    have q402 : x22_1 < (t399.length : Int) := of_decide_eq_true Z164
    obtain ⟨ad402,e402,hx402_0⟩ := Kd.at_string (Kd.R_reads' HO_20.out).2.2 x22_1 p402 q402
    cases e402
    replace p402 := eq_true p402
    replace q402 := eq_true q402
    go_wp2_with (first | ((with_reducible refine gate_callee (f := 29) rfl ?_);refine goesL_ (some 31) rfl rfl Tryz.func29 Z190 rfl #[.string (rdOf ByteArray.empty t399 x22_1),.string (⟨#[61]⟩ : ByteArray)] rfl Z130 ?_;(with_reducible refine (strings_Cut.calls (rdOf ByteArray.empty t399 x22_1) (⟨#[61]⟩ : ByteArray) t403 t404 false _ ?side1 A26.out).mono ?_);(case side1 => exact Z76);rintro e wq1 ⟨rfl,hb⟩;refine ⟨_,rfl,?_⟩;have n_ := Z26;clear HO_5 HO_20 HO_399007 BK383 BK384 BK398 HB;obtain ⟨HO_5,HO_20,HO_399007,BK383,BK384,BK398,HB⟩ := n_;(try clear hb);(try clear hb2);(try clear hk);(try clear hi);have hnbq2 := NB383_384.out;have hncq2 := NB384_383.out;have hnbq3 := NB383_398.out;have hncq3 := NB398_383.out;obtain ⟨hczq4_0,hczq4_1,hczq4_2,hczq4_3,hczq4_4,hczq4_5,hczq4_6,hczq4_7,hfzq4_0,hfzq4_1,hfzq4_2,hfzq4_3,hfzq4_4,hfzq4_5,hfzq4_6,hfzq4_7⟩ := cells8 BK383.out;have hnbq5 := NB384_398.out;have hncq5 := NB398_384.out;obtain ⟨hczq6_0,hczq6_1,hczq6_2,hfzq6_0,hfzq6_1,hfzq6_2⟩ := cells3 BK384.out))
    refine bodyPost_ret (results_cc rfl _ _ gb383 gb384 26 31 #[.int .i64 0,.int .i64 0,.int .i64 0,.int .i64 0,.int .i64 0,.int .i64 0,.int .i64 0,.slice none 0 0] #[.int .i64 10,.int .i64 x22_1,.int .i64 0] (0,0) (0,0) _ _ rfl Z17 Tryz.underlying26 rfl Z190 rfl (by refine bP ?_;refine blk_put (cs := #[.int .i64 10,.int .i64 x22_1,.int .i64 x385002_1]) ?_ 2 _ rfl;refine bP ?_;refine blk_put (cs := #[.int .i64 10,.int .i64 x385001_1,.int .i64 x385002_1]) ?_ 1 _ rfl;refine bP ?_;refine blk_put (cs := #[.int .i64 x385000_1,.int .i64 x385001_1,.int .i64 x385002_1]) ?_ 0 _ rfl;refine bP ?_;refine blk_far ?_ NB384_383.out _;refine bP ?_;refine blk_far ?_ NB384_383.out _;refine bP ?_;refine blk_far ?_ NB384_383.out _;refine bP ?_;refine blk_far ?_ NB384_383.out _;refine bP ?_;refine blk_far ?_ NB384_383.out _;refine bP ?_;refine blk_far ?_ NB384_383.out _;refine bP ?_;refine blk_far ?_ NB384_383.out _;refine bP ?_;refine blk_far ?_ NB384_383.out _;refine bP ?_;exact BK384.out) Tryz.underlying31 rfl Z190) rfl ?_
    exact ⟨_,Z152,Z129,Z215⟩
   subst c27
   rw [if_pos rfl] at H
   obtain ⟨y406,hyy⟩ : ∃ y_ : List ByteArray,y_ = (([(⟨#[114,111,117,110,100,115]⟩ : ByteArray),(⟨#[100,101,112,116,104]⟩ : ByteArray),(⟨#[98,105,110,115]⟩ : ByteArray),(⟨#[108,97,109,98,100,97]⟩ : ByteArray),(⟨#[114,111,119,115]⟩ : ByteArray),(⟨#[114,97,116,101]⟩ : ByteArray),(⟨#[115,105,103,110,115]⟩ : ByteArray)] : List ByteArray)) := ⟨_,rfl⟩
   replace H : ((slices_Contains_string_string.f k1 y406 t403).bind fun t409 => (if t409 = true then ((slices_Contains_string_string.f k1 x5_1 t403).bind fun t410 => (if t410 = true then (if 6 = 0 then (if x5_1.length < 8796093022208 then (impl_ReadConfig.l0 k1 (x5_1 ++ [t403]) t399 (t399.length : Int) (wrap64 (x22_1 + 1)) x399000_1 x399001_1 x399002_1 x399003_1 x399004_1 x399005_1 x399006_1 x399007_1) else (none)) else (some (0,0,0,0,0,0,0,([] : List Int),6,x22_1,0))) else ((impl_Config_set.f k1 x399000_1 x399001_1 x399002_1 x399003_1 x399004_1 x399005_1 x399006_1 x399007_1 t403 t404).bind fun bt414 => (if bt414.1 = 0 then (if x5_1.length < 8796093022208 then (impl_ReadConfig.l0 k1 (x5_1 ++ [t403]) t399 (t399.length : Int) (wrap64 (x22_1 + 1)) bt414.2.1 bt414.2.2.1 bt414.2.2.2.1 bt414.2.2.2.2.1 bt414.2.2.2.2.2.1 bt414.2.2.2.2.2.2.1 bt414.2.2.2.2.2.2.2.1 bt414.2.2.2.2.2.2.2.2) else (none)) else (some (0,0,0,0,0,0,0,([] : List Int),bt414.1,x22_1,0)))))) else (if 11 = 0 then (if x5_1.length < 8796093022208 then (impl_ReadConfig.l0 k1 (x5_1 ++ [t403]) t399 (t399.length : Int) (wrap64 (x22_1 + 1)) x399000_1 x399001_1 x399002_1 x399003_1 x399004_1 x399005_1 x399006_1 x399007_1) else (none)) else (some (0,0,0,0,0,0,0,([] : List Int),11,x22_1,0))))) = some (r1,r2,r3,r4,r5,r6,r7,r8,r9,r10,r11) := zR
   have Ny406 := Aside0.mk hyy
   clear hyy
   obtain ⟨t409,A280,H⟩ := Option.bind_eq_some_iff.mp H
   have A28 := Aside0.mk A280
   clear A280
   by_cases c29 : t409 = true
   rotate_left
   ·replace c29 := Bool.eq_false_iff.mpr c29
    subst c29
    rw [if_neg Bool.false_ne_true] at H
    by_cases c71 : 11 = 0
    ·exact absurd c71 Z306
    rw [if_neg c71] at H
    have c71b0 : (11 == 0) = false := beq_eq_false_iff_ne.mpr c71
    have c71b1 : (11 != 0) = true := bne_iff_ne.mpr c71
    simp only [Option.some.injEq,Prod.mk.injEq] at H
    obtain ⟨rfl,rfl,rfl,rfl,rfl,rfl,rfl,rfl,rfl,rfl,rfl⟩ := H
    have p402 : 0 ≤ (x22_1 : Int) := of_decide_eq_true Z164
    have q402 : x22_1 < (t399.length : Int) := of_decide_eq_true Z164
    obtain ⟨ad402,e402,hx402_0⟩ := Kd.at_string (Kd.R_reads' HO_20.out).2.2 x22_1 p402 q402
    cases e402
    replace p402 := eq_true p402
    replace q402 := eq_true q402
    go_wp2_with (first | ((with_reducible refine gate_callee (f := 29) rfl ?_);refine goesL_ (some 31) rfl rfl Tryz.func29 Z190 rfl #[.string (rdOf ByteArray.empty t399 x22_1),.string (⟨#[61]⟩ : ByteArray)] rfl Z130 ?_;(with_reducible refine (strings_Cut.calls (rdOf ByteArray.empty t399 x22_1) (⟨#[61]⟩ : ByteArray) t403 t404 true _ ?side1 A26.out).mono ?_);(case side1 => exact Z76);rintro e wq1 ⟨rfl,hb⟩;refine ⟨_,rfl,?_⟩;have n_ := Z26;clear HO_5 HO_20 HO_399007 BK383 BK384 BK398 HB;obtain ⟨HO_5,HO_20,HO_399007,BK383,BK384,BK398,HB⟩ := n_;(try clear hb);(try clear hb2);(try clear hk);(try clear hi)) | ((with_reducible refine gate_dst (N := 42) rfl ?_);refine Kd.R_lit Kd.string _ 9 ?hg (N := 42) ?hd (xs := ([(⟨#[114,111,117,110,100,115]⟩ : ByteArray),(⟨#[100,101,112,116,104]⟩ : ByteArray),(⟨#[98,105,110,115]⟩ : ByteArray),(⟨#[108,97,109,98,100,97]⟩ : ByteArray),(⟨#[114,111,119,115]⟩ : ByteArray),(⟨#[114,97,116,101]⟩ : ByteArray),(⟨#[115,105,103,110,115]⟩ : ByteArray)] : List ByteArray)) (inner := [.string (⟨#[114,111,117,110,100,115]⟩ : ByteArray),.string (⟨#[100,101,112,116,104]⟩ : ByteArray),.string (⟨#[98,105,110,115]⟩ : ByteArray),.string (⟨#[108,97,109,98,100,97]⟩ : ByteArray),.string (⟨#[114,111,119,115]⟩ : ByteArray),.string (⟨#[114,97,116,101]⟩ : ByteArray),.string (⟨#[115,105,103,110,115]⟩ : ByteArray)]) (ok := fun _ => True) (okp := fun _ => True) ?hr ?hp (fun _ hk => hk) trivial (Below.refl _ _) (Nat.le_refl _) Z286 ?_;(case hd => rfl);(case hg => rfl);(case hr => exact Z166);(case hp => exact Z31);intro vq2 wq3 hoq4 hb hg_ hnew_;clear hg_ hnew_;(first | rw [← Ny406.out] at hoq4 | (simp only [Int.reduceToNat] at hoq4;rw [← Ny406.out] at hoq4));have n_ := Z12;clear HO_5 HO_20 HO_399007 BK383 BK384 BK398 HB;obtain ⟨HO_5,HO_20,HO_399007,HO408,BK383,BK384,BK398,HB⟩ := n_;clear hb hoq4;obtain ⟨Aoq5,coq5,eoq5⟩ := Kd.R_slice HO408.out;subst eoq5) | ((with_reducible refine gate_callee (f := 30) rfl ?_);refine goesL_ (some 44) rfl rfl Tryz.func30 Z190 rfl #[.slice Aoq5 y406.length coq5,.string t403] rfl Z130 ?_;(with_reducible refine (slices_Contains_string_string.calls k1 _ _ y406 t403 false _ ?side1 ?side2 A28.out).mono ?_);(case side1 => exact Z109);(case side2 => exact Z174);rintro e w' ⟨rfl,⟨nd,rfl⟩⟩;refine ⟨_,rfl,?_⟩;(iterate 4 (try (rw [drewN_self wq3];generalize hq_ : World.drewN wq3 _ = wq3;have n0_ : Aside0 (Kd.R Kd.string 9 wq3 w.heap.size (fun k_ => some k_ ≠ (.slice (some ad402) t399.length co21 : Value).ownBlock ∧ some k_ ≠ (u5 : Value).ownBlock) (.slice Aoq5 y406.length coq5) y406) := ⟨Z115⟩;have n1_ : Aside0 (Kd.R Kd.string 9 wq3 w.heap.size (fun k_ => some k_ ≠ (.slice Aoq5 y406.length coq5 : Value).ownBlock ∧ some k_ ≠ (u5 : Value).ownBlock) (.slice (some ad402) t399.length co21) t399) := ⟨Z118⟩;have n2_ : Aside0 (Kd.R (Kd.int .i64) 3 wq3 w.heap.size (fun _ => True) u399007 x399007_1) := ⟨Z131⟩;have n3_ : Aside0 (Kd.R Kd.string 9 wq3 w.heap.size (fun k_ => some k_ ≠ (.slice Aoq5 y406.length coq5 : Value).ownBlock ∧ some k_ ≠ (.slice (some ad402) t399.length co21 : Value).ownBlock) u5 x5_1) := ⟨Z119⟩;have n4_ : Aside0 (wq3.heap[gb383]? = some (.cells #[.int .i64 x384000_1,.int .i64 x384001_1,.int .i64 x384002_1,.int .i64 x384003_1,.int .i64 x384004_1,.int .i64 x384005_1,.int .i64 x384006_1,.slice none 0 0] 26 (0,0))) := ⟨Z161⟩;have n5_ : Aside0 (wq3.heap[gb384]? = some (.cells #[.int .i64 x385000_1,.int .i64 x385001_1,.int .i64 x385002_1] 31 (0,0))) := ⟨Z160⟩;have n6_ : Aside0 (wq3.heap[gb398]? = some (.cells #[.int .i64 x399000_1,.int .i64 x399001_1,.int .i64 x399002_1,.int .i64 x399003_1,.int .i64 x399004_1,.int .i64 x399005_1,.int .i64 x399006_1,u399007] 26 (0,0))) := ⟨Z159⟩;have n7_ : Aside0 (Below w.heap.size w wq3) := ⟨Z78⟩;clear HO408 HO_20 HO_399007 HO_5 BK383 BK384 BK398 HB hq_;have HO408 := n0_;have HO_20 := n1_;have HO_399007 := n2_;have HO_5 := n3_;have BK383 := n4_;have BK384 := n5_;have BK398 := n6_;have HB := n7_;clear n0_ n1_ n2_ n3_ n4_ n5_ n6_ n7_)));have hnbq6 := NB383_384.out;have hncq6 := NB384_383.out;have hnbq7 := NB383_398.out;have hncq7 := NB398_383.out;obtain ⟨hczq8_0,hczq8_1,hczq8_2,hczq8_3,hczq8_4,hczq8_5,hczq8_6,hczq8_7,hfzq8_0,hfzq8_1,hfzq8_2,hfzq8_3,hfzq8_4,hfzq8_5,hfzq8_6,hfzq8_7⟩ := cells8 BK383.out;have hnbq9 := NB384_398.out;have hncq9 := NB398_384.out;obtain ⟨hczq10_0,hczq10_1,hczq10_2,hfzq10_0,hfzq10_1,hfzq10_2⟩ := cells3 BK384.out))
    refine bodyPost_ret (results_cc rfl _ _ gb383 gb384 26 31 #[.int .i64 0,.int .i64 0,.int .i64 0,.int .i64 0,.int .i64 0,.int .i64 0,.int .i64 0,.slice none 0 0] #[.int .i64 11,.int .i64 x22_1,.int .i64 0] (0,0) (0,0) _ _ rfl Z17 Tryz.underlying26 rfl Z190 rfl (by refine bP ?_;refine blk_put (cs := #[.int .i64 11,.int .i64 x22_1,.int .i64 x385002_1]) ?_ 2 _ rfl;refine bP ?_;refine blk_put (cs := #[.int .i64 11,.int .i64 x385001_1,.int .i64 x385002_1]) ?_ 1 _ rfl;refine bP ?_;refine blk_put (cs := #[.int .i64 x385000_1,.int .i64 x385001_1,.int .i64 x385002_1]) ?_ 0 _ rfl;refine bP ?_;refine blk_far ?_ NB384_383.out _;refine bP ?_;refine blk_far ?_ NB384_383.out _;refine bP ?_;refine blk_far ?_ NB384_383.out _;refine bP ?_;refine blk_far ?_ NB384_383.out _;refine bP ?_;refine blk_far ?_ NB384_383.out _;refine bP ?_;refine blk_far ?_ NB384_383.out _;refine bP ?_;refine blk_far ?_ NB384_383.out _;refine bP ?_;refine blk_far ?_ NB384_383.out _;refine bP ?_;exact BK384.out) Tryz.underlying31 rfl Z190) rfl ?_
    exact ⟨_,Z152,Z129,Z215⟩
   subst c29
   rw [if_pos rfl] at H
   obtain ⟨t410,A300,H⟩ := Option.bind_eq_some_iff.mp H
   have A30 := Aside0.mk A300
   clear A300
   by_cases c31 : t410 = true
   ·subst c31
    rw [if_pos rfl] at H
    by_cases c32 : 6 = 0
    ·exact absurd c32 Z306
    rw [if_neg c32] at H
    have c32b0 : (6 == 0) = false := beq_eq_false_iff_ne.mpr c32
    have c32b1 : (6 != 0) = true := bne_iff_ne.mpr c32
    simp only [Option.some.injEq,Prod.mk.injEq] at H
    obtain ⟨rfl,rfl,rfl,rfl,rfl,rfl,rfl,rfl,rfl,rfl,rfl⟩ := H
    have p402 : 0 ≤ (x22_1 : Int) := of_decide_eq_true Z164
    have q402 : x22_1 < (t399.length : Int) := of_decide_eq_true Z164
    obtain ⟨ad402,e402,hx402_0⟩ := Kd.at_string (Kd.R_reads' HO_20.out).2.2 x22_1 p402 q402
    cases e402
    replace p402 := eq_true p402
    replace q402 := eq_true q402
    go_wp2_with (first | ((with_reducible refine gate_callee (f := 29) rfl ?_);refine goesL_ (some 31) rfl rfl Tryz.func29 Z190 rfl #[.string (rdOf ByteArray.empty t399 x22_1),.string (⟨#[61]⟩ : ByteArray)] rfl Z130 ?_;(with_reducible refine (strings_Cut.calls (rdOf ByteArray.empty t399 x22_1) (⟨#[61]⟩ : ByteArray) t403 t404 true _ ?side1 A26.out).mono ?_);(case side1 => exact Z76);rintro e wq1 ⟨rfl,hb⟩;refine ⟨_,rfl,?_⟩;have n_ := Z26;clear HO_5 HO_20 HO_399007 BK383 BK384 BK398 HB;obtain ⟨HO_5,HO_20,HO_399007,BK383,BK384,BK398,HB⟩ := n_;(try clear hb);(try clear hb2);(try clear hk);(try clear hi)) | ((with_reducible refine gate_dst (N := 42) rfl ?_);refine Kd.R_lit Kd.string _ 9 ?hg (N := 42) ?hd (xs := ([(⟨#[114,111,117,110,100,115]⟩ : ByteArray),(⟨#[100,101,112,116,104]⟩ : ByteArray),(⟨#[98,105,110,115]⟩ : ByteArray),(⟨#[108,97,109,98,100,97]⟩ : ByteArray),(⟨#[114,111,119,115]⟩ : ByteArray),(⟨#[114,97,116,101]⟩ : ByteArray),(⟨#[115,105,103,110,115]⟩ : ByteArray)] : List ByteArray)) (inner := [.string (⟨#[114,111,117,110,100,115]⟩ : ByteArray),.string (⟨#[100,101,112,116,104]⟩ : ByteArray),.string (⟨#[98,105,110,115]⟩ : ByteArray),.string (⟨#[108,97,109,98,100,97]⟩ : ByteArray),.string (⟨#[114,111,119,115]⟩ : ByteArray),.string (⟨#[114,97,116,101]⟩ : ByteArray),.string (⟨#[115,105,103,110,115]⟩ : ByteArray)]) (ok := fun _ => True) (okp := fun _ => True) ?hr ?hp (fun _ hk => hk) trivial (Below.refl _ _) (Nat.le_refl _) Z286 ?_;(case hd => rfl);(case hg => rfl);(case hr => exact Z166);(case hp => exact Z31);intro vq2 wq3 hoq4 hb hg_ hnew_;clear hg_ hnew_;(first | rw [← Ny406.out] at hoq4 | (simp only [Int.reduceToNat] at hoq4;rw [← Ny406.out] at hoq4));have n_ := Z12;clear HO_5 HO_20 HO_399007 BK383 BK384 BK398 HB;obtain ⟨HO_5,HO_20,HO_399007,HO408,BK383,BK384,BK398,HB⟩ := n_;clear hb hoq4;obtain ⟨Aoq5,coq5,eoq5⟩ := Kd.R_slice HO408.out;subst eoq5) | ((with_reducible refine gate_callee (f := 30) rfl ?_);refine goesL_ (some 44) rfl rfl Tryz.func30 Z190 rfl #[.slice Aoq5 y406.length coq5,.string t403] rfl Z130 ?_;(with_reducible refine (slices_Contains_string_string.calls k1 _ _ y406 t403 true _ ?side1 ?side2 A28.out).mono ?_);(case side1 => exact Z109);(case side2 => exact Z174);rintro e w' ⟨rfl,⟨nd,rfl⟩⟩;refine ⟨_,rfl,?_⟩;(iterate 4 (try (rw [drewN_self wq3];generalize hq_ : World.drewN wq3 _ = wq3;have n0_ : Aside0 (Kd.R Kd.string 9 wq3 w.heap.size (fun k_ => some k_ ≠ (.slice (some ad402) t399.length co21 : Value).ownBlock ∧ some k_ ≠ (u5 : Value).ownBlock) (.slice Aoq5 y406.length coq5) y406) := ⟨Z115⟩;have n1_ : Aside0 (Kd.R Kd.string 9 wq3 w.heap.size (fun k_ => some k_ ≠ (.slice Aoq5 y406.length coq5 : Value).ownBlock ∧ some k_ ≠ (u5 : Value).ownBlock) (.slice (some ad402) t399.length co21) t399) := ⟨Z118⟩;have n2_ : Aside0 (Kd.R (Kd.int .i64) 3 wq3 w.heap.size (fun _ => True) u399007 x399007_1) := ⟨Z131⟩;have n3_ : Aside0 (Kd.R Kd.string 9 wq3 w.heap.size (fun k_ => some k_ ≠ (.slice Aoq5 y406.length coq5 : Value).ownBlock ∧ some k_ ≠ (.slice (some ad402) t399.length co21 : Value).ownBlock) u5 x5_1) := ⟨Z119⟩;have n4_ : Aside0 (wq3.heap[gb383]? = some (.cells #[.int .i64 x384000_1,.int .i64 x384001_1,.int .i64 x384002_1,.int .i64 x384003_1,.int .i64 x384004_1,.int .i64 x384005_1,.int .i64 x384006_1,.slice none 0 0] 26 (0,0))) := ⟨Z161⟩;have n5_ : Aside0 (wq3.heap[gb384]? = some (.cells #[.int .i64 x385000_1,.int .i64 x385001_1,.int .i64 x385002_1] 31 (0,0))) := ⟨Z160⟩;have n6_ : Aside0 (wq3.heap[gb398]? = some (.cells #[.int .i64 x399000_1,.int .i64 x399001_1,.int .i64 x399002_1,.int .i64 x399003_1,.int .i64 x399004_1,.int .i64 x399005_1,.int .i64 x399006_1,u399007] 26 (0,0))) := ⟨Z159⟩;have n7_ : Aside0 (Below w.heap.size w wq3) := ⟨Z78⟩;clear HO408 HO_20 HO_399007 HO_5 BK383 BK384 BK398 HB hq_;have HO408 := n0_;have HO_20 := n1_;have HO_399007 := n2_;have HO_5 := n3_;have BK383 := n4_;have BK384 := n5_;have BK398 := n6_;have HB := n7_;clear n0_ n1_ n2_ n3_ n4_ n5_ n6_ n7_)));obtain ⟨Aoq6,coq6,eoq6⟩ := Kd.R_slice HO_5.out;subst eoq6) | ((with_reducible refine gate_callee (f := 30) rfl ?_);refine goesL_ (some 49) rfl rfl Tryz.func30 Z190 rfl #[.slice Aoq6 x5_1.length coq6,.string t403] rfl Z130 ?_;(with_reducible refine (slices_Contains_string_string.calls k1 _ _ x5_1 t403 true _ ?side1 ?side2 A30.out).mono ?_);(case side1 => exact Z114);(case side2 => exact (Kd.R_reads' HO_5.out).2.1);rintro e w' ⟨rfl,⟨nd,rfl⟩⟩;refine ⟨_,rfl,?_⟩;(iterate 4 (try (rw [drewN_self wq3];generalize hq_ : World.drewN wq3 _ = wq3;have n0_ : Aside0 (Kd.R Kd.string 9 wq3 w.heap.size (fun k_ => some k_ ≠ (.slice (some ad402) t399.length co21 : Value).ownBlock ∧ some k_ ≠ (.slice Aoq6 x5_1.length coq6 : Value).ownBlock) (.slice Aoq5 y406.length coq5) y406) := ⟨Z115⟩;have n1_ : Aside0 (Kd.R Kd.string 9 wq3 w.heap.size (fun k_ => some k_ ≠ (.slice Aoq5 y406.length coq5 : Value).ownBlock ∧ some k_ ≠ (.slice Aoq6 x5_1.length coq6 : Value).ownBlock) (.slice (some ad402) t399.length co21) t399) := ⟨Z118⟩;have n2_ : Aside0 (Kd.R (Kd.int .i64) 3 wq3 w.heap.size (fun _ => True) u399007 x399007_1) := ⟨Z131⟩;have n3_ : Aside0 (Kd.R Kd.string 9 wq3 w.heap.size (fun k_ => some k_ ≠ (.slice Aoq5 y406.length coq5 : Value).ownBlock ∧ some k_ ≠ (.slice (some ad402) t399.length co21 : Value).ownBlock) (.slice Aoq6 x5_1.length coq6) x5_1) := ⟨Z119⟩;have n4_ : Aside0 (wq3.heap[gb383]? = some (.cells #[.int .i64 x384000_1,.int .i64 x384001_1,.int .i64 x384002_1,.int .i64 x384003_1,.int .i64 x384004_1,.int .i64 x384005_1,.int .i64 x384006_1,.slice none 0 0] 26 (0,0))) := ⟨Z161⟩;have n5_ : Aside0 (wq3.heap[gb384]? = some (.cells #[.int .i64 x385000_1,.int .i64 x385001_1,.int .i64 x385002_1] 31 (0,0))) := ⟨Z160⟩;have n6_ : Aside0 (wq3.heap[gb398]? = some (.cells #[.int .i64 x399000_1,.int .i64 x399001_1,.int .i64 x399002_1,.int .i64 x399003_1,.int .i64 x399004_1,.int .i64 x399005_1,.int .i64 x399006_1,u399007] 26 (0,0))) := ⟨Z159⟩;have n7_ : Aside0 (Below w.heap.size w wq3) := ⟨Z78⟩;clear HO408 HO_20 HO_399007 HO_5 BK383 BK384 BK398 HB hq_;have HO408 := n0_;have HO_20 := n1_;have HO_399007 := n2_;have HO_5 := n3_;have BK383 := n4_;have BK384 := n5_;have BK398 := n6_;have HB := n7_;clear n0_ n1_ n2_ n3_ n4_ n5_ n6_ n7_)));have hnbq7 := NB383_384.out;have hncq7 := NB384_383.out;have hnbq8 := NB383_398.out;have hncq8 := NB398_383.out;obtain ⟨hczq9_0,hczq9_1,hczq9_2,hczq9_3,hczq9_4,hczq9_5,hczq9_6,hczq9_7,hfzq9_0,hfzq9_1,hfzq9_2,hfzq9_3,hfzq9_4,hfzq9_5,hfzq9_6,hfzq9_7⟩ := cells8 BK383.out;have hnbq10 := NB384_398.out;have hncq10 := NB398_384.out;obtain ⟨hczq11_0,hczq11_1,hczq11_2,hfzq11_0,hfzq11_1,hfzq11_2⟩ := cells3 BK384.out))
    refine bodyPost_ret (results_cc rfl _ _ gb383 gb384 26 31 #[.int .i64 0,.int .i64 0,.int .i64 0,.int .i64 0,.int .i64 0,.int .i64 0,.int .i64 0,.slice none 0 0] #[.int .i64 6,.int .i64 x22_1,.int .i64 0] (0,0) (0,0) _ _ rfl Z17 Tryz.underlying26 rfl Z190 rfl (by refine bP ?_;refine blk_put (cs := #[.int .i64 6,.int .i64 x22_1,.int .i64 x385002_1]) ?_ 2 _ rfl;refine bP ?_;refine blk_put (cs := #[.int .i64 6,.int .i64 x385001_1,.int .i64 x385002_1]) ?_ 1 _ rfl;refine bP ?_;refine blk_put (cs := #[.int .i64 x385000_1,.int .i64 x385001_1,.int .i64 x385002_1]) ?_ 0 _ rfl;refine bP ?_;refine blk_far ?_ NB384_383.out _;refine bP ?_;refine blk_far ?_ NB384_383.out _;refine bP ?_;refine blk_far ?_ NB384_383.out _;refine bP ?_;refine blk_far ?_ NB384_383.out _;refine bP ?_;refine blk_far ?_ NB384_383.out _;refine bP ?_;refine blk_far ?_ NB384_383.out _;refine bP ?_;refine blk_far ?_ NB384_383.out _;refine bP ?_;refine blk_far ?_ NB384_383.out _;refine bP ?_;exact BK384.out) Tryz.underlying31 rfl Z190) rfl ?_
    exact ⟨_,Z152,Z129,Z215⟩
   replace c31 := Bool.eq_false_iff.mpr c31
   subst c31
   rw [if_neg Bool.false_ne_true] at H
   obtain ⟨⟨t414,t415,t416,t417,t418,t419,t420,t421,t422⟩,A500,H⟩ := Option.bind_eq_some_iff.mp H
   try dsimp only at H
   have A50 := Aside0.mk A500
   clear A500
   by_cases c51 : t414 = 0
   ·rw [if_pos c51] at H
    have c51b0 : (t414 == 0) = true := beq_iff_eq.mpr c51
    have c51b1 : (t414 != 0) = false := bne_eq_false_iff_eq.mpr c51
    clear c51
    obtain ⟨c52,H⟩ := ifp H
    have LMc52 := Aside0.mk c52
    clear c52
    obtain ⟨y425,hyy⟩ : ∃ y_ : List ByteArray,y_ = (x5_1 ++ [t403]) := ⟨_,rfl⟩
    replace H : (impl_ReadConfig.l0 k1 y425 t399 (t399.length : Int) (wrap64 (x22_1 + 1)) t415 t416 t417 t418 t419 t420 t421 t422) = some (r1,r2,r3,r4,r5,r6,r7,r8,r9,r10,r11) := zR
    have Ny425 := Aside0.mk hyy
    clear hyy
    have H' := Aside0.mk H
    clear H
    have p402 : 0 ≤ (x22_1 : Int) := of_decide_eq_true Z164
    have q402 : x22_1 < (t399.length : Int) := of_decide_eq_true Z164
    obtain ⟨ad402,e402,hx402_0⟩ := Kd.at_string (Kd.R_reads' HO_20.out).2.2 x22_1 p402 q402
    cases e402
    replace p402 := eq_true p402
    replace q402 := eq_true q402
    go_wp2_with (first | ((with_reducible refine gate_callee (f := 29) rfl ?_);refine goesL_ (some 31) rfl rfl Tryz.func29 Z190 rfl #[.string (rdOf ByteArray.empty t399 x22_1),.string (⟨#[61]⟩ : ByteArray)] rfl Z130 ?_;(with_reducible refine (strings_Cut.calls (rdOf ByteArray.empty t399 x22_1) (⟨#[61]⟩ : ByteArray) t403 t404 true _ ?side1 A26.out).mono ?_);(case side1 => exact Z76);rintro e w53 ⟨rfl,hb⟩;refine ⟨_,rfl,?_⟩;have n_ := Z26;clear HO_5 HO_20 HO_399007 BK383 BK384 BK398 HB;obtain ⟨HO_5,HO_20,HO_399007,BK383,BK384,BK398,HB⟩ := n_;(try clear hb);(try clear hb2);(try clear hk);(try clear hi)) | ((with_reducible refine gate_dst (N := 42) rfl ?_);refine Kd.R_lit Kd.string _ 9 ?hg (N := 42) ?hd (xs := ([(⟨#[114,111,117,110,100,115]⟩ : ByteArray),(⟨#[100,101,112,116,104]⟩ : ByteArray),(⟨#[98,105,110,115]⟩ : ByteArray),(⟨#[108,97,109,98,100,97]⟩ : ByteArray),(⟨#[114,111,119,115]⟩ : ByteArray),(⟨#[114,97,116,101]⟩ : ByteArray),(⟨#[115,105,103,110,115]⟩ : ByteArray)] : List ByteArray)) (inner := [.string (⟨#[114,111,117,110,100,115]⟩ : ByteArray),.string (⟨#[100,101,112,116,104]⟩ : ByteArray),.string (⟨#[98,105,110,115]⟩ : ByteArray),.string (⟨#[108,97,109,98,100,97]⟩ : ByteArray),.string (⟨#[114,111,119,115]⟩ : ByteArray),.string (⟨#[114,97,116,101]⟩ : ByteArray),.string (⟨#[115,105,103,110,115]⟩ : ByteArray)]) (ok := fun _ => True) (okp := fun _ => True) ?hr ?hp (fun _ hk => hk) trivial (Below.refl _ _) (Nat.le_refl _) Z286 ?_;(case hd => rfl);(case hg => rfl);(case hr => exact Z166);(case hp => exact Z31);intro v407 w54 ho55 hb hg_ hnew_;clear hg_ hnew_;(first | rw [← Ny406.out] at ho55 | (simp only [Int.reduceToNat] at ho55;rw [← Ny406.out] at ho55));have n_ := jA (Kd.R_elder' Z267 (Kd.R_base ho55) hb) (jA (Kd.R_elder' Z261 (Kd.R_base ho55) hb) (jA (Kd.R_below Z255 hb) (jA (Kd.R_lower (Kd.R_new' (Kd.R_new' ho55 (Kd.R_lt Z267)) (Kd.R_lt Z261)) (below_size Z215)) (jA (blk_below (g := gb383) (o := .cells #[.int .i64 x384000_1,.int .i64 x384001_1,.int .i64 x384002_1,.int .i64 x384003_1,.int .i64 x384004_1,.int .i64 x384005_1,.int .i64 x384006_1,.slice none 0 0] 26 (0,0)) Z300 hb) (jA (blk_below (g := gb384) (o := .cells #[.int .i64 x385000_1,.int .i64 x385001_1,.int .i64 x385002_1] 31 (0,0)) Z275 hb) (jA (blk_below (g := gb398) (o := .cells #[.int .i64 x399000_1,.int .i64 x399001_1,.int .i64 x399002_1,.int .i64 x399003_1,.int .i64 x399004_1,.int .i64 x399005_1,.int .i64 x399006_1,u399007] 26 (0,0)) Z279 hb) (Aside0.mk (below_step Z215 hb))))))));clear HO_5 HO_20 HO_399007 BK383 BK384 BK398 HB;obtain ⟨HO_5,HO_20,HO_399007,HO408,BK383,BK384,BK398,HB⟩ := n_;clear hb ho55;obtain ⟨Ao56,co56,eo56⟩ := Kd.R_slice HO408.out;subst eo56) | ((with_reducible refine gate_callee (f := 30) rfl ?_);refine goesL_ (some 44) rfl rfl Tryz.func30 Z190 rfl #[.slice Ao56 y406.length co56,.string t403] rfl Z130 ?_;(with_reducible refine (slices_Contains_string_string.calls k1 _ _ y406 t403 true _ ?side1 ?side2 A28.out).mono ?_);(case side1 => exact Z109);(case side2 => exact Z174);rintro e w' ⟨rfl,⟨nd,rfl⟩⟩;refine ⟨_,rfl,?_⟩;obtain ⟨Ao57,co57,eo57⟩ := Kd.R_slice HO_5.out;subst eo57) | ((with_reducible refine gate_callee (f := 30) rfl ?_);refine goesL_ (some 49) rfl rfl Tryz.func30 Z190 rfl #[.slice Ao57 x5_1.length co57,.string t403] rfl Z130 ?_;(with_reducible refine (slices_Contains_string_string.calls k1 _ _ x5_1 t403 false _ ?side1 ?side2 A30.out).mono ?_);(case side1 => exact Z114);(case side2 => exact (Kd.R_reads' HO_5.out).2.1);rintro e w' ⟨rfl,⟨nd,rfl⟩⟩;refine ⟨_,rfl,?_⟩) | ((with_reducible refine gate_callee (f := 31) rfl ?_);refine goesL_ (some 37) rfl rfl Tryz.func31 Z190 rfl #[.pointer (some ⟨gb398,0,none⟩),.string t403,.string t404] rfl Z130 ?_;(with_reducible refine (impl_Config_set.calls k1 gb398 x399000_1 x399001_1 x399002_1 x399003_1 x399004_1 x399005_1 x399006_1 x399007_1 u399007 t403 t404 t414 t415 t416 t417 t418 t419 t420 t421 t422 w _ ?side1 ?side2 ?side3 ?side4 ?side5 A50.out).mono ?_);(case side1 => exact GE398.out);(case side2 => exact Z279);(case side3 => exact Z133);(case side4 => exact Z215);(case side5 => exact HG.out);rintro e w58 ⟨v423,rfl,hi,hy,hb,hk⟩;refine ⟨_,rfl,?_⟩;have n_ := Z28;clear HO_5 HO_20 BK383 BK384 HO408 HB BK398 HO_399007;obtain ⟨HO_5,HO_20,BK383,BK384,HO408,HB,BK398,HO424⟩ := n_;(try clear hb);(try clear hk);(try clear hi);(try clear hy)) | ((with_reducible refine gate_builtin (b := .append) (xs := #[.tmp 56,.tmp 58]) rfl ?_);at_builtin;refine Kd.R_append Kd.string (w0 := w) w.heap.size rfl (.tmp 56) (.tmp 58) 42 9 (.string ⟨#[]⟩) 16 rfl Tryz.underlying42 info9 rfl Z306 Z285 (.slice Ao57 x5_1.length co57) x5_1 t403 [.string t403] (fun k_ => some k_ ≠ (.slice (some ad402) t399.length co21 : Value).ownBlock ∧ some k_ ≠ (.slice Ao56 y406.length co56 : Value).ownBlock) (fun _ => False) rfl rfl ?aP (fun _ hk => hk.elim) ?aF ?aO ?aB ?aS ?aL ?_;(case aP => exact rfl);(case aB => exact Z215);(case aF => exact (fun k_ hk => ⟨Kd.fresh' (Kd.R_lt Z261) k_ hk,Kd.fresh' (Kd.R_lt Z266) k_ hk⟩));(case aO => exact Z135);(case aS => exact (below_size Z215));(case aL => have := LMc52.out;omega);intro v426 w59 ho hb hg hat;rw [← Ny425.out] at ho;have n_ := jA (Kd.R_after (ok := (fun k_ => some k_ ≠ (.slice Ao56 y406.length co56 : Value).ownBlock)) Z250 hg hat) (jA (blk_grown (g := gb383) (o := .cells #[.int .i64 x384000_1,.int .i64 x384001_1,.int .i64 x384002_1,.int .i64 x384003_1,.int .i64 x384004_1,.int .i64 x384005_1,.int .i64 x384006_1,.slice none 0 0] 26 (0,0)) Z300 hg (Kd.R_ne HO_5.out BK383.out Z306)) (jA (blk_grown (g := gb384) (o := .cells #[.int .i64 x385000_1,.int .i64 x385001_1,.int .i64 x385002_1] 31 (0,0)) Z275 hg (Kd.R_ne HO_5.out BK384.out Z306)) (jA (blk_grown (g := gb398) (o := .cells #[.int .i64 t415,.int .i64 t416,.int .i64 t417,.int .i64 t418,.int .i64 t419,.int .i64 t420,.int .i64 t421,v423] 26 (0,0)) Z279 hg (Kd.R_ne HO_5.out BK398.out Z306)) (jA (Kd.R_after (ok := (fun k_ => some k_ ≠ (.slice (some ad402) t399.length co21 : Value).ownBlock)) Z249 hg hat) (jA (Kd.R_over' Z149 (Kd.R_typed Z267) Z306 hg) (jA (hb) (Aside0.mk (ho))))))));clear HO_20 BK383 BK384 BK398 HO408 HO424 HB HO_5;obtain ⟨HO_20,BK383,BK384,BK398,HO408,HO424,HB,HO427⟩ := n_;clear ho hb hg hat))
    go_roundg k1
    case measure => have := HK1.out;omega
    case rel => exact ⟨(y425),(wrap64 (x22_1 + 1)),(x384000_1),(x384001_1),(x384002_1),(x384003_1),(x384004_1),(x384005_1),(x384006_1),(x385000_1),(x385001_1),(x385002_1),(t415),(t416),(t417),(t418),(t419),(t420),(t421),(t422),(v423),Z165,H',⟨Z184⟩,⟨by (with_reducible repeat (first | apply Kd.R_alloc | apply Kd.R_drewN | apply Kd.R_drew));exact Kd.R_mono HO427.out (fun _ hk => hk.1)⟩,⟨by (with_reducible repeat (first | apply Kd.R_alloc | apply Kd.R_drewN | apply Kd.R_drew));exact Kd.R_mono HO_20.out (fun _ hk => hk.2)⟩,⟨Z149⟩,⟨Z300⟩,⟨Z275⟩,⟨Z279⟩,⟨Z215⟩⟩
   rw [if_neg c51] at H
   have c51b0 : (t414 == 0) = false := beq_eq_false_iff_ne.mpr c51
   have c51b1 : (t414 != 0) = true := bne_iff_ne.mpr c51
   simp only [Option.some.injEq,Prod.mk.injEq] at H
   obtain ⟨rfl,rfl,rfl,rfl,rfl,rfl,rfl,rfl,rfl,rfl,rfl⟩ := H
   have p402 : 0 ≤ (x22_1 : Int) := of_decide_eq_true Z164
   have q402 : x22_1 < (t399.length : Int) := of_decide_eq_true Z164
   obtain ⟨ad402,e402,hx402_0⟩ := Kd.at_string (Kd.R_reads' HO_20.out).2.2 x22_1 p402 q402
   cases e402
   replace p402 := eq_true p402
   replace q402 := eq_true q402
   go_wp2_with (first | ((with_reducible refine gate_callee (f := 29) rfl ?_);refine goesL_ (some 31) rfl rfl Tryz.func29 Z190 rfl #[.string (rdOf ByteArray.empty t399 x22_1),.string (⟨#[61]⟩ : ByteArray)] rfl Z130 ?_;(with_reducible refine (strings_Cut.calls (rdOf ByteArray.empty t399 x22_1) (⟨#[61]⟩ : ByteArray) t403 t404 true _ ?side1 A26.out).mono ?_);(case side1 => exact Z76);rintro e wq1 ⟨rfl,hb⟩;refine ⟨_,rfl,?_⟩;have n_ := Z26;clear HO_5 HO_20 HO_399007 BK383 BK384 BK398 HB;obtain ⟨HO_5,HO_20,HO_399007,BK383,BK384,BK398,HB⟩ := n_;(try clear hb);(try clear hb2);(try clear hk);(try clear hi)) | ((with_reducible refine gate_dst (N := 42) rfl ?_);refine Kd.R_lit Kd.string _ 9 ?hg (N := 42) ?hd (xs := ([(⟨#[114,111,117,110,100,115]⟩ : ByteArray),(⟨#[100,101,112,116,104]⟩ : ByteArray),(⟨#[98,105,110,115]⟩ : ByteArray),(⟨#[108,97,109,98,100,97]⟩ : ByteArray),(⟨#[114,111,119,115]⟩ : ByteArray),(⟨#[114,97,116,101]⟩ : ByteArray),(⟨#[115,105,103,110,115]⟩ : ByteArray)] : List ByteArray)) (inner := [.string (⟨#[114,111,117,110,100,115]⟩ : ByteArray),.string (⟨#[100,101,112,116,104]⟩ : ByteArray),.string (⟨#[98,105,110,115]⟩ : ByteArray),.string (⟨#[108,97,109,98,100,97]⟩ : ByteArray),.string (⟨#[114,111,119,115]⟩ : ByteArray),.string (⟨#[114,97,116,101]⟩ : ByteArray),.string (⟨#[115,105,103,110,115]⟩ : ByteArray)]) (ok := fun _ => True) (okp := fun _ => True) ?hr ?hp (fun _ hk => hk) trivial (Below.refl _ _) (Nat.le_refl _) Z286 ?_;(case hd => rfl);(case hg => rfl);(case hr => exact Z166);(case hp => exact Z31);intro vq2 wq3 hoq4 hb hg_ hnew_;clear hg_ hnew_;(first | rw [← Ny406.out] at hoq4 | (simp only [Int.reduceToNat] at hoq4;rw [← Ny406.out] at hoq4));have n_ := Z12;clear HO_5 HO_20 HO_399007 BK383 BK384 BK398 HB;obtain ⟨HO_5,HO_20,HO_399007,HO408,BK383,BK384,BK398,HB⟩ := n_;clear hb hoq4;obtain ⟨Aoq5,coq5,eoq5⟩ := Kd.R_slice HO408.out;subst eoq5) | ((with_reducible refine gate_callee (f := 30) rfl ?_);refine goesL_ (some 44) rfl rfl Tryz.func30 Z190 rfl #[.slice Aoq5 y406.length coq5,.string t403] rfl Z130 ?_;(with_reducible refine (slices_Contains_string_string.calls k1 _ _ y406 t403 true _ ?side1 ?side2 A28.out).mono ?_);(case side1 => exact Z109);(case side2 => exact Z174);rintro e w' ⟨rfl,⟨nd,rfl⟩⟩;refine ⟨_,rfl,?_⟩;(iterate 4 (try (rw [drewN_self wq3];generalize hq_ : World.drewN wq3 _ = wq3;have n0_ : Aside0 (Kd.R Kd.string 9 wq3 w.heap.size (fun k_ => some k_ ≠ (.slice (some ad402) t399.length co21 : Value).ownBlock ∧ some k_ ≠ (u5 : Value).ownBlock) (.slice Aoq5 y406.length coq5) y406) := ⟨Z115⟩;have n1_ : Aside0 (Kd.R Kd.string 9 wq3 w.heap.size (fun k_ => some k_ ≠ (.slice Aoq5 y406.length coq5 : Value).ownBlock ∧ some k_ ≠ (u5 : Value).ownBlock) (.slice (some ad402) t399.length co21) t399) := ⟨Z118⟩;have n2_ : Aside0 (Kd.R (Kd.int .i64) 3 wq3 w.heap.size (fun _ => True) u399007 x399007_1) := ⟨Z131⟩;have n3_ : Aside0 (Kd.R Kd.string 9 wq3 w.heap.size (fun k_ => some k_ ≠ (.slice Aoq5 y406.length coq5 : Value).ownBlock ∧ some k_ ≠ (.slice (some ad402) t399.length co21 : Value).ownBlock) u5 x5_1) := ⟨Z119⟩;have n4_ : Aside0 (wq3.heap[gb383]? = some (.cells #[.int .i64 x384000_1,.int .i64 x384001_1,.int .i64 x384002_1,.int .i64 x384003_1,.int .i64 x384004_1,.int .i64 x384005_1,.int .i64 x384006_1,.slice none 0 0] 26 (0,0))) := ⟨Z161⟩;have n5_ : Aside0 (wq3.heap[gb384]? = some (.cells #[.int .i64 x385000_1,.int .i64 x385001_1,.int .i64 x385002_1] 31 (0,0))) := ⟨Z160⟩;have n6_ : Aside0 (wq3.heap[gb398]? = some (.cells #[.int .i64 x399000_1,.int .i64 x399001_1,.int .i64 x399002_1,.int .i64 x399003_1,.int .i64 x399004_1,.int .i64 x399005_1,.int .i64 x399006_1,u399007] 26 (0,0))) := ⟨Z159⟩;have n7_ : Aside0 (Below w.heap.size w wq3) := ⟨Z78⟩;clear HO408 HO_20 HO_399007 HO_5 BK383 BK384 BK398 HB hq_;have HO408 := n0_;have HO_20 := n1_;have HO_399007 := n2_;have HO_5 := n3_;have BK383 := n4_;have BK384 := n5_;have BK398 := n6_;have HB := n7_;clear n0_ n1_ n2_ n3_ n4_ n5_ n6_ n7_)));obtain ⟨Aoq6,coq6,eoq6⟩ := Kd.R_slice HO_5.out;subst eoq6) | ((with_reducible refine gate_callee (f := 30) rfl ?_);refine goesL_ (some 49) rfl rfl Tryz.func30 Z190 rfl #[.slice Aoq6 x5_1.length coq6,.string t403] rfl Z130 ?_;(with_reducible refine (slices_Contains_string_string.calls k1 _ _ x5_1 t403 false _ ?side1 ?side2 A30.out).mono ?_);(case side1 => exact Z114);(case side2 => exact (Kd.R_reads' HO_5.out).2.1);rintro e w' ⟨rfl,⟨nd,rfl⟩⟩;refine ⟨_,rfl,?_⟩;(iterate 4 (try (rw [drewN_self wq3];generalize hq_ : World.drewN wq3 _ = wq3;have n0_ : Aside0 (Kd.R Kd.string 9 wq3 w.heap.size (fun k_ => some k_ ≠ (.slice (some ad402) t399.length co21 : Value).ownBlock ∧ some k_ ≠ (.slice Aoq6 x5_1.length coq6 : Value).ownBlock) (.slice Aoq5 y406.length coq5) y406) := ⟨Z115⟩;have n1_ : Aside0 (Kd.R Kd.string 9 wq3 w.heap.size (fun k_ => some k_ ≠ (.slice Aoq5 y406.length coq5 : Value).ownBlock ∧ some k_ ≠ (.slice Aoq6 x5_1.length coq6 : Value).ownBlock) (.slice (some ad402) t399.length co21) t399) := ⟨Z118⟩;have n2_ : Aside0 (Kd.R (Kd.int .i64) 3 wq3 w.heap.size (fun _ => True) u399007 x399007_1) := ⟨Z131⟩;have n3_ : Aside0 (Kd.R Kd.string 9 wq3 w.heap.size (fun k_ => some k_ ≠ (.slice Aoq5 y406.length coq5 : Value).ownBlock ∧ some k_ ≠ (.slice (some ad402) t399.length co21 : Value).ownBlock) (.slice Aoq6 x5_1.length coq6) x5_1) := ⟨Z119⟩;have n4_ : Aside0 (wq3.heap[gb383]? = some (.cells #[.int .i64 x384000_1,.int .i64 x384001_1,.int .i64 x384002_1,.int .i64 x384003_1,.int .i64 x384004_1,.int .i64 x384005_1,.int .i64 x384006_1,.slice none 0 0] 26 (0,0))) := ⟨Z161⟩;have n5_ : Aside0 (wq3.heap[gb384]? = some (.cells #[.int .i64 x385000_1,.int .i64 x385001_1,.int .i64 x385002_1] 31 (0,0))) := ⟨Z160⟩;have n6_ : Aside0 (wq3.heap[gb398]? = some (.cells #[.int .i64 x399000_1,.int .i64 x399001_1,.int .i64 x399002_1,.int .i64 x399003_1,.int .i64 x399004_1,.int .i64 x399005_1,.int .i64 x399006_1,u399007] 26 (0,0))) := ⟨Z159⟩;have n7_ : Aside0 (Below w.heap.size w wq3) := ⟨Z78⟩;clear HO408 HO_20 HO_399007 HO_5 BK383 BK384 BK398 HB hq_;have HO408 := n0_;have HO_20 := n1_;have HO_399007 := n2_;have HO_5 := n3_;have BK383 := n4_;have BK384 := n5_;have BK398 := n6_;have HB := n7_;clear n0_ n1_ n2_ n3_ n4_ n5_ n6_ n7_)))) | ((with_reducible refine gate_callee (f := 31) rfl ?_);refine goesL_ (some 37) rfl rfl Tryz.func31 Z190 rfl #[.pointer (some ⟨gb398,0,none⟩),.string t403,.string t404] rfl Z130 ?_;(with_reducible refine (impl_Config_set.calls k1 gb398 x399000_1 x399001_1 x399002_1 x399003_1 x399004_1 x399005_1 x399006_1 x399007_1 u399007 t403 t404 t414 t415 t416 t417 t418 t419 t420 t421 t422 w _ ?side1 ?side2 ?side3 ?side4 ?side5 A50.out).mono ?_);(case side1 => exact GE398.out);(case side2 => exact Z279);(case side3 => exact Z133);(case side4 => exact Z215);(case side5 => exact HG.out);rintro e wq7 ⟨vq8,rfl,hi,hy,hb,hk⟩;refine ⟨_,rfl,?_⟩;have n_ := Z28;clear HO_5 HO_20 BK383 BK384 HO408 HB BK398 HO_399007;obtain ⟨HO_5,HO_20,BK383,BK384,HO408,HB,BK398,HO424⟩ := n_;(try clear hb);(try clear hk);(try clear hi);(try clear hy);have hnbq9 := NB383_384.out;have hncq9 := NB384_383.out;have hnbq10 := NB383_398.out;have hncq10 := NB398_383.out;obtain ⟨hczq11_0,hczq11_1,hczq11_2,hczq11_3,hczq11_4,hczq11_5,hczq11_6,hczq11_7,hfzq11_0,hfzq11_1,hfzq11_2,hfzq11_3,hfzq11_4,hfzq11_5,hfzq11_6,hfzq11_7⟩ := cells8 BK383.out;have hnbq12 := NB384_398.out;have hncq12 := NB398_384.out;obtain ⟨hczq13_0,hczq13_1,hczq13_2,hfzq13_0,hfzq13_1,hfzq13_2⟩ := cells3 BK384.out))
   refine bodyPost_ret (results_cc rfl _ _ gb383 gb384 26 31 #[.int .i64 0,.int .i64 0,.int .i64 0,.int .i64 0,.int .i64 0,.int .i64 0,.int .i64 0,.slice none 0 0] #[.int .i64 t414,.int .i64 x22_1,.int .i64 0] (0,0) (0,0) _ _ rfl Z17 Tryz.underlying26 rfl Z190 rfl (by refine bP ?_;refine blk_put (cs := #[.int .i64 t414,.int .i64 x22_1,.int .i64 x385002_1]) ?_ 2 _ rfl;refine bP ?_;refine blk_put (cs := #[.int .i64 t414,.int .i64 x385001_1,.int .i64 x385002_1]) ?_ 1 _ rfl;refine bP ?_;refine blk_put (cs := #[.int .i64 x385000_1,.int .i64 x385001_1,.int .i64 x385002_1]) ?_ 0 _ rfl;refine bP ?_;refine blk_far ?_ NB384_383.out _;refine bP ?_;refine blk_far ?_ NB384_383.out _;refine bP ?_;refine blk_far ?_ NB384_383.out _;refine bP ?_;refine blk_far ?_ NB384_383.out _;refine bP ?_;refine blk_far ?_ NB384_383.out _;refine bP ?_;refine blk_far ?_ NB384_383.out _;refine bP ?_;refine blk_far ?_ NB384_383.out _;refine bP ?_;refine blk_far ?_ NB384_383.out _;refine bP ?_;exact BK384.out) Tryz.underlying31 rfl Z190) rfl ?_
   exact ⟨_,Z152,Z129,Z215⟩

/-! ### spec_l1Pick: function 55 -/
def spec_l1Pick.f (s0_0 : List Int) (s0_1 : Int) (s0_2 : Int) (l1 : List ByteArray) : Option (ByteArray × Int × Int) := (spec_l1Below.f s0_0 s0_1 s0_2 (l1.length : Int)).bind fun bt434 => (if 0 ≤ bt434.1 then (if bt434.1 < (l1.length : Int) then (some (rdOf ByteArray.empty l1 bt434.1,bt434.2.1,bt434.2.2)) else (none)) else (none))
set_option maxHeartbeats 8000000 in
set_option maxRecDepth 100000 in
theorem spec_l1Pick.calls (g : Nat) (s0_0 : List Int) (s0_1 : Int) (s0_2 : Int) (A1 : Option Addr) (c1 : Nat) (l1 : List ByteArray) (r1 : ByteArray) (r2 : Int) (r3 : Int) (w0 w : World) (hI : IsS65 w0 w g s0_0 s0_1 s0_2) (hB : Below w0.heap.size w0 w) (hr1 : Kd.C Kd.string w A1 l1.length l1) (hc1 : l1.length ≤ c1) (hf1 : ∀ ad,A1 = some ad → 0 < l1.length → ad.block ≠ g) (h : spec_l1Pick.f s0_0 s0_1 s0_2 l1 = some (r1,r2,r3)) :
  Calls Tryz.prog 55 #[.pointer (some ⟨g,0,none⟩),.slice A1 l1.length c1] w fun e w' => e = .returned (.string r1) ∧ IsS65 w0 w' g s0_0 r2 r3 ∧ Below w0.heap.size w0 w' ∧ KeepBut w w' g none := by
 have HR1 := Aside0.mk hr1
 have HC1 := Aside0.mk hc1
 clear hr1 hc1
 have HI0 := Aside0.mk hI
 have HK := Aside0.mk (KeepBut.refl w g none)
 have HL := Aside0.mk hB.size
 clear hI
 have HW0 := Aside0.mk hB.size
 have HB := Aside0.mk hB
 clear hB
 have H := h
 clear h
 unfold spec_l1Pick.f at H
 obtain ⟨⟨t434,t435,t436⟩,A30,H⟩ := Option.bind_eq_some_iff.mp H
 try dsimp only at H
 have A3 := Aside0.mk A30
 clear A30
 obtain ⟨c4,H⟩ := ifp H
 have c4b0 : decide (0 ≤ t434) = true := decide_eq_true c4
 clear c4
 obtain ⟨c5,H⟩ := ifp H
 have c5b0 : decide (t434 < (l1.length : Int)) = true := decide_eq_true c5
 clear c5
 simp only [Option.some.injEq,Prod.mk.injEq] at H
 obtain ⟨rfl,rfl,rfl⟩ := H
 go_enter Tryz.func55,Tryz.ntmps55
 go_wp2_with (first | ((with_reducible refine gate_callee (f := 44) rfl ?_);refine goesL_ (some 9) rfl rfl Tryz.func44 Z190 rfl #[.pointer (some ⟨g,0,none⟩),.int .i64 (l1.length : Int)] rfl Z130 ?_;(with_reducible refine (spec_l1Below.calls g s0_0 s0_1 s0_2 (l1.length : Int) t434 t435 t436 w0 _ ?side1 ?side2 A3.out).mono ?_);(case side1 => exact Z238);(case side2 => exact Z237);rintro e wq1 ⟨rfl,hi,hb,hk⟩;refine ⟨_,rfl,?_⟩;have n_ := Z90;clear HK HB HI0;obtain ⟨HK,HB,HI0⟩ := n_;(try clear hb);(try clear hb2);(try clear hk);(try clear hi);have pq2 : 0 ≤ (t434 : Int) := of_decide_eq_true Z164;have qq2 : t434 < (l1.length : Int) := of_decide_eq_true Z164;obtain ⟨adq2,eq2,hxq2_0⟩ := Kd.at_string HR1.out t434 pq2 qq2;cases eq2;replace hxq2_0 := keep_cell HK.out hxq2_0 Z136;replace pq2 := eq_true pq2;replace qq2 := eq_true qq2))
 go_ret
 exact ⟨Z152,Z238,Z237,Z297⟩

/-! ### spec_l7Turned: function 32 -/
def spec_l7Turned.f (s0_0 : List Int) (s0_1 : Int) (s0_2 : Int) (a1 : ByteArray) : Option (ByteArray × Int × Int) := (spec_l1Below.f s0_0 s0_1 s0_2 (wrap64 ((a1.size : Int) + 1))).bind fun bt438 => ((spec_l1Below.f s0_0 bt438.2.1 bt438.2.2 6).bind fun bt441 => (if bt441.1 = 0 then (if 0 ≤ bt438.1 then (if bt438.1 ≤ (a1.size : Int) then ((spec_l1Pick.f s0_0 bt441.2.1 bt441.2.2 (([(⟨#[34]⟩ : ByteArray),(⟨#[44]⟩ : ByteArray),(⟨#[10]⟩ : ByteArray),(⟨#[13]⟩ : ByteArray),(⟨#[13,10]⟩ : ByteArray),(⟨#[120]⟩ : ByteArray),(⟨#[34,34]⟩ : ByteArray),(⟨#[48]⟩ : ByteArray),(⟨#[46]⟩ : ByteArray)] : List ByteArray))).bind fun bt447 => (if (a1.extract 0 (bt438.1 : Int).toNat).size + bt447.1.size ≤ 9223372036854775807 then (if ((a1.extract 0 (bt438.1 : Int).toNat) ++ bt447.1).size + (a1.extract (bt438.1 : Int).toNat a1.size).size ≤ 9223372036854775807 then (some (((a1.extract 0 (bt438.1 : Int).toNat) ++ bt447.1) ++ (a1.extract (bt438.1 : Int).toNat a1.size),bt447.2.1,bt447.2.2)) else (none)) else (none))) else (none)) else (none)) else (if bt441.1 = 1 then (if 0 ≤ bt438.1 then (if bt438.1 ≤ (a1.size : Int) then (some (a1.extract 0 (bt438.1 : Int).toNat,bt441.2.1,bt441.2.2)) else (none)) else (none)) else (some (a1,bt441.2.1,bt441.2.2)))))
def spec_l7Turned.T4 : Bool × List (List Nat × List Nat) := (true,[([],[]),([],[]),([0,1],[0,1]),([],[]),([],[]),([3,4],[3,4]),([2,5],[2,5]),([],[]),([],[]),([7,8],[7,8]),([6,9],[6,9]),([10,5,0,1,2,3,4,5,6,7,8,9,10],[10])])
def spec_l7Turned.B4 : List Nat := [0,0,3,0,0,24,63,0,0,384,1023,2047]
theorem spec_l7Turned.tab4 : rtab .any (opsOf Tryz.f32 4) = spec_l7Turned.T4 := by kernel_rfl
theorem spec_l7Turned.bits4 : waitsOk spec_l7Turned.T4.2 spec_l7Turned.B4 = true := by kernel_rfl
set_option maxHeartbeats 8000000 in
set_option maxRecDepth 100000 in
theorem spec_l7Turned.calls (g : Nat) (s0_0 : List Int) (s0_1 : Int) (s0_2 : Int) (a1 : ByteArray) (r1 : ByteArray) (r2 : Int) (r3 : Int) (w0 w : World) (hI : IsS65 w0 w g s0_0 s0_1 s0_2) (hB : Below w0.heap.size w0 w) (h : spec_l7Turned.f s0_0 s0_1 s0_2 a1 = some (r1,r2,r3)) :
  Calls Tryz.prog 32 #[.pointer (some ⟨g,0,none⟩),.string a1] w fun e w' => e = .returned (.string r1) ∧ IsS65 w0 w' g s0_0 r2 r3 ∧ Below w0.heap.size w0 w' ∧ KeepBut w w' g none := by
 have HI0 := Aside0.mk hI
 have HK := Aside0.mk (KeepBut.refl w g none)
 have HL := Aside0.mk hB.size
 clear hI
 have HW0 := Aside0.mk hB.size
 have HB := Aside0.mk hB
 clear hB
 have H := h
 clear h
 unfold spec_l7Turned.f at H
 obtain ⟨⟨t438,t439,t440⟩,A30,H⟩ := Option.bind_eq_some_iff.mp H
 try dsimp only at H
 have A3 := Aside0.mk A30
 clear A30
 obtain ⟨⟨t441,t442,t443⟩,A40,H⟩ := Option.bind_eq_some_iff.mp H
 try dsimp only at H
 have A4 := Aside0.mk A40
 clear A40
 by_cases c5 : t441 = 0
 rotate_left
 ·rw [if_neg c5] at H
  have c5b0 : (t441 == 0) = false := beq_eq_false_iff_ne.mpr c5
  have c5b1 : (t441 != 0) = true := bne_iff_ne.mpr c5
  by_cases c20 : t441 = 1
  rotate_left
  ·rw [if_neg c20] at H
   have c20b0 : (t441 == 1) = false := beq_eq_false_iff_ne.mpr c20
   have c20b1 : (t441 != 1) = true := bne_iff_ne.mpr c20
   simp only [Option.some.injEq,Prod.mk.injEq] at H
   obtain ⟨rfl,rfl,rfl⟩ := H
   go_enter Tryz.func32,Tryz.ntmps32
   go_wp2_with (first | ((with_reducible refine gate_callee (f := 44) rfl ?_);refine goesL_ (some 10) rfl rfl Tryz.func44 Z190 rfl #[.pointer (some ⟨g,0,none⟩),.int .i64 (wrap64 ((a1.size : Int) + 1))] rfl Z130 ?_;(with_reducible refine (spec_l1Below.calls g s0_0 s0_1 s0_2 (wrap64 ((a1.size : Int) + 1)) t438 t439 t440 w0 _ ?side1 ?side2 A3.out).mono ?_);(case side1 => exact Z238);(case side2 => exact Z237);rintro e wq1 ⟨rfl,hi,hb,hk⟩;refine ⟨_,rfl,?_⟩;have n_ := Z90;clear HK HB HI0;obtain ⟨HK,HB,HI0⟩ := n_;(try clear hb);(try clear hb2);(try clear hk);(try clear hi)) | ((with_reducible refine gate_callee (f := 44) rfl ?_);refine goesL_ (some 12) rfl rfl Tryz.func44 Z190 rfl #[.pointer (some ⟨g,0,none⟩),.int .i64 6] rfl Z130 ?_;(with_reducible refine (spec_l1Below.calls g s0_0 t439 t440 6 t441 t442 t443 w0 _ ?side1 ?side2 A4.out).mono ?_);(case side1 => exact Z238);(case side2 => exact Z237);rintro e wq2 ⟨rfl,hi,hb,hk⟩;refine ⟨_,rfl,?_⟩;have n_ := Z90;clear HK HB HI0;obtain ⟨HK,HB,HI0⟩ := n_;(try clear hb);(try clear hb2);(try clear hk);(try clear hi)))
   go_ret
   exact ⟨Z152,Z238,Z237,Z297⟩
  rw [if_pos c20] at H
  have c20b0 : (t441 == 1) = true := beq_iff_eq.mpr c20
  have c20b1 : (t441 != 1) = false := bne_eq_false_iff_eq.mpr c20
  clear c20
  obtain ⟨c21,H⟩ := ifp H
  have c21b0 := eq_true c21
  have c21b1 : decide (0 ≤ t438) = true := decide_eq_true c21
  clear c21
  obtain ⟨c22,H⟩ := ifp H
  have c22b0 := eq_true c22
  have c22b1 : decide (t438 ≤ (a1.size : Int)) = true := decide_eq_true c22
  clear c22
  simp only [Option.some.injEq,Prod.mk.injEq] at H
  obtain ⟨rfl,rfl,rfl⟩ := H
  go_enter Tryz.func32,Tryz.ntmps32
  go_wp2_with (first | ((with_reducible refine gate_callee (f := 44) rfl ?_);refine goesL_ (some 10) rfl rfl Tryz.func44 Z190 rfl #[.pointer (some ⟨g,0,none⟩),.int .i64 (wrap64 ((a1.size : Int) + 1))] rfl Z130 ?_;(with_reducible refine (spec_l1Below.calls g s0_0 s0_1 s0_2 (wrap64 ((a1.size : Int) + 1)) t438 t439 t440 w0 _ ?side1 ?side2 A3.out).mono ?_);(case side1 => exact Z238);(case side2 => exact Z237);rintro e wq1 ⟨rfl,hi,hb,hk⟩;refine ⟨_,rfl,?_⟩;have n_ := Z90;clear HK HB HI0;obtain ⟨HK,HB,HI0⟩ := n_;(try clear hb);(try clear hb2);(try clear hk);(try clear hi)) | ((with_reducible refine gate_callee (f := 44) rfl ?_);refine goesL_ (some 12) rfl rfl Tryz.func44 Z190 rfl #[.pointer (some ⟨g,0,none⟩),.int .i64 6] rfl Z130 ?_;(with_reducible refine (spec_l1Below.calls g s0_0 t439 t440 6 t441 t442 t443 w0 _ ?side1 ?side2 A4.out).mono ?_);(case side1 => exact Z238);(case side2 => exact Z237);rintro e wq2 ⟨rfl,hi,hb,hk⟩;refine ⟨_,rfl,?_⟩;have n_ := Z90;clear HK HB HI0;obtain ⟨HK,HB,HI0⟩ := n_;(try clear hb);(try clear hb2);(try clear hk);(try clear hi)))
  go_ret
  exact ⟨Z152,Z238,Z237,Z297⟩
 rw [if_pos c5] at H
 have c5b0 : (t441 == 0) = true := beq_iff_eq.mpr c5
 have c5b1 : (t441 != 0) = false := bne_eq_false_iff_eq.mpr c5
 clear c5
 obtain ⟨c6,H⟩ := ifp H
 have c6b0 := eq_true c6
 have c6b1 : decide (0 ≤ t438) = true := decide_eq_true c6
 clear c6
 obtain ⟨c7,H⟩ := ifp H
 have c7b0 := eq_true c7
 have c7b1 : decide (t438 ≤ (a1.size : Int)) = true := decide_eq_true c7
 clear c7
 obtain ⟨y444,hyy⟩ : ∃ y_ : List ByteArray,y_ = (([(⟨#[34]⟩ : ByteArray),(⟨#[44]⟩ : ByteArray),(⟨#[10]⟩ : ByteArray),(⟨#[13]⟩ : ByteArray),(⟨#[13,10]⟩ : ByteArray),(⟨#[120]⟩ : ByteArray),(⟨#[34,34]⟩ : ByteArray),(⟨#[48]⟩ : ByteArray),(⟨#[46]⟩ : ByteArray)] : List ByteArray)) := ⟨_,rfl⟩
 replace H : ((spec_l1Pick.f s0_0 t442 t443 y444).bind fun bt447 => (if (a1.extract 0 (t438 : Int).toNat).size + bt447.1.size ≤ 9223372036854775807 then (if ((a1.extract 0 (t438 : Int).toNat) ++ bt447.1).size + (a1.extract (t438 : Int).toNat a1.size).size ≤ 9223372036854775807 then (some (((a1.extract 0 (t438 : Int).toNat) ++ bt447.1) ++ (a1.extract (t438 : Int).toNat a1.size),bt447.2.1,bt447.2.2)) else (none)) else (none))) = some (r1,r2,r3) := zR
 have Ny444 := Aside0.mk hyy
 clear hyy
 obtain ⟨⟨t447,t448,t449⟩,A80,H⟩ := Option.bind_eq_some_iff.mp H
 try dsimp only at H
 have A8 := Aside0.mk A80
 clear A80
 obtain ⟨c9,H⟩ := ifp H
 have c9b0 := eq_true c9
 have c9b1 : decide ((a1.extract 0 (t438 : Int).toNat).size + t447.size ≤ 9223372036854775807) = true := decide_eq_true c9
 try have c9b2 : (9223372036854775807 < (a1.extract 0 (t438 : Int).toNat).size + t447.size) = False := eq_false (Nat.not_lt.2 c9)
 have c10b0 := eq_true (of_decide_eq_true Z164 : 0 ≤ t438)
 have c11b0 := eq_true (of_decide_eq_true Z164 : t438 ≤ (a1.size : Int))
 obtain ⟨c12,H⟩ := ifp H
 have c12b0 := eq_true c12
 have c12b1 : decide (((a1.extract 0 (t438 : Int).toNat) ++ t447).size + (a1.extract (t438 : Int).toNat a1.size).size ≤ 9223372036854775807) = true := decide_eq_true c12
 try have c12b2 : (9223372036854775807 < ((a1.extract 0 (t438 : Int).toNat) ++ t447).size + (a1.extract (t438 : Int).toNat a1.size).size) = False := eq_false (Nat.not_lt.2 c12)
 try (have c12b3 := c12b2; simp only [ByteArray.size_append] at c12b3)
 try (have c12b4 := c12b3; simp only [show ∀ b_ : UInt8, (⟨#[b_]⟩ : ByteArray).size = 1 from fun _ => rfl] at c12b4)
 simp only [Option.some.injEq,Prod.mk.injEq] at H
 obtain ⟨rfl,rfl,rfl⟩ := H
 go_enter Tryz.func32,Tryz.ntmps32
 try go_wp2_with (first | ((with_reducible refine gate_callee (f := 44) rfl ?_);refine goesL_ (some 10) rfl rfl Tryz.func44 Z190 rfl #[.pointer (some ⟨g,0,none⟩),.int .i64 (wrap64 ((a1.size : Int) + 1))] rfl Z130 ?_;(with_reducible refine (spec_l1Below.calls g s0_0 s0_1 s0_2 (wrap64 ((a1.size : Int) + 1)) t438 t439 t440 w0 _ ?side1 ?side2 A3.out).mono ?_);(case side1 => exact Z238);(case side2 => exact Z237);rintro e w13 ⟨rfl,hi,hb,hk⟩;refine ⟨_,rfl,?_⟩;have n_ := Z90;clear HK HB HI0;obtain ⟨HK,HB,HI0⟩ := n_;(try clear hb);(try clear hb2);(try clear hk);(try clear hi)) | ((with_reducible refine gate_callee (f := 44) rfl ?_);refine goesL_ (some 12) rfl rfl Tryz.func44 Z190 rfl #[.pointer (some ⟨g,0,none⟩),.int .i64 6] rfl Z130 ?_;(with_reducible refine (spec_l1Below.calls g s0_0 t439 t440 6 t441 t442 t443 w0 _ ?side1 ?side2 A4.out).mono ?_);(case side1 => exact Z238);(case side2 => exact Z237);rintro e w14 ⟨rfl,hi,hb,hk⟩;refine ⟨_,rfl,?_⟩;have n_ := Z90;clear HK HB HI0;obtain ⟨HK,HB,HI0⟩ := n_;(try clear hb);(try clear hb2);(try clear hk);(try clear hi)))
 have n_ := jA (IsS65.drew HI0.out) (jA (keep_drew HK.out) (Aside0.mk (below_drew1 HB.out)))
 clear HI0 HK HB
 obtain ⟨HI0,HK,HB⟩ := n_
 refine start_ (n := 12) (S := fun w' => True) (ds := []) (qM 12 0) Z190 rfl (by kernel_rfl) trivial (fun hHeld => ?_);refine with_tabW spec_l7Turned.tab4 spec_l7Turned.bits4 (fun HT_ HW_ => ?_)
 generalize w14.drew = w15 at HI0 HK HB hHeld ⊢
 refine pure_ (i := 0) (N := some 15) (v := ?_) (a' := ?_) (qM 12 1) rfl rfl (any_of HT_.out Z190) (fun _ _ _ h => h) (Or.inl ⟨Z191,?_⟩) ?_ ?_
 rotate_left
 ·intro w'
  go_simp
  first
   | with_reducible rfl
   | (rw [if_neg Z34] <;> with_reducible rfl)
 rotate_left
 ·simp only [Act.put,List.setIfInBounds_toArray,List.set_cons_zero,List.set_cons_succ,i64_w,i32_w]
  rfl
 refine pure_ (i := 1) (N := some 16) (v := ?_) (a' := ?_) (qM 12 3) rfl rfl (any_of HT_.out Z190) (fun _ _ _ h => h) (Or.inl ⟨Z191,?_⟩) ?_ ?_
 rotate_left
 ·intro w'
  go_simp
  first
   | with_reducible rfl
   | (rw [if_neg Z34] <;> with_reducible rfl)
 rotate_left
 ·simp only [Act.put,List.setIfInBounds_toArray,List.set_cons_zero,List.set_cons_succ,i64_w,i32_w]
  rfl
 refine pure_ (i := 2) (N := some 17) (v := ?_) (a' := ?_) (qM 12 7) rfl rfl (any_of HT_.out Z190) (fun _ _ _ h => h) (Or.inl ⟨Z191,?_⟩) ?_ ?_
 rotate_left
 ·intro w'
  go_simp
  first
   | with_reducible rfl
   | (rw [if_neg Z34] <;> with_reducible rfl)
 rotate_left
 ·simp only [Act.put,List.setIfInBounds_toArray,List.set_cons_zero,List.set_cons_succ,i64_w,i32_w]
  rfl
 refine pure_ (i := 3) (N := some 18) (v := ?_) (a' := ?_) (qM 12 15) rfl rfl (any_of HT_.out Z190) (fun _ _ _ h => h) (Or.inl ⟨Z191,?_⟩) ?_ ?_
 rotate_left
 ·intro w'
  go_simp
  first
   | with_reducible rfl
   | (rw [if_neg Z34] <;> with_reducible rfl)
 rotate_left
 ·simp only [Act.put,List.setIfInBounds_toArray,List.set_cons_zero,List.set_cons_succ,i64_w,i32_w]
  rfl
 refine pure_ (i := 7) (N := some 22) (v := ?_) (a' := ?_) (qM 12 143) rfl rfl (any_of HT_.out Z190) (fun _ _ _ h => h) (Or.inl ⟨Z191,?_⟩) ?_ ?_
 rotate_left
 ·intro w'
  go_simp
  first
   | with_reducible rfl
   | (rw [if_neg Z34] <;> with_reducible rfl)
 rotate_left
 ·simp only [Act.put,List.setIfInBounds_toArray,List.set_cons_zero,List.set_cons_succ,i64_w,i32_w]
  rfl
 refine pure_ (i := 8) (N := some 23) (v := ?_) (a' := ?_) (qM 12 399) rfl rfl (any_of HT_.out Z190) (fun _ _ _ h => h) (Or.inl ⟨Z191,?_⟩) ?_ ?_
 rotate_left
 ·intro w'
  go_simp
  first
   | with_reducible rfl
   | (rw [if_neg Z34] <;> with_reducible rfl)
 rotate_left
 ·simp only [Act.put,List.setIfInBounds_toArray,List.set_cons_zero,List.set_cons_succ,i64_w,i32_w]
  rfl
 refine pure_ (i := 9) (N := some 24) (v := ?_) (a' := ?_) (qM 12 911) rfl rfl (any_of HT_.out Z190) (fun _ _ _ h => h) (Or.inl ⟨Z191,?_⟩) ?_ ?_
 rotate_left
 ·intro w'
  go_simp
  first
   | with_reducible rfl
   | (rw [if_neg Z34] <;> with_reducible rfl)
 rotate_left
 ·simp only [Act.put,List.setIfInBounds_toArray,List.set_cons_zero,List.set_cons_succ,i64_w,i32_w]
  rfl
 refine rO 4 19 12 927 HT_ (h := fun K hK => ?_)
 refine Kd.R_lit_step Kd.string _ 9 ?hg (N := 19) ?hd (xs := ([(⟨#[34]⟩ : ByteArray),(⟨#[44]⟩ : ByteArray),(⟨#[10]⟩ : ByteArray),(⟨#[13]⟩ : ByteArray),(⟨#[13,10]⟩ : ByteArray),(⟨#[120]⟩ : ByteArray),(⟨#[34,34]⟩ : ByteArray),(⟨#[48]⟩ : ByteArray),(⟨#[46]⟩ : ByteArray)] : List ByteArray)) (inner := [.string (⟨#[34]⟩ : ByteArray),.string (⟨#[44]⟩ : ByteArray),.string (⟨#[10]⟩ : ByteArray),.string (⟨#[13]⟩ : ByteArray),.string (⟨#[13,10]⟩ : ByteArray),.string (⟨#[120]⟩ : ByteArray),.string (⟨#[34,34]⟩ : ByteArray),.string (⟨#[48]⟩ : ByteArray),.string (⟨#[46]⟩ : ByteArray)]) (ok := fun _ => True) (okp := fun _ => True) ?hr ?hp (fun _ hk => hk) trivial (Below.refl _ _) (Nat.le_refl _) Z286 ?_;(case hd => rfl);(case hg => rfl);(case hr => exact Z166);(case hp => exact (Reps.one (show Kd.M Kd.string _ _ _ (⟨#[34]⟩ : ByteArray) [.string (⟨#[34]⟩ : ByteArray)] from rfl) (Reps.one (show Kd.M Kd.string _ _ _ (⟨#[44]⟩ : ByteArray) [.string (⟨#[44]⟩ : ByteArray)] from rfl) (Reps.one (show Kd.M Kd.string _ _ _ (⟨#[10]⟩ : ByteArray) [.string (⟨#[10]⟩ : ByteArray)] from rfl) (Reps.one (show Kd.M Kd.string _ _ _ (⟨#[13]⟩ : ByteArray) [.string (⟨#[13]⟩ : ByteArray)] from rfl) (Reps.one (show Kd.M Kd.string _ _ _ (⟨#[13,10]⟩ : ByteArray) [.string (⟨#[13,10]⟩ : ByteArray)] from rfl) (Reps.one (show Kd.M Kd.string _ _ _ (⟨#[120]⟩ : ByteArray) [.string (⟨#[120]⟩ : ByteArray)] from rfl) (Reps.one (show Kd.M Kd.string _ _ _ (⟨#[34,34]⟩ : ByteArray) [.string (⟨#[34,34]⟩ : ByteArray)] from rfl) (Reps.one (show Kd.M Kd.string _ _ _ (⟨#[48]⟩ : ByteArray) [.string (⟨#[48]⟩ : ByteArray)] from rfl) (Reps.one (show Kd.M Kd.string _ _ _ (⟨#[46]⟩ : ByteArray) [.string (⟨#[46]⟩ : ByteArray)] from rfl) (Reps.none _ _)))))))))))
 intro v445 w16 ho17 hb hg_ hnew_
 clear hg_ hnew_
 (first | rw [← Ny444.out] at ho17 | (simp only [Int.reduceToNat] at ho17;rw [← Ny444.out] at ho17))
 have n_ := jA (Kd.R_lower ho17 (keep_size (w := w) (g := g) (row := none) Z297)) (jA (IsS65.below Z238 hb) (jA (KeepBut.trans Z297 (KeepBut.of_below hb g none) (.inl rfl)) (Aside0.mk (below_step Z237 hb))))
 clear HI0 HK HB
 obtain ⟨HO446,HI0,HK,HB⟩ := n_
 clear hb ho17
 obtain ⟨Ao18,co18,eo18⟩ := Kd.R_slice HO446.out
 (first | subst eo18 | (injection eo18 with f1_ f2_ f3_;have f4_ := f1_.symm;have f5_ := f3_.symm;clear f1_ f2_ f3_;subst f4_;subst f5_))
 refine hK.out _ _ trivial (fun hHeld => ?_)
 clear hK K
 refine rN (h := ?_)
 refine rO 5 20 12 959 HT_ (h := fun K hK => ?_)
 refine goes_ Tryz.func55 Z190 rfl #[.pointer (some ⟨g,0,none⟩),.slice Ao18 y444.length co18] Z191 rfl rfl Z130 ?_
 with_reducible refine (spec_l1Pick.calls g s0_0 t442 t443 _ _ y444 t447 t448 t449 w0 _ ?side1 ?side2 ?side3 ?side4 ?side5 A8.out).mono ?_
 (case side1 => exact Z238)
 (case side2 => exact Z237)
 (case side3 => repeat (first | exact (Kd.R_reads' HO446.out).2.2 | (with_reducible refine Kd.C_alloc ?_ _) | (with_reducible refine Kd.C_drewN ?_ _) | (with_reducible refine Kd.C_drew ?_)))
 (case side4 => exact (Kd.R_reads' HO446.out).2.1)
 (case side5 => exact far_slice (IsS65.own_ne HI0.out HO446.out Z306))
 rintro e w19 ⟨rfl,hi,hb,hk⟩
 refine ⟨_,rfl,?_⟩
 have n_ := jA (Kd.R_mono (Kd.R_keep (IsS65.apart (show IsS65 w0 _ g s0_0 t442 t443 from Z238) (by (with_reducible repeat (first | apply Kd.R_alloc | apply Kd.R_drewN | apply Kd.R_drew));exact HO446.out) Z306) hk (fun _ h => h.2)) (fun _ h => h.1)) (jA (KeepBut.trans Z297 hk (.inl rfl)) (jA (hb) (Aside0.mk (hi))))
 clear HO446 HK HB HI0
 obtain ⟨HO446,HK,HB,HI0⟩ := n_
 (try clear hb)
 (try clear hb2)
 (try clear hk)
 (try clear hi)
 refine hK.out _ _ trivial (fun hHeld => ?_)
 clear hK K
 refine rN (h := ?_)
 refine pure_ (i := 6) (N := some 21) (v := ?_) (a' := ?_) (qM 12 1023) rfl rfl (any_of HT_.out Z190) (fun _ _ _ h => h) (Or.inl ⟨Z191,?_⟩) ?_ ?_
 rotate_left
 ·intro w'
  go_simp
  first
   | with_reducible rfl
   | (rw [if_neg Z34] <;> with_reducible rfl)
 rotate_left
 ·simp only [Act.put,List.setIfInBounds_toArray,List.set_cons_zero,List.set_cons_succ,i64_w,i32_w]
  rfl
 refine pure_ (i := 10) (N := some 25) (v := ?_) (a' := ?_) (qM 12 2047) rfl rfl (any_of HT_.out Z190) (fun _ _ _ h => h) (Or.inl ⟨Z191,?_⟩) ?_ ?_
 rotate_left
 ·intro w'
  go_simp
  first
   | with_reducible rfl
   | (rw [if_neg Z34] <;> with_reducible rfl)
 rotate_left
 ·simp only [Act.put,List.setIfInBounds_toArray,List.set_cons_zero,List.set_cons_succ,i64_w,i32_w]
  rfl
 refine pure_ (i := 11) (N := some 4) (v := ?_) (a' := ?_) (qM 12 4095) rfl rfl (any_of HT_.out Z190) (fun _ _ _ h => h) (Or.inl ⟨Z191,?_⟩) ?_ ?_
 rotate_left
 ·intro w'
  go_simp
  first
   | with_reducible rfl
   | (rw [if_neg Z34] <;> with_reducible rfl)
 rotate_left
 ·simp only [Act.put,List.setIfInBounds_toArray,List.set_cons_zero,List.set_cons_succ,i64_w,i32_w]
  rfl
 refine done_ (done_of HT_.out Z190) ?_
 try go_wp2
 go_ret
 exact ⟨Z152,Z238,Z237,Z297⟩

end Go.Proofs.YtepnbcdbagjmbaeGreatDoor.QFnConfig
