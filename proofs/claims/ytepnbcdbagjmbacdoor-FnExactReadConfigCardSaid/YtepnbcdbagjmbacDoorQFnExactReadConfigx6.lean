/- The machine side of FnExactReadConfig: what each Go function that it reaches comes to. Conditions: none. -/
import Derived.Test.YtepnbcdbagjmbacDoorQFnExactReadConfigx0
import Derived.Test.YtepnbcdbagjmbacDoorQFnExactReadConfigx5
namespace Go.Proofs.YtepnbcdbagjmbacDoor.QFnExactReadConfig
open Go.RowKit Go.Proofs.YtepnbcdbagjmbacDoorW.PrintWords Go.Proofs.YtepnbcdbagjmbacDoorW.PrintLast Go.Proofs.YtepnbcdbagjmbacDoorW.PrintMore
attribute [local go_sem] max2_int min2_int max_two min_two max_three min_three max_four min_four   -- for this text's walks alone
set_option linter.unusedVariables false
set_option linter.unusedSimpArgs false

/-! ### impl_ReadConfig: function 5 -/
def impl_ReadConfig.l0 : Nat → List ByteArray → List ByteArray → Int → Int → Int → Int → Int → Int → Int → Int → Int → List Int → Option (Int × Int × Int × Int × Int × Int × Int × List Int × Int × Int × Int)
 | 0,_,_,_,_,_,_,_,_,_,_,_,_ => none
 | k + 1,x5,x20,x21,x22,x265000,x265001,x265002,x265003,x265004,x265005,x265006,x265007 => if x22 < x21 then (if 0 ≤ x22 then (if x22 < (x20.length : Int) then (if (rdOf ByteArray.empty x20 x22).toList = ([] : List UInt8) then (impl_ReadConfig.l0 k x5 x20 x21 (wrap64 (x22 + 1)) x265000 x265001 x265002 x265003 x265004 x265005 x265006 x265007) else ((strings_Cut.f (rdOf ByteArray.empty x20 x22) (⟨#[61]⟩ : ByteArray)).bind fun bt269 => (if bt269.2.2 = true then ((slices_Contains_string_string.f k (([(⟨#[114,111,117,110,100,115]⟩ : ByteArray),(⟨#[100,101,112,116,104]⟩ : ByteArray),(⟨#[98,105,110,115]⟩ : ByteArray),(⟨#[108,97,109,98,100,97]⟩ : ByteArray),(⟨#[114,111,119,115]⟩ : ByteArray),(⟨#[114,97,116,101]⟩ : ByteArray),(⟨#[115,105,103,110,115]⟩ : ByteArray)] : List ByteArray)) bt269.1).bind fun t275 => (if t275 = true then ((slices_Contains_string_string.f k x5 bt269.1).bind fun t276 => (if t276 = true then (if 6 = 0 then (if x5.length < 8796093022208 then (impl_ReadConfig.l0 k (x5 ++ [bt269.1]) x20 x21 (wrap64 (x22 + 1)) x265000 x265001 x265002 x265003 x265004 x265005 x265006 x265007) else (none)) else (some (0,0,0,0,0,0,0,([] : List Int),6,x22,0))) else ((impl_Config_set.f k x265000 x265001 x265002 x265003 x265004 x265005 x265006 x265007 bt269.1 bt269.2.1).bind fun bt280 => (if bt280.1 = 0 then (if x5.length < 8796093022208 then (impl_ReadConfig.l0 k (x5 ++ [bt269.1]) x20 x21 (wrap64 (x22 + 1)) bt280.2.1 bt280.2.2.1 bt280.2.2.2.1 bt280.2.2.2.2.1 bt280.2.2.2.2.2.1 bt280.2.2.2.2.2.2.1 bt280.2.2.2.2.2.2.2.1 bt280.2.2.2.2.2.2.2.2) else (none)) else (some (0,0,0,0,0,0,0,([] : List Int),bt280.1,x22,0)))))) else (if 11 = 0 then (if x5.length < 8796093022208 then (impl_ReadConfig.l0 k (x5 ++ [bt269.1]) x20 x21 (wrap64 (x22 + 1)) x265000 x265001 x265002 x265003 x265004 x265005 x265006 x265007) else (none)) else (some (0,0,0,0,0,0,0,([] : List Int),11,x22,0))))) else (if 10 = 0 then (if x5.length < 8796093022208 then (impl_ReadConfig.l0 k (x5 ++ [bt269.1]) x20 x21 (wrap64 (x22 + 1)) x265000 x265001 x265002 x265003 x265004 x265005 x265006 x265007) else (none)) else (some (0,0,0,0,0,0,0,([] : List Int),10,x22,0)))))) else (none)) else (none)) else (some (x265000,x265001,x265002,x265003,x265004,x265005,x265006,x265007,0,0,0))
def impl_ReadConfig.f (k : Nat) (a0 : ByteArray) : Option (Int × Int × Int × Int × Int × Int × Int × List Int × Int × Int × Int) := if (a0.size : Int) > 4000 then (some (0,0,0,0,0,0,0,([] : List Int),1,0,0)) else ((impl_UsualConfig.f).bind fun bt251 => ((impl_Parts.f a0 10).bind fun t265 => (impl_ReadConfig.l0 k (([] : List ByteArray)) t265 (t265.length : Int) 0 bt251.1 bt251.2.1 bt251.2.2.1 bt251.2.2.2.1 bt251.2.2.2.2.1 bt251.2.2.2.2.2.1 bt251.2.2.2.2.2.2.1 bt251.2.2.2.2.2.2.2)))
theorem impl_ReadConfig.mono_l : ∀ k,(∀ y0 y1 y2 y3 y4 y5 y6 y7 y8 y9 y10 y11,LeO (impl_ReadConfig.l0 k y0 y1 y2 y3 y4 y5 y6 y7 y8 y9 y10 y11) (impl_ReadConfig.l0 (k + 1) y0 y1 y2 y3 y4 y5 y6 y7 y8 y9 y10 y11))
 | 0 => fun _ _ _ _ _ _ _ _ _ _ _ _ r h => by simp [impl_ReadConfig.l0] at h
 | k + 1 => by
  have ih0 := impl_ReadConfig.mono_l k
  ·intro y0 y1 y2 y3 y4 y5 y6 y7 y8 y9 y10 y11
   unfold impl_ReadConfig.l0
   repeat' first
   | (with_reducible exact ih0 _ _ _ _ _ _ _ _ _ _ _ _)
   | (with_reducible exact impl_Config_set.mono _ _ _ _ _ _ _ _ _ _ _)
   | (with_reducible exact slices_Contains_string_string.mono _ _ _)
   | (with_reducible exact LeO.refl _)
   | (with_reducible exact LeO.none _)
   | (with_reducible refine LeO.ite ?_ ?_)
   | (with_reducible refine LeO.bind ?_ (fun _ => ?_))
   | exact ih0 _ _ _ _ _ _ _ _ _ _ _ _
   | exact impl_Config_set.mono _ _ _ _ _ _ _ _ _ _ _
   | exact slices_Contains_string_string.mono _ _ _
   | exact LeO.none _
   | refine LeO.ite ?_ ?_
   | refine LeO.bind ?_ (fun _ => ?_)
theorem impl_ReadConfig.mono : ∀ a0 k,LeO (impl_ReadConfig.f k a0) (impl_ReadConfig.f (k + 1) a0) := by
 intro a0 k
 have ih0 := impl_ReadConfig.mono_l k
 unfold impl_ReadConfig.f
 repeat' first
   | (with_reducible exact ih0 _ _ _ _ _ _ _ _ _ _ _ _)
   | (with_reducible exact impl_Config_set.mono _ _ _ _ _ _ _ _ _ _ _)
   | (with_reducible exact slices_Contains_string_string.mono _ _ _)
   | (with_reducible exact LeO.refl _)
   | (with_reducible exact LeO.none _)
   | (with_reducible refine LeO.ite ?_ ?_)
   | (with_reducible refine LeO.bind ?_ (fun _ => ?_))
   | exact ih0 _ _ _ _ _ _ _ _ _ _ _ _
   | exact impl_Config_set.mono _ _ _ _ _ _ _ _ _ _ _
   | exact slices_Contains_string_string.mono _ _ _
   | exact LeO.none _
   | refine LeO.ite ?_ ?_
   | refine LeO.bind ?_ (fun _ => ?_)
set_option maxHeartbeats 8000000 in
set_option maxRecDepth 100000 in
theorem impl_ReadConfig.calls (k : Nat) (a0 : ByteArray) (r1 : Int) (r2 : Int) (r3 : Int) (r4 : Int) (r5 : Int) (r6 : Int) (r7 : Int) (r8 : List Int) (r9 : Int) (r10 : Int) (r11 : Int) (w : World) (hG : GT w) (h : impl_ReadConfig.f k a0 = some (r1,r2,r3,r4,r5,r6,r7,r8,r9,r10,r11)) :
  Calls Tryd.prog 5 #[.string a0] w fun e w' => ∃ v7_ : Value,e = .returned (.tuple #[.agg #[.int .i64 r1,.int .i64 r2,.int .i64 r3,.int .i64 r4,.int .i64 r5,.int .i64 r6,.int .i64 r7,v7_],.agg #[.int .i64 r9,.int .i64 r10,.int .i64 r11]]) ∧ Kd.R (Kd.int .i64) 3 w' w.heap.size (fun _ => True) v7_ r8 ∧ Below w.heap.size w w' := by
 have HG := Aside0.mk hG
 clear hG
 have hu24 := Tryd.underlying24
 have hu26 := Tryd.underlying26
 have HB := Aside0.mk (Below.refl w.heap.size w)
 have H := h
 clear h
 unfold impl_ReadConfig.f at H
 by_cases c2 : (a0.size : Int) > 4000
 ·rw [if_pos c2] at H
  have c2b0 : decide (4000 < (a0.size : Int)) = true := decide_eq_true c2
  have c2b1 : decide (4000 < a0.size) = true := decide_eq_true Z134
  clear c2
  simp only [Option.some.injEq,Prod.mk.injEq] at H
  obtain ⟨rfl,rfl,rfl,rfl,rfl,rfl,rfl,rfl,rfl,rfl,rfl⟩ := H
  go_enter Tryd.func5,Tryd.ntmps5
  go_wp2_with (first | ((with_reducible refine gate_dst (N := 2) rfl ?_);refine bE 2 #[.int .i64 0,.int .i64 0,.int .i64 0,.int .i64 0,.int .i64 0,.int .i64 0,.int .i64 0,.slice none 0 0] 24 (h := ?_);intro gb249 hg wq1 hbox hb;have n_ := Z26;clear HB;obtain ⟨HB,BK249,GW249,GE249⟩ := n_;clear hb hbox hg) | ((with_reducible refine gate_dst (N := 3) rfl ?_);refine bE 3 #[.int .i64 0,.int .i64 0,.int .i64 0] 26 (h := ?_);intro gb250 hg wq2 hbox hb;have n_ := Z7;clear BK249 HB;obtain ⟨BK249,HB,BK250,GW250,GE250,NB249_250,NB250_249⟩ := n_;clear hb hbox hg;have hnbq3 := NB249_250.out;have hncq3 := NB250_249.out;obtain ⟨hczq4_0,hczq4_1,hczq4_2,hczq4_3,hczq4_4,hczq4_5,hczq4_6,hczq4_7,hfzq4_0,hfzq4_1,hfzq4_2,hfzq4_3,hfzq4_4,hfzq4_5,hfzq4_6,hfzq4_7⟩ := cells8 BK249.out;obtain ⟨hczq5_0,hczq5_1,hczq5_2,hfzq5_0,hfzq5_1,hfzq5_2⟩ := cells3 BK250.out))
  refine bodyPost_ret (results_cc rfl _ _ gb249 gb250 24 26 #[.int .i64 0,.int .i64 0,.int .i64 0,.int .i64 0,.int .i64 0,.int .i64 0,.int .i64 0,.slice none 0 0] #[.int .i64 1,.int .i64 0,.int .i64 0] (0,0) (0,0) _ _ rfl (by refine bP ?_;refine blk_far ?_ NB249_250.out _;refine bP ?_;refine blk_far ?_ NB249_250.out _;refine bP ?_;refine blk_far ?_ NB249_250.out _;refine bP ?_;refine blk_put (cs := #[.int .i64 0,.int .i64 0,.int .i64 0,.int .i64 0,.int .i64 0,.int .i64 0,.int .i64 0,.slice none 0 0]) ?_ 7 _ rfl;refine bP ?_;refine blk_put (cs := #[.int .i64 0,.int .i64 0,.int .i64 0,.int .i64 0,.int .i64 0,.int .i64 0,.int .i64 0,.slice none 0 0]) ?_ 6 _ rfl;refine bP ?_;refine blk_put (cs := #[.int .i64 0,.int .i64 0,.int .i64 0,.int .i64 0,.int .i64 0,.int .i64 0,.int .i64 0,.slice none 0 0]) ?_ 5 _ rfl;refine bP ?_;refine blk_put (cs := #[.int .i64 0,.int .i64 0,.int .i64 0,.int .i64 0,.int .i64 0,.int .i64 0,.int .i64 0,.slice none 0 0]) ?_ 4 _ rfl;refine bP ?_;refine blk_put (cs := #[.int .i64 0,.int .i64 0,.int .i64 0,.int .i64 0,.int .i64 0,.int .i64 0,.int .i64 0,.slice none 0 0]) ?_ 3 _ rfl;refine bP ?_;refine blk_put (cs := #[.int .i64 0,.int .i64 0,.int .i64 0,.int .i64 0,.int .i64 0,.int .i64 0,.int .i64 0,.slice none 0 0]) ?_ 2 _ rfl;refine bP ?_;refine blk_put (cs := #[.int .i64 0,.int .i64 0,.int .i64 0,.int .i64 0,.int .i64 0,.int .i64 0,.int .i64 0,.slice none 0 0]) ?_ 1 _ rfl;refine bP ?_;refine blk_put (cs := #[.int .i64 0,.int .i64 0,.int .i64 0,.int .i64 0,.int .i64 0,.int .i64 0,.int .i64 0,.slice none 0 0]) ?_ 0 _ rfl;refine bP ?_;exact BK249.out) Tryd.underlying24 rfl Z133 rfl (by refine bP ?_;refine blk_put (cs := #[.int .i64 1,.int .i64 0,.int .i64 0]) ?_ 2 _ rfl;refine bP ?_;refine blk_put (cs := #[.int .i64 1,.int .i64 0,.int .i64 0]) ?_ 1 _ rfl;refine bP ?_;refine blk_put (cs := #[.int .i64 0,.int .i64 0,.int .i64 0]) ?_ 0 _ rfl;refine bP ?_;refine blk_far ?_ NB250_249.out _;refine bP ?_;refine blk_far ?_ NB250_249.out _;refine bP ?_;refine blk_far ?_ NB250_249.out _;refine bP ?_;refine blk_far ?_ NB250_249.out _;refine bP ?_;refine blk_far ?_ NB250_249.out _;refine bP ?_;refine blk_far ?_ NB250_249.out _;refine bP ?_;refine blk_far ?_ NB250_249.out _;refine bP ?_;refine blk_far ?_ NB250_249.out _;refine bP ?_;exact BK250.out) Tryd.underlying26 rfl Z133) rfl ?_
  exact ⟨_,Z107,Z86,Z147⟩
 rw [if_neg c2] at H
 have c2b0 : decide (4000 < (a0.size : Int)) = false := decide_eq_false c2
 have c2b1 : decide (4000 < a0.size) = false := decide_eq_false Z134
 clear c2
 obtain ⟨⟨t251,t252,t253,t254,t255,t256,t257,t258⟩,A80,H⟩ := Option.bind_eq_some_iff.mp H
 try dsimp only at H
 have A8 := Aside0.mk A80
 clear A80
 obtain ⟨y261,hyy⟩ : ∃ y_ : List ByteArray,y_ = (([] : List ByteArray)) := ⟨_,rfl⟩
 replace H : ((impl_Parts.f a0 10).bind fun t265 => (impl_ReadConfig.l0 k y261 t265 (t265.length : Int) 0 t251 t252 t253 t254 t255 t256 t257 t258)) = some (r1,r2,r3,r4,r5,r6,r7,r8,r9,r10,r11) := zR
 have Ny261 := Aside0.mk hyy
 clear hyy
 obtain ⟨t265,A90,H⟩ := Option.bind_eq_some_iff.mp H
 have A9 := Aside0.mk A90
 clear A90
 have H' := Aside0.mk H
 clear H
 go_enter Tryd.func5,Tryd.ntmps5
 go_wp2_with (first | ((with_reducible refine gate_dst (N := 2) rfl ?_);refine bE 2 #[.int .i64 0,.int .i64 0,.int .i64 0,.int .i64 0,.int .i64 0,.int .i64 0,.int .i64 0,.slice none 0 0] 24 (h := ?_);intro gb249 hg w10 hbox hb;have n_ := Z26;clear HB;obtain ⟨HB,BK249,GW249,GE249⟩ := n_;clear hb hbox hg) | ((with_reducible refine gate_dst (N := 3) rfl ?_);refine bE 3 #[.int .i64 0,.int .i64 0,.int .i64 0] 26 (h := ?_);intro gb250 hg w11 hbox hb;have n_ := Z7;clear BK249 HB;obtain ⟨BK249,HB,BK250,GW250,GE250,NB249_250,NB250_249⟩ := n_;clear hb hbox hg) | ((with_reducible refine gate_callee (f := 14) rfl ?_);refine goesL_ (some 17) rfl rfl Tryd.func14 Z133 rfl #[] rfl Z87 ?_;(with_reducible refine (impl_UsualConfig.calls  t251 t252 t253 t254 t255 t256 t257 t258 _ A8.out).mono ?_);rintro e w12 ⟨v259,rfl,ho0,hb⟩;refine ⟨_,rfl,?_⟩;have n_ := jA (Kd.R_lower ho0 (below_size Z147)) (jA (blk_below (g := gb249) (o := .cells #[.int .i64 0,.int .i64 0,.int .i64 0,.int .i64 0,.int .i64 0,.int .i64 0,.int .i64 0,.slice none 0 0] 24 (0,0)) Z189 hb) (jA (blk_below (g := gb250) (o := .cells #[.int .i64 0,.int .i64 0,.int .i64 0] 26 (0,0)) Z174 hb) (Aside0.mk (below_step Z147 hb))));clear BK249 BK250 HB;obtain ⟨HO260,BK249,BK250,HB⟩ := n_;(try clear hb);(try clear hb2);(try clear hk);(try clear hi);(try clear ho0)) | ((with_reducible refine gate_dst (N := 18) rfl ?_);refine Kd.R_lit Kd.string _ 9 ?hg (N := 18) ?hd (xs := ([] : List ByteArray)) (inner := []) (ok := fun _ => True) (okp := fun _ => True) ?hr ?hp (fun _ hk => hk) trivial (Below.refl _ _) (Nat.le_refl _) Z181 ?_;(case hd => rfl);(case hg => rfl);(case hr => exact Z119);(case hp => exact Z130);intro v262 w13 ho14 hb hg_ hnew_;clear hg_ hnew_;(first | rw [← Ny261.out] at ho14 | (simp only [Int.reduceToNat] at ho14;rw [← Ny261.out] at ho14));have n_ := jA (Kd.R_below Z101 hb) (jA (Kd.R_lower ho14 (below_size Z147)) (jA (blk_below (g := gb249) (o := .cells #[.int .i64 0,.int .i64 0,.int .i64 0,.int .i64 0,.int .i64 0,.int .i64 0,.int .i64 0,.slice none 0 0] 24 (0,0)) Z189 hb) (jA (blk_below (g := gb250) (o := .cells #[.int .i64 0,.int .i64 0,.int .i64 0] 26 (0,0)) Z174 hb) (Aside0.mk (below_step Z147 hb)))));clear HO260 BK249 BK250 HB;obtain ⟨HO260,HO263,BK249,BK250,HB⟩ := n_;clear hb ho14) | ((with_reducible refine gate_dst (N := 4) rfl ?_);refine bE 4 #[.int .i64 0,.int .i64 0,.int .i64 0,.int .i64 0,.int .i64 0,.int .i64 0,.int .i64 0,.slice none 0 0] 24 (h := ?_);intro gb264 hg w15 hbox hb;have n_ := jA (Kd.R_below Z101 hb) (jA (Kd.R_below (by (with_reducible repeat (first | apply Kd.R_alloc | apply Kd.R_drewN | apply Kd.R_drew));exact HO263.out) hb) (jA (blk_below (g := gb249) (o := .cells #[.int .i64 0,.int .i64 0,.int .i64 0,.int .i64 0,.int .i64 0,.int .i64 0,.int .i64 0,.slice none 0 0] 24 (0,0)) Z189 hb) (jA (blk_below (g := gb250) (o := .cells #[.int .i64 0,.int .i64 0,.int .i64 0] 26 (0,0)) Z174 hb) (jA (below_step Z147 hb) (jA (hbox) (jA ((Z58 : w.heap.size ≤ gb264)) (jA ((Z58 : w.heap.size ≤ gb264)) (jA ((Z142 : gb249 ≠ gb264)) (jA ((Z144 : gb264 ≠ gb249)) (jA ((by rw [hg];exact Nat.ne_of_lt (blk_lt (g := gb250) (o := .cells #[.int .i64 0,.int .i64 0,.int .i64 0] 26 (0,0)) Z174) : gb250 ≠ gb264)) (Aside0.mk ((by rw [hg];exact Nat.ne_of_gt (blk_lt (g := gb250) (o := .cells #[.int .i64 0,.int .i64 0,.int .i64 0] 26 (0,0)) Z174) : gb264 ≠ gb250)))))))))))));clear HO260 HO263 BK249 BK250 HB;obtain ⟨HO260,HO263,BK249,BK250,HB,BK264,GW264,GE264,NB249_264,NB264_249,NB250_264,NB264_250⟩ := n_;clear hb hbox hg;have hnb16 := NB264_249.out;have hnc16 := NB249_264.out;have hnb17 := NB264_250.out;have hnc17 := NB250_264.out;obtain ⟨hcz18_0,hcz18_1,hcz18_2,hcz18_3,hcz18_4,hcz18_5,hcz18_6,hcz18_7,hfz18_0,hfz18_1,hfz18_2,hfz18_3,hfz18_4,hfz18_5,hfz18_6,hfz18_7⟩ := cells8 BK264.out;obtain ⟨Ao19,co19,eo19⟩ := Kd.R_slice HO260.out;subst eo19) | ((with_reducible refine gate_callee (f := 15) rfl ?_);refine goesL_ (some 20) rfl rfl Tryd.func15 Z133 rfl #[.string a0,.int .u8 10] rfl Z87 ?_;(with_reducible refine (impl_Parts.calls a0 10 t265 _ ?side1 A9.out).mono ?_);(case side1 => exact Z50);rintro e w20 ⟨v266,rfl,ho0,hb⟩;refine ⟨_,rfl,?_⟩;have n_ := jA (Kd.R_below (by (with_reducible repeat (first | apply Kd.R_alloc | apply Kd.R_drewN | apply Kd.R_drew));exact (Kd.R_mono (Kd.R_far (p := ⟨gb264,7,none⟩) (Kd.R_far (p := ⟨gb264,6,none⟩) (Kd.R_far (p := ⟨gb264,5,none⟩) (Kd.R_far (p := ⟨gb264,4,none⟩) (Kd.R_far (p := ⟨gb264,3,none⟩) (Kd.R_far (p := ⟨gb264,2,none⟩) (Kd.R_far (p := ⟨gb264,1,none⟩) (Kd.R_far (p := ⟨gb264,0,none⟩) (Kd.R_types HO260.out BK264.out Z180) (fun _ hk => hk.2) (.int .i64 t251)) (fun _ hk => hk.2) (.int .i64 t252)) (fun _ hk => hk.2) (.int .i64 t253)) (fun _ hk => hk.2) (.int .i64 t254)) (fun _ hk => hk.2) (.int .i64 t255)) (fun _ hk => hk.2) (.int .i64 t256)) (fun _ hk => hk.2) (.int .i64 t257)) (fun _ hk => hk.2) (.slice Ao19 t258.length co19)) (fun _ h_ => h_.1))) hb) (jA (Kd.R_elder' Z22 (Kd.R_base ho0) hb) (jA (Kd.R_lower (Kd.R_new' ho0 (Kd.R_lt Z22)) (below_size Z139)) (jA (blk_below (g := gb249) (o := .cells #[.int .i64 0,.int .i64 0,.int .i64 0,.int .i64 0,.int .i64 0,.int .i64 0,.int .i64 0,.slice none 0 0] 24 (0,0)) (by refine bP ?_;refine blk_far ?_ NB249_264.out _;refine bP ?_;refine blk_far ?_ NB249_264.out _;refine bP ?_;refine blk_far ?_ NB249_264.out _;refine bP ?_;refine blk_far ?_ NB249_264.out _;refine bP ?_;refine blk_far ?_ NB249_264.out _;refine bP ?_;refine blk_far ?_ NB249_264.out _;refine bP ?_;refine blk_far ?_ NB249_264.out _;refine bP ?_;refine blk_far ?_ NB249_264.out _;refine bP ?_;exact BK249.out) hb) (jA (blk_below (g := gb250) (o := .cells #[.int .i64 0,.int .i64 0,.int .i64 0] 26 (0,0)) (by refine bP ?_;refine blk_far ?_ NB250_264.out _;refine bP ?_;refine blk_far ?_ NB250_264.out _;refine bP ?_;refine blk_far ?_ NB250_264.out _;refine bP ?_;refine blk_far ?_ NB250_264.out _;refine bP ?_;refine blk_far ?_ NB250_264.out _;refine bP ?_;refine blk_far ?_ NB250_264.out _;refine bP ?_;refine blk_far ?_ NB250_264.out _;refine bP ?_;refine blk_far ?_ NB250_264.out _;refine bP ?_;exact BK250.out) hb) (jA (blk_below (g := gb264) (o := .cells #[.int .i64 t251,.int .i64 t252,.int .i64 t253,.int .i64 t254,.int .i64 t255,.int .i64 t256,.int .i64 t257,.slice Ao19 t258.length co19] 24 (0,0)) (by refine bP ?_;refine blk_put (cs := #[.int .i64 t251,.int .i64 t252,.int .i64 t253,.int .i64 t254,.int .i64 t255,.int .i64 t256,.int .i64 t257,.slice none 0 0]) ?_ 7 _ rfl;refine bP ?_;refine blk_put (cs := #[.int .i64 t251,.int .i64 t252,.int .i64 t253,.int .i64 t254,.int .i64 t255,.int .i64 t256,.int .i64 0,.slice none 0 0]) ?_ 6 _ rfl;refine bP ?_;refine blk_put (cs := #[.int .i64 t251,.int .i64 t252,.int .i64 t253,.int .i64 t254,.int .i64 t255,.int .i64 0,.int .i64 0,.slice none 0 0]) ?_ 5 _ rfl;refine bP ?_;refine blk_put (cs := #[.int .i64 t251,.int .i64 t252,.int .i64 t253,.int .i64 t254,.int .i64 0,.int .i64 0,.int .i64 0,.slice none 0 0]) ?_ 4 _ rfl;refine bP ?_;refine blk_put (cs := #[.int .i64 t251,.int .i64 t252,.int .i64 t253,.int .i64 0,.int .i64 0,.int .i64 0,.int .i64 0,.slice none 0 0]) ?_ 3 _ rfl;refine bP ?_;refine blk_put (cs := #[.int .i64 t251,.int .i64 t252,.int .i64 0,.int .i64 0,.int .i64 0,.int .i64 0,.int .i64 0,.slice none 0 0]) ?_ 2 _ rfl;refine bP ?_;refine blk_put (cs := #[.int .i64 t251,.int .i64 0,.int .i64 0,.int .i64 0,.int .i64 0,.int .i64 0,.int .i64 0,.slice none 0 0]) ?_ 1 _ rfl;refine bP ?_;refine blk_put (cs := #[.int .i64 0,.int .i64 0,.int .i64 0,.int .i64 0,.int .i64 0,.int .i64 0,.int .i64 0,.slice none 0 0]) ?_ 0 _ rfl;refine bP ?_;exact BK264.out) hb) (Aside0.mk (below_step Z139 hb)))))));clear HO260 HO263 BK249 BK250 BK264 HB;obtain ⟨HO260,HO263,HO267,BK249,BK250,BK264,HB⟩ := n_;(try clear hb);(try clear hb2);(try clear hk);(try clear hi);(try clear ho0);obtain ⟨Ao21,co21,eo21⟩ := Kd.R_slice HO267.out;subst eo21))
 go_loopg [5,22] k (fun kq v5 v22 w' => ∃ (x5_1 : List ByteArray) (x22_1 : Int) (x250000_1 : Int) (x250001_1 : Int) (x250002_1 : Int) (x250003_1 : Int) (x250004_1 : Int) (x250005_1 : Int) (x250006_1 : Int) (x251000_1 : Int) (x251001_1 : Int) (x251002_1 : Int) (x265000_1 : Int) (x265001_1 : Int) (x265002_1 : Int) (x265003_1 : Int) (x265004_1 : Int) (x265005_1 : Int) (x265006_1 : Int) (x265007_1 : List Int) (u265007 : Value),v22 = .int .i64 x22_1 ∧ Aside0 (impl_ReadConfig.l0 kq x5_1 t265 (t265.length : Int) x22_1 x265000_1 x265001_1 x265002_1 x265003_1 x265004_1 x265005_1 x265006_1 x265007_1 = some (r1,r2,r3,r4,r5,r6,r7,r8,r9,r10,r11)) ∧ Aside0 (kq ≤ k) ∧ Aside0 (Kd.R Kd.string 9 w' w.heap.size (fun k_ => some k_ ≠ ((.slice Ao21 t265.length co21) : Value).ownBlock) v5 x5_1) ∧ Aside0 (Kd.R Kd.string 9 w' w.heap.size (fun k_ => some k_ ≠ (v5 : Value).ownBlock) (.slice Ao21 t265.length co21) t265) ∧ Aside0 (Kd.R (Kd.int .i64) 3 w' w.heap.size (fun _ => True) u265007 x265007_1) ∧ Aside0 (w'.heap[gb249]? = some (.cells #[.int .i64 x250000_1,.int .i64 x250001_1,.int .i64 x250002_1,.int .i64 x250003_1,.int .i64 x250004_1,.int .i64 x250005_1,.int .i64 x250006_1,(.slice none 0 0)] 24 (0,0))) ∧ Aside0 (w'.heap[gb250]? = some (.cells #[.int .i64 x251000_1,.int .i64 x251001_1,.int .i64 x251002_1] 26 (0,0))) ∧ Aside0 (w'.heap[gb264]? = some (.cells #[.int .i64 x265000_1,.int .i64 x265001_1,.int .i64 x265002_1,.int .i64 x265003_1,.int .i64 x265004_1,.int .i64 x265005_1,.int .i64 x265006_1,u265007] 24 (0,0))) ∧ Aside0 (Below w.heap.size w w'))
 case atStart => exact ⟨(y261),(0),(0),(0),(0),(0),(0),(0),(0),(0),(0),(0),(t251),(t252),(t253),(t254),(t255),(t256),(t257),(t258),(.slice Ao19 t258.length co19),Z118,H',⟨Nat.le_refl _⟩,⟨by (with_reducible repeat (first | apply Kd.R_alloc | apply Kd.R_drewN | apply Kd.R_drew));exact Kd.R_mono HO263.out (fun _ hk => hk.2)⟩,⟨by (with_reducible repeat (first | apply Kd.R_alloc | apply Kd.R_drewN | apply Kd.R_drew));exact Kd.R_mono HO267.out (fun _ hk => hk.2)⟩,⟨Z101⟩,⟨Z189⟩,⟨Z174⟩,⟨Z176⟩,⟨Z139⟩⟩
 case round =>
  clear H'
  try clear c1
  try clear c2
  try clear c2b0
  try clear c2b1
  try clear p2
  try clear c5
  try clear c14
  try clear c15
  try clear c16
  try clear c17
  obtain ⟨x5_1,x22_1,x250000_1,x250001_1,x250002_1,x250003_1,x250004_1,x250005_1,x250006_1,x251000_1,x251001_1,x251002_1,x265000_1,x265001_1,x265002_1,x265003_1,x265004_1,x265005_1,x265006_1,x265007_1,u265007,rfl,HA,HK1,HO_5,HO_20,HO_265007,BK249,BK250,BK264,HB⟩ := hrel
  cases gk with
  | zero => exact absurd HA.out (by simp [impl_ReadConfig.l0])
  | succ k1 =>
   have H := HA.out
   clear HA
   simp only [impl_ReadConfig.l0] at H
   by_cases c22 : x22_1 < (t265.length : Int)
   rotate_left
   ·rw [if_neg c22] at H
    have c22b0 : decide (x22_1 < (t265.length : Int)) = false := decide_eq_false c22
    clear c22
    simp only [Option.some.injEq,Prod.mk.injEq] at H
    obtain ⟨rfl,rfl,rfl,rfl,rfl,rfl,rfl,rfl,rfl,rfl,rfl⟩ := H
    have hnb97 := NB264_249.out
    have hnc97 := NB249_264.out
    have hnb98 := NB264_250.out
    have hnc98 := NB250_264.out
    obtain ⟨hcz99_0,hcz99_1,hcz99_2,hcz99_3,hcz99_4,hcz99_5,hcz99_6,hcz99_7,hfz99_0,hfz99_1,hfz99_2,hfz99_3,hfz99_4,hfz99_5,hfz99_6,hfz99_7⟩ := cells8 BK264.out
    have hnb100 := NB249_250.out
    have hnc100 := NB250_249.out
    obtain ⟨hcz101_0,hcz101_1,hcz101_2,hcz101_3,hcz101_4,hcz101_5,hcz101_6,hcz101_7,hfz101_0,hfz101_1,hfz101_2,hfz101_3,hfz101_4,hfz101_5,hfz101_6,hfz101_7⟩ := cells8 BK249.out
    obtain ⟨Ao102,co102,eo102⟩ := Kd.R_slice HO_265007.out
    subst eo102
    obtain ⟨hcz103_0,hcz103_1,hcz103_2,hfz103_0,hfz103_1,hfz103_2⟩ := cells3 BK250.out
    go_wp2
    refine bodyPost_ret (results_cc rfl _ _ gb249 gb250 24 26 #[.int .i64 x265000_1,.int .i64 x265001_1,.int .i64 x265002_1,.int .i64 x265003_1,.int .i64 x265004_1,.int .i64 x265005_1,.int .i64 x265006_1,.slice Ao102 x265007_1.length co102] #[.int .i64 0,.int .i64 0,.int .i64 0] (0,0) (0,0) _ _ rfl (by refine bP ?_;refine blk_far ?_ NB249_250.out _;refine bP ?_;refine blk_far ?_ NB249_250.out _;refine bP ?_;refine blk_far ?_ NB249_250.out _;refine bP ?_;refine blk_put (cs := #[.int .i64 x265000_1,.int .i64 x265001_1,.int .i64 x265002_1,.int .i64 x265003_1,.int .i64 x265004_1,.int .i64 x265005_1,.int .i64 x265006_1,.slice none 0 0]) ?_ 7 _ rfl;refine bP ?_;refine blk_put (cs := #[.int .i64 x265000_1,.int .i64 x265001_1,.int .i64 x265002_1,.int .i64 x265003_1,.int .i64 x265004_1,.int .i64 x265005_1,.int .i64 x250006_1,.slice none 0 0]) ?_ 6 _ rfl;refine bP ?_;refine blk_put (cs := #[.int .i64 x265000_1,.int .i64 x265001_1,.int .i64 x265002_1,.int .i64 x265003_1,.int .i64 x265004_1,.int .i64 x250005_1,.int .i64 x250006_1,.slice none 0 0]) ?_ 5 _ rfl;refine bP ?_;refine blk_put (cs := #[.int .i64 x265000_1,.int .i64 x265001_1,.int .i64 x265002_1,.int .i64 x265003_1,.int .i64 x250004_1,.int .i64 x250005_1,.int .i64 x250006_1,.slice none 0 0]) ?_ 4 _ rfl;refine bP ?_;refine blk_put (cs := #[.int .i64 x265000_1,.int .i64 x265001_1,.int .i64 x265002_1,.int .i64 x250003_1,.int .i64 x250004_1,.int .i64 x250005_1,.int .i64 x250006_1,.slice none 0 0]) ?_ 3 _ rfl;refine bP ?_;refine blk_put (cs := #[.int .i64 x265000_1,.int .i64 x265001_1,.int .i64 x250002_1,.int .i64 x250003_1,.int .i64 x250004_1,.int .i64 x250005_1,.int .i64 x250006_1,.slice none 0 0]) ?_ 2 _ rfl;refine bP ?_;refine blk_put (cs := #[.int .i64 x265000_1,.int .i64 x250001_1,.int .i64 x250002_1,.int .i64 x250003_1,.int .i64 x250004_1,.int .i64 x250005_1,.int .i64 x250006_1,.slice none 0 0]) ?_ 1 _ rfl;refine bP ?_;refine blk_put (cs := #[.int .i64 x250000_1,.int .i64 x250001_1,.int .i64 x250002_1,.int .i64 x250003_1,.int .i64 x250004_1,.int .i64 x250005_1,.int .i64 x250006_1,.slice none 0 0]) ?_ 0 _ rfl;refine bP ?_;exact BK249.out) Tryd.underlying24 rfl Z133 rfl (by refine bP ?_;refine blk_put (cs := #[.int .i64 0,.int .i64 0,.int .i64 x251002_1]) ?_ 2 _ rfl;refine bP ?_;refine blk_put (cs := #[.int .i64 0,.int .i64 x251001_1,.int .i64 x251002_1]) ?_ 1 _ rfl;refine bP ?_;refine blk_put (cs := #[.int .i64 x251000_1,.int .i64 x251001_1,.int .i64 x251002_1]) ?_ 0 _ rfl;refine bP ?_;refine blk_far ?_ NB250_249.out _;refine bP ?_;refine blk_far ?_ NB250_249.out _;refine bP ?_;refine blk_far ?_ NB250_249.out _;refine bP ?_;refine blk_far ?_ NB250_249.out _;refine bP ?_;refine blk_far ?_ NB250_249.out _;refine bP ?_;refine blk_far ?_ NB250_249.out _;refine bP ?_;refine blk_far ?_ NB250_249.out _;refine bP ?_;refine blk_far ?_ NB250_249.out _;refine bP ?_;exact BK250.out) Tryd.underlying26 rfl Z133) rfl ?_
    exact ⟨_,Z107,by (with_reducible repeat (first | apply Kd.R_alloc | apply Kd.R_drewN | apply Kd.R_drew));exact Kd.R_mono (Kd.R_far (p := ⟨gb250,2,none⟩) (Kd.R_far (p := ⟨gb250,1,none⟩) (Kd.R_far (p := ⟨gb250,0,none⟩) (Kd.R_far (p := ⟨gb249,7,none⟩) (Kd.R_far (p := ⟨gb249,6,none⟩) (Kd.R_far (p := ⟨gb249,5,none⟩) (Kd.R_far (p := ⟨gb249,4,none⟩) (Kd.R_far (p := ⟨gb249,3,none⟩) (Kd.R_far (p := ⟨gb249,2,none⟩) (Kd.R_far (p := ⟨gb249,1,none⟩) (Kd.R_far (p := ⟨gb249,0,none⟩) (Kd.R_types (Kd.R_types HO_265007.out BK249.out Z180) BK250.out Z180) (fun _ hk => hk.1.2) (.int .i64 x265000_1)) (fun _ hk => hk.1.2) (.int .i64 x265001_1)) (fun _ hk => hk.1.2) (.int .i64 x265002_1)) (fun _ hk => hk.1.2) (.int .i64 x265003_1)) (fun _ hk => hk.1.2) (.int .i64 x265004_1)) (fun _ hk => hk.1.2) (.int .i64 x265005_1)) (fun _ hk => hk.1.2) (.int .i64 x265006_1)) (fun _ hk => hk.1.2) (.slice Ao102 x265007_1.length co102)) (fun _ hk => hk.2) (.int .i64 0)) (fun _ hk => hk.2) (.int .i64 0)) (fun _ hk => hk.2) (.int .i64 0)) (fun _ hk => trivial),Z139⟩
   rw [if_pos c22] at H
   have c22b0 : decide (x22_1 < (t265.length : Int)) = true := decide_eq_true c22
   clear c22
   obtain ⟨c23,H⟩ := ifp H
   have c23b0 : decide (0 ≤ x22_1) = true := decide_eq_true c23
   clear c23
   obtain ⟨c24,H⟩ := ifp H
   have c24b0 : decide (x22_1 < (t265.length : Int)) = true := decide_eq_true c24
   clear c24
   by_cases c25 : (rdOf ByteArray.empty t265 x22_1).toList = ([] : List UInt8)
   ·rw [if_pos c25] at H
    have c25b0 : ((rdOf ByteArray.empty t265 x22_1).toList == ([] : List UInt8)) = true := beq_iff_eq.mpr c25
    have c25b1 : ((rdOf ByteArray.empty t265 x22_1).toList != ([] : List UInt8)) = false := bne_eq_false_iff_eq.mpr c25
    clear c25
    have H' := Aside0.mk H
    clear H
    have p268 : 0 ≤ (x22_1 : Int) := of_decide_eq_true Z117
    have q268 : x22_1 < (t265.length : Int) := of_decide_eq_true Z117
    obtain ⟨ad268,e268,hx268_0⟩ := Kd.at_string (Kd.R_reads' HO_20.out).2.2 x22_1 p268 q268
    cases e268
    replace p268 := eq_true p268
    replace q268 := eq_true q268
    go_wp2
    go_roundg k1
    case measure => have := HK1.out;omega
    case rel => exact ⟨(x5_1),(wrap64 (x22_1 + 1)),(x250000_1),(x250001_1),(x250002_1),(x250003_1),(x250004_1),(x250005_1),(x250006_1),(x251000_1),(x251001_1),(x251002_1),(x265000_1),(x265001_1),(x265002_1),(x265003_1),(x265004_1),(x265005_1),(x265006_1),(x265007_1),(u265007),Z118,H',⟨Z129⟩,⟨Z166⟩,⟨Z163⟩,⟨Z161⟩,⟨Z189⟩,⟨Z174⟩,⟨Z176⟩,⟨Z139⟩⟩
   rw [if_neg c25] at H
   have c25b0 : ((rdOf ByteArray.empty t265 x22_1).toList == ([] : List UInt8)) = false := beq_eq_false_iff_ne.mpr c25
   have c25b1 : ((rdOf ByteArray.empty t265 x22_1).toList != ([] : List UInt8)) = true := bne_iff_ne.mpr c25
   obtain ⟨⟨t269,t270,t271⟩,A260,H⟩ := Option.bind_eq_some_iff.mp H
   try dsimp only at H
   have A26 := Aside0.mk A260
   clear A260
   by_cases c27 : t271 = true
   rotate_left
   ·replace c27 := Bool.eq_false_iff.mpr c27
    subst c27
    rw [if_neg Bool.false_ne_true] at H
    by_cases c87 : 10 = 0
    ·exact absurd c87 Z180
    rw [if_neg c87] at H
    have c87b0 : (10 == 0) = false := beq_eq_false_iff_ne.mpr c87
    have c87b1 : (10 != 0) = true := bne_iff_ne.mpr c87
    simp only [Option.some.injEq,Prod.mk.injEq] at H
    obtain ⟨rfl,rfl,rfl,rfl,rfl,rfl,rfl,rfl,rfl,rfl,rfl⟩ := H
    have p268 : 0 ≤ (x22_1 : Int) := of_decide_eq_true Z117
    have q268 : x22_1 < (t265.length : Int) := of_decide_eq_true Z117
    obtain ⟨ad268,e268,hx268_0⟩ := Kd.at_string (Kd.R_reads' HO_20.out).2.2 x22_1 p268 q268
    cases e268
    replace p268 := eq_true p268
    replace q268 := eq_true q268
    go_wp2_with (first | ((with_reducible refine gate_callee (f := 16) rfl ?_);refine goesL_ (some 31) rfl rfl Tryd.func16 Z133 rfl #[.string (rdOf ByteArray.empty t265 x22_1),.string (⟨#[61]⟩ : ByteArray)] rfl Z87 ?_;(with_reducible refine (strings_Cut.calls (rdOf ByteArray.empty t265 x22_1) (⟨#[61]⟩ : ByteArray) t269 t270 false _ ?side1 A26.out).mono ?_);(case side1 => exact Z50);rintro e wq1 ⟨rfl,hb⟩;refine ⟨_,rfl,?_⟩;have n_ := Z9;clear HO_5 HO_20 HO_265007 BK249 BK250 BK264 HB;obtain ⟨HO_5,HO_20,HO_265007,BK249,BK250,BK264,HB⟩ := n_;(try clear hb);(try clear hb2);(try clear hk);(try clear hi);have hnbq2 := NB249_250.out;have hncq2 := NB250_249.out;have hnbq3 := NB249_264.out;have hncq3 := NB264_249.out;obtain ⟨hczq4_0,hczq4_1,hczq4_2,hczq4_3,hczq4_4,hczq4_5,hczq4_6,hczq4_7,hfzq4_0,hfzq4_1,hfzq4_2,hfzq4_3,hfzq4_4,hfzq4_5,hfzq4_6,hfzq4_7⟩ := cells8 BK249.out;have hnbq5 := NB250_264.out;have hncq5 := NB264_250.out;obtain ⟨hczq6_0,hczq6_1,hczq6_2,hfzq6_0,hfzq6_1,hfzq6_2⟩ := cells3 BK250.out))
    refine bodyPost_ret (results_cc rfl _ _ gb249 gb250 24 26 #[.int .i64 0,.int .i64 0,.int .i64 0,.int .i64 0,.int .i64 0,.int .i64 0,.int .i64 0,.slice none 0 0] #[.int .i64 10,.int .i64 x22_1,.int .i64 0] (0,0) (0,0) _ _ rfl Z2 Tryd.underlying24 rfl Z133 rfl (by refine bP ?_;refine blk_put (cs := #[.int .i64 10,.int .i64 x22_1,.int .i64 x251002_1]) ?_ 2 _ rfl;refine bP ?_;refine blk_put (cs := #[.int .i64 10,.int .i64 x251001_1,.int .i64 x251002_1]) ?_ 1 _ rfl;refine bP ?_;refine blk_put (cs := #[.int .i64 x251000_1,.int .i64 x251001_1,.int .i64 x251002_1]) ?_ 0 _ rfl;refine bP ?_;refine blk_far ?_ NB250_249.out _;refine bP ?_;refine blk_far ?_ NB250_249.out _;refine bP ?_;refine blk_far ?_ NB250_249.out _;refine bP ?_;refine blk_far ?_ NB250_249.out _;refine bP ?_;refine blk_far ?_ NB250_249.out _;refine bP ?_;refine blk_far ?_ NB250_249.out _;refine bP ?_;refine blk_far ?_ NB250_249.out _;refine bP ?_;refine blk_far ?_ NB250_249.out _;refine bP ?_;exact BK250.out) Tryd.underlying26 rfl Z133) rfl ?_
    exact ⟨_,Z107,Z86,Z139⟩
   subst c27
   rw [if_pos rfl] at H
   obtain ⟨y272,hyy⟩ : ∃ y_ : List ByteArray,y_ = (([(⟨#[114,111,117,110,100,115]⟩ : ByteArray),(⟨#[100,101,112,116,104]⟩ : ByteArray),(⟨#[98,105,110,115]⟩ : ByteArray),(⟨#[108,97,109,98,100,97]⟩ : ByteArray),(⟨#[114,111,119,115]⟩ : ByteArray),(⟨#[114,97,116,101]⟩ : ByteArray),(⟨#[115,105,103,110,115]⟩ : ByteArray)] : List ByteArray)) := ⟨_,rfl⟩
   replace H : ((slices_Contains_string_string.f k1 y272 t269).bind fun t275 => (if t275 = true then ((slices_Contains_string_string.f k1 x5_1 t269).bind fun t276 => (if t276 = true then (if 6 = 0 then (if x5_1.length < 8796093022208 then (impl_ReadConfig.l0 k1 (x5_1 ++ [t269]) t265 (t265.length : Int) (wrap64 (x22_1 + 1)) x265000_1 x265001_1 x265002_1 x265003_1 x265004_1 x265005_1 x265006_1 x265007_1) else (none)) else (some (0,0,0,0,0,0,0,([] : List Int),6,x22_1,0))) else ((impl_Config_set.f k1 x265000_1 x265001_1 x265002_1 x265003_1 x265004_1 x265005_1 x265006_1 x265007_1 t269 t270).bind fun bt280 => (if bt280.1 = 0 then (if x5_1.length < 8796093022208 then (impl_ReadConfig.l0 k1 (x5_1 ++ [t269]) t265 (t265.length : Int) (wrap64 (x22_1 + 1)) bt280.2.1 bt280.2.2.1 bt280.2.2.2.1 bt280.2.2.2.2.1 bt280.2.2.2.2.2.1 bt280.2.2.2.2.2.2.1 bt280.2.2.2.2.2.2.2.1 bt280.2.2.2.2.2.2.2.2) else (none)) else (some (0,0,0,0,0,0,0,([] : List Int),bt280.1,x22_1,0)))))) else (if 11 = 0 then (if x5_1.length < 8796093022208 then (impl_ReadConfig.l0 k1 (x5_1 ++ [t269]) t265 (t265.length : Int) (wrap64 (x22_1 + 1)) x265000_1 x265001_1 x265002_1 x265003_1 x265004_1 x265005_1 x265006_1 x265007_1) else (none)) else (some (0,0,0,0,0,0,0,([] : List Int),11,x22_1,0))))) = some (r1,r2,r3,r4,r5,r6,r7,r8,r9,r10,r11) := zR
   have Ny272 := Aside0.mk hyy
   clear hyy
   obtain ⟨t275,A280,H⟩ := Option.bind_eq_some_iff.mp H
   have A28 := Aside0.mk A280
   clear A280
   by_cases c29 : t275 = true
   rotate_left
   ·replace c29 := Bool.eq_false_iff.mpr c29
    subst c29
    rw [if_neg Bool.false_ne_true] at H
    by_cases c71 : 11 = 0
    ·exact absurd c71 Z180
    rw [if_neg c71] at H
    have c71b0 : (11 == 0) = false := beq_eq_false_iff_ne.mpr c71
    have c71b1 : (11 != 0) = true := bne_iff_ne.mpr c71
    simp only [Option.some.injEq,Prod.mk.injEq] at H
    obtain ⟨rfl,rfl,rfl,rfl,rfl,rfl,rfl,rfl,rfl,rfl,rfl⟩ := H
    have p268 : 0 ≤ (x22_1 : Int) := of_decide_eq_true Z117
    have q268 : x22_1 < (t265.length : Int) := of_decide_eq_true Z117
    obtain ⟨ad268,e268,hx268_0⟩ := Kd.at_string (Kd.R_reads' HO_20.out).2.2 x22_1 p268 q268
    cases e268
    replace p268 := eq_true p268
    replace q268 := eq_true q268
    go_wp2_with (first | ((with_reducible refine gate_callee (f := 16) rfl ?_);refine goesL_ (some 31) rfl rfl Tryd.func16 Z133 rfl #[.string (rdOf ByteArray.empty t265 x22_1),.string (⟨#[61]⟩ : ByteArray)] rfl Z87 ?_;(with_reducible refine (strings_Cut.calls (rdOf ByteArray.empty t265 x22_1) (⟨#[61]⟩ : ByteArray) t269 t270 true _ ?side1 A26.out).mono ?_);(case side1 => exact Z50);rintro e wq1 ⟨rfl,hb⟩;refine ⟨_,rfl,?_⟩;have n_ := Z9;clear HO_5 HO_20 HO_265007 BK249 BK250 BK264 HB;obtain ⟨HO_5,HO_20,HO_265007,BK249,BK250,BK264,HB⟩ := n_;(try clear hb);(try clear hb2);(try clear hk);(try clear hi)) | ((with_reducible refine gate_dst (N := 42) rfl ?_);refine Kd.R_lit Kd.string _ 9 ?hg (N := 42) ?hd (xs := ([(⟨#[114,111,117,110,100,115]⟩ : ByteArray),(⟨#[100,101,112,116,104]⟩ : ByteArray),(⟨#[98,105,110,115]⟩ : ByteArray),(⟨#[108,97,109,98,100,97]⟩ : ByteArray),(⟨#[114,111,119,115]⟩ : ByteArray),(⟨#[114,97,116,101]⟩ : ByteArray),(⟨#[115,105,103,110,115]⟩ : ByteArray)] : List ByteArray)) (inner := [.string (⟨#[114,111,117,110,100,115]⟩ : ByteArray),.string (⟨#[100,101,112,116,104]⟩ : ByteArray),.string (⟨#[98,105,110,115]⟩ : ByteArray),.string (⟨#[108,97,109,98,100,97]⟩ : ByteArray),.string (⟨#[114,111,119,115]⟩ : ByteArray),.string (⟨#[114,97,116,101]⟩ : ByteArray),.string (⟨#[115,105,103,110,115]⟩ : ByteArray)]) (ok := fun _ => True) (okp := fun _ => True) ?hr ?hp (fun _ hk => hk) trivial (Below.refl _ _) (Nat.le_refl _) Z181 ?_;(case hd => rfl);(case hg => rfl);(case hr => exact Z119);(case hp => exact Z18);intro vq2 wq3 hoq4 hb hg_ hnew_;clear hg_ hnew_;(first | rw [← Ny272.out] at hoq4 | (simp only [Int.reduceToNat] at hoq4;rw [← Ny272.out] at hoq4));have n_ := Z1;clear HO_5 HO_20 HO_265007 BK249 BK250 BK264 HB;obtain ⟨HO_5,HO_20,HO_265007,HO274,BK249,BK250,BK264,HB⟩ := n_;clear hb hoq4;obtain ⟨Aoq5,coq5,eoq5⟩ := Kd.R_slice HO274.out;subst eoq5) | ((with_reducible refine gate_callee (f := 17) rfl ?_);refine goesL_ (some 44) rfl rfl Tryd.func17 Z133 rfl #[.slice Aoq5 y272.length coq5,.string t269] rfl Z87 ?_;(with_reducible refine (slices_Contains_string_string.calls k1 _ _ y272 t269 false _ ?side1 ?side2 A28.out).mono ?_);(case side1 => exact Z68);(case side2 => exact Z122);rintro e w' ⟨rfl,⟨nd,rfl⟩⟩;refine ⟨_,rfl,?_⟩;(iterate 4 (try (rw [drewN_self wq3];generalize hq_ : World.drewN wq3 _ = wq3;have n0_ : Aside0 (Kd.R Kd.string 9 wq3 w.heap.size (fun k_ => some k_ ≠ (.slice (some ad268) t265.length co21 : Value).ownBlock ∧ some k_ ≠ (u5 : Value).ownBlock) (.slice Aoq5 y272.length coq5) y272) := ⟨Z70⟩;have n1_ : Aside0 (Kd.R Kd.string 9 wq3 w.heap.size (fun k_ => some k_ ≠ (.slice Aoq5 y272.length coq5 : Value).ownBlock ∧ some k_ ≠ (u5 : Value).ownBlock) (.slice (some ad268) t265.length co21) t265) := ⟨Z74⟩;have n2_ : Aside0 (Kd.R (Kd.int .i64) 3 wq3 w.heap.size (fun _ => True) u265007 x265007_1) := ⟨Z88⟩;have n3_ : Aside0 (Kd.R Kd.string 9 wq3 w.heap.size (fun k_ => some k_ ≠ (.slice Aoq5 y272.length coq5 : Value).ownBlock ∧ some k_ ≠ (.slice (some ad268) t265.length co21 : Value).ownBlock) u5 x5_1) := ⟨Z75⟩;have n4_ : Aside0 (wq3.heap[gb249]? = some (.cells #[.int .i64 x250000_1,.int .i64 x250001_1,.int .i64 x250002_1,.int .i64 x250003_1,.int .i64 x250004_1,.int .i64 x250005_1,.int .i64 x250006_1,.slice none 0 0] 24 (0,0))) := ⟨Z115⟩;have n5_ : Aside0 (wq3.heap[gb250]? = some (.cells #[.int .i64 x251000_1,.int .i64 x251001_1,.int .i64 x251002_1] 26 (0,0))) := ⟨Z114⟩;have n6_ : Aside0 (wq3.heap[gb264]? = some (.cells #[.int .i64 x265000_1,.int .i64 x265001_1,.int .i64 x265002_1,.int .i64 x265003_1,.int .i64 x265004_1,.int .i64 x265005_1,.int .i64 x265006_1,u265007] 24 (0,0))) := ⟨Z113⟩;have n7_ : Aside0 (Below w.heap.size w wq3) := ⟨Z51⟩;clear HO274 HO_20 HO_265007 HO_5 BK249 BK250 BK264 HB hq_;have HO274 := n0_;have HO_20 := n1_;have HO_265007 := n2_;have HO_5 := n3_;have BK249 := n4_;have BK250 := n5_;have BK264 := n6_;have HB := n7_;clear n0_ n1_ n2_ n3_ n4_ n5_ n6_ n7_)));have hnbq6 := NB249_250.out;have hncq6 := NB250_249.out;have hnbq7 := NB249_264.out;have hncq7 := NB264_249.out;obtain ⟨hczq8_0,hczq8_1,hczq8_2,hczq8_3,hczq8_4,hczq8_5,hczq8_6,hczq8_7,hfzq8_0,hfzq8_1,hfzq8_2,hfzq8_3,hfzq8_4,hfzq8_5,hfzq8_6,hfzq8_7⟩ := cells8 BK249.out;have hnbq9 := NB250_264.out;have hncq9 := NB264_250.out;obtain ⟨hczq10_0,hczq10_1,hczq10_2,hfzq10_0,hfzq10_1,hfzq10_2⟩ := cells3 BK250.out))
    refine bodyPost_ret (results_cc rfl _ _ gb249 gb250 24 26 #[.int .i64 0,.int .i64 0,.int .i64 0,.int .i64 0,.int .i64 0,.int .i64 0,.int .i64 0,.slice none 0 0] #[.int .i64 11,.int .i64 x22_1,.int .i64 0] (0,0) (0,0) _ _ rfl Z2 Tryd.underlying24 rfl Z133 rfl (by refine bP ?_;refine blk_put (cs := #[.int .i64 11,.int .i64 x22_1,.int .i64 x251002_1]) ?_ 2 _ rfl;refine bP ?_;refine blk_put (cs := #[.int .i64 11,.int .i64 x251001_1,.int .i64 x251002_1]) ?_ 1 _ rfl;refine bP ?_;refine blk_put (cs := #[.int .i64 x251000_1,.int .i64 x251001_1,.int .i64 x251002_1]) ?_ 0 _ rfl;refine bP ?_;refine blk_far ?_ NB250_249.out _;refine bP ?_;refine blk_far ?_ NB250_249.out _;refine bP ?_;refine blk_far ?_ NB250_249.out _;refine bP ?_;refine blk_far ?_ NB250_249.out _;refine bP ?_;refine blk_far ?_ NB250_249.out _;refine bP ?_;refine blk_far ?_ NB250_249.out _;refine bP ?_;refine blk_far ?_ NB250_249.out _;refine bP ?_;refine blk_far ?_ NB250_249.out _;refine bP ?_;exact BK250.out) Tryd.underlying26 rfl Z133) rfl ?_
    exact ⟨_,Z107,Z86,Z139⟩
   subst c29
   rw [if_pos rfl] at H
   obtain ⟨t276,A300,H⟩ := Option.bind_eq_some_iff.mp H
   have A30 := Aside0.mk A300
   clear A300
   by_cases c31 : t276 = true
   ·subst c31
    rw [if_pos rfl] at H
    by_cases c32 : 6 = 0
    ·exact absurd c32 Z180
    rw [if_neg c32] at H
    have c32b0 : (6 == 0) = false := beq_eq_false_iff_ne.mpr c32
    have c32b1 : (6 != 0) = true := bne_iff_ne.mpr c32
    simp only [Option.some.injEq,Prod.mk.injEq] at H
    obtain ⟨rfl,rfl,rfl,rfl,rfl,rfl,rfl,rfl,rfl,rfl,rfl⟩ := H
    have p268 : 0 ≤ (x22_1 : Int) := of_decide_eq_true Z117
    have q268 : x22_1 < (t265.length : Int) := of_decide_eq_true Z117
    obtain ⟨ad268,e268,hx268_0⟩ := Kd.at_string (Kd.R_reads' HO_20.out).2.2 x22_1 p268 q268
    cases e268
    replace p268 := eq_true p268
    replace q268 := eq_true q268
    go_wp2_with (first | ((with_reducible refine gate_callee (f := 16) rfl ?_);refine goesL_ (some 31) rfl rfl Tryd.func16 Z133 rfl #[.string (rdOf ByteArray.empty t265 x22_1),.string (⟨#[61]⟩ : ByteArray)] rfl Z87 ?_;(with_reducible refine (strings_Cut.calls (rdOf ByteArray.empty t265 x22_1) (⟨#[61]⟩ : ByteArray) t269 t270 true _ ?side1 A26.out).mono ?_);(case side1 => exact Z50);rintro e wq1 ⟨rfl,hb⟩;refine ⟨_,rfl,?_⟩;have n_ := Z9;clear HO_5 HO_20 HO_265007 BK249 BK250 BK264 HB;obtain ⟨HO_5,HO_20,HO_265007,BK249,BK250,BK264,HB⟩ := n_;(try clear hb);(try clear hb2);(try clear hk);(try clear hi)) | ((with_reducible refine gate_dst (N := 42) rfl ?_);refine Kd.R_lit Kd.string _ 9 ?hg (N := 42) ?hd (xs := ([(⟨#[114,111,117,110,100,115]⟩ : ByteArray),(⟨#[100,101,112,116,104]⟩ : ByteArray),(⟨#[98,105,110,115]⟩ : ByteArray),(⟨#[108,97,109,98,100,97]⟩ : ByteArray),(⟨#[114,111,119,115]⟩ : ByteArray),(⟨#[114,97,116,101]⟩ : ByteArray),(⟨#[115,105,103,110,115]⟩ : ByteArray)] : List ByteArray)) (inner := [.string (⟨#[114,111,117,110,100,115]⟩ : ByteArray),.string (⟨#[100,101,112,116,104]⟩ : ByteArray),.string (⟨#[98,105,110,115]⟩ : ByteArray),.string (⟨#[108,97,109,98,100,97]⟩ : ByteArray),.string (⟨#[114,111,119,115]⟩ : ByteArray),.string (⟨#[114,97,116,101]⟩ : ByteArray),.string (⟨#[115,105,103,110,115]⟩ : ByteArray)]) (ok := fun _ => True) (okp := fun _ => True) ?hr ?hp (fun _ hk => hk) trivial (Below.refl _ _) (Nat.le_refl _) Z181 ?_;(case hd => rfl);(case hg => rfl);(case hr => exact Z119);(case hp => exact Z18);intro vq2 wq3 hoq4 hb hg_ hnew_;clear hg_ hnew_;(first | rw [← Ny272.out] at hoq4 | (simp only [Int.reduceToNat] at hoq4;rw [← Ny272.out] at hoq4));have n_ := Z1;clear HO_5 HO_20 HO_265007 BK249 BK250 BK264 HB;obtain ⟨HO_5,HO_20,HO_265007,HO274,BK249,BK250,BK264,HB⟩ := n_;clear hb hoq4;obtain ⟨Aoq5,coq5,eoq5⟩ := Kd.R_slice HO274.out;subst eoq5) | ((with_reducible refine gate_callee (f := 17) rfl ?_);refine goesL_ (some 44) rfl rfl Tryd.func17 Z133 rfl #[.slice Aoq5 y272.length coq5,.string t269] rfl Z87 ?_;(with_reducible refine (slices_Contains_string_string.calls k1 _ _ y272 t269 true _ ?side1 ?side2 A28.out).mono ?_);(case side1 => exact Z68);(case side2 => exact Z122);rintro e w' ⟨rfl,⟨nd,rfl⟩⟩;refine ⟨_,rfl,?_⟩;(iterate 4 (try (rw [drewN_self wq3];generalize hq_ : World.drewN wq3 _ = wq3;have n0_ : Aside0 (Kd.R Kd.string 9 wq3 w.heap.size (fun k_ => some k_ ≠ (.slice (some ad268) t265.length co21 : Value).ownBlock ∧ some k_ ≠ (u5 : Value).ownBlock) (.slice Aoq5 y272.length coq5) y272) := ⟨Z70⟩;have n1_ : Aside0 (Kd.R Kd.string 9 wq3 w.heap.size (fun k_ => some k_ ≠ (.slice Aoq5 y272.length coq5 : Value).ownBlock ∧ some k_ ≠ (u5 : Value).ownBlock) (.slice (some ad268) t265.length co21) t265) := ⟨Z74⟩;have n2_ : Aside0 (Kd.R (Kd.int .i64) 3 wq3 w.heap.size (fun _ => True) u265007 x265007_1) := ⟨Z88⟩;have n3_ : Aside0 (Kd.R Kd.string 9 wq3 w.heap.size (fun k_ => some k_ ≠ (.slice Aoq5 y272.length coq5 : Value).ownBlock ∧ some k_ ≠ (.slice (some ad268) t265.length co21 : Value).ownBlock) u5 x5_1) := ⟨Z75⟩;have n4_ : Aside0 (wq3.heap[gb249]? = some (.cells #[.int .i64 x250000_1,.int .i64 x250001_1,.int .i64 x250002_1,.int .i64 x250003_1,.int .i64 x250004_1,.int .i64 x250005_1,.int .i64 x250006_1,.slice none 0 0] 24 (0,0))) := ⟨Z115⟩;have n5_ : Aside0 (wq3.heap[gb250]? = some (.cells #[.int .i64 x251000_1,.int .i64 x251001_1,.int .i64 x251002_1] 26 (0,0))) := ⟨Z114⟩;have n6_ : Aside0 (wq3.heap[gb264]? = some (.cells #[.int .i64 x265000_1,.int .i64 x265001_1,.int .i64 x265002_1,.int .i64 x265003_1,.int .i64 x265004_1,.int .i64 x265005_1,.int .i64 x265006_1,u265007] 24 (0,0))) := ⟨Z113⟩;have n7_ : Aside0 (Below w.heap.size w wq3) := ⟨Z51⟩;clear HO274 HO_20 HO_265007 HO_5 BK249 BK250 BK264 HB hq_;have HO274 := n0_;have HO_20 := n1_;have HO_265007 := n2_;have HO_5 := n3_;have BK249 := n4_;have BK250 := n5_;have BK264 := n6_;have HB := n7_;clear n0_ n1_ n2_ n3_ n4_ n5_ n6_ n7_)));obtain ⟨Aoq6,coq6,eoq6⟩ := Kd.R_slice HO_5.out;subst eoq6) | ((with_reducible refine gate_callee (f := 17) rfl ?_);refine goesL_ (some 49) rfl rfl Tryd.func17 Z133 rfl #[.slice Aoq6 x5_1.length coq6,.string t269] rfl Z87 ?_;(with_reducible refine (slices_Contains_string_string.calls k1 _ _ x5_1 t269 true _ ?side1 ?side2 A30.out).mono ?_);(case side1 => exact Z69);(case side2 => exact (Kd.R_reads' HO_5.out).2.1);rintro e w' ⟨rfl,⟨nd,rfl⟩⟩;refine ⟨_,rfl,?_⟩;(iterate 4 (try (rw [drewN_self wq3];generalize hq_ : World.drewN wq3 _ = wq3;have n0_ : Aside0 (Kd.R Kd.string 9 wq3 w.heap.size (fun k_ => some k_ ≠ (.slice (some ad268) t265.length co21 : Value).ownBlock ∧ some k_ ≠ (.slice Aoq6 x5_1.length coq6 : Value).ownBlock) (.slice Aoq5 y272.length coq5) y272) := ⟨Z70⟩;have n1_ : Aside0 (Kd.R Kd.string 9 wq3 w.heap.size (fun k_ => some k_ ≠ (.slice Aoq5 y272.length coq5 : Value).ownBlock ∧ some k_ ≠ (.slice Aoq6 x5_1.length coq6 : Value).ownBlock) (.slice (some ad268) t265.length co21) t265) := ⟨Z74⟩;have n2_ : Aside0 (Kd.R (Kd.int .i64) 3 wq3 w.heap.size (fun _ => True) u265007 x265007_1) := ⟨Z88⟩;have n3_ : Aside0 (Kd.R Kd.string 9 wq3 w.heap.size (fun k_ => some k_ ≠ (.slice Aoq5 y272.length coq5 : Value).ownBlock ∧ some k_ ≠ (.slice (some ad268) t265.length co21 : Value).ownBlock) (.slice Aoq6 x5_1.length coq6) x5_1) := ⟨Z75⟩;have n4_ : Aside0 (wq3.heap[gb249]? = some (.cells #[.int .i64 x250000_1,.int .i64 x250001_1,.int .i64 x250002_1,.int .i64 x250003_1,.int .i64 x250004_1,.int .i64 x250005_1,.int .i64 x250006_1,.slice none 0 0] 24 (0,0))) := ⟨Z115⟩;have n5_ : Aside0 (wq3.heap[gb250]? = some (.cells #[.int .i64 x251000_1,.int .i64 x251001_1,.int .i64 x251002_1] 26 (0,0))) := ⟨Z114⟩;have n6_ : Aside0 (wq3.heap[gb264]? = some (.cells #[.int .i64 x265000_1,.int .i64 x265001_1,.int .i64 x265002_1,.int .i64 x265003_1,.int .i64 x265004_1,.int .i64 x265005_1,.int .i64 x265006_1,u265007] 24 (0,0))) := ⟨Z113⟩;have n7_ : Aside0 (Below w.heap.size w wq3) := ⟨Z51⟩;clear HO274 HO_20 HO_265007 HO_5 BK249 BK250 BK264 HB hq_;have HO274 := n0_;have HO_20 := n1_;have HO_265007 := n2_;have HO_5 := n3_;have BK249 := n4_;have BK250 := n5_;have BK264 := n6_;have HB := n7_;clear n0_ n1_ n2_ n3_ n4_ n5_ n6_ n7_)));have hnbq7 := NB249_250.out;have hncq7 := NB250_249.out;have hnbq8 := NB249_264.out;have hncq8 := NB264_249.out;obtain ⟨hczq9_0,hczq9_1,hczq9_2,hczq9_3,hczq9_4,hczq9_5,hczq9_6,hczq9_7,hfzq9_0,hfzq9_1,hfzq9_2,hfzq9_3,hfzq9_4,hfzq9_5,hfzq9_6,hfzq9_7⟩ := cells8 BK249.out;have hnbq10 := NB250_264.out;have hncq10 := NB264_250.out;obtain ⟨hczq11_0,hczq11_1,hczq11_2,hfzq11_0,hfzq11_1,hfzq11_2⟩ := cells3 BK250.out))
    refine bodyPost_ret (results_cc rfl _ _ gb249 gb250 24 26 #[.int .i64 0,.int .i64 0,.int .i64 0,.int .i64 0,.int .i64 0,.int .i64 0,.int .i64 0,.slice none 0 0] #[.int .i64 6,.int .i64 x22_1,.int .i64 0] (0,0) (0,0) _ _ rfl Z2 Tryd.underlying24 rfl Z133 rfl (by refine bP ?_;refine blk_put (cs := #[.int .i64 6,.int .i64 x22_1,.int .i64 x251002_1]) ?_ 2 _ rfl;refine bP ?_;refine blk_put (cs := #[.int .i64 6,.int .i64 x251001_1,.int .i64 x251002_1]) ?_ 1 _ rfl;refine bP ?_;refine blk_put (cs := #[.int .i64 x251000_1,.int .i64 x251001_1,.int .i64 x251002_1]) ?_ 0 _ rfl;refine bP ?_;refine blk_far ?_ NB250_249.out _;refine bP ?_;refine blk_far ?_ NB250_249.out _;refine bP ?_;refine blk_far ?_ NB250_249.out _;refine bP ?_;refine blk_far ?_ NB250_249.out _;refine bP ?_;refine blk_far ?_ NB250_249.out _;refine bP ?_;refine blk_far ?_ NB250_249.out _;refine bP ?_;refine blk_far ?_ NB250_249.out _;refine bP ?_;refine blk_far ?_ NB250_249.out _;refine bP ?_;exact BK250.out) Tryd.underlying26 rfl Z133) rfl ?_
    exact ⟨_,Z107,Z86,Z139⟩
   replace c31 := Bool.eq_false_iff.mpr c31
   subst c31
   rw [if_neg Bool.false_ne_true] at H
   obtain ⟨⟨t280,t281,t282,t283,t284,t285,t286,t287,t288⟩,A500,H⟩ := Option.bind_eq_some_iff.mp H
   try dsimp only at H
   have A50 := Aside0.mk A500
   clear A500
   by_cases c51 : t280 = 0
   ·rw [if_pos c51] at H
    have c51b0 : (t280 == 0) = true := beq_iff_eq.mpr c51
    have c51b1 : (t280 != 0) = false := bne_eq_false_iff_eq.mpr c51
    clear c51
    obtain ⟨c52,H⟩ := ifp H
    have LMc52 := Aside0.mk c52
    clear c52
    obtain ⟨y291,hyy⟩ : ∃ y_ : List ByteArray,y_ = (x5_1 ++ [t269]) := ⟨_,rfl⟩
    replace H : (impl_ReadConfig.l0 k1 y291 t265 (t265.length : Int) (wrap64 (x22_1 + 1)) t281 t282 t283 t284 t285 t286 t287 t288) = some (r1,r2,r3,r4,r5,r6,r7,r8,r9,r10,r11) := zR
    have Ny291 := Aside0.mk hyy
    clear hyy
    have H' := Aside0.mk H
    clear H
    have p268 : 0 ≤ (x22_1 : Int) := of_decide_eq_true Z117
    have q268 : x22_1 < (t265.length : Int) := of_decide_eq_true Z117
    obtain ⟨ad268,e268,hx268_0⟩ := Kd.at_string (Kd.R_reads' HO_20.out).2.2 x22_1 p268 q268
    cases e268
    replace p268 := eq_true p268
    replace q268 := eq_true q268
    go_wp2_with (first | ((with_reducible refine gate_callee (f := 16) rfl ?_);refine goesL_ (some 31) rfl rfl Tryd.func16 Z133 rfl #[.string (rdOf ByteArray.empty t265 x22_1),.string (⟨#[61]⟩ : ByteArray)] rfl Z87 ?_;(with_reducible refine (strings_Cut.calls (rdOf ByteArray.empty t265 x22_1) (⟨#[61]⟩ : ByteArray) t269 t270 true _ ?side1 A26.out).mono ?_);(case side1 => exact Z50);rintro e w53 ⟨rfl,hb⟩;refine ⟨_,rfl,?_⟩;have n_ := Z9;clear HO_5 HO_20 HO_265007 BK249 BK250 BK264 HB;obtain ⟨HO_5,HO_20,HO_265007,BK249,BK250,BK264,HB⟩ := n_;(try clear hb);(try clear hb2);(try clear hk);(try clear hi)) | ((with_reducible refine gate_dst (N := 42) rfl ?_);refine Kd.R_lit Kd.string _ 9 ?hg (N := 42) ?hd (xs := ([(⟨#[114,111,117,110,100,115]⟩ : ByteArray),(⟨#[100,101,112,116,104]⟩ : ByteArray),(⟨#[98,105,110,115]⟩ : ByteArray),(⟨#[108,97,109,98,100,97]⟩ : ByteArray),(⟨#[114,111,119,115]⟩ : ByteArray),(⟨#[114,97,116,101]⟩ : ByteArray),(⟨#[115,105,103,110,115]⟩ : ByteArray)] : List ByteArray)) (inner := [.string (⟨#[114,111,117,110,100,115]⟩ : ByteArray),.string (⟨#[100,101,112,116,104]⟩ : ByteArray),.string (⟨#[98,105,110,115]⟩ : ByteArray),.string (⟨#[108,97,109,98,100,97]⟩ : ByteArray),.string (⟨#[114,111,119,115]⟩ : ByteArray),.string (⟨#[114,97,116,101]⟩ : ByteArray),.string (⟨#[115,105,103,110,115]⟩ : ByteArray)]) (ok := fun _ => True) (okp := fun _ => True) ?hr ?hp (fun _ hk => hk) trivial (Below.refl _ _) (Nat.le_refl _) Z181 ?_;(case hd => rfl);(case hg => rfl);(case hr => exact Z119);(case hp => exact Z18);intro v273 w54 ho55 hb hg_ hnew_;clear hg_ hnew_;(first | rw [← Ny272.out] at ho55 | (simp only [Int.reduceToNat] at ho55;rw [← Ny272.out] at ho55));have n_ := jA (Kd.R_elder' Z166 (Kd.R_base ho55) hb) (jA (Kd.R_elder' Z163 (Kd.R_base ho55) hb) (jA (Kd.R_below Z161 hb) (jA (Kd.R_lower (Kd.R_new' (Kd.R_new' ho55 (Kd.R_lt Z166)) (Kd.R_lt Z163)) (below_size Z139)) (jA (blk_below (g := gb249) (o := .cells #[.int .i64 x250000_1,.int .i64 x250001_1,.int .i64 x250002_1,.int .i64 x250003_1,.int .i64 x250004_1,.int .i64 x250005_1,.int .i64 x250006_1,.slice none 0 0] 24 (0,0)) Z189 hb) (jA (blk_below (g := gb250) (o := .cells #[.int .i64 x251000_1,.int .i64 x251001_1,.int .i64 x251002_1] 26 (0,0)) Z174 hb) (jA (blk_below (g := gb264) (o := .cells #[.int .i64 x265000_1,.int .i64 x265001_1,.int .i64 x265002_1,.int .i64 x265003_1,.int .i64 x265004_1,.int .i64 x265005_1,.int .i64 x265006_1,u265007] 24 (0,0)) Z176 hb) (Aside0.mk (below_step Z139 hb))))))));clear HO_5 HO_20 HO_265007 BK249 BK250 BK264 HB;obtain ⟨HO_5,HO_20,HO_265007,HO274,BK249,BK250,BK264,HB⟩ := n_;clear hb ho55;obtain ⟨Ao56,co56,eo56⟩ := Kd.R_slice HO274.out;subst eo56) | ((with_reducible refine gate_callee (f := 17) rfl ?_);refine goesL_ (some 44) rfl rfl Tryd.func17 Z133 rfl #[.slice Ao56 y272.length co56,.string t269] rfl Z87 ?_;(with_reducible refine (slices_Contains_string_string.calls k1 _ _ y272 t269 true _ ?side1 ?side2 A28.out).mono ?_);(case side1 => exact Z68);(case side2 => exact Z122);rintro e w' ⟨rfl,⟨nd,rfl⟩⟩;refine ⟨_,rfl,?_⟩;obtain ⟨Ao57,co57,eo57⟩ := Kd.R_slice HO_5.out;subst eo57) | ((with_reducible refine gate_callee (f := 17) rfl ?_);refine goesL_ (some 49) rfl rfl Tryd.func17 Z133 rfl #[.slice Ao57 x5_1.length co57,.string t269] rfl Z87 ?_;(with_reducible refine (slices_Contains_string_string.calls k1 _ _ x5_1 t269 false _ ?side1 ?side2 A30.out).mono ?_);(case side1 => exact Z69);(case side2 => exact (Kd.R_reads' HO_5.out).2.1);rintro e w' ⟨rfl,⟨nd,rfl⟩⟩;refine ⟨_,rfl,?_⟩) | ((with_reducible refine gate_callee (f := 18) rfl ?_);refine goesL_ (some 37) rfl rfl Tryd.func18 Z133 rfl #[.pointer (some ⟨gb264,0,none⟩),.string t269,.string t270] rfl Z87 ?_;(with_reducible refine (impl_Config_set.calls k1 gb264 x265000_1 x265001_1 x265002_1 x265003_1 x265004_1 x265005_1 x265006_1 x265007_1 u265007 t269 t270 t280 t281 t282 t283 t284 t285 t286 t287 t288 w _ ?side1 ?side2 ?side3 ?side4 ?side5 A50.out).mono ?_);(case side1 => exact GE264.out);(case side2 => exact Z176);(case side3 => exact Z89);(case side4 => exact Z139);(case side5 => exact HG.out);rintro e w58 ⟨v289,rfl,hi,hy,hb,hk⟩;refine ⟨_,rfl,?_⟩;have n_ := Z12;clear HO_5 HO_20 BK249 BK250 HO274 HB BK264 HO_265007;obtain ⟨HO_5,HO_20,BK249,BK250,HO274,HB,BK264,HO290⟩ := n_;(try clear hb);(try clear hk);(try clear hi);(try clear hy)) | ((with_reducible refine gate_builtin (b := .append) (xs := #[.tmp 56,.tmp 58]) rfl ?_);at_builtin;refine Kd.R_append Kd.string (w0 := w) w.heap.size rfl (.tmp 56) (.tmp 58) 35 9 (.string ⟨#[]⟩) 16 rfl Tryd.underlying35 info9 rfl Z180 Z134 (.slice Ao57 x5_1.length co57) x5_1 t269 [.string t269] (fun k_ => some k_ ≠ (.slice (some ad268) t265.length co21 : Value).ownBlock ∧ some k_ ≠ (.slice Ao56 y272.length co56 : Value).ownBlock) (fun _ => False) rfl rfl ?aP (fun _ hk => hk.elim) ?aF ?aO ?aB ?aS ?aL ?_;(case aP => exact rfl);(case aB => exact Z139);(case aF => exact (fun k_ hk => ⟨Kd.fresh' (Kd.R_lt Z163) k_ hk,Kd.fresh' (Kd.R_lt Z165) k_ hk⟩));(case aO => exact Z91);(case aS => exact (below_size Z139));(case aL => have := LMc52.out;omega);intro v292 w59 ho hb hg hat;rw [← Ny291.out] at ho;have n_ := jA (Kd.R_after (ok := (fun k_ => some k_ ≠ (.slice Ao56 y272.length co56 : Value).ownBlock)) Z159 hg hat) (jA (blk_grown (g := gb249) (o := .cells #[.int .i64 x250000_1,.int .i64 x250001_1,.int .i64 x250002_1,.int .i64 x250003_1,.int .i64 x250004_1,.int .i64 x250005_1,.int .i64 x250006_1,.slice none 0 0] 24 (0,0)) Z189 hg (Kd.R_ne HO_5.out BK249.out Z180)) (jA (blk_grown (g := gb250) (o := .cells #[.int .i64 x251000_1,.int .i64 x251001_1,.int .i64 x251002_1] 26 (0,0)) Z174 hg (Kd.R_ne HO_5.out BK250.out Z180)) (jA (blk_grown (g := gb264) (o := .cells #[.int .i64 t281,.int .i64 t282,.int .i64 t283,.int .i64 t284,.int .i64 t285,.int .i64 t286,.int .i64 t287,v289] 24 (0,0)) Z176 hg (Kd.R_ne HO_5.out BK264.out Z180)) (jA (Kd.R_after (ok := (fun k_ => some k_ ≠ (.slice (some ad268) t265.length co21 : Value).ownBlock)) Z158 hg hat) (jA (Kd.R_over' Z103 (Kd.R_typed Z166) Z180 hg) (jA (hb) (Aside0.mk (ho))))))));clear HO_20 BK249 BK250 BK264 HO274 HO290 HB HO_5;obtain ⟨HO_20,BK249,BK250,BK264,HO274,HO290,HB,HO293⟩ := n_;clear ho hb hg hat))
    go_roundg k1
    case measure => have := HK1.out;omega
    case rel => exact ⟨(y291),(wrap64 (x22_1 + 1)),(x250000_1),(x250001_1),(x250002_1),(x250003_1),(x250004_1),(x250005_1),(x250006_1),(x251000_1),(x251001_1),(x251002_1),(t281),(t282),(t283),(t284),(t285),(t286),(t287),(t288),(v289),Z118,H',⟨Z129⟩,⟨by (with_reducible repeat (first | apply Kd.R_alloc | apply Kd.R_drewN | apply Kd.R_drew));exact Kd.R_mono HO293.out (fun _ hk => hk.1)⟩,⟨by (with_reducible repeat (first | apply Kd.R_alloc | apply Kd.R_drewN | apply Kd.R_drew));exact Kd.R_mono HO_20.out (fun _ hk => hk.2)⟩,⟨Z103⟩,⟨Z189⟩,⟨Z174⟩,⟨Z176⟩,⟨Z139⟩⟩
   rw [if_neg c51] at H
   have c51b0 : (t280 == 0) = false := beq_eq_false_iff_ne.mpr c51
   have c51b1 : (t280 != 0) = true := bne_iff_ne.mpr c51
   simp only [Option.some.injEq,Prod.mk.injEq] at H
   obtain ⟨rfl,rfl,rfl,rfl,rfl,rfl,rfl,rfl,rfl,rfl,rfl⟩ := H
   have p268 : 0 ≤ (x22_1 : Int) := of_decide_eq_true Z117
   have q268 : x22_1 < (t265.length : Int) := of_decide_eq_true Z117
   obtain ⟨ad268,e268,hx268_0⟩ := Kd.at_string (Kd.R_reads' HO_20.out).2.2 x22_1 p268 q268
   cases e268
   replace p268 := eq_true p268
   replace q268 := eq_true q268
   go_wp2_with (first | ((with_reducible refine gate_callee (f := 16) rfl ?_);refine goesL_ (some 31) rfl rfl Tryd.func16 Z133 rfl #[.string (rdOf ByteArray.empty t265 x22_1),.string (⟨#[61]⟩ : ByteArray)] rfl Z87 ?_;(with_reducible refine (strings_Cut.calls (rdOf ByteArray.empty t265 x22_1) (⟨#[61]⟩ : ByteArray) t269 t270 true _ ?side1 A26.out).mono ?_);(case side1 => exact Z50);rintro e wq1 ⟨rfl,hb⟩;refine ⟨_,rfl,?_⟩;have n_ := Z9;clear HO_5 HO_20 HO_265007 BK249 BK250 BK264 HB;obtain ⟨HO_5,HO_20,HO_265007,BK249,BK250,BK264,HB⟩ := n_;(try clear hb);(try clear hb2);(try clear hk);(try clear hi)) | ((with_reducible refine gate_dst (N := 42) rfl ?_);refine Kd.R_lit Kd.string _ 9 ?hg (N := 42) ?hd (xs := ([(⟨#[114,111,117,110,100,115]⟩ : ByteArray),(⟨#[100,101,112,116,104]⟩ : ByteArray),(⟨#[98,105,110,115]⟩ : ByteArray),(⟨#[108,97,109,98,100,97]⟩ : ByteArray),(⟨#[114,111,119,115]⟩ : ByteArray),(⟨#[114,97,116,101]⟩ : ByteArray),(⟨#[115,105,103,110,115]⟩ : ByteArray)] : List ByteArray)) (inner := [.string (⟨#[114,111,117,110,100,115]⟩ : ByteArray),.string (⟨#[100,101,112,116,104]⟩ : ByteArray),.string (⟨#[98,105,110,115]⟩ : ByteArray),.string (⟨#[108,97,109,98,100,97]⟩ : ByteArray),.string (⟨#[114,111,119,115]⟩ : ByteArray),.string (⟨#[114,97,116,101]⟩ : ByteArray),.string (⟨#[115,105,103,110,115]⟩ : ByteArray)]) (ok := fun _ => True) (okp := fun _ => True) ?hr ?hp (fun _ hk => hk) trivial (Below.refl _ _) (Nat.le_refl _) Z181 ?_;(case hd => rfl);(case hg => rfl);(case hr => exact Z119);(case hp => exact Z18);intro vq2 wq3 hoq4 hb hg_ hnew_;clear hg_ hnew_;(first | rw [← Ny272.out] at hoq4 | (simp only [Int.reduceToNat] at hoq4;rw [← Ny272.out] at hoq4));have n_ := Z1;clear HO_5 HO_20 HO_265007 BK249 BK250 BK264 HB;obtain ⟨HO_5,HO_20,HO_265007,HO274,BK249,BK250,BK264,HB⟩ := n_;clear hb hoq4;obtain ⟨Aoq5,coq5,eoq5⟩ := Kd.R_slice HO274.out;subst eoq5) | ((with_reducible refine gate_callee (f := 17) rfl ?_);refine goesL_ (some 44) rfl rfl Tryd.func17 Z133 rfl #[.slice Aoq5 y272.length coq5,.string t269] rfl Z87 ?_;(with_reducible refine (slices_Contains_string_string.calls k1 _ _ y272 t269 true _ ?side1 ?side2 A28.out).mono ?_);(case side1 => exact Z68);(case side2 => exact Z122);rintro e w' ⟨rfl,⟨nd,rfl⟩⟩;refine ⟨_,rfl,?_⟩;(iterate 4 (try (rw [drewN_self wq3];generalize hq_ : World.drewN wq3 _ = wq3;have n0_ : Aside0 (Kd.R Kd.string 9 wq3 w.heap.size (fun k_ => some k_ ≠ (.slice (some ad268) t265.length co21 : Value).ownBlock ∧ some k_ ≠ (u5 : Value).ownBlock) (.slice Aoq5 y272.length coq5) y272) := ⟨Z70⟩;have n1_ : Aside0 (Kd.R Kd.string 9 wq3 w.heap.size (fun k_ => some k_ ≠ (.slice Aoq5 y272.length coq5 : Value).ownBlock ∧ some k_ ≠ (u5 : Value).ownBlock) (.slice (some ad268) t265.length co21) t265) := ⟨Z74⟩;have n2_ : Aside0 (Kd.R (Kd.int .i64) 3 wq3 w.heap.size (fun _ => True) u265007 x265007_1) := ⟨Z88⟩;have n3_ : Aside0 (Kd.R Kd.string 9 wq3 w.heap.size (fun k_ => some k_ ≠ (.slice Aoq5 y272.length coq5 : Value).ownBlock ∧ some k_ ≠ (.slice (some ad268) t265.length co21 : Value).ownBlock) u5 x5_1) := ⟨Z75⟩;have n4_ : Aside0 (wq3.heap[gb249]? = some (.cells #[.int .i64 x250000_1,.int .i64 x250001_1,.int .i64 x250002_1,.int .i64 x250003_1,.int .i64 x250004_1,.int .i64 x250005_1,.int .i64 x250006_1,.slice none 0 0] 24 (0,0))) := ⟨Z115⟩;have n5_ : Aside0 (wq3.heap[gb250]? = some (.cells #[.int .i64 x251000_1,.int .i64 x251001_1,.int .i64 x251002_1] 26 (0,0))) := ⟨Z114⟩;have n6_ : Aside0 (wq3.heap[gb264]? = some (.cells #[.int .i64 x265000_1,.int .i64 x265001_1,.int .i64 x265002_1,.int .i64 x265003_1,.int .i64 x265004_1,.int .i64 x265005_1,.int .i64 x265006_1,u265007] 24 (0,0))) := ⟨Z113⟩;have n7_ : Aside0 (Below w.heap.size w wq3) := ⟨Z51⟩;clear HO274 HO_20 HO_265007 HO_5 BK249 BK250 BK264 HB hq_;have HO274 := n0_;have HO_20 := n1_;have HO_265007 := n2_;have HO_5 := n3_;have BK249 := n4_;have BK250 := n5_;have BK264 := n6_;have HB := n7_;clear n0_ n1_ n2_ n3_ n4_ n5_ n6_ n7_)));obtain ⟨Aoq6,coq6,eoq6⟩ := Kd.R_slice HO_5.out;subst eoq6) | ((with_reducible refine gate_callee (f := 17) rfl ?_);refine goesL_ (some 49) rfl rfl Tryd.func17 Z133 rfl #[.slice Aoq6 x5_1.length coq6,.string t269] rfl Z87 ?_;(with_reducible refine (slices_Contains_string_string.calls k1 _ _ x5_1 t269 false _ ?side1 ?side2 A30.out).mono ?_);(case side1 => exact Z69);(case side2 => exact (Kd.R_reads' HO_5.out).2.1);rintro e w' ⟨rfl,⟨nd,rfl⟩⟩;refine ⟨_,rfl,?_⟩;(iterate 4 (try (rw [drewN_self wq3];generalize hq_ : World.drewN wq3 _ = wq3;have n0_ : Aside0 (Kd.R Kd.string 9 wq3 w.heap.size (fun k_ => some k_ ≠ (.slice (some ad268) t265.length co21 : Value).ownBlock ∧ some k_ ≠ (.slice Aoq6 x5_1.length coq6 : Value).ownBlock) (.slice Aoq5 y272.length coq5) y272) := ⟨Z70⟩;have n1_ : Aside0 (Kd.R Kd.string 9 wq3 w.heap.size (fun k_ => some k_ ≠ (.slice Aoq5 y272.length coq5 : Value).ownBlock ∧ some k_ ≠ (.slice Aoq6 x5_1.length coq6 : Value).ownBlock) (.slice (some ad268) t265.length co21) t265) := ⟨Z74⟩;have n2_ : Aside0 (Kd.R (Kd.int .i64) 3 wq3 w.heap.size (fun _ => True) u265007 x265007_1) := ⟨Z88⟩;have n3_ : Aside0 (Kd.R Kd.string 9 wq3 w.heap.size (fun k_ => some k_ ≠ (.slice Aoq5 y272.length coq5 : Value).ownBlock ∧ some k_ ≠ (.slice (some ad268) t265.length co21 : Value).ownBlock) (.slice Aoq6 x5_1.length coq6) x5_1) := ⟨Z75⟩;have n4_ : Aside0 (wq3.heap[gb249]? = some (.cells #[.int .i64 x250000_1,.int .i64 x250001_1,.int .i64 x250002_1,.int .i64 x250003_1,.int .i64 x250004_1,.int .i64 x250005_1,.int .i64 x250006_1,.slice none 0 0] 24 (0,0))) := ⟨Z115⟩;have n5_ : Aside0 (wq3.heap[gb250]? = some (.cells #[.int .i64 x251000_1,.int .i64 x251001_1,.int .i64 x251002_1] 26 (0,0))) := ⟨Z114⟩;have n6_ : Aside0 (wq3.heap[gb264]? = some (.cells #[.int .i64 x265000_1,.int .i64 x265001_1,.int .i64 x265002_1,.int .i64 x265003_1,.int .i64 x265004_1,.int .i64 x265005_1,.int .i64 x265006_1,u265007] 24 (0,0))) := ⟨Z113⟩;have n7_ : Aside0 (Below w.heap.size w wq3) := ⟨Z51⟩;clear HO274 HO_20 HO_265007 HO_5 BK249 BK250 BK264 HB hq_;have HO274 := n0_;have HO_20 := n1_;have HO_265007 := n2_;have HO_5 := n3_;have BK249 := n4_;have BK250 := n5_;have BK264 := n6_;have HB := n7_;clear n0_ n1_ n2_ n3_ n4_ n5_ n6_ n7_)))) | ((with_reducible refine gate_callee (f := 18) rfl ?_);refine goesL_ (some 37) rfl rfl Tryd.func18 Z133 rfl #[.pointer (some ⟨gb264,0,none⟩),.string t269,.string t270] rfl Z87 ?_;(with_reducible refine (impl_Config_set.calls k1 gb264 x265000_1 x265001_1 x265002_1 x265003_1 x265004_1 x265005_1 x265006_1 x265007_1 u265007 t269 t270 t280 t281 t282 t283 t284 t285 t286 t287 t288 w _ ?side1 ?side2 ?side3 ?side4 ?side5 A50.out).mono ?_);(case side1 => exact GE264.out);(case side2 => exact Z176);(case side3 => exact Z89);(case side4 => exact Z139);(case side5 => exact HG.out);rintro e wq7 ⟨vq8,rfl,hi,hy,hb,hk⟩;refine ⟨_,rfl,?_⟩;have n_ := Z12;clear HO_5 HO_20 BK249 BK250 HO274 HB BK264 HO_265007;obtain ⟨HO_5,HO_20,BK249,BK250,HO274,HB,BK264,HO290⟩ := n_;(try clear hb);(try clear hk);(try clear hi);(try clear hy);have hnbq9 := NB249_250.out;have hncq9 := NB250_249.out;have hnbq10 := NB249_264.out;have hncq10 := NB264_249.out;obtain ⟨hczq11_0,hczq11_1,hczq11_2,hczq11_3,hczq11_4,hczq11_5,hczq11_6,hczq11_7,hfzq11_0,hfzq11_1,hfzq11_2,hfzq11_3,hfzq11_4,hfzq11_5,hfzq11_6,hfzq11_7⟩ := cells8 BK249.out;have hnbq12 := NB250_264.out;have hncq12 := NB264_250.out;obtain ⟨hczq13_0,hczq13_1,hczq13_2,hfzq13_0,hfzq13_1,hfzq13_2⟩ := cells3 BK250.out))
   refine bodyPost_ret (results_cc rfl _ _ gb249 gb250 24 26 #[.int .i64 0,.int .i64 0,.int .i64 0,.int .i64 0,.int .i64 0,.int .i64 0,.int .i64 0,.slice none 0 0] #[.int .i64 t280,.int .i64 x22_1,.int .i64 0] (0,0) (0,0) _ _ rfl Z2 Tryd.underlying24 rfl Z133 rfl (by refine bP ?_;refine blk_put (cs := #[.int .i64 t280,.int .i64 x22_1,.int .i64 x251002_1]) ?_ 2 _ rfl;refine bP ?_;refine blk_put (cs := #[.int .i64 t280,.int .i64 x251001_1,.int .i64 x251002_1]) ?_ 1 _ rfl;refine bP ?_;refine blk_put (cs := #[.int .i64 x251000_1,.int .i64 x251001_1,.int .i64 x251002_1]) ?_ 0 _ rfl;refine bP ?_;refine blk_far ?_ NB250_249.out _;refine bP ?_;refine blk_far ?_ NB250_249.out _;refine bP ?_;refine blk_far ?_ NB250_249.out _;refine bP ?_;refine blk_far ?_ NB250_249.out _;refine bP ?_;refine blk_far ?_ NB250_249.out _;refine bP ?_;refine blk_far ?_ NB250_249.out _;refine bP ?_;refine blk_far ?_ NB250_249.out _;refine bP ?_;refine blk_far ?_ NB250_249.out _;refine bP ?_;exact BK250.out) Tryd.underlying26 rfl Z133) rfl ?_
   exact ⟨_,Z107,Z86,Z139⟩

/-! ### laws_eqIntS: function 19 -/
def laws_eqIntS.l0 : Nat → List Int → List Int → Int → Option (Bool)
 | 0,_,_,_ => none
 | k + 1,x0,x1,x5 => if x5 < (x0.length : Int) then (if 0 ≤ x5 then (if x5 < (x1.length : Int) then (if (rd x0 x5) = (rd x1 x5) then (laws_eqIntS.l0 k x0 x1 (wrap64 (x5 + 1))) else (some false)) else (none)) else (none)) else (some true)
def laws_eqIntS.f (k : Nat) (l0 : List Int) (l1 : List Int) : Option (Bool) := if (l0.length : Int) = (l1.length : Int) then (laws_eqIntS.l0 k l0 l1 0) else (some false)
theorem laws_eqIntS.mono_l : ∀ k,(∀ y0 y1 y2,LeO (laws_eqIntS.l0 k y0 y1 y2) (laws_eqIntS.l0 (k + 1) y0 y1 y2))
 | 0 => fun _ _ _ r h => by simp [laws_eqIntS.l0] at h
 | k + 1 => by
  have ih0 := laws_eqIntS.mono_l k
  ·intro y0 y1 y2
   unfold laws_eqIntS.l0
   repeat' first
   | (with_reducible exact ih0 _ _ _)
   | (with_reducible exact LeO.refl _)
   | (with_reducible exact LeO.none _)
   | (with_reducible refine LeO.ite ?_ ?_)
   | (with_reducible refine LeO.bind ?_ (fun _ => ?_))
   | exact ih0 _ _ _
   | exact LeO.none _
   | refine LeO.ite ?_ ?_
   | refine LeO.bind ?_ (fun _ => ?_)
theorem laws_eqIntS.mono : ∀ a0 a1 k,LeO (laws_eqIntS.f k a0 a1) (laws_eqIntS.f (k + 1) a0 a1) := by
 intro a0 a1 k
 have ih0 := laws_eqIntS.mono_l k
 unfold laws_eqIntS.f
 repeat' first
   | (with_reducible exact ih0 _ _ _)
   | (with_reducible exact LeO.refl _)
   | (with_reducible exact LeO.none _)
   | (with_reducible refine LeO.ite ?_ ?_)
   | (with_reducible refine LeO.bind ?_ (fun _ => ?_))
   | exact ih0 _ _ _
   | exact LeO.none _
   | refine LeO.ite ?_ ?_
   | refine LeO.bind ?_ (fun _ => ?_)
set_option maxHeartbeats 8000000 in
set_option maxRecDepth 100000 in
theorem laws_eqIntS.calls (k : Nat) (A0 : Option Addr) (c0 : Nat) (l0 : List Int) (A1 : Option Addr) (c1 : Nat) (l1 : List Int) (r : Bool) (w : World) (hr0 : Kd.C (Kd.int .i64) w A0 l0.length l0) (hc0 : l0.length ≤ c0) (hr1 : Kd.C (Kd.int .i64) w A1 l1.length l1) (hc1 : l1.length ≤ c1) (h : laws_eqIntS.f k l0 l1 = some r) :
  Calls Tryd.prog 19 #[.slice A0 l0.length c0,.slice A1 l1.length c1] w fun e w' => e = .returned (.bool r) ∧ Drawn0 w w' := by
 have HR0 := Aside0.mk hr0
 have HC0 := Aside0.mk hc0
 clear hr0 hc0
 have HR1 := Aside0.mk hr1
 have HC1 := Aside0.mk hc1
 clear hr1 hc1
 have H := h
 clear h
 unfold laws_eqIntS.f at H
 by_cases c3 : (l0.length : Int) = (l1.length : Int)
 rotate_left
 ·rw [if_neg c3] at H
  have c3b0 : ((l0.length : Int) == (l1.length : Int)) = false := beq_eq_false_iff_ne.mpr c3
  have c3b1 : ((l0.length : Int) != (l1.length : Int)) = true := bne_iff_ne.mpr c3
  have c3b2 : (l0.length == l1.length) = false := by first | simpa using c3 | (simp at c3 ⊢;omega)
  obtain rfl := Option.some.inj H
  go_enter Tryd.func19,Tryd.ntmps19
  go_wp2
  repeat (go_quiet (fail);try go_wp2)
  go_ret
  exact ⟨Z118,Z112⟩
 rw [if_pos c3] at H
 have c3b0 : ((l0.length : Int) == (l1.length : Int)) = true := beq_iff_eq.mpr c3
 have c3b1 : ((l0.length : Int) != (l1.length : Int)) = false := bne_eq_false_iff_eq.mpr c3
 have c3b2 : (l0.length == l1.length) = true := by first | simpa using c3 | (simp at c3 ⊢;omega)
 clear c3
 have H' := Aside0.mk H
 clear H
 go_enter Tryd.func19,Tryd.ntmps19
 go_wp2
 repeat (go_quiet (fail);try go_wp2)
 go_loopg [5] k (fun kq v5 w' => ∃ (x5_1 : Int),v5 = .int .i64 x5_1 ∧ Aside0 (laws_eqIntS.l0 kq l0 l1 x5_1 = some r) ∧ Aside0 (kq ≤ k) ∧ Drawn0 w w')
 case atStart => exact ⟨(0),Z118,H',⟨Nat.le_refl _⟩,Z112⟩
 case round =>
  clear H'
  try clear c1
  try clear p2
  try clear c3
  try clear c3b0
  try clear c3b1
  try clear c3b2
  obtain ⟨x5_1,rfl,HA,HK1,⟨m1,rfl⟩⟩ := hrel
  cases gk with
  | zero => exact absurd HA.out (by simp [laws_eqIntS.l0])
  | succ k1 =>
   have H := HA.out
   clear HA
   simp only [laws_eqIntS.l0] at H
   by_cases c4 : x5_1 < (l0.length : Int)
   rotate_left
   ·rw [if_neg c4] at H
    have c4b0 : decide (x5_1 < (l0.length : Int)) = false := decide_eq_false c4
    clear c4
    obtain rfl := Option.some.inj H
    go_wp2
    repeat (go_quiet (fail);try go_wp2)
    go_ret
    exact ⟨Z118,Z112⟩
   rw [if_pos c4] at H
   have c4b0 : decide (x5_1 < (l0.length : Int)) = true := decide_eq_true c4
   clear c4
   obtain ⟨c5,H⟩ := ifp H
   have c5b0 : decide (0 ≤ x5_1) = true := decide_eq_true c5
   clear c5
   obtain ⟨c6,H⟩ := ifp H
   have c6b0 : decide (x5_1 < (l1.length : Int)) = true := decide_eq_true c6
   clear c6
   by_cases c7 : (rd l0 x5_1) = (rd l1 x5_1)
   rotate_left
   ·rw [if_neg c7] at H
    have c7b0 : ((rd l0 x5_1) == (rd l1 x5_1)) = false := beq_eq_false_iff_ne.mpr c7
    have c7b1 : ((rd l0 x5_1) != (rd l1 x5_1)) = true := bne_iff_ne.mpr c7
    obtain rfl := Option.some.inj H
    have p300 : 0 ≤ (x5_1 : Int) := of_decide_eq_true Z117
    have q300 : x5_1 < (l0.length : Int) := of_decide_eq_true Z117
    obtain ⟨ad300,e300,hx300_0⟩ := Kd.at_int HR0.out x5_1 p300 q300
    cases e300
    replace p300 := eq_true p300
    replace q300 := eq_true q300
    have p301 : 0 ≤ (x5_1 : Int) := of_decide_eq_true Z117
    have q301 : x5_1 < (l1.length : Int) := of_decide_eq_true Z117
    obtain ⟨ad301,e301,hx301_0⟩ := Kd.at_int HR1.out x5_1 p301 q301
    cases e301
    replace p301 := eq_true p301
    replace q301 := eq_true q301
    go_wp2
    repeat (go_quiet (fail);try go_wp2)
    go_ret
    exact ⟨Z118,Z112⟩
   rw [if_pos c7] at H
   have c7b0 : ((rd l0 x5_1) == (rd l1 x5_1)) = true := beq_iff_eq.mpr c7
   have c7b1 : ((rd l0 x5_1) != (rd l1 x5_1)) = false := bne_eq_false_iff_eq.mpr c7
   clear c7
   have H' := Aside0.mk H
   clear H
   have p300 : 0 ≤ (x5_1 : Int) := of_decide_eq_true Z117
   have q300 : x5_1 < (l0.length : Int) := of_decide_eq_true Z117
   obtain ⟨ad300,e300,hx300_0⟩ := Kd.at_int HR0.out x5_1 p300 q300
   cases e300
   replace p300 := eq_true p300
   replace q300 := eq_true q300
   have p301 : 0 ≤ (x5_1 : Int) := of_decide_eq_true Z117
   have q301 : x5_1 < (l1.length : Int) := of_decide_eq_true Z117
   obtain ⟨ad301,e301,hx301_0⟩ := Kd.at_int HR1.out x5_1 p301 q301
   cases e301
   replace p301 := eq_true p301
   replace q301 := eq_true q301
   go_wp2
   repeat (go_quiet (fail);try go_wp2)
   go_roundg k1
   case measure => have := HK1.out;omega
   case rel => exact ⟨(wrap64 (x5_1 + 1)),Z118,H',⟨Z129⟩,Z112⟩

/-! ### laws_eqConfig: function 6 -/
def laws_eqConfig.f (k : Nat) (a0_0 : Int) (a0_1 : Int) (a0_2 : Int) (a0_3 : Int) (a0_4 : Int) (a0_5 : Int) (a0_6 : Int) (l0_7 : List Int) (a1_0 : Int) (a1_1 : Int) (a1_2 : Int) (a1_3 : Int) (a1_4 : Int) (a1_5 : Int) (a1_6 : Int) (l1_7 : List Int) : Option (Bool) := if a0_0 = a1_0 then (if a0_1 = a1_1 then (if a0_2 = a1_2 then (if a0_3 = a1_3 then (if a0_4 = a1_4 then (if a0_5 = a1_5 then (if a0_6 = a1_6 then ((laws_eqIntS.f k l0_7 l1_7).bind fun t304 => (if t304 = true then (some true) else (some false))) else (some false)) else (some false)) else (some false)) else (some false)) else (some false)) else (some false)) else (some false)
theorem laws_eqConfig.mono : ∀ a0 a1 a2 a3 a4 a5 a6 a7 a8 a9 a10 a11 a12 a13 a14 a15 k,LeO (laws_eqConfig.f k a0 a1 a2 a3 a4 a5 a6 a7 a8 a9 a10 a11 a12 a13 a14 a15) (laws_eqConfig.f (k + 1) a0 a1 a2 a3 a4 a5 a6 a7 a8 a9 a10 a11 a12 a13 a14 a15) := by
 intro a0 a1 a2 a3 a4 a5 a6 a7 a8 a9 a10 a11 a12 a13 a14 a15 k
 unfold laws_eqConfig.f
 repeat' first
   | (with_reducible exact laws_eqIntS.mono _ _ _)
   | (with_reducible exact LeO.refl _)
   | (with_reducible exact LeO.none _)
   | (with_reducible refine LeO.ite ?_ ?_)
   | (with_reducible refine LeO.bind ?_ (fun _ => ?_))
   | exact laws_eqIntS.mono _ _ _
   | exact LeO.none _
   | refine LeO.ite ?_ ?_
   | refine LeO.bind ?_ (fun _ => ?_)
set_option maxHeartbeats 8000000 in
set_option maxRecDepth 100000 in
theorem laws_eqConfig.calls (k : Nat) (a0_0 : Int) (a0_1 : Int) (a0_2 : Int) (a0_3 : Int) (a0_4 : Int) (a0_5 : Int) (a0_6 : Int) (A0_7 : Option Addr) (c0_7 : Nat) (l0_7 : List Int) (a1_0 : Int) (a1_1 : Int) (a1_2 : Int) (a1_3 : Int) (a1_4 : Int) (a1_5 : Int) (a1_6 : Int) (A1_7 : Option Addr) (c1_7 : Nat) (l1_7 : List Int) (r : Bool) (w : World) (hr0_7 : Kd.C (Kd.int .i64) w A0_7 l0_7.length l0_7) (hc0_7 : l0_7.length ≤ c0_7) (hr1_7 : Kd.C (Kd.int .i64) w A1_7 l1_7.length l1_7) (hc1_7 : l1_7.length ≤ c1_7) (h : laws_eqConfig.f k a0_0 a0_1 a0_2 a0_3 a0_4 a0_5 a0_6 l0_7 a1_0 a1_1 a1_2 a1_3 a1_4 a1_5 a1_6 l1_7 = some r) :
  Calls Tryd.prog 6 #[.agg #[.int .i64 a0_0,.int .i64 a0_1,.int .i64 a0_2,.int .i64 a0_3,.int .i64 a0_4,.int .i64 a0_5,.int .i64 a0_6,.slice A0_7 l0_7.length c0_7],.agg #[.int .i64 a1_0,.int .i64 a1_1,.int .i64 a1_2,.int .i64 a1_3,.int .i64 a1_4,.int .i64 a1_5,.int .i64 a1_6,.slice A1_7 l1_7.length c1_7]] w fun e w' => e = .returned (.bool r) ∧ Below w.heap.size w w' := by
 have hu24 := Tryd.underlying24
 have HR0_7 := Aside0.mk hr0_7
 have HC0_7 := Aside0.mk hc0_7
 clear hr0_7 hc0_7
 have HR1_7 := Aside0.mk hr1_7
 have HC1_7 := Aside0.mk hc1_7
 clear hr1_7 hc1_7
 have HB := Aside0.mk (Below.refl w.heap.size w)
 have H := h
 clear h
 unfold laws_eqConfig.f at H
 by_cases c3 : a0_0 = a1_0
 rotate_left
 ·rw [if_neg c3] at H
  have c3b0 : (a0_0 == a1_0) = false := beq_eq_false_iff_ne.mpr c3
  have c3b1 : (a0_0 != a1_0) = true := bne_iff_ne.mpr c3
  obtain rfl := Option.some.inj H
  go_enter Tryd.func6,Tryd.ntmps6
  go_wp2_with (first | ((with_reducible refine gate_dst (N := 2) rfl ?_);refine bE 2 #[.int .i64 a0_0,.int .i64 a0_1,.int .i64 a0_2,.int .i64 a0_3,.int .i64 a0_4,.int .i64 a0_5,.int .i64 a0_6,.slice A0_7 l0_7.length c0_7] 24 (h := ?_);intro gb302 hg wq1 hbox hb;have n_ := Z23;clear HB;obtain ⟨HB,BK302,GW302,GE302⟩ := n_;clear hb hbox hg) | ((with_reducible refine gate_dst (N := 3) rfl ?_);refine bE 3 #[.int .i64 a1_0,.int .i64 a1_1,.int .i64 a1_2,.int .i64 a1_3,.int .i64 a1_4,.int .i64 a1_5,.int .i64 a1_6,.slice A1_7 l1_7.length c1_7] 24 (h := ?_);intro gb303 hg wq2 hbox hb;have n_ := Z5;clear BK302 HB;obtain ⟨BK302,HB,BK303,GW303,GE303,NB302_303,NB303_302⟩ := n_;clear hb hbox hg;have hnbq3 := NB302_303.out;have hncq3 := NB303_302.out;obtain ⟨hczq4_0,hczq4_1,hczq4_2,hczq4_3,hczq4_4,hczq4_5,hczq4_6,hczq4_7,hfzq4_0,hfzq4_1,hfzq4_2,hfzq4_3,hfzq4_4,hfzq4_5,hfzq4_6,hfzq4_7⟩ := cells8 BK302.out;obtain ⟨hczq5_0,hczq5_1,hczq5_2,hczq5_3,hczq5_4,hczq5_5,hczq5_6,hczq5_7,hfzq5_0,hfzq5_1,hfzq5_2,hfzq5_3,hfzq5_4,hfzq5_5,hfzq5_6,hfzq5_7⟩ := cells8 BK303.out))
  go_ret
  exact ⟨Z107,Z61⟩
 rw [if_pos c3] at H
 have c3b0 : (a0_0 == a1_0) = true := beq_iff_eq.mpr c3
 have c3b1 : (a0_0 != a1_0) = false := bne_eq_false_iff_eq.mpr c3
 clear c3
 by_cases c4 : a0_1 = a1_1
 rotate_left
 ·rw [if_neg c4] at H
  have c4b0 : (a0_1 == a1_1) = false := beq_eq_false_iff_ne.mpr c4
  have c4b1 : (a0_1 != a1_1) = true := bne_iff_ne.mpr c4
  obtain rfl := Option.some.inj H
  go_enter Tryd.func6,Tryd.ntmps6
  go_wp2_with (first | ((with_reducible refine gate_dst (N := 2) rfl ?_);refine bE 2 #[.int .i64 a0_0,.int .i64 a0_1,.int .i64 a0_2,.int .i64 a0_3,.int .i64 a0_4,.int .i64 a0_5,.int .i64 a0_6,.slice A0_7 l0_7.length c0_7] 24 (h := ?_);intro gb302 hg wq1 hbox hb;have n_ := Z23;clear HB;obtain ⟨HB,BK302,GW302,GE302⟩ := n_;clear hb hbox hg) | ((with_reducible refine gate_dst (N := 3) rfl ?_);refine bE 3 #[.int .i64 a1_0,.int .i64 a1_1,.int .i64 a1_2,.int .i64 a1_3,.int .i64 a1_4,.int .i64 a1_5,.int .i64 a1_6,.slice A1_7 l1_7.length c1_7] 24 (h := ?_);intro gb303 hg wq2 hbox hb;have n_ := Z5;clear BK302 HB;obtain ⟨BK302,HB,BK303,GW303,GE303,NB302_303,NB303_302⟩ := n_;clear hb hbox hg;have hnbq3 := NB302_303.out;have hncq3 := NB303_302.out;obtain ⟨hczq4_0,hczq4_1,hczq4_2,hczq4_3,hczq4_4,hczq4_5,hczq4_6,hczq4_7,hfzq4_0,hfzq4_1,hfzq4_2,hfzq4_3,hfzq4_4,hfzq4_5,hfzq4_6,hfzq4_7⟩ := cells8 BK302.out;obtain ⟨hczq5_0,hczq5_1,hczq5_2,hczq5_3,hczq5_4,hczq5_5,hczq5_6,hczq5_7,hfzq5_0,hfzq5_1,hfzq5_2,hfzq5_3,hfzq5_4,hfzq5_5,hfzq5_6,hfzq5_7⟩ := cells8 BK303.out))
  go_ret
  exact ⟨Z107,Z61⟩
 rw [if_pos c4] at H
 have c4b0 : (a0_1 == a1_1) = true := beq_iff_eq.mpr c4
 have c4b1 : (a0_1 != a1_1) = false := bne_eq_false_iff_eq.mpr c4
 clear c4
 by_cases c5 : a0_2 = a1_2
 rotate_left
 ·rw [if_neg c5] at H
  have c5b0 : (a0_2 == a1_2) = false := beq_eq_false_iff_ne.mpr c5
  have c5b1 : (a0_2 != a1_2) = true := bne_iff_ne.mpr c5
  obtain rfl := Option.some.inj H
  go_enter Tryd.func6,Tryd.ntmps6
  go_wp2_with (first | ((with_reducible refine gate_dst (N := 2) rfl ?_);refine bE 2 #[.int .i64 a0_0,.int .i64 a0_1,.int .i64 a0_2,.int .i64 a0_3,.int .i64 a0_4,.int .i64 a0_5,.int .i64 a0_6,.slice A0_7 l0_7.length c0_7] 24 (h := ?_);intro gb302 hg wq1 hbox hb;have n_ := Z23;clear HB;obtain ⟨HB,BK302,GW302,GE302⟩ := n_;clear hb hbox hg) | ((with_reducible refine gate_dst (N := 3) rfl ?_);refine bE 3 #[.int .i64 a1_0,.int .i64 a1_1,.int .i64 a1_2,.int .i64 a1_3,.int .i64 a1_4,.int .i64 a1_5,.int .i64 a1_6,.slice A1_7 l1_7.length c1_7] 24 (h := ?_);intro gb303 hg wq2 hbox hb;have n_ := Z5;clear BK302 HB;obtain ⟨BK302,HB,BK303,GW303,GE303,NB302_303,NB303_302⟩ := n_;clear hb hbox hg;have hnbq3 := NB302_303.out;have hncq3 := NB303_302.out;obtain ⟨hczq4_0,hczq4_1,hczq4_2,hczq4_3,hczq4_4,hczq4_5,hczq4_6,hczq4_7,hfzq4_0,hfzq4_1,hfzq4_2,hfzq4_3,hfzq4_4,hfzq4_5,hfzq4_6,hfzq4_7⟩ := cells8 BK302.out;obtain ⟨hczq5_0,hczq5_1,hczq5_2,hczq5_3,hczq5_4,hczq5_5,hczq5_6,hczq5_7,hfzq5_0,hfzq5_1,hfzq5_2,hfzq5_3,hfzq5_4,hfzq5_5,hfzq5_6,hfzq5_7⟩ := cells8 BK303.out))
  go_ret
  exact ⟨Z107,Z61⟩
 rw [if_pos c5] at H
 have c5b0 : (a0_2 == a1_2) = true := beq_iff_eq.mpr c5
 have c5b1 : (a0_2 != a1_2) = false := bne_eq_false_iff_eq.mpr c5
 clear c5
 by_cases c6 : a0_3 = a1_3
 rotate_left
 ·rw [if_neg c6] at H
  have c6b0 : (a0_3 == a1_3) = false := beq_eq_false_iff_ne.mpr c6
  have c6b1 : (a0_3 != a1_3) = true := bne_iff_ne.mpr c6
  obtain rfl := Option.some.inj H
  go_enter Tryd.func6,Tryd.ntmps6
  go_wp2_with (first | ((with_reducible refine gate_dst (N := 2) rfl ?_);refine bE 2 #[.int .i64 a0_0,.int .i64 a0_1,.int .i64 a0_2,.int .i64 a0_3,.int .i64 a0_4,.int .i64 a0_5,.int .i64 a0_6,.slice A0_7 l0_7.length c0_7] 24 (h := ?_);intro gb302 hg wq1 hbox hb;have n_ := Z23;clear HB;obtain ⟨HB,BK302,GW302,GE302⟩ := n_;clear hb hbox hg) | ((with_reducible refine gate_dst (N := 3) rfl ?_);refine bE 3 #[.int .i64 a1_0,.int .i64 a1_1,.int .i64 a1_2,.int .i64 a1_3,.int .i64 a1_4,.int .i64 a1_5,.int .i64 a1_6,.slice A1_7 l1_7.length c1_7] 24 (h := ?_);intro gb303 hg wq2 hbox hb;have n_ := Z5;clear BK302 HB;obtain ⟨BK302,HB,BK303,GW303,GE303,NB302_303,NB303_302⟩ := n_;clear hb hbox hg;have hnbq3 := NB302_303.out;have hncq3 := NB303_302.out;obtain ⟨hczq4_0,hczq4_1,hczq4_2,hczq4_3,hczq4_4,hczq4_5,hczq4_6,hczq4_7,hfzq4_0,hfzq4_1,hfzq4_2,hfzq4_3,hfzq4_4,hfzq4_5,hfzq4_6,hfzq4_7⟩ := cells8 BK302.out;obtain ⟨hczq5_0,hczq5_1,hczq5_2,hczq5_3,hczq5_4,hczq5_5,hczq5_6,hczq5_7,hfzq5_0,hfzq5_1,hfzq5_2,hfzq5_3,hfzq5_4,hfzq5_5,hfzq5_6,hfzq5_7⟩ := cells8 BK303.out))
  go_ret
  exact ⟨Z107,Z61⟩
 rw [if_pos c6] at H
 have c6b0 : (a0_3 == a1_3) = true := beq_iff_eq.mpr c6
 have c6b1 : (a0_3 != a1_3) = false := bne_eq_false_iff_eq.mpr c6
 clear c6
 by_cases c7 : a0_4 = a1_4
 rotate_left
 ·rw [if_neg c7] at H
  have c7b0 : (a0_4 == a1_4) = false := beq_eq_false_iff_ne.mpr c7
  have c7b1 : (a0_4 != a1_4) = true := bne_iff_ne.mpr c7
  obtain rfl := Option.some.inj H
  go_enter Tryd.func6,Tryd.ntmps6
  go_wp2_with (first | ((with_reducible refine gate_dst (N := 2) rfl ?_);refine bE 2 #[.int .i64 a0_0,.int .i64 a0_1,.int .i64 a0_2,.int .i64 a0_3,.int .i64 a0_4,.int .i64 a0_5,.int .i64 a0_6,.slice A0_7 l0_7.length c0_7] 24 (h := ?_);intro gb302 hg wq1 hbox hb;have n_ := Z23;clear HB;obtain ⟨HB,BK302,GW302,GE302⟩ := n_;clear hb hbox hg) | ((with_reducible refine gate_dst (N := 3) rfl ?_);refine bE 3 #[.int .i64 a1_0,.int .i64 a1_1,.int .i64 a1_2,.int .i64 a1_3,.int .i64 a1_4,.int .i64 a1_5,.int .i64 a1_6,.slice A1_7 l1_7.length c1_7] 24 (h := ?_);intro gb303 hg wq2 hbox hb;have n_ := Z5;clear BK302 HB;obtain ⟨BK302,HB,BK303,GW303,GE303,NB302_303,NB303_302⟩ := n_;clear hb hbox hg;have hnbq3 := NB302_303.out;have hncq3 := NB303_302.out;obtain ⟨hczq4_0,hczq4_1,hczq4_2,hczq4_3,hczq4_4,hczq4_5,hczq4_6,hczq4_7,hfzq4_0,hfzq4_1,hfzq4_2,hfzq4_3,hfzq4_4,hfzq4_5,hfzq4_6,hfzq4_7⟩ := cells8 BK302.out;obtain ⟨hczq5_0,hczq5_1,hczq5_2,hczq5_3,hczq5_4,hczq5_5,hczq5_6,hczq5_7,hfzq5_0,hfzq5_1,hfzq5_2,hfzq5_3,hfzq5_4,hfzq5_5,hfzq5_6,hfzq5_7⟩ := cells8 BK303.out))
  go_ret
  exact ⟨Z107,Z61⟩
 rw [if_pos c7] at H
 have c7b0 : (a0_4 == a1_4) = true := beq_iff_eq.mpr c7
 have c7b1 : (a0_4 != a1_4) = false := bne_eq_false_iff_eq.mpr c7
 clear c7
 by_cases c8 : a0_5 = a1_5
 rotate_left
 ·rw [if_neg c8] at H
  have c8b0 : (a0_5 == a1_5) = false := beq_eq_false_iff_ne.mpr c8
  have c8b1 : (a0_5 != a1_5) = true := bne_iff_ne.mpr c8
  obtain rfl := Option.some.inj H
  go_enter Tryd.func6,Tryd.ntmps6
  go_wp2_with (first | ((with_reducible refine gate_dst (N := 2) rfl ?_);refine bE 2 #[.int .i64 a0_0,.int .i64 a0_1,.int .i64 a0_2,.int .i64 a0_3,.int .i64 a0_4,.int .i64 a0_5,.int .i64 a0_6,.slice A0_7 l0_7.length c0_7] 24 (h := ?_);intro gb302 hg wq1 hbox hb;have n_ := Z23;clear HB;obtain ⟨HB,BK302,GW302,GE302⟩ := n_;clear hb hbox hg) | ((with_reducible refine gate_dst (N := 3) rfl ?_);refine bE 3 #[.int .i64 a1_0,.int .i64 a1_1,.int .i64 a1_2,.int .i64 a1_3,.int .i64 a1_4,.int .i64 a1_5,.int .i64 a1_6,.slice A1_7 l1_7.length c1_7] 24 (h := ?_);intro gb303 hg wq2 hbox hb;have n_ := Z5;clear BK302 HB;obtain ⟨BK302,HB,BK303,GW303,GE303,NB302_303,NB303_302⟩ := n_;clear hb hbox hg;have hnbq3 := NB302_303.out;have hncq3 := NB303_302.out;obtain ⟨hczq4_0,hczq4_1,hczq4_2,hczq4_3,hczq4_4,hczq4_5,hczq4_6,hczq4_7,hfzq4_0,hfzq4_1,hfzq4_2,hfzq4_3,hfzq4_4,hfzq4_5,hfzq4_6,hfzq4_7⟩ := cells8 BK302.out;obtain ⟨hczq5_0,hczq5_1,hczq5_2,hczq5_3,hczq5_4,hczq5_5,hczq5_6,hczq5_7,hfzq5_0,hfzq5_1,hfzq5_2,hfzq5_3,hfzq5_4,hfzq5_5,hfzq5_6,hfzq5_7⟩ := cells8 BK303.out))
  go_ret
  exact ⟨Z107,Z61⟩
 rw [if_pos c8] at H
 have c8b0 : (a0_5 == a1_5) = true := beq_iff_eq.mpr c8
 have c8b1 : (a0_5 != a1_5) = false := bne_eq_false_iff_eq.mpr c8
 clear c8
 by_cases c9 : a0_6 = a1_6
 rotate_left
 ·rw [if_neg c9] at H
  have c9b0 : (a0_6 == a1_6) = false := beq_eq_false_iff_ne.mpr c9
  have c9b1 : (a0_6 != a1_6) = true := bne_iff_ne.mpr c9
  obtain rfl := Option.some.inj H
  go_enter Tryd.func6,Tryd.ntmps6
  go_wp2_with (first | ((with_reducible refine gate_dst (N := 2) rfl ?_);refine bE 2 #[.int .i64 a0_0,.int .i64 a0_1,.int .i64 a0_2,.int .i64 a0_3,.int .i64 a0_4,.int .i64 a0_5,.int .i64 a0_6,.slice A0_7 l0_7.length c0_7] 24 (h := ?_);intro gb302 hg wq1 hbox hb;have n_ := Z23;clear HB;obtain ⟨HB,BK302,GW302,GE302⟩ := n_;clear hb hbox hg) | ((with_reducible refine gate_dst (N := 3) rfl ?_);refine bE 3 #[.int .i64 a1_0,.int .i64 a1_1,.int .i64 a1_2,.int .i64 a1_3,.int .i64 a1_4,.int .i64 a1_5,.int .i64 a1_6,.slice A1_7 l1_7.length c1_7] 24 (h := ?_);intro gb303 hg wq2 hbox hb;have n_ := Z5;clear BK302 HB;obtain ⟨BK302,HB,BK303,GW303,GE303,NB302_303,NB303_302⟩ := n_;clear hb hbox hg;have hnbq3 := NB302_303.out;have hncq3 := NB303_302.out;obtain ⟨hczq4_0,hczq4_1,hczq4_2,hczq4_3,hczq4_4,hczq4_5,hczq4_6,hczq4_7,hfzq4_0,hfzq4_1,hfzq4_2,hfzq4_3,hfzq4_4,hfzq4_5,hfzq4_6,hfzq4_7⟩ := cells8 BK302.out;obtain ⟨hczq5_0,hczq5_1,hczq5_2,hczq5_3,hczq5_4,hczq5_5,hczq5_6,hczq5_7,hfzq5_0,hfzq5_1,hfzq5_2,hfzq5_3,hfzq5_4,hfzq5_5,hfzq5_6,hfzq5_7⟩ := cells8 BK303.out))
  go_ret
  exact ⟨Z107,Z61⟩
 rw [if_pos c9] at H
 have c9b0 : (a0_6 == a1_6) = true := beq_iff_eq.mpr c9
 have c9b1 : (a0_6 != a1_6) = false := bne_eq_false_iff_eq.mpr c9
 clear c9
 obtain ⟨t304,A100,H⟩ := Option.bind_eq_some_iff.mp H
 have A10 := Aside0.mk A100
 clear A100
 by_cases c11 : t304 = true
 ·subst c11
  rw [if_pos rfl] at H
  obtain rfl := Option.some.inj H
  go_enter Tryd.func6,Tryd.ntmps6
  go_wp2_with (first | ((with_reducible refine gate_dst (N := 2) rfl ?_);refine bE 2 #[.int .i64 a0_0,.int .i64 a0_1,.int .i64 a0_2,.int .i64 a0_3,.int .i64 a0_4,.int .i64 a0_5,.int .i64 a0_6,.slice A0_7 l0_7.length c0_7] 24 (h := ?_);intro gb302 hg wq1 hbox hb;have n_ := Z23;clear HB;obtain ⟨HB,BK302,GW302,GE302⟩ := n_;clear hb hbox hg) | ((with_reducible refine gate_dst (N := 3) rfl ?_);refine bE 3 #[.int .i64 a1_0,.int .i64 a1_1,.int .i64 a1_2,.int .i64 a1_3,.int .i64 a1_4,.int .i64 a1_5,.int .i64 a1_6,.slice A1_7 l1_7.length c1_7] 24 (h := ?_);intro gb303 hg wq2 hbox hb;have n_ := Z5;clear BK302 HB;obtain ⟨BK302,HB,BK303,GW303,GE303,NB302_303,NB303_302⟩ := n_;clear hb hbox hg;have hnbq3 := NB302_303.out;have hncq3 := NB303_302.out;obtain ⟨hczq4_0,hczq4_1,hczq4_2,hczq4_3,hczq4_4,hczq4_5,hczq4_6,hczq4_7,hfzq4_0,hfzq4_1,hfzq4_2,hfzq4_3,hfzq4_4,hfzq4_5,hfzq4_6,hfzq4_7⟩ := cells8 BK302.out;obtain ⟨hczq5_0,hczq5_1,hczq5_2,hczq5_3,hczq5_4,hczq5_5,hczq5_6,hczq5_7,hfzq5_0,hfzq5_1,hfzq5_2,hfzq5_3,hfzq5_4,hfzq5_5,hfzq5_6,hfzq5_7⟩ := cells8 BK303.out) | ((with_reducible refine gate_callee (f := 19) rfl ?_);refine goesL_ (some 44) rfl rfl Tryd.func19 Z133 rfl #[.slice A0_7 l0_7.length c0_7,.slice A1_7 l1_7.length c1_7] rfl Z87 ?_;(with_reducible refine (laws_eqIntS.calls k _ _ l0_7 _ _ l1_7 true _ ?side1 ?side2 ?side3 ?side4 A10.out).mono ?_);(case side1 => exact Z66);(case side2 => exact HC0_7.out);(case side3 => exact Z67);(case side4 => exact HC1_7.out);rintro e w' ⟨rfl,⟨nd,rfl⟩⟩;refine ⟨_,rfl,?_⟩))
  go_ret
  exact ⟨Z107,Z61⟩
 replace c11 := Bool.eq_false_iff.mpr c11
 subst c11
 rw [if_neg Bool.false_ne_true] at H
 obtain rfl := Option.some.inj H
 go_enter Tryd.func6,Tryd.ntmps6
 go_wp2_with (first | ((with_reducible refine gate_dst (N := 2) rfl ?_);refine bE 2 #[.int .i64 a0_0,.int .i64 a0_1,.int .i64 a0_2,.int .i64 a0_3,.int .i64 a0_4,.int .i64 a0_5,.int .i64 a0_6,.slice A0_7 l0_7.length c0_7] 24 (h := ?_);intro gb302 hg wq1 hbox hb;have n_ := Z23;clear HB;obtain ⟨HB,BK302,GW302,GE302⟩ := n_;clear hb hbox hg) | ((with_reducible refine gate_dst (N := 3) rfl ?_);refine bE 3 #[.int .i64 a1_0,.int .i64 a1_1,.int .i64 a1_2,.int .i64 a1_3,.int .i64 a1_4,.int .i64 a1_5,.int .i64 a1_6,.slice A1_7 l1_7.length c1_7] 24 (h := ?_);intro gb303 hg wq2 hbox hb;have n_ := Z5;clear BK302 HB;obtain ⟨BK302,HB,BK303,GW303,GE303,NB302_303,NB303_302⟩ := n_;clear hb hbox hg;have hnbq3 := NB302_303.out;have hncq3 := NB303_302.out;obtain ⟨hczq4_0,hczq4_1,hczq4_2,hczq4_3,hczq4_4,hczq4_5,hczq4_6,hczq4_7,hfzq4_0,hfzq4_1,hfzq4_2,hfzq4_3,hfzq4_4,hfzq4_5,hfzq4_6,hfzq4_7⟩ := cells8 BK302.out;obtain ⟨hczq5_0,hczq5_1,hczq5_2,hczq5_3,hczq5_4,hczq5_5,hczq5_6,hczq5_7,hfzq5_0,hfzq5_1,hfzq5_2,hfzq5_3,hfzq5_4,hfzq5_5,hfzq5_6,hfzq5_7⟩ := cells8 BK303.out) | ((with_reducible refine gate_callee (f := 19) rfl ?_);refine goesL_ (some 44) rfl rfl Tryd.func19 Z133 rfl #[.slice A0_7 l0_7.length c0_7,.slice A1_7 l1_7.length c1_7] rfl Z87 ?_;(with_reducible refine (laws_eqIntS.calls k _ _ l0_7 _ _ l1_7 false _ ?side1 ?side2 ?side3 ?side4 A10.out).mono ?_);(case side1 => exact Z66);(case side2 => exact HC0_7.out);(case side3 => exact Z67);(case side4 => exact HC1_7.out);rintro e w' ⟨rfl,⟨nd,rfl⟩⟩;refine ⟨_,rfl,?_⟩))
 go_ret
 exact ⟨Z107,Z61⟩

/-! ### laws_eqFault: function 7 -/
def laws_eqFault.f (a0_0 : Int) (a0_1 : Int) (a0_2 : Int) (a1_0 : Int) (a1_1 : Int) (a1_2 : Int) : Option (Bool) := if a0_0 = a1_0 then (if a0_1 = a1_1 then (if a0_2 = a1_2 then (some true) else (some false)) else (some false)) else (some false)
set_option maxHeartbeats 8000000 in
set_option maxRecDepth 100000 in
theorem laws_eqFault.calls (a0_0 : Int) (a0_1 : Int) (a0_2 : Int) (a1_0 : Int) (a1_1 : Int) (a1_2 : Int) (r : Bool) (w : World) (h : laws_eqFault.f a0_0 a0_1 a0_2 a1_0 a1_1 a1_2 = some r) :
  Calls Tryd.prog 7 #[.agg #[.int .i64 a0_0,.int .i64 a0_1,.int .i64 a0_2],.agg #[.int .i64 a1_0,.int .i64 a1_1,.int .i64 a1_2]] w fun e w' => e = .returned (.bool r) ∧ Below w.heap.size w w' := by
 have hu26 := Tryd.underlying26
 have HB := Aside0.mk (Below.refl w.heap.size w)
 have H := h
 clear h
 unfold laws_eqFault.f at H
 by_cases c3 : a0_0 = a1_0
 rotate_left
 ·rw [if_neg c3] at H
  have c3b0 : (a0_0 == a1_0) = false := beq_eq_false_iff_ne.mpr c3
  have c3b1 : (a0_0 != a1_0) = true := bne_iff_ne.mpr c3
  obtain rfl := Option.some.inj H
  go_enter Tryd.func7,Tryd.ntmps7
  go_wp2_with (first | ((with_reducible refine gate_dst (N := 2) rfl ?_);refine bE 2 #[.int .i64 a0_0,.int .i64 a0_1,.int .i64 a0_2] 26 (h := ?_);intro gb305 hg wq1 hbox hb;have n_ := Z24;clear HB;obtain ⟨HB,BK305,GW305,GE305⟩ := n_;clear hb hbox hg) | ((with_reducible refine gate_dst (N := 3) rfl ?_);refine bE 3 #[.int .i64 a1_0,.int .i64 a1_1,.int .i64 a1_2] 26 (h := ?_);intro gb306 hg wq2 hbox hb;have n_ := Z11;clear BK305 HB;obtain ⟨BK305,HB,BK306,GW306,GE306,NB305_306,NB306_305⟩ := n_;clear hb hbox hg;have hnbq3 := NB305_306.out;have hncq3 := NB306_305.out;obtain ⟨hczq4_0,hczq4_1,hczq4_2,hfzq4_0,hfzq4_1,hfzq4_2⟩ := cells3 BK305.out;obtain ⟨hczq5_0,hczq5_1,hczq5_2,hfzq5_0,hfzq5_1,hfzq5_2⟩ := cells3 BK306.out))
  go_ret
  exact ⟨Z107,Z63⟩
 rw [if_pos c3] at H
 have c3b0 : (a0_0 == a1_0) = true := beq_iff_eq.mpr c3
 have c3b1 : (a0_0 != a1_0) = false := bne_eq_false_iff_eq.mpr c3
 clear c3
 by_cases c4 : a0_1 = a1_1
 rotate_left
 ·rw [if_neg c4] at H
  have c4b0 : (a0_1 == a1_1) = false := beq_eq_false_iff_ne.mpr c4
  have c4b1 : (a0_1 != a1_1) = true := bne_iff_ne.mpr c4
  obtain rfl := Option.some.inj H
  go_enter Tryd.func7,Tryd.ntmps7
  go_wp2_with (first | ((with_reducible refine gate_dst (N := 2) rfl ?_);refine bE 2 #[.int .i64 a0_0,.int .i64 a0_1,.int .i64 a0_2] 26 (h := ?_);intro gb305 hg wq1 hbox hb;have n_ := Z24;clear HB;obtain ⟨HB,BK305,GW305,GE305⟩ := n_;clear hb hbox hg) | ((with_reducible refine gate_dst (N := 3) rfl ?_);refine bE 3 #[.int .i64 a1_0,.int .i64 a1_1,.int .i64 a1_2] 26 (h := ?_);intro gb306 hg wq2 hbox hb;have n_ := Z11;clear BK305 HB;obtain ⟨BK305,HB,BK306,GW306,GE306,NB305_306,NB306_305⟩ := n_;clear hb hbox hg;have hnbq3 := NB305_306.out;have hncq3 := NB306_305.out;obtain ⟨hczq4_0,hczq4_1,hczq4_2,hfzq4_0,hfzq4_1,hfzq4_2⟩ := cells3 BK305.out;obtain ⟨hczq5_0,hczq5_1,hczq5_2,hfzq5_0,hfzq5_1,hfzq5_2⟩ := cells3 BK306.out))
  go_ret
  exact ⟨Z107,Z63⟩
 rw [if_pos c4] at H
 have c4b0 : (a0_1 == a1_1) = true := beq_iff_eq.mpr c4
 have c4b1 : (a0_1 != a1_1) = false := bne_eq_false_iff_eq.mpr c4
 clear c4
 by_cases c5 : a0_2 = a1_2
 rotate_left
 ·rw [if_neg c5] at H
  have c5b0 : (a0_2 == a1_2) = false := beq_eq_false_iff_ne.mpr c5
  have c5b1 : (a0_2 != a1_2) = true := bne_iff_ne.mpr c5
  obtain rfl := Option.some.inj H
  go_enter Tryd.func7,Tryd.ntmps7
  go_wp2_with (first | ((with_reducible refine gate_dst (N := 2) rfl ?_);refine bE 2 #[.int .i64 a0_0,.int .i64 a0_1,.int .i64 a0_2] 26 (h := ?_);intro gb305 hg wq1 hbox hb;have n_ := Z24;clear HB;obtain ⟨HB,BK305,GW305,GE305⟩ := n_;clear hb hbox hg) | ((with_reducible refine gate_dst (N := 3) rfl ?_);refine bE 3 #[.int .i64 a1_0,.int .i64 a1_1,.int .i64 a1_2] 26 (h := ?_);intro gb306 hg wq2 hbox hb;have n_ := Z11;clear BK305 HB;obtain ⟨BK305,HB,BK306,GW306,GE306,NB305_306,NB306_305⟩ := n_;clear hb hbox hg;have hnbq3 := NB305_306.out;have hncq3 := NB306_305.out;obtain ⟨hczq4_0,hczq4_1,hczq4_2,hfzq4_0,hfzq4_1,hfzq4_2⟩ := cells3 BK305.out;obtain ⟨hczq5_0,hczq5_1,hczq5_2,hfzq5_0,hfzq5_1,hfzq5_2⟩ := cells3 BK306.out))
  go_ret
  exact ⟨Z107,Z63⟩
 rw [if_pos c5] at H
 have c5b0 : (a0_2 == a1_2) = true := beq_iff_eq.mpr c5
 have c5b1 : (a0_2 != a1_2) = false := bne_eq_false_iff_eq.mpr c5
 clear c5
 obtain rfl := Option.some.inj H
 go_enter Tryd.func7,Tryd.ntmps7
 go_wp2_with (first | ((with_reducible refine gate_dst (N := 2) rfl ?_);refine bE 2 #[.int .i64 a0_0,.int .i64 a0_1,.int .i64 a0_2] 26 (h := ?_);intro gb305 hg wq1 hbox hb;have n_ := Z24;clear HB;obtain ⟨HB,BK305,GW305,GE305⟩ := n_;clear hb hbox hg) | ((with_reducible refine gate_dst (N := 3) rfl ?_);refine bE 3 #[.int .i64 a1_0,.int .i64 a1_1,.int .i64 a1_2] 26 (h := ?_);intro gb306 hg wq2 hbox hb;have n_ := Z11;clear BK305 HB;obtain ⟨BK305,HB,BK306,GW306,GE306,NB305_306,NB306_305⟩ := n_;clear hb hbox hg;have hnbq3 := NB305_306.out;have hncq3 := NB306_305.out;obtain ⟨hczq4_0,hczq4_1,hczq4_2,hfzq4_0,hfzq4_1,hfzq4_2⟩ := cells3 BK305.out;obtain ⟨hczq5_0,hczq5_1,hczq5_2,hfzq5_0,hfzq5_1,hfzq5_2⟩ := cells3 BK306.out))
 go_ret
 exact ⟨Z107,Z63⟩

end Go.Proofs.YtepnbcdbagjmbacDoor.QFnExactReadConfig
