/- The machine side of FnConfig: what each Go function that it reaches comes to. Conditions: none. -/
import Derived.Test.YtepnbcdbagjmbaeGreatDoorQFnConfigx0
import Derived.Test.YtepnbcdbagjmbaeGreatDoorQFnConfigx2
namespace Go.Proofs.YtepnbcdbagjmbaeGreatDoor.QFnConfig
open Go.RowKit Go.Proofs.YtepnbcdbagjmbaeGreatDoorW.PrintWords Go.Proofs.YtepnbcdbagjmbaeGreatDoorW.PrintLast Go.Proofs.YtepnbcdbagjmbaeGreatDoorW.PrintMore
attribute [local go_sem] max2_int min2_int max_two min_two max_three min_three max_four min_four   -- for this text's walks alone
set_option linter.unusedVariables false
set_option linter.unusedSimpArgs false

/-! ### spec_l8Right: function 43 -/
mutual
def spec_l8Right.j0 : Nat → List Int → Int → Int → Int → Int → Int → Int → Int → Int → Int → Option (Int × Int × Int × Int × Int × Int × Int × List Int × Int × Int)
 | 0,_,_,_,_,_,_,_,_,_,_ => none
 | k + 1,x1000,x1001,x1002,x142000,x142001,x142002,x142003,x142004,x142005,x142006 => (spec_l1Once.f x1000 x1001 x1002 4).bind fun bt148 => (if bt148.1 = true then ((spec_l1Below.f x1000 bt148.2.1 bt148.2.2 x142006).bind fun bt151 => (spec_l8Right.j1 k x1000 bt151.2.1 bt151.2.2 x142000 x142001 x142002 x142003 x142004 (wrap64 (1 + bt151.1)) x142006)) else (spec_l8Right.j1 k x1000 bt148.2.1 bt148.2.2 x142000 x142001 x142002 x142003 x142004 x142005 x142006))
def spec_l8Right.j1 : Nat → List Int → Int → Int → Int → Int → Int → Int → Int → Int → Int → Option (Int × Int × Int × Int × Int × Int × Int × List Int × Int × Int)
 | 0,_,_,_,_,_,_,_,_,_,_ => none
 | k + 1,x1000,x1001,x1002,x142000,x142001,x142002,x142003,x142004,x142005,x142006 => (spec_l1Below.f x1000 x1001 x1002 5).bind fun bt154 => (spec_l8Right.l0 k bt154.1 0 x1000 bt154.2.1 bt154.2.2 x142000 x142001 x142002 x142003 x142004 x142005 x142006 ([] : List Int))
def spec_l8Right.l0 : Nat → Int → Int → List Int → Int → Int → Int → Int → Int → Int → Int → Int → Int → List Int → Option (Int × Int × Int × Int × Int × Int × Int × List Int × Int × Int)
 | 0,_,_,_,_,_,_,_,_,_,_,_,_,_ => none
 | k + 1,x4,x5,x1000,x1001,x1002,x142000,x142001,x142002,x142003,x142004,x142005,x142006,x142007 => if x5 < x4 then ((spec_l1Below.f x1000 x1001 x1002 3).bind fun bt157 => (if x142007.length < 17592186044416 then (spec_l8Right.l0 k x4 (wrap64 (x5 + 1)) x1000 bt157.2.1 bt157.2.2 x142000 x142001 x142002 x142003 x142004 x142005 x142006 (x142007 ++ [wrap64 (bt157.1 - 1)])) else (none))) else (some (x142000,x142001,x142002,x142003,x142004,x142005,x142006,x142007,x1001,x1002))
end
def spec_l8Right.f (k : Nat) (s0_0 : List Int) (s0_1 : Int) (s0_2 : Int) : Option (Int × Int × Int × Int × Int × Int × Int × List Int × Int × Int) := (spec_l1Below.f s0_0 s0_1 s0_2 4).bind fun bt123 => ((spec_l1Below.f s0_0 bt123.2.1 bt123.2.2 4).bind fun bt126 => ((spec_l1Below.f s0_0 bt126.2.1 bt126.2.2 5).bind fun bt129 => ((spec_l1Below.f s0_0 bt129.2.1 bt129.2.2 3).bind fun bt132 => ((spec_l1Below.f s0_0 bt132.2.1 bt132.2.2 3).bind fun bt135 => ((spec_l1Below.f s0_0 bt135.2.1 bt135.2.2 3).bind fun bt138 => ((spec_l1Once.f s0_0 bt138.2.1 bt138.2.2 8).bind fun bt142 => (if bt142.1 = true then ((spec_l1Below.f s0_0 bt142.2.1 bt142.2.2 100).bind fun bt145 => (spec_l8Right.j0 k s0_0 bt145.2.1 bt145.2.2 (wrap64 (1 + bt123.1)) bt126.1 (wrap64 (2 + bt129.1)) (wrap64 (1 + bt145.1)) (wrap64 (1 + bt135.1)) 1 (wrap64 (1 + bt138.1)))) else (spec_l8Right.j0 k s0_0 bt142.2.1 bt142.2.2 (wrap64 (1 + bt123.1)) bt126.1 (wrap64 (2 + bt129.1)) (wrap64 (1 + bt132.1)) (wrap64 (1 + bt135.1)) 1 (wrap64 (1 + bt138.1))))))))))
theorem spec_l8Right.mono_l : ∀ k,(∀ y0 y1 y2 y3 y4 y5 y6 y7 y8 y9,LeO (spec_l8Right.j0 k y0 y1 y2 y3 y4 y5 y6 y7 y8 y9) (spec_l8Right.j0 (k + 1) y0 y1 y2 y3 y4 y5 y6 y7 y8 y9)) ∧ (∀ y0 y1 y2 y3 y4 y5 y6 y7 y8 y9,LeO (spec_l8Right.j1 k y0 y1 y2 y3 y4 y5 y6 y7 y8 y9) (spec_l8Right.j1 (k + 1) y0 y1 y2 y3 y4 y5 y6 y7 y8 y9)) ∧ (∀ y0 y1 y2 y3 y4 y5 y6 y7 y8 y9 y10 y11 y12,LeO (spec_l8Right.l0 k y0 y1 y2 y3 y4 y5 y6 y7 y8 y9 y10 y11 y12) (spec_l8Right.l0 (k + 1) y0 y1 y2 y3 y4 y5 y6 y7 y8 y9 y10 y11 y12))
 | 0 => ⟨fun _ _ _ _ _ _ _ _ _ _ r h => by simp [spec_l8Right.j0] at h,fun _ _ _ _ _ _ _ _ _ _ r h => by simp [spec_l8Right.j1] at h,fun _ _ _ _ _ _ _ _ _ _ _ _ _ r h => by simp [spec_l8Right.l0] at h⟩
 | k + 1 => by
  obtain ⟨ih0,ih1,ih2⟩ := spec_l8Right.mono_l k
  refine ⟨?_,?_,?_⟩
  ·intro y0 y1 y2 y3 y4 y5 y6 y7 y8 y9
   unfold spec_l8Right.j0
   repeat' first
   | (with_reducible exact ih0 _ _ _ _ _ _ _ _ _ _)
   | (with_reducible exact ih1 _ _ _ _ _ _ _ _ _ _)
   | (with_reducible exact ih2 _ _ _ _ _ _ _ _ _ _ _ _ _)
   | (with_reducible exact LeO.refl _)
   | (with_reducible exact LeO.none _)
   | (with_reducible refine LeO.ite ?_ ?_)
   | (with_reducible refine LeO.bind ?_ (fun _ => ?_))
   | exact ih0 _ _ _ _ _ _ _ _ _ _
   | exact ih1 _ _ _ _ _ _ _ _ _ _
   | exact ih2 _ _ _ _ _ _ _ _ _ _ _ _ _
   | exact LeO.none _
   | refine LeO.ite ?_ ?_
   | refine LeO.bind ?_ (fun _ => ?_)
  ·intro y0 y1 y2 y3 y4 y5 y6 y7 y8 y9
   unfold spec_l8Right.j1
   repeat' first
   | (with_reducible exact ih0 _ _ _ _ _ _ _ _ _ _)
   | (with_reducible exact ih1 _ _ _ _ _ _ _ _ _ _)
   | (with_reducible exact ih2 _ _ _ _ _ _ _ _ _ _ _ _ _)
   | (with_reducible exact LeO.refl _)
   | (with_reducible exact LeO.none _)
   | (with_reducible refine LeO.ite ?_ ?_)
   | (with_reducible refine LeO.bind ?_ (fun _ => ?_))
   | exact ih0 _ _ _ _ _ _ _ _ _ _
   | exact ih1 _ _ _ _ _ _ _ _ _ _
   | exact ih2 _ _ _ _ _ _ _ _ _ _ _ _ _
   | exact LeO.none _
   | refine LeO.ite ?_ ?_
   | refine LeO.bind ?_ (fun _ => ?_)
  ·intro y0 y1 y2 y3 y4 y5 y6 y7 y8 y9 y10 y11 y12
   unfold spec_l8Right.l0
   repeat' first
   | (with_reducible exact ih0 _ _ _ _ _ _ _ _ _ _)
   | (with_reducible exact ih1 _ _ _ _ _ _ _ _ _ _)
   | (with_reducible exact ih2 _ _ _ _ _ _ _ _ _ _ _ _ _)
   | (with_reducible exact LeO.refl _)
   | (with_reducible exact LeO.none _)
   | (with_reducible refine LeO.ite ?_ ?_)
   | (with_reducible refine LeO.bind ?_ (fun _ => ?_))
   | exact ih0 _ _ _ _ _ _ _ _ _ _
   | exact ih1 _ _ _ _ _ _ _ _ _ _
   | exact ih2 _ _ _ _ _ _ _ _ _ _ _ _ _
   | exact LeO.none _
   | refine LeO.ite ?_ ?_
   | refine LeO.bind ?_ (fun _ => ?_)
theorem spec_l8Right.mono : ∀ a0 a1 a2 k,LeO (spec_l8Right.f k a0 a1 a2) (spec_l8Right.f (k + 1) a0 a1 a2) := by
 intro a0 a1 a2 k
 obtain ⟨ih0,ih1,ih2⟩ := spec_l8Right.mono_l k
 unfold spec_l8Right.f
 repeat' first
   | (with_reducible exact ih0 _ _ _ _ _ _ _ _ _ _)
   | (with_reducible exact ih1 _ _ _ _ _ _ _ _ _ _)
   | (with_reducible exact ih2 _ _ _ _ _ _ _ _ _ _ _ _ _)
   | (with_reducible exact LeO.refl _)
   | (with_reducible exact LeO.none _)
   | (with_reducible refine LeO.ite ?_ ?_)
   | (with_reducible refine LeO.bind ?_ (fun _ => ?_))
   | exact ih0 _ _ _ _ _ _ _ _ _ _
   | exact ih1 _ _ _ _ _ _ _ _ _ _
   | exact ih2 _ _ _ _ _ _ _ _ _ _ _ _ _
   | exact LeO.none _
   | refine LeO.ite ?_ ?_
   | refine LeO.bind ?_ (fun _ => ?_)
def spec_l8Right.T10 : Bool × List (List Nat × List Nat) := (true,[([],[]),([0],[0]),([],[]),([2],[2]),([3],[3]),([4],[4]),([1,5,3],[1,5]),([0,1,2,3,4,5,6],[]),([7,6,6,0,1,2,3,4,5,6],[6,7])])
def spec_l8Right.B10 : List Nat := [0,1,0,4,12,28,63,127,255]
theorem spec_l8Right.tab10 : rtab .any (opsOf Tryz.f43 10) = spec_l8Right.T10 := by kernel_rfl
theorem spec_l8Right.bits10 : waitsOk spec_l8Right.T10.2 spec_l8Right.B10 = true := by kernel_rfl
set_option maxHeartbeats 8000000 in
set_option maxRecDepth 100000 in
theorem spec_l8Right.calls (k : Nat) (g : Nat) (s0_0 : List Int) (s0_1 : Int) (s0_2 : Int) (r1 : Int) (r2 : Int) (r3 : Int) (r4 : Int) (r5 : Int) (r6 : Int) (r7 : Int) (r8 : List Int) (r9 : Int) (r10 : Int) (w0 w : World) (hI : IsS65 w0 w g s0_0 s0_1 s0_2) (hB : Below w0.heap.size w0 w) (h : spec_l8Right.f k s0_0 s0_1 s0_2 = some (r1,r2,r3,r4,r5,r6,r7,r8,r9,r10)) :
  Calls Tryz.prog 43 #[.pointer (some ⟨g,0,none⟩)] w fun e w' => ∃ v7_ : Value,e = .returned (.agg #[.int .i64 r1,.int .i64 r2,.int .i64 r3,.int .i64 r4,.int .i64 r5,.int .i64 r6,.int .i64 r7,v7_]) ∧ Kd.R (Kd.int .i64) 3 w' w.heap.size (fun _ => True) v7_ r8 ∧ IsS65 w0 w' g s0_0 r9 r10 ∧ Below w0.heap.size w0 w' ∧ KeepBut w w' g none := by
 have hu26 := Tryz.underlying26
 have HI0 := Aside0.mk hI
 have HK := Aside0.mk (KeepBut.refl w g none)
 have HL := Aside0.mk hB.size
 clear hI
 have HW0 := Aside0.mk hB.size
 have HB := Aside0.mk hB
 clear hB
 have H := h
 clear h
 unfold spec_l8Right.f at H
 obtain ⟨⟨t123,t124,t125⟩,A20,H⟩ := Option.bind_eq_some_iff.mp H
 try dsimp only at H
 have A2 := Aside0.mk A20
 clear A20
 obtain ⟨⟨t126,t127,t128⟩,A30,H⟩ := Option.bind_eq_some_iff.mp H
 try dsimp only at H
 have A3 := Aside0.mk A30
 clear A30
 obtain ⟨⟨t129,t130,t131⟩,A40,H⟩ := Option.bind_eq_some_iff.mp H
 try dsimp only at H
 have A4 := Aside0.mk A40
 clear A40
 obtain ⟨⟨t132,t133,t134⟩,A50,H⟩ := Option.bind_eq_some_iff.mp H
 try dsimp only at H
 have A5 := Aside0.mk A50
 clear A50
 obtain ⟨⟨t135,t136,t137⟩,A60,H⟩ := Option.bind_eq_some_iff.mp H
 try dsimp only at H
 have A6 := Aside0.mk A60
 clear A60
 obtain ⟨⟨t138,t139,t140⟩,A70,H⟩ := Option.bind_eq_some_iff.mp H
 try dsimp only at H
 have A7 := Aside0.mk A70
 clear A70
 obtain ⟨⟨t142,t143,t144⟩,A80,H⟩ := Option.bind_eq_some_iff.mp H
 try dsimp only at H
 have A8 := Aside0.mk A80
 clear A80
 have HC9 := Aside0.mk H
 clear H
 go_enter Tryz.func43,Tryz.ntmps43
 go_upto_if 25 with (first | ((with_reducible refine gate_dst (N := 2) rfl ?_);refine bE 2 #[.int .i64 0,.int .i64 0,.int .i64 0,.int .i64 0,.int .i64 0,.int .i64 0,.int .i64 0,.slice none 0 0] 26 (h := ?_);intro gb122 hg w10 hbox hb;have n_ := jA (IsS65.below Z238 hb) (jA (KeepBut.trans Z297 (KeepBut.of_below hb g none) (.inl rfl)) (jA (below_step Z237 hb) (jA (hbox) (jA ((Z222 : w.heap.size ≤ gb122)) (jA ((Nat.le_trans HW0.out (Z222 : w.heap.size ≤ gb122) : w0.heap.size ≤ gb122)) (jA ((by rw [hg];exact Nat.ne_of_lt (IsS65.lt (show IsS65 w0 _ g s0_0 s0_1 s0_2 from Z238)) : g ≠ gb122)) (Aside0.mk ((by rw [hg];exact Nat.ne_of_gt (IsS65.lt (show IsS65 w0 _ g s0_0 s0_1 s0_2 from Z238)) : gb122 ≠ g)))))))));clear HI0 HK HB;obtain ⟨HI0,HK,HB,BK122,GW122,GE122,NB0_122,NB122_0⟩ := n_;clear hb hbox hg) | ((with_reducible refine gate_callee (f := 44) rfl ?_);refine goesL_ (some 7) rfl rfl Tryz.func44 Z190 rfl #[.pointer (some ⟨g,0,none⟩),.int .i64 4] rfl Z130 ?_;(with_reducible refine (spec_l1Below.calls g s0_0 s0_1 s0_2 4 t123 t124 t125 w0 _ ?side1 ?side2 A2.out).mono ?_);(case side1 => exact Z92);(case side2 => exact Z93);rintro e w11 ⟨rfl,hi,hb,hk⟩;refine ⟨_,rfl,?_⟩;have n_ := Z51;clear BK122 HK HB HI0;obtain ⟨BK122,HK,HB,HI0⟩ := n_;(try clear hb);(try clear hb2);(try clear hk);(try clear hi)) | ((with_reducible refine gate_callee (f := 44) rfl ?_);refine goesL_ (some 10) rfl rfl Tryz.func44 Z190 rfl #[.pointer (some ⟨g,0,none⟩),.int .i64 4] rfl Z130 ?_;(with_reducible refine (spec_l1Below.calls g s0_0 t124 t125 4 t126 t127 t128 w0 _ ?side1 ?side2 A3.out).mono ?_);(case side1 => exact Z92);(case side2 => exact Z93);rintro e w12 ⟨rfl,hi,hb,hk⟩;refine ⟨_,rfl,?_⟩;have n_ := Z51;clear BK122 HK HB HI0;obtain ⟨BK122,HK,HB,HI0⟩ := n_;(try clear hb);(try clear hb2);(try clear hk);(try clear hi)) | ((with_reducible refine gate_callee (f := 44) rfl ?_);refine goesL_ (some 12) rfl rfl Tryz.func44 Z190 rfl #[.pointer (some ⟨g,0,none⟩),.int .i64 5] rfl Z130 ?_;(with_reducible refine (spec_l1Below.calls g s0_0 t127 t128 5 t129 t130 t131 w0 _ ?side1 ?side2 A4.out).mono ?_);(case side1 => exact Z92);(case side2 => exact Z93);rintro e w13 ⟨rfl,hi,hb,hk⟩;refine ⟨_,rfl,?_⟩;have n_ := Z51;clear BK122 HK HB HI0;obtain ⟨BK122,HK,HB,HI0⟩ := n_;(try clear hb);(try clear hb2);(try clear hk);(try clear hi)) | ((with_reducible refine gate_callee (f := 44) rfl ?_);refine goesL_ (some 15) rfl rfl Tryz.func44 Z190 rfl #[.pointer (some ⟨g,0,none⟩),.int .i64 3] rfl Z130 ?_;(with_reducible refine (spec_l1Below.calls g s0_0 t130 t131 3 t132 t133 t134 w0 _ ?side1 ?side2 A5.out).mono ?_);(case side1 => exact Z92);(case side2 => exact Z93);rintro e w14 ⟨rfl,hi,hb,hk⟩;refine ⟨_,rfl,?_⟩;have n_ := Z51;clear BK122 HK HB HI0;obtain ⟨BK122,HK,HB,HI0⟩ := n_;(try clear hb);(try clear hb2);(try clear hk);(try clear hi)) | ((with_reducible refine gate_callee (f := 44) rfl ?_);refine goesL_ (some 18) rfl rfl Tryz.func44 Z190 rfl #[.pointer (some ⟨g,0,none⟩),.int .i64 3] rfl Z130 ?_;(with_reducible refine (spec_l1Below.calls g s0_0 t133 t134 3 t135 t136 t137 w0 _ ?side1 ?side2 A6.out).mono ?_);(case side1 => exact Z92);(case side2 => exact Z93);rintro e w15 ⟨rfl,hi,hb,hk⟩;refine ⟨_,rfl,?_⟩;have n_ := Z51;clear BK122 HK HB HI0;obtain ⟨BK122,HK,HB,HI0⟩ := n_;(try clear hb);(try clear hb2);(try clear hk);(try clear hi)) | ((with_reducible refine gate_callee (f := 44) rfl ?_);refine goesL_ (some 21) rfl rfl Tryz.func44 Z190 rfl #[.pointer (some ⟨g,0,none⟩),.int .i64 3] rfl Z130 ?_;(with_reducible refine (spec_l1Below.calls g s0_0 t136 t137 3 t138 t139 t140 w0 _ ?side1 ?side2 A7.out).mono ?_);(case side1 => exact Z92);(case side2 => exact Z93);rintro e w16 ⟨rfl,hi,hb,hk⟩;refine ⟨_,rfl,?_⟩;have n_ := Z51;clear BK122 HK HB HI0;obtain ⟨BK122,HK,HB,HI0⟩ := n_;(try clear hb);(try clear hb2);(try clear hk);(try clear hi)) | ((with_reducible refine gate_dst (N := 3) rfl ?_);refine bE 3 #[.int .i64 0,.int .i64 0,.int .i64 0,.int .i64 0,.int .i64 0,.int .i64 0,.int .i64 0,.slice none 0 0] 26 (h := ?_);intro gb141 hg w17 hbox hb;have n_ := jA (IsS65.below Z92 hb) (jA (blk_below (g := gb122) (o := .cells #[.int .i64 0,.int .i64 0,.int .i64 0,.int .i64 0,.int .i64 0,.int .i64 0,.int .i64 0,.slice none 0 0] 26 (0,0)) Z276 hb) (jA (KeepBut.trans Z236 (KeepBut.of_below hb g none) (.inl rfl)) (jA (below_step Z93 hb) (jA (hbox) (jA ((Z85 : w.heap.size ≤ gb141)) (jA ((Nat.le_trans HW0.out (Z85 : w.heap.size ≤ gb141) : w0.heap.size ≤ gb141)) (jA ((by rw [hg];exact Nat.ne_of_lt (blk_lt (g := gb122) (o := .cells #[.int .i64 0,.int .i64 0,.int .i64 0,.int .i64 0,.int .i64 0,.int .i64 0,.int .i64 0,.slice none 0 0] 26 (0,0)) Z276) : gb122 ≠ gb141)) (jA ((by rw [hg];exact Nat.ne_of_gt (blk_lt (g := gb122) (o := .cells #[.int .i64 0,.int .i64 0,.int .i64 0,.int .i64 0,.int .i64 0,.int .i64 0,.int .i64 0,.slice none 0 0] 26 (0,0)) Z276) : gb141 ≠ gb122)) (jA ((by rw [hg];exact Nat.ne_of_lt (IsS65.lt (show IsS65 w0 _ g s0_0 t139 t140 from Z92)) : g ≠ gb141)) (Aside0.mk ((by rw [hg];exact Nat.ne_of_gt (IsS65.lt (show IsS65 w0 _ g s0_0 t139 t140 from Z92)) : gb141 ≠ g))))))))))));clear HI0 BK122 HK HB;obtain ⟨HI0,BK122,HK,HB,BK141,GW141,GE141,NB122_141,NB141_122,NB0_141,NB141_0⟩ := n_;clear hb hbox hg;have hnb18 := NB141_122.out;have hnc18 := NB122_141.out;have hnb19 := NB141_0.out;have hnc19 := NB0_141.out;obtain ⟨hcz20_0,hcz20_1,hcz20_2,hcz20_3,hcz20_4,hcz20_5,hcz20_6,hcz20_7,hfz20_0,hfz20_1,hfz20_2,hfz20_3,hfz20_4,hfz20_5,hfz20_6,hfz20_7⟩ := cells8 BK141.out) | ((with_reducible refine gate_callee (f := 59) rfl ?_);refine goesL_ (some 25) rfl rfl Tryz.func59 Z190 rfl #[.pointer (some ⟨g,0,none⟩),.int .i64 8] rfl Z130 ?_;(with_reducible refine (spec_l1Once.calls g s0_0 t139 t140 8 t142 t143 t144 w0 _ ?side1 ?side2 A8.out).mono ?_);(case side1 => exact Z80);(case side2 => exact Z86);rintro e w21 ⟨rfl,hi,hb,hk⟩;refine ⟨_,rfl,?_⟩;have n_ := jA (KeepBut.blk hk (g' := gb122) (o := .cells #[.int .i64 0,.int .i64 0,.int .i64 0,.int .i64 0,.int .i64 0,.int .i64 0,.int .i64 0,.slice none 0 0] 26 (0,0)) (by refine bP ?_;refine blk_far ?_ NB122_141.out _;refine bP ?_;refine blk_far ?_ NB122_141.out _;refine bP ?_;refine blk_far ?_ NB122_141.out _;refine bP ?_;refine blk_far ?_ NB122_141.out _;refine bP ?_;refine blk_far ?_ NB122_141.out _;refine bP ?_;refine blk_far ?_ NB122_141.out _;refine bP ?_;refine blk_far ?_ NB122_141.out _;refine bP ?_;refine blk_far ?_ NB122_141.out _;refine bP ?_;exact BK122.out) NB122_0.out Z286) (jA (KeepBut.blk hk (g' := gb141) (o := .cells #[.int .i64 (wrap64 (1 + t123)),.int .i64 t126,.int .i64 (wrap64 (2 + t129)),.int .i64 (wrap64 (1 + t132)),.int .i64 (wrap64 (1 + t135)),.int .i64 1,.int .i64 (wrap64 (1 + t138)),.slice none 0 0] 26 (0,0)) (by refine bP ?_;refine blk_put (cs := #[.int .i64 (wrap64 (1 + t123)),.int .i64 t126,.int .i64 (wrap64 (2 + t129)),.int .i64 (wrap64 (1 + t132)),.int .i64 (wrap64 (1 + t135)),.int .i64 1,.int .i64 (wrap64 (1 + t138)),.slice none 0 0]) ?_ 7 _ rfl;refine bP ?_;refine blk_put (cs := #[.int .i64 (wrap64 (1 + t123)),.int .i64 t126,.int .i64 (wrap64 (2 + t129)),.int .i64 (wrap64 (1 + t132)),.int .i64 (wrap64 (1 + t135)),.int .i64 1,.int .i64 0,.slice none 0 0]) ?_ 6 _ rfl;refine bP ?_;refine blk_put (cs := #[.int .i64 (wrap64 (1 + t123)),.int .i64 t126,.int .i64 (wrap64 (2 + t129)),.int .i64 (wrap64 (1 + t132)),.int .i64 (wrap64 (1 + t135)),.int .i64 0,.int .i64 0,.slice none 0 0]) ?_ 5 _ rfl;refine bP ?_;refine blk_put (cs := #[.int .i64 (wrap64 (1 + t123)),.int .i64 t126,.int .i64 (wrap64 (2 + t129)),.int .i64 (wrap64 (1 + t132)),.int .i64 0,.int .i64 0,.int .i64 0,.slice none 0 0]) ?_ 4 _ rfl;refine bP ?_;refine blk_put (cs := #[.int .i64 (wrap64 (1 + t123)),.int .i64 t126,.int .i64 (wrap64 (2 + t129)),.int .i64 0,.int .i64 0,.int .i64 0,.int .i64 0,.slice none 0 0]) ?_ 3 _ rfl;refine bP ?_;refine blk_put (cs := #[.int .i64 (wrap64 (1 + t123)),.int .i64 t126,.int .i64 0,.int .i64 0,.int .i64 0,.int .i64 0,.int .i64 0,.slice none 0 0]) ?_ 2 _ rfl;refine bP ?_;refine blk_put (cs := #[.int .i64 (wrap64 (1 + t123)),.int .i64 0,.int .i64 0,.int .i64 0,.int .i64 0,.int .i64 0,.int .i64 0,.slice none 0 0]) ?_ 1 _ rfl;refine bP ?_;refine blk_put (cs := #[.int .i64 0,.int .i64 0,.int .i64 0,.int .i64 0,.int .i64 0,.int .i64 0,.int .i64 0,.slice none 0 0]) ?_ 0 _ rfl;refine bP ?_;exact BK141.out) NB141_0.out Z286) (jA (KeepBut.trans Z221 hk (.inl rfl)) (jA (hb) (Aside0.mk (hi)))));clear BK122 BK141 HK HB HI0;obtain ⟨BK122,BK141,HK,HB,HI0⟩ := n_;(try clear hb);(try clear hb2);(try clear hk);(try clear hi)))
 (try simp only [Act.put,List.setIfInBounds_toArray,List.set_cons_zero,List.set_cons_succ])
 go_cut [] (fun wc => ∃ (kq : Nat) (x1001_8 : Int) (x1002_8 : Int) (x142003_8 : Int),Aside0 (spec_l8Right.j0 kq s0_0 x1001_8 x1002_8 (wrap64 (1 + t123)) t126 (wrap64 (2 + t129)) x142003_8 (wrap64 (1 + t135)) 1 (wrap64 (1 + t138)) = some (r1,r2,r3,r4,r5,r6,r7,r8,r9,r10)) ∧ Aside0 (kq ≤ k) ∧ Aside0 (wc.heap[gb122]? = some (.cells #[.int .i64 0,.int .i64 0,.int .i64 0,.int .i64 0,.int .i64 0,.int .i64 0,.int .i64 0,(.slice none 0 0)] 26 (0,0))) ∧ Aside0 (wc.heap[gb141]? = some (.cells #[.int .i64 (wrap64 (1 + t123)),.int .i64 t126,.int .i64 (wrap64 (2 + t129)),.int .i64 x142003_8,.int .i64 (wrap64 (1 + t135)),.int .i64 1,.int .i64 (wrap64 (1 + t138)),(.slice none 0 0)] 26 (0,0))) ∧ Aside0 (IsS65 w0 wc g s0_0 x1001_8 x1002_8) ∧ Aside0 (KeepBut w wc g none) ∧ Aside0 (Below w0.heap.size w0 wc))
 case first =>
  have H := HC9.out
  clear HC9
  by_cases c22 : t142 = true
  rotate_left
  ·replace c22 := Bool.eq_false_iff.mpr c22
   subst c22
   rw [if_neg Bool.false_ne_true] at H
   have H' := Aside0.mk H
   clear H
   go_wp2
   go_meet
   case rel => exact ⟨_,(t143),(t144),(wrap64 (1 + t132)),H',⟨Z169⟩,⟨Z276⟩,⟨Z282⟩,⟨Z80⟩,⟨Z221⟩,⟨Z86⟩⟩
  subst c22
  rw [if_pos rfl] at H
  obtain ⟨⟨t145,t146,t147⟩,A230,H⟩ := Option.bind_eq_some_iff.mp H
  try dsimp only at H
  have A23 := Aside0.mk A230
  clear A230
  have H' := Aside0.mk H
  clear H
  go_wp2_with (first | ((with_reducible refine gate_callee (f := 44) rfl ?_);refine goesL_ (some 27) rfl rfl Tryz.func44 Z190 rfl #[.pointer (some ⟨g,0,none⟩),.int .i64 100] rfl Z130 ?_;(with_reducible refine (spec_l1Below.calls g s0_0 t143 t144 100 t145 t146 t147 w0 _ ?side1 ?side2 A23.out).mono ?_);(case side1 => exact Z80);(case side2 => exact Z86);rintro e w24 ⟨rfl,hi,hb,hk⟩;refine ⟨_,rfl,?_⟩;have n_ := jA (KeepBut.blk hk (g' := gb122) (o := .cells #[.int .i64 0,.int .i64 0,.int .i64 0,.int .i64 0,.int .i64 0,.int .i64 0,.int .i64 0,.slice none 0 0] 26 (0,0)) Z276 NB122_0.out Z286) (jA (KeepBut.blk hk (g' := gb141) (o := .cells #[.int .i64 (wrap64 (1 + t123)),.int .i64 t126,.int .i64 (wrap64 (2 + t129)),.int .i64 (wrap64 (1 + t132)),.int .i64 (wrap64 (1 + t135)),.int .i64 1,.int .i64 (wrap64 (1 + t138)),.slice none 0 0] 26 (0,0)) Z282 NB141_0.out Z286) (jA (KeepBut.trans Z221 hk (.inl rfl)) (jA (hb) (Aside0.mk (hi)))));clear BK122 BK141 HK HB HI0;obtain ⟨BK122,BK141,HK,HB,HI0⟩ := n_;(try clear hb);(try clear hb2);(try clear hk);(try clear hi);have hnb25 := NB141_122.out;have hnc25 := NB122_141.out;have hnb26 := NB141_0.out;have hnc26 := NB0_141.out;obtain ⟨hcz27_0,hcz27_1,hcz27_2,hcz27_3,hcz27_4,hcz27_5,hcz27_6,hcz27_7,hfz27_0,hfz27_1,hfz27_2,hfz27_3,hfz27_4,hfz27_5,hfz27_6,hfz27_7⟩ := cells8 BK141.out))
  go_meet
  case rel => exact ⟨_,(t146),(t147),(wrap64 (1 + t145)),H',⟨Z169⟩,⟨Z156⟩,⟨by refine bP ?_;refine blk_put (cs := #[.int .i64 (wrap64 (1 + t123)),.int .i64 t126,.int .i64 (wrap64 (2 + t129)),.int .i64 (wrap64 (1 + t132)),.int .i64 (wrap64 (1 + t135)),.int .i64 1,.int .i64 (wrap64 (1 + t138)),.slice none 0 0]) ?_ 3 _ rfl;refine bP ?_;exact BK141.out⟩,⟨Z80⟩,⟨Z221⟩,⟨Z86⟩⟩
 case rest =>
  clear HC9
  try clear c1
  try clear c2
  try clear p2
  try clear c4
  try clear c5
  try clear p6
  try clear c18
  try clear c19
  try clear c22
  try clear c25
  try clear c26
  obtain ⟨kq,x1001_8,x1002_8,x142003_8,HA,HJ8,BK122,BK141,HI0,HK,HB⟩ := hcut
  cases kq with
  | zero => exact absurd HA.out (by simp [spec_l8Right.j0])
  | succ kj8 =>
   have H := HA.out
   clear HA
   simp only [spec_l8Right.j0] at H
   obtain ⟨⟨t148,t149,t150⟩,A280,H⟩ := Option.bind_eq_some_iff.mp H
   try dsimp only at H
   have A28 := Aside0.mk A280
   clear A280
   have HC29 := Aside0.mk H
   clear H
   go_upto_if 31 with (first | ((with_reducible refine gate_callee (f := 59) rfl ?_);refine goesL_ (some 31) rfl rfl Tryz.func59 Z190 rfl #[.pointer (some ⟨g,0,none⟩),.int .i64 4] rfl Z130 ?_;(with_reducible refine (spec_l1Once.calls g s0_0 x1001_8 x1002_8 4 t148 t149 t150 w0 _ ?side1 ?side2 A28.out).mono ?_);(case side1 => exact Z80);(case side2 => exact Z86);rintro e w30 ⟨rfl,hi,hb,hk⟩;refine ⟨_,rfl,?_⟩;have n_ := Z38;clear BK122 BK141 HK HB HI0;obtain ⟨BK122,BK141,HK,HB,HI0⟩ := n_;(try clear hb);(try clear hb2);(try clear hk);(try clear hi)))
   (try simp only [Act.put,List.setIfInBounds_toArray,List.set_cons_zero,List.set_cons_succ])
   go_cut [] (fun wc => ∃ (kq : Nat) (x1001_28 : Int) (x1002_28 : Int) (x142005_28 : Int),Aside0 (spec_l8Right.j1 kq s0_0 x1001_28 x1002_28 (wrap64 (1 + t123)) t126 (wrap64 (2 + t129)) x142003_8 (wrap64 (1 + t135)) x142005_28 (wrap64 (1 + t138)) = some (r1,r2,r3,r4,r5,r6,r7,r8,r9,r10)) ∧ Aside0 (kq ≤ kj8) ∧ Aside0 (wc.heap[gb122]? = some (.cells #[.int .i64 0,.int .i64 0,.int .i64 0,.int .i64 0,.int .i64 0,.int .i64 0,.int .i64 0,(.slice none 0 0)] 26 (0,0))) ∧ Aside0 (wc.heap[gb141]? = some (.cells #[.int .i64 (wrap64 (1 + t123)),.int .i64 t126,.int .i64 (wrap64 (2 + t129)),.int .i64 x142003_8,.int .i64 (wrap64 (1 + t135)),.int .i64 x142005_28,.int .i64 (wrap64 (1 + t138)),(.slice none 0 0)] 26 (0,0))) ∧ Aside0 (IsS65 w0 wc g s0_0 x1001_28 x1002_28) ∧ Aside0 (KeepBut w wc g none) ∧ Aside0 (Below w0.heap.size w0 wc))
   case first =>
    have H := HC29.out
    clear HC29
    by_cases c31 : t148 = true
    rotate_left
    ·replace c31 := Bool.eq_false_iff.mpr c31
     subst c31
     rw [if_neg Bool.false_ne_true] at H
     have H' := Aside0.mk H
     clear H
     go_wp2
     go_meet
     case rel => exact ⟨_,(t149),(t150),(1),H',⟨Z162⟩,⟨Z276⟩,⟨Z282⟩,⟨Z80⟩,⟨Z221⟩,⟨Z86⟩⟩
    subst c31
    rw [if_pos rfl] at H
    obtain ⟨⟨t151,t152,t153⟩,A320,H⟩ := Option.bind_eq_some_iff.mp H
    try dsimp only at H
    have A32 := Aside0.mk A320
    clear A320
    have H' := Aside0.mk H
    clear H
    have hnb33 := NB141_122.out
    have hnc33 := NB122_141.out
    have hnb34 := NB141_0.out
    have hnc34 := NB0_141.out
    obtain ⟨hcz35_0,hcz35_1,hcz35_2,hcz35_3,hcz35_4,hcz35_5,hcz35_6,hcz35_7,hfz35_0,hfz35_1,hfz35_2,hfz35_3,hfz35_4,hfz35_5,hfz35_6,hfz35_7⟩ := cells8 BK141.out
    go_wp2_with (first | ((with_reducible refine gate_callee (f := 44) rfl ?_);refine goesL_ (some 35) rfl rfl Tryz.func44 Z190 rfl #[.pointer (some ⟨g,0,none⟩),.int .i64 (wrap64 (1 + t138))] rfl Z130 ?_;(with_reducible refine (spec_l1Below.calls g s0_0 t149 t150 (wrap64 (1 + t138)) t151 t152 t153 w0 _ ?side1 ?side2 A32.out).mono ?_);(case side1 => exact Z80);(case side2 => exact Z86);rintro e w36 ⟨rfl,hi,hb,hk⟩;refine ⟨_,rfl,?_⟩;have n_ := Z38;clear BK122 BK141 HK HB HI0;obtain ⟨BK122,BK141,HK,HB,HI0⟩ := n_;(try clear hb);(try clear hb2);(try clear hk);(try clear hi);obtain ⟨hcz37_0,hcz37_1,hcz37_2,hcz37_3,hcz37_4,hcz37_5,hcz37_6,hcz37_7,hfz37_0,hfz37_1,hfz37_2,hfz37_3,hfz37_4,hfz37_5,hfz37_6,hfz37_7⟩ := cells8 BK141.out))
    go_meet
    case rel => exact ⟨_,(t152),(t153),(wrap64 (1 + t151)),H',⟨Z162⟩,⟨Z156⟩,⟨by refine bP ?_;refine blk_put (cs := #[.int .i64 (wrap64 (1 + t123)),.int .i64 t126,.int .i64 (wrap64 (2 + t129)),.int .i64 x142003_8,.int .i64 (wrap64 (1 + t135)),.int .i64 1,.int .i64 (wrap64 (1 + t138)),.slice none 0 0]) ?_ 5 _ rfl;refine bP ?_;exact BK141.out⟩,⟨Z80⟩,⟨Z221⟩,⟨Z86⟩⟩
   case rest =>
    clear HC29
    try clear c1
    try clear c2
    try clear p2
    try clear c3
    try clear c4
    try clear c5
    try clear p6
    try clear c18
    try clear c19
    try clear c22
    try clear c25
    try clear c26
    try clear c31
    try clear c33
    try clear c34
    try clear p2
    try clear p6
    obtain ⟨kq,x1001_28,x1002_28,x142005_28,HA,HJ28,BK122,BK141,HI0,HK,HB⟩ := hcut
    cases kq with
    | zero => exact absurd HA.out (by simp [spec_l8Right.j1])
    | succ kj28 =>
     have H := HA.out
     clear HA
     simp only [spec_l8Right.j1] at H
     obtain ⟨⟨t154,t155,t156⟩,A380,H⟩ := Option.bind_eq_some_iff.mp H
     try dsimp only at H
     have A38 := Aside0.mk A380
     clear A380
     have H' := Aside0.mk H
     clear H
     go_wp2_with (first | ((with_reducible refine gate_callee (f := 44) rfl ?_);refine goesL_ (some 39) rfl rfl Tryz.func44 Z190 rfl #[.pointer (some ⟨g,0,none⟩),.int .i64 5] rfl Z130 ?_;(with_reducible refine (spec_l1Below.calls g s0_0 x1001_28 x1002_28 5 t154 t155 t156 w0 _ ?side1 ?side2 A38.out).mono ?_);(case side1 => exact Z80);(case side2 => exact Z86);rintro e w39 ⟨rfl,hi,hb,hk⟩;refine ⟨_,rfl,?_⟩;have n_ := jA (KeepBut.blk hk (g' := gb122) (o := .cells #[.int .i64 0,.int .i64 0,.int .i64 0,.int .i64 0,.int .i64 0,.int .i64 0,.int .i64 0,.slice none 0 0] 26 (0,0)) Z276 NB122_0.out Z286) (jA (KeepBut.blk hk (g' := gb141) (o := .cells #[.int .i64 (wrap64 (1 + t123)),.int .i64 t126,.int .i64 (wrap64 (2 + t129)),.int .i64 x142003_8,.int .i64 (wrap64 (1 + t135)),.int .i64 x142005_28,.int .i64 (wrap64 (1 + t138)),.slice none 0 0] 26 (0,0)) Z282 NB141_0.out Z286) (jA (KeepBut.trans Z221 hk (.inl rfl)) (jA (hb) (Aside0.mk (hi)))));clear BK122 BK141 HK HB HI0;obtain ⟨BK122,BK141,HK,HB,HI0⟩ := n_;(try clear hb);(try clear hb2);(try clear hk);(try clear hi)))
     go_loopg [5] kj28 (fun kq v5 w' => ∃ (x5_3 : Int) (x1001_3 : Int) (x1002_3 : Int) (x142007_3 : List Int) (u142007 : Value),v5 = .int .i64 x5_3 ∧ Aside0 (spec_l8Right.l0 kq t154 x5_3 s0_0 x1001_3 x1002_3 (wrap64 (1 + t123)) t126 (wrap64 (2 + t129)) x142003_8 (wrap64 (1 + t135)) x142005_28 (wrap64 (1 + t138)) x142007_3 = some (r1,r2,r3,r4,r5,r6,r7,r8,r9,r10)) ∧ Aside0 (kq ≤ kj28) ∧ Aside0 (Kd.R (Kd.int .i64) 3 w' w.heap.size (fun _ => True) u142007 x142007_3) ∧ Aside0 (w'.heap[gb122]? = some (.cells #[.int .i64 0,.int .i64 0,.int .i64 0,.int .i64 0,.int .i64 0,.int .i64 0,.int .i64 0,(.slice none 0 0)] 26 (0,0))) ∧ Aside0 (w'.heap[gb141]? = some (.cells #[.int .i64 (wrap64 (1 + t123)),.int .i64 t126,.int .i64 (wrap64 (2 + t129)),.int .i64 x142003_8,.int .i64 (wrap64 (1 + t135)),.int .i64 x142005_28,.int .i64 (wrap64 (1 + t138)),u142007] 26 (0,0))) ∧ Aside0 (IsS65 w0 w' g s0_0 x1001_3 x1002_3) ∧ Aside0 (KeepBut w w' g none) ∧ Aside0 (Below w0.heap.size w0 w'))
     case atStart => exact ⟨(0),(t155),(t156),(([] : List Int)),(.slice none 0 0),Z165,H',⟨Nat.le_refl _⟩,⟨Z129⟩,⟨Z276⟩,⟨Z282⟩,⟨Z80⟩,⟨Z221⟩,⟨Z86⟩⟩
     case round =>
      clear H'
      try clear c1
      try clear c2
      try clear p2
      try clear c3
      try clear c4
      try clear c5
      try clear p6
      try clear c18
      try clear c19
      try clear c22
      try clear c25
      try clear c26
      try clear c31
      try clear c33
      try clear c34
      try clear p2
      try clear p6
      obtain ⟨x5_3,x1001_3,x1002_3,x142007_3,u142007,rfl,HA,HK3,HO_142007,BK122,BK141,HI0,HK,HB⟩ := hrel
      cases gk with
      | zero => exact absurd HA.out (by simp [spec_l8Right.l0])
      | succ k3 =>
       have H := HA.out
       clear HA
       simp only [spec_l8Right.l0] at H
       by_cases c40 : x5_3 < t154
       rotate_left
       ·rw [if_neg c40] at H
        have c40b0 : decide (x5_3 < t154) = false := decide_eq_false c40
        clear c40
        simp only [Option.some.injEq,Prod.mk.injEq] at H
        obtain ⟨rfl,rfl,rfl,rfl,rfl,rfl,rfl,rfl,rfl,rfl⟩ := H
        have hnb48 := NB141_122.out
        have hnc48 := NB122_141.out
        have hnb49 := NB141_0.out
        have hnc49 := NB0_141.out
        obtain ⟨hcz50_0,hcz50_1,hcz50_2,hcz50_3,hcz50_4,hcz50_5,hcz50_6,hcz50_7,hfz50_0,hfz50_1,hfz50_2,hfz50_3,hfz50_4,hfz50_5,hfz50_6,hfz50_7⟩ := cells8 BK141.out
        have hnb51 := NB122_0.out
        have hnc51 := NB0_122.out
        obtain ⟨hcz52_0,hcz52_1,hcz52_2,hcz52_3,hcz52_4,hcz52_5,hcz52_6,hcz52_7,hfz52_0,hfz52_1,hfz52_2,hfz52_3,hfz52_4,hfz52_5,hfz52_6,hfz52_7⟩ := cells8 BK122.out
        obtain ⟨Ao53,co53,eo53⟩ := Kd.R_slice HO_142007.out
        subst eo53
        go_wp2
        refine bodyPost_ret (results_cell_row rfl _ _ gb122 26 #[.int .i64 (wrap64 (1 + t123)),.int .i64 t126,.int .i64 (wrap64 (2 + t129)),.int .i64 x142003_8,.int .i64 (wrap64 (1 + t135)),.int .i64 x142005_28,.int .i64 (wrap64 (1 + t138)),.slice Ao53 x142007_3.length co53] (0,0) _ rfl (by refine bP ?_;refine blk_put (cs := #[.int .i64 (wrap64 (1 + t123)),.int .i64 t126,.int .i64 (wrap64 (2 + t129)),.int .i64 x142003_8,.int .i64 (wrap64 (1 + t135)),.int .i64 x142005_28,.int .i64 (wrap64 (1 + t138)),.slice none 0 0]) ?_ 7 _ rfl;refine bP ?_;refine blk_put (cs := #[.int .i64 (wrap64 (1 + t123)),.int .i64 t126,.int .i64 (wrap64 (2 + t129)),.int .i64 x142003_8,.int .i64 (wrap64 (1 + t135)),.int .i64 x142005_28,.int .i64 0,.slice none 0 0]) ?_ 6 _ rfl;refine bP ?_;refine blk_put (cs := #[.int .i64 (wrap64 (1 + t123)),.int .i64 t126,.int .i64 (wrap64 (2 + t129)),.int .i64 x142003_8,.int .i64 (wrap64 (1 + t135)),.int .i64 0,.int .i64 0,.slice none 0 0]) ?_ 5 _ rfl;refine bP ?_;refine blk_put (cs := #[.int .i64 (wrap64 (1 + t123)),.int .i64 t126,.int .i64 (wrap64 (2 + t129)),.int .i64 x142003_8,.int .i64 0,.int .i64 0,.int .i64 0,.slice none 0 0]) ?_ 4 _ rfl;refine bP ?_;refine blk_put (cs := #[.int .i64 (wrap64 (1 + t123)),.int .i64 t126,.int .i64 (wrap64 (2 + t129)),.int .i64 0,.int .i64 0,.int .i64 0,.int .i64 0,.slice none 0 0]) ?_ 3 _ rfl;refine bP ?_;refine blk_put (cs := #[.int .i64 (wrap64 (1 + t123)),.int .i64 t126,.int .i64 0,.int .i64 0,.int .i64 0,.int .i64 0,.int .i64 0,.slice none 0 0]) ?_ 2 _ rfl;refine bP ?_;refine blk_put (cs := #[.int .i64 (wrap64 (1 + t123)),.int .i64 0,.int .i64 0,.int .i64 0,.int .i64 0,.int .i64 0,.int .i64 0,.slice none 0 0]) ?_ 1 _ rfl;refine bP ?_;refine blk_put (cs := #[.int .i64 0,.int .i64 0,.int .i64 0,.int .i64 0,.int .i64 0,.int .i64 0,.int .i64 0,.slice none 0 0]) ?_ 0 _ rfl;refine bP ?_;exact BK122.out) Tryz.underlying26 rfl Z190) rfl ?_
        exact ⟨_,Z152,by (with_reducible repeat (first | apply Kd.R_alloc | apply Kd.R_drewN | apply Kd.R_drew));exact Kd.R_mono (Kd.R_far (p := ⟨gb122,7,none⟩) (Kd.R_far (p := ⟨gb122,6,none⟩) (Kd.R_far (p := ⟨gb122,5,none⟩) (Kd.R_far (p := ⟨gb122,4,none⟩) (Kd.R_far (p := ⟨gb122,3,none⟩) (Kd.R_far (p := ⟨gb122,2,none⟩) (Kd.R_far (p := ⟨gb122,1,none⟩) (Kd.R_far (p := ⟨gb122,0,none⟩) (Kd.R_types HO_142007.out BK122.out Z306) (fun _ hk => hk.2) (.int .i64 (wrap64 (1 + t123)))) (fun _ hk => hk.2) (.int .i64 t126)) (fun _ hk => hk.2) (.int .i64 (wrap64 (2 + t129)))) (fun _ hk => hk.2) (.int .i64 x142003_8)) (fun _ hk => hk.2) (.int .i64 (wrap64 (1 + t135)))) (fun _ hk => hk.2) (.int .i64 x142005_28)) (fun _ hk => hk.2) (.int .i64 (wrap64 (1 + t138)))) (fun _ hk => hk.2) (.slice Ao53 x142007_3.length co53)) (fun _ hk => trivial),Z80,Z86,Z221⟩
       rw [if_pos c40] at H
       have c40b0 : decide (x5_3 < t154) = true := decide_eq_true c40
       clear c40
       obtain ⟨⟨t157,t158,t159⟩,A410,H⟩ := Option.bind_eq_some_iff.mp H
       try dsimp only at H
       have A41 := Aside0.mk A410
       clear A410
       obtain ⟨c42,H⟩ := ifp H
       have LMc42 := Aside0.mk c42
       clear c42
       obtain ⟨y160,hyy⟩ : ∃ y_ : List Int,y_ = (x142007_3 ++ [wrap64 (t157 - 1)]) := ⟨_,rfl⟩
       replace H : (spec_l8Right.l0 k3 t154 (wrap64 (x5_3 + 1)) s0_0 t158 t159 (wrap64 (1 + t123)) t126 (wrap64 (2 + t129)) x142003_8 (wrap64 (1 + t135)) x142005_28 (wrap64 (1 + t138)) y160) = some (r1,r2,r3,r4,r5,r6,r7,r8,r9,r10) := zR
       have Ny160 := Aside0.mk hyy
       clear hyy
       have H' := Aside0.mk H
       clear H
       try go_wp2
       have n_ := jA (Kd.R_drew HO_142007.out) (jA (blk_drew BK122.out) (jA (blk_drew BK141.out) (jA (IsS65.drew HI0.out) (jA (keep_drew HK.out) (Aside0.mk (below_drew1 HB.out))))))
       clear HO_142007 BK122 BK141 HI0 HK HB
       obtain ⟨HO_142007,BK122,BK141,HI0,HK,HB⟩ := n_
       refine start_ (n := 9) (S := fun w' => w'.cell? ⟨gb141,0,none⟩ = some (.int .i64 (wrap64 (1 + t123))) ∧ w'.cell? ⟨gb141,1,none⟩ = some (.int .i64 t126) ∧ w'.cell? ⟨gb141,2,none⟩ = some (.int .i64 (wrap64 (2 + t129))) ∧ w'.cell? ⟨gb141,3,none⟩ = some (.int .i64 x142003_8) ∧ w'.cell? ⟨gb141,4,none⟩ = some (.int .i64 (wrap64 (1 + t135))) ∧ w'.cell? ⟨gb141,5,none⟩ = some (.int .i64 x142005_28) ∧ w'.cell? ⟨gb141,6,none⟩ = some (.int .i64 (wrap64 (1 + t138))) ∧ w'.cell? ⟨gb141,7,none⟩ = some (u142007)) (ds := [8]) (qM 9 0) Z190 rfl (by kernel_rfl) ⟨bc BK141 0,bc BK141 1,bc BK141 2,bc BK141 3,bc BK141 4,bc BK141 5,bc BK141 6,bc BK141 7⟩ (fun hHeld => ?_);refine with_tabW spec_l8Right.tab10 spec_l8Right.bits10 (fun HT_ HW_ => ?_)
       generalize wr.drew = w43 at HO_142007 BK122 BK141 HI0 HK HB hHeld ⊢
       refine rP 0 45 9 1 HT_ (h := ?_)
       refine rP 2 47 9 5 HT_ (h := ?_)
       refine rT8 1 46 9 7 HT_ HW_ hHeld (h := ?_)
       refine rO 3 48 9 15 HT_ (h := fun K hK => ?_)
       refine goes_ Tryz.func44 Z190 rfl #[.pointer (some ⟨g,0,none⟩),.int .i64 3] Z191 rfl rfl Z130 ?_
       with_reducible refine (spec_l1Below.calls g s0_0 x1001_3 x1002_3 3 t157 t158 t159 w0 _ ?side1 ?side2 A41.out).mono ?_
       (case side1 => exact Z80)
       (case side2 => exact Z86)
       rintro e w44 ⟨rfl,hi,hb,hk⟩
       refine ⟨_,rfl,?_⟩
       have n_ := jA (Kd.R_mono (Kd.R_keep (IsS65.apart (show IsS65 w0 _ g s0_0 x1001_3 x1002_3 from Z80) Z138 Z306) hk (fun _ h => h.2)) (fun _ h => h.1)) (jA (KeepBut.blk hk (g' := gb122) (o := .cells #[.int .i64 0,.int .i64 0,.int .i64 0,.int .i64 0,.int .i64 0,.int .i64 0,.int .i64 0,.slice none 0 0] 26 (0,0)) Z276 NB122_0.out Z286) (jA (KeepBut.blk hk (g' := gb141) (o := .cells #[.int .i64 (wrap64 (1 + t123)),.int .i64 t126,.int .i64 (wrap64 (2 + t129)),.int .i64 x142003_8,.int .i64 (wrap64 (1 + t135)),.int .i64 x142005_28,.int .i64 (wrap64 (1 + t138)),u142007] 26 (0,0)) Z282 NB141_0.out Z286) (jA (KeepBut.trans Z221 hk (.inl rfl)) (jA (hb) (Aside0.mk (hi))))))
       clear HO_142007 BK122 BK141 HK HB HI0
       obtain ⟨HO_142007,BK122,BK141,HK,HB,HI0⟩ := n_
       (try clear hb)
       (try clear hb2)
       (try clear hk)
       (try clear hi)
       refine hK.out _ _ ⟨bc BK141 0,bc BK141 1,bc BK141 2,bc BK141 3,bc BK141 4,bc BK141 5,bc BK141 6,bc BK141 7⟩ (fun hHeld => ?_)
       clear hK K
       refine rN (h := ?_)
       refine rP 4 49 9 31 HT_ (h := ?_)
       refine rO 5 50 9 63 HT_ (h := fun K hK => ?_)
       refine value_ (w1 := ?_) (v := ?_) Z191 rfl ?_ ?_
       rotate_left 2
       ·go_simp
        constructor
        ·rfl
        rfl
       refine hK.out _ _ ⟨(blk_cell (blk_alloc BK141.out _) 0).trans rfl,(blk_cell (blk_alloc BK141.out _) 1).trans rfl,(blk_cell (blk_alloc BK141.out _) 2).trans rfl,(blk_cell (blk_alloc BK141.out _) 3).trans rfl,(blk_cell (blk_alloc BK141.out _) 4).trans rfl,(blk_cell (blk_alloc BK141.out _) 5).trans rfl,(blk_cell (blk_alloc BK141.out _) 6).trans rfl,(blk_cell (blk_alloc BK141.out _) 7).trans rfl⟩ (fun hHeld => ?_)
       clear hK K
       refine rN (h := ?_)
       refine rO 6 51 9 127 HT_ (h := fun K hK => ?_)
       refine Kd.R_append_step (Kd.int .i64) w.heap.size Z191 (.tmp 46) (.tmp 50) 24 3 (.int .i64 0) 8 rfl Tryz.underlying24 info3 rfl Z306 Z285 u142007 x142007_3 (wrap64 (t157 - 1)) [.int .i64 (wrap64 (t157 - 1))] (fun _ => True) (fun _ => False) rfl rfl ?aP (fun _ hk => hk.elim) ?aF ?aO (Below.refl _ _) ?aS ?aL ?_
       (case aP => exact rfl)
       (case aF => exact Z183)
       (case aO => exact Z138)
       (case aS => exact (keep_size (w := w) (g := g) (row := none) Z221))
       (case aL => have := LMc42.out;omega)
       intro v161 w45 ho hb hg hat
       rw [← Ny160.out] at ho
       have n_ := jA (blk_grown (g := gb122) (o := .cells #[.int .i64 0,.int .i64 0,.int .i64 0,.int .i64 0,.int .i64 0,.int .i64 0,.int .i64 0,.slice none 0 0] 26 (0,0)) Z276 hg (Kd.R_ne HO_142007.out BK122.out Z306)) (jA (blk_grown (g := gb141) (o := .cells #[.int .i64 (wrap64 (1 + t123)),.int .i64 t126,.int .i64 (wrap64 (2 + t129)),.int .i64 x142003_8,.int .i64 (wrap64 (1 + t135)),.int .i64 x142005_28,.int .i64 (wrap64 (1 + t138)),u142007] 26 (0,0)) Z282 hg (Kd.R_ne HO_142007.out BK141.out Z306)) (jA (IsS65.grown (by repeat (first | (with_reducible first | exact HI0.out | exact IsS65.far HI0.out NB0_122.out _ | exact IsS65.far HI0.out NB0_141.out _ | apply IsS65.alloc | apply IsS65.drewN | apply IsS65.drew | apply IsS65.set_1 | apply IsS65.set_2 | refine IsS65.far ?_ NB0_122.out _ | refine IsS65.far ?_ NB0_141.out _) | exact HI0.out)) hg (IsS65.own_ne HI0.out HO_142007.out Z306)) (jA (below_weaken Z86 HL.out hb) (jA (KeepBut.trans Z221 (KeepBut.of_grown hg g) (Kd.R_base2 HO_142007.out)) (Aside0.mk (ho))))))
       clear BK122 BK141 HI0 HB HK HO_142007
       obtain ⟨BK122,BK141,HI0,HB,HK,HO162⟩ := n_
       clear ho hb hg hat
       obtain ⟨Ao46,co46,eo46⟩ := Kd.R_slice HO162.out
       (first | subst eo46 | (injection eo46 with f1_ f2_ f3_;have f4_ := f1_.symm;have f5_ := f3_.symm;clear f1_ f2_ f3_;subst f4_;subst f5_))
       refine hK.out _ _ ⟨bc BK141 0,bc BK141 1,bc BK141 2,bc BK141 3,bc BK141 4,bc BK141 5,bc BK141 6,bc BK141 7⟩ (fun hHeld => ?_)
       clear hK K
       refine rN (h := ?_)
       refine rP 7 52 9 255 HT_ (h := ?_)
       refine last_ (i := 8) (N := none) (qM 9 511) rfl rfl (one_of HT_.out Z190) Z306 (fun K hK => ?_)
       have hs47 : w45.cell? ⟨gb141,7,none⟩ = some (u142007) := bc BK141 7
       have hfs47 := blk_frozen BK141.out 7
       have hns47_0 := NB122_141.out
       have hms47_0 := NB141_122.out
       refine skip_ (w1 := ?_) Z191 rfl ?_ ?_
       rotate_left
       ·go_simp
        rfl
       refine hK.out _ _ ?_
       clear hK K
       refine done_ (done_of HT_.out Z190) ?_
       try go_wp2
       go_roundg k3
       case measure => have := HJ8.out;have := HJ28.out;have := HK3.out;omega
       case rel => exact ⟨(wrap64 (x5_3 + 1)),(t158),(t159),(y160),(.slice Ao46 y160.length co46),Z165,H',⟨by have := HJ8.out;have := HJ28.out;have := HK3.out;omega⟩,⟨by (with_reducible repeat (first | apply Kd.R_alloc | apply Kd.R_drewN | apply Kd.R_drew));exact Kd.R_mono (Kd.R_far (p := ⟨gb141,7,none⟩) (Kd.R_types HO162.out BK141.out Z306) (fun _ hk => hk.2) (.slice Ao46 y160.length co46)) (fun _ hk => trivial)⟩,⟨Z156⟩,⟨by refine bP ?_;refine blk_put (cs := #[.int .i64 (wrap64 (1 + t123)),.int .i64 t126,.int .i64 (wrap64 (2 + t129)),.int .i64 x142003_8,.int .i64 (wrap64 (1 + t135)),.int .i64 x142005_28,.int .i64 (wrap64 (1 + t138)),u142007]) ?_ 7 _ rfl;refine bP ?_;exact BK141.out⟩,⟨Z80⟩,⟨Z221⟩,⟨Z86⟩⟩

/-! ### spec_l1PickInt: function 45 -/
def spec_l1PickInt.f (s0_0 : List Int) (s0_1 : Int) (s0_2 : Int) (l1 : List Int) : Option (Int × Int × Int) := (spec_l1Below.f s0_0 s0_1 s0_2 (l1.length : Int)).bind fun bt163 => (if 0 ≤ bt163.1 then (if bt163.1 < (l1.length : Int) then (some (rd l1 bt163.1,bt163.2.1,bt163.2.2)) else (none)) else (none))
set_option maxHeartbeats 8000000 in
set_option maxRecDepth 100000 in
theorem spec_l1PickInt.calls (g : Nat) (s0_0 : List Int) (s0_1 : Int) (s0_2 : Int) (A1 : Option Addr) (c1 : Nat) (l1 : List Int) (r1 : Int) (r2 : Int) (r3 : Int) (w0 w : World) (hI : IsS65 w0 w g s0_0 s0_1 s0_2) (hB : Below w0.heap.size w0 w) (hr1 : Kd.C (Kd.int .i64) w A1 l1.length l1) (hc1 : l1.length ≤ c1) (hf1 : ∀ ad,A1 = some ad → 0 < l1.length → ad.block ≠ g) (h : spec_l1PickInt.f s0_0 s0_1 s0_2 l1 = some (r1,r2,r3)) :
  Calls Tryz.prog 45 #[.pointer (some ⟨g,0,none⟩),.slice A1 l1.length c1] w fun e w' => e = .returned (.int .i64 r1) ∧ IsS65 w0 w' g s0_0 r2 r3 ∧ Below w0.heap.size w0 w' ∧ KeepBut w w' g none := by
 have HR1 := Aside0.mk hr1
 have HC1 := Aside0.mk hc1
 clear hr1 hc1
 have HI0 := Aside0.mk hI
 have HK := Aside0.mk (KeepBut.refl w g none)
 have HL := Aside0.mk hB.size
 clear hI
 have HW0 := Aside0.mk hB.size
 have HB := Aside0.mk hB
 clear hB
 have H := h
 clear h
 unfold spec_l1PickInt.f at H
 obtain ⟨⟨t163,t164,t165⟩,A30,H⟩ := Option.bind_eq_some_iff.mp H
 try dsimp only at H
 have A3 := Aside0.mk A30
 clear A30
 obtain ⟨c4,H⟩ := ifp H
 have c4b0 : decide (0 ≤ t163) = true := decide_eq_true c4
 clear c4
 obtain ⟨c5,H⟩ := ifp H
 have c5b0 : decide (t163 < (l1.length : Int)) = true := decide_eq_true c5
 clear c5
 simp only [Option.some.injEq,Prod.mk.injEq] at H
 obtain ⟨rfl,rfl,rfl⟩ := H
 go_enter Tryz.func45,Tryz.ntmps45
 go_wp2_with (first | ((with_reducible refine gate_callee (f := 44) rfl ?_);refine goesL_ (some 9) rfl rfl Tryz.func44 Z190 rfl #[.pointer (some ⟨g,0,none⟩),.int .i64 (l1.length : Int)] rfl Z130 ?_;(with_reducible refine (spec_l1Below.calls g s0_0 s0_1 s0_2 (l1.length : Int) t163 t164 t165 w0 _ ?side1 ?side2 A3.out).mono ?_);(case side1 => exact Z238);(case side2 => exact Z237);rintro e wq1 ⟨rfl,hi,hb,hk⟩;refine ⟨_,rfl,?_⟩;have n_ := Z90;clear HK HB HI0;obtain ⟨HK,HB,HI0⟩ := n_;(try clear hb);(try clear hb2);(try clear hk);(try clear hi);have pq2 : 0 ≤ (t163 : Int) := of_decide_eq_true Z164;have qq2 : t163 < (l1.length : Int) := of_decide_eq_true Z164;obtain ⟨adq2,eq2,hxq2_0⟩ := Kd.at_int HR1.out t163 pq2 qq2;cases eq2;replace hxq2_0 := keep_cell HK.out hxq2_0 Z136;replace pq2 := eq_true pq2;replace qq2 := eq_true qq2))
 go_ret
 exact ⟨Z152,Z238,Z237,Z297⟩

end Go.Proofs.YtepnbcdbagjmbaeGreatDoor.QFnConfig
