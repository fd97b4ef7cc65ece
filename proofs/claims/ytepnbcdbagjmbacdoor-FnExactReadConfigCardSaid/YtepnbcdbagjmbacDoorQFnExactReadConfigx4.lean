/- The machine side of FnExactReadConfig: what each Go function that it reaches comes to. Conditions: none. -/
import Derived.Test.YtepnbcdbagjmbacDoorQFnExactReadConfigx0
import Derived.Test.YtepnbcdbagjmbacDoorQFnExactReadConfigx1
import Derived.Test.YtepnbcdbagjmbacDoorQFnExactReadConfigx3
namespace Go.Proofs.YtepnbcdbagjmbacDoor.QFnExactReadConfig
open Go.RowKit Go.Proofs.YtepnbcdbagjmbacDoorW.PrintWords Go.Proofs.YtepnbcdbagjmbacDoorW.PrintLast Go.Proofs.YtepnbcdbagjmbacDoorW.PrintMore
attribute [local go_sem] max2_int min2_int max_two min_two max_three min_three max_four min_four   -- for this text's walks alone
set_option linter.unusedVariables false
set_option linter.unusedSimpArgs false

/-! ### spec_ReadConfig: function 4 -/
mutual
def spec_ReadConfig.l0 : Nat → List Bool → List ByteArray → Int → Int → Int → Int → Int → Int → Int → Int → List Int → Option (Int × Int × Int × Int × Int × Int × Int × List Int × Int × Int × Int)
 | 0,_,_,_,_,_,_,_,_,_,_,_ => none
 | k + 1,x5,x6,x7,x198000,x198001,x198002,x198003,x198004,x198005,x198006,x198007 => if x7 < (x6.length : Int) then (if 0 ≤ x7 then (if (rdOf ByteArray.empty x6 x7).toList = ([] : List UInt8) then (spec_ReadConfig.l0 k x5 x6 (wrap64 (x7 + 1)) x198000 x198001 x198002 x198003 x198004 x198005 x198006 x198007) else (spec_ReadConfig.l1 k x5 x6 x7 0 x198000 x198001 x198002 x198003 x198004 x198005 x198006 x198007)) else (none)) else (some (x198000,x198001,x198002,x198003,x198004,x198005,x198006,x198007,0,0,0))
def spec_ReadConfig.j2 : Nat → List Bool → List ByteArray → Int → Int → Int → Int → Int → Int → Int → Int → Int → List Int → Option (Int × Int × Int × Int × Int × Int × Int × List Int × Int × Int × Int)
 | 0,_,_,_,_,_,_,_,_,_,_,_,_ => none
 | k + 1,x5,x6,x7,x8,x198000,x198001,x198002,x198003,x198004,x198005,x198006,x198007 => if 0 ≤ x7 then (if x7 < (x6.length : Int) then (if x8 = ((rdOf ByteArray.empty x6 x7).size : Int) then (some (0,0,0,0,0,0,0,([] : List Int),10,x7,0)) else (if 0 ≤ x8 then (if x8 ≤ ((rdOf ByteArray.empty x6 x7).size : Int) then ((spec_l8Word.f k ((rdOf ByteArray.empty x6 x7).extract 0 (x8 : Int).toNat)).bind fun t209 => (if t209 < 0 then (some (0,0,0,0,0,0,0,([] : List Int),11,x7,0)) else (if 0 ≤ t209 then (if t209 < (x5.length : Int) then (if rdOf false x5 t209 = true then (some (0,0,0,0,0,0,0,([] : List Int),6,x7,0)) else (if 0 ≤ (wrap64 (x8 + 1)) then (if (wrap64 (x8 + 1)) ≤ ((rdOf ByteArray.empty x6 x7).size : Int) then ((spec_l8Lay.f k x198000 x198001 x198002 x198003 x198004 x198005 x198006 x198007 t209 ((rdOf ByteArray.empty x6 x7).extract ((wrap64 (x8 + 1)) : Int).toNat (rdOf ByteArray.empty x6 x7).size)).bind fun bt213 => (if bt213.2.2.2.2.2.2.2.2 = 0 then (spec_ReadConfig.l0 k (x5.set (t209 : Int).toNat true) x6 (wrap64 (x7 + 1)) bt213.1 bt213.2.1 bt213.2.2.1 bt213.2.2.2.1 bt213.2.2.2.2.1 bt213.2.2.2.2.2.1 bt213.2.2.2.2.2.2.1 bt213.2.2.2.2.2.2.2.1) else (some (0,0,0,0,0,0,0,([] : List Int),bt213.2.2.2.2.2.2.2.2,x7,0)))) else (none)) else (none))) else (none)) else (none)))) else (none)) else (none))) else (none)) else (none)
def spec_ReadConfig.l1 : Nat → List Bool → List ByteArray → Int → Int → Int → Int → Int → Int → Int → Int → Int → List Int → Option (Int × Int × Int × Int × Int × Int × Int × List Int × Int × Int × Int)
 | 0,_,_,_,_,_,_,_,_,_,_,_,_ => none
 | k + 1,x5,x6,x7,x8,x198000,x198001,x198002,x198003,x198004,x198005,x198006,x198007 => if 0 ≤ x7 then (if x7 < (x6.length : Int) then (if x8 < ((rdOf ByteArray.empty x6 x7).size : Int) then (if 0 ≤ x8 then (if (bt (rdOf ByteArray.empty x6 x7) x8) = 61 then (spec_ReadConfig.j2 k x5 x6 x7 x8 x198000 x198001 x198002 x198003 x198004 x198005 x198006 x198007) else (spec_ReadConfig.l1 k x5 x6 x7 (wrap64 (x8 + 1)) x198000 x198001 x198002 x198003 x198004 x198005 x198006 x198007)) else (none)) else (spec_ReadConfig.j2 k x5 x6 x7 x8 x198000 x198001 x198002 x198003 x198004 x198005 x198006 x198007)) else (none)) else (none)
end
def spec_ReadConfig.f (k : Nat) (a0 : ByteArray) : Option (Int × Int × Int × Int × Int × Int × Int × List Int × Int × Int × Int) := if (a0.size : Int) > 4000 then (some (0,0,0,0,0,0,0,([] : List Int),1,0,0)) else ((spec_UsualConfig.f).bind fun bt187 => (if 7 ≤ 281474976710656 then ((spec_Parts.f k a0 10).bind fun t201 => (spec_ReadConfig.l0 k (List.replicate 7 false) t201 0 bt187.1 bt187.2.1 bt187.2.2.1 bt187.2.2.2.1 bt187.2.2.2.2.1 bt187.2.2.2.2.2.1 bt187.2.2.2.2.2.2.1 bt187.2.2.2.2.2.2.2)) else (none)))
theorem spec_ReadConfig.mono_l : ∀ k,(∀ y0 y1 y2 y3 y4 y5 y6 y7 y8 y9 y10,LeO (spec_ReadConfig.l0 k y0 y1 y2 y3 y4 y5 y6 y7 y8 y9 y10) (spec_ReadConfig.l0 (k + 1) y0 y1 y2 y3 y4 y5 y6 y7 y8 y9 y10)) ∧ (∀ y0 y1 y2 y3 y4 y5 y6 y7 y8 y9 y10 y11,LeO (spec_ReadConfig.j2 k y0 y1 y2 y3 y4 y5 y6 y7 y8 y9 y10 y11) (spec_ReadConfig.j2 (k + 1) y0 y1 y2 y3 y4 y5 y6 y7 y8 y9 y10 y11)) ∧ (∀ y0 y1 y2 y3 y4 y5 y6 y7 y8 y9 y10 y11,LeO (spec_ReadConfig.l1 k y0 y1 y2 y3 y4 y5 y6 y7 y8 y9 y10 y11) (spec_ReadConfig.l1 (k + 1) y0 y1 y2 y3 y4 y5 y6 y7 y8 y9 y10 y11))
 | 0 => ⟨fun _ _ _ _ _ _ _ _ _ _ _ r h => by simp [spec_ReadConfig.l0] at h,fun _ _ _ _ _ _ _ _ _ _ _ _ r h => by simp [spec_ReadConfig.j2] at h,fun _ _ _ _ _ _ _ _ _ _ _ _ r h => by simp [spec_ReadConfig.l1] at h⟩
 | k + 1 => by
  obtain ⟨ih0,ih1,ih2⟩ := spec_ReadConfig.mono_l k
  refine ⟨?_,?_,?_⟩
  ·intro y0 y1 y2 y3 y4 y5 y6 y7 y8 y9 y10
   unfold spec_ReadConfig.l0
   repeat' first
   | (with_reducible exact ih0 _ _ _ _ _ _ _ _ _ _ _)
   | (with_reducible exact ih1 _ _ _ _ _ _ _ _ _ _ _ _)
   | (with_reducible exact ih2 _ _ _ _ _ _ _ _ _ _ _ _)
   | (with_reducible exact spec_Parts.mono _ _ _)
   | (with_reducible exact spec_l8Lay.mono _ _ _ _ _ _ _ _ _ _ _)
   | (with_reducible exact spec_l8Word.mono _ _)
   | (with_reducible exact LeO.refl _)
   | (with_reducible exact LeO.none _)
   | (with_reducible refine LeO.ite ?_ ?_)
   | (with_reducible refine LeO.bind ?_ (fun _ => ?_))
   | exact ih0 _ _ _ _ _ _ _ _ _ _ _
   | exact ih1 _ _ _ _ _ _ _ _ _ _ _ _
   | exact ih2 _ _ _ _ _ _ _ _ _ _ _ _
   | exact spec_Parts.mono _ _ _
   | exact spec_l8Lay.mono _ _ _ _ _ _ _ _ _ _ _
   | exact spec_l8Word.mono _ _
   | exact LeO.none _
   | refine LeO.ite ?_ ?_
   | refine LeO.bind ?_ (fun _ => ?_)
  ·intro y0 y1 y2 y3 y4 y5 y6 y7 y8 y9 y10 y11
   unfold spec_ReadConfig.j2
   repeat' first
   | (with_reducible exact ih0 _ _ _ _ _ _ _ _ _ _ _)
   | (with_reducible exact ih1 _ _ _ _ _ _ _ _ _ _ _ _)
   | (with_reducible exact ih2 _ _ _ _ _ _ _ _ _ _ _ _)
   | (with_reducible exact spec_Parts.mono _ _ _)
   | (with_reducible exact spec_l8Lay.mono _ _ _ _ _ _ _ _ _ _ _)
   | (with_reducible exact spec_l8Word.mono _ _)
   | (with_reducible exact LeO.refl _)
   | (with_reducible exact LeO.none _)
   | (with_reducible refine LeO.ite ?_ ?_)
   | (with_reducible refine LeO.bind ?_ (fun _ => ?_))
   | exact ih0 _ _ _ _ _ _ _ _ _ _ _
   | exact ih1 _ _ _ _ _ _ _ _ _ _ _ _
   | exact ih2 _ _ _ _ _ _ _ _ _ _ _ _
   | exact spec_Parts.mono _ _ _
   | exact spec_l8Lay.mono _ _ _ _ _ _ _ _ _ _ _
   | exact spec_l8Word.mono _ _
   | exact LeO.none _
   | refine LeO.ite ?_ ?_
   | refine LeO.bind ?_ (fun _ => ?_)
  ·intro y0 y1 y2 y3 y4 y5 y6 y7 y8 y9 y10 y11
   unfold spec_ReadConfig.l1
   repeat' first
   | (with_reducible exact ih0 _ _ _ _ _ _ _ _ _ _ _)
   | (with_reducible exact ih1 _ _ _ _ _ _ _ _ _ _ _ _)
   | (with_reducible exact ih2 _ _ _ _ _ _ _ _ _ _ _ _)
   | (with_reducible exact spec_Parts.mono _ _ _)
   | (with_reducible exact spec_l8Lay.mono _ _ _ _ _ _ _ _ _ _ _)
   | (with_reducible exact spec_l8Word.mono _ _)
   | (with_reducible exact LeO.refl _)
   | (with_reducible exact LeO.none _)
   | (with_reducible refine LeO.ite ?_ ?_)
   | (with_reducible refine LeO.bind ?_ (fun _ => ?_))
   | exact ih0 _ _ _ _ _ _ _ _ _ _ _
   | exact ih1 _ _ _ _ _ _ _ _ _ _ _ _
   | exact ih2 _ _ _ _ _ _ _ _ _ _ _ _
   | exact spec_Parts.mono _ _ _
   | exact spec_l8Lay.mono _ _ _ _ _ _ _ _ _ _ _
   | exact spec_l8Word.mono _ _
   | exact LeO.none _
   | refine LeO.ite ?_ ?_
   | refine LeO.bind ?_ (fun _ => ?_)
theorem spec_ReadConfig.mono : ∀ a0 k,LeO (spec_ReadConfig.f k a0) (spec_ReadConfig.f (k + 1) a0) := by
 intro a0 k
 obtain ⟨ih0,ih1,ih2⟩ := spec_ReadConfig.mono_l k
 unfold spec_ReadConfig.f
 repeat' first
   | (with_reducible exact ih0 _ _ _ _ _ _ _ _ _ _ _)
   | (with_reducible exact ih1 _ _ _ _ _ _ _ _ _ _ _ _)
   | (with_reducible exact ih2 _ _ _ _ _ _ _ _ _ _ _ _)
   | (with_reducible exact spec_Parts.mono _ _ _)
   | (with_reducible exact spec_l8Lay.mono _ _ _ _ _ _ _ _ _ _ _)
   | (with_reducible exact spec_l8Word.mono _ _)
   | (with_reducible exact LeO.refl _)
   | (with_reducible exact LeO.none _)
   | (with_reducible refine LeO.ite ?_ ?_)
   | (with_reducible refine LeO.bind ?_ (fun _ => ?_))
   | exact ih0 _ _ _ _ _ _ _ _ _ _ _
   | exact ih1 _ _ _ _ _ _ _ _ _ _ _ _
   | exact ih2 _ _ _ _ _ _ _ _ _ _ _ _
   | exact spec_Parts.mono _ _ _
   | exact spec_l8Lay.mono _ _ _ _ _ _ _ _ _ _ _
   | exact spec_l8Word.mono _ _
   | exact LeO.none _
   | refine LeO.ite ?_ ?_
   | refine LeO.bind ?_ (fun _ => ?_)
def spec_ReadConfig.T21 : Bool × List (List Nat × List Nat) := (true,[([],[]),([],[]),([],[]),([],[]),([2,3],[2,3]),([4],[4]),([],[]),([6],[6]),([5,7],[5,7]),([0,1,8],[0,1,8]),([9],[9]),([10],[10]),([10],[10]),([],[]),([13,11,9,0,1,2,3,4,5,6,7,8,9,10,11,13],[11,13]),([12,14,0,1,2,3,4,5,6,7,8,9,10,11,12,13,14],[12])])
def spec_ReadConfig.B21 : List Nat := [0,0,0,0,12,28,0,64,252,511,1023,2047,2047,0,12287,32767]
theorem spec_ReadConfig.tab21 : rtab .any (opsOf Tryd.f4 21) = spec_ReadConfig.T21 := by kernel_rfl
theorem spec_ReadConfig.bits21 : waitsOk spec_ReadConfig.T21.2 spec_ReadConfig.B21 = true := by kernel_rfl
set_option maxHeartbeats 8000000 in
set_option maxRecDepth 100000 in
theorem spec_ReadConfig.calls (k : Nat) (a0 : ByteArray) (r1 : Int) (r2 : Int) (r3 : Int) (r4 : Int) (r5 : Int) (r6 : Int) (r7 : Int) (r8 : List Int) (r9 : Int) (r10 : Int) (r11 : Int) (w : World) (h : spec_ReadConfig.f k a0 = some (r1,r2,r3,r4,r5,r6,r7,r8,r9,r10,r11)) :
  Calls Tryd.prog 4 #[.string a0] w fun e w' => ∃ v7_ : Value,e = .returned (.tuple #[.agg #[.int .i64 r1,.int .i64 r2,.int .i64 r3,.int .i64 r4,.int .i64 r5,.int .i64 r6,.int .i64 r7,v7_],.agg #[.int .i64 r9,.int .i64 r10,.int .i64 r11]]) ∧ Kd.R (Kd.int .i64) 3 w' w.heap.size (fun _ => True) v7_ r8 ∧ Below w.heap.size w w' := by
 have hu24 := Tryd.underlying24
 have hu26 := Tryd.underlying26
 have HB := Aside0.mk (Below.refl w.heap.size w)
 have H := h
 clear h
 unfold spec_ReadConfig.f at H
 by_cases c2 : (a0.size : Int) > 4000
 ·rw [if_pos c2] at H
  have c2b0 : decide (4000 < (a0.size : Int)) = true := decide_eq_true c2
  have c2b1 : decide (4000 < a0.size) = true := decide_eq_true Z134
  clear c2
  simp only [Option.some.injEq,Prod.mk.injEq] at H
  obtain ⟨rfl,rfl,rfl,rfl,rfl,rfl,rfl,rfl,rfl,rfl,rfl⟩ := H
  go_enter Tryd.func4,Tryd.ntmps4
  go_wp2_with (first | ((with_reducible refine gate_dst (N := 2) rfl ?_);refine bE 2 #[.int .i64 0,.int .i64 0,.int .i64 0,.int .i64 0,.int .i64 0,.int .i64 0,.int .i64 0,.slice none 0 0] 24 (h := ?_);intro gb185 hg wq1 hbox hb;have n_ := Z27;clear HB;obtain ⟨HB,BK185,GW185,GE185⟩ := n_;clear hb hbox hg) | ((with_reducible refine gate_dst (N := 3) rfl ?_);refine bE 3 #[.int .i64 0,.int .i64 0,.int .i64 0] 26 (h := ?_);intro gb186 hg wq2 hbox hb;have n_ := Z8;clear BK185 HB;obtain ⟨BK185,HB,BK186,GW186,GE186,NB185_186,NB186_185⟩ := n_;clear hb hbox hg;have hnbq3 := NB185_186.out;have hncq3 := NB186_185.out;obtain ⟨hczq4_0,hczq4_1,hczq4_2,hczq4_3,hczq4_4,hczq4_5,hczq4_6,hczq4_7,hfzq4_0,hfzq4_1,hfzq4_2,hfzq4_3,hfzq4_4,hfzq4_5,hfzq4_6,hfzq4_7⟩ := cells8 BK185.out;obtain ⟨hczq5_0,hczq5_1,hczq5_2,hfzq5_0,hfzq5_1,hfzq5_2⟩ := cells3 BK186.out))
  refine bodyPost_ret (results_cc rfl _ _ gb185 gb186 24 26 #[.int .i64 0,.int .i64 0,.int .i64 0,.int .i64 0,.int .i64 0,.int .i64 0,.int .i64 0,.slice none 0 0] #[.int .i64 1,.int .i64 0,.int .i64 0] (0,0) (0,0) _ _ rfl (by refine bP ?_;refine blk_far ?_ NB185_186.out _;refine bP ?_;refine blk_far ?_ NB185_186.out _;refine bP ?_;refine blk_far ?_ NB185_186.out _;refine bP ?_;refine blk_put (cs := #[.int .i64 0,.int .i64 0,.int .i64 0,.int .i64 0,.int .i64 0,.int .i64 0,.int .i64 0,.slice none 0 0]) ?_ 7 _ rfl;refine bP ?_;refine blk_put (cs := #[.int .i64 0,.int .i64 0,.int .i64 0,.int .i64 0,.int .i64 0,.int .i64 0,.int .i64 0,.slice none 0 0]) ?_ 6 _ rfl;refine bP ?_;refine blk_put (cs := #[.int .i64 0,.int .i64 0,.int .i64 0,.int .i64 0,.int .i64 0,.int .i64 0,.int .i64 0,.slice none 0 0]) ?_ 5 _ rfl;refine bP ?_;refine blk_put (cs := #[.int .i64 0,.int .i64 0,.int .i64 0,.int .i64 0,.int .i64 0,.int .i64 0,.int .i64 0,.slice none 0 0]) ?_ 4 _ rfl;refine bP ?_;refine blk_put (cs := #[.int .i64 0,.int .i64 0,.int .i64 0,.int .i64 0,.int .i64 0,.int .i64 0,.int .i64 0,.slice none 0 0]) ?_ 3 _ rfl;refine bP ?_;refine blk_put (cs := #[.int .i64 0,.int .i64 0,.int .i64 0,.int .i64 0,.int .i64 0,.int .i64 0,.int .i64 0,.slice none 0 0]) ?_ 2 _ rfl;refine bP ?_;refine blk_put (cs := #[.int .i64 0,.int .i64 0,.int .i64 0,.int .i64 0,.int .i64 0,.int .i64 0,.int .i64 0,.slice none 0 0]) ?_ 1 _ rfl;refine bP ?_;refine blk_put (cs := #[.int .i64 0,.int .i64 0,.int .i64 0,.int .i64 0,.int .i64 0,.int .i64 0,.int .i64 0,.slice none 0 0]) ?_ 0 _ rfl;refine bP ?_;exact BK185.out) Tryd.underlying24 rfl Z133 rfl (by refine bP ?_;refine blk_put (cs := #[.int .i64 1,.int .i64 0,.int .i64 0]) ?_ 2 _ rfl;refine bP ?_;refine blk_put (cs := #[.int .i64 1,.int .i64 0,.int .i64 0]) ?_ 1 _ rfl;refine bP ?_;refine blk_put (cs := #[.int .i64 0,.int .i64 0,.int .i64 0]) ?_ 0 _ rfl;refine bP ?_;refine blk_far ?_ NB186_185.out _;refine bP ?_;refine blk_far ?_ NB186_185.out _;refine bP ?_;refine blk_far ?_ NB186_185.out _;refine bP ?_;refine blk_far ?_ NB186_185.out _;refine bP ?_;refine blk_far ?_ NB186_185.out _;refine bP ?_;refine blk_far ?_ NB186_185.out _;refine bP ?_;refine blk_far ?_ NB186_185.out _;refine bP ?_;refine blk_far ?_ NB186_185.out _;refine bP ?_;exact BK186.out) Tryd.underlying26 rfl Z133) rfl ?_
  exact ⟨_,Z107,Z86,Z149⟩
 rw [if_neg c2] at H
 have c2b0 : decide (4000 < (a0.size : Int)) = false := decide_eq_false c2
 have c2b1 : decide (4000 < a0.size) = false := decide_eq_false Z134
 clear c2
 obtain ⟨⟨t187,t188,t189,t190,t191,t192,t193,t194⟩,A80,H⟩ := Option.bind_eq_some_iff.mp H
 try dsimp only at H
 have A8 := Aside0.mk A80
 clear A80
 obtain ⟨c9,H⟩ := ifp H
 have c9b0 := eq_true c9
 have c9b1 : decide (7 ≤ 281474976710656) = true := decide_eq_true c9
 clear c9
 obtain ⟨y198,hyy⟩ : ∃ y_ : List Bool,y_ = (List.replicate 7 false) := ⟨_,rfl⟩
 replace H : ((spec_Parts.f k a0 10).bind fun t201 => (spec_ReadConfig.l0 k y198 t201 0 t187 t188 t189 t190 t191 t192 t193 t194)) = some (r1,r2,r3,r4,r5,r6,r7,r8,r9,r10,r11) := zR
 have Ny198 := Aside0.mk hyy
 clear hyy
 obtain ⟨t201,A100,H⟩ := Option.bind_eq_some_iff.mp H
 have A10 := Aside0.mk A100
 clear A100
 have H' := Aside0.mk H
 clear H
 go_enter Tryd.func4,Tryd.ntmps4
 go_wp2_with (first | ((with_reducible refine gate_dst (N := 2) rfl ?_);refine bE 2 #[.int .i64 0,.int .i64 0,.int .i64 0,.int .i64 0,.int .i64 0,.int .i64 0,.int .i64 0,.slice none 0 0] 24 (h := ?_);intro gb185 hg w11 hbox hb;have n_ := Z27;clear HB;obtain ⟨HB,BK185,GW185,GE185⟩ := n_;clear hb hbox hg) | ((with_reducible refine gate_dst (N := 3) rfl ?_);refine bE 3 #[.int .i64 0,.int .i64 0,.int .i64 0] 26 (h := ?_);intro gb186 hg w12 hbox hb;have n_ := Z8;clear BK185 HB;obtain ⟨BK185,HB,BK186,GW186,GE186,NB185_186,NB186_185⟩ := n_;clear hb hbox hg) | ((with_reducible refine gate_callee (f := 10) rfl ?_);refine goesL_ (some 17) rfl rfl Tryd.func10 Z133 rfl #[] rfl Z87 ?_;(with_reducible refine (spec_UsualConfig.calls  t187 t188 t189 t190 t191 t192 t193 t194 _ A8.out).mono ?_);rintro e w13 ⟨v195,rfl,ho0,hb⟩;refine ⟨_,rfl,?_⟩;have n_ := jA (Kd.R_lower ho0 (below_size Z149)) (jA (blk_below (g := gb185) (o := .cells #[.int .i64 0,.int .i64 0,.int .i64 0,.int .i64 0,.int .i64 0,.int .i64 0,.int .i64 0,.slice none 0 0] 24 (0,0)) Z188 hb) (jA (blk_below (g := gb186) (o := .cells #[.int .i64 0,.int .i64 0,.int .i64 0] 26 (0,0)) Z169 hb) (Aside0.mk (below_step Z149 hb))));clear BK185 BK186 HB;obtain ⟨HO196,BK185,BK186,HB⟩ := n_;(try clear hb);(try clear hb2);(try clear hk);(try clear hi);(try clear ho0)) | ((with_reducible refine gate_dst (N := 4) rfl ?_);refine bE 4 #[.int .i64 0,.int .i64 0,.int .i64 0,.int .i64 0,.int .i64 0,.int .i64 0,.int .i64 0,.slice none 0 0] 24 (h := ?_);intro gb197 hg w14 hbox hb;have n_ := jA (Kd.R_below Z102 hb) (jA (blk_below (g := gb185) (o := .cells #[.int .i64 0,.int .i64 0,.int .i64 0,.int .i64 0,.int .i64 0,.int .i64 0,.int .i64 0,.slice none 0 0] 24 (0,0)) Z188 hb) (jA (blk_below (g := gb186) (o := .cells #[.int .i64 0,.int .i64 0,.int .i64 0] 26 (0,0)) Z169 hb) (jA (below_step Z149 hb) (jA (hbox) (jA ((Z59 : w.heap.size ≤ gb197)) (jA ((Z59 : w.heap.size ≤ gb197)) (jA ((Z143 : gb185 ≠ gb197)) (jA ((Z145 : gb197 ≠ gb185)) (jA ((by rw [hg];exact Nat.ne_of_lt (blk_lt (g := gb186) (o := .cells #[.int .i64 0,.int .i64 0,.int .i64 0] 26 (0,0)) Z169) : gb186 ≠ gb197)) (Aside0.mk ((by rw [hg];exact Nat.ne_of_gt (blk_lt (g := gb186) (o := .cells #[.int .i64 0,.int .i64 0,.int .i64 0] 26 (0,0)) Z169) : gb197 ≠ gb186))))))))))));clear HO196 BK185 BK186 HB;obtain ⟨HO196,BK185,BK186,HB,BK197,GW197,GE197,NB185_197,NB197_185,NB186_197,NB197_186⟩ := n_;clear hb hbox hg;have hnb15 := NB197_185.out;have hnc15 := NB185_197.out;have hnb16 := NB197_186.out;have hnc16 := NB186_197.out;obtain ⟨hcz17_0,hcz17_1,hcz17_2,hcz17_3,hcz17_4,hcz17_5,hcz17_6,hcz17_7,hfz17_0,hfz17_1,hfz17_2,hfz17_3,hfz17_4,hfz17_5,hfz17_6,hfz17_7⟩ := cells8 BK197.out;obtain ⟨Ao18,co18,eo18⟩ := Kd.R_slice HO196.out;subst eo18) | ((with_reducible refine gate_dst (N := 18) rfl ?_);refine Kd.R_make Kd.bool _ 4 rfl (N := 18) rfl 34 _ _ rfl 7 rfl rfl Tryd.underlying34 (.bool false) 1 info4 rfl Z180 Z134 false (ok := fun _ => True) (okp := fun _ => True) rfl (fun _ hk => hk) trivial Z134 Z134 (Below.refl _ _) (Nat.le_refl _) ?_;intro v199 w19 ho20 hb hg_ hnew_;clear hg_ hnew_;(first | rw [← Ny198.out] at ho20 | (simp only [Int.reduceToNat] at ho20;rw [← Ny198.out] at ho20));have n_ := jA (Kd.R_below (by (with_reducible repeat (first | apply Kd.R_alloc | apply Kd.R_drewN | apply Kd.R_drew));exact (Kd.R_mono (Kd.R_far (p := ⟨gb197,7,none⟩) (Kd.R_far (p := ⟨gb197,6,none⟩) (Kd.R_far (p := ⟨gb197,5,none⟩) (Kd.R_far (p := ⟨gb197,4,none⟩) (Kd.R_far (p := ⟨gb197,3,none⟩) (Kd.R_far (p := ⟨gb197,2,none⟩) (Kd.R_far (p := ⟨gb197,1,none⟩) (Kd.R_far (p := ⟨gb197,0,none⟩) (Kd.R_types HO196.out BK197.out Z180) (fun _ hk => hk.2) (.int .i64 t187)) (fun _ hk => hk.2) (.int .i64 t188)) (fun _ hk => hk.2) (.int .i64 t189)) (fun _ hk => hk.2) (.int .i64 t190)) (fun _ hk => hk.2) (.int .i64 t191)) (fun _ hk => hk.2) (.int .i64 t192)) (fun _ hk => hk.2) (.int .i64 t193)) (fun _ hk => hk.2) (.slice Ao18 t194.length co18)) (fun _ h_ => h_.1))) hb) (jA (Kd.R_lower ho20 (below_size Z138)) (jA (blk_below (g := gb185) (o := .cells #[.int .i64 0,.int .i64 0,.int .i64 0,.int .i64 0,.int .i64 0,.int .i64 0,.int .i64 0,.slice none 0 0] 24 (0,0)) (by refine bP ?_;refine blk_far ?_ NB185_197.out _;refine bP ?_;refine blk_far ?_ NB185_197.out _;refine bP ?_;refine blk_far ?_ NB185_197.out _;refine bP ?_;refine blk_far ?_ NB185_197.out _;refine bP ?_;refine blk_far ?_ NB185_197.out _;refine bP ?_;refine blk_far ?_ NB185_197.out _;refine bP ?_;refine blk_far ?_ NB185_197.out _;refine bP ?_;refine blk_far ?_ NB185_197.out _;refine bP ?_;exact BK185.out) hb) (jA (blk_below (g := gb186) (o := .cells #[.int .i64 0,.int .i64 0,.int .i64 0] 26 (0,0)) (by refine bP ?_;refine blk_far ?_ NB186_197.out _;refine bP ?_;refine blk_far ?_ NB186_197.out _;refine bP ?_;refine blk_far ?_ NB186_197.out _;refine bP ?_;refine blk_far ?_ NB186_197.out _;refine bP ?_;refine blk_far ?_ NB186_197.out _;refine bP ?_;refine blk_far ?_ NB186_197.out _;refine bP ?_;refine blk_far ?_ NB186_197.out _;refine bP ?_;refine blk_far ?_ NB186_197.out _;refine bP ?_;exact BK186.out) hb) (jA (blk_below (g := gb197) (o := .cells #[.int .i64 t187,.int .i64 t188,.int .i64 t189,.int .i64 t190,.int .i64 t191,.int .i64 t192,.int .i64 t193,.slice Ao18 t194.length co18] 24 (0,0)) (by refine bP ?_;refine blk_put (cs := #[.int .i64 t187,.int .i64 t188,.int .i64 t189,.int .i64 t190,.int .i64 t191,.int .i64 t192,.int .i64 t193,.slice none 0 0]) ?_ 7 _ rfl;refine bP ?_;refine blk_put (cs := #[.int .i64 t187,.int .i64 t188,.int .i64 t189,.int .i64 t190,.int .i64 t191,.int .i64 t192,.int .i64 0,.slice none 0 0]) ?_ 6 _ rfl;refine bP ?_;refine blk_put (cs := #[.int .i64 t187,.int .i64 t188,.int .i64 t189,.int .i64 t190,.int .i64 t191,.int .i64 0,.int .i64 0,.slice none 0 0]) ?_ 5 _ rfl;refine bP ?_;refine blk_put (cs := #[.int .i64 t187,.int .i64 t188,.int .i64 t189,.int .i64 t190,.int .i64 0,.int .i64 0,.int .i64 0,.slice none 0 0]) ?_ 4 _ rfl;refine bP ?_;refine blk_put (cs := #[.int .i64 t187,.int .i64 t188,.int .i64 t189,.int .i64 0,.int .i64 0,.int .i64 0,.int .i64 0,.slice none 0 0]) ?_ 3 _ rfl;refine bP ?_;refine blk_put (cs := #[.int .i64 t187,.int .i64 t188,.int .i64 0,.int .i64 0,.int .i64 0,.int .i64 0,.int .i64 0,.slice none 0 0]) ?_ 2 _ rfl;refine bP ?_;refine blk_put (cs := #[.int .i64 t187,.int .i64 0,.int .i64 0,.int .i64 0,.int .i64 0,.int .i64 0,.int .i64 0,.slice none 0 0]) ?_ 1 _ rfl;refine bP ?_;refine blk_put (cs := #[.int .i64 0,.int .i64 0,.int .i64 0,.int .i64 0,.int .i64 0,.int .i64 0,.int .i64 0,.slice none 0 0]) ?_ 0 _ rfl;refine bP ?_;exact BK197.out) hb) (Aside0.mk (below_step Z138 hb))))));clear HO196 BK185 BK186 BK197 HB;obtain ⟨HO196,HO200,BK185,BK186,BK197,HB⟩ := n_;clear hb ho20) | ((with_reducible refine gate_callee (f := 11) rfl ?_);refine goesL_ (some 20) rfl rfl Tryd.func11 Z133 rfl #[.string a0,.int .u8 10] rfl Z87 ?_;(with_reducible refine (spec_Parts.calls k a0 10 t201 _ A10.out).mono ?_);rintro e w21 ⟨v202,rfl,ho0,hb⟩;refine ⟨_,rfl,?_⟩;have n_ := jA (Kd.R_below Z102 hb) (jA (Kd.R_below Z105 hb) (jA (Kd.R_lower ho0 (below_size Z138)) (jA (blk_below (g := gb185) (o := .cells #[.int .i64 0,.int .i64 0,.int .i64 0,.int .i64 0,.int .i64 0,.int .i64 0,.int .i64 0,.slice none 0 0] 24 (0,0)) Z188 hb) (jA (blk_below (g := gb186) (o := .cells #[.int .i64 0,.int .i64 0,.int .i64 0] 26 (0,0)) Z169 hb) (jA (blk_below (g := gb197) (o := .cells #[.int .i64 t187,.int .i64 t188,.int .i64 t189,.int .i64 t190,.int .i64 t191,.int .i64 t192,.int .i64 t193,.slice Ao18 t194.length co18] 24 (0,0)) Z170 hb) (Aside0.mk (below_step Z138 hb)))))));clear HO196 HO200 BK185 BK186 BK197 HB;obtain ⟨HO196,HO200,HO203,BK185,BK186,BK197,HB⟩ := n_;(try clear hb);(try clear hb2);(try clear hk);(try clear hi);(try clear ho0)))
 go_loopg [7] k (fun kq v7 w' => ∃ (x5_1 : List Bool) (x7_1 : Int) (x186000_1 : Int) (x186001_1 : Int) (x186002_1 : Int) (x186003_1 : Int) (x186004_1 : Int) (x186005_1 : Int) (x186006_1 : Int) (x187000_1 : Int) (x187001_1 : Int) (x187002_1 : Int) (x198000_1 : Int) (x198001_1 : Int) (x198002_1 : Int) (x198003_1 : Int) (x198004_1 : Int) (x198005_1 : Int) (x198006_1 : Int) (x198007_1 : List Int) (u198007 : Value),v7 = .int .i64 x7_1 ∧ Aside0 (spec_ReadConfig.l0 kq x5_1 t201 x7_1 x198000_1 x198001_1 x198002_1 x198003_1 x198004_1 x198005_1 x198006_1 x198007_1 = some (r1,r2,r3,r4,r5,r6,r7,r8,r9,r10,r11)) ∧ Aside0 (kq ≤ k) ∧ Aside0 (Kd.R Kd.bool 4 w' w.heap.size (fun _ => True) v199 x5_1) ∧ Aside0 (Kd.R Kd.string 9 w' w.heap.size (fun _ => True) v202 t201) ∧ Aside0 (Kd.R (Kd.int .i64) 3 w' w.heap.size (fun _ => True) u198007 x198007_1) ∧ Aside0 (w'.heap[gb185]? = some (.cells #[.int .i64 x186000_1,.int .i64 x186001_1,.int .i64 x186002_1,.int .i64 x186003_1,.int .i64 x186004_1,.int .i64 x186005_1,.int .i64 x186006_1,(.slice none 0 0)] 24 (0,0))) ∧ Aside0 (w'.heap[gb186]? = some (.cells #[.int .i64 x187000_1,.int .i64 x187001_1,.int .i64 x187002_1] 26 (0,0))) ∧ Aside0 (w'.heap[gb197]? = some (.cells #[.int .i64 x198000_1,.int .i64 x198001_1,.int .i64 x198002_1,.int .i64 x198003_1,.int .i64 x198004_1,.int .i64 x198005_1,.int .i64 x198006_1,u198007] 24 (0,0))) ∧ Aside0 (Below w.heap.size w w'))
 case atStart => exact ⟨(y198),(0),(0),(0),(0),(0),(0),(0),(0),(0),(0),(0),(t187),(t188),(t189),(t190),(t191),(t192),(t193),(t194),(.slice Ao18 t194.length co18),Z118,H',⟨Nat.le_refl _⟩,⟨Z105⟩,⟨by (with_reducible repeat (first | apply Kd.R_alloc | apply Kd.R_drewN | apply Kd.R_drew));exact HO203.out⟩,⟨Z102⟩,⟨Z188⟩,⟨Z169⟩,⟨Z170⟩,⟨Z138⟩⟩
 case round =>
  clear H'
  try clear c1
  try clear c2
  try clear c2b0
  try clear c2b1
  try clear p2
  try clear c4
  try clear c5
  try clear c9
  try clear c9b0
  try clear c9b1
  try clear c10
  try clear c11
  try clear c15
  try clear c16
  obtain ⟨x5_1,x7_1,x186000_1,x186001_1,x186002_1,x186003_1,x186004_1,x186005_1,x186006_1,x187000_1,x187001_1,x187002_1,x198000_1,x198001_1,x198002_1,x198003_1,x198004_1,x198005_1,x198006_1,x198007_1,u198007,rfl,HA,HK1,HO_5,HO_6,HO_198007,BK185,BK186,BK197,HB⟩ := hrel
  cases gk with
  | zero => exact absurd HA.out (by simp [spec_ReadConfig.l0])
  | succ k1 =>
   have H := HA.out
   clear HA
   simp only [spec_ReadConfig.l0] at H
   by_cases c22 : x7_1 < (t201.length : Int)
   rotate_left
   ·rw [if_neg c22] at H
    have c22b0 : decide (x7_1 < (t201.length : Int)) = false := decide_eq_false c22
    clear c22
    simp only [Option.some.injEq,Prod.mk.injEq] at H
    obtain ⟨rfl,rfl,rfl,rfl,rfl,rfl,rfl,rfl,rfl,rfl,rfl⟩ := H
    obtain ⟨Ao119,co119,eo119⟩ := Kd.R_slice HO_6.out
    subst eo119
    have hnb120 := NB197_185.out
    have hnc120 := NB185_197.out
    have hnb121 := NB197_186.out
    have hnc121 := NB186_197.out
    obtain ⟨hcz122_0,hcz122_1,hcz122_2,hcz122_3,hcz122_4,hcz122_5,hcz122_6,hcz122_7,hfz122_0,hfz122_1,hfz122_2,hfz122_3,hfz122_4,hfz122_5,hfz122_6,hfz122_7⟩ := cells8 BK197.out
    have hnb123 := NB185_186.out
    have hnc123 := NB186_185.out
    obtain ⟨hcz124_0,hcz124_1,hcz124_2,hcz124_3,hcz124_4,hcz124_5,hcz124_6,hcz124_7,hfz124_0,hfz124_1,hfz124_2,hfz124_3,hfz124_4,hfz124_5,hfz124_6,hfz124_7⟩ := cells8 BK185.out
    obtain ⟨Ao125,co125,eo125⟩ := Kd.R_slice HO_198007.out
    subst eo125
    obtain ⟨hcz126_0,hcz126_1,hcz126_2,hfz126_0,hfz126_1,hfz126_2⟩ := cells3 BK186.out
    go_wp2
    refine bodyPost_ret (results_cc rfl _ _ gb185 gb186 24 26 #[.int .i64 x198000_1,.int .i64 x198001_1,.int .i64 x198002_1,.int .i64 x198003_1,.int .i64 x198004_1,.int .i64 x198005_1,.int .i64 x198006_1,.slice Ao125 x198007_1.length co125] #[.int .i64 0,.int .i64 0,.int .i64 0] (0,0) (0,0) _ _ rfl (by refine bP ?_;refine blk_far ?_ NB185_186.out _;refine bP ?_;refine blk_far ?_ NB185_186.out _;refine bP ?_;refine blk_far ?_ NB185_186.out _;refine bP ?_;refine blk_put (cs := #[.int .i64 x198000_1,.int .i64 x198001_1,.int .i64 x198002_1,.int .i64 x198003_1,.int .i64 x198004_1,.int .i64 x198005_1,.int .i64 x198006_1,.slice none 0 0]) ?_ 7 _ rfl;refine bP ?_;refine blk_put (cs := #[.int .i64 x198000_1,.int .i64 x198001_1,.int .i64 x198002_1,.int .i64 x198003_1,.int .i64 x198004_1,.int .i64 x198005_1,.int .i64 x186006_1,.slice none 0 0]) ?_ 6 _ rfl;refine bP ?_;refine blk_put (cs := #[.int .i64 x198000_1,.int .i64 x198001_1,.int .i64 x198002_1,.int .i64 x198003_1,.int .i64 x198004_1,.int .i64 x186005_1,.int .i64 x186006_1,.slice none 0 0]) ?_ 5 _ rfl;refine bP ?_;refine blk_put (cs := #[.int .i64 x198000_1,.int .i64 x198001_1,.int .i64 x198002_1,.int .i64 x198003_1,.int .i64 x186004_1,.int .i64 x186005_1,.int .i64 x186006_1,.slice none 0 0]) ?_ 4 _ rfl;refine bP ?_;refine blk_put (cs := #[.int .i64 x198000_1,.int .i64 x198001_1,.int .i64 x198002_1,.int .i64 x186003_1,.int .i64 x186004_1,.int .i64 x186005_1,.int .i64 x186006_1,.slice none 0 0]) ?_ 3 _ rfl;refine bP ?_;refine blk_put (cs := #[.int .i64 x198000_1,.int .i64 x198001_1,.int .i64 x186002_1,.int .i64 x186003_1,.int .i64 x186004_1,.int .i64 x186005_1,.int .i64 x186006_1,.slice none 0 0]) ?_ 2 _ rfl;refine bP ?_;refine blk_put (cs := #[.int .i64 x198000_1,.int .i64 x186001_1,.int .i64 x186002_1,.int .i64 x186003_1,.int .i64 x186004_1,.int .i64 x186005_1,.int .i64 x186006_1,.slice none 0 0]) ?_ 1 _ rfl;refine bP ?_;refine blk_put (cs := #[.int .i64 x186000_1,.int .i64 x186001_1,.int .i64 x186002_1,.int .i64 x186003_1,.int .i64 x186004_1,.int .i64 x186005_1,.int .i64 x186006_1,.slice none 0 0]) ?_ 0 _ rfl;refine bP ?_;exact BK185.out) Tryd.underlying24 rfl Z133 rfl (by refine bP ?_;refine blk_put (cs := #[.int .i64 0,.int .i64 0,.int .i64 x187002_1]) ?_ 2 _ rfl;refine bP ?_;refine blk_put (cs := #[.int .i64 0,.int .i64 x187001_1,.int .i64 x187002_1]) ?_ 1 _ rfl;refine bP ?_;refine blk_put (cs := #[.int .i64 x187000_1,.int .i64 x187001_1,.int .i64 x187002_1]) ?_ 0 _ rfl;refine bP ?_;refine blk_far ?_ NB186_185.out _;refine bP ?_;refine blk_far ?_ NB186_185.out _;refine bP ?_;refine blk_far ?_ NB186_185.out _;refine bP ?_;refine blk_far ?_ NB186_185.out _;refine bP ?_;refine blk_far ?_ NB186_185.out _;refine bP ?_;refine blk_far ?_ NB186_185.out _;refine bP ?_;refine blk_far ?_ NB186_185.out _;refine bP ?_;refine blk_far ?_ NB186_185.out _;refine bP ?_;exact BK186.out) Tryd.underlying26 rfl Z133) rfl ?_
    exact ⟨_,Z107,by (with_reducible repeat (first | apply Kd.R_alloc | apply Kd.R_drewN | apply Kd.R_drew));exact Kd.R_mono (Kd.R_far (p := ⟨gb186,2,none⟩) (Kd.R_far (p := ⟨gb186,1,none⟩) (Kd.R_far (p := ⟨gb186,0,none⟩) (Kd.R_far (p := ⟨gb185,7,none⟩) (Kd.R_far (p := ⟨gb185,6,none⟩) (Kd.R_far (p := ⟨gb185,5,none⟩) (Kd.R_far (p := ⟨gb185,4,none⟩) (Kd.R_far (p := ⟨gb185,3,none⟩) (Kd.R_far (p := ⟨gb185,2,none⟩) (Kd.R_far (p := ⟨gb185,1,none⟩) (Kd.R_far (p := ⟨gb185,0,none⟩) (Kd.R_types (Kd.R_types HO_198007.out BK185.out Z180) BK186.out Z180) (fun _ hk => hk.1.2) (.int .i64 x198000_1)) (fun _ hk => hk.1.2) (.int .i64 x198001_1)) (fun _ hk => hk.1.2) (.int .i64 x198002_1)) (fun _ hk => hk.1.2) (.int .i64 x198003_1)) (fun _ hk => hk.1.2) (.int .i64 x198004_1)) (fun _ hk => hk.1.2) (.int .i64 x198005_1)) (fun _ hk => hk.1.2) (.int .i64 x198006_1)) (fun _ hk => hk.1.2) (.slice Ao125 x198007_1.length co125)) (fun _ hk => hk.2) (.int .i64 0)) (fun _ hk => hk.2) (.int .i64 0)) (fun _ hk => hk.2) (.int .i64 0)) (fun _ hk => trivial),Z138⟩
   rw [if_pos c22] at H
   have c22b0 : decide (x7_1 < (t201.length : Int)) = true := decide_eq_true c22
   clear c22
   obtain ⟨c23,H⟩ := ifp H
   have c23b0 : decide (0 ≤ x7_1) = true := decide_eq_true c23
   clear c23
   by_cases c24 : (rdOf ByteArray.empty t201 x7_1).toList = ([] : List UInt8)
   ·rw [if_pos c24] at H
    have c24b0 : ((rdOf ByteArray.empty t201 x7_1).toList == ([] : List UInt8)) = true := beq_iff_eq.mpr c24
    have c24b1 : ((rdOf ByteArray.empty t201 x7_1).toList != ([] : List UInt8)) = false := bne_eq_false_iff_eq.mpr c24
    clear c24
    have H' := Aside0.mk H
    clear H
    obtain ⟨Ao25,co25,eo25⟩ := Kd.R_slice HO_6.out
    subst eo25
    have p204 : 0 ≤ (x7_1 : Int) := of_decide_eq_true Z117
    have q204 : x7_1 < (t201.length : Int) := of_decide_eq_true Z117
    obtain ⟨ad204,e204,hx204_0⟩ := Kd.at_string (Kd.R_reads' HO_6.out).2.2 x7_1 p204 q204
    cases e204
    replace p204 := eq_true p204
    replace q204 := eq_true q204
    go_wp2
    go_roundg k1
    case measure => have := HK1.out;omega
    case rel => exact ⟨(x5_1),(wrap64 (x7_1 + 1)),(x186000_1),(x186001_1),(x186002_1),(x186003_1),(x186004_1),(x186005_1),(x186006_1),(x187000_1),(x187001_1),(x187002_1),(x198000_1),(x198001_1),(x198002_1),(x198003_1),(x198004_1),(x198005_1),(x198006_1),(x198007_1),(u198007),Z118,H',⟨Z129⟩,⟨Z166⟩,⟨Z167⟩,⟨Z160⟩,⟨Z188⟩,⟨Z169⟩,⟨Z170⟩,⟨Z138⟩⟩
   rw [if_neg c24] at H
   have c24b0 : ((rdOf ByteArray.empty t201 x7_1).toList == ([] : List UInt8)) = false := beq_eq_false_iff_ne.mpr c24
   have c24b1 : ((rdOf ByteArray.empty t201 x7_1).toList != ([] : List UInt8)) = true := bne_iff_ne.mpr c24
   have HC26 := Aside0.mk H
   clear H
   obtain ⟨Ao27,co27,eo27⟩ := Kd.R_slice HO_6.out
   subst eo27
   have p204 : 0 ≤ (x7_1 : Int) := of_decide_eq_true Z117
   have q204 : x7_1 < (t201.length : Int) := of_decide_eq_true Z117
   obtain ⟨ad204,e204,hx204_0⟩ := Kd.at_string (Kd.R_reads' HO_6.out).2.2 x7_1 p204 q204
   cases e204
   replace p204 := eq_true p204
   replace q204 := eq_true q204
   go_upto_block 2 with (fail)
   go_cut [8] (fun v8 wc => ∃ (kq : Nat) (x8_25 : Int),v8 = .int .i64 x8_25 ∧ Aside0 (spec_ReadConfig.j2 kq x5_1 t201 x7_1 x8_25 x198000_1 x198001_1 x198002_1 x198003_1 x198004_1 x198005_1 x198006_1 x198007_1 = some (r1,r2,r3,r4,r5,r6,r7,r8,r9,r10,r11)) ∧ Aside0 (kq ≤ k1) ∧ Aside0 (Kd.R Kd.bool 4 wc w.heap.size (fun _ => True) v199 x5_1) ∧ Aside0 (Kd.R Kd.string 9 wc w.heap.size (fun _ => True) (.slice (some ad204) t201.length co27) t201) ∧ Aside0 (Kd.R (Kd.int .i64) 3 wc w.heap.size (fun _ => True) u198007 x198007_1) ∧ Aside0 (wc.heap[gb185]? = some (.cells #[.int .i64 x186000_1,.int .i64 x186001_1,.int .i64 x186002_1,.int .i64 x186003_1,.int .i64 x186004_1,.int .i64 x186005_1,.int .i64 x186006_1,(.slice none 0 0)] 24 (0,0))) ∧ Aside0 (wc.heap[gb186]? = some (.cells #[.int .i64 x187000_1,.int .i64 x187001_1,.int .i64 x187002_1] 26 (0,0))) ∧ Aside0 (wc.heap[gb197]? = some (.cells #[.int .i64 x198000_1,.int .i64 x198001_1,.int .i64 x198002_1,.int .i64 x198003_1,.int .i64 x198004_1,.int .i64 x198005_1,.int .i64 x198006_1,u198007] 24 (0,0))) ∧ Aside0 (Below w.heap.size w wc))
   case first =>
    have H := HC26.out
    clear HC26
    have H' := Aside0.mk H
    clear H
    go_wp2
    go_loopg [8] k1 (fun kq v8 w' => ∃ (x8_2 : Int),v8 = .int .i64 x8_2 ∧ Aside0 (spec_ReadConfig.l1 kq x5_1 t201 x7_1 x8_2 x198000_1 x198001_1 x198002_1 x198003_1 x198004_1 x198005_1 x198006_1 x198007_1 = some (r1,r2,r3,r4,r5,r6,r7,r8,r9,r10,r11)) ∧ Aside0 (kq ≤ k1) ∧ Aside0 (Kd.R Kd.bool 4 w' w.heap.size (fun _ => True) v199 x5_1) ∧ Aside0 (Kd.R Kd.string 9 w' w.heap.size (fun _ => True) (.slice (some ad204) t201.length co27) t201) ∧ Aside0 (Kd.R (Kd.int .i64) 3 w' w.heap.size (fun _ => True) u198007 x198007_1) ∧ Aside0 (w'.heap[gb185]? = some (.cells #[.int .i64 x186000_1,.int .i64 x186001_1,.int .i64 x186002_1,.int .i64 x186003_1,.int .i64 x186004_1,.int .i64 x186005_1,.int .i64 x186006_1,(.slice none 0 0)] 24 (0,0))) ∧ Aside0 (w'.heap[gb186]? = some (.cells #[.int .i64 x187000_1,.int .i64 x187001_1,.int .i64 x187002_1] 26 (0,0))) ∧ Aside0 (w'.heap[gb197]? = some (.cells #[.int .i64 x198000_1,.int .i64 x198001_1,.int .i64 x198002_1,.int .i64 x198003_1,.int .i64 x198004_1,.int .i64 x198005_1,.int .i64 x198006_1,u198007] 24 (0,0))) ∧ Aside0 (Below w.heap.size w w'))
    case atStart => exact ⟨(0),Z118,H',⟨Nat.le_refl _⟩,⟨Z166⟩,⟨Z167⟩,⟨Z160⟩,⟨Z188⟩,⟨Z169⟩,⟨Z170⟩,⟨Z138⟩⟩
    case round =>
     clear H'
     try clear c1
     try clear c2
     try clear c2b0
     try clear c2b1
     try clear p2
     try clear q2
     try clear hx2
     try clear c4
     try clear c5
     try clear p6
     try clear c9
     try clear c9b0
     try clear c9b1
     try clear c10
     try clear c11
     try clear c15
     try clear c16
     try clear p20
     try clear q20
     try clear hx20
     try clear c22
     try clear c22b0
     try clear c23
     try clear c23b0
     try clear c24
     try clear c24b0
     try clear c24b1
     try clear hx204_0
     try clear p2
     try clear p204
     try clear q204
     obtain ⟨x8_2,rfl,HA,HK2,HO_5,HO_6,HO_198007,BK185,BK186,BK197,HB⟩ := hrel
     cases gk with
     | zero => exact absurd HA.out (by simp [spec_ReadConfig.l1])
     | succ k2 =>
      have H := HA.out
      clear HA
      simp only [spec_ReadConfig.l1] at H
      obtain ⟨c28,H⟩ := ifp H
      have c28b0 : decide (0 ≤ x7_1) = true := decide_eq_true c28
      clear c28
      (first | rw [c28b0] | (simp only [i64_w,i32_w];rw [c28b0]) | skip)
      obtain ⟨c29,H⟩ := ifp H
      have c29b0 : decide (x7_1 < (t201.length : Int)) = true := decide_eq_true c29
      clear c29
      by_cases c30 : x8_2 < ((rdOf ByteArray.empty t201 x7_1).size : Int)
      rotate_left
      ·rw [if_neg c30] at H
       have c30b0 : decide (x8_2 < ((rdOf ByteArray.empty t201 x7_1).size : Int)) = false := decide_eq_false c30
       clear c30
       have H' := Aside0.mk H
       clear H
       have p205 : 0 ≤ (x7_1 : Int) := of_decide_eq_true Z117
       have q205 : x7_1 < (t201.length : Int) := of_decide_eq_true Z117
       obtain ⟨ad205,e205,hx205_0⟩ := Kd.at_string (Kd.R_reads' HO_6.out).2.2 x7_1 p205 q205
       obtain rfl : ad204 = ad205 := (by injection e205)
       replace p205 := eq_true p205
       replace q205 := eq_true q205
       go_wp2
       go_meet
       case rel => exact ⟨_,(x8_2),Z118,H',⟨Z111⟩,⟨Z166⟩,⟨Z167⟩,⟨Z160⟩,⟨Z188⟩,⟨Z169⟩,⟨Z170⟩,⟨Z138⟩⟩
      rw [if_pos c30] at H
      have c30b0 : decide (x8_2 < ((rdOf ByteArray.empty t201 x7_1).size : Int)) = true := decide_eq_true c30
      clear c30
      obtain ⟨c31,H⟩ := ifp H
      have c31b0 : decide (0 ≤ x8_2) = true := decide_eq_true c31
      clear c31
      by_cases c33 : (bt (rdOf ByteArray.empty t201 x7_1) x8_2) = 61
      ·rw [if_pos c33] at H
       have c33b0 : ((bt (rdOf ByteArray.empty t201 x7_1) x8_2) == 61) = true := beq_iff_eq.mpr c33
       have c33b1 : ((bt (rdOf ByteArray.empty t201 x7_1) x8_2) != 61) = false := bne_eq_false_iff_eq.mpr c33
       clear c33
       have H' := Aside0.mk H
       clear H
       have p205 : 0 ≤ (x7_1 : Int) := of_decide_eq_true Z117
       have q205 : x7_1 < (t201.length : Int) := of_decide_eq_true Z117
       obtain ⟨ad205,e205,hx205_0⟩ := Kd.at_string (Kd.R_reads' HO_6.out).2.2 x7_1 p205 q205
       obtain rfl : ad204 = ad205 := (by injection e205)
       replace p205 := eq_true p205
       replace q205 := eq_true q205
       have p206 : 0 ≤ (x7_1 : Int) := of_decide_eq_true Z117
       have q206 : x7_1 < (t201.length : Int) := of_decide_eq_true Z117
       obtain ⟨ad206,e206,hx206_0⟩ := Kd.at_string (Kd.R_reads' HO_6.out).2.2 x7_1 p206 q206
       obtain rfl : ad204 = ad206 := (by injection e206)
       replace p206 := eq_true p206
       replace q206 := eq_true q206
       have p32 : 0 ≤ (x8_2 : Int) := of_decide_eq_true Z117
       have q32 : x8_2 < ((rdOf ByteArray.empty t201 x7_1).size : Int) := of_decide_eq_true Z117
       have hx32 := bt_at (rdOf ByteArray.empty t201 x7_1) x8_2
       replace p32 := eq_true p32
       replace q32 := eq_true q32
       go_wp2
       go_meet
       case rel => exact ⟨_,(x8_2),Z118,H',⟨Z111⟩,⟨Z166⟩,⟨Z167⟩,⟨Z160⟩,⟨Z188⟩,⟨Z169⟩,⟨Z170⟩,⟨Z138⟩⟩
      rw [if_neg c33] at H
      have c33b0 : ((bt (rdOf ByteArray.empty t201 x7_1) x8_2) == 61) = false := beq_eq_false_iff_ne.mpr c33
      have c33b1 : ((bt (rdOf ByteArray.empty t201 x7_1) x8_2) != 61) = true := bne_iff_ne.mpr c33
      have H' := Aside0.mk H
      clear H
      have p205 : 0 ≤ (x7_1 : Int) := of_decide_eq_true Z117
      have q205 : x7_1 < (t201.length : Int) := of_decide_eq_true Z117
      obtain ⟨ad205,e205,hx205_0⟩ := Kd.at_string (Kd.R_reads' HO_6.out).2.2 x7_1 p205 q205
      obtain rfl : ad204 = ad205 := (by injection e205)
      replace p205 := eq_true p205
      replace q205 := eq_true q205
      have p206 : 0 ≤ (x7_1 : Int) := of_decide_eq_true Z117
      have q206 : x7_1 < (t201.length : Int) := of_decide_eq_true Z117
      obtain ⟨ad206,e206,hx206_0⟩ := Kd.at_string (Kd.R_reads' HO_6.out).2.2 x7_1 p206 q206
      obtain rfl : ad204 = ad206 := (by injection e206)
      replace p206 := eq_true p206
      replace q206 := eq_true q206
      have p32 : 0 ≤ (x8_2 : Int) := of_decide_eq_true Z117
      have q32 : x8_2 < ((rdOf ByteArray.empty t201 x7_1).size : Int) := of_decide_eq_true Z117
      have hx32 := bt_at (rdOf ByteArray.empty t201 x7_1) x8_2
      replace p32 := eq_true p32
      replace q32 := eq_true q32
      go_wp2
      go_roundg k2
      case measure => have := HK1.out;have := HK2.out;omega
      case rel => exact ⟨(wrap64 (x8_2 + 1)),Z118,H',⟨by have := HK1.out;have := HK2.out;omega⟩,⟨Z166⟩,⟨Z167⟩,⟨Z160⟩,⟨Z188⟩,⟨Z169⟩,⟨Z170⟩,⟨Z138⟩⟩
   case rest =>
    clear HC26
    try clear c1
    try clear c2
    try clear c2b0
    try clear c2b1
    try clear p2
    try clear q2
    try clear hx2
    try clear c3
    try clear p3
    try clear q3
    try clear hx3
    try clear c4
    try clear c5
    try clear p6
    try clear c9
    try clear c9b0
    try clear c9b1
    try clear c10
    try clear c11
    try clear c15
    try clear c16
    try clear p20
    try clear q20
    try clear hx20
    try clear c22
    try clear c22b0
    try clear c23
    try clear c23b0
    try clear c24
    try clear c24b0
    try clear c24b1
    try clear c28
    try clear c28b0
    try clear c29
    try clear c29b0
    try clear c30
    try clear c30b0
    try clear c31
    try clear c31b0
    try clear p32
    try clear q32
    try clear hx32
    try clear c33
    try clear c33b0
    try clear c33b1
    try clear hx204_0
    try clear hx205_0
    try clear hx206_0
    try clear p2
    try clear p20
    try clear p204
    try clear p205
    try clear p206
    try clear p32
    try clear p6
    try clear q2
    try clear q20
    try clear q204
    try clear q205
    try clear q206
    try clear q32
    obtain ⟨kq,x8_25,rfl,HA,HJ25,HO_5,HO_6,HO_198007,BK185,BK186,BK197,HB⟩ := hcut
    cases kq with
    | zero => exact absurd HA.out (by simp [spec_ReadConfig.j2])
    | succ kj25 =>
     have H := HA.out
     clear HA
     simp only [spec_ReadConfig.j2] at H
     obtain ⟨c34,H⟩ := ifp H
     have c34b0 : decide (0 ≤ x7_1) = true := decide_eq_true c34
     clear c34
     obtain ⟨c35,H⟩ := ifp H
     have c35b0 : decide (x7_1 < (t201.length : Int)) = true := decide_eq_true c35
     clear c35
     by_cases c36 : x8_25 = ((rdOf ByteArray.empty t201 x7_1).size : Int)
     ·rw [if_pos c36] at H
      have c36b0 : (x8_25 == ((rdOf ByteArray.empty t201 x7_1).size : Int)) = true := beq_iff_eq.mpr c36
      have c36b1 : (x8_25 != ((rdOf ByteArray.empty t201 x7_1).size : Int)) = false := bne_eq_false_iff_eq.mpr c36
      clear c36
      simp only [Option.some.injEq,Prod.mk.injEq] at H
      obtain ⟨rfl,rfl,rfl,rfl,rfl,rfl,rfl,rfl,rfl,rfl,rfl⟩ := H
      have p207 : 0 ≤ (x7_1 : Int) := of_decide_eq_true Z117
      have q207 : x7_1 < (t201.length : Int) := of_decide_eq_true Z117
      obtain ⟨ad207,e207,hx207_0⟩ := Kd.at_string (Kd.R_reads' HO_6.out).2.2 x7_1 p207 q207
      obtain rfl : ad204 = ad207 := Z131
      replace p207 := eq_true p207
      replace q207 := eq_true q207
      have hnb37 := NB185_186.out
      have hnc37 := NB186_185.out
      have hnb38 := NB185_197.out
      have hnc38 := NB197_185.out
      obtain ⟨hcz39_0,hcz39_1,hcz39_2,hcz39_3,hcz39_4,hcz39_5,hcz39_6,hcz39_7,hfz39_0,hfz39_1,hfz39_2,hfz39_3,hfz39_4,hfz39_5,hfz39_6,hfz39_7⟩ := cells8 BK185.out
      have hnb40 := NB186_197.out
      have hnc40 := NB197_186.out
      obtain ⟨hcz41_0,hcz41_1,hcz41_2,hfz41_0,hfz41_1,hfz41_2⟩ := cells3 BK186.out
      go_wp2
      refine bodyPost_ret (results_cc rfl _ _ gb185 gb186 24 26 #[.int .i64 0,.int .i64 0,.int .i64 0,.int .i64 0,.int .i64 0,.int .i64 0,.int .i64 0,.slice none 0 0] #[.int .i64 10,.int .i64 x7_1,.int .i64 0] (0,0) (0,0) _ _ rfl Z3 Tryd.underlying24 rfl Z133 rfl (by refine bP ?_;refine blk_put (cs := #[.int .i64 10,.int .i64 x7_1,.int .i64 x187002_1]) ?_ 2 _ rfl;refine bP ?_;refine blk_put (cs := #[.int .i64 10,.int .i64 x187001_1,.int .i64 x187002_1]) ?_ 1 _ rfl;refine bP ?_;refine blk_put (cs := #[.int .i64 x187000_1,.int .i64 x187001_1,.int .i64 x187002_1]) ?_ 0 _ rfl;refine bP ?_;refine blk_far ?_ NB186_185.out _;refine bP ?_;refine blk_far ?_ NB186_185.out _;refine bP ?_;refine blk_far ?_ NB186_185.out _;refine bP ?_;refine blk_far ?_ NB186_185.out _;refine bP ?_;refine blk_far ?_ NB186_185.out _;refine bP ?_;refine blk_far ?_ NB186_185.out _;refine bP ?_;refine blk_far ?_ NB186_185.out _;refine bP ?_;refine blk_far ?_ NB186_185.out _;refine bP ?_;exact BK186.out) Tryd.underlying26 rfl Z133) rfl ?_
      exact ⟨_,Z107,Z86,Z138⟩
     rw [if_neg c36] at H
     have c36b0 : (x8_25 == ((rdOf ByteArray.empty t201 x7_1).size : Int)) = false := beq_eq_false_iff_ne.mpr c36
     have c36b1 : (x8_25 != ((rdOf ByteArray.empty t201 x7_1).size : Int)) = true := bne_iff_ne.mpr c36
     obtain ⟨c42,H⟩ := ifp H
     have c42b0 := eq_true c42
     have c42b1 : decide (0 ≤ x8_25) = true := decide_eq_true c42
     clear c42
     obtain ⟨c43,H⟩ := ifp H
     have c43b0 := eq_true c43
     have c43b1 : decide (x8_25 ≤ ((rdOf ByteArray.empty t201 x7_1).size : Int)) = true := decide_eq_true c43
     clear c43
     obtain ⟨t209,A440,H⟩ := Option.bind_eq_some_iff.mp H
     have A44 := Aside0.mk A440
     clear A440
     by_cases c45 : t209 < 0
     ·rw [if_pos c45] at H
      have c45b0 : decide (t209 < 0) = true := decide_eq_true c45
      clear c45
      simp only [Option.some.injEq,Prod.mk.injEq] at H
      obtain ⟨rfl,rfl,rfl,rfl,rfl,rfl,rfl,rfl,rfl,rfl,rfl⟩ := H
      have p207 : 0 ≤ (x7_1 : Int) := of_decide_eq_true Z117
      have q207 : x7_1 < (t201.length : Int) := of_decide_eq_true Z117
      obtain ⟨ad207,e207,hx207_0⟩ := Kd.at_string (Kd.R_reads' HO_6.out).2.2 x7_1 p207 q207
      obtain rfl : ad204 = ad207 := Z131
      replace p207 := eq_true p207
      replace q207 := eq_true q207
      have p208 : 0 ≤ (x7_1 : Int) := of_decide_eq_true Z117
      have q208 : x7_1 < (t201.length : Int) := of_decide_eq_true Z117
      obtain ⟨ad208,e208,hx208_0⟩ := Kd.at_string (Kd.R_reads' HO_6.out).2.2 x7_1 p208 q208
      obtain rfl : ad204 = ad208 := Z132
      replace p208 := eq_true p208
      replace q208 := eq_true q208
      go_wp2_with (first | ((with_reducible refine gate_callee (f := 12) rfl ?_);refine goesL_ (some 66) rfl rfl Tryd.func12 Z133 rfl #[.string ((rdOf ByteArray.empty t201 x7_1).extract 0 (x8_25 : Int).toNat)] rfl Z87 ?_;(with_reducible refine (spec_l8Word.calls kj25 ((rdOf ByteArray.empty t201 x7_1).extract 0 (x8_25 : Int).toNat) t209 _ A44.out).mono ?_);rintro e wq1 ⟨rfl,hb⟩;refine ⟨_,rfl,?_⟩;have n_ := Z10;clear HO_5 HO_6 HO_198007 BK185 BK186 BK197 HB;obtain ⟨HO_5,HO_6,HO_198007,BK185,BK186,BK197,HB⟩ := n_;(try clear hb);(try clear hb2);(try clear hk);(try clear hi);have hnbq2 := NB185_186.out;have hncq2 := NB186_185.out;have hnbq3 := NB185_197.out;have hncq3 := NB197_185.out;obtain ⟨hczq4_0,hczq4_1,hczq4_2,hczq4_3,hczq4_4,hczq4_5,hczq4_6,hczq4_7,hfzq4_0,hfzq4_1,hfzq4_2,hfzq4_3,hfzq4_4,hfzq4_5,hfzq4_6,hfzq4_7⟩ := cells8 BK185.out;have hnbq5 := NB186_197.out;have hncq5 := NB197_186.out;obtain ⟨hczq6_0,hczq6_1,hczq6_2,hfzq6_0,hfzq6_1,hfzq6_2⟩ := cells3 BK186.out))
      refine bodyPost_ret (results_cc rfl _ _ gb185 gb186 24 26 #[.int .i64 0,.int .i64 0,.int .i64 0,.int .i64 0,.int .i64 0,.int .i64 0,.int .i64 0,.slice none 0 0] #[.int .i64 11,.int .i64 x7_1,.int .i64 0] (0,0) (0,0) _ _ rfl Z3 Tryd.underlying24 rfl Z133 rfl (by refine bP ?_;refine blk_put (cs := #[.int .i64 11,.int .i64 x7_1,.int .i64 x187002_1]) ?_ 2 _ rfl;refine bP ?_;refine blk_put (cs := #[.int .i64 11,.int .i64 x187001_1,.int .i64 x187002_1]) ?_ 1 _ rfl;refine bP ?_;refine blk_put (cs := #[.int .i64 x187000_1,.int .i64 x187001_1,.int .i64 x187002_1]) ?_ 0 _ rfl;refine bP ?_;refine blk_far ?_ NB186_185.out _;refine bP ?_;refine blk_far ?_ NB186_185.out _;refine bP ?_;refine blk_far ?_ NB186_185.out _;refine bP ?_;refine blk_far ?_ NB186_185.out _;refine bP ?_;refine blk_far ?_ NB186_185.out _;refine bP ?_;refine blk_far ?_ NB186_185.out _;refine bP ?_;refine blk_far ?_ NB186_185.out _;refine bP ?_;refine blk_far ?_ NB186_185.out _;refine bP ?_;exact BK186.out) Tryd.underlying26 rfl Z133) rfl ?_
      exact ⟨_,Z107,Z86,Z138⟩
     rw [if_neg c45] at H
     have c45b0 : decide (t209 < 0) = false := decide_eq_false c45
     clear c45
     obtain ⟨c52,H⟩ := ifp H
     have c52b0 : decide (0 ≤ t209) = true := decide_eq_true c52
     clear c52
     obtain ⟨c53,H⟩ := ifp H
     have c53b0 : decide (t209 < (x5_1.length : Int)) = true := decide_eq_true c53
     clear c53
     obtain ⟨bq54,hbq54⟩ : ∃ b_ : Bool,b_ = (rdOf false x5_1 t209) := ⟨_,rfl⟩
     replace H : (if bq54 = true then (some (0,0,0,0,0,0,0,([] : List Int),6,x7_1,0)) else (if 0 ≤ (wrap64 (x8_25 + 1)) then (if (wrap64 (x8_25 + 1)) ≤ ((rdOf ByteArray.empty t201 x7_1).size : Int) then ((spec_l8Lay.f kj25 x198000_1 x198001_1 x198002_1 x198003_1 x198004_1 x198005_1 x198006_1 x198007_1 t209 ((rdOf ByteArray.empty t201 x7_1).extract ((wrap64 (x8_25 + 1)) : Int).toNat (rdOf ByteArray.empty t201 x7_1).size)).bind fun bt213 => (if bt213.2.2.2.2.2.2.2.2 = 0 then (spec_ReadConfig.l0 kj25 (x5_1.set (t209 : Int).toNat true) t201 (wrap64 (x7_1 + 1)) bt213.1 bt213.2.1 bt213.2.2.1 bt213.2.2.2.1 bt213.2.2.2.2.1 bt213.2.2.2.2.2.1 bt213.2.2.2.2.2.2.1 bt213.2.2.2.2.2.2.2.1) else (some (0,0,0,0,0,0,0,([] : List Int),bt213.2.2.2.2.2.2.2.2,x7_1,0)))) else (none)) else (none))) = some (r1,r2,r3,r4,r5,r6,r7,r8,r9,r10,r11) := by rw [← hbq54] at H;exact H
     have Nbq54 := Aside0.mk hbq54
     clear hbq54
     by_cases c55 : bq54 = true
     ·subst c55
      rw [if_pos rfl] at H
      simp only [Option.some.injEq,Prod.mk.injEq] at H
      obtain ⟨rfl,rfl,rfl,rfl,rfl,rfl,rfl,rfl,rfl,rfl,rfl⟩ := H
      have p207 : 0 ≤ (x7_1 : Int) := of_decide_eq_true Z117
      have q207 : x7_1 < (t201.length : Int) := of_decide_eq_true Z117
      obtain ⟨ad207,e207,hx207_0⟩ := Kd.at_string (Kd.R_reads' HO_6.out).2.2 x7_1 p207 q207
      obtain rfl : ad204 = ad207 := Z131
      replace p207 := eq_true p207
      replace q207 := eq_true q207
      have p208 : 0 ≤ (x7_1 : Int) := of_decide_eq_true Z117
      have q208 : x7_1 < (t201.length : Int) := of_decide_eq_true Z117
      obtain ⟨ad208,e208,hx208_0⟩ := Kd.at_string (Kd.R_reads' HO_6.out).2.2 x7_1 p208 q208
      obtain rfl : ad204 = ad208 := Z132
      replace p208 := eq_true p208
      replace q208 := eq_true q208
      go_wp2_with (first | ((with_reducible refine gate_callee (f := 12) rfl ?_);refine goesL_ (some 66) rfl rfl Tryd.func12 Z133 rfl #[.string ((rdOf ByteArray.empty t201 x7_1).extract 0 (x8_25 : Int).toNat)] rfl Z87 ?_;(with_reducible refine (spec_l8Word.calls kj25 ((rdOf ByteArray.empty t201 x7_1).extract 0 (x8_25 : Int).toNat) t209 _ A44.out).mono ?_);rintro e wq1 ⟨rfl,hb⟩;refine ⟨_,rfl,?_⟩;have n_ := Z10;clear HO_5 HO_6 HO_198007 BK185 BK186 BK197 HB;obtain ⟨HO_5,HO_6,HO_198007,BK185,BK186,BK197,HB⟩ := n_;(try clear hb);(try clear hb2);(try clear hk);(try clear hi);obtain ⟨Aoq2,coq2,eoq2⟩ := Kd.R_slice HO_5.out;subst eoq2;have pq3 : 0 ≤ (t209 : Int) := of_decide_eq_true Z117;have qq3 : t209 < (x5_1.length : Int) := of_decide_eq_true Z117;obtain ⟨adq3,eq3,hxq3_0⟩ := Kd.at_bool (Kd.R_reads' HO_5.out).2.2 t209 pq3 qq3;(try rw [← Nbq54.out] at hxq3_0);cases eq3;replace pq3 := eq_true pq3;replace qq3 := eq_true qq3;have hnbq4 := NB185_186.out;have hncq4 := NB186_185.out;have hnbq5 := NB185_197.out;have hncq5 := NB197_185.out;obtain ⟨hczq6_0,hczq6_1,hczq6_2,hczq6_3,hczq6_4,hczq6_5,hczq6_6,hczq6_7,hfzq6_0,hfzq6_1,hfzq6_2,hfzq6_3,hfzq6_4,hfzq6_5,hfzq6_6,hfzq6_7⟩ := cells8 BK185.out;have hnbq7 := NB186_197.out;have hncq7 := NB197_186.out;obtain ⟨hczq8_0,hczq8_1,hczq8_2,hfzq8_0,hfzq8_1,hfzq8_2⟩ := cells3 BK186.out))
      refine bodyPost_ret (results_cc rfl _ _ gb185 gb186 24 26 #[.int .i64 0,.int .i64 0,.int .i64 0,.int .i64 0,.int .i64 0,.int .i64 0,.int .i64 0,.slice none 0 0] #[.int .i64 6,.int .i64 x7_1,.int .i64 0] (0,0) (0,0) _ _ rfl Z3 Tryd.underlying24 rfl Z133 rfl (by refine bP ?_;refine blk_put (cs := #[.int .i64 6,.int .i64 x7_1,.int .i64 x187002_1]) ?_ 2 _ rfl;refine bP ?_;refine blk_put (cs := #[.int .i64 6,.int .i64 x187001_1,.int .i64 x187002_1]) ?_ 1 _ rfl;refine bP ?_;refine blk_put (cs := #[.int .i64 x187000_1,.int .i64 x187001_1,.int .i64 x187002_1]) ?_ 0 _ rfl;refine bP ?_;refine blk_far ?_ NB186_185.out _;refine bP ?_;refine blk_far ?_ NB186_185.out _;refine bP ?_;refine blk_far ?_ NB186_185.out _;refine bP ?_;refine blk_far ?_ NB186_185.out _;refine bP ?_;refine blk_far ?_ NB186_185.out _;refine bP ?_;refine blk_far ?_ NB186_185.out _;refine bP ?_;refine blk_far ?_ NB186_185.out _;refine bP ?_;refine blk_far ?_ NB186_185.out _;refine bP ?_;exact BK186.out) Tryd.underlying26 rfl Z133) rfl ?_
      exact ⟨_,Z107,Z86,Z138⟩
     replace c55 := Bool.eq_false_iff.mpr c55
     subst c55
     rw [if_neg Bool.false_ne_true] at H
     obtain ⟨y211,hyy⟩ : ∃ y_ : List Bool,y_ = (x5_1.set (t209 : Int).toNat true) := ⟨_,rfl⟩
     replace H : (if 0 ≤ (wrap64 (x8_25 + 1)) then (if (wrap64 (x8_25 + 1)) ≤ ((rdOf ByteArray.empty t201 x7_1).size : Int) then ((spec_l8Lay.f kj25 x198000_1 x198001_1 x198002_1 x198003_1 x198004_1 x198005_1 x198006_1 x198007_1 t209 ((rdOf ByteArray.empty t201 x7_1).extract ((wrap64 (x8_25 + 1)) : Int).toNat (rdOf ByteArray.empty t201 x7_1).size)).bind fun bt213 => (if bt213.2.2.2.2.2.2.2.2 = 0 then (spec_ReadConfig.l0 kj25 y211 t201 (wrap64 (x7_1 + 1)) bt213.1 bt213.2.1 bt213.2.2.1 bt213.2.2.2.1 bt213.2.2.2.2.1 bt213.2.2.2.2.2.1 bt213.2.2.2.2.2.2.1 bt213.2.2.2.2.2.2.2.1) else (some (0,0,0,0,0,0,0,([] : List Int),bt213.2.2.2.2.2.2.2.2,x7_1,0)))) else (none)) else (none)) = some (r1,r2,r3,r4,r5,r6,r7,r8,r9,r10,r11) := zR
     have Ny211 := Aside0.mk hyy
     clear hyy
     obtain ⟨ji64,hji64⟩ : ∃ j_ : Int,(wrap64 (x8_25 + 1)) = j_ := ⟨_,rfl⟩
     replace H : (if 0 ≤ (ji64) then (if (ji64) ≤ ((rdOf ByteArray.empty t201 x7_1).size : Int) then ((spec_l8Lay.f kj25 x198000_1 x198001_1 x198002_1 x198003_1 x198004_1 x198005_1 x198006_1 x198007_1 t209 ((rdOf ByteArray.empty t201 x7_1).extract ((ji64) : Int).toNat (rdOf ByteArray.empty t201 x7_1).size)).bind fun bt213 => (if bt213.2.2.2.2.2.2.2.2 = 0 then (spec_ReadConfig.l0 kj25 y211 t201 (wrap64 (x7_1 + 1)) bt213.1 bt213.2.1 bt213.2.2.1 bt213.2.2.2.1 bt213.2.2.2.2.1 bt213.2.2.2.2.2.1 bt213.2.2.2.2.2.2.1 bt213.2.2.2.2.2.2.2.1) else (some (0,0,0,0,0,0,0,([] : List Int),bt213.2.2.2.2.2.2.2.2,x7_1,0)))) else (none)) else (none)) = some (r1,r2,r3,r4,r5,r6,r7,r8,r9,r10,r11) := by first | (rw [hji64] at H;exact H) | (simp only [hji64] at H ⊢;exact H)
     (try rw [hji64] at A44)
     have hji64w : (IntKind.i64.wrap (x8_25 + 1)) = ji64 := (i64_w _).trans hji64
     obtain ⟨c65,H⟩ := ifp H
     have c65b0 := eq_true c65
     have c65b1 : decide (0 ≤ (ji64)) = true := decide_eq_true c65
     clear c65
     obtain ⟨c66,H⟩ := ifp H
     have c66b0 := eq_true c66
     have c66b1 : decide ((ji64) ≤ ((rdOf ByteArray.empty t201 x7_1).size : Int)) = true := decide_eq_true c66
     clear c66
     obtain ⟨⟨t213,t214,t215,t216,t217,t218,t219,t220,t223⟩,A670,H⟩ := Option.bind_eq_some_iff.mp H
     try dsimp only at H
     have A67 := Aside0.mk A670
     clear A670
     by_cases c68 : t223 = 0
     rotate_left
     ·rw [if_neg c68] at H
      have c68b0 : (t223 == 0) = false := beq_eq_false_iff_ne.mpr c68
      have c68b1 : (t223 != 0) = true := bne_iff_ne.mpr c68
      simp only [Option.some.injEq,Prod.mk.injEq] at H
      obtain ⟨rfl,rfl,rfl,rfl,rfl,rfl,rfl,rfl,rfl,rfl,rfl⟩ := H
      have p207 : 0 ≤ (x7_1 : Int) := of_decide_eq_true Z117
      have q207 : x7_1 < (t201.length : Int) := of_decide_eq_true Z117
      obtain ⟨ad207,e207,hx207_0⟩ := Kd.at_string (Kd.R_reads' HO_6.out).2.2 x7_1 p207 q207
      obtain rfl : ad204 = ad207 := Z131
      replace p207 := eq_true p207
      replace q207 := eq_true q207
      have p208 : 0 ≤ (x7_1 : Int) := of_decide_eq_true Z117
      have q208 : x7_1 < (t201.length : Int) := of_decide_eq_true Z117
      obtain ⟨ad208,e208,hx208_0⟩ := Kd.at_string (Kd.R_reads' HO_6.out).2.2 x7_1 p208 q208
      obtain rfl : ad204 = ad208 := Z132
      replace p208 := eq_true p208
      replace q208 := eq_true q208
      try go_wp2_with (first | ((with_reducible refine gate_callee (f := 12) rfl ?_);refine goesL_ (some 66) rfl rfl Tryd.func12 Z133 rfl #[.string ((rdOf ByteArray.empty t201 x7_1).extract 0 (x8_25 : Int).toNat)] rfl Z87 ?_;(with_reducible refine (spec_l8Word.calls kj25 ((rdOf ByteArray.empty t201 x7_1).extract 0 (x8_25 : Int).toNat) t209 _ A44.out).mono ?_);rintro e w94 ⟨rfl,hb⟩;refine ⟨_,rfl,?_⟩;have n_ := Z10;clear HO_5 HO_6 HO_198007 BK185 BK186 BK197 HB;obtain ⟨HO_5,HO_6,HO_198007,BK185,BK186,BK197,HB⟩ := n_;(try clear hb);(try clear hb2);(try clear hk);(try clear hi);obtain ⟨Ao95,co95,eo95⟩ := Kd.R_slice HO_5.out;subst eo95;have p210 : 0 ≤ (t209 : Int) := of_decide_eq_true Z117;have q210 : t209 < (x5_1.length : Int) := of_decide_eq_true Z117;obtain ⟨ad210,e210,hx210_0⟩ := Kd.at_bool (Kd.R_reads' HO_5.out).2.2 t209 p210 q210;(try rw [← Nbq54.out] at hx210_0);cases e210;replace p210 := eq_true p210;replace q210 := eq_true q210;have p63 : 0 ≤ (t209 : Int) := of_decide_eq_true Z117;have q63 : (t209 : Int) < ((x5_1.length : Int) : Int) := of_decide_eq_true Z117;obtain ⟨go63,co63,eo63,gb63,gl63,cl63,HG63⟩ := Kd.R_form HO_5.out Z134;(first | cases eo63 | (injection eo63 with ea_ en_ ec_;(first | subst ea_ | (injection ea_ with ea_;subst ea_));subst ec_;clear en_));have GB63 := Aside0.mk gb63;have GG63 := Aside0.mk HG63;clear gb63 gl63 HG63;(first | simp only [add_plain] at hx210_0 | skip);obtain ⟨hx63_0,hf63_0⟩ := Kd.R_celln false HO_5.out (t209 : Int) p63 q63;replace p63 := eq_true p63;replace q63 := eq_true q63;obtain ⟨hy96_,hz96_⟩ := Kd.R_celln false HO_5.out (t209 : Int) (of_decide_eq_true Z117) (of_decide_eq_true Z117);have HP96 := Kd.R_putg HO_5.out (t209 : Int) true) | ((with_reducible refine gate_store (t := 4) (p := 81) rfl ?_);refine store_event (t := 4) (p := 81) (v := ?vo_w97) (w1 := (w94.setCell ⟨go63,(t209 : Int).toNat,none⟩ (.bool true))) ?hg ?ho ?hn ?hr ?_;(case ho => rfl);(case hg => rfl);(case hn => rfl);(case hr => exact Z119);intro w97 hw;have hg : w94.grownBy w97 (some go63) := (by rw [hw];exact HP96.2);have hp_ : Kd.R Kd.bool 4 w97 w.heap.size (fun _ => True) (.slice (some ⟨go63,0,none⟩) x5_1.length co95) y211 := (by rw [hw,Ny211.out];exact HP96.1);clear HP96;have n_ := jA (hp_) (jA (Kd.R_over' (v := (.slice (some ⟨go63,0,none⟩) x5_1.length co95)) Z167 (Kd.R_typed HO_5.out) Z180 hg) (jA (Kd.R_over' (v := (.slice (some ⟨go63,0,none⟩) x5_1.length co95)) Z160 (Kd.R_typed HO_5.out) Z180 hg) (jA (blk_grown (g := gb185) (o := .cells #[.int .i64 x186000_1,.int .i64 x186001_1,.int .i64 x186002_1,.int .i64 x186003_1,.int .i64 x186004_1,.int .i64 x186005_1,.int .i64 x186006_1,.slice none 0 0] 24 (0,0)) Z188 hg (Kd.R_ne HO_5.out BK185.out Z180)) (jA (blk_grown (g := gb186) (o := .cells #[.int .i64 x187000_1,.int .i64 x187001_1,.int .i64 x187002_1] 26 (0,0)) Z169 hg (Kd.R_ne HO_5.out BK186.out Z180)) (jA (blk_grown (g := gb197) (o := .cells #[.int .i64 x198000_1,.int .i64 x198001_1,.int .i64 x198002_1,.int .i64 x198003_1,.int .i64 x198004_1,.int .i64 x198005_1,.int .i64 x198006_1,u198007] 24 (0,0)) Z170 hg (Kd.R_ne HO_5.out BK197.out Z180)) (Aside0.mk ((by rw [hw];exact below_set (HB.out) GB63.out : Below w.heap.size w w97))))))));clear HO_5 HO_6 HO_198007 BK185 BK186 BK197 HB;obtain ⟨HO_5,HO_6,HO_198007,BK185,BK186,BK197,HB⟩ := n_;clear hg hw hp_;obtain ⟨Ao98,co98,eo98⟩ := Kd.R_slice HO_198007.out;subst eo98))
      have n_ := jA (Kd.R_drew HO_5.out) (jA (Kd.R_drew HO_6.out) (jA (Kd.R_drew HO_198007.out) (jA (blk_drew BK185.out) (jA (blk_drew BK186.out) (jA (blk_drew BK197.out) (Aside0.mk (below_drew1 HB.out)))))))
      clear HO_5 HO_6 HO_198007 BK185 BK186 BK197 HB
      obtain ⟨HO_5,HO_6,HO_198007,BK185,BK186,BK197,HB⟩ := n_
      have p212 : 0 ≤ (x7_1 : Int) := of_decide_eq_true Z117
      have q212 : x7_1 < (t201.length : Int) := of_decide_eq_true Z117
      obtain ⟨ad212,e212,hx212_0⟩ := Kd.at_string (Kd.R_reads' HO_6.out).2.2 x7_1 p212 q212
      obtain rfl : ad204 = ad212 := (by injection e212)
      replace p212 := eq_true p212
      replace q212 := eq_true q212
      refine start_ (n := 16) (S := fun w' => w'.cell? ⟨gb197,0,none⟩ = some (.int .i64 x198000_1) ∧ w'.cell? ⟨gb197,1,none⟩ = some (.int .i64 x198001_1) ∧ w'.cell? ⟨gb197,2,none⟩ = some (.int .i64 x198002_1) ∧ w'.cell? ⟨gb197,3,none⟩ = some (.int .i64 x198003_1) ∧ w'.cell? ⟨gb197,4,none⟩ = some (.int .i64 x198004_1) ∧ w'.cell? ⟨gb197,5,none⟩ = some (.int .i64 x198005_1) ∧ w'.cell? ⟨gb197,6,none⟩ = some (.int .i64 x198006_1) ∧ w'.cell? ⟨gb197,7,none⟩ = some (.slice Ao98 x198007_1.length co98) ∧ w'.cell? (ad204.add (x7_1).toNat) = some (.string (rdOf ByteArray.empty t201 x7_1))) (ds := []) (qM 16 0) Z133 rfl (by kernel_rfl) ⟨bc BK197 0,bc BK197 1,bc BK197 2,bc BK197 3,bc BK197 4,bc BK197 5,bc BK197 6,bc BK197 7,hx212_0⟩ (fun hHeld => ?_);refine with_tabW spec_ReadConfig.tab21 spec_ReadConfig.bits21 (fun HT_ HW_ => ?_)
      generalize w97.drew = w99 at HO_5 HO_6 HO_198007 BK185 BK186 BK197 HB hx212_0 hHeld ⊢
      refine rP 1 84 16 2 HT_ (h := ?_)
      refine rP 2 85 16 6 HT_ (h := ?_)
      refine rP 3 86 16 14 HT_ (h := ?_)
      refine rP 4 87 16 30 HT_ (h := ?_)
      refine rP 6 89 16 94 HT_ (h := ?_)
      refine rP 7 90 16 222 HT_ (h := ?_)
      refine rT9 0 83 16 223 HT_ HW_ hHeld (h := ?_)
      refine rT9 5 88 16 255 HT_ HW_ hHeld (h := ?_)
      refine rP 8 91 16 511 HT_ (h := ?_)
      refine join_ (σ := Value × Nat) 2 (qM 16 16383) (fun s_ => [(92,.tuple #[.agg #[.int .i64 t213,.int .i64 t214,.int .i64 t215,.int .i64 t216,.int .i64 t217,.int .i64 t218,.int .i64 t219,s_.1],.int .i64 t223]),(10,.pointer (some ⟨s_.2,0,none⟩)),(82,.tuple #[.agg #[.int .i64 t213,.int .i64 t214,.int .i64 t215,.int .i64 t216,.int .i64 t217,.int .i64 t218,.int .i64 t219,s_.1],.int .i64 t223]),(93,.agg #[.int .i64 t213,.int .i64 t214,.int .i64 t215,.int .i64 t216,.int .i64 t217,.int .i64 t218,.int .i64 t219,s_.1]),(94,.int .i64 t223)]) (fun s_ w' => (w'.cell? ⟨gb197,0,none⟩ = some (.int .i64 x198000_1) ∧ w'.cell? ⟨gb197,1,none⟩ = some (.int .i64 x198001_1) ∧ w'.cell? ⟨gb197,2,none⟩ = some (.int .i64 x198002_1) ∧ w'.cell? ⟨gb197,3,none⟩ = some (.int .i64 x198003_1) ∧ w'.cell? ⟨gb197,4,none⟩ = some (.int .i64 x198004_1) ∧ w'.cell? ⟨gb197,5,none⟩ = some (.int .i64 x198005_1) ∧ w'.cell? ⟨gb197,6,none⟩ = some (.int .i64 x198006_1) ∧ w'.cell? ⟨gb197,7,none⟩ = some (.slice Ao98 x198007_1.length co98) ∧ w'.cell? (ad204.add (x7_1).toNat) = some (.string (rdOf ByteArray.empty t201 x7_1))) ∧ (Kd.R (Kd.int .i64) 3 w' w.heap.size (fun _ => True) s_.1 t220) ∧ (Kd.R Kd.bool 4 w' w.heap.size (fun _ => True) (.slice (some ⟨go63,0,none⟩) x5_1.length co95) y211) ∧ (Kd.R Kd.string 9 w' w.heap.size (fun _ => True) (.slice (some ad204) t201.length co27) t201) ∧ (w'.heap[gb185]? = some (.cells #[.int .i64 x186000_1,.int .i64 x186001_1,.int .i64 x186002_1,.int .i64 x186003_1,.int .i64 x186004_1,.int .i64 x186005_1,.int .i64 x186006_1,.slice none 0 0] 24 (0,0))) ∧ (w'.heap[gb186]? = some (.cells #[.int .i64 x187000_1,.int .i64 x187001_1,.int .i64 x187002_1] 26 (0,0))) ∧ (w'.heap[gb197]? = some (.cells #[.int .i64 x198000_1,.int .i64 x198001_1,.int .i64 x198002_1,.int .i64 x198003_1,.int .i64 x198004_1,.int .i64 x198005_1,.int .i64 x198006_1,.slice Ao98 x198007_1.length co98] 24 (0,0))) ∧ (w'.heap[s_.2]? = some (.cells #[.int .i64 0,.int .i64 0,.int .i64 0,.int .i64 0,.int .i64 0,.int .i64 0,.int .i64 0,.slice none 0 0] 24 (0,0))) ∧ (w.heap.size ≤ s_.2) ∧ (w.heap.size ≤ s_.2) ∧ (gb185 ≠ s_.2) ∧ (s_.2 ≠ gb185) ∧ (gb186 ≠ s_.2) ∧ (s_.2 ≠ gb186) ∧ (gb197 ≠ s_.2) ∧ (s_.2 ≠ gb197) ∧ (Below w.heap.size w w')) ?_ ?_
      rotate_left
      ·intro hCont
       refine two_ (i := 9) (j := 13) (Ni := some 92) (Nj := some 10) (qM 16 1023) (qM 16 8703) rfl rfl rfl rfl (two_of HT_.out Z133) Z180 Z180 (fun K hK => ?_) (fun K hK => ?_)
       ·skip
        refine goes_ Tryd.func13 Z133 rfl #[.agg #[.int .i64 x198000_1,.int .i64 x198001_1,.int .i64 x198002_1,.int .i64 x198003_1,.int .i64 x198004_1,.int .i64 x198005_1,.int .i64 x198006_1,.slice Ao98 x198007_1.length co98],.int .i64 t209,.string ((rdOf ByteArray.empty t201 x7_1).extract ((ji64) : Int).toNat (rdOf ByteArray.empty t201 x7_1).size)] Z135 rfl rfl Z78 ?_
        with_reducible refine (spec_l8Lay.calls kj25 x198000_1 x198001_1 x198002_1 x198003_1 x198004_1 x198005_1 x198006_1 (fun k_ => some k_ = (.slice Ao98 x198007_1.length co98 : Value).ownBlock) (.slice Ao98 x198007_1.length co98) x198007_1 t209 ((rdOf ByteArray.empty t201 x7_1).extract ((ji64) : Int).toNat (rdOf ByteArray.empty t201 x7_1).size) t213 t214 t215 t216 t217 t218 t219 t220 t223 w _ ?side1 ?side2 A67.out).mono ?_
        (case side1 => exact Z138)
        (case side2 => exact Z121)
        rintro e w100 ⟨v221,rfl,ho0,hb,hkp⟩
        have HS8_ := cell_kept (hHeld.2.2.2.2.2.2.2.2) hkp Z28
        refine ⟨_,rfl,?_⟩
        have n_ := jA (Kd.R_mono (ok' := fun k_ => True) (Kd.R_keptB ((Kd.R_apart' HO_5.out (Kd.R_typed HO_198007.out) Z180)) hkp (fun k_ hk_ hs_ => (hk_.2) hs_)) (fun k_ hk_ => trivial)) (jA (Kd.R_mono (ok' := fun k_ => True) (Kd.R_keptB ((Kd.R_apart' HO_6.out (Kd.R_typed HO_198007.out) Z180)) hkp (fun k_ hk_ hs_ => (hk_.2) hs_)) (fun k_ hk_ => trivial)) (jA (blk_kept Z188 hkp (fun hs_ => (fun e_ => (Kd.R_ne HO_198007.out BK185.out Z180) e_) hs_)) (jA (blk_kept Z169 hkp (fun hs_ => (fun e_ => (Kd.R_ne HO_198007.out BK186.out Z180) e_) hs_)) (jA (blk_kept Z170 hkp (fun hs_ => (fun e_ => (Kd.R_ne HO_198007.out BK197.out Z180) e_) hs_)) (jA (Kd.R_mono (ok' := fun k_ => True) ho0 (fun k_ hk_ => trivial)) (Aside0.mk (hb)))))))
        clear HO_5 HO_6 BK185 BK186 BK197 HB HO_198007
        obtain ⟨HO_5,HO_6,BK185,BK186,BK197,HO222,HB⟩ := n_
        (try clear hb)
        (try clear hkp)
        (try clear ho0)
        refine hK.out _ _ ⟨bc BK197 0,bc BK197 1,bc BK197 2,bc BK197 3,bc BK197 4,bc BK197 5,bc BK197 6,bc BK197 7,HS8_⟩ (fun hHeld => ?_)
        clear hK K
        refine rN (h := ?_)
        refine rP 10 82 16 2047 HT_ (h := ?_)
        refine rP 11 93 16 4095 HT_ (h := ?_)
        refine rP 12 94 16 8191 HT_ (h := ?_)
        refine rO 13 10 16 16383 HT_ (h := fun K hK => ?_)
        refine box_step ?hg (N := 10) ?hd (cs := #[.int .i64 0,.int .i64 0,.int .i64 0,.int .i64 0,.int .i64 0,.int .i64 0,.int .i64 0,.slice none 0 0]) (t := 24) ?hr ?_;(case hd => rfl);(case hg => rfl);(case hr => exact Z119)
        intro gb224 hg w101 hbox hb
        have HS8_ := (hb.cell (World.block_lt_of_cell? _ _ (hHeld.2.2.2.2.2.2.2.2))).trans (hHeld.2.2.2.2.2.2.2.2)
        have n_ := jA (Kd.R_below Z166 hb) (jA (Kd.R_below Z167 hb) (jA (Kd.R_below Z95 hb) (jA (blk_below (g := gb185) (o := .cells #[.int .i64 x186000_1,.int .i64 x186001_1,.int .i64 x186002_1,.int .i64 x186003_1,.int .i64 x186004_1,.int .i64 x186005_1,.int .i64 x186006_1,.slice none 0 0] 24 (0,0)) Z188 hb) (jA (blk_below (g := gb186) (o := .cells #[.int .i64 x187000_1,.int .i64 x187001_1,.int .i64 x187002_1] 26 (0,0)) Z169 hb) (jA (blk_below (g := gb197) (o := .cells #[.int .i64 x198000_1,.int .i64 x198001_1,.int .i64 x198002_1,.int .i64 x198003_1,.int .i64 x198004_1,.int .i64 x198005_1,.int .i64 x198006_1,.slice Ao98 x198007_1.length co98] 24 (0,0)) Z170 hb) (jA (below_step Z138 hb) (jA (hbox) (jA ((Z47 : w.heap.size ≤ gb224)) (jA ((Z47 : w.heap.size ≤ gb224)) (jA ((Z45 : gb185 ≠ gb224)) (jA ((Z46 : gb224 ≠ gb185)) (jA ((Z72 : gb186 ≠ gb224)) (jA ((Z73 : gb224 ≠ gb186)) (jA ((Z41 : gb197 ≠ gb224)) (Aside0.mk ((Z43 : gb224 ≠ gb197)))))))))))))))))
        clear HO_5 HO_6 HO222 BK185 BK186 BK197 HB
        obtain ⟨HO_5,HO_6,HO222,BK185,BK186,BK197,HB,BK224,GW224,GE224,NB185_224,NB224_185,NB186_224,NB224_186,NB197_224,NB224_197⟩ := n_
        clear hb hbox hg
        refine hK.out _ _ ⟨bc BK197 0,bc BK197 1,bc BK197 2,bc BK197 3,bc BK197 4,bc BK197 5,bc BK197 6,bc BK197 7,HS8_⟩ (fun hHeld => ?_)
        clear hK K
        refine rN (h := ?_)
        exact norm_ Z108 (hCont (v221,gb224) _ ⟨hHeld,Z95,Z166,Z167,Z188,Z169,Z170,Z125,GW224.out,GE224.out,NB185_224.out,NB224_185.out,NB186_224.out,NB224_186.out,NB197_224.out,NB224_197.out,Z48⟩)
       skip
       refine box_step ?hg (N := 10) ?hd (cs := #[.int .i64 0,.int .i64 0,.int .i64 0,.int .i64 0,.int .i64 0,.int .i64 0,.int .i64 0,.slice none 0 0]) (t := 24) ?hr ?_;(case hd => rfl);(case hg => rfl);(case hr => exact Z119)
       intro gb224 hg w100 hbox hb
       have HS8_ := (hb.cell (World.block_lt_of_cell? _ _ (hHeld.2.2.2.2.2.2.2.2))).trans (hHeld.2.2.2.2.2.2.2.2)
       have n_ := jA (Kd.R_below Z166 hb) (jA (Kd.R_below Z167 hb) (jA (Kd.R_below Z160 hb) (jA (blk_below (g := gb185) (o := .cells #[.int .i64 x186000_1,.int .i64 x186001_1,.int .i64 x186002_1,.int .i64 x186003_1,.int .i64 x186004_1,.int .i64 x186005_1,.int .i64 x186006_1,.slice none 0 0] 24 (0,0)) Z188 hb) (jA (blk_below (g := gb186) (o := .cells #[.int .i64 x187000_1,.int .i64 x187001_1,.int .i64 x187002_1] 26 (0,0)) Z169 hb) (jA (blk_below (g := gb197) (o := .cells #[.int .i64 x198000_1,.int .i64 x198001_1,.int .i64 x198002_1,.int .i64 x198003_1,.int .i64 x198004_1,.int .i64 x198005_1,.int .i64 x198006_1,.slice Ao98 x198007_1.length co98] 24 (0,0)) Z170 hb) (jA (below_step Z138 hb) (jA (hbox) (jA ((Z47 : w.heap.size ≤ gb224)) (jA ((Z47 : w.heap.size ≤ gb224)) (jA ((Z45 : gb185 ≠ gb224)) (jA ((Z46 : gb224 ≠ gb185)) (jA ((Z72 : gb186 ≠ gb224)) (jA ((Z73 : gb224 ≠ gb186)) (jA ((Z41 : gb197 ≠ gb224)) (Aside0.mk ((Z43 : gb224 ≠ gb197)))))))))))))))))
       clear HO_5 HO_6 HO_198007 BK185 BK186 BK197 HB
       obtain ⟨HO_5,HO_6,HO_198007,BK185,BK186,BK197,HB,BK224,GW224,GE224,NB185_224,NB224_185,NB186_224,NB224_186,NB197_224,NB224_197⟩ := n_
       clear hb hbox hg
       refine hK.out _ _ ⟨bc BK197 0,bc BK197 1,bc BK197 2,bc BK197 3,bc BK197 4,bc BK197 5,bc BK197 6,bc BK197 7,HS8_⟩ (fun hHeld => ?_)
       clear hK K
       refine rN (h := ?_)
       refine rO 9 92 16 9215 HT_ (h := fun K hK => ?_)
       refine goes_ Tryd.func13 Z133 rfl #[.agg #[.int .i64 x198000_1,.int .i64 x198001_1,.int .i64 x198002_1,.int .i64 x198003_1,.int .i64 x198004_1,.int .i64 x198005_1,.int .i64 x198006_1,.slice Ao98 x198007_1.length co98],.int .i64 t209,.string ((rdOf ByteArray.empty t201 x7_1).extract ((ji64) : Int).toNat (rdOf ByteArray.empty t201 x7_1).size)] Z135 rfl rfl Z78 ?_
       with_reducible refine (spec_l8Lay.calls kj25 x198000_1 x198001_1 x198002_1 x198003_1 x198004_1 x198005_1 x198006_1 (fun k_ => some k_ = (.slice Ao98 x198007_1.length co98 : Value).ownBlock) (.slice Ao98 x198007_1.length co98) x198007_1 t209 ((rdOf ByteArray.empty t201 x7_1).extract ((ji64) : Int).toNat (rdOf ByteArray.empty t201 x7_1).size) t213 t214 t215 t216 t217 t218 t219 t220 t223 w _ ?side1 ?side2 A67.out).mono ?_
       (case side1 => exact Z48)
       (case side2 => exact Z121)
       rintro e w101 ⟨v221,rfl,ho0,hb,hkp⟩
       have HS8_ := cell_kept (hHeld.2.2.2.2.2.2.2.2) hkp Z28
       refine ⟨_,rfl,?_⟩
       have n_ := jA (Kd.R_mono (ok' := fun k_ => True) (Kd.R_keptB ((Kd.R_apart' HO_5.out (Kd.R_typed HO_198007.out) Z180)) hkp (fun k_ hk_ hs_ => (hk_.2) hs_)) (fun k_ hk_ => trivial)) (jA (Kd.R_mono (ok' := fun k_ => True) (Kd.R_keptB ((Kd.R_apart' HO_6.out (Kd.R_typed HO_198007.out) Z180)) hkp (fun k_ hk_ hs_ => (hk_.2) hs_)) (fun k_ hk_ => trivial)) (jA (blk_kept Z188 hkp (fun hs_ => (fun e_ => (Kd.R_ne HO_198007.out BK185.out Z180) e_) hs_)) (jA (blk_kept Z169 hkp (fun hs_ => (fun e_ => (Kd.R_ne HO_198007.out BK186.out Z180) e_) hs_)) (jA (blk_kept Z170 hkp (fun hs_ => (fun e_ => (Kd.R_ne HO_198007.out BK197.out Z180) e_) hs_)) (jA (blk_kept Z125 hkp (fun hs_ => (fun e_ => (Kd.R_ne HO_198007.out BK224.out Z180) e_) hs_)) (jA (Kd.R_mono (ok' := fun k_ => True) ho0 (fun k_ hk_ => trivial)) (Aside0.mk (hb))))))))
       clear HO_5 HO_6 BK185 BK186 BK197 BK224 HB HO_198007
       obtain ⟨HO_5,HO_6,BK185,BK186,BK197,BK224,HO222,HB⟩ := n_
       (try clear hb)
       (try clear hkp)
       (try clear ho0)
       refine hK.out _ _ ⟨bc BK197 0,bc BK197 1,bc BK197 2,bc BK197 3,bc BK197 4,bc BK197 5,bc BK197 6,bc BK197 7,HS8_⟩ (fun hHeld => ?_)
       clear hK K
       refine rN (h := ?_)
       refine rP 10 82 16 10239 HT_ (h := ?_)
       refine rP 11 93 16 12287 HT_ (h := ?_)
       refine rP 12 94 16 16383 HT_ (h := ?_)
       exact norm_ Z108 (hCont (v221,gb224) _ ⟨hHeld,Z95,Z166,Z167,Z188,Z169,Z170,Z125,GW224.out,GE224.out,NB185_224.out,NB224_185.out,NB186_224.out,NB224_186.out,NB197_224.out,NB224_197.out,Z48⟩)
      rintro ⟨v221,gb224⟩ w102 ⟨hS_,h0_,h1_,h2_,h3_,h4_,h5_,h6_,h7_,h8_,h9_,h10_,h11_,h12_,h13_,h14_,h15_⟩
      have n0_ : Aside0 (Kd.R (Kd.int .i64) 3 w102 w.heap.size (fun _ => True) v221 t220) := ⟨h0_⟩
      have n1_ : Aside0 (Kd.R Kd.bool 4 w102 w.heap.size (fun _ => True) (.slice (some ⟨go63,0,none⟩) x5_1.length co95) y211) := ⟨h1_⟩
      have n2_ : Aside0 (Kd.R Kd.string 9 w102 w.heap.size (fun _ => True) (.slice (some ad204) t201.length co27) t201) := ⟨h2_⟩
      have n3_ : Aside0 (w102.heap[gb185]? = some (.cells #[.int .i64 x186000_1,.int .i64 x186001_1,.int .i64 x186002_1,.int .i64 x186003_1,.int .i64 x186004_1,.int .i64 x186005_1,.int .i64 x186006_1,.slice none 0 0] 24 (0,0))) := ⟨h3_⟩
      have n4_ : Aside0 (w102.heap[gb186]? = some (.cells #[.int .i64 x187000_1,.int .i64 x187001_1,.int .i64 x187002_1] 26 (0,0))) := ⟨h4_⟩
      have n5_ : Aside0 (w102.heap[gb197]? = some (.cells #[.int .i64 x198000_1,.int .i64 x198001_1,.int .i64 x198002_1,.int .i64 x198003_1,.int .i64 x198004_1,.int .i64 x198005_1,.int .i64 x198006_1,.slice Ao98 x198007_1.length co98] 24 (0,0))) := ⟨h5_⟩
      have n6_ : Aside0 (w102.heap[gb224]? = some (.cells #[.int .i64 0,.int .i64 0,.int .i64 0,.int .i64 0,.int .i64 0,.int .i64 0,.int .i64 0,.slice none 0 0] 24 (0,0))) := ⟨h6_⟩
      have n7_ : Aside0 (w.heap.size ≤ gb224) := ⟨h7_⟩
      have n8_ : Aside0 (w.heap.size ≤ gb224) := ⟨h8_⟩
      have n9_ : Aside0 (gb185 ≠ gb224) := ⟨h9_⟩
      have n10_ : Aside0 (gb224 ≠ gb185) := ⟨h10_⟩
      have n11_ : Aside0 (gb186 ≠ gb224) := ⟨h11_⟩
      have n12_ : Aside0 (gb224 ≠ gb186) := ⟨h12_⟩
      have n13_ : Aside0 (gb197 ≠ gb224) := ⟨h13_⟩
      have n14_ : Aside0 (gb224 ≠ gb197) := ⟨h14_⟩
      have n15_ : Aside0 (Below w.heap.size w w102) := ⟨h15_⟩
      clear HO_5
      clear HO_6
      clear HO_198007
      clear BK185
      clear BK186
      clear BK197
      clear HB
      clear h0_ h1_ h2_ h3_ h4_ h5_ h6_ h7_ h8_ h9_ h10_ h11_ h12_ h13_ h14_ h15_
      have HO222 := n0_
      have HO_5 := n1_
      have HO_6 := n2_
      have BK185 := n3_
      have BK186 := n4_
      have BK197 := n5_
      have BK224 := n6_
      have GW224 := n7_
      have GE224 := n8_
      have NB185_224 := n9_
      have NB224_185 := n10_
      have NB186_224 := n11_
      have NB224_186 := n12_
      have NB197_224 := n13_
      have NB224_197 := n14_
      have HB := n15_
      clear n0_ n1_ n2_ n3_ n4_ n5_ n6_ n7_ n8_ n9_ n10_ n11_ n12_ n13_ n14_ n15_
      have hHeld : w102.cell? ⟨gb197,0,none⟩ = some (.int .i64 x198000_1) ∧ w102.cell? ⟨gb197,1,none⟩ = some (.int .i64 x198001_1) ∧ w102.cell? ⟨gb197,2,none⟩ = some (.int .i64 x198002_1) ∧ w102.cell? ⟨gb197,3,none⟩ = some (.int .i64 x198003_1) ∧ w102.cell? ⟨gb197,4,none⟩ = some (.int .i64 x198004_1) ∧ w102.cell? ⟨gb197,5,none⟩ = some (.int .i64 x198005_1) ∧ w102.cell? ⟨gb197,6,none⟩ = some (.int .i64 x198006_1) ∧ w102.cell? ⟨gb197,7,none⟩ = some (.slice Ao98 x198007_1.length co98) ∧ w102.cell? (ad204.add (x7_1).toNat) = some (.string (rdOf ByteArray.empty t201 x7_1)) := hS_
      obtain ⟨Ao110,co110,eo110⟩ := Kd.R_slice HO222.out
      (first | subst eo110 | (injection eo110 with f1_ f2_ f3_;have f4_ := f1_.symm;have f5_ := f3_.symm;clear f1_ f2_ f3_;subst f4_;subst f5_))
      refine norm_ (a' := ?_) ?_ ?_
      rotate_left
      ·simp only [putAll,Act.put,List.setIfInBounds_toArray,List.set_cons_zero,List.set_cons_succ]
       rfl
      refine one_ (i := 14) (N := none) (qM 16 32767) rfl rfl (one_of HT_.out Z133) Z180 (fun K hK => ?_)
      have hs103 : w102.cell? ⟨gb224,0,none⟩ = some (.int .i64 0) := bc BK224 0
      have hfs103 := blk_frozen BK224.out 0
      have hns103_0 := NB185_224.out
      have hns103_1 := NB186_224.out
      have hns103_2 := NB197_224.out
      have hms103_0 := NB224_185.out
      have hms103_1 := NB224_186.out
      have hms103_2 := NB224_197.out
      have hs104 : w102.cell? ⟨gb224,1,none⟩ = some (.int .i64 0) := bc BK224 1
      have hfs104 := blk_frozen BK224.out 1
      have hns104_0 := NB185_224.out
      have hns104_1 := NB186_224.out
      have hns104_2 := NB197_224.out
      have hms104_0 := NB224_185.out
      have hms104_1 := NB224_186.out
      have hms104_2 := NB224_197.out
      have hs105 : w102.cell? ⟨gb224,2,none⟩ = some (.int .i64 0) := bc BK224 2
      have hfs105 := blk_frozen BK224.out 2
      have hns105_0 := NB185_224.out
      have hns105_1 := NB186_224.out
      have hns105_2 := NB197_224.out
      have hms105_0 := NB224_185.out
      have hms105_1 := NB224_186.out
      have hms105_2 := NB224_197.out
      have hs106 : w102.cell? ⟨gb224,3,none⟩ = some (.int .i64 0) := bc BK224 3
      have hfs106 := blk_frozen BK224.out 3
      have hns106_0 := NB185_224.out
      have hns106_1 := NB186_224.out
      have hns106_2 := NB197_224.out
      have hms106_0 := NB224_185.out
      have hms106_1 := NB224_186.out
      have hms106_2 := NB224_197.out
      have hs107 : w102.cell? ⟨gb224,4,none⟩ = some (.int .i64 0) := bc BK224 4
      have hfs107 := blk_frozen BK224.out 4
      have hns107_0 := NB185_224.out
      have hns107_1 := NB186_224.out
      have hns107_2 := NB197_224.out
      have hms107_0 := NB224_185.out
      have hms107_1 := NB224_186.out
      have hms107_2 := NB224_197.out
      have hs108 : w102.cell? ⟨gb224,5,none⟩ = some (.int .i64 0) := bc BK224 5
      have hfs108 := blk_frozen BK224.out 5
      have hns108_0 := NB185_224.out
      have hns108_1 := NB186_224.out
      have hns108_2 := NB197_224.out
      have hms108_0 := NB224_185.out
      have hms108_1 := NB224_186.out
      have hms108_2 := NB224_197.out
      have hs109 : w102.cell? ⟨gb224,6,none⟩ = some (.int .i64 0) := bc BK224 6
      have hfs109 := blk_frozen BK224.out 6
      have hns109_0 := NB185_224.out
      have hns109_1 := NB186_224.out
      have hns109_2 := NB197_224.out
      have hms109_0 := NB224_185.out
      have hms109_1 := NB224_186.out
      have hms109_2 := NB224_197.out
      have hs111 : w102.cell? ⟨gb224,7,none⟩ = some (.slice none 0 0) := bc BK224 7
      have hfs111 := blk_frozen BK224.out 7
      have hns111_0 := NB185_224.out
      have hns111_1 := NB186_224.out
      have hns111_2 := NB197_224.out
      have hms111_0 := NB224_185.out
      have hms111_1 := NB224_186.out
      have hms111_2 := NB224_197.out
      refine skip_ (w1 := ?_) Z135 rfl ?_ ?_
      rotate_left
      ·go_simp
       rfl
      refine hK.out _ _ ⟨((cell_far (p := ⟨gb224,_,none⟩) NB197_224.out _).trans (((cell_far (p := ⟨gb224,_,none⟩) NB197_224.out _).trans (((cell_far (p := ⟨gb224,_,none⟩) NB197_224.out _).trans (((cell_far (p := ⟨gb224,_,none⟩) NB197_224.out _).trans (((cell_far (p := ⟨gb224,_,none⟩) NB197_224.out _).trans (((cell_far (p := ⟨gb224,_,none⟩) NB197_224.out _).trans (((cell_far (p := ⟨gb224,_,none⟩) NB197_224.out _).trans (((cell_far (p := ⟨gb224,_,none⟩) NB197_224.out _).trans (hHeld.1)))))))))))))))),((cell_far (p := ⟨gb224,_,none⟩) NB197_224.out _).trans (((cell_far (p := ⟨gb224,_,none⟩) NB197_224.out _).trans (((cell_far (p := ⟨gb224,_,none⟩) NB197_224.out _).trans (((cell_far (p := ⟨gb224,_,none⟩) NB197_224.out _).trans (((cell_far (p := ⟨gb224,_,none⟩) NB197_224.out _).trans (((cell_far (p := ⟨gb224,_,none⟩) NB197_224.out _).trans (((cell_far (p := ⟨gb224,_,none⟩) NB197_224.out _).trans (((cell_far (p := ⟨gb224,_,none⟩) NB197_224.out _).trans (hHeld.2.1)))))))))))))))),((cell_far (p := ⟨gb224,_,none⟩) NB197_224.out _).trans (((cell_far (p := ⟨gb224,_,none⟩) NB197_224.out _).trans (((cell_far (p := ⟨gb224,_,none⟩) NB197_224.out _).trans (((cell_far (p := ⟨gb224,_,none⟩) NB197_224.out _).trans (((cell_far (p := ⟨gb224,_,none⟩) NB197_224.out _).trans (((cell_far (p := ⟨gb224,_,none⟩) NB197_224.out _).trans (((cell_far (p := ⟨gb224,_,none⟩) NB197_224.out _).trans (((cell_far (p := ⟨gb224,_,none⟩) NB197_224.out _).trans (hHeld.2.2.1)))))))))))))))),((cell_far (p := ⟨gb224,_,none⟩) NB197_224.out _).trans (((cell_far (p := ⟨gb224,_,none⟩) NB197_224.out _).trans (((cell_far (p := ⟨gb224,_,none⟩) NB197_224.out _).trans (((cell_far (p := ⟨gb224,_,none⟩) NB197_224.out _).trans (((cell_far (p := ⟨gb224,_,none⟩) NB197_224.out _).trans (((cell_far (p := ⟨gb224,_,none⟩) NB197_224.out _).trans (((cell_far (p := ⟨gb224,_,none⟩) NB197_224.out _).trans (((cell_far (p := ⟨gb224,_,none⟩) NB197_224.out _).trans (hHeld.2.2.2.1)))))))))))))))),((cell_far (p := ⟨gb224,_,none⟩) NB197_224.out _).trans (((cell_far (p := ⟨gb224,_,none⟩) NB197_224.out _).trans (((cell_far (p := ⟨gb224,_,none⟩) NB197_224.out _).trans (((cell_far (p := ⟨gb224,_,none⟩) NB197_224.out _).trans (((cell_far (p := ⟨gb224,_,none⟩) NB197_224.out _).trans (((cell_far (p := ⟨gb224,_,none⟩) NB197_224.out _).trans (((cell_far (p := ⟨gb224,_,none⟩) NB197_224.out _).trans (((cell_far (p := ⟨gb224,_,none⟩) NB197_224.out _).trans (hHeld.2.2.2.2.1)))))))))))))))),((cell_far (p := ⟨gb224,_,none⟩) NB197_224.out _).trans (((cell_far (p := ⟨gb224,_,none⟩) NB197_224.out _).trans (((cell_far (p := ⟨gb224,_,none⟩) NB197_224.out _).trans (((cell_far (p := ⟨gb224,_,none⟩) NB197_224.out _).trans (((cell_far (p := ⟨gb224,_,none⟩) NB197_224.out _).trans (((cell_far (p := ⟨gb224,_,none⟩) NB197_224.out _).trans (((cell_far (p := ⟨gb224,_,none⟩) NB197_224.out _).trans (((cell_far (p := ⟨gb224,_,none⟩) NB197_224.out _).trans (hHeld.2.2.2.2.2.1)))))))))))))))),((cell_far (p := ⟨gb224,_,none⟩) NB197_224.out _).trans (((cell_far (p := ⟨gb224,_,none⟩) NB197_224.out _).trans (((cell_far (p := ⟨gb224,_,none⟩) NB197_224.out _).trans (((cell_far (p := ⟨gb224,_,none⟩) NB197_224.out _).trans (((cell_far (p := ⟨gb224,_,none⟩) NB197_224.out _).trans (((cell_far (p := ⟨gb224,_,none⟩) NB197_224.out _).trans (((cell_far (p := ⟨gb224,_,none⟩) NB197_224.out _).trans (((cell_far (p := ⟨gb224,_,none⟩) NB197_224.out _).trans (hHeld.2.2.2.2.2.2.1)))))))))))))))),((cell_far (p := ⟨gb224,_,none⟩) NB197_224.out _).trans (((cell_far (p := ⟨gb224,_,none⟩) NB197_224.out _).trans (((cell_far (p := ⟨gb224,_,none⟩) NB197_224.out _).trans (((cell_far (p := ⟨gb224,_,none⟩) NB197_224.out _).trans (((cell_far (p := ⟨gb224,_,none⟩) NB197_224.out _).trans (((cell_far (p := ⟨gb224,_,none⟩) NB197_224.out _).trans (((cell_far (p := ⟨gb224,_,none⟩) NB197_224.out _).trans (((cell_far (p := ⟨gb224,_,none⟩) NB197_224.out _).trans (hHeld.2.2.2.2.2.2.2.1)))))))))))))))),((cell_far (p := ⟨gb224,_,none⟩) Z34 _).trans (((cell_far (p := ⟨gb224,_,none⟩) Z34 _).trans (((cell_far (p := ⟨gb224,_,none⟩) Z34 _).trans (((cell_far (p := ⟨gb224,_,none⟩) Z34 _).trans (((cell_far (p := ⟨gb224,_,none⟩) Z34 _).trans (((cell_far (p := ⟨gb224,_,none⟩) Z34 _).trans (((cell_far (p := ⟨gb224,_,none⟩) Z34 _).trans (((cell_far (p := ⟨gb224,_,none⟩) Z34 _).trans (hHeld.2.2.2.2.2.2.2.2))))))))))))))))⟩ (fun hHeld => ?_)
      clear hK K
      refine rP 15 11 16 65535 HT_ (h := ?_)
      refine done_ (done_of HT_.out Z133) ?_
      have hnb112 := NB185_186.out
      have hnc112 := NB186_185.out
      have hnb113 := NB185_197.out
      have hnc113 := NB197_185.out
      have hnb114 := NB185_224.out
      have hnc114 := NB224_185.out
      obtain ⟨hcz115_0,hcz115_1,hcz115_2,hcz115_3,hcz115_4,hcz115_5,hcz115_6,hcz115_7,hfz115_0,hfz115_1,hfz115_2,hfz115_3,hfz115_4,hfz115_5,hfz115_6,hfz115_7⟩ := cells8 BK185.out
      have hnb116 := NB186_197.out
      have hnc116 := NB197_186.out
      have hnb117 := NB186_224.out
      have hnc117 := NB224_186.out
      obtain ⟨hcz118_0,hcz118_1,hcz118_2,hfz118_0,hfz118_1,hfz118_2⟩ := cells3 BK186.out
      try go_wp2
      refine bodyPost_ret (results_cc rfl _ _ gb185 gb186 24 26 #[.int .i64 0,.int .i64 0,.int .i64 0,.int .i64 0,.int .i64 0,.int .i64 0,.int .i64 0,.slice none 0 0] #[.int .i64 t223,.int .i64 x7_1,.int .i64 0] (0,0) (0,0) _ _ rfl (by refine bP ?_;refine blk_far ?_ NB185_186.out _;refine bP ?_;refine blk_far ?_ NB185_186.out _;refine bP ?_;refine blk_far ?_ NB185_186.out _;refine bP ?_;refine blk_put (cs := #[.int .i64 0,.int .i64 0,.int .i64 0,.int .i64 0,.int .i64 0,.int .i64 0,.int .i64 0,.slice none 0 0]) ?_ 7 _ rfl;refine bP ?_;refine blk_put (cs := #[.int .i64 0,.int .i64 0,.int .i64 0,.int .i64 0,.int .i64 0,.int .i64 0,.int .i64 x186006_1,.slice none 0 0]) ?_ 6 _ rfl;refine bP ?_;refine blk_put (cs := #[.int .i64 0,.int .i64 0,.int .i64 0,.int .i64 0,.int .i64 0,.int .i64 x186005_1,.int .i64 x186006_1,.slice none 0 0]) ?_ 5 _ rfl;refine bP ?_;refine blk_put (cs := #[.int .i64 0,.int .i64 0,.int .i64 0,.int .i64 0,.int .i64 x186004_1,.int .i64 x186005_1,.int .i64 x186006_1,.slice none 0 0]) ?_ 4 _ rfl;refine bP ?_;refine blk_put (cs := #[.int .i64 0,.int .i64 0,.int .i64 0,.int .i64 x186003_1,.int .i64 x186004_1,.int .i64 x186005_1,.int .i64 x186006_1,.slice none 0 0]) ?_ 3 _ rfl;refine bP ?_;refine blk_put (cs := #[.int .i64 0,.int .i64 0,.int .i64 x186002_1,.int .i64 x186003_1,.int .i64 x186004_1,.int .i64 x186005_1,.int .i64 x186006_1,.slice none 0 0]) ?_ 2 _ rfl;refine bP ?_;refine blk_put (cs := #[.int .i64 0,.int .i64 x186001_1,.int .i64 x186002_1,.int .i64 x186003_1,.int .i64 x186004_1,.int .i64 x186005_1,.int .i64 x186006_1,.slice none 0 0]) ?_ 1 _ rfl;refine bP ?_;refine blk_put (cs := #[.int .i64 x186000_1,.int .i64 x186001_1,.int .i64 x186002_1,.int .i64 x186003_1,.int .i64 x186004_1,.int .i64 x186005_1,.int .i64 x186006_1,.slice none 0 0]) ?_ 0 _ rfl;refine bP ?_;refine blk_far ?_ NB185_224.out _;refine bP ?_;refine blk_far ?_ NB185_224.out _;refine bP ?_;refine blk_far ?_ NB185_224.out _;refine bP ?_;refine blk_far ?_ NB185_224.out _;refine bP ?_;refine blk_far ?_ NB185_224.out _;refine bP ?_;refine blk_far ?_ NB185_224.out _;refine bP ?_;refine blk_far ?_ NB185_224.out _;refine bP ?_;refine blk_far ?_ NB185_224.out _;refine bP ?_;exact BK185.out) Tryd.underlying24 rfl Z133 rfl (by refine bP ?_;refine blk_put (cs := #[.int .i64 t223,.int .i64 x7_1,.int .i64 x187002_1]) ?_ 2 _ rfl;refine bP ?_;refine blk_put (cs := #[.int .i64 t223,.int .i64 x187001_1,.int .i64 x187002_1]) ?_ 1 _ rfl;refine bP ?_;refine blk_put (cs := #[.int .i64 x187000_1,.int .i64 x187001_1,.int .i64 x187002_1]) ?_ 0 _ rfl;refine bP ?_;refine blk_far ?_ NB186_185.out _;refine bP ?_;refine blk_far ?_ NB186_185.out _;refine bP ?_;refine blk_far ?_ NB186_185.out _;refine bP ?_;refine blk_far ?_ NB186_185.out _;refine bP ?_;refine blk_far ?_ NB186_185.out _;refine bP ?_;refine blk_far ?_ NB186_185.out _;refine bP ?_;refine blk_far ?_ NB186_185.out _;refine bP ?_;refine blk_far ?_ NB186_185.out _;refine bP ?_;refine blk_far ?_ NB186_224.out _;refine bP ?_;refine blk_far ?_ NB186_224.out _;refine bP ?_;refine blk_far ?_ NB186_224.out _;refine bP ?_;refine blk_far ?_ NB186_224.out _;refine bP ?_;refine blk_far ?_ NB186_224.out _;refine bP ?_;refine blk_far ?_ NB186_224.out _;refine bP ?_;refine blk_far ?_ NB186_224.out _;refine bP ?_;refine blk_far ?_ NB186_224.out _;refine bP ?_;exact BK186.out) Tryd.underlying26 rfl Z133) rfl ?_
      exact ⟨_,by first | rfl | (simp [errW_none,errW_some] <;> rfl) | (simp only [← hji64];first | rfl | (simp [errW_none,errW_some] <;> rfl)) | (simp [*,errW_none,errW_some] <;> rfl),Z86,Z48⟩
     rw [if_pos c68] at H
     have c68b0 : (t223 == 0) = true := beq_iff_eq.mpr c68
     have c68b1 : (t223 != 0) = false := bne_eq_false_iff_eq.mpr c68
     clear c68
     have H' := Aside0.mk H
     clear H
     have p207 : 0 ≤ (x7_1 : Int) := of_decide_eq_true Z117
     have q207 : x7_1 < (t201.length : Int) := of_decide_eq_true Z117
     obtain ⟨ad207,e207,hx207_0⟩ := Kd.at_string (Kd.R_reads' HO_6.out).2.2 x7_1 p207 q207
     obtain rfl : ad204 = ad207 := Z131
     replace p207 := eq_true p207
     replace q207 := eq_true q207
     have p208 : 0 ≤ (x7_1 : Int) := of_decide_eq_true Z117
     have q208 : x7_1 < (t201.length : Int) := of_decide_eq_true Z117
     obtain ⟨ad208,e208,hx208_0⟩ := Kd.at_string (Kd.R_reads' HO_6.out).2.2 x7_1 p208 q208
     obtain rfl : ad204 = ad208 := Z132
     replace p208 := eq_true p208
     replace q208 := eq_true q208
     try go_wp2_with (first | ((with_reducible refine gate_callee (f := 12) rfl ?_);refine goesL_ (some 66) rfl rfl Tryd.func12 Z133 rfl #[.string ((rdOf ByteArray.empty t201 x7_1).extract 0 (x8_25 : Int).toNat)] rfl Z87 ?_;(with_reducible refine (spec_l8Word.calls kj25 ((rdOf ByteArray.empty t201 x7_1).extract 0 (x8_25 : Int).toNat) t209 _ A44.out).mono ?_);rintro e w69 ⟨rfl,hb⟩;refine ⟨_,rfl,?_⟩;have n_ := Z10;clear HO_5 HO_6 HO_198007 BK185 BK186 BK197 HB;obtain ⟨HO_5,HO_6,HO_198007,BK185,BK186,BK197,HB⟩ := n_;(try clear hb);(try clear hb2);(try clear hk);(try clear hi);obtain ⟨Ao70,co70,eo70⟩ := Kd.R_slice HO_5.out;subst eo70;have p210 : 0 ≤ (t209 : Int) := of_decide_eq_true Z117;have q210 : t209 < (x5_1.length : Int) := of_decide_eq_true Z117;obtain ⟨ad210,e210,hx210_0⟩ := Kd.at_bool (Kd.R_reads' HO_5.out).2.2 t209 p210 q210;(try rw [← Nbq54.out] at hx210_0);cases e210;replace p210 := eq_true p210;replace q210 := eq_true q210;have p63 : 0 ≤ (t209 : Int) := of_decide_eq_true Z117;have q63 : (t209 : Int) < ((x5_1.length : Int) : Int) := of_decide_eq_true Z117;obtain ⟨go63,co63,eo63,gb63,gl63,cl63,HG63⟩ := Kd.R_form HO_5.out Z134;(first | cases eo63 | (injection eo63 with ea_ en_ ec_;(first | subst ea_ | (injection ea_ with ea_;subst ea_));subst ec_;clear en_));have GB63 := Aside0.mk gb63;have GG63 := Aside0.mk HG63;clear gb63 gl63 HG63;(first | simp only [add_plain] at hx210_0 | skip);obtain ⟨hx63_0,hf63_0⟩ := Kd.R_celln false HO_5.out (t209 : Int) p63 q63;replace p63 := eq_true p63;replace q63 := eq_true q63;obtain ⟨hy71_,hz71_⟩ := Kd.R_celln false HO_5.out (t209 : Int) (of_decide_eq_true Z117) (of_decide_eq_true Z117);have HP71 := Kd.R_putg HO_5.out (t209 : Int) true) | ((with_reducible refine gate_store (t := 4) (p := 81) rfl ?_);refine store_event (t := 4) (p := 81) (v := ?vo_w72) (w1 := (w69.setCell ⟨go63,(t209 : Int).toNat,none⟩ (.bool true))) ?hg ?ho ?hn ?hr ?_;(case ho => rfl);(case hg => rfl);(case hn => rfl);(case hr => exact Z119);intro w72 hw;have hg : w69.grownBy w72 (some go63) := (by rw [hw];exact HP71.2);have hp_ : Kd.R Kd.bool 4 w72 w.heap.size (fun _ => True) (.slice (some ⟨go63,0,none⟩) x5_1.length co70) y211 := (by rw [hw,Ny211.out];exact HP71.1);clear HP71;have n_ := jA (hp_) (jA (Kd.R_over' (v := (.slice (some ⟨go63,0,none⟩) x5_1.length co70)) Z167 (Kd.R_typed HO_5.out) Z180 hg) (jA (Kd.R_over' (v := (.slice (some ⟨go63,0,none⟩) x5_1.length co70)) Z160 (Kd.R_typed HO_5.out) Z180 hg) (jA (blk_grown (g := gb185) (o := .cells #[.int .i64 x186000_1,.int .i64 x186001_1,.int .i64 x186002_1,.int .i64 x186003_1,.int .i64 x186004_1,.int .i64 x186005_1,.int .i64 x186006_1,.slice none 0 0] 24 (0,0)) Z188 hg (Kd.R_ne HO_5.out BK185.out Z180)) (jA (blk_grown (g := gb186) (o := .cells #[.int .i64 x187000_1,.int .i64 x187001_1,.int .i64 x187002_1] 26 (0,0)) Z169 hg (Kd.R_ne HO_5.out BK186.out Z180)) (jA (blk_grown (g := gb197) (o := .cells #[.int .i64 x198000_1,.int .i64 x198001_1,.int .i64 x198002_1,.int .i64 x198003_1,.int .i64 x198004_1,.int .i64 x198005_1,.int .i64 x198006_1,u198007] 24 (0,0)) Z170 hg (Kd.R_ne HO_5.out BK197.out Z180)) (Aside0.mk ((by rw [hw];exact below_set (HB.out) GB63.out : Below w.heap.size w w72))))))));clear HO_5 HO_6 HO_198007 BK185 BK186 BK197 HB;obtain ⟨HO_5,HO_6,HO_198007,BK185,BK186,BK197,HB⟩ := n_;clear hg hw hp_;obtain ⟨Ao73,co73,eo73⟩ := Kd.R_slice HO_198007.out;subst eo73))
     have n_ := jA (Kd.R_drew HO_5.out) (jA (Kd.R_drew HO_6.out) (jA (Kd.R_drew HO_198007.out) (jA (blk_drew BK185.out) (jA (blk_drew BK186.out) (jA (blk_drew BK197.out) (Aside0.mk (below_drew1 HB.out)))))))
     clear HO_5 HO_6 HO_198007 BK185 BK186 BK197 HB
     obtain ⟨HO_5,HO_6,HO_198007,BK185,BK186,BK197,HB⟩ := n_
     have p212 : 0 ≤ (x7_1 : Int) := of_decide_eq_true Z117
     have q212 : x7_1 < (t201.length : Int) := of_decide_eq_true Z117
     obtain ⟨ad212,e212,hx212_0⟩ := Kd.at_string (Kd.R_reads' HO_6.out).2.2 x7_1 p212 q212
     obtain rfl : ad204 = ad212 := (by injection e212)
     replace p212 := eq_true p212
     replace q212 := eq_true q212
     refine start_ (n := 16) (S := fun w' => w'.cell? ⟨gb197,0,none⟩ = some (.int .i64 x198000_1) ∧ w'.cell? ⟨gb197,1,none⟩ = some (.int .i64 x198001_1) ∧ w'.cell? ⟨gb197,2,none⟩ = some (.int .i64 x198002_1) ∧ w'.cell? ⟨gb197,3,none⟩ = some (.int .i64 x198003_1) ∧ w'.cell? ⟨gb197,4,none⟩ = some (.int .i64 x198004_1) ∧ w'.cell? ⟨gb197,5,none⟩ = some (.int .i64 x198005_1) ∧ w'.cell? ⟨gb197,6,none⟩ = some (.int .i64 x198006_1) ∧ w'.cell? ⟨gb197,7,none⟩ = some (.slice Ao73 x198007_1.length co73) ∧ w'.cell? (ad204.add (x7_1).toNat) = some (.string (rdOf ByteArray.empty t201 x7_1))) (ds := []) (qM 16 0) Z133 rfl (by kernel_rfl) ⟨bc BK197 0,bc BK197 1,bc BK197 2,bc BK197 3,bc BK197 4,bc BK197 5,bc BK197 6,bc BK197 7,hx212_0⟩ (fun hHeld => ?_);refine with_tabW spec_ReadConfig.tab21 spec_ReadConfig.bits21 (fun HT_ HW_ => ?_)
     generalize w72.drew = w74 at HO_5 HO_6 HO_198007 BK185 BK186 BK197 HB hx212_0 hHeld ⊢
     refine rP 1 84 16 2 HT_ (h := ?_)
     refine rP 2 85 16 6 HT_ (h := ?_)
     refine rP 3 86 16 14 HT_ (h := ?_)
     refine rP 4 87 16 30 HT_ (h := ?_)
     refine rP 6 89 16 94 HT_ (h := ?_)
     refine rP 7 90 16 222 HT_ (h := ?_)
     refine rT9 0 83 16 223 HT_ HW_ hHeld (h := ?_)
     refine rT9 5 88 16 255 HT_ HW_ hHeld (h := ?_)
     refine rP 8 91 16 511 HT_ (h := ?_)
     refine join_ (σ := Value × Nat) 2 (qM 16 16383) (fun s_ => [(92,.tuple #[.agg #[.int .i64 t213,.int .i64 t214,.int .i64 t215,.int .i64 t216,.int .i64 t217,.int .i64 t218,.int .i64 t219,s_.1],.int .i64 t223]),(10,.pointer (some ⟨s_.2,0,none⟩)),(82,.tuple #[.agg #[.int .i64 t213,.int .i64 t214,.int .i64 t215,.int .i64 t216,.int .i64 t217,.int .i64 t218,.int .i64 t219,s_.1],.int .i64 t223]),(93,.agg #[.int .i64 t213,.int .i64 t214,.int .i64 t215,.int .i64 t216,.int .i64 t217,.int .i64 t218,.int .i64 t219,s_.1]),(94,.int .i64 t223)]) (fun s_ w' => (w'.cell? ⟨gb197,0,none⟩ = some (.int .i64 x198000_1) ∧ w'.cell? ⟨gb197,1,none⟩ = some (.int .i64 x198001_1) ∧ w'.cell? ⟨gb197,2,none⟩ = some (.int .i64 x198002_1) ∧ w'.cell? ⟨gb197,3,none⟩ = some (.int .i64 x198003_1) ∧ w'.cell? ⟨gb197,4,none⟩ = some (.int .i64 x198004_1) ∧ w'.cell? ⟨gb197,5,none⟩ = some (.int .i64 x198005_1) ∧ w'.cell? ⟨gb197,6,none⟩ = some (.int .i64 x198006_1) ∧ w'.cell? ⟨gb197,7,none⟩ = some (.slice Ao73 x198007_1.length co73) ∧ w'.cell? (ad204.add (x7_1).toNat) = some (.string (rdOf ByteArray.empty t201 x7_1))) ∧ (Kd.R (Kd.int .i64) 3 w' w.heap.size (fun _ => True) s_.1 t220) ∧ (Kd.R Kd.bool 4 w' w.heap.size (fun _ => True) (.slice (some ⟨go63,0,none⟩) x5_1.length co70) y211) ∧ (Kd.R Kd.string 9 w' w.heap.size (fun _ => True) (.slice (some ad204) t201.length co27) t201) ∧ (w'.heap[gb185]? = some (.cells #[.int .i64 x186000_1,.int .i64 x186001_1,.int .i64 x186002_1,.int .i64 x186003_1,.int .i64 x186004_1,.int .i64 x186005_1,.int .i64 x186006_1,.slice none 0 0] 24 (0,0))) ∧ (w'.heap[gb186]? = some (.cells #[.int .i64 x187000_1,.int .i64 x187001_1,.int .i64 x187002_1] 26 (0,0))) ∧ (w'.heap[gb197]? = some (.cells #[.int .i64 x198000_1,.int .i64 x198001_1,.int .i64 x198002_1,.int .i64 x198003_1,.int .i64 x198004_1,.int .i64 x198005_1,.int .i64 x198006_1,.slice Ao73 x198007_1.length co73] 24 (0,0))) ∧ (w'.heap[s_.2]? = some (.cells #[.int .i64 0,.int .i64 0,.int .i64 0,.int .i64 0,.int .i64 0,.int .i64 0,.int .i64 0,.slice none 0 0] 24 (0,0))) ∧ (w.heap.size ≤ s_.2) ∧ (w.heap.size ≤ s_.2) ∧ (gb185 ≠ s_.2) ∧ (s_.2 ≠ gb185) ∧ (gb186 ≠ s_.2) ∧ (s_.2 ≠ gb186) ∧ (gb197 ≠ s_.2) ∧ (s_.2 ≠ gb197) ∧ (Below w.heap.size w w')) ?_ ?_
     rotate_left
     ·intro hCont
      refine two_ (i := 9) (j := 13) (Ni := some 92) (Nj := some 10) (qM 16 1023) (qM 16 8703) rfl rfl rfl rfl (two_of HT_.out Z133) Z180 Z180 (fun K hK => ?_) (fun K hK => ?_)
      ·skip
       refine goes_ Tryd.func13 Z133 rfl #[.agg #[.int .i64 x198000_1,.int .i64 x198001_1,.int .i64 x198002_1,.int .i64 x198003_1,.int .i64 x198004_1,.int .i64 x198005_1,.int .i64 x198006_1,.slice Ao73 x198007_1.length co73],.int .i64 t209,.string ((rdOf ByteArray.empty t201 x7_1).extract ((ji64) : Int).toNat (rdOf ByteArray.empty t201 x7_1).size)] Z135 rfl rfl Z78 ?_
       with_reducible refine (spec_l8Lay.calls kj25 x198000_1 x198001_1 x198002_1 x198003_1 x198004_1 x198005_1 x198006_1 (fun k_ => some k_ = (.slice Ao73 x198007_1.length co73 : Value).ownBlock) (.slice Ao73 x198007_1.length co73) x198007_1 t209 ((rdOf ByteArray.empty t201 x7_1).extract ((ji64) : Int).toNat (rdOf ByteArray.empty t201 x7_1).size) t213 t214 t215 t216 t217 t218 t219 t220 t223 w _ ?side1 ?side2 A67.out).mono ?_
       (case side1 => exact Z138)
       (case side2 => exact Z121)
       rintro e w75 ⟨v221,rfl,ho0,hb,hkp⟩
       have HS8_ := cell_kept (hHeld.2.2.2.2.2.2.2.2) hkp Z28
       refine ⟨_,rfl,?_⟩
       have n_ := jA (Kd.R_mono (ok' := fun k_ => True) (Kd.R_keptB ((Kd.R_apart' HO_5.out (Kd.R_typed HO_198007.out) Z180)) hkp (fun k_ hk_ hs_ => (hk_.2) hs_)) (fun k_ hk_ => trivial)) (jA (Kd.R_mono (ok' := fun k_ => True) (Kd.R_keptB ((Kd.R_apart' HO_6.out (Kd.R_typed HO_198007.out) Z180)) hkp (fun k_ hk_ hs_ => (hk_.2) hs_)) (fun k_ hk_ => trivial)) (jA (blk_kept Z188 hkp (fun hs_ => (fun e_ => (Kd.R_ne HO_198007.out BK185.out Z180) e_) hs_)) (jA (blk_kept Z169 hkp (fun hs_ => (fun e_ => (Kd.R_ne HO_198007.out BK186.out Z180) e_) hs_)) (jA (blk_kept Z170 hkp (fun hs_ => (fun e_ => (Kd.R_ne HO_198007.out BK197.out Z180) e_) hs_)) (jA (Kd.R_mono (ok' := fun k_ => True) ho0 (fun k_ hk_ => trivial)) (Aside0.mk (hb)))))))
       clear HO_5 HO_6 BK185 BK186 BK197 HB HO_198007
       obtain ⟨HO_5,HO_6,BK185,BK186,BK197,HO222,HB⟩ := n_
       (try clear hb)
       (try clear hkp)
       (try clear ho0)
       refine hK.out _ _ ⟨bc BK197 0,bc BK197 1,bc BK197 2,bc BK197 3,bc BK197 4,bc BK197 5,bc BK197 6,bc BK197 7,HS8_⟩ (fun hHeld => ?_)
       clear hK K
       refine rN (h := ?_)
       refine rP 10 82 16 2047 HT_ (h := ?_)
       refine rP 11 93 16 4095 HT_ (h := ?_)
       refine rP 12 94 16 8191 HT_ (h := ?_)
       refine rO 13 10 16 16383 HT_ (h := fun K hK => ?_)
       refine box_step ?hg (N := 10) ?hd (cs := #[.int .i64 0,.int .i64 0,.int .i64 0,.int .i64 0,.int .i64 0,.int .i64 0,.int .i64 0,.slice none 0 0]) (t := 24) ?hr ?_;(case hd => rfl);(case hg => rfl);(case hr => exact Z119)
       intro gb224 hg w76 hbox hb
       have HS8_ := (hb.cell (World.block_lt_of_cell? _ _ (hHeld.2.2.2.2.2.2.2.2))).trans (hHeld.2.2.2.2.2.2.2.2)
       have n_ := jA (Kd.R_below Z166 hb) (jA (Kd.R_below Z167 hb) (jA (Kd.R_below Z95 hb) (jA (blk_below (g := gb185) (o := .cells #[.int .i64 x186000_1,.int .i64 x186001_1,.int .i64 x186002_1,.int .i64 x186003_1,.int .i64 x186004_1,.int .i64 x186005_1,.int .i64 x186006_1,.slice none 0 0] 24 (0,0)) Z188 hb) (jA (blk_below (g := gb186) (o := .cells #[.int .i64 x187000_1,.int .i64 x187001_1,.int .i64 x187002_1] 26 (0,0)) Z169 hb) (jA (blk_below (g := gb197) (o := .cells #[.int .i64 x198000_1,.int .i64 x198001_1,.int .i64 x198002_1,.int .i64 x198003_1,.int .i64 x198004_1,.int .i64 x198005_1,.int .i64 x198006_1,.slice Ao73 x198007_1.length co73] 24 (0,0)) Z170 hb) (jA (below_step Z138 hb) (jA (hbox) (jA ((Z47 : w.heap.size ≤ gb224)) (jA ((Z47 : w.heap.size ≤ gb224)) (jA ((Z45 : gb185 ≠ gb224)) (jA ((Z46 : gb224 ≠ gb185)) (jA ((Z72 : gb186 ≠ gb224)) (jA ((Z73 : gb224 ≠ gb186)) (jA ((Z42 : gb197 ≠ gb224)) (Aside0.mk ((Z44 : gb224 ≠ gb197)))))))))))))))))
       clear HO_5 HO_6 HO222 BK185 BK186 BK197 HB
       obtain ⟨HO_5,HO_6,HO222,BK185,BK186,BK197,HB,BK224,GW224,GE224,NB185_224,NB224_185,NB186_224,NB224_186,NB197_224,NB224_197⟩ := n_
       clear hb hbox hg
       refine hK.out _ _ ⟨bc BK197 0,bc BK197 1,bc BK197 2,bc BK197 3,bc BK197 4,bc BK197 5,bc BK197 6,bc BK197 7,HS8_⟩ (fun hHeld => ?_)
       clear hK K
       refine rN (h := ?_)
       exact norm_ Z108 (hCont (v221,gb224) _ ⟨hHeld,Z95,Z166,Z167,Z188,Z169,Z170,Z125,GW224.out,GE224.out,NB185_224.out,NB224_185.out,NB186_224.out,NB224_186.out,NB197_224.out,NB224_197.out,Z48⟩)
      skip
      refine box_step ?hg (N := 10) ?hd (cs := #[.int .i64 0,.int .i64 0,.int .i64 0,.int .i64 0,.int .i64 0,.int .i64 0,.int .i64 0,.slice none 0 0]) (t := 24) ?hr ?_;(case hd => rfl);(case hg => rfl);(case hr => exact Z119)
      intro gb224 hg w75 hbox hb
      have HS8_ := (hb.cell (World.block_lt_of_cell? _ _ (hHeld.2.2.2.2.2.2.2.2))).trans (hHeld.2.2.2.2.2.2.2.2)
      have n_ := jA (Kd.R_below Z166 hb) (jA (Kd.R_below Z167 hb) (jA (Kd.R_below Z160 hb) (jA (blk_below (g := gb185) (o := .cells #[.int .i64 x186000_1,.int .i64 x186001_1,.int .i64 x186002_1,.int .i64 x186003_1,.int .i64 x186004_1,.int .i64 x186005_1,.int .i64 x186006_1,.slice none 0 0] 24 (0,0)) Z188 hb) (jA (blk_below (g := gb186) (o := .cells #[.int .i64 x187000_1,.int .i64 x187001_1,.int .i64 x187002_1] 26 (0,0)) Z169 hb) (jA (blk_below (g := gb197) (o := .cells #[.int .i64 x198000_1,.int .i64 x198001_1,.int .i64 x198002_1,.int .i64 x198003_1,.int .i64 x198004_1,.int .i64 x198005_1,.int .i64 x198006_1,.slice Ao73 x198007_1.length co73] 24 (0,0)) Z170 hb) (jA (below_step Z138 hb) (jA (hbox) (jA ((Z47 : w.heap.size ≤ gb224)) (jA ((Z47 : w.heap.size ≤ gb224)) (jA ((Z45 : gb185 ≠ gb224)) (jA ((Z46 : gb224 ≠ gb185)) (jA ((Z72 : gb186 ≠ gb224)) (jA ((Z73 : gb224 ≠ gb186)) (jA ((Z42 : gb197 ≠ gb224)) (Aside0.mk ((Z44 : gb224 ≠ gb197)))))))))))))))))
      clear HO_5 HO_6 HO_198007 BK185 BK186 BK197 HB
      obtain ⟨HO_5,HO_6,HO_198007,BK185,BK186,BK197,HB,BK224,GW224,GE224,NB185_224,NB224_185,NB186_224,NB224_186,NB197_224,NB224_197⟩ := n_
      clear hb hbox hg
      refine hK.out _ _ ⟨bc BK197 0,bc BK197 1,bc BK197 2,bc BK197 3,bc BK197 4,bc BK197 5,bc BK197 6,bc BK197 7,HS8_⟩ (fun hHeld => ?_)
      clear hK K
      refine rN (h := ?_)
      refine rO 9 92 16 9215 HT_ (h := fun K hK => ?_)
      refine goes_ Tryd.func13 Z133 rfl #[.agg #[.int .i64 x198000_1,.int .i64 x198001_1,.int .i64 x198002_1,.int .i64 x198003_1,.int .i64 x198004_1,.int .i64 x198005_1,.int .i64 x198006_1,.slice Ao73 x198007_1.length co73],.int .i64 t209,.string ((rdOf ByteArray.empty t201 x7_1).extract ((ji64) : Int).toNat (rdOf ByteArray.empty t201 x7_1).size)] Z135 rfl rfl Z78 ?_
      with_reducible refine (spec_l8Lay.calls kj25 x198000_1 x198001_1 x198002_1 x198003_1 x198004_1 x198005_1 x198006_1 (fun k_ => some k_ = (.slice Ao73 x198007_1.length co73 : Value).ownBlock) (.slice Ao73 x198007_1.length co73) x198007_1 t209 ((rdOf ByteArray.empty t201 x7_1).extract ((ji64) : Int).toNat (rdOf ByteArray.empty t201 x7_1).size) t213 t214 t215 t216 t217 t218 t219 t220 t223 w _ ?side1 ?side2 A67.out).mono ?_
      (case side1 => exact Z48)
      (case side2 => exact Z121)
      rintro e w76 ⟨v221,rfl,ho0,hb,hkp⟩
      have HS8_ := cell_kept (hHeld.2.2.2.2.2.2.2.2) hkp Z28
      refine ⟨_,rfl,?_⟩
      have n_ := jA (Kd.R_mono (ok' := fun k_ => True) (Kd.R_keptB ((Kd.R_apart' HO_5.out (Kd.R_typed HO_198007.out) Z180)) hkp (fun k_ hk_ hs_ => (hk_.2) hs_)) (fun k_ hk_ => trivial)) (jA (Kd.R_mono (ok' := fun k_ => True) (Kd.R_keptB ((Kd.R_apart' HO_6.out (Kd.R_typed HO_198007.out) Z180)) hkp (fun k_ hk_ hs_ => (hk_.2) hs_)) (fun k_ hk_ => trivial)) (jA (blk_kept Z188 hkp (fun hs_ => (fun e_ => (Kd.R_ne HO_198007.out BK185.out Z180) e_) hs_)) (jA (blk_kept Z169 hkp (fun hs_ => (fun e_ => (Kd.R_ne HO_198007.out BK186.out Z180) e_) hs_)) (jA (blk_kept Z170 hkp (fun hs_ => (fun e_ => (Kd.R_ne HO_198007.out BK197.out Z180) e_) hs_)) (jA (blk_kept Z125 hkp (fun hs_ => (fun e_ => (Kd.R_ne HO_198007.out BK224.out Z180) e_) hs_)) (jA (Kd.R_mono (ok' := fun k_ => True) ho0 (fun k_ hk_ => trivial)) (Aside0.mk (hb))))))))
      clear HO_5 HO_6 BK185 BK186 BK197 BK224 HB HO_198007
      obtain ⟨HO_5,HO_6,BK185,BK186,BK197,BK224,HO222,HB⟩ := n_
      (try clear hb)
      (try clear hkp)
      (try clear ho0)
      refine hK.out _ _ ⟨bc BK197 0,bc BK197 1,bc BK197 2,bc BK197 3,bc BK197 4,bc BK197 5,bc BK197 6,bc BK197 7,HS8_⟩ (fun hHeld => ?_)
      clear hK K
      refine rN (h := ?_)
      refine rP 10 82 16 10239 HT_ (h := ?_)
      refine rP 11 93 16 12287 HT_ (h := ?_)
      refine rP 12 94 16 16383 HT_ (h := ?_)
      exact norm_ Z108 (hCont (v221,gb224) _ ⟨hHeld,Z95,Z166,Z167,Z188,Z169,Z170,Z125,GW224.out,GE224.out,NB185_224.out,NB224_185.out,NB186_224.out,NB224_186.out,NB197_224.out,NB224_197.out,Z48⟩)
     rintro ⟨v221,gb224⟩ w77 ⟨hS_,h0_,h1_,h2_,h3_,h4_,h5_,h6_,h7_,h8_,h9_,h10_,h11_,h12_,h13_,h14_,h15_⟩
     have n0_ : Aside0 (Kd.R (Kd.int .i64) 3 w77 w.heap.size (fun _ => True) v221 t220) := ⟨h0_⟩
     have n1_ : Aside0 (Kd.R Kd.bool 4 w77 w.heap.size (fun _ => True) (.slice (some ⟨go63,0,none⟩) x5_1.length co70) y211) := ⟨h1_⟩
     have n2_ : Aside0 (Kd.R Kd.string 9 w77 w.heap.size (fun _ => True) (.slice (some ad204) t201.length co27) t201) := ⟨h2_⟩
     have n3_ : Aside0 (w77.heap[gb185]? = some (.cells #[.int .i64 x186000_1,.int .i64 x186001_1,.int .i64 x186002_1,.int .i64 x186003_1,.int .i64 x186004_1,.int .i64 x186005_1,.int .i64 x186006_1,.slice none 0 0] 24 (0,0))) := ⟨h3_⟩
     have n4_ : Aside0 (w77.heap[gb186]? = some (.cells #[.int .i64 x187000_1,.int .i64 x187001_1,.int .i64 x187002_1] 26 (0,0))) := ⟨h4_⟩
     have n5_ : Aside0 (w77.heap[gb197]? = some (.cells #[.int .i64 x198000_1,.int .i64 x198001_1,.int .i64 x198002_1,.int .i64 x198003_1,.int .i64 x198004_1,.int .i64 x198005_1,.int .i64 x198006_1,.slice Ao73 x198007_1.length co73] 24 (0,0))) := ⟨h5_⟩
     have n6_ : Aside0 (w77.heap[gb224]? = some (.cells #[.int .i64 0,.int .i64 0,.int .i64 0,.int .i64 0,.int .i64 0,.int .i64 0,.int .i64 0,.slice none 0 0] 24 (0,0))) := ⟨h6_⟩
     have n7_ : Aside0 (w.heap.size ≤ gb224) := ⟨h7_⟩
     have n8_ : Aside0 (w.heap.size ≤ gb224) := ⟨h8_⟩
     have n9_ : Aside0 (gb185 ≠ gb224) := ⟨h9_⟩
     have n10_ : Aside0 (gb224 ≠ gb185) := ⟨h10_⟩
     have n11_ : Aside0 (gb186 ≠ gb224) := ⟨h11_⟩
     have n12_ : Aside0 (gb224 ≠ gb186) := ⟨h12_⟩
     have n13_ : Aside0 (gb197 ≠ gb224) := ⟨h13_⟩
     have n14_ : Aside0 (gb224 ≠ gb197) := ⟨h14_⟩
     have n15_ : Aside0 (Below w.heap.size w w77) := ⟨h15_⟩
     clear HO_5
     clear HO_6
     clear HO_198007
     clear BK185
     clear BK186
     clear BK197
     clear HB
     clear h0_ h1_ h2_ h3_ h4_ h5_ h6_ h7_ h8_ h9_ h10_ h11_ h12_ h13_ h14_ h15_
     have HO222 := n0_
     have HO_5 := n1_
     have HO_6 := n2_
     have BK185 := n3_
     have BK186 := n4_
     have BK197 := n5_
     have BK224 := n6_
     have GW224 := n7_
     have GE224 := n8_
     have NB185_224 := n9_
     have NB224_185 := n10_
     have NB186_224 := n11_
     have NB224_186 := n12_
     have NB197_224 := n13_
     have NB224_197 := n14_
     have HB := n15_
     clear n0_ n1_ n2_ n3_ n4_ n5_ n6_ n7_ n8_ n9_ n10_ n11_ n12_ n13_ n14_ n15_
     have hHeld : w77.cell? ⟨gb197,0,none⟩ = some (.int .i64 x198000_1) ∧ w77.cell? ⟨gb197,1,none⟩ = some (.int .i64 x198001_1) ∧ w77.cell? ⟨gb197,2,none⟩ = some (.int .i64 x198002_1) ∧ w77.cell? ⟨gb197,3,none⟩ = some (.int .i64 x198003_1) ∧ w77.cell? ⟨gb197,4,none⟩ = some (.int .i64 x198004_1) ∧ w77.cell? ⟨gb197,5,none⟩ = some (.int .i64 x198005_1) ∧ w77.cell? ⟨gb197,6,none⟩ = some (.int .i64 x198006_1) ∧ w77.cell? ⟨gb197,7,none⟩ = some (.slice Ao73 x198007_1.length co73) ∧ w77.cell? (ad204.add (x7_1).toNat) = some (.string (rdOf ByteArray.empty t201 x7_1)) := hS_
     obtain ⟨Ao85,co85,eo85⟩ := Kd.R_slice HO222.out
     (first | subst eo85 | (injection eo85 with f1_ f2_ f3_;have f4_ := f1_.symm;have f5_ := f3_.symm;clear f1_ f2_ f3_;subst f4_;subst f5_))
     refine norm_ (a' := ?_) ?_ ?_
     rotate_left
     ·simp only [putAll,Act.put,List.setIfInBounds_toArray,List.set_cons_zero,List.set_cons_succ]
      rfl
     refine one_ (i := 14) (N := none) (qM 16 32767) rfl rfl (one_of HT_.out Z133) Z180 (fun K hK => ?_)
     have hs78 : w77.cell? ⟨gb224,0,none⟩ = some (.int .i64 0) := bc BK224 0
     have hfs78 := blk_frozen BK224.out 0
     have hns78_0 := NB185_224.out
     have hns78_1 := NB186_224.out
     have hns78_2 := NB197_224.out
     have hms78_0 := NB224_185.out
     have hms78_1 := NB224_186.out
     have hms78_2 := NB224_197.out
     have hs79 : w77.cell? ⟨gb224,1,none⟩ = some (.int .i64 0) := bc BK224 1
     have hfs79 := blk_frozen BK224.out 1
     have hns79_0 := NB185_224.out
     have hns79_1 := NB186_224.out
     have hns79_2 := NB197_224.out
     have hms79_0 := NB224_185.out
     have hms79_1 := NB224_186.out
     have hms79_2 := NB224_197.out
     have hs80 : w77.cell? ⟨gb224,2,none⟩ = some (.int .i64 0) := bc BK224 2
     have hfs80 := blk_frozen BK224.out 2
     have hns80_0 := NB185_224.out
     have hns80_1 := NB186_224.out
     have hns80_2 := NB197_224.out
     have hms80_0 := NB224_185.out
     have hms80_1 := NB224_186.out
     have hms80_2 := NB224_197.out
     have hs81 : w77.cell? ⟨gb224,3,none⟩ = some (.int .i64 0) := bc BK224 3
     have hfs81 := blk_frozen BK224.out 3
     have hns81_0 := NB185_224.out
     have hns81_1 := NB186_224.out
     have hns81_2 := NB197_224.out
     have hms81_0 := NB224_185.out
     have hms81_1 := NB224_186.out
     have hms81_2 := NB224_197.out
     have hs82 : w77.cell? ⟨gb224,4,none⟩ = some (.int .i64 0) := bc BK224 4
     have hfs82 := blk_frozen BK224.out 4
     have hns82_0 := NB185_224.out
     have hns82_1 := NB186_224.out
     have hns82_2 := NB197_224.out
     have hms82_0 := NB224_185.out
     have hms82_1 := NB224_186.out
     have hms82_2 := NB224_197.out
     have hs83 : w77.cell? ⟨gb224,5,none⟩ = some (.int .i64 0) := bc BK224 5
     have hfs83 := blk_frozen BK224.out 5
     have hns83_0 := NB185_224.out
     have hns83_1 := NB186_224.out
     have hns83_2 := NB197_224.out
     have hms83_0 := NB224_185.out
     have hms83_1 := NB224_186.out
     have hms83_2 := NB224_197.out
     have hs84 : w77.cell? ⟨gb224,6,none⟩ = some (.int .i64 0) := bc BK224 6
     have hfs84 := blk_frozen BK224.out 6
     have hns84_0 := NB185_224.out
     have hns84_1 := NB186_224.out
     have hns84_2 := NB197_224.out
     have hms84_0 := NB224_185.out
     have hms84_1 := NB224_186.out
     have hms84_2 := NB224_197.out
     have hs86 : w77.cell? ⟨gb224,7,none⟩ = some (.slice none 0 0) := bc BK224 7
     have hfs86 := blk_frozen BK224.out 7
     have hns86_0 := NB185_224.out
     have hns86_1 := NB186_224.out
     have hns86_2 := NB197_224.out
     have hms86_0 := NB224_185.out
     have hms86_1 := NB224_186.out
     have hms86_2 := NB224_197.out
     refine skip_ (w1 := ?_) Z135 rfl ?_ ?_
     rotate_left
     ·go_simp
      rfl
     refine hK.out _ _ ⟨((cell_far (p := ⟨gb224,_,none⟩) NB197_224.out _).trans (((cell_far (p := ⟨gb224,_,none⟩) NB197_224.out _).trans (((cell_far (p := ⟨gb224,_,none⟩) NB197_224.out _).trans (((cell_far (p := ⟨gb224,_,none⟩) NB197_224.out _).trans (((cell_far (p := ⟨gb224,_,none⟩) NB197_224.out _).trans (((cell_far (p := ⟨gb224,_,none⟩) NB197_224.out _).trans (((cell_far (p := ⟨gb224,_,none⟩) NB197_224.out _).trans (((cell_far (p := ⟨gb224,_,none⟩) NB197_224.out _).trans (hHeld.1)))))))))))))))),((cell_far (p := ⟨gb224,_,none⟩) NB197_224.out _).trans (((cell_far (p := ⟨gb224,_,none⟩) NB197_224.out _).trans (((cell_far (p := ⟨gb224,_,none⟩) NB197_224.out _).trans (((cell_far (p := ⟨gb224,_,none⟩) NB197_224.out _).trans (((cell_far (p := ⟨gb224,_,none⟩) NB197_224.out _).trans (((cell_far (p := ⟨gb224,_,none⟩) NB197_224.out _).trans (((cell_far (p := ⟨gb224,_,none⟩) NB197_224.out _).trans (((cell_far (p := ⟨gb224,_,none⟩) NB197_224.out _).trans (hHeld.2.1)))))))))))))))),((cell_far (p := ⟨gb224,_,none⟩) NB197_224.out _).trans (((cell_far (p := ⟨gb224,_,none⟩) NB197_224.out _).trans (((cell_far (p := ⟨gb224,_,none⟩) NB197_224.out _).trans (((cell_far (p := ⟨gb224,_,none⟩) NB197_224.out _).trans (((cell_far (p := ⟨gb224,_,none⟩) NB197_224.out _).trans (((cell_far (p := ⟨gb224,_,none⟩) NB197_224.out _).trans (((cell_far (p := ⟨gb224,_,none⟩) NB197_224.out _).trans (((cell_far (p := ⟨gb224,_,none⟩) NB197_224.out _).trans (hHeld.2.2.1)))))))))))))))),((cell_far (p := ⟨gb224,_,none⟩) NB197_224.out _).trans (((cell_far (p := ⟨gb224,_,none⟩) NB197_224.out _).trans (((cell_far (p := ⟨gb224,_,none⟩) NB197_224.out _).trans (((cell_far (p := ⟨gb224,_,none⟩) NB197_224.out _).trans (((cell_far (p := ⟨gb224,_,none⟩) NB197_224.out _).trans (((cell_far (p := ⟨gb224,_,none⟩) NB197_224.out _).trans (((cell_far (p := ⟨gb224,_,none⟩) NB197_224.out _).trans (((cell_far (p := ⟨gb224,_,none⟩) NB197_224.out _).trans (hHeld.2.2.2.1)))))))))))))))),((cell_far (p := ⟨gb224,_,none⟩) NB197_224.out _).trans (((cell_far (p := ⟨gb224,_,none⟩) NB197_224.out _).trans (((cell_far (p := ⟨gb224,_,none⟩) NB197_224.out _).trans (((cell_far (p := ⟨gb224,_,none⟩) NB197_224.out _).trans (((cell_far (p := ⟨gb224,_,none⟩) NB197_224.out _).trans (((cell_far (p := ⟨gb224,_,none⟩) NB197_224.out _).trans (((cell_far (p := ⟨gb224,_,none⟩) NB197_224.out _).trans (((cell_far (p := ⟨gb224,_,none⟩) NB197_224.out _).trans (hHeld.2.2.2.2.1)))))))))))))))),((cell_far (p := ⟨gb224,_,none⟩) NB197_224.out _).trans (((cell_far (p := ⟨gb224,_,none⟩) NB197_224.out _).trans (((cell_far (p := ⟨gb224,_,none⟩) NB197_224.out _).trans (((cell_far (p := ⟨gb224,_,none⟩) NB197_224.out _).trans (((cell_far (p := ⟨gb224,_,none⟩) NB197_224.out _).trans (((cell_far (p := ⟨gb224,_,none⟩) NB197_224.out _).trans (((cell_far (p := ⟨gb224,_,none⟩) NB197_224.out _).trans (((cell_far (p := ⟨gb224,_,none⟩) NB197_224.out _).trans (hHeld.2.2.2.2.2.1)))))))))))))))),((cell_far (p := ⟨gb224,_,none⟩) NB197_224.out _).trans (((cell_far (p := ⟨gb224,_,none⟩) NB197_224.out _).trans (((cell_far (p := ⟨gb224,_,none⟩) NB197_224.out _).trans (((cell_far (p := ⟨gb224,_,none⟩) NB197_224.out _).trans (((cell_far (p := ⟨gb224,_,none⟩) NB197_224.out _).trans (((cell_far (p := ⟨gb224,_,none⟩) NB197_224.out _).trans (((cell_far (p := ⟨gb224,_,none⟩) NB197_224.out _).trans (((cell_far (p := ⟨gb224,_,none⟩) NB197_224.out _).trans (hHeld.2.2.2.2.2.2.1)))))))))))))))),((cell_far (p := ⟨gb224,_,none⟩) NB197_224.out _).trans (((cell_far (p := ⟨gb224,_,none⟩) NB197_224.out _).trans (((cell_far (p := ⟨gb224,_,none⟩) NB197_224.out _).trans (((cell_far (p := ⟨gb224,_,none⟩) NB197_224.out _).trans (((cell_far (p := ⟨gb224,_,none⟩) NB197_224.out _).trans (((cell_far (p := ⟨gb224,_,none⟩) NB197_224.out _).trans (((cell_far (p := ⟨gb224,_,none⟩) NB197_224.out _).trans (((cell_far (p := ⟨gb224,_,none⟩) NB197_224.out _).trans (hHeld.2.2.2.2.2.2.2.1)))))))))))))))),((cell_far (p := ⟨gb224,_,none⟩) Z34 _).trans (((cell_far (p := ⟨gb224,_,none⟩) Z34 _).trans (((cell_far (p := ⟨gb224,_,none⟩) Z34 _).trans (((cell_far (p := ⟨gb224,_,none⟩) Z34 _).trans (((cell_far (p := ⟨gb224,_,none⟩) Z34 _).trans (((cell_far (p := ⟨gb224,_,none⟩) Z34 _).trans (((cell_far (p := ⟨gb224,_,none⟩) Z34 _).trans (((cell_far (p := ⟨gb224,_,none⟩) Z34 _).trans (hHeld.2.2.2.2.2.2.2.2))))))))))))))))⟩ (fun hHeld => ?_)
     clear hK K
     refine rP 15 11 16 65535 HT_ (h := ?_)
     refine done_ (done_of HT_.out Z133) ?_
     have hnb87 := NB224_185.out
     have hnc87 := NB185_224.out
     have hnb88 := NB224_186.out
     have hnc88 := NB186_224.out
     have hnb89 := NB224_197.out
     have hnc89 := NB197_224.out
     obtain ⟨hcz90_0,hcz90_1,hcz90_2,hcz90_3,hcz90_4,hcz90_5,hcz90_6,hcz90_7,hfz90_0,hfz90_1,hfz90_2,hfz90_3,hfz90_4,hfz90_5,hfz90_6,hfz90_7⟩ := cells8 BK224.out
     have hnb91 := NB197_185.out
     have hnc91 := NB185_197.out
     have hnb92 := NB197_186.out
     have hnc92 := NB186_197.out
     obtain ⟨hcz93_0,hcz93_1,hcz93_2,hcz93_3,hcz93_4,hcz93_5,hcz93_6,hcz93_7,hfz93_0,hfz93_1,hfz93_2,hfz93_3,hfz93_4,hfz93_5,hfz93_6,hfz93_7⟩ := cells8 BK197.out
     try go_wp2
     go_roundg kj25
     case measure => have := HK1.out;have := HJ25.out;omega
     case rel => exact ⟨(y211),(wrap64 (x7_1 + 1)),(x186000_1),(x186001_1),(x186002_1),(x186003_1),(x186004_1),(x186005_1),(x186006_1),(x187000_1),(x187001_1),(x187002_1),(t213),(t214),(t215),(t216),(t217),(t218),(t219),(t220),(.slice Ao85 t220.length co85),Z118,H',⟨by have := HK1.out;have := HJ25.out;omega⟩,⟨by (with_reducible repeat (first | apply Kd.R_alloc | apply Kd.R_drewN | apply Kd.R_drew));exact Kd.R_mono (Kd.R_far (p := ⟨gb197,7,none⟩) (Kd.R_far (p := ⟨gb197,6,none⟩) (Kd.R_far (p := ⟨gb197,5,none⟩) (Kd.R_far (p := ⟨gb197,4,none⟩) (Kd.R_far (p := ⟨gb197,3,none⟩) (Kd.R_far (p := ⟨gb197,2,none⟩) (Kd.R_far (p := ⟨gb197,1,none⟩) (Kd.R_far (p := ⟨gb197,0,none⟩) (Kd.R_far (p := ⟨gb224,7,none⟩) (Kd.R_far (p := ⟨gb224,6,none⟩) (Kd.R_far (p := ⟨gb224,5,none⟩) (Kd.R_far (p := ⟨gb224,4,none⟩) (Kd.R_far (p := ⟨gb224,3,none⟩) (Kd.R_far (p := ⟨gb224,2,none⟩) (Kd.R_far (p := ⟨gb224,1,none⟩) (Kd.R_far (p := ⟨gb224,0,none⟩) (Kd.R_types (Kd.R_types HO_5.out BK224.out Z180) BK197.out Z180) (fun _ hk => hk.1.2) (.int .i64 t213)) (fun _ hk => hk.1.2) (.int .i64 t214)) (fun _ hk => hk.1.2) (.int .i64 t215)) (fun _ hk => hk.1.2) (.int .i64 t216)) (fun _ hk => hk.1.2) (.int .i64 t217)) (fun _ hk => hk.1.2) (.int .i64 t218)) (fun _ hk => hk.1.2) (.int .i64 t219)) (fun _ hk => hk.1.2) (.slice Ao85 t220.length co85)) (fun _ hk => hk.2) (.int .i64 t213)) (fun _ hk => hk.2) (.int .i64 t214)) (fun _ hk => hk.2) (.int .i64 t215)) (fun _ hk => hk.2) (.int .i64 t216)) (fun _ hk => hk.2) (.int .i64 t217)) (fun _ hk => hk.2) (.int .i64 t218)) (fun _ hk => hk.2) (.int .i64 t219)) (fun _ hk => hk.2) (.slice Ao85 t220.length co85)) (fun _ hk => trivial)⟩,⟨by (with_reducible repeat (first | apply Kd.R_alloc | apply Kd.R_drewN | apply Kd.R_drew));exact Kd.R_mono (Kd.R_far (p := ⟨gb197,7,none⟩) (Kd.R_far (p := ⟨gb197,6,none⟩) (Kd.R_far (p := ⟨gb197,5,none⟩) (Kd.R_far (p := ⟨gb197,4,none⟩) (Kd.R_far (p := ⟨gb197,3,none⟩) (Kd.R_far (p := ⟨gb197,2,none⟩) (Kd.R_far (p := ⟨gb197,1,none⟩) (Kd.R_far (p := ⟨gb197,0,none⟩) (Kd.R_far (p := ⟨gb224,7,none⟩) (Kd.R_far (p := ⟨gb224,6,none⟩) (Kd.R_far (p := ⟨gb224,5,none⟩) (Kd.R_far (p := ⟨gb224,4,none⟩) (Kd.R_far (p := ⟨gb224,3,none⟩) (Kd.R_far (p := ⟨gb224,2,none⟩) (Kd.R_far (p := ⟨gb224,1,none⟩) (Kd.R_far (p := ⟨gb224,0,none⟩) (Kd.R_types (Kd.R_types HO_6.out BK224.out Z180) BK197.out Z180) (fun _ hk => hk.1.2) (.int .i64 t213)) (fun _ hk => hk.1.2) (.int .i64 t214)) (fun _ hk => hk.1.2) (.int .i64 t215)) (fun _ hk => hk.1.2) (.int .i64 t216)) (fun _ hk => hk.1.2) (.int .i64 t217)) (fun _ hk => hk.1.2) (.int .i64 t218)) (fun _ hk => hk.1.2) (.int .i64 t219)) (fun _ hk => hk.1.2) (.slice Ao85 t220.length co85)) (fun _ hk => hk.2) (.int .i64 t213)) (fun _ hk => hk.2) (.int .i64 t214)) (fun _ hk => hk.2) (.int .i64 t215)) (fun _ hk => hk.2) (.int .i64 t216)) (fun _ hk => hk.2) (.int .i64 t217)) (fun _ hk => hk.2) (.int .i64 t218)) (fun _ hk => hk.2) (.int .i64 t219)) (fun _ hk => hk.2) (.slice Ao85 t220.length co85)) (fun _ hk => trivial)⟩,⟨by (with_reducible repeat (first | apply Kd.R_alloc | apply Kd.R_drewN | apply Kd.R_drew));exact Kd.R_mono (Kd.R_far (p := ⟨gb197,7,none⟩) (Kd.R_far (p := ⟨gb197,6,none⟩) (Kd.R_far (p := ⟨gb197,5,none⟩) (Kd.R_far (p := ⟨gb197,4,none⟩) (Kd.R_far (p := ⟨gb197,3,none⟩) (Kd.R_far (p := ⟨gb197,2,none⟩) (Kd.R_far (p := ⟨gb197,1,none⟩) (Kd.R_far (p := ⟨gb197,0,none⟩) (Kd.R_far (p := ⟨gb224,7,none⟩) (Kd.R_far (p := ⟨gb224,6,none⟩) (Kd.R_far (p := ⟨gb224,5,none⟩) (Kd.R_far (p := ⟨gb224,4,none⟩) (Kd.R_far (p := ⟨gb224,3,none⟩) (Kd.R_far (p := ⟨gb224,2,none⟩) (Kd.R_far (p := ⟨gb224,1,none⟩) (Kd.R_far (p := ⟨gb224,0,none⟩) (Kd.R_types (Kd.R_types HO222.out BK224.out Z180) BK197.out Z180) (fun _ hk => hk.1.2) (.int .i64 t213)) (fun _ hk => hk.1.2) (.int .i64 t214)) (fun _ hk => hk.1.2) (.int .i64 t215)) (fun _ hk => hk.1.2) (.int .i64 t216)) (fun _ hk => hk.1.2) (.int .i64 t217)) (fun _ hk => hk.1.2) (.int .i64 t218)) (fun _ hk => hk.1.2) (.int .i64 t219)) (fun _ hk => hk.1.2) (.slice Ao85 t220.length co85)) (fun _ hk => hk.2) (.int .i64 t213)) (fun _ hk => hk.2) (.int .i64 t214)) (fun _ hk => hk.2) (.int .i64 t215)) (fun _ hk => hk.2) (.int .i64 t216)) (fun _ hk => hk.2) (.int .i64 t217)) (fun _ hk => hk.2) (.int .i64 t218)) (fun _ hk => hk.2) (.int .i64 t219)) (fun _ hk => hk.2) (.slice Ao85 t220.length co85)) (fun _ hk => trivial)⟩,⟨by refine bP ?_;refine blk_far ?_ NB185_197.out _;refine bP ?_;refine blk_far ?_ NB185_197.out _;refine bP ?_;refine blk_far ?_ NB185_197.out _;refine bP ?_;refine blk_far ?_ NB185_197.out _;refine bP ?_;refine blk_far ?_ NB185_197.out _;refine bP ?_;refine blk_far ?_ NB185_197.out _;refine bP ?_;refine blk_far ?_ NB185_197.out _;refine bP ?_;refine blk_far ?_ NB185_197.out _;refine bP ?_;refine blk_far ?_ NB185_224.out _;refine bP ?_;refine blk_far ?_ NB185_224.out _;refine bP ?_;refine blk_far ?_ NB185_224.out _;refine bP ?_;refine blk_far ?_ NB185_224.out _;refine bP ?_;refine blk_far ?_ NB185_224.out _;refine bP ?_;refine blk_far ?_ NB185_224.out _;refine bP ?_;refine blk_far ?_ NB185_224.out _;refine bP ?_;refine blk_far ?_ NB185_224.out _;refine bP ?_;exact BK185.out⟩,⟨by refine bP ?_;refine blk_far ?_ NB186_197.out _;refine bP ?_;refine blk_far ?_ NB186_197.out _;refine bP ?_;refine blk_far ?_ NB186_197.out _;refine bP ?_;refine blk_far ?_ NB186_197.out _;refine bP ?_;refine blk_far ?_ NB186_197.out _;refine bP ?_;refine blk_far ?_ NB186_197.out _;refine bP ?_;refine blk_far ?_ NB186_197.out _;refine bP ?_;refine blk_far ?_ NB186_197.out _;refine bP ?_;refine blk_far ?_ NB186_224.out _;refine bP ?_;refine blk_far ?_ NB186_224.out _;refine bP ?_;refine blk_far ?_ NB186_224.out _;refine bP ?_;refine blk_far ?_ NB186_224.out _;refine bP ?_;refine blk_far ?_ NB186_224.out _;refine bP ?_;refine blk_far ?_ NB186_224.out _;refine bP ?_;refine blk_far ?_ NB186_224.out _;refine bP ?_;refine blk_far ?_ NB186_224.out _;refine bP ?_;exact BK186.out⟩,⟨by refine bP ?_;refine blk_put (cs := #[.int .i64 t213,.int .i64 t214,.int .i64 t215,.int .i64 t216,.int .i64 t217,.int .i64 t218,.int .i64 t219,.slice Ao73 x198007_1.length co73]) ?_ 7 _ rfl;refine bP ?_;refine blk_put (cs := #[.int .i64 t213,.int .i64 t214,.int .i64 t215,.int .i64 t216,.int .i64 t217,.int .i64 t218,.int .i64 x198006_1,.slice Ao73 x198007_1.length co73]) ?_ 6 _ rfl;refine bP ?_;refine blk_put (cs := #[.int .i64 t213,.int .i64 t214,.int .i64 t215,.int .i64 t216,.int .i64 t217,.int .i64 x198005_1,.int .i64 x198006_1,.slice Ao73 x198007_1.length co73]) ?_ 5 _ rfl;refine bP ?_;refine blk_put (cs := #[.int .i64 t213,.int .i64 t214,.int .i64 t215,.int .i64 t216,.int .i64 x198004_1,.int .i64 x198005_1,.int .i64 x198006_1,.slice Ao73 x198007_1.length co73]) ?_ 4 _ rfl;refine bP ?_;refine blk_put (cs := #[.int .i64 t213,.int .i64 t214,.int .i64 t215,.int .i64 x198003_1,.int .i64 x198004_1,.int .i64 x198005_1,.int .i64 x198006_1,.slice Ao73 x198007_1.length co73]) ?_ 3 _ rfl;refine bP ?_;refine blk_put (cs := #[.int .i64 t213,.int .i64 t214,.int .i64 x198002_1,.int .i64 x198003_1,.int .i64 x198004_1,.int .i64 x198005_1,.int .i64 x198006_1,.slice Ao73 x198007_1.length co73]) ?_ 2 _ rfl;refine bP ?_;refine blk_put (cs := #[.int .i64 t213,.int .i64 x198001_1,.int .i64 x198002_1,.int .i64 x198003_1,.int .i64 x198004_1,.int .i64 x198005_1,.int .i64 x198006_1,.slice Ao73 x198007_1.length co73]) ?_ 1 _ rfl;refine bP ?_;refine blk_put (cs := #[.int .i64 x198000_1,.int .i64 x198001_1,.int .i64 x198002_1,.int .i64 x198003_1,.int .i64 x198004_1,.int .i64 x198005_1,.int .i64 x198006_1,.slice Ao73 x198007_1.length co73]) ?_ 0 _ rfl;refine bP ?_;refine blk_far ?_ NB197_224.out _;refine bP ?_;refine blk_far ?_ NB197_224.out _;refine bP ?_;refine blk_far ?_ NB197_224.out _;refine bP ?_;refine blk_far ?_ NB197_224.out _;refine bP ?_;refine blk_far ?_ NB197_224.out _;refine bP ?_;refine blk_far ?_ NB197_224.out _;refine bP ?_;refine blk_far ?_ NB197_224.out _;refine bP ?_;refine blk_far ?_ NB197_224.out _;refine bP ?_;exact BK197.out⟩,⟨Z48⟩⟩

end Go.Proofs.YtepnbcdbagjmbacDoor.QFnExactReadConfig
