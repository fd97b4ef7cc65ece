/- The machine side of FnConfig: what each Go function that it reaches comes to. Conditions: none. -/
import Derived.Test.YtepnbcdbagjmbaeGreatDoorQFnConfigx0
import Derived.Test.YtepnbcdbagjmbaeGreatDoorQFnConfigx13
import Derived.Test.YtepnbcdbagjmbaeGreatDoorQFnConfigx16
namespace Go.Proofs.YtepnbcdbagjmbaeGreatDoor.QFnConfig
open Go.RowKit Go.Proofs.YtepnbcdbagjmbaeGreatDoorW.PrintWords Go.Proofs.YtepnbcdbagjmbaeGreatDoorW.PrintLast Go.Proofs.YtepnbcdbagjmbaeGreatDoorW.PrintMore
attribute [local go_sem] max2_int min2_int max_two min_two max_three min_three max_four min_four   -- for this text's walks alone
set_option linter.unusedVariables false
set_option linter.unusedSimpArgs false

/-! ### spec_ReadConfig: function 11 -/
mutual
def spec_ReadConfig.l0 : Nat → List Bool → List ByteArray → Int → Int → Int → Int → Int → Int → Int → Int → List Int → Option (Int × Int × Int × Int × Int × Int × Int × List Int × Int × Int × Int)
 | 0,_,_,_,_,_,_,_,_,_,_,_ => none
 | k + 1,x5,x6,x7,x586000,x586001,x586002,x586003,x586004,x586005,x586006,x586007 => if x7 < (x6.length : Int) then (if 0 ≤ x7 then (if (rdOf ByteArray.empty x6 x7).toList = ([] : List UInt8) then (spec_ReadConfig.l0 k x5 x6 (wrap64 (x7 + 1)) x586000 x586001 x586002 x586003 x586004 x586005 x586006 x586007) else (spec_ReadConfig.l1 k x5 x6 x7 0 x586000 x586001 x586002 x586003 x586004 x586005 x586006 x586007)) else (none)) else (some (x586000,x586001,x586002,x586003,x586004,x586005,x586006,x586007,0,0,0))
def spec_ReadConfig.j2 : Nat → List Bool → List ByteArray → Int → Int → Int → Int → Int → Int → Int → Int → Int → List Int → Option (Int × Int × Int × Int × Int × Int × Int × List Int × Int × Int × Int)
 | 0,_,_,_,_,_,_,_,_,_,_,_,_ => none
 | k + 1,x5,x6,x7,x8,x586000,x586001,x586002,x586003,x586004,x586005,x586006,x586007 => if 0 ≤ x7 then (if x7 < (x6.length : Int) then (if x8 = ((rdOf ByteArray.empty x6 x7).size : Int) then (some (0,0,0,0,0,0,0,([] : List Int),10,x7,0)) else (if 0 ≤ x8 then (if x8 ≤ ((rdOf ByteArray.empty x6 x7).size : Int) then ((spec_l8Word.f k ((rdOf ByteArray.empty x6 x7).extract 0 (x8 : Int).toNat)).bind fun t597 => (if t597 < 0 then (some (0,0,0,0,0,0,0,([] : List Int),11,x7,0)) else (if 0 ≤ t597 then (if t597 < (x5.length : Int) then (if rdOf false x5 t597 = true then (some (0,0,0,0,0,0,0,([] : List Int),6,x7,0)) else (if 0 ≤ (wrap64 (x8 + 1)) then (if (wrap64 (x8 + 1)) ≤ ((rdOf ByteArray.empty x6 x7).size : Int) then ((spec_l8Lay.f k x586000 x586001 x586002 x586003 x586004 x586005 x586006 x586007 t597 ((rdOf ByteArray.empty x6 x7).extract ((wrap64 (x8 + 1)) : Int).toNat (rdOf ByteArray.empty x6 x7).size)).bind fun bt601 => (if bt601.2.2.2.2.2.2.2.2 = 0 then (spec_ReadConfig.l0 k (x5.set (t597 : Int).toNat true) x6 (wrap64 (x7 + 1)) bt601.1 bt601.2.1 bt601.2.2.1 bt601.2.2.2.1 bt601.2.2.2.2.1 bt601.2.2.2.2.2.1 bt601.2.2.2.2.2.2.1 bt601.2.2.2.2.2.2.2.1) else (some (0,0,0,0,0,0,0,([] : List Int),bt601.2.2.2.2.2.2.2.2,x7,0)))) else (none)) else (none))) else (none)) else (none)))) else (none)) else (none))) else (none)) else (none)
def spec_ReadConfig.l1 : Nat → List Bool → List ByteArray → Int → Int → Int → Int → Int → Int → Int → Int → Int → List Int → Option (Int × Int × Int × Int × Int × Int × Int × List Int × Int × Int × Int)
 | 0,_,_,_,_,_,_,_,_,_,_,_,_ => none
 | k + 1,x5,x6,x7,x8,x586000,x586001,x586002,x586003,x586004,x586005,x586006,x586007 => if 0 ≤ x7 then (if x7 < (x6.length : Int) then (if x8 < ((rdOf ByteArray.empty x6 x7).size : Int) then (if 0 ≤ x8 then (if (bt (rdOf ByteArray.empty x6 x7) x8) = 61 then (spec_ReadConfig.j2 k x5 x6 x7 x8 x586000 x586001 x586002 x586003 x586004 x586005 x586006 x586007) else (spec_ReadConfig.l1 k x5 x6 x7 (wrap64 (x8 + 1)) x586000 x586001 x586002 x586003 x586004 x586005 x586006 x586007)) else (none)) else (spec_ReadConfig.j2 k x5 x6 x7 x8 x586000 x586001 x586002 x586003 x586004 x586005 x586006 x586007)) else (none)) else (none)
end
def spec_ReadConfig.f (k : Nat) (a0 : ByteArray) : Option (Int × Int × Int × Int × Int × Int × Int × List Int × Int × Int × Int) := if (a0.size : Int) > 4000 then (some (0,0,0,0,0,0,0,([] : List Int),1,0,0)) else ((spec_UsualConfig.f).bind fun bt575 => (if 7 ≤ 281474976710656 then ((spec_Parts.f k a0 10).bind fun t589 => (spec_ReadConfig.l0 k (List.replicate 7 false) t589 0 bt575.1 bt575.2.1 bt575.2.2.1 bt575.2.2.2.1 bt575.2.2.2.2.1 bt575.2.2.2.2.2.1 bt575.2.2.2.2.2.2.1 bt575.2.2.2.2.2.2.2)) else (none)))
theorem spec_ReadConfig.mono_l : ∀ k,(∀ y0 y1 y2 y3 y4 y5 y6 y7 y8 y9 y10,LeO (spec_ReadConfig.l0 k y0 y1 y2 y3 y4 y5 y6 y7 y8 y9 y10) (spec_ReadConfig.l0 (k + 1) y0 y1 y2 y3 y4 y5 y6 y7 y8 y9 y10)) ∧ (∀ y0 y1 y2 y3 y4 y5 y6 y7 y8 y9 y10 y11,LeO (spec_ReadConfig.j2 k y0 y1 y2 y3 y4 y5 y6 y7 y8 y9 y10 y11) (spec_ReadConfig.j2 (k + 1) y0 y1 y2 y3 y4 y5 y6 y7 y8 y9 y10 y11)) ∧ (∀ y0 y1 y2 y3 y4 y5 y6 y7 y8 y9 y10 y11,LeO (spec_ReadConfig.l1 k y0 y1 y2 y3 y4 y5 y6 y7 y8 y9 y10 y11) (spec_ReadConfig.l1 (k + 1) y0 y1 y2 y3 y4 y5 y6 y7 y8 y9 y10 y11))
 | 0 => ⟨fun _ _ _ _ _ _ _ _ _ _ _ r h => by simp [spec_ReadConfig.l0] at h,fun _ _ _ _ _ _ _ _ _ _ _ _ r h => by simp [spec_ReadConfig.j2] at h,fun _ _ _ _ _ _ _ _ _ _ _ _ r h => by simp [spec_ReadConfig.l1] at h⟩
 | k + 1 => by
  obtain ⟨ih0,ih1,ih2⟩ := spec_ReadConfig.mono_l k
  refine ⟨?_,?_,?_⟩
  ·intro y0 y1 y2 y3 y4 y5 y6 y7 y8 y9 y10
   unfold spec_ReadConfig.l0
   repeat' first
   | (with_reducible exact ih0 _ _ _ _ _ _ _ _ _ _ _)
   | (with_reducible exact ih1 _ _ _ _ _ _ _ _ _ _ _ _)
   | (with_reducible exact ih2 _ _ _ _ _ _ _ _ _ _ _ _)
   | (with_reducible exact spec_Parts.mono _ _ _)
   | (with_reducible exact spec_l8Lay.mono _ _ _ _ _ _ _ _ _ _ _)
   | (with_reducible exact spec_l8Word.mono _ _)
   | (with_reducible exact LeO.refl _)
   | (with_reducible exact LeO.none _)
   | (with_reducible refine LeO.ite ?_ ?_)
   | (with_reducible refine LeO.bind ?_ (fun _ => ?_))
   | exact ih0 _ _ _ _ _ _ _ _ _ _ _
   | exact ih1 _ _ _ _ _ _ _ _ _ _ _ _
   | exact ih2 _ _ _ _ _ _ _ _ _ _ _ _
   | exact spec_Parts.mono _ _ _
   | exact spec_l8Lay.mono _ _ _ _ _ _ _ _ _ _ _
   | exact spec_l8Word.mono _ _
   | exact LeO.none _
   | refine LeO.ite ?_ ?_
   | refine LeO.bind ?_ (fun _ => ?_)
  ·intro y0 y1 y2 y3 y4 y5 y6 y7 y8 y9 y10 y11
   unfold spec_ReadConfig.j2
   repeat' first
   | (with_reducible exact ih0 _ _ _ _ _ _ _ _ _ _ _)
   | (with_reducible exact ih1 _ _ _ _ _ _ _ _ _ _ _ _)
   | (with_reducible exact ih2 _ _ _ _ _ _ _ _ _ _ _ _)
   | (with_reducible exact spec_Parts.mono _ _ _)
   | (with_reducible exact spec_l8Lay.mono _ _ _ _ _ _ _ _ _ _ _)
   | (with_reducible exact spec_l8Word.mono _ _)
   | (with_reducible exact LeO.refl _)
   | (with_reducible exact LeO.none _)
   | (with_reducible refine LeO.ite ?_ ?_)
   | (with_reducible refine LeO.bind ?_ (fun _ => ?_))
   | exact ih0 _ _ _ _ _ _ _ _ _ _ _
   | exact ih1 _ _ _ _ _ _ _ _ _ _ _ _
   | exact ih2 _ _ _ _ _ _ _ _ _ _ _ _
   | exact spec_Parts.mono _ _ _
   | exact spec_l8Lay.mono _ _ _ _ _ _ _ _ _ _ _
   | exact spec_l8Word.mono _ _
   | exact LeO.none _
   | refine LeO.ite ?_ ?_
   | refine LeO.bind ?_ (fun _ => ?_)
  ·intro y0 y1 y2 y3 y4 y5 y6 y7 y8 y9 y10 y11
   unfold spec_ReadConfig.l1
   repeat' first
   | (with_reducible exact ih0 _ _ _ _ _ _ _ _ _ _ _)
   | (with_reducible exact ih1 _ _ _ _ _ _ _ _ _ _ _ _)
   | (with_reducible exact ih2 _ _ _ _ _ _ _ _ _ _ _ _)
   | (with_reducible exact spec_Parts.mono _ _ _)
   | (with_reducible exact spec_l8Lay.mono _ _ _ _ _ _ _ _ _ _ _)
   | (with_reducible exact spec_l8Word.mono _ _)
   | (with_reducible exact LeO.refl _)
   | (with_reducible exact LeO.none _)
   | (with_reducible refine LeO.ite ?_ ?_)
   | (with_reducible refine LeO.bind ?_ (fun _ => ?_))
   | exact ih0 _ _ _ _ _ _ _ _ _ _ _
   | exact ih1 _ _ _ _ _ _ _ _ _ _ _ _
   | exact ih2 _ _ _ _ _ _ _ _ _ _ _ _
   | exact spec_Parts.mono _ _ _
   | exact spec_l8Lay.mono _ _ _ _ _ _ _ _ _ _ _
   | exact spec_l8Word.mono _ _
   | exact LeO.none _
   | refine LeO.ite ?_ ?_
   | refine LeO.bind ?_ (fun _ => ?_)
theorem spec_ReadConfig.mono : ∀ a0 k,LeO (spec_ReadConfig.f k a0) (spec_ReadConfig.f (k + 1) a0) := by
 intro a0 k
 obtain ⟨ih0,ih1,ih2⟩ := spec_ReadConfig.mono_l k
 unfold spec_ReadConfig.f
 repeat' first
   | (with_reducible exact ih0 _ _ _ _ _ _ _ _ _ _ _)
   | (with_reducible exact ih1 _ _ _ _ _ _ _ _ _ _ _ _)
   | (with_reducible exact ih2 _ _ _ _ _ _ _ _ _ _ _ _)
   | (with_reducible exact spec_Parts.mono _ _ _)
   | (with_reducible exact spec_l8Lay.mono _ _ _ _ _ _ _ _ _ _ _)
   | (with_reducible exact spec_l8Word.mono _ _)
   | (with_reducible exact LeO.refl _)
   | (with_reducible exact LeO.none _)
   | (with_reducible refine LeO.ite ?_ ?_)
   | (with_reducible refine LeO.bind ?_ (fun _ => ?_))
   | exact ih0 _ _ _ _ _ _ _ _ _ _ _
   | exact ih1 _ _ _ _ _ _ _ _ _ _ _ _
   | exact ih2 _ _ _ _ _ _ _ _ _ _ _ _
   | exact spec_Parts.mono _ _ _
   | exact spec_l8Lay.mono _ _ _ _ _ _ _ _ _ _ _
   | exact spec_l8Word.mono _ _
   | exact LeO.none _
   | refine LeO.ite ?_ ?_
   | refine LeO.bind ?_ (fun _ => ?_)
def spec_ReadConfig.T21 : Bool × List (List Nat × List Nat) := (true,[([],[]),([],[]),([],[]),([],[]),([2,3],[2,3]),([4],[4]),([],[]),([6],[6]),([5,7],[5,7]),([0,1,8],[0,1,8]),([9],[9]),([10],[10]),([10],[10]),([],[]),([13,11,9,0,1,2,3,4,5,6,7,8,9,10,11,13],[11,13]),([12,14,0,1,2,3,4,5,6,7,8,9,10,11,12,13,14],[12])])
def spec_ReadConfig.B21 : List Nat := [0,0,0,0,12,28,0,64,252,511,1023,2047,2047,0,12287,32767]
theorem spec_ReadConfig.tab21 : rtab .any (opsOf Tryz.f11 21) = spec_ReadConfig.T21 := by kernel_rfl
theorem spec_ReadConfig.bits21 : waitsOk spec_ReadConfig.T21.2 spec_ReadConfig.B21 = true := by kernel_rfl
set_option maxHeartbeats 8000000 in
set_option maxRecDepth 100000 in
theorem spec_ReadConfig.calls (k : Nat) (a0 : ByteArray) (r1 : Int) (r2 : Int) (r3 : Int) (r4 : Int) (r5 : Int) (r6 : Int) (r7 : Int) (r8 : List Int) (r9 : Int) (r10 : Int) (r11 : Int) (w : World) (h : spec_ReadConfig.f k a0 = some (r1,r2,r3,r4,r5,r6,r7,r8,r9,r10,r11)) :
  Calls Tryz.prog 11 #[.string a0] w fun e w' => ∃ v7_ : Value,e = .returned (.tuple #[.agg #[.int .i64 r1,.int .i64 r2,.int .i64 r3,.int .i64 r4,.int .i64 r5,.int .i64 r6,.int .i64 r7,v7_],.agg #[.int .i64 r9,.int .i64 r10,.int .i64 r11]]) ∧ Kd.R (Kd.int .i64) 3 w' w.heap.size (fun _ => True) v7_ r8 ∧ Below w.heap.size w w' := by
 have hu26 := Tryz.underlying26
 have hu31 := Tryz.underlying31
 have HB := Aside0.mk (Below.refl w.heap.size w)
 have H := h
 clear h
 unfold spec_ReadConfig.f at H
 by_cases c2 : (a0.size : Int) > 4000
 ·rw [if_pos c2] at H
  have c2b0 : decide (4000 < (a0.size : Int)) = true := decide_eq_true c2
  have c2b1 : decide (4000 < a0.size) = true := decide_eq_true Z285
  clear c2
  simp only [Option.some.injEq,Prod.mk.injEq] at H
  obtain ⟨rfl,rfl,rfl,rfl,rfl,rfl,rfl,rfl,rfl,rfl,rfl⟩ := H
  go_enter Tryz.func11,Tryz.ntmps11
  go_wp2_with (first | ((with_reducible refine gate_dst (N := 2) rfl ?_);refine bE 2 #[.int .i64 0,.int .i64 0,.int .i64 0,.int .i64 0,.int .i64 0,.int .i64 0,.int .i64 0,.slice none 0 0] 26 (h := ?_);intro gb573 hg wq1 hbox hb;have n_ := Z46;clear HB;obtain ⟨HB,BK573,GW573,GE573⟩ := n_;clear hb hbox hg) | ((with_reducible refine gate_dst (N := 3) rfl ?_);refine bE 3 #[.int .i64 0,.int .i64 0,.int .i64 0] 31 (h := ?_);intro gb574 hg wq2 hbox hb;have n_ := Z24;clear BK573 HB;obtain ⟨BK573,HB,BK574,GW574,GE574,NB573_574,NB574_573⟩ := n_;clear hb hbox hg;have hnbq3 := NB573_574.out;have hncq3 := NB574_573.out;obtain ⟨hczq4_0,hczq4_1,hczq4_2,hczq4_3,hczq4_4,hczq4_5,hczq4_6,hczq4_7,hfzq4_0,hfzq4_1,hfzq4_2,hfzq4_3,hfzq4_4,hfzq4_5,hfzq4_6,hfzq4_7⟩ := cells8 BK573.out;obtain ⟨hczq5_0,hczq5_1,hczq5_2,hfzq5_0,hfzq5_1,hfzq5_2⟩ := cells3 BK574.out))
  refine bodyPost_ret (results_cc rfl _ _ gb573 gb574 26 31 #[.int .i64 0,.int .i64 0,.int .i64 0,.int .i64 0,.int .i64 0,.int .i64 0,.int .i64 0,.slice none 0 0] #[.int .i64 1,.int .i64 0,.int .i64 0] (0,0) (0,0) _ _ rfl (by refine bP ?_;refine blk_far ?_ NB573_574.out _;refine bP ?_;refine blk_far ?_ NB573_574.out _;refine bP ?_;refine blk_far ?_ NB573_574.out _;refine bP ?_;refine blk_put (cs := #[.int .i64 0,.int .i64 0,.int .i64 0,.int .i64 0,.int .i64 0,.int .i64 0,.int .i64 0,.slice none 0 0]) ?_ 7 _ rfl;refine bP ?_;refine blk_put (cs := #[.int .i64 0,.int .i64 0,.int .i64 0,.int .i64 0,.int .i64 0,.int .i64 0,.int .i64 0,.slice none 0 0]) ?_ 6 _ rfl;refine bP ?_;refine blk_put (cs := #[.int .i64 0,.int .i64 0,.int .i64 0,.int .i64 0,.int .i64 0,.int .i64 0,.int .i64 0,.slice none 0 0]) ?_ 5 _ rfl;refine bP ?_;refine blk_put (cs := #[.int .i64 0,.int .i64 0,.int .i64 0,.int .i64 0,.int .i64 0,.int .i64 0,.int .i64 0,.slice none 0 0]) ?_ 4 _ rfl;refine bP ?_;refine blk_put (cs := #[.int .i64 0,.int .i64 0,.int .i64 0,.int .i64 0,.int .i64 0,.int .i64 0,.int .i64 0,.slice none 0 0]) ?_ 3 _ rfl;refine bP ?_;refine blk_put (cs := #[.int .i64 0,.int .i64 0,.int .i64 0,.int .i64 0,.int .i64 0,.int .i64 0,.int .i64 0,.slice none 0 0]) ?_ 2 _ rfl;refine bP ?_;refine blk_put (cs := #[.int .i64 0,.int .i64 0,.int .i64 0,.int .i64 0,.int .i64 0,.int .i64 0,.int .i64 0,.slice none 0 0]) ?_ 1 _ rfl;refine bP ?_;refine blk_put (cs := #[.int .i64 0,.int .i64 0,.int .i64 0,.int .i64 0,.int .i64 0,.int .i64 0,.int .i64 0,.slice none 0 0]) ?_ 0 _ rfl;refine bP ?_;exact BK573.out) Tryz.underlying26 rfl Z190 rfl (by refine bP ?_;refine blk_put (cs := #[.int .i64 1,.int .i64 0,.int .i64 0]) ?_ 2 _ rfl;refine bP ?_;refine blk_put (cs := #[.int .i64 1,.int .i64 0,.int .i64 0]) ?_ 1 _ rfl;refine bP ?_;refine blk_put (cs := #[.int .i64 0,.int .i64 0,.int .i64 0]) ?_ 0 _ rfl;refine bP ?_;refine blk_far ?_ NB574_573.out _;refine bP ?_;refine blk_far ?_ NB574_573.out _;refine bP ?_;refine blk_far ?_ NB574_573.out _;refine bP ?_;refine blk_far ?_ NB574_573.out _;refine bP ?_;refine blk_far ?_ NB574_573.out _;refine bP ?_;refine blk_far ?_ NB574_573.out _;refine bP ?_;refine blk_far ?_ NB574_573.out _;refine bP ?_;refine blk_far ?_ NB574_573.out _;refine bP ?_;exact BK574.out) Tryz.underlying31 rfl Z190) rfl ?_
  exact ⟨_,Z152,Z129,Z230⟩
 rw [if_neg c2] at H
 have c2b0 : decide (4000 < (a0.size : Int)) = false := decide_eq_false c2
 have c2b1 : decide (4000 < a0.size) = false := decide_eq_false Z285
 clear c2
 obtain ⟨⟨t575,t576,t577,t578,t579,t580,t581,t582⟩,A80,H⟩ := Option.bind_eq_some_iff.mp H
 try dsimp only at H
 have A8 := Aside0.mk A80
 clear A80
 obtain ⟨c9,H⟩ := ifp H
 have c9b0 := eq_true c9
 have c9b1 : decide (7 ≤ 281474976710656) = true := decide_eq_true c9
 clear c9
 obtain ⟨y586,hyy⟩ : ∃ y_ : List Bool,y_ = (List.replicate 7 false) := ⟨_,rfl⟩
 replace H : ((spec_Parts.f k a0 10).bind fun t589 => (spec_ReadConfig.l0 k y586 t589 0 t575 t576 t577 t578 t579 t580 t581 t582)) = some (r1,r2,r3,r4,r5,r6,r7,r8,r9,r10,r11) := zR
 have Ny586 := Aside0.mk hyy
 clear hyy
 obtain ⟨t589,A100,H⟩ := Option.bind_eq_some_iff.mp H
 have A10 := Aside0.mk A100
 clear A100
 have H' := Aside0.mk H
 clear H
 go_enter Tryz.func11,Tryz.ntmps11
 go_wp2_with (first | ((with_reducible refine gate_dst (N := 2) rfl ?_);refine bE 2 #[.int .i64 0,.int .i64 0,.int .i64 0,.int .i64 0,.int .i64 0,.int .i64 0,.int .i64 0,.slice none 0 0] 26 (h := ?_);intro gb573 hg w11 hbox hb;have n_ := Z46;clear HB;obtain ⟨HB,BK573,GW573,GE573⟩ := n_;clear hb hbox hg) | ((with_reducible refine gate_dst (N := 3) rfl ?_);refine bE 3 #[.int .i64 0,.int .i64 0,.int .i64 0] 31 (h := ?_);intro gb574 hg w12 hbox hb;have n_ := Z24;clear BK573 HB;obtain ⟨BK573,HB,BK574,GW574,GE574,NB573_574,NB574_573⟩ := n_;clear hb hbox hg) | ((with_reducible refine gate_callee (f := 34) rfl ?_);refine goesL_ (some 17) rfl rfl Tryz.func34 Z190 rfl #[] rfl Z130 ?_;(with_reducible refine (spec_UsualConfig.calls  t575 t576 t577 t578 t579 t580 t581 t582 _ A8.out).mono ?_);rintro e w13 ⟨v583,rfl,ho0,hb⟩;refine ⟨_,rfl,?_⟩;have n_ := jA (Kd.R_lower ho0 (below_size Z230)) (jA (blk_below (g := gb573) (o := .cells #[.int .i64 0,.int .i64 0,.int .i64 0,.int .i64 0,.int .i64 0,.int .i64 0,.int .i64 0,.slice none 0 0] 26 (0,0)) Z299 hb) (jA (blk_below (g := gb574) (o := .cells #[.int .i64 0,.int .i64 0,.int .i64 0] 31 (0,0)) Z270 hb) (Aside0.mk (below_step Z230 hb))));clear BK573 BK574 HB;obtain ⟨HO584,BK573,BK574,HB⟩ := n_;(try clear hb);(try clear hb2);(try clear hk);(try clear hi);(try clear ho0)) | ((with_reducible refine gate_dst (N := 4) rfl ?_);refine bE 4 #[.int .i64 0,.int .i64 0,.int .i64 0,.int .i64 0,.int .i64 0,.int .i64 0,.int .i64 0,.slice none 0 0] 26 (h := ?_);intro gb585 hg w14 hbox hb;have n_ := jA (Kd.R_below Z145 hb) (jA (blk_below (g := gb573) (o := .cells #[.int .i64 0,.int .i64 0,.int .i64 0,.int .i64 0,.int .i64 0,.int .i64 0,.int .i64 0,.slice none 0 0] 26 (0,0)) Z299 hb) (jA (blk_below (g := gb574) (o := .cells #[.int .i64 0,.int .i64 0,.int .i64 0] 31 (0,0)) Z270 hb) (jA (below_step Z230 hb) (jA (hbox) (jA ((Z88 : w.heap.size ≤ gb585)) (jA ((Z88 : w.heap.size ≤ gb585)) (jA ((Z223 : gb573 ≠ gb585)) (jA ((Z225 : gb585 ≠ gb573)) (jA ((by rw [hg];exact Nat.ne_of_lt (blk_lt (g := gb574) (o := .cells #[.int .i64 0,.int .i64 0,.int .i64 0] 31 (0,0)) Z270) : gb574 ≠ gb585)) (Aside0.mk ((by rw [hg];exact Nat.ne_of_gt (blk_lt (g := gb574) (o := .cells #[.int .i64 0,.int .i64 0,.int .i64 0] 31 (0,0)) Z270) : gb585 ≠ gb574))))))))))));clear HO584 BK573 BK574 HB;obtain ⟨HO584,BK573,BK574,HB,BK585,GW585,GE585,NB573_585,NB585_573,NB574_585,NB585_574⟩ := n_;clear hb hbox hg;have hnb15 := NB585_573.out;have hnc15 := NB573_585.out;have hnb16 := NB585_574.out;have hnc16 := NB574_585.out;obtain ⟨hcz17_0,hcz17_1,hcz17_2,hcz17_3,hcz17_4,hcz17_5,hcz17_6,hcz17_7,hfz17_0,hfz17_1,hfz17_2,hfz17_3,hfz17_4,hfz17_5,hfz17_6,hfz17_7⟩ := cells8 BK585.out;obtain ⟨Ao18,co18,eo18⟩ := Kd.R_slice HO584.out;subst eo18) | ((with_reducible refine gate_dst (N := 18) rfl ?_);refine Kd.R_make Kd.bool _ 4 rfl (N := 18) rfl 56 _ _ rfl 7 rfl rfl Tryz.underlying56 (.bool false) 1 info4 rfl Z306 Z285 false (ok := fun _ => True) (okp := fun _ => True) rfl (fun _ hk => hk) trivial Z285 Z285 (Below.refl _ _) (Nat.le_refl _) ?_;intro v587 w19 ho20 hb hg_ hnew_;clear hg_ hnew_;(first | rw [← Ny586.out] at ho20 | (simp only [Int.reduceToNat] at ho20;rw [← Ny586.out] at ho20));have n_ := jA (Kd.R_below (by (with_reducible repeat (first | apply Kd.R_alloc | apply Kd.R_drewN | apply Kd.R_drew));exact (Kd.R_mono (Kd.R_far (p := ⟨gb585,7,none⟩) (Kd.R_far (p := ⟨gb585,6,none⟩) (Kd.R_far (p := ⟨gb585,5,none⟩) (Kd.R_far (p := ⟨gb585,4,none⟩) (Kd.R_far (p := ⟨gb585,3,none⟩) (Kd.R_far (p := ⟨gb585,2,none⟩) (Kd.R_far (p := ⟨gb585,1,none⟩) (Kd.R_far (p := ⟨gb585,0,none⟩) (Kd.R_types HO584.out BK585.out Z306) (fun _ hk => hk.2) (.int .i64 t575)) (fun _ hk => hk.2) (.int .i64 t576)) (fun _ hk => hk.2) (.int .i64 t577)) (fun _ hk => hk.2) (.int .i64 t578)) (fun _ hk => hk.2) (.int .i64 t579)) (fun _ hk => hk.2) (.int .i64 t580)) (fun _ hk => hk.2) (.int .i64 t581)) (fun _ hk => hk.2) (.slice Ao18 t582.length co18)) (fun _ h_ => h_.1))) hb) (jA (Kd.R_lower ho20 (below_size Z214)) (jA (blk_below (g := gb573) (o := .cells #[.int .i64 0,.int .i64 0,.int .i64 0,.int .i64 0,.int .i64 0,.int .i64 0,.int .i64 0,.slice none 0 0] 26 (0,0)) (by refine bP ?_;refine blk_far ?_ NB573_585.out _;refine bP ?_;refine blk_far ?_ NB573_585.out _;refine bP ?_;refine blk_far ?_ NB573_585.out _;refine bP ?_;refine blk_far ?_ NB573_585.out _;refine bP ?_;refine blk_far ?_ NB573_585.out _;refine bP ?_;refine blk_far ?_ NB573_585.out _;refine bP ?_;refine blk_far ?_ NB573_585.out _;refine bP ?_;refine blk_far ?_ NB573_585.out _;refine bP ?_;exact BK573.out) hb) (jA (blk_below (g := gb574) (o := .cells #[.int .i64 0,.int .i64 0,.int .i64 0] 31 (0,0)) (by refine bP ?_;refine blk_far ?_ NB574_585.out _;refine bP ?_;refine blk_far ?_ NB574_585.out _;refine bP ?_;refine blk_far ?_ NB574_585.out _;refine bP ?_;refine blk_far ?_ NB574_585.out _;refine bP ?_;refine blk_far ?_ NB574_585.out _;refine bP ?_;refine blk_far ?_ NB574_585.out _;refine bP ?_;refine blk_far ?_ NB574_585.out _;refine bP ?_;refine blk_far ?_ NB574_585.out _;refine bP ?_;exact BK574.out) hb) (jA (blk_below (g := gb585) (o := .cells #[.int .i64 t575,.int .i64 t576,.int .i64 t577,.int .i64 t578,.int .i64 t579,.int .i64 t580,.int .i64 t581,.slice Ao18 t582.length co18] 26 (0,0)) (by refine bP ?_;refine blk_put (cs := #[.int .i64 t575,.int .i64 t576,.int .i64 t577,.int .i64 t578,.int .i64 t579,.int .i64 t580,.int .i64 t581,.slice none 0 0]) ?_ 7 _ rfl;refine bP ?_;refine blk_put (cs := #[.int .i64 t575,.int .i64 t576,.int .i64 t577,.int .i64 t578,.int .i64 t579,.int .i64 t580,.int .i64 0,.slice none 0 0]) ?_ 6 _ rfl;refine bP ?_;refine blk_put (cs := #[.int .i64 t575,.int .i64 t576,.int .i64 t577,.int .i64 t578,.int .i64 t579,.int .i64 0,.int .i64 0,.slice none 0 0]) ?_ 5 _ rfl;refine bP ?_;refine blk_put (cs := #[.int .i64 t575,.int .i64 t576,.int .i64 t577,.int .i64 t578,.int .i64 0,.int .i64 0,.int .i64 0,.slice none 0 0]) ?_ 4 _ rfl;refine bP ?_;refine blk_put (cs := #[.int .i64 t575,.int .i64 t576,.int .i64 t577,.int .i64 0,.int .i64 0,.int .i64 0,.int .i64 0,.slice none 0 0]) ?_ 3 _ rfl;refine bP ?_;refine blk_put (cs := #[.int .i64 t575,.int .i64 t576,.int .i64 0,.int .i64 0,.int .i64 0,.int .i64 0,.int .i64 0,.slice none 0 0]) ?_ 2 _ rfl;refine bP ?_;refine blk_put (cs := #[.int .i64 t575,.int .i64 0,.int .i64 0,.int .i64 0,.int .i64 0,.int .i64 0,.int .i64 0,.slice none 0 0]) ?_ 1 _ rfl;refine bP ?_;refine blk_put (cs := #[.int .i64 0,.int .i64 0,.int .i64 0,.int .i64 0,.int .i64 0,.int .i64 0,.int .i64 0,.slice none 0 0]) ?_ 0 _ rfl;refine bP ?_;exact BK585.out) hb) (Aside0.mk (below_step Z214 hb))))));clear HO584 BK573 BK574 BK585 HB;obtain ⟨HO584,HO588,BK573,BK574,BK585,HB⟩ := n_;clear hb ho20) | ((with_reducible refine gate_callee (f := 35) rfl ?_);refine goesL_ (some 20) rfl rfl Tryz.func35 Z190 rfl #[.string a0,.int .u8 10] rfl Z130 ?_;(with_reducible refine (spec_Parts.calls k a0 10 t589 _ A10.out).mono ?_);rintro e w21 ⟨v590,rfl,ho0,hb⟩;refine ⟨_,rfl,?_⟩;have n_ := jA (Kd.R_below Z145 hb) (jA (Kd.R_below Z148 hb) (jA (Kd.R_lower ho0 (below_size Z214)) (jA (blk_below (g := gb573) (o := .cells #[.int .i64 0,.int .i64 0,.int .i64 0,.int .i64 0,.int .i64 0,.int .i64 0,.int .i64 0,.slice none 0 0] 26 (0,0)) Z299 hb) (jA (blk_below (g := gb574) (o := .cells #[.int .i64 0,.int .i64 0,.int .i64 0] 31 (0,0)) Z270 hb) (jA (blk_below (g := gb585) (o := .cells #[.int .i64 t575,.int .i64 t576,.int .i64 t577,.int .i64 t578,.int .i64 t579,.int .i64 t580,.int .i64 t581,.slice Ao18 t582.length co18] 26 (0,0)) Z271 hb) (Aside0.mk (below_step Z214 hb)))))));clear HO584 HO588 BK573 BK574 BK585 HB;obtain ⟨HO584,HO588,HO591,BK573,BK574,BK585,HB⟩ := n_;(try clear hb);(try clear hb2);(try clear hk);(try clear hi);(try clear ho0)))
 go_loopg [7] k (fun kq v7 w' => ∃ (x5_1 : List Bool) (x7_1 : Int) (x574000_1 : Int) (x574001_1 : Int) (x574002_1 : Int) (x574003_1 : Int) (x574004_1 : Int) (x574005_1 : Int) (x574006_1 : Int) (x575000_1 : Int) (x575001_1 : Int) (x575002_1 : Int) (x586000_1 : Int) (x586001_1 : Int) (x586002_1 : Int) (x586003_1 : Int) (x586004_1 : Int) (x586005_1 : Int) (x586006_1 : Int) (x586007_1 : List Int) (u586007 : Value),v7 = .int .i64 x7_1 ∧ Aside0 (spec_ReadConfig.l0 kq x5_1 t589 x7_1 x586000_1 x586001_1 x586002_1 x586003_1 x586004_1 x586005_1 x586006_1 x586007_1 = some (r1,r2,r3,r4,r5,r6,r7,r8,r9,r10,r11)) ∧ Aside0 (kq ≤ k) ∧ Aside0 (Kd.R Kd.bool 4 w' w.heap.size (fun _ => True) v587 x5_1) ∧ Aside0 (Kd.R Kd.string 9 w' w.heap.size (fun _ => True) v590 t589) ∧ Aside0 (Kd.R (Kd.int .i64) 3 w' w.heap.size (fun _ => True) u586007 x586007_1) ∧ Aside0 (w'.heap[gb573]? = some (.cells #[.int .i64 x574000_1,.int .i64 x574001_1,.int .i64 x574002_1,.int .i64 x574003_1,.int .i64 x574004_1,.int .i64 x574005_1,.int .i64 x574006_1,(.slice none 0 0)] 26 (0,0))) ∧ Aside0 (w'.heap[gb574]? = some (.cells #[.int .i64 x575000_1,.int .i64 x575001_1,.int .i64 x575002_1] 31 (0,0))) ∧ Aside0 (w'.heap[gb585]? = some (.cells #[.int .i64 x586000_1,.int .i64 x586001_1,.int .i64 x586002_1,.int .i64 x586003_1,.int .i64 x586004_1,.int .i64 x586005_1,.int .i64 x586006_1,u586007] 26 (0,0))) ∧ Aside0 (Below w.heap.size w w'))
 case atStart => exact ⟨(y586),(0),(0),(0),(0),(0),(0),(0),(0),(0),(0),(0),(t575),(t576),(t577),(t578),(t579),(t580),(t581),(t582),(.slice Ao18 t582.length co18),Z165,H',⟨Nat.le_refl _⟩,⟨Z148⟩,⟨by (with_reducible repeat (first | apply Kd.R_alloc | apply Kd.R_drewN | apply Kd.R_drew));exact HO591.out⟩,⟨Z145⟩,⟨Z299⟩,⟨Z270⟩,⟨Z271⟩,⟨Z214⟩⟩
 case round =>
  clear H'
  try clear c1
  try clear c2
  try clear c2b0
  try clear c2b1
  try clear p2
  try clear c3
  try clear c5
  try clear c9
  try clear c9b0
  try clear c9b1
  try clear c11
  try clear c15
  try clear c16
  obtain ⟨x5_1,x7_1,x574000_1,x574001_1,x574002_1,x574003_1,x574004_1,x574005_1,x574006_1,x575000_1,x575001_1,x575002_1,x586000_1,x586001_1,x586002_1,x586003_1,x586004_1,x586005_1,x586006_1,x586007_1,u586007,rfl,HA,HK1,HO_5,HO_6,HO_586007,BK573,BK574,BK585,HB⟩ := hrel
  cases gk with
  | zero => exact absurd HA.out (by simp [spec_ReadConfig.l0])
  | succ k1 =>
   have H := HA.out
   clear HA
   simp only [spec_ReadConfig.l0] at H
   by_cases c22 : x7_1 < (t589.length : Int)
   rotate_left
   ·rw [if_neg c22] at H
    have c22b0 : decide (x7_1 < (t589.length : Int)) = false := decide_eq_false c22
    clear c22
    simp only [Option.some.injEq,Prod.mk.injEq] at H
    obtain ⟨rfl,rfl,rfl,rfl,rfl,rfl,rfl,rfl,rfl,rfl,rfl⟩ := H
    obtain ⟨Ao119,co119,eo119⟩ := Kd.R_slice HO_6.out
    subst eo119
    have hnb120 := NB585_573.out
    have hnc120 := NB573_585.out
    have hnb121 := NB585_574.out
    have hnc121 := NB574_585.out
    obtain ⟨hcz122_0,hcz122_1,hcz122_2,hcz122_3,hcz122_4,hcz122_5,hcz122_6,hcz122_7,hfz122_0,hfz122_1,hfz122_2,hfz122_3,hfz122_4,hfz122_5,hfz122_6,hfz122_7⟩ := cells8 BK585.out
    have hnb123 := NB573_574.out
    have hnc123 := NB574_573.out
    obtain ⟨hcz124_0,hcz124_1,hcz124_2,hcz124_3,hcz124_4,hcz124_5,hcz124_6,hcz124_7,hfz124_0,hfz124_1,hfz124_2,hfz124_3,hfz124_4,hfz124_5,hfz124_6,hfz124_7⟩ := cells8 BK573.out
    obtain ⟨Ao125,co125,eo125⟩ := Kd.R_slice HO_586007.out
    subst eo125
    obtain ⟨hcz126_0,hcz126_1,hcz126_2,hfz126_0,hfz126_1,hfz126_2⟩ := cells3 BK574.out
    go_wp2
    refine bodyPost_ret (results_cc rfl _ _ gb573 gb574 26 31 #[.int .i64 x586000_1,.int .i64 x586001_1,.int .i64 x586002_1,.int .i64 x586003_1,.int .i64 x586004_1,.int .i64 x586005_1,.int .i64 x586006_1,.slice Ao125 x586007_1.length co125] #[.int .i64 0,.int .i64 0,.int .i64 0] (0,0) (0,0) _ _ rfl (by refine bP ?_;refine blk_far ?_ NB573_574.out _;refine bP ?_;refine blk_far ?_ NB573_574.out _;refine bP ?_;refine blk_far ?_ NB573_574.out _;refine bP ?_;refine blk_put (cs := #[.int .i64 x586000_1,.int .i64 x586001_1,.int .i64 x586002_1,.int .i64 x586003_1,.int .i64 x586004_1,.int .i64 x586005_1,.int .i64 x586006_1,.slice none 0 0]) ?_ 7 _ rfl;refine bP ?_;refine blk_put (cs := #[.int .i64 x586000_1,.int .i64 x586001_1,.int .i64 x586002_1,.int .i64 x586003_1,.int .i64 x586004_1,.int .i64 x586005_1,.int .i64 x574006_1,.slice none 0 0]) ?_ 6 _ rfl;refine bP ?_;refine blk_put (cs := #[.int .i64 x586000_1,.int .i64 x586001_1,.int .i64 x586002_1,.int .i64 x586003_1,.int .i64 x586004_1,.int .i64 x574005_1,.int .i64 x574006_1,.slice none 0 0]) ?_ 5 _ rfl;refine bP ?_;refine blk_put (cs := #[.int .i64 x586000_1,.int .i64 x586001_1,.int .i64 x586002_1,.int .i64 x586003_1,.int .i64 x574004_1,.int .i64 x574005_1,.int .i64 x574006_1,.slice none 0 0]) ?_ 4 _ rfl;refine bP ?_;refine blk_put (cs := #[.int .i64 x586000_1,.int .i64 x586001_1,.int .i64 x586002_1,.int .i64 x574003_1,.int .i64 x574004_1,.int .i64 x574005_1,.int .i64 x574006_1,.slice none 0 0]) ?_ 3 _ rfl;refine bP ?_;refine blk_put (cs := #[.int .i64 x586000_1,.int .i64 x586001_1,.int .i64 x574002_1,.int .i64 x574003_1,.int .i64 x574004_1,.int .i64 x574005_1,.int .i64 x574006_1,.slice none 0 0]) ?_ 2 _ rfl;refine bP ?_;refine blk_put (cs := #[.int .i64 x586000_1,.int .i64 x574001_1,.int .i64 x574002_1,.int .i64 x574003_1,.int .i64 x574004_1,.int .i64 x574005_1,.int .i64 x574006_1,.slice none 0 0]) ?_ 1 _ rfl;refine bP ?_;refine blk_put (cs := #[.int .i64 x574000_1,.int .i64 x574001_1,.int .i64 x574002_1,.int .i64 x574003_1,.int .i64 x574004_1,.int .i64 x574005_1,.int .i64 x574006_1,.slice none 0 0]) ?_ 0 _ rfl;refine bP ?_;exact BK573.out) Tryz.underlying26 rfl Z190 rfl (by refine bP ?_;refine blk_put (cs := #[.int .i64 0,.int .i64 0,.int .i64 x575002_1]) ?_ 2 _ rfl;refine bP ?_;refine blk_put (cs := #[.int .i64 0,.int .i64 x575001_1,.int .i64 x575002_1]) ?_ 1 _ rfl;refine bP ?_;refine blk_put (cs := #[.int .i64 x575000_1,.int .i64 x575001_1,.int .i64 x575002_1]) ?_ 0 _ rfl;refine bP ?_;refine blk_far ?_ NB574_573.out _;refine bP ?_;refine blk_far ?_ NB574_573.out _;refine bP ?_;refine blk_far ?_ NB574_573.out _;refine bP ?_;refine blk_far ?_ NB574_573.out _;refine bP ?_;refine blk_far ?_ NB574_573.out _;refine bP ?_;refine blk_far ?_ NB574_573.out _;refine bP ?_;refine blk_far ?_ NB574_573.out _;refine bP ?_;refine blk_far ?_ NB574_573.out _;refine bP ?_;exact BK574.out) Tryz.underlying31 rfl Z190) rfl ?_
    exact ⟨_,Z152,by (with_reducible repeat (first | apply Kd.R_alloc | apply Kd.R_drewN | apply Kd.R_drew));exact Kd.R_mono (Kd.R_far (p := ⟨gb574,2,none⟩) (Kd.R_far (p := ⟨gb574,1,none⟩) (Kd.R_far (p := ⟨gb574,0,none⟩) (Kd.R_far (p := ⟨gb573,7,none⟩) (Kd.R_far (p := ⟨gb573,6,none⟩) (Kd.R_far (p := ⟨gb573,5,none⟩) (Kd.R_far (p := ⟨gb573,4,none⟩) (Kd.R_far (p := ⟨gb573,3,none⟩) (Kd.R_far (p := ⟨gb573,2,none⟩) (Kd.R_far (p := ⟨gb573,1,none⟩) (Kd.R_far (p := ⟨gb573,0,none⟩) (Kd.R_types (Kd.R_types HO_586007.out BK573.out Z306) BK574.out Z306) (fun _ hk => hk.1.2) (.int .i64 x586000_1)) (fun _ hk => hk.1.2) (.int .i64 x586001_1)) (fun _ hk => hk.1.2) (.int .i64 x586002_1)) (fun _ hk => hk.1.2) (.int .i64 x586003_1)) (fun _ hk => hk.1.2) (.int .i64 x586004_1)) (fun _ hk => hk.1.2) (.int .i64 x586005_1)) (fun _ hk => hk.1.2) (.int .i64 x586006_1)) (fun _ hk => hk.1.2) (.slice Ao125 x586007_1.length co125)) (fun _ hk => hk.2) (.int .i64 0)) (fun _ hk => hk.2) (.int .i64 0)) (fun _ hk => hk.2) (.int .i64 0)) (fun _ hk => trivial),Z214⟩
   rw [if_pos c22] at H
   have c22b0 : decide (x7_1 < (t589.length : Int)) = true := decide_eq_true c22
   clear c22
   obtain ⟨c23,H⟩ := ifp H
   have c23b0 : decide (0 ≤ x7_1) = true := decide_eq_true c23
   clear c23
   by_cases c24 : (rdOf ByteArray.empty t589 x7_1).toList = ([] : List UInt8)
   ·rw [if_pos c24] at H
    have c24b0 : ((rdOf ByteArray.empty t589 x7_1).toList == ([] : List UInt8)) = true := beq_iff_eq.mpr c24
    have c24b1 : ((rdOf ByteArray.empty t589 x7_1).toList != ([] : List UInt8)) = false := bne_eq_false_iff_eq.mpr c24
    clear c24
    have H' := Aside0.mk H
    clear H
    obtain ⟨Ao25,co25,eo25⟩ := Kd.R_slice HO_6.out
    subst eo25
    have p592 : 0 ≤ (x7_1 : Int) := of_decide_eq_true Z164
    have q592 : x7_1 < (t589.length : Int) := of_decide_eq_true Z164
    obtain ⟨ad592,e592,hx592_0⟩ := Kd.at_string (Kd.R_reads' HO_6.out).2.2 x7_1 p592 q592
    cases e592
    replace p592 := eq_true p592
    replace q592 := eq_true q592
    go_wp2
    go_roundg k1
    case measure => have := HK1.out;omega
    case rel => exact ⟨(x5_1),(wrap64 (x7_1 + 1)),(x574000_1),(x574001_1),(x574002_1),(x574003_1),(x574004_1),(x574005_1),(x574006_1),(x575000_1),(x575001_1),(x575002_1),(x586000_1),(x586001_1),(x586002_1),(x586003_1),(x586004_1),(x586005_1),(x586006_1),(x586007_1),(u586007),Z165,H',⟨Z184⟩,⟨Z267⟩,⟨Z268⟩,⟨Z254⟩,⟨Z299⟩,⟨Z270⟩,⟨Z271⟩,⟨Z214⟩⟩
   rw [if_neg c24] at H
   have c24b0 : ((rdOf ByteArray.empty t589 x7_1).toList == ([] : List UInt8)) = false := beq_eq_false_iff_ne.mpr c24
   have c24b1 : ((rdOf ByteArray.empty t589 x7_1).toList != ([] : List UInt8)) = true := bne_iff_ne.mpr c24
   have HC26 := Aside0.mk H
   clear H
   obtain ⟨Ao27,co27,eo27⟩ := Kd.R_slice HO_6.out
   subst eo27
   have p592 : 0 ≤ (x7_1 : Int) := of_decide_eq_true Z164
   have q592 : x7_1 < (t589.length : Int) := of_decide_eq_true Z164
   obtain ⟨ad592,e592,hx592_0⟩ := Kd.at_string (Kd.R_reads' HO_6.out).2.2 x7_1 p592 q592
   cases e592
   replace p592 := eq_true p592
   replace q592 := eq_true q592
   go_upto_block 2 with (fail)
   go_cut [8] (fun v8 wc => ∃ (kq : Nat) (x8_25 : Int),v8 = .int .i64 x8_25 ∧ Aside0 (spec_ReadConfig.j2 kq x5_1 t589 x7_1 x8_25 x586000_1 x586001_1 x586002_1 x586003_1 x586004_1 x586005_1 x586006_1 x586007_1 = some (r1,r2,r3,r4,r5,r6,r7,r8,r9,r10,r11)) ∧ Aside0 (kq ≤ k1) ∧ Aside0 (Kd.R Kd.bool 4 wc w.heap.size (fun _ => True) v587 x5_1) ∧ Aside0 (Kd.R Kd.string 9 wc w.heap.size (fun _ => True) (.slice (some ad592) t589.length co27) t589) ∧ Aside0 (Kd.R (Kd.int .i64) 3 wc w.heap.size (fun _ => True) u586007 x586007_1) ∧ Aside0 (wc.heap[gb573]? = some (.cells #[.int .i64 x574000_1,.int .i64 x574001_1,.int .i64 x574002_1,.int .i64 x574003_1,.int .i64 x574004_1,.int .i64 x574005_1,.int .i64 x574006_1,(.slice none 0 0)] 26 (0,0))) ∧ Aside0 (wc.heap[gb574]? = some (.cells #[.int .i64 x575000_1,.int .i64 x575001_1,.int .i64 x575002_1] 31 (0,0))) ∧ Aside0 (wc.heap[gb585]? = some (.cells #[.int .i64 x586000_1,.int .i64 x586001_1,.int .i64 x586002_1,.int .i64 x586003_1,.int .i64 x586004_1,.int .i64 x586005_1,.int .i64 x586006_1,u586007] 26 (0,0))) ∧ Aside0 (Below w.heap.size w wc))
   case first =>
    have H := HC26.out
    clear HC26
    have H' := Aside0.mk H
    clear H
    go_wp2
    go_loopg [8] k1 (fun kq v8 w' => ∃ (x8_2 : Int),v8 = .int .i64 x8_2 ∧ Aside0 (spec_ReadConfig.l1 kq x5_1 t589 x7_1 x8_2 x586000_1 x586001_1 x586002_1 x586003_1 x586004_1 x586005_1 x586006_1 x586007_1 = some (r1,r2,r3,r4,r5,r6,r7,r8,r9,r10,r11)) ∧ Aside0 (kq ≤ k1) ∧ Aside0 (Kd.R Kd.bool 4 w' w.heap.size (fun _ => True) v587 x5_1) ∧ Aside0 (Kd.R Kd.string 9 w' w.heap.size (fun _ => True) (.slice (some ad592) t589.length co27) t589) ∧ Aside0 (Kd.R (Kd.int .i64) 3 w' w.heap.size (fun _ => True) u586007 x586007_1) ∧ Aside0 (w'.heap[gb573]? = some (.cells #[.int .i64 x574000_1,.int .i64 x574001_1,.int .i64 x574002_1,.int .i64 x574003_1,.int .i64 x574004_1,.int .i64 x574005_1,.int .i64 x574006_1,(.slice none 0 0)] 26 (0,0))) ∧ Aside0 (w'.heap[gb574]? = some (.cells #[.int .i64 x575000_1,.int .i64 x575001_1,.int .i64 x575002_1] 31 (0,0))) ∧ Aside0 (w'.heap[gb585]? = some (.cells #[.int .i64 x586000_1,.int .i64 x586001_1,.int .i64 x586002_1,.int .i64 x586003_1,.int .i64 x586004_1,.int .i64 x586005_1,.int .i64 x586006_1,u586007] 26 (0,0))) ∧ Aside0 (Below w.heap.size w w'))
    case atStart => exact ⟨(0),Z165,H',⟨Nat.le_refl _⟩,⟨Z267⟩,⟨Z268⟩,⟨Z254⟩,⟨Z299⟩,⟨Z270⟩,⟨Z271⟩,⟨Z214⟩⟩
    case round =>
     clear H'
     try clear c1
     try clear c2
     try clear c2b0
     try clear c2b1
     try clear p2
     try clear c3
     try clear c5
     try clear p5
     try clear q5
     try clear hx5
     try clear p6
     try clear c9
     try clear c9b0
     try clear c9b1
     try clear c11
     try clear c15
     try clear c16
     try clear c22
     try clear c22b0
     try clear c23
     try clear c23b0
     try clear c24
     try clear c24b0
     try clear c24b1
     try clear hx592_0
     try clear p2
     try clear p592
     try clear q592
     obtain ⟨x8_2,rfl,HA,HK2,HO_5,HO_6,HO_586007,BK573,BK574,BK585,HB⟩ := hrel
     cases gk with
     | zero => exact absurd HA.out (by simp [spec_ReadConfig.l1])
     | succ k2 =>
      have H := HA.out
      clear HA
      simp only [spec_ReadConfig.l1] at H
      obtain ⟨c28,H⟩ := ifp H
      have c28b0 : decide (0 ≤ x7_1) = true := decide_eq_true c28
      clear c28
      (first | rw [c28b0] | (simp only [i64_w,i32_w];rw [c28b0]) | skip)
      obtain ⟨c29,H⟩ := ifp H
      have c29b0 : decide (x7_1 < (t589.length : Int)) = true := decide_eq_true c29
      clear c29
      by_cases c30 : x8_2 < ((rdOf ByteArray.empty t589 x7_1).size : Int)
      rotate_left
      ·rw [if_neg c30] at H
       have c30b0 : decide (x8_2 < ((rdOf ByteArray.empty t589 x7_1).size : Int)) = false := decide_eq_false c30
       clear c30
       have H' := Aside0.mk H
       clear H
       have p593 : 0 ≤ (x7_1 : Int) := of_decide_eq_true Z164
       have q593 : x7_1 < (t589.length : Int) := of_decide_eq_true Z164
       obtain ⟨ad593,e593,hx593_0⟩ := Kd.at_string (Kd.R_reads' HO_6.out).2.2 x7_1 p593 q593
       obtain rfl : ad592 = ad593 := (by injection e593)
       replace p593 := eq_true p593
       replace q593 := eq_true q593
       go_wp2
       go_meet
       case rel => exact ⟨_,(x8_2),Z165,H',⟨Z157⟩,⟨Z267⟩,⟨Z268⟩,⟨Z254⟩,⟨Z299⟩,⟨Z270⟩,⟨Z271⟩,⟨Z214⟩⟩
      rw [if_pos c30] at H
      have c30b0 : decide (x8_2 < ((rdOf ByteArray.empty t589 x7_1).size : Int)) = true := decide_eq_true c30
      clear c30
      obtain ⟨c31,H⟩ := ifp H
      have c31b0 : decide (0 ≤ x8_2) = true := decide_eq_true c31
      clear c31
      by_cases c33 : (bt (rdOf ByteArray.empty t589 x7_1) x8_2) = 61
      ·rw [if_pos c33] at H
       have c33b0 : ((bt (rdOf ByteArray.empty t589 x7_1) x8_2) == 61) = true := beq_iff_eq.mpr c33
       have c33b1 : ((bt (rdOf ByteArray.empty t589 x7_1) x8_2) != 61) = false := bne_eq_false_iff_eq.mpr c33
       clear c33
       have H' := Aside0.mk H
       clear H
       have p593 : 0 ≤ (x7_1 : Int) := of_decide_eq_true Z164
       have q593 : x7_1 < (t589.length : Int) := of_decide_eq_true Z164
       obtain ⟨ad593,e593,hx593_0⟩ := Kd.at_string (Kd.R_reads' HO_6.out).2.2 x7_1 p593 q593
       obtain rfl : ad592 = ad593 := (by injection e593)
       replace p593 := eq_true p593
       replace q593 := eq_true q593
       have p594 : 0 ≤ (x7_1 : Int) := of_decide_eq_true Z164
       have q594 : x7_1 < (t589.length : Int) := of_decide_eq_true Z164
       obtain ⟨ad594,e594,hx594_0⟩ := Kd.at_string (Kd.R_reads' HO_6.out).2.2 x7_1 p594 q594
       obtain rfl : ad592 = ad594 := (by injection e594)
       replace p594 := eq_true p594
       replace q594 := eq_true q594
       have p32 : 0 ≤ (x8_2 : Int) := of_decide_eq_true Z164
       have q32 : x8_2 < ((rdOf ByteArray.empty t589 x7_1).size : Int) := of_decide_eq_true Z164
       have hx32 := bt_at (rdOf ByteArray.empty t589 x7_1) x8_2
       replace p32 := eq_true p32
       replace q32 := eq_true q32
       go_wp2
       go_meet
       case rel => exact ⟨_,(x8_2),Z165,H',⟨Z157⟩,⟨Z267⟩,⟨Z268⟩,⟨Z254⟩,⟨Z299⟩,⟨Z270⟩,⟨Z271⟩,⟨Z214⟩⟩
      rw [if_neg c33] at H
      have c33b0 : ((bt (rdOf ByteArray.empty t589 x7_1) x8_2) == 61) = false := beq_eq_false_iff_ne.mpr c33
      have c33b1 : ((bt (rdOf ByteArray.empty t589 x7_1) x8_2) != 61) = true := bne_iff_ne.mpr c33
      have H' := Aside0.mk H
      clear H
      have p593 : 0 ≤ (x7_1 : Int) := of_decide_eq_true Z164
      have q593 : x7_1 < (t589.length : Int) := of_decide_eq_true Z164
      obtain ⟨ad593,e593,hx593_0⟩ := Kd.at_string (Kd.R_reads' HO_6.out).2.2 x7_1 p593 q593
      obtain rfl : ad592 = ad593 := (by injection e593)
      replace p593 := eq_true p593
      replace q593 := eq_true q593
      have p594 : 0 ≤ (x7_1 : Int) := of_decide_eq_true Z164
      have q594 : x7_1 < (t589.length : Int) := of_decide_eq_true Z164
      obtain ⟨ad594,e594,hx594_0⟩ := Kd.at_string (Kd.R_reads' HO_6.out).2.2 x7_1 p594 q594
      obtain rfl : ad592 = ad594 := (by injection e594)
      replace p594 := eq_true p594
      replace q594 := eq_true q594
      have p32 : 0 ≤ (x8_2 : Int) := of_decide_eq_true Z164
      have q32 : x8_2 < ((rdOf ByteArray.empty t589 x7_1).size : Int) := of_decide_eq_true Z164
      have hx32 := bt_at (rdOf ByteArray.empty t589 x7_1) x8_2
      replace p32 := eq_true p32
      replace q32 := eq_true q32
      go_wp2
      go_roundg k2
      case measure => have := HK1.out;have := HK2.out;omega
      case rel => exact ⟨(wrap64 (x8_2 + 1)),Z165,H',⟨Z167⟩,⟨Z267⟩,⟨Z268⟩,⟨Z254⟩,⟨Z299⟩,⟨Z270⟩,⟨Z271⟩,⟨Z214⟩⟩
   case rest =>
    clear HC26
    try clear c1
    try clear c2
    try clear c2b0
    try clear c2b1
    try clear p2
    try clear c3
    try clear p3
    try clear q3
    try clear hx3
    try clear c5
    try clear p5
    try clear q5
    try clear hx5
    try clear p6
    try clear c9
    try clear c9b0
    try clear c9b1
    try clear c11
    try clear c15
    try clear c16
    try clear c22
    try clear c22b0
    try clear c23
    try clear c23b0
    try clear c24
    try clear c24b0
    try clear c24b1
    try clear c28
    try clear c28b0
    try clear c29
    try clear c29b0
    try clear c30
    try clear c30b0
    try clear c31
    try clear c31b0
    try clear p32
    try clear q32
    try clear hx32
    try clear c33
    try clear c33b0
    try clear c33b1
    try clear hx592_0
    try clear hx593_0
    try clear hx594_0
    try clear p2
    try clear p32
    try clear p5
    try clear p592
    try clear p593
    try clear p594
    try clear p6
    try clear q32
    try clear q5
    try clear q592
    try clear q593
    try clear q594
    obtain ⟨kq,x8_25,rfl,HA,HJ25,HO_5,HO_6,HO_586007,BK573,BK574,BK585,HB⟩ := hcut
    cases kq with
    | zero => exact absurd HA.out (by simp [spec_ReadConfig.j2])
    | succ kj25 =>
     have H := HA.out
     clear HA
     simp only [spec_ReadConfig.j2] at H
     obtain ⟨c34,H⟩ := ifp H
     have c34b0 : decide (0 ≤ x7_1) = true := decide_eq_true c34
     clear c34
     obtain ⟨c35,H⟩ := ifp H
     have c35b0 : decide (x7_1 < (t589.length : Int)) = true := decide_eq_true c35
     clear c35
     by_cases c36 : x8_25 = ((rdOf ByteArray.empty t589 x7_1).size : Int)
     ·rw [if_pos c36] at H
      have c36b0 : (x8_25 == ((rdOf ByteArray.empty t589 x7_1).size : Int)) = true := beq_iff_eq.mpr c36
      have c36b1 : (x8_25 != ((rdOf ByteArray.empty t589 x7_1).size : Int)) = false := bne_eq_false_iff_eq.mpr c36
      clear c36
      simp only [Option.some.injEq,Prod.mk.injEq] at H
      obtain ⟨rfl,rfl,rfl,rfl,rfl,rfl,rfl,rfl,rfl,rfl,rfl⟩ := H
      have p595 : 0 ≤ (x7_1 : Int) := of_decide_eq_true Z164
      have q595 : x7_1 < (t589.length : Int) := of_decide_eq_true Z164
      obtain ⟨ad595,e595,hx595_0⟩ := Kd.at_string (Kd.R_reads' HO_6.out).2.2 x7_1 p595 q595
      obtain rfl : ad592 = ad595 := Z187
      replace p595 := eq_true p595
      replace q595 := eq_true q595
      have hnb37 := NB573_574.out
      have hnc37 := NB574_573.out
      have hnb38 := NB573_585.out
      have hnc38 := NB585_573.out
      obtain ⟨hcz39_0,hcz39_1,hcz39_2,hcz39_3,hcz39_4,hcz39_5,hcz39_6,hcz39_7,hfz39_0,hfz39_1,hfz39_2,hfz39_3,hfz39_4,hfz39_5,hfz39_6,hfz39_7⟩ := cells8 BK573.out
      have hnb40 := NB574_585.out
      have hnc40 := NB585_574.out
      obtain ⟨hcz41_0,hcz41_1,hcz41_2,hfz41_0,hfz41_1,hfz41_2⟩ := cells3 BK574.out
      go_wp2
      refine bodyPost_ret (results_cc rfl _ _ gb573 gb574 26 31 #[.int .i64 0,.int .i64 0,.int .i64 0,.int .i64 0,.int .i64 0,.int .i64 0,.int .i64 0,.slice none 0 0] #[.int .i64 10,.int .i64 x7_1,.int .i64 0] (0,0) (0,0) _ _ rfl Z18 Tryz.underlying26 rfl Z190 rfl (by refine bP ?_;refine blk_put (cs := #[.int .i64 10,.int .i64 x7_1,.int .i64 x575002_1]) ?_ 2 _ rfl;refine bP ?_;refine blk_put (cs := #[.int .i64 10,.int .i64 x575001_1,.int .i64 x575002_1]) ?_ 1 _ rfl;refine bP ?_;refine blk_put (cs := #[.int .i64 x575000_1,.int .i64 x575001_1,.int .i64 x575002_1]) ?_ 0 _ rfl;refine bP ?_;refine blk_far ?_ NB574_573.out _;refine bP ?_;refine blk_far ?_ NB574_573.out _;refine bP ?_;refine blk_far ?_ NB574_573.out _;refine bP ?_;refine blk_far ?_ NB574_573.out _;refine bP ?_;refine blk_far ?_ NB574_573.out _;refine bP ?_;refine blk_far ?_ NB574_573.out _;refine bP ?_;refine blk_far ?_ NB574_573.out _;refine bP ?_;refine blk_far ?_ NB574_573.out _;refine bP ?_;exact BK574.out) Tryz.underlying31 rfl Z190) rfl ?_
      exact ⟨_,Z152,Z129,Z214⟩
     rw [if_neg c36] at H
     have c36b0 : (x8_25 == ((rdOf ByteArray.empty t589 x7_1).size : Int)) = false := beq_eq_false_iff_ne.mpr c36
     have c36b1 : (x8_25 != ((rdOf ByteArray.empty t589 x7_1).size : Int)) = true := bne_iff_ne.mpr c36
     obtain ⟨c42,H⟩ := ifp H
     have c42b0 := eq_true c42
     have c42b1 : decide (0 ≤ x8_25) = true := decide_eq_true c42
     clear c42
     obtain ⟨c43,H⟩ := ifp H
     have c43b0 := eq_true c43
     have c43b1 : decide (x8_25 ≤ ((rdOf ByteArray.empty t589 x7_1).size : Int)) = true := decide_eq_true c43
     clear c43
     obtain ⟨t597,A440,H⟩ := Option.bind_eq_some_iff.mp H
     have A44 := Aside0.mk A440
     clear A440
     by_cases c45 : t597 < 0
     ·rw [if_pos c45] at H
      have c45b0 : decide (t597 < 0) = true := decide_eq_true c45
      clear c45
      simp only [Option.some.injEq,Prod.mk.injEq] at H
      obtain ⟨rfl,rfl,rfl,rfl,rfl,rfl,rfl,rfl,rfl,rfl,rfl⟩ := H
      have p595 : 0 ≤ (x7_1 : Int) := of_decide_eq_true Z164
      have q595 : x7_1 < (t589.length : Int) := of_decide_eq_true Z164
      obtain ⟨ad595,e595,hx595_0⟩ := Kd.at_string (Kd.R_reads' HO_6.out).2.2 x7_1 p595 q595
      obtain rfl : ad592 = ad595 := Z187
      replace p595 := eq_true p595
      replace q595 := eq_true q595
      have p596 : 0 ≤ (x7_1 : Int) := of_decide_eq_true Z164
      have q596 : x7_1 < (t589.length : Int) := of_decide_eq_true Z164
      obtain ⟨ad596,e596,hx596_0⟩ := Kd.at_string (Kd.R_reads' HO_6.out).2.2 x7_1 p596 q596
      obtain rfl : ad592 = ad596 := Z188
      replace p596 := eq_true p596
      replace q596 := eq_true q596
      go_wp2_with (first | ((with_reducible refine gate_callee (f := 36) rfl ?_);refine goesL_ (some 66) rfl rfl Tryz.func36 Z190 rfl #[.string ((rdOf ByteArray.empty t589 x7_1).extract 0 (x8_25 : Int).toNat)] rfl Z130 ?_;(with_reducible refine (spec_l8Word.calls kj25 ((rdOf ByteArray.empty t589 x7_1).extract 0 (x8_25 : Int).toNat) t597 _ A44.out).mono ?_);rintro e wq1 ⟨rfl,hb⟩;refine ⟨_,rfl,?_⟩;have n_ := Z27;clear HO_5 HO_6 HO_586007 BK573 BK574 BK585 HB;obtain ⟨HO_5,HO_6,HO_586007,BK573,BK574,BK585,HB⟩ := n_;(try clear hb);(try clear hb2);(try clear hk);(try clear hi);have hnbq2 := NB573_574.out;have hncq2 := NB574_573.out;have hnbq3 := NB573_585.out;have hncq3 := NB585_573.out;obtain ⟨hczq4_0,hczq4_1,hczq4_2,hczq4_3,hczq4_4,hczq4_5,hczq4_6,hczq4_7,hfzq4_0,hfzq4_1,hfzq4_2,hfzq4_3,hfzq4_4,hfzq4_5,hfzq4_6,hfzq4_7⟩ := cells8 BK573.out;have hnbq5 := NB574_585.out;have hncq5 := NB585_574.out;obtain ⟨hczq6_0,hczq6_1,hczq6_2,hfzq6_0,hfzq6_1,hfzq6_2⟩ := cells3 BK574.out))
      refine bodyPost_ret (results_cc rfl _ _ gb573 gb574 26 31 #[.int .i64 0,.int .i64 0,.int .i64 0,.int .i64 0,.int .i64 0,.int .i64 0,.int .i64 0,.slice none 0 0] #[.int .i64 11,.int .i64 x7_1,.int .i64 0] (0,0) (0,0) _ _ rfl Z18 Tryz.underlying26 rfl Z190 rfl (by refine bP ?_;refine blk_put (cs := #[.int .i64 11,.int .i64 x7_1,.int .i64 x575002_1]) ?_ 2 _ rfl;refine bP ?_;refine blk_put (cs := #[.int .i64 11,.int .i64 x575001_1,.int .i64 x575002_1]) ?_ 1 _ rfl;refine bP ?_;refine blk_put (cs := #[.int .i64 x575000_1,.int .i64 x575001_1,.int .i64 x575002_1]) ?_ 0 _ rfl;refine bP ?_;refine blk_far ?_ NB574_573.out _;refine bP ?_;refine blk_far ?_ NB574_573.out _;refine bP ?_;refine blk_far ?_ NB574_573.out _;refine bP ?_;refine blk_far ?_ NB574_573.out _;refine bP ?_;refine blk_far ?_ NB574_573.out _;refine bP ?_;refine blk_far ?_ NB574_573.out _;refine bP ?_;refine blk_far ?_ NB574_573.out _;refine bP ?_;refine blk_far ?_ NB574_573.out _;refine bP ?_;exact BK574.out) Tryz.underlying31 rfl Z190) rfl ?_
      exact ⟨_,Z152,Z129,Z214⟩
     rw [if_neg c45] at H
     have c45b0 : decide (t597 < 0) = false := decide_eq_false c45
     clear c45
     obtain ⟨c52,H⟩ := ifp H
     have c52b0 : decide (0 ≤ t597) = true := decide_eq_true c52
     clear c52
     obtain ⟨c53,H⟩ := ifp H
     have c53b0 : decide (t597 < (x5_1.length : Int)) = true := decide_eq_true c53
     clear c53
     obtain ⟨bq54,hbq54⟩ : ∃ b_ : Bool,b_ = (rdOf false x5_1 t597) := ⟨_,rfl⟩
     replace H : (if bq54 = true then (some (0,0,0,0,0,0,0,([] : List Int),6,x7_1,0)) else (if 0 ≤ (wrap64 (x8_25 + 1)) then (if (wrap64 (x8_25 + 1)) ≤ ((rdOf ByteArray.empty t589 x7_1).size : Int) then ((spec_l8Lay.f kj25 x586000_1 x586001_1 x586002_1 x586003_1 x586004_1 x586005_1 x586006_1 x586007_1 t597 ((rdOf ByteArray.empty t589 x7_1).extract ((wrap64 (x8_25 + 1)) : Int).toNat (rdOf ByteArray.empty t589 x7_1).size)).bind fun bt601 => (if bt601.2.2.2.2.2.2.2.2 = 0 then (spec_ReadConfig.l0 kj25 (x5_1.set (t597 : Int).toNat true) t589 (wrap64 (x7_1 + 1)) bt601.1 bt601.2.1 bt601.2.2.1 bt601.2.2.2.1 bt601.2.2.2.2.1 bt601.2.2.2.2.2.1 bt601.2.2.2.2.2.2.1 bt601.2.2.2.2.2.2.2.1) else (some (0,0,0,0,0,0,0,([] : List Int),bt601.2.2.2.2.2.2.2.2,x7_1,0)))) else (none)) else (none))) = some (r1,r2,r3,r4,r5,r6,r7,r8,r9,r10,r11) := by rw [← hbq54] at H;exact H
     have Nbq54 := Aside0.mk hbq54
     clear hbq54
     by_cases c55 : bq54 = true
     ·subst c55
      rw [if_pos rfl] at H
      simp only [Option.some.injEq,Prod.mk.injEq] at H
      obtain ⟨rfl,rfl,rfl,rfl,rfl,rfl,rfl,rfl,rfl,rfl,rfl⟩ := H
      have p595 : 0 ≤ (x7_1 : Int) := of_decide_eq_true Z164
      have q595 : x7_1 < (t589.length : Int) := of_decide_eq_true Z164
      obtain ⟨ad595,e595,hx595_0⟩ := Kd.at_string (Kd.R_reads' HO_6.out).2.2 x7_1 p595 q595
      obtain rfl : ad592 = ad595 := Z187
      replace p595 := eq_true p595
      replace q595 := eq_true q595
      have p596 : 0 ≤ (x7_1 : Int) := of_decide_eq_true Z164
      have q596 : x7_1 < (t589.length : Int) := of_decide_eq_true Z164
      obtain ⟨ad596,e596,hx596_0⟩ := Kd.at_string (Kd.R_reads' HO_6.out).2.2 x7_1 p596 q596
      obtain rfl : ad592 = ad596 := Z188
      replace p596 := eq_true p596
      replace q596 := eq_true q596
      go_wp2_with (first | ((with_reducible refine gate_callee (f := 36) rfl ?_);refine goesL_ (some 66) rfl rfl Tryz.func36 Z190 rfl #[.string ((rdOf ByteArray.empty t589 x7_1).extract 0 (x8_25 : Int).toNat)] rfl Z130 ?_;(with_reducible refine (spec_l8Word.calls kj25 ((rdOf ByteArray.empty t589 x7_1).extract 0 (x8_25 : Int).toNat) t597 _ A44.out).mono ?_);rintro e wq1 ⟨rfl,hb⟩;refine ⟨_,rfl,?_⟩;have n_ := Z27;clear HO_5 HO_6 HO_586007 BK573 BK574 BK585 HB;obtain ⟨HO_5,HO_6,HO_586007,BK573,BK574,BK585,HB⟩ := n_;(try clear hb);(try clear hb2);(try clear hk);(try clear hi);obtain ⟨Aoq2,coq2,eoq2⟩ := Kd.R_slice HO_5.out;subst eoq2;have pq3 : 0 ≤ (t597 : Int) := of_decide_eq_true Z164;have qq3 : t597 < (x5_1.length : Int) := of_decide_eq_true Z164;obtain ⟨adq3,eq3,hxq3_0⟩ := Kd.at_bool (Kd.R_reads' HO_5.out).2.2 t597 pq3 qq3;(try rw [← Nbq54.out] at hxq3_0);cases eq3;replace pq3 := eq_true pq3;replace qq3 := eq_true qq3;have hnbq4 := NB573_574.out;have hncq4 := NB574_573.out;have hnbq5 := NB573_585.out;have hncq5 := NB585_573.out;obtain ⟨hczq6_0,hczq6_1,hczq6_2,hczq6_3,hczq6_4,hczq6_5,hczq6_6,hczq6_7,hfzq6_0,hfzq6_1,hfzq6_2,hfzq6_3,hfzq6_4,hfzq6_5,hfzq6_6,hfzq6_7⟩ := cells8 BK573.out;have hnbq7 := NB574_585.out;have hncq7 := NB585_574.out;obtain ⟨hczq8_0,hczq8_1,hczq8_2,hfzq8_0,hfzq8_1,hfzq8_2⟩ := cells3 BK574.out))
      refine bodyPost_ret (results_cc rfl _ _ gb573 gb574 26 31 #[.int .i64 0,.int .i64 0,.int .i64 0,.int .i64 0,.int .i64 0,.int .i64 0,.int .i64 0,.slice none 0 0] #[.int .i64 6,.int .i64 x7_1,.int .i64 0] (0,0) (0,0) _ _ rfl Z18 Tryz.underlying26 rfl Z190 rfl (by refine bP ?_;refine blk_put (cs := #[.int .i64 6,.int .i64 x7_1,.int .i64 x575002_1]) ?_ 2 _ rfl;refine bP ?_;refine blk_put (cs := #[.int .i64 6,.int .i64 x575001_1,.int .i64 x575002_1]) ?_ 1 _ rfl;refine bP ?_;refine blk_put (cs := #[.int .i64 x575000_1,.int .i64 x575001_1,.int .i64 x575002_1]) ?_ 0 _ rfl;refine bP ?_;refine blk_far ?_ NB574_573.out _;refine bP ?_;refine blk_far ?_ NB574_573.out _;refine bP ?_;refine blk_far ?_ NB574_573.out _;refine bP ?_;refine blk_far ?_ NB574_573.out _;refine bP ?_;refine blk_far ?_ NB574_573.out _;refine bP ?_;refine blk_far ?_ NB574_573.out _;refine bP ?_;refine blk_far ?_ NB574_573.out _;refine bP ?_;refine blk_far ?_ NB574_573.out _;refine bP ?_;exact BK574.out) Tryz.underlying31 rfl Z190) rfl ?_
      exact ⟨_,Z152,Z129,Z214⟩
     replace c55 := Bool.eq_false_iff.mpr c55
     subst c55
     rw [if_neg Bool.false_ne_true] at H
     obtain ⟨y599,hyy⟩ : ∃ y_ : List Bool,y_ = (x5_1.set (t597 : Int).toNat true) := ⟨_,rfl⟩
     replace H : (if 0 ≤ (wrap64 (x8_25 + 1)) then (if (wrap64 (x8_25 + 1)) ≤ ((rdOf ByteArray.empty t589 x7_1).size : Int) then ((spec_l8Lay.f kj25 x586000_1 x586001_1 x586002_1 x586003_1 x586004_1 x586005_1 x586006_1 x586007_1 t597 ((rdOf ByteArray.empty t589 x7_1).extract ((wrap64 (x8_25 + 1)) : Int).toNat (rdOf ByteArray.empty t589 x7_1).size)).bind fun bt601 => (if bt601.2.2.2.2.2.2.2.2 = 0 then (spec_ReadConfig.l0 kj25 y599 t589 (wrap64 (x7_1 + 1)) bt601.1 bt601.2.1 bt601.2.2.1 bt601.2.2.2.1 bt601.2.2.2.2.1 bt601.2.2.2.2.2.1 bt601.2.2.2.2.2.2.1 bt601.2.2.2.2.2.2.2.1) else (some (0,0,0,0,0,0,0,([] : List Int),bt601.2.2.2.2.2.2.2.2,x7_1,0)))) else (none)) else (none)) = some (r1,r2,r3,r4,r5,r6,r7,r8,r9,r10,r11) := zR
     have Ny599 := Aside0.mk hyy
     clear hyy
     obtain ⟨ji64,hji64⟩ : ∃ j_ : Int,(wrap64 (x8_25 + 1)) = j_ := ⟨_,rfl⟩
     replace H : (if 0 ≤ (ji64) then (if (ji64) ≤ ((rdOf ByteArray.empty t589 x7_1).size : Int) then ((spec_l8Lay.f kj25 x586000_1 x586001_1 x586002_1 x586003_1 x586004_1 x586005_1 x586006_1 x586007_1 t597 ((rdOf ByteArray.empty t589 x7_1).extract ((ji64) : Int).toNat (rdOf ByteArray.empty t589 x7_1).size)).bind fun bt601 => (if bt601.2.2.2.2.2.2.2.2 = 0 then (spec_ReadConfig.l0 kj25 y599 t589 (wrap64 (x7_1 + 1)) bt601.1 bt601.2.1 bt601.2.2.1 bt601.2.2.2.1 bt601.2.2.2.2.1 bt601.2.2.2.2.2.1 bt601.2.2.2.2.2.2.1 bt601.2.2.2.2.2.2.2.1) else (some (0,0,0,0,0,0,0,([] : List Int),bt601.2.2.2.2.2.2.2.2,x7_1,0)))) else (none)) else (none)) = some (r1,r2,r3,r4,r5,r6,r7,r8,r9,r10,r11) := by first | (rw [hji64] at H;exact H) | (simp only [hji64] at H ⊢;exact H)
     (try rw [hji64] at A44)
     have hji64w : (IntKind.i64.wrap (x8_25 + 1)) = ji64 := (i64_w _).trans hji64
     obtain ⟨c65,H⟩ := ifp H
     have c65b0 := eq_true c65
     have c65b1 : decide (0 ≤ (ji64)) = true := decide_eq_true c65
     clear c65
     obtain ⟨c66,H⟩ := ifp H
     have c66b0 := eq_true c66
     have c66b1 : decide ((ji64) ≤ ((rdOf ByteArray.empty t589 x7_1).size : Int)) = true := decide_eq_true c66
     clear c66
     obtain ⟨⟨t601,t602,t603,t604,t605,t606,t607,t608,t611⟩,A670,H⟩ := Option.bind_eq_some_iff.mp H
     try dsimp only at H
     have A67 := Aside0.mk A670
     clear A670
     by_cases c68 : t611 = 0
     rotate_left
     ·rw [if_neg c68] at H
      have c68b0 : (t611 == 0) = false := beq_eq_false_iff_ne.mpr c68
      have c68b1 : (t611 != 0) = true := bne_iff_ne.mpr c68
      simp only [Option.some.injEq,Prod.mk.injEq] at H
      obtain ⟨rfl,rfl,rfl,rfl,rfl,rfl,rfl,rfl,rfl,rfl,rfl⟩ := H
      have p595 : 0 ≤ (x7_1 : Int) := of_decide_eq_true Z164
      have q595 : x7_1 < (t589.length : Int) := of_decide_eq_true Z164
      obtain ⟨ad595,e595,hx595_0⟩ := Kd.at_string (Kd.R_reads' HO_6.out).2.2 x7_1 p595 q595
      obtain rfl : ad592 = ad595 := Z187
      replace p595 := eq_true p595
      replace q595 := eq_true q595
      have p596 : 0 ≤ (x7_1 : Int) := of_decide_eq_true Z164
      have q596 : x7_1 < (t589.length : Int) := of_decide_eq_true Z164
      obtain ⟨ad596,e596,hx596_0⟩ := Kd.at_string (Kd.R_reads' HO_6.out).2.2 x7_1 p596 q596
      obtain rfl : ad592 = ad596 := Z188
      replace p596 := eq_true p596
      replace q596 := eq_true q596
      try go_wp2_with (first | ((with_reducible refine gate_callee (f := 36) rfl ?_);refine goesL_ (some 66) rfl rfl Tryz.func36 Z190 rfl #[.string ((rdOf ByteArray.empty t589 x7_1).extract 0 (x8_25 : Int).toNat)] rfl Z130 ?_;(with_reducible refine (spec_l8Word.calls kj25 ((rdOf ByteArray.empty t589 x7_1).extract 0 (x8_25 : Int).toNat) t597 _ A44.out).mono ?_);rintro e w94 ⟨rfl,hb⟩;refine ⟨_,rfl,?_⟩;have n_ := Z27;clear HO_5 HO_6 HO_586007 BK573 BK574 BK585 HB;obtain ⟨HO_5,HO_6,HO_586007,BK573,BK574,BK585,HB⟩ := n_;(try clear hb);(try clear hb2);(try clear hk);(try clear hi);obtain ⟨Ao95,co95,eo95⟩ := Kd.R_slice HO_5.out;subst eo95;have p598 : 0 ≤ (t597 : Int) := of_decide_eq_true Z164;have q598 : t597 < (x5_1.length : Int) := of_decide_eq_true Z164;obtain ⟨ad598,e598,hx598_0⟩ := Kd.at_bool (Kd.R_reads' HO_5.out).2.2 t597 p598 q598;(try rw [← Nbq54.out] at hx598_0);cases e598;replace p598 := eq_true p598;replace q598 := eq_true q598;have p63 : 0 ≤ (t597 : Int) := of_decide_eq_true Z164;have q63 : (t597 : Int) < ((x5_1.length : Int) : Int) := of_decide_eq_true Z164;obtain ⟨go63,co63,eo63,gb63,gl63,cl63,HG63⟩ := Kd.R_form HO_5.out Z285;(first | cases eo63 | (injection eo63 with ea_ en_ ec_;(first | subst ea_ | (injection ea_ with ea_;subst ea_));subst ec_;clear en_));have GB63 := Aside0.mk gb63;have GG63 := Aside0.mk HG63;clear gb63 gl63 HG63;(first | simp only [add_plain] at hx598_0 | skip);obtain ⟨hx63_0,hf63_0⟩ := Kd.R_celln false HO_5.out (t597 : Int) p63 q63;replace p63 := eq_true p63;replace q63 := eq_true q63;obtain ⟨hy96_,hz96_⟩ := Kd.R_celln false HO_5.out (t597 : Int) (of_decide_eq_true Z164) (of_decide_eq_true Z164);have HP96 := Kd.R_putg HO_5.out (t597 : Int) true) | ((with_reducible refine gate_store (t := 4) (p := 81) rfl ?_);refine store_event (t := 4) (p := 81) (v := ?vo_w97) (w1 := (w94.setCell ⟨go63,(t597 : Int).toNat,none⟩ (.bool true))) ?hg ?ho ?hn ?hr ?_;(case ho => rfl);(case hg => rfl);(case hn => rfl);(case hr => exact Z166);intro w97 hw;have hg : w94.grownBy w97 (some go63) := (by rw [hw];exact HP96.2);have hp_ : Kd.R Kd.bool 4 w97 w.heap.size (fun _ => True) (.slice (some ⟨go63,0,none⟩) x5_1.length co95) y599 := (by rw [hw,Ny599.out];exact HP96.1);clear HP96;have n_ := jA (hp_) (jA (Kd.R_over' (v := (.slice (some ⟨go63,0,none⟩) x5_1.length co95)) Z268 (Kd.R_typed HO_5.out) Z306 hg) (jA (Kd.R_over' (v := (.slice (some ⟨go63,0,none⟩) x5_1.length co95)) Z254 (Kd.R_typed HO_5.out) Z306 hg) (jA (blk_grown (g := gb573) (o := .cells #[.int .i64 x574000_1,.int .i64 x574001_1,.int .i64 x574002_1,.int .i64 x574003_1,.int .i64 x574004_1,.int .i64 x574005_1,.int .i64 x574006_1,.slice none 0 0] 26 (0,0)) Z299 hg (Kd.R_ne HO_5.out BK573.out Z306)) (jA (blk_grown (g := gb574) (o := .cells #[.int .i64 x575000_1,.int .i64 x575001_1,.int .i64 x575002_1] 31 (0,0)) Z270 hg (Kd.R_ne HO_5.out BK574.out Z306)) (jA (blk_grown (g := gb585) (o := .cells #[.int .i64 x586000_1,.int .i64 x586001_1,.int .i64 x586002_1,.int .i64 x586003_1,.int .i64 x586004_1,.int .i64 x586005_1,.int .i64 x586006_1,u586007] 26 (0,0)) Z271 hg (Kd.R_ne HO_5.out BK585.out Z306)) (Aside0.mk ((by rw [hw];exact below_set (HB.out) GB63.out : Below w.heap.size w w97))))))));clear HO_5 HO_6 HO_586007 BK573 BK574 BK585 HB;obtain ⟨HO_5,HO_6,HO_586007,BK573,BK574,BK585,HB⟩ := n_;clear hg hw hp_;obtain ⟨Ao98,co98,eo98⟩ := Kd.R_slice HO_586007.out;subst eo98))
      have n_ := jA (Kd.R_drew HO_5.out) (jA (Kd.R_drew HO_6.out) (jA (Kd.R_drew HO_586007.out) (jA (blk_drew BK573.out) (jA (blk_drew BK574.out) (jA (blk_drew BK585.out) (Aside0.mk (below_drew1 HB.out)))))))
      clear HO_5 HO_6 HO_586007 BK573 BK574 BK585 HB
      obtain ⟨HO_5,HO_6,HO_586007,BK573,BK574,BK585,HB⟩ := n_
      have p600 : 0 ≤ (x7_1 : Int) := of_decide_eq_true Z164
      have q600 : x7_1 < (t589.length : Int) := of_decide_eq_true Z164
      obtain ⟨ad600,e600,hx600_0⟩ := Kd.at_string (Kd.R_reads' HO_6.out).2.2 x7_1 p600 q600
      obtain rfl : ad592 = ad600 := (by injection e600)
      replace p600 := eq_true p600
      replace q600 := eq_true q600
      refine start_ (n := 16) (S := fun w' => w'.cell? ⟨gb585,0,none⟩ = some (.int .i64 x586000_1) ∧ w'.cell? ⟨gb585,1,none⟩ = some (.int .i64 x586001_1) ∧ w'.cell? ⟨gb585,2,none⟩ = some (.int .i64 x586002_1) ∧ w'.cell? ⟨gb585,3,none⟩ = some (.int .i64 x586003_1) ∧ w'.cell? ⟨gb585,4,none⟩ = some (.int .i64 x586004_1) ∧ w'.cell? ⟨gb585,5,none⟩ = some (.int .i64 x586005_1) ∧ w'.cell? ⟨gb585,6,none⟩ = some (.int .i64 x586006_1) ∧ w'.cell? ⟨gb585,7,none⟩ = some (.slice Ao98 x586007_1.length co98) ∧ w'.cell? (ad592.add (x7_1).toNat) = some (.string (rdOf ByteArray.empty t589 x7_1))) (ds := []) (qM 16 0) Z190 rfl (by kernel_rfl) ⟨bc BK585 0,bc BK585 1,bc BK585 2,bc BK585 3,bc BK585 4,bc BK585 5,bc BK585 6,bc BK585 7,hx600_0⟩ (fun hHeld => ?_);refine with_tabW spec_ReadConfig.tab21 spec_ReadConfig.bits21 (fun HT_ HW_ => ?_)
      generalize w97.drew = w99 at HO_5 HO_6 HO_586007 BK573 BK574 BK585 HB hx600_0 hHeld ⊢
      refine rP 1 84 16 2 HT_ (h := ?_)
      refine rP 2 85 16 6 HT_ (h := ?_)
      refine rP 3 86 16 14 HT_ (h := ?_)
      refine rP 4 87 16 30 HT_ (h := ?_)
      refine rP 6 89 16 94 HT_ (h := ?_)
      refine rP 7 90 16 222 HT_ (h := ?_)
      refine rT9 0 83 16 223 HT_ HW_ hHeld (h := ?_)
      refine rT9 5 88 16 255 HT_ HW_ hHeld (h := ?_)
      refine rP 8 91 16 511 HT_ (h := ?_)
      refine join_ (σ := Value × Nat) 2 (qM 16 16383) (fun s_ => [(92,.tuple #[.agg #[.int .i64 t601,.int .i64 t602,.int .i64 t603,.int .i64 t604,.int .i64 t605,.int .i64 t606,.int .i64 t607,s_.1],.int .i64 t611]),(10,.pointer (some ⟨s_.2,0,none⟩)),(82,.tuple #[.agg #[.int .i64 t601,.int .i64 t602,.int .i64 t603,.int .i64 t604,.int .i64 t605,.int .i64 t606,.int .i64 t607,s_.1],.int .i64 t611]),(93,.agg #[.int .i64 t601,.int .i64 t602,.int .i64 t603,.int .i64 t604,.int .i64 t605,.int .i64 t606,.int .i64 t607,s_.1]),(94,.int .i64 t611)]) (fun s_ w' => (w'.cell? ⟨gb585,0,none⟩ = some (.int .i64 x586000_1) ∧ w'.cell? ⟨gb585,1,none⟩ = some (.int .i64 x586001_1) ∧ w'.cell? ⟨gb585,2,none⟩ = some (.int .i64 x586002_1) ∧ w'.cell? ⟨gb585,3,none⟩ = some (.int .i64 x586003_1) ∧ w'.cell? ⟨gb585,4,none⟩ = some (.int .i64 x586004_1) ∧ w'.cell? ⟨gb585,5,none⟩ = some (.int .i64 x586005_1) ∧ w'.cell? ⟨gb585,6,none⟩ = some (.int .i64 x586006_1) ∧ w'.cell? ⟨gb585,7,none⟩ = some (.slice Ao98 x586007_1.length co98) ∧ w'.cell? (ad592.add (x7_1).toNat) = some (.string (rdOf ByteArray.empty t589 x7_1))) ∧ (Kd.R (Kd.int .i64) 3 w' w.heap.size (fun _ => True) s_.1 t608) ∧ (Kd.R Kd.bool 4 w' w.heap.size (fun _ => True) (.slice (some ⟨go63,0,none⟩) x5_1.length co95) y599) ∧ (Kd.R Kd.string 9 w' w.heap.size (fun _ => True) (.slice (some ad592) t589.length co27) t589) ∧ (w'.heap[gb573]? = some (.cells #[.int .i64 x574000_1,.int .i64 x574001_1,.int .i64 x574002_1,.int .i64 x574003_1,.int .i64 x574004_1,.int .i64 x574005_1,.int .i64 x574006_1,.slice none 0 0] 26 (0,0))) ∧ (w'.heap[gb574]? = some (.cells #[.int .i64 x575000_1,.int .i64 x575001_1,.int .i64 x575002_1] 31 (0,0))) ∧ (w'.heap[gb585]? = some (.cells #[.int .i64 x586000_1,.int .i64 x586001_1,.int .i64 x586002_1,.int .i64 x586003_1,.int .i64 x586004_1,.int .i64 x586005_1,.int .i64 x586006_1,.slice Ao98 x586007_1.length co98] 26 (0,0))) ∧ (w'.heap[s_.2]? = some (.cells #[.int .i64 0,.int .i64 0,.int .i64 0,.int .i64 0,.int .i64 0,.int .i64 0,.int .i64 0,.slice none 0 0] 26 (0,0))) ∧ (w.heap.size ≤ s_.2) ∧ (w.heap.size ≤ s_.2) ∧ (gb573 ≠ s_.2) ∧ (s_.2 ≠ gb573) ∧ (gb574 ≠ s_.2) ∧ (s_.2 ≠ gb574) ∧ (gb585 ≠ s_.2) ∧ (s_.2 ≠ gb585) ∧ (Below w.heap.size w w')) ?_ ?_
      rotate_left
      ·intro hCont
       refine two_ (i := 9) (j := 13) (Ni := some 92) (Nj := some 10) (qM 16 1023) (qM 16 8703) rfl rfl rfl rfl (two_of HT_.out Z190) Z306 Z306 (fun K hK => ?_) (fun K hK => ?_)
       ·skip
        refine goes_ Tryz.func37 Z190 rfl #[.agg #[.int .i64 x586000_1,.int .i64 x586001_1,.int .i64 x586002_1,.int .i64 x586003_1,.int .i64 x586004_1,.int .i64 x586005_1,.int .i64 x586006_1,.slice Ao98 x586007_1.length co98],.int .i64 t597,.string ((rdOf ByteArray.empty t589 x7_1).extract ((ji64) : Int).toNat (rdOf ByteArray.empty t589 x7_1).size)] Z191 rfl rfl Z124 ?_
        with_reducible refine (spec_l8Lay.calls kj25 x586000_1 x586001_1 x586002_1 x586003_1 x586004_1 x586005_1 x586006_1 (fun k_ => some k_ = (.slice Ao98 x586007_1.length co98 : Value).ownBlock) (.slice Ao98 x586007_1.length co98) x586007_1 t597 ((rdOf ByteArray.empty t589 x7_1).extract ((ji64) : Int).toNat (rdOf ByteArray.empty t589 x7_1).size) t601 t602 t603 t604 t605 t606 t607 t608 t611 w _ ?side1 ?side2 A67.out).mono ?_
        (case side1 => exact Z214)
        (case side2 => exact Z170)
        rintro e w100 ⟨v609,rfl,ho0,hb,hkp⟩
        have HS8_ := cell_kept (hHeld.2.2.2.2.2.2.2.2) hkp Z50
        refine ⟨_,rfl,?_⟩
        have n_ := jA (Kd.R_mono (ok' := fun k_ => True) (Kd.R_keptB ((Kd.R_apart' HO_5.out (Kd.R_typed HO_586007.out) Z306)) hkp (fun k_ hk_ hs_ => (hk_.2) hs_)) (fun k_ hk_ => trivial)) (jA (Kd.R_mono (ok' := fun k_ => True) (Kd.R_keptB ((Kd.R_apart' HO_6.out (Kd.R_typed HO_586007.out) Z306)) hkp (fun k_ hk_ hs_ => (hk_.2) hs_)) (fun k_ hk_ => trivial)) (jA (blk_kept Z299 hkp (fun hs_ => (fun e_ => (Kd.R_ne HO_586007.out BK573.out Z306) e_) hs_)) (jA (blk_kept Z270 hkp (fun hs_ => (fun e_ => (Kd.R_ne HO_586007.out BK574.out Z306) e_) hs_)) (jA (blk_kept Z271 hkp (fun hs_ => (fun e_ => (Kd.R_ne HO_586007.out BK585.out Z306) e_) hs_)) (jA (Kd.R_mono (ok' := fun k_ => True) ho0 (fun k_ hk_ => trivial)) (Aside0.mk (hb)))))))
        clear HO_5 HO_6 BK573 BK574 BK585 HB HO_586007
        obtain ⟨HO_5,HO_6,BK573,BK574,BK585,HO610,HB⟩ := n_
        (try clear hb)
        (try clear hkp)
        (try clear ho0)
        refine hK.out _ _ ⟨bc BK585 0,bc BK585 1,bc BK585 2,bc BK585 3,bc BK585 4,bc BK585 5,bc BK585 6,bc BK585 7,HS8_⟩ (fun hHeld => ?_)
        clear hK K
        refine rN (h := ?_)
        refine rP 10 82 16 2047 HT_ (h := ?_)
        refine rP 11 93 16 4095 HT_ (h := ?_)
        refine rP 12 94 16 8191 HT_ (h := ?_)
        refine rO 13 10 16 16383 HT_ (h := fun K hK => ?_)
        refine box_step ?hg (N := 10) ?hd (cs := #[.int .i64 0,.int .i64 0,.int .i64 0,.int .i64 0,.int .i64 0,.int .i64 0,.int .i64 0,.slice none 0 0]) (t := 26) ?hr ?_;(case hd => rfl);(case hg => rfl);(case hr => exact Z166)
        intro gb612 hg w101 hbox hb
        have HS8_ := (hb.cell (World.block_lt_of_cell? _ _ (hHeld.2.2.2.2.2.2.2.2))).trans (hHeld.2.2.2.2.2.2.2.2)
        have n_ := jA (Kd.R_below Z267 hb) (jA (Kd.R_below Z268 hb) (jA (Kd.R_below Z140 hb) (jA (blk_below (g := gb573) (o := .cells #[.int .i64 x574000_1,.int .i64 x574001_1,.int .i64 x574002_1,.int .i64 x574003_1,.int .i64 x574004_1,.int .i64 x574005_1,.int .i64 x574006_1,.slice none 0 0] 26 (0,0)) Z299 hb) (jA (blk_below (g := gb574) (o := .cells #[.int .i64 x575000_1,.int .i64 x575001_1,.int .i64 x575002_1] 31 (0,0)) Z270 hb) (jA (blk_below (g := gb585) (o := .cells #[.int .i64 x586000_1,.int .i64 x586001_1,.int .i64 x586002_1,.int .i64 x586003_1,.int .i64 x586004_1,.int .i64 x586005_1,.int .i64 x586006_1,.slice Ao98 x586007_1.length co98] 26 (0,0)) Z271 hb) (jA (below_step Z214 hb) (jA (hbox) (jA ((Z71 : w.heap.size ≤ gb612)) (jA ((Z71 : w.heap.size ≤ gb612)) (jA ((Z68 : gb573 ≠ gb612)) (jA ((Z69 : gb612 ≠ gb573)) (jA ((Z116 : gb574 ≠ gb612)) (jA ((Z117 : gb612 ≠ gb574)) (jA ((Z64 : gb585 ≠ gb612)) (Aside0.mk ((Z66 : gb612 ≠ gb585)))))))))))))))))
        clear HO_5 HO_6 HO610 BK573 BK574 BK585 HB
        obtain ⟨HO_5,HO_6,HO610,BK573,BK574,BK585,HB,BK612,GW612,GE612,NB573_612,NB612_573,NB574_612,NB612_574,NB585_612,NB612_585⟩ := n_
        clear hb hbox hg
        refine hK.out _ _ ⟨bc BK585 0,bc BK585 1,bc BK585 2,bc BK585 3,bc BK585 4,bc BK585 5,bc BK585 6,bc BK585 7,HS8_⟩ (fun hHeld => ?_)
        clear hK K
        refine rN (h := ?_)
        exact norm_ Z153 (hCont (v609,gb612) _ ⟨hHeld,Z140,Z267,Z268,Z299,Z270,Z271,Z179,GW612.out,GE612.out,NB573_612.out,NB612_573.out,NB574_612.out,NB612_574.out,NB585_612.out,NB612_585.out,Z72⟩)
       skip
       refine box_step ?hg (N := 10) ?hd (cs := #[.int .i64 0,.int .i64 0,.int .i64 0,.int .i64 0,.int .i64 0,.int .i64 0,.int .i64 0,.slice none 0 0]) (t := 26) ?hr ?_;(case hd => rfl);(case hg => rfl);(case hr => exact Z166)
       intro gb612 hg w100 hbox hb
       have HS8_ := (hb.cell (World.block_lt_of_cell? _ _ (hHeld.2.2.2.2.2.2.2.2))).trans (hHeld.2.2.2.2.2.2.2.2)
       have n_ := jA (Kd.R_below Z267 hb) (jA (Kd.R_below Z268 hb) (jA (Kd.R_below Z254 hb) (jA (blk_below (g := gb573) (o := .cells #[.int .i64 x574000_1,.int .i64 x574001_1,.int .i64 x574002_1,.int .i64 x574003_1,.int .i64 x574004_1,.int .i64 x574005_1,.int .i64 x574006_1,.slice none 0 0] 26 (0,0)) Z299 hb) (jA (blk_below (g := gb574) (o := .cells #[.int .i64 x575000_1,.int .i64 x575001_1,.int .i64 x575002_1] 31 (0,0)) Z270 hb) (jA (blk_below (g := gb585) (o := .cells #[.int .i64 x586000_1,.int .i64 x586001_1,.int .i64 x586002_1,.int .i64 x586003_1,.int .i64 x586004_1,.int .i64 x586005_1,.int .i64 x586006_1,.slice Ao98 x586007_1.length co98] 26 (0,0)) Z271 hb) (jA (below_step Z214 hb) (jA (hbox) (jA ((Z71 : w.heap.size ≤ gb612)) (jA ((Z71 : w.heap.size ≤ gb612)) (jA ((Z68 : gb573 ≠ gb612)) (jA ((Z69 : gb612 ≠ gb573)) (jA ((Z116 : gb574 ≠ gb612)) (jA ((Z117 : gb612 ≠ gb574)) (jA ((Z64 : gb585 ≠ gb612)) (Aside0.mk ((Z66 : gb612 ≠ gb585)))))))))))))))))
       clear HO_5 HO_6 HO_586007 BK573 BK574 BK585 HB
       obtain ⟨HO_5,HO_6,HO_586007,BK573,BK574,BK585,HB,BK612,GW612,GE612,NB573_612,NB612_573,NB574_612,NB612_574,NB585_612,NB612_585⟩ := n_
       clear hb hbox hg
       refine hK.out _ _ ⟨bc BK585 0,bc BK585 1,bc BK585 2,bc BK585 3,bc BK585 4,bc BK585 5,bc BK585 6,bc BK585 7,HS8_⟩ (fun hHeld => ?_)
       clear hK K
       refine rN (h := ?_)
       refine rO 9 92 16 9215 HT_ (h := fun K hK => ?_)
       refine goes_ Tryz.func37 Z190 rfl #[.agg #[.int .i64 x586000_1,.int .i64 x586001_1,.int .i64 x586002_1,.int .i64 x586003_1,.int .i64 x586004_1,.int .i64 x586005_1,.int .i64 x586006_1,.slice Ao98 x586007_1.length co98],.int .i64 t597,.string ((rdOf ByteArray.empty t589 x7_1).extract ((ji64) : Int).toNat (rdOf ByteArray.empty t589 x7_1).size)] Z191 rfl rfl Z124 ?_
       with_reducible refine (spec_l8Lay.calls kj25 x586000_1 x586001_1 x586002_1 x586003_1 x586004_1 x586005_1 x586006_1 (fun k_ => some k_ = (.slice Ao98 x586007_1.length co98 : Value).ownBlock) (.slice Ao98 x586007_1.length co98) x586007_1 t597 ((rdOf ByteArray.empty t589 x7_1).extract ((ji64) : Int).toNat (rdOf ByteArray.empty t589 x7_1).size) t601 t602 t603 t604 t605 t606 t607 t608 t611 w _ ?side1 ?side2 A67.out).mono ?_
       (case side1 => exact Z72)
       (case side2 => exact Z170)
       rintro e w101 ⟨v609,rfl,ho0,hb,hkp⟩
       have HS8_ := cell_kept (hHeld.2.2.2.2.2.2.2.2) hkp Z50
       refine ⟨_,rfl,?_⟩
       have n_ := jA (Kd.R_mono (ok' := fun k_ => True) (Kd.R_keptB ((Kd.R_apart' HO_5.out (Kd.R_typed HO_586007.out) Z306)) hkp (fun k_ hk_ hs_ => (hk_.2) hs_)) (fun k_ hk_ => trivial)) (jA (Kd.R_mono (ok' := fun k_ => True) (Kd.R_keptB ((Kd.R_apart' HO_6.out (Kd.R_typed HO_586007.out) Z306)) hkp (fun k_ hk_ hs_ => (hk_.2) hs_)) (fun k_ hk_ => trivial)) (jA (blk_kept Z299 hkp (fun hs_ => (fun e_ => (Kd.R_ne HO_586007.out BK573.out Z306) e_) hs_)) (jA (blk_kept Z270 hkp (fun hs_ => (fun e_ => (Kd.R_ne HO_586007.out BK574.out Z306) e_) hs_)) (jA (blk_kept Z271 hkp (fun hs_ => (fun e_ => (Kd.R_ne HO_586007.out BK585.out Z306) e_) hs_)) (jA (blk_kept Z179 hkp (fun hs_ => (fun e_ => (Kd.R_ne HO_586007.out BK612.out Z306) e_) hs_)) (jA (Kd.R_mono (ok' := fun k_ => True) ho0 (fun k_ hk_ => trivial)) (Aside0.mk (hb))))))))
       clear HO_5 HO_6 BK573 BK574 BK585 BK612 HB HO_586007
       obtain ⟨HO_5,HO_6,BK573,BK574,BK585,BK612,HO610,HB⟩ := n_
       (try clear hb)
       (try clear hkp)
       (try clear ho0)
       refine hK.out _ _ ⟨bc BK585 0,bc BK585 1,bc BK585 2,bc BK585 3,bc BK585 4,bc BK585 5,bc BK585 6,bc BK585 7,HS8_⟩ (fun hHeld => ?_)
       clear hK K
       refine rN (h := ?_)
       refine rP 10 82 16 10239 HT_ (h := ?_)
       refine rP 11 93 16 12287 HT_ (h := ?_)
       refine rP 12 94 16 16383 HT_ (h := ?_)
       exact norm_ Z153 (hCont (v609,gb612) _ ⟨hHeld,Z140,Z267,Z268,Z299,Z270,Z271,Z179,GW612.out,GE612.out,NB573_612.out,NB612_573.out,NB574_612.out,NB612_574.out,NB585_612.out,NB612_585.out,Z72⟩)
      rintro ⟨v609,gb612⟩ w102 ⟨hS_,h0_,h1_,h2_,h3_,h4_,h5_,h6_,h7_,h8_,h9_,h10_,h11_,h12_,h13_,h14_,h15_⟩
      have n0_ : Aside0 (Kd.R (Kd.int .i64) 3 w102 w.heap.size (fun _ => True) v609 t608) := ⟨h0_⟩
      have n1_ : Aside0 (Kd.R Kd.bool 4 w102 w.heap.size (fun _ => True) (.slice (some ⟨go63,0,none⟩) x5_1.length co95) y599) := ⟨h1_⟩
      have n2_ : Aside0 (Kd.R Kd.string 9 w102 w.heap.size (fun _ => True) (.slice (some ad592) t589.length co27) t589) := ⟨h2_⟩
      have n3_ : Aside0 (w102.heap[gb573]? = some (.cells #[.int .i64 x574000_1,.int .i64 x574001_1,.int .i64 x574002_1,.int .i64 x574003_1,.int .i64 x574004_1,.int .i64 x574005_1,.int .i64 x574006_1,.slice none 0 0] 26 (0,0))) := ⟨h3_⟩
      have n4_ : Aside0 (w102.heap[gb574]? = some (.cells #[.int .i64 x575000_1,.int .i64 x575001_1,.int .i64 x575002_1] 31 (0,0))) := ⟨h4_⟩
      have n5_ : Aside0 (w102.heap[gb585]? = some (.cells #[.int .i64 x586000_1,.int .i64 x586001_1,.int .i64 x586002_1,.int .i64 x586003_1,.int .i64 x586004_1,.int .i64 x586005_1,.int .i64 x586006_1,.slice Ao98 x586007_1.length co98] 26 (0,0))) := ⟨h5_⟩
      have n6_ : Aside0 (w102.heap[gb612]? = some (.cells #[.int .i64 0,.int .i64 0,.int .i64 0,.int .i64 0,.int .i64 0,.int .i64 0,.int .i64 0,.slice none 0 0] 26 (0,0))) := ⟨h6_⟩
      have n7_ : Aside0 (w.heap.size ≤ gb612) := ⟨h7_⟩
      have n8_ : Aside0 (w.heap.size ≤ gb612) := ⟨h8_⟩
      have n9_ : Aside0 (gb573 ≠ gb612) := ⟨h9_⟩
      have n10_ : Aside0 (gb612 ≠ gb573) := ⟨h10_⟩
      have n11_ : Aside0 (gb574 ≠ gb612) := ⟨h11_⟩
      have n12_ : Aside0 (gb612 ≠ gb574) := ⟨h12_⟩
      have n13_ : Aside0 (gb585 ≠ gb612) := ⟨h13_⟩
      have n14_ : Aside0 (gb612 ≠ gb585) := ⟨h14_⟩
      have n15_ : Aside0 (Below w.heap.size w w102) := ⟨h15_⟩
      clear HO_5
      clear HO_6
      clear HO_586007
      clear BK573
      clear BK574
      clear BK585
      clear HB
      clear h0_ h1_ h2_ h3_ h4_ h5_ h6_ h7_ h8_ h9_ h10_ h11_ h12_ h13_ h14_ h15_
      have HO610 := n0_
      have HO_5 := n1_
      have HO_6 := n2_
      have BK573 := n3_
      have BK574 := n4_
      have BK585 := n5_
      have BK612 := n6_
      have GW612 := n7_
      have GE612 := n8_
      have NB573_612 := n9_
      have NB612_573 := n10_
      have NB574_612 := n11_
      have NB612_574 := n12_
      have NB585_612 := n13_
      have NB612_585 := n14_
      have HB := n15_
      clear n0_ n1_ n2_ n3_ n4_ n5_ n6_ n7_ n8_ n9_ n10_ n11_ n12_ n13_ n14_ n15_
      have hHeld : w102.cell? ⟨gb585,0,none⟩ = some (.int .i64 x586000_1) ∧ w102.cell? ⟨gb585,1,none⟩ = some (.int .i64 x586001_1) ∧ w102.cell? ⟨gb585,2,none⟩ = some (.int .i64 x586002_1) ∧ w102.cell? ⟨gb585,3,none⟩ = some (.int .i64 x586003_1) ∧ w102.cell? ⟨gb585,4,none⟩ = some (.int .i64 x586004_1) ∧ w102.cell? ⟨gb585,5,none⟩ = some (.int .i64 x586005_1) ∧ w102.cell? ⟨gb585,6,none⟩ = some (.int .i64 x586006_1) ∧ w102.cell? ⟨gb585,7,none⟩ = some (.slice Ao98 x586007_1.length co98) ∧ w102.cell? (ad592.add (x7_1).toNat) = some (.string (rdOf ByteArray.empty t589 x7_1)) := hS_
      obtain ⟨Ao110,co110,eo110⟩ := Kd.R_slice HO610.out
      (first | subst eo110 | (injection eo110 with f1_ f2_ f3_;have f4_ := f1_.symm;have f5_ := f3_.symm;clear f1_ f2_ f3_;subst f4_;subst f5_))
      refine norm_ (a' := ?_) ?_ ?_
      rotate_left
      ·simp only [putAll,Act.put,List.setIfInBounds_toArray,List.set_cons_zero,List.set_cons_succ]
       rfl
      refine one_ (i := 14) (N := none) (qM 16 32767) rfl rfl (one_of HT_.out Z190) Z306 (fun K hK => ?_)
      have hs103 : w102.cell? ⟨gb612,0,none⟩ = some (.int .i64 0) := bc BK612 0
      have hfs103 := blk_frozen BK612.out 0
      have hns103_0 := NB573_612.out
      have hns103_1 := NB574_612.out
      have hns103_2 := NB585_612.out
      have hms103_0 := NB612_573.out
      have hms103_1 := NB612_574.out
      have hms103_2 := NB612_585.out
      have hs104 : w102.cell? ⟨gb612,1,none⟩ = some (.int .i64 0) := bc BK612 1
      have hfs104 := blk_frozen BK612.out 1
      have hns104_0 := NB573_612.out
      have hns104_1 := NB574_612.out
      have hns104_2 := NB585_612.out
      have hms104_0 := NB612_573.out
      have hms104_1 := NB612_574.out
      have hms104_2 := NB612_585.out
      have hs105 : w102.cell? ⟨gb612,2,none⟩ = some (.int .i64 0) := bc BK612 2
      have hfs105 := blk_frozen BK612.out 2
      have hns105_0 := NB573_612.out
      have hns105_1 := NB574_612.out
      have hns105_2 := NB585_612.out
      have hms105_0 := NB612_573.out
      have hms105_1 := NB612_574.out
      have hms105_2 := NB612_585.out
      have hs106 : w102.cell? ⟨gb612,3,none⟩ = some (.int .i64 0) := bc BK612 3
      have hfs106 := blk_frozen BK612.out 3
      have hns106_0 := NB573_612.out
      have hns106_1 := NB574_612.out
      have hns106_2 := NB585_612.out
      have hms106_0 := NB612_573.out
      have hms106_1 := NB612_574.out
      have hms106_2 := NB612_585.out
      have hs107 : w102.cell? ⟨gb612,4,none⟩ = some (.int .i64 0) := bc BK612 4
      have hfs107 := blk_frozen BK612.out 4
      have hns107_0 := NB573_612.out
      have hns107_1 := NB574_612.out
      have hns107_2 := NB585_612.out
      have hms107_0 := NB612_573.out
      have hms107_1 := NB612_574.out
      have hms107_2 := NB612_585.out
      have hs108 : w102.cell? ⟨gb612,5,none⟩ = some (.int .i64 0) := bc BK612 5
      have hfs108 := blk_frozen BK612.out 5
      have hns108_0 := NB573_612.out
      have hns108_1 := NB574_612.out
      have hns108_2 := NB585_612.out
      have hms108_0 := NB612_573.out
      have hms108_1 := NB612_574.out
      have hms108_2 := NB612_585.out
      have hs109 : w102.cell? ⟨gb612,6,none⟩ = some (.int .i64 0) := bc BK612 6
      have hfs109 := blk_frozen BK612.out 6
      have hns109_0 := NB573_612.out
      have hns109_1 := NB574_612.out
      have hns109_2 := NB585_612.out
      have hms109_0 := NB612_573.out
      have hms109_1 := NB612_574.out
      have hms109_2 := NB612_585.out
      have hs111 : w102.cell? ⟨gb612,7,none⟩ = some (.slice none 0 0) := bc BK612 7
      have hfs111 := blk_frozen BK612.out 7
      have hns111_0 := NB573_612.out
      have hns111_1 := NB574_612.out
      have hns111_2 := NB585_612.out
      have hms111_0 := NB612_573.out
      have hms111_1 := NB612_574.out
      have hms111_2 := NB612_585.out
      refine skip_ (w1 := ?_) Z191 rfl ?_ ?_
      rotate_left
      ·go_simp
       rfl
      refine hK.out _ _ ⟨((cell_far (p := ⟨gb612,_,none⟩) NB585_612.out _).trans (((cell_far (p := ⟨gb612,_,none⟩) NB585_612.out _).trans (((cell_far (p := ⟨gb612,_,none⟩) NB585_612.out _).trans (((cell_far (p := ⟨gb612,_,none⟩) NB585_612.out _).trans (((cell_far (p := ⟨gb612,_,none⟩) NB585_612.out _).trans (((cell_far (p := ⟨gb612,_,none⟩) NB585_612.out _).trans (((cell_far (p := ⟨gb612,_,none⟩) NB585_612.out _).trans (((cell_far (p := ⟨gb612,_,none⟩) NB585_612.out _).trans (hHeld.1)))))))))))))))),((cell_far (p := ⟨gb612,_,none⟩) NB585_612.out _).trans (((cell_far (p := ⟨gb612,_,none⟩) NB585_612.out _).trans (((cell_far (p := ⟨gb612,_,none⟩) NB585_612.out _).trans (((cell_far (p := ⟨gb612,_,none⟩) NB585_612.out _).trans (((cell_far (p := ⟨gb612,_,none⟩) NB585_612.out _).trans (((cell_far (p := ⟨gb612,_,none⟩) NB585_612.out _).trans (((cell_far (p := ⟨gb612,_,none⟩) NB585_612.out _).trans (((cell_far (p := ⟨gb612,_,none⟩) NB585_612.out _).trans (hHeld.2.1)))))))))))))))),((cell_far (p := ⟨gb612,_,none⟩) NB585_612.out _).trans (((cell_far (p := ⟨gb612,_,none⟩) NB585_612.out _).trans (((cell_far (p := ⟨gb612,_,none⟩) NB585_612.out _).trans (((cell_far (p := ⟨gb612,_,none⟩) NB585_612.out _).trans (((cell_far (p := ⟨gb612,_,none⟩) NB585_612.out _).trans (((cell_far (p := ⟨gb612,_,none⟩) NB585_612.out _).trans (((cell_far (p := ⟨gb612,_,none⟩) NB585_612.out _).trans (((cell_far (p := ⟨gb612,_,none⟩) NB585_612.out _).trans (hHeld.2.2.1)))))))))))))))),((cell_far (p := ⟨gb612,_,none⟩) NB585_612.out _).trans (((cell_far (p := ⟨gb612,_,none⟩) NB585_612.out _).trans (((cell_far (p := ⟨gb612,_,none⟩) NB585_612.out _).trans (((cell_far (p := ⟨gb612,_,none⟩) NB585_612.out _).trans (((cell_far (p := ⟨gb612,_,none⟩) NB585_612.out _).trans (((cell_far (p := ⟨gb612,_,none⟩) NB585_612.out _).trans (((cell_far (p := ⟨gb612,_,none⟩) NB585_612.out _).trans (((cell_far (p := ⟨gb612,_,none⟩) NB585_612.out _).trans (hHeld.2.2.2.1)))))))))))))))),((cell_far (p := ⟨gb612,_,none⟩) NB585_612.out _).trans (((cell_far (p := ⟨gb612,_,none⟩) NB585_612.out _).trans (((cell_far (p := ⟨gb612,_,none⟩) NB585_612.out _).trans (((cell_far (p := ⟨gb612,_,none⟩) NB585_612.out _).trans (((cell_far (p := ⟨gb612,_,none⟩) NB585_612.out _).trans (((cell_far (p := ⟨gb612,_,none⟩) NB585_612.out _).trans (((cell_far (p := ⟨gb612,_,none⟩) NB585_612.out _).trans (((cell_far (p := ⟨gb612,_,none⟩) NB585_612.out _).trans (hHeld.2.2.2.2.1)))))))))))))))),((cell_far (p := ⟨gb612,_,none⟩) NB585_612.out _).trans (((cell_far (p := ⟨gb612,_,none⟩) NB585_612.out _).trans (((cell_far (p := ⟨gb612,_,none⟩) NB585_612.out _).trans (((cell_far (p := ⟨gb612,_,none⟩) NB585_612.out _).trans (((cell_far (p := ⟨gb612,_,none⟩) NB585_612.out _).trans (((cell_far (p := ⟨gb612,_,none⟩) NB585_612.out _).trans (((cell_far (p := ⟨gb612,_,none⟩) NB585_612.out _).trans (((cell_far (p := ⟨gb612,_,none⟩) NB585_612.out _).trans (hHeld.2.2.2.2.2.1)))))))))))))))),((cell_far (p := ⟨gb612,_,none⟩) NB585_612.out _).trans (((cell_far (p := ⟨gb612,_,none⟩) NB585_612.out _).trans (((cell_far (p := ⟨gb612,_,none⟩) NB585_612.out _).trans (((cell_far (p := ⟨gb612,_,none⟩) NB585_612.out _).trans (((cell_far (p := ⟨gb612,_,none⟩) NB585_612.out _).trans (((cell_far (p := ⟨gb612,_,none⟩) NB585_612.out _).trans (((cell_far (p := ⟨gb612,_,none⟩) NB585_612.out _).trans (((cell_far (p := ⟨gb612,_,none⟩) NB585_612.out _).trans (hHeld.2.2.2.2.2.2.1)))))))))))))))),((cell_far (p := ⟨gb612,_,none⟩) NB585_612.out _).trans (((cell_far (p := ⟨gb612,_,none⟩) NB585_612.out _).trans (((cell_far (p := ⟨gb612,_,none⟩) NB585_612.out _).trans (((cell_far (p := ⟨gb612,_,none⟩) NB585_612.out _).trans (((cell_far (p := ⟨gb612,_,none⟩) NB585_612.out _).trans (((cell_far (p := ⟨gb612,_,none⟩) NB585_612.out _).trans (((cell_far (p := ⟨gb612,_,none⟩) NB585_612.out _).trans (((cell_far (p := ⟨gb612,_,none⟩) NB585_612.out _).trans (hHeld.2.2.2.2.2.2.2.1)))))))))))))))),((cell_far (p := ⟨gb612,_,none⟩) Z60 _).trans (((cell_far (p := ⟨gb612,_,none⟩) Z60 _).trans (((cell_far (p := ⟨gb612,_,none⟩) Z60 _).trans (((cell_far (p := ⟨gb612,_,none⟩) Z60 _).trans (((cell_far (p := ⟨gb612,_,none⟩) Z60 _).trans (((cell_far (p := ⟨gb612,_,none⟩) Z60 _).trans (((cell_far (p := ⟨gb612,_,none⟩) Z60 _).trans (((cell_far (p := ⟨gb612,_,none⟩) Z60 _).trans (hHeld.2.2.2.2.2.2.2.2))))))))))))))))⟩ (fun hHeld => ?_)
      clear hK K
      refine rP 15 11 16 65535 HT_ (h := ?_)
      refine done_ (done_of HT_.out Z190) ?_
      have hnb112 := NB573_574.out
      have hnc112 := NB574_573.out
      have hnb113 := NB573_585.out
      have hnc113 := NB585_573.out
      have hnb114 := NB573_612.out
      have hnc114 := NB612_573.out
      obtain ⟨hcz115_0,hcz115_1,hcz115_2,hcz115_3,hcz115_4,hcz115_5,hcz115_6,hcz115_7,hfz115_0,hfz115_1,hfz115_2,hfz115_3,hfz115_4,hfz115_5,hfz115_6,hfz115_7⟩ := cells8 BK573.out
      have hnb116 := NB574_585.out
      have hnc116 := NB585_574.out
      have hnb117 := NB574_612.out
      have hnc117 := NB612_574.out
      obtain ⟨hcz118_0,hcz118_1,hcz118_2,hfz118_0,hfz118_1,hfz118_2⟩ := cells3 BK574.out
      try go_wp2
      refine bodyPost_ret (results_cc rfl _ _ gb573 gb574 26 31 #[.int .i64 0,.int .i64 0,.int .i64 0,.int .i64 0,.int .i64 0,.int .i64 0,.int .i64 0,.slice none 0 0] #[.int .i64 t611,.int .i64 x7_1,.int .i64 0] (0,0) (0,0) _ _ rfl (by refine bP ?_;refine blk_far ?_ NB573_574.out _;refine bP ?_;refine blk_far ?_ NB573_574.out _;refine bP ?_;refine blk_far ?_ NB573_574.out _;refine bP ?_;refine blk_put (cs := #[.int .i64 0,.int .i64 0,.int .i64 0,.int .i64 0,.int .i64 0,.int .i64 0,.int .i64 0,.slice none 0 0]) ?_ 7 _ rfl;refine bP ?_;refine blk_put (cs := #[.int .i64 0,.int .i64 0,.int .i64 0,.int .i64 0,.int .i64 0,.int .i64 0,.int .i64 x574006_1,.slice none 0 0]) ?_ 6 _ rfl;refine bP ?_;refine blk_put (cs := #[.int .i64 0,.int .i64 0,.int .i64 0,.int .i64 0,.int .i64 0,.int .i64 x574005_1,.int .i64 x574006_1,.slice none 0 0]) ?_ 5 _ rfl;refine bP ?_;refine blk_put (cs := #[.int .i64 0,.int .i64 0,.int .i64 0,.int .i64 0,.int .i64 x574004_1,.int .i64 x574005_1,.int .i64 x574006_1,.slice none 0 0]) ?_ 4 _ rfl;refine bP ?_;refine blk_put (cs := #[.int .i64 0,.int .i64 0,.int .i64 0,.int .i64 x574003_1,.int .i64 x574004_1,.int .i64 x574005_1,.int .i64 x574006_1,.slice none 0 0]) ?_ 3 _ rfl;refine bP ?_;refine blk_put (cs := #[.int .i64 0,.int .i64 0,.int .i64 x574002_1,.int .i64 x574003_1,.int .i64 x574004_1,.int .i64 x574005_1,.int .i64 x574006_1,.slice none 0 0]) ?_ 2 _ rfl;refine bP ?_;refine blk_put (cs := #[.int .i64 0,.int .i64 x574001_1,.int .i64 x574002_1,.int .i64 x574003_1,.int .i64 x574004_1,.int .i64 x574005_1,.int .i64 x574006_1,.slice none 0 0]) ?_ 1 _ rfl;refine bP ?_;refine blk_put (cs := #[.int .i64 x574000_1,.int .i64 x574001_1,.int .i64 x574002_1,.int .i64 x574003_1,.int .i64 x574004_1,.int .i64 x574005_1,.int .i64 x574006_1,.slice none 0 0]) ?_ 0 _ rfl;refine bP ?_;refine blk_far ?_ NB573_612.out _;refine bP ?_;refine blk_far ?_ NB573_612.out _;refine bP ?_;refine blk_far ?_ NB573_612.out _;refine bP ?_;refine blk_far ?_ NB573_612.out _;refine bP ?_;refine blk_far ?_ NB573_612.out _;refine bP ?_;refine blk_far ?_ NB573_612.out _;refine bP ?_;refine blk_far ?_ NB573_612.out _;refine bP ?_;refine blk_far ?_ NB573_612.out _;refine bP ?_;exact BK573.out) Tryz.underlying26 rfl Z190 rfl (by refine bP ?_;refine blk_put (cs := #[.int .i64 t611,.int .i64 x7_1,.int .i64 x575002_1]) ?_ 2 _ rfl;refine bP ?_;refine blk_put (cs := #[.int .i64 t611,.int .i64 x575001_1,.int .i64 x575002_1]) ?_ 1 _ rfl;refine bP ?_;refine blk_put (cs := #[.int .i64 x575000_1,.int .i64 x575001_1,.int .i64 x575002_1]) ?_ 0 _ rfl;refine bP ?_;refine blk_far ?_ NB574_573.out _;refine bP ?_;refine blk_far ?_ NB574_573.out _;refine bP ?_;refine blk_far ?_ NB574_573.out _;refine bP ?_;refine blk_far ?_ NB574_573.out _;refine bP ?_;refine blk_far ?_ NB574_573.out _;refine bP ?_;refine blk_far ?_ NB574_573.out _;refine bP ?_;refine blk_far ?_ NB574_573.out _;refine bP ?_;refine blk_far ?_ NB574_573.out _;refine bP ?_;refine blk_far ?_ NB574_612.out _;refine bP ?_;refine blk_far ?_ NB574_612.out _;refine bP ?_;refine blk_far ?_ NB574_612.out _;refine bP ?_;refine blk_far ?_ NB574_612.out _;refine bP ?_;refine blk_far ?_ NB574_612.out _;refine bP ?_;refine blk_far ?_ NB574_612.out _;refine bP ?_;refine blk_far ?_ NB574_612.out _;refine bP ?_;refine blk_far ?_ NB574_612.out _;refine bP ?_;exact BK574.out) Tryz.underlying31 rfl Z190) rfl ?_
      exact ⟨_,by first | rfl | (simp [errW_none,errW_some] <;> rfl) | (simp only [← hji64];first | rfl | (simp [errW_none,errW_some] <;> rfl)) | (simp [*,errW_none,errW_some] <;> rfl),Z129,Z72⟩
     rw [if_pos c68] at H
     have c68b0 : (t611 == 0) = true := beq_iff_eq.mpr c68
     have c68b1 : (t611 != 0) = false := bne_eq_false_iff_eq.mpr c68
     clear c68
     have H' := Aside0.mk H
     clear H
     have p595 : 0 ≤ (x7_1 : Int) := of_decide_eq_true Z164
     have q595 : x7_1 < (t589.length : Int) := of_decide_eq_true Z164
     obtain ⟨ad595,e595,hx595_0⟩ := Kd.at_string (Kd.R_reads' HO_6.out).2.2 x7_1 p595 q595
     obtain rfl : ad592 = ad595 := Z187
     replace p595 := eq_true p595
     replace q595 := eq_true q595
     have p596 : 0 ≤ (x7_1 : Int) := of_decide_eq_true Z164
     have q596 : x7_1 < (t589.length : Int) := of_decide_eq_true Z164
     obtain ⟨ad596,e596,hx596_0⟩ := Kd.at_string (Kd.R_reads' HO_6.out).2.2 x7_1 p596 q596
     obtain rfl : ad592 = ad596 := Z188
     replace p596 := eq_true p596
     replace q596 := eq_true q596
     try go_wp2_with (first | ((with_reducible refine gate_callee (f := 36) rfl ?_);refine goesL_ (some 66) rfl rfl Tryz.func36 Z190 rfl #[.string ((rdOf ByteArray.empty t589 x7_1).extract 0 (x8_25 : Int).toNat)] rfl Z130 ?_;(with_reducible refine (spec_l8Word.calls kj25 ((rdOf ByteArray.empty t589 x7_1).extract 0 (x8_25 : Int).toNat) t597 _ A44.out).mono ?_);rintro e w69 ⟨rfl,hb⟩;refine ⟨_,rfl,?_⟩;have n_ := Z27;clear HO_5 HO_6 HO_586007 BK573 BK574 BK585 HB;obtain ⟨HO_5,HO_6,HO_586007,BK573,BK574,BK585,HB⟩ := n_;(try clear hb);(try clear hb2);(try clear hk);(try clear hi);obtain ⟨Ao70,co70,eo70⟩ := Kd.R_slice HO_5.out;subst eo70;have p598 : 0 ≤ (t597 : Int) := of_decide_eq_true Z164;have q598 : t597 < (x5_1.length : Int) := of_decide_eq_true Z164;obtain ⟨ad598,e598,hx598_0⟩ := Kd.at_bool (Kd.R_reads' HO_5.out).2.2 t597 p598 q598;(try rw [← Nbq54.out] at hx598_0);cases e598;replace p598 := eq_true p598;replace q598 := eq_true q598;have p63 : 0 ≤ (t597 : Int) := of_decide_eq_true Z164;have q63 : (t597 : Int) < ((x5_1.length : Int) : Int) := of_decide_eq_true Z164;obtain ⟨go63,co63,eo63,gb63,gl63,cl63,HG63⟩ := Kd.R_form HO_5.out Z285;(first | cases eo63 | (injection eo63 with ea_ en_ ec_;(first | subst ea_ | (injection ea_ with ea_;subst ea_));subst ec_;clear en_));have GB63 := Aside0.mk gb63;have GG63 := Aside0.mk HG63;clear gb63 gl63 HG63;(first | simp only [add_plain] at hx598_0 | skip);obtain ⟨hx63_0,hf63_0⟩ := Kd.R_celln false HO_5.out (t597 : Int) p63 q63;replace p63 := eq_true p63;replace q63 := eq_true q63;obtain ⟨hy71_,hz71_⟩ := Kd.R_celln false HO_5.out (t597 : Int) (of_decide_eq_true Z164) (of_decide_eq_true Z164);have HP71 := Kd.R_putg HO_5.out (t597 : Int) true) | ((with_reducible refine gate_store (t := 4) (p := 81) rfl ?_);refine store_event (t := 4) (p := 81) (v := ?vo_w72) (w1 := (w69.setCell ⟨go63,(t597 : Int).toNat,none⟩ (.bool true))) ?hg ?ho ?hn ?hr ?_;(case ho => rfl);(case hg => rfl);(case hn => rfl);(case hr => exact Z166);intro w72 hw;have hg : w69.grownBy w72 (some go63) := (by rw [hw];exact HP71.2);have hp_ : Kd.R Kd.bool 4 w72 w.heap.size (fun _ => True) (.slice (some ⟨go63,0,none⟩) x5_1.length co70) y599 := (by rw [hw,Ny599.out];exact HP71.1);clear HP71;have n_ := jA (hp_) (jA (Kd.R_over' (v := (.slice (some ⟨go63,0,none⟩) x5_1.length co70)) Z268 (Kd.R_typed HO_5.out) Z306 hg) (jA (Kd.R_over' (v := (.slice (some ⟨go63,0,none⟩) x5_1.length co70)) Z254 (Kd.R_typed HO_5.out) Z306 hg) (jA (blk_grown (g := gb573) (o := .cells #[.int .i64 x574000_1,.int .i64 x574001_1,.int .i64 x574002_1,.int .i64 x574003_1,.int .i64 x574004_1,.int .i64 x574005_1,.int .i64 x574006_1,.slice none 0 0] 26 (0,0)) Z299 hg (Kd.R_ne HO_5.out BK573.out Z306)) (jA (blk_grown (g := gb574) (o := .cells #[.int .i64 x575000_1,.int .i64 x575001_1,.int .i64 x575002_1] 31 (0,0)) Z270 hg (Kd.R_ne HO_5.out BK574.out Z306)) (jA (blk_grown (g := gb585) (o := .cells #[.int .i64 x586000_1,.int .i64 x586001_1,.int .i64 x586002_1,.int .i64 x586003_1,.int .i64 x586004_1,.int .i64 x586005_1,.int .i64 x586006_1,u586007] 26 (0,0)) Z271 hg (Kd.R_ne HO_5.out BK585.out Z306)) (Aside0.mk ((by rw [hw];exact below_set (HB.out) GB63.out : Below w.heap.size w w72))))))));clear HO_5 HO_6 HO_586007 BK573 BK574 BK585 HB;obtain ⟨HO_5,HO_6,HO_586007,BK573,BK574,BK585,HB⟩ := n_;clear hg hw hp_;obtain ⟨Ao73,co73,eo73⟩ := Kd.R_slice HO_586007.out;subst eo73))
     have n_ := jA (Kd.R_drew HO_5.out) (jA (Kd.R_drew HO_6.out) (jA (Kd.R_drew HO_586007.out) (jA (blk_drew BK573.out) (jA (blk_drew BK574.out) (jA (blk_drew BK585.out) (Aside0.mk (below_drew1 HB.out)))))))
     clear HO_5 HO_6 HO_586007 BK573 BK574 BK585 HB
     obtain ⟨HO_5,HO_6,HO_586007,BK573,BK574,BK585,HB⟩ := n_
     have p600 : 0 ≤ (x7_1 : Int) := of_decide_eq_true Z164
     have q600 : x7_1 < (t589.length : Int) := of_decide_eq_true Z164
     obtain ⟨ad600,e600,hx600_0⟩ := Kd.at_string (Kd.R_reads' HO_6.out).2.2 x7_1 p600 q600
     obtain rfl : ad592 = ad600 := (by injection e600)
     replace p600 := eq_true p600
     replace q600 := eq_true q600
     refine start_ (n := 16) (S := fun w' => w'.cell? ⟨gb585,0,none⟩ = some (.int .i64 x586000_1) ∧ w'.cell? ⟨gb585,1,none⟩ = some (.int .i64 x586001_1) ∧ w'.cell? ⟨gb585,2,none⟩ = some (.int .i64 x586002_1) ∧ w'.cell? ⟨gb585,3,none⟩ = some (.int .i64 x586003_1) ∧ w'.cell? ⟨gb585,4,none⟩ = some (.int .i64 x586004_1) ∧ w'.cell? ⟨gb585,5,none⟩ = some (.int .i64 x586005_1) ∧ w'.cell? ⟨gb585,6,none⟩ = some (.int .i64 x586006_1) ∧ w'.cell? ⟨gb585,7,none⟩ = some (.slice Ao73 x586007_1.length co73) ∧ w'.cell? (ad592.add (x7_1).toNat) = some (.string (rdOf ByteArray.empty t589 x7_1))) (ds := []) (qM 16 0) Z190 rfl (by kernel_rfl) ⟨bc BK585 0,bc BK585 1,bc BK585 2,bc BK585 3,bc BK585 4,bc BK585 5,bc BK585 6,bc BK585 7,hx600_0⟩ (fun hHeld => ?_);refine with_tabW spec_ReadConfig.tab21 spec_ReadConfig.bits21 (fun HT_ HW_ => ?_)
     generalize w72.drew = w74 at HO_5 HO_6 HO_586007 BK573 BK574 BK585 HB hx600_0 hHeld ⊢
     refine rP 1 84 16 2 HT_ (h := ?_)
     refine rP 2 85 16 6 HT_ (h := ?_)
     refine rP 3 86 16 14 HT_ (h := ?_)
     refine rP 4 87 16 30 HT_ (h := ?_)
     refine rP 6 89 16 94 HT_ (h := ?_)
     refine rP 7 90 16 222 HT_ (h := ?_)
     refine rT9 0 83 16 223 HT_ HW_ hHeld (h := ?_)
     refine rT9 5 88 16 255 HT_ HW_ hHeld (h := ?_)
     refine rP 8 91 16 511 HT_ (h := ?_)
     refine join_ (σ := Value × Nat) 2 (qM 16 16383) (fun s_ => [(92,.tuple #[.agg #[.int .i64 t601,.int .i64 t602,.int .i64 t603,.int .i64 t604,.int .i64 t605,.int .i64 t606,.int .i64 t607,s_.1],.int .i64 t611]),(10,.pointer (some ⟨s_.2,0,none⟩)),(82,.tuple #[.agg #[.int .i64 t601,.int .i64 t602,.int .i64 t603,.int .i64 t604,.int .i64 t605,.int .i64 t606,.int .i64 t607,s_.1],.int .i64 t611]),(93,.agg #[.int .i64 t601,.int .i64 t602,.int .i64 t603,.int .i64 t604,.int .i64 t605,.int .i64 t606,.int .i64 t607,s_.1]),(94,.int .i64 t611)]) (fun s_ w' => (w'.cell? ⟨gb585,0,none⟩ = some (.int .i64 x586000_1) ∧ w'.cell? ⟨gb585,1,none⟩ = some (.int .i64 x586001_1) ∧ w'.cell? ⟨gb585,2,none⟩ = some (.int .i64 x586002_1) ∧ w'.cell? ⟨gb585,3,none⟩ = some (.int .i64 x586003_1) ∧ w'.cell? ⟨gb585,4,none⟩ = some (.int .i64 x586004_1) ∧ w'.cell? ⟨gb585,5,none⟩ = some (.int .i64 x586005_1) ∧ w'.cell? ⟨gb585,6,none⟩ = some (.int .i64 x586006_1) ∧ w'.cell? ⟨gb585,7,none⟩ = some (.slice Ao73 x586007_1.length co73) ∧ w'.cell? (ad592.add (x7_1).toNat) = some (.string (rdOf ByteArray.empty t589 x7_1))) ∧ (Kd.R (Kd.int .i64) 3 w' w.heap.size (fun _ => True) s_.1 t608) ∧ (Kd.R Kd.bool 4 w' w.heap.size (fun _ => True) (.slice (some ⟨go63,0,none⟩) x5_1.length co70) y599) ∧ (Kd.R Kd.string 9 w' w.heap.size (fun _ => True) (.slice (some ad592) t589.length co27) t589) ∧ (w'.heap[gb573]? = some (.cells #[.int .i64 x574000_1,.int .i64 x574001_1,.int .i64 x574002_1,.int .i64 x574003_1,.int .i64 x574004_1,.int .i64 x574005_1,.int .i64 x574006_1,.slice none 0 0] 26 (0,0))) ∧ (w'.heap[gb574]? = some (.cells #[.int .i64 x575000_1,.int .i64 x575001_1,.int .i64 x575002_1] 31 (0,0))) ∧ (w'.heap[gb585]? = some (.cells #[.int .i64 x586000_1,.int .i64 x586001_1,.int .i64 x586002_1,.int .i64 x586003_1,.int .i64 x586004_1,.int .i64 x586005_1,.int .i64 x586006_1,.slice Ao73 x586007_1.length co73] 26 (0,0))) ∧ (w'.heap[s_.2]? = some (.cells #[.int .i64 0,.int .i64 0,.int .i64 0,.int .i64 0,.int .i64 0,.int .i64 0,.int .i64 0,.slice none 0 0] 26 (0,0))) ∧ (w.heap.size ≤ s_.2) ∧ (w.heap.size ≤ s_.2) ∧ (gb573 ≠ s_.2) ∧ (s_.2 ≠ gb573) ∧ (gb574 ≠ s_.2) ∧ (s_.2 ≠ gb574) ∧ (gb585 ≠ s_.2) ∧ (s_.2 ≠ gb585) ∧ (Below w.heap.size w w')) ?_ ?_
     rotate_left
     ·intro hCont
      refine two_ (i := 9) (j := 13) (Ni := some 92) (Nj := some 10) (qM 16 1023) (qM 16 8703) rfl rfl rfl rfl (two_of HT_.out Z190) Z306 Z306 (fun K hK => ?_) (fun K hK => ?_)
      ·skip
       refine goes_ Tryz.func37 Z190 rfl #[.agg #[.int .i64 x586000_1,.int .i64 x586001_1,.int .i64 x586002_1,.int .i64 x586003_1,.int .i64 x586004_1,.int .i64 x586005_1,.int .i64 x586006_1,.slice Ao73 x586007_1.length co73],.int .i64 t597,.string ((rdOf ByteArray.empty t589 x7_1).extract ((ji64) : Int).toNat (rdOf ByteArray.empty t589 x7_1).size)] Z191 rfl rfl Z124 ?_
       with_reducible refine (spec_l8Lay.calls kj25 x586000_1 x586001_1 x586002_1 x586003_1 x586004_1 x586005_1 x586006_1 (fun k_ => some k_ = (.slice Ao73 x586007_1.length co73 : Value).ownBlock) (.slice Ao73 x586007_1.length co73) x586007_1 t597 ((rdOf ByteArray.empty t589 x7_1).extract ((ji64) : Int).toNat (rdOf ByteArray.empty t589 x7_1).size) t601 t602 t603 t604 t605 t606 t607 t608 t611 w _ ?side1 ?side2 A67.out).mono ?_
       (case side1 => exact Z214)
       (case side2 => exact Z170)
       rintro e w75 ⟨v609,rfl,ho0,hb,hkp⟩
       have HS8_ := cell_kept (hHeld.2.2.2.2.2.2.2.2) hkp Z50
       refine ⟨_,rfl,?_⟩
       have n_ := jA (Kd.R_mono (ok' := fun k_ => True) (Kd.R_keptB ((Kd.R_apart' HO_5.out (Kd.R_typed HO_586007.out) Z306)) hkp (fun k_ hk_ hs_ => (hk_.2) hs_)) (fun k_ hk_ => trivial)) (jA (Kd.R_mono (ok' := fun k_ => True) (Kd.R_keptB ((Kd.R_apart' HO_6.out (Kd.R_typed HO_586007.out) Z306)) hkp (fun k_ hk_ hs_ => (hk_.2) hs_)) (fun k_ hk_ => trivial)) (jA (blk_kept Z299 hkp (fun hs_ => (fun e_ => (Kd.R_ne HO_586007.out BK573.out Z306) e_) hs_)) (jA (blk_kept Z270 hkp (fun hs_ => (fun e_ => (Kd.R_ne HO_586007.out BK574.out Z306) e_) hs_)) (jA (blk_kept Z271 hkp (fun hs_ => (fun e_ => (Kd.R_ne HO_586007.out BK585.out Z306) e_) hs_)) (jA (Kd.R_mono (ok' := fun k_ => True) ho0 (fun k_ hk_ => trivial)) (Aside0.mk (hb)))))))
       clear HO_5 HO_6 BK573 BK574 BK585 HB HO_586007
       obtain ⟨HO_5,HO_6,BK573,BK574,BK585,HO610,HB⟩ := n_
       (try clear hb)
       (try clear hkp)
       (try clear ho0)
       refine hK.out _ _ ⟨bc BK585 0,bc BK585 1,bc BK585 2,bc BK585 3,bc BK585 4,bc BK585 5,bc BK585 6,bc BK585 7,HS8_⟩ (fun hHeld => ?_)
       clear hK K
       refine rN (h := ?_)
       refine rP 10 82 16 2047 HT_ (h := ?_)
       refine rP 11 93 16 4095 HT_ (h := ?_)
       refine rP 12 94 16 8191 HT_ (h := ?_)
       refine rO 13 10 16 16383 HT_ (h := fun K hK => ?_)
       refine box_step ?hg (N := 10) ?hd (cs := #[.int .i64 0,.int .i64 0,.int .i64 0,.int .i64 0,.int .i64 0,.int .i64 0,.int .i64 0,.slice none 0 0]) (t := 26) ?hr ?_;(case hd => rfl);(case hg => rfl);(case hr => exact Z166)
       intro gb612 hg w76 hbox hb
       have HS8_ := (hb.cell (World.block_lt_of_cell? _ _ (hHeld.2.2.2.2.2.2.2.2))).trans (hHeld.2.2.2.2.2.2.2.2)
       have n_ := jA (Kd.R_below Z267 hb) (jA (Kd.R_below Z268 hb) (jA (Kd.R_below Z140 hb) (jA (blk_below (g := gb573) (o := .cells #[.int .i64 x574000_1,.int .i64 x574001_1,.int .i64 x574002_1,.int .i64 x574003_1,.int .i64 x574004_1,.int .i64 x574005_1,.int .i64 x574006_1,.slice none 0 0] 26 (0,0)) Z299 hb) (jA (blk_below (g := gb574) (o := .cells #[.int .i64 x575000_1,.int .i64 x575001_1,.int .i64 x575002_1] 31 (0,0)) Z270 hb) (jA (blk_below (g := gb585) (o := .cells #[.int .i64 x586000_1,.int .i64 x586001_1,.int .i64 x586002_1,.int .i64 x586003_1,.int .i64 x586004_1,.int .i64 x586005_1,.int .i64 x586006_1,.slice Ao73 x586007_1.length co73] 26 (0,0)) Z271 hb) (jA (below_step Z214 hb) (jA (hbox) (jA ((Z71 : w.heap.size ≤ gb612)) (jA ((Z71 : w.heap.size ≤ gb612)) (jA ((Z68 : gb573 ≠ gb612)) (jA ((Z69 : gb612 ≠ gb573)) (jA ((Z116 : gb574 ≠ gb612)) (jA ((Z117 : gb612 ≠ gb574)) (jA ((Z65 : gb585 ≠ gb612)) (Aside0.mk ((Z67 : gb612 ≠ gb585)))))))))))))))))
       clear HO_5 HO_6 HO610 BK573 BK574 BK585 HB
       obtain ⟨HO_5,HO_6,HO610,BK573,BK574,BK585,HB,BK612,GW612,GE612,NB573_612,NB612_573,NB574_612,NB612_574,NB585_612,NB612_585⟩ := n_
       clear hb hbox hg
       refine hK.out _ _ ⟨bc BK585 0,bc BK585 1,bc BK585 2,bc BK585 3,bc BK585 4,bc BK585 5,bc BK585 6,bc BK585 7,HS8_⟩ (fun hHeld => ?_)
       clear hK K
       refine rN (h := ?_)
       exact norm_ Z153 (hCont (v609,gb612) _ ⟨hHeld,Z140,Z267,Z268,Z299,Z270,Z271,Z179,GW612.out,GE612.out,NB573_612.out,NB612_573.out,NB574_612.out,NB612_574.out,NB585_612.out,NB612_585.out,Z72⟩)
      skip
      refine box_step ?hg (N := 10) ?hd (cs := #[.int .i64 0,.int .i64 0,.int .i64 0,.int .i64 0,.int .i64 0,.int .i64 0,.int .i64 0,.slice none 0 0]) (t := 26) ?hr ?_;(case hd => rfl);(case hg => rfl);(case hr => exact Z166)
      intro gb612 hg w75 hbox hb
      have HS8_ := (hb.cell (World.block_lt_of_cell? _ _ (hHeld.2.2.2.2.2.2.2.2))).trans (hHeld.2.2.2.2.2.2.2.2)
      have n_ := jA (Kd.R_below Z267 hb) (jA (Kd.R_below Z268 hb) (jA (Kd.R_below Z254 hb) (jA (blk_below (g := gb573) (o := .cells #[.int .i64 x574000_1,.int .i64 x574001_1,.int .i64 x574002_1,.int .i64 x574003_1,.int .i64 x574004_1,.int .i64 x574005_1,.int .i64 x574006_1,.slice none 0 0] 26 (0,0)) Z299 hb) (jA (blk_below (g := gb574) (o := .cells #[.int .i64 x575000_1,.int .i64 x575001_1,.int .i64 x575002_1] 31 (0,0)) Z270 hb) (jA (blk_below (g := gb585) (o := .cells #[.int .i64 x586000_1,.int .i64 x586001_1,.int .i64 x586002_1,.int .i64 x586003_1,.int .i64 x586004_1,.int .i64 x586005_1,.int .i64 x586006_1,.slice Ao73 x586007_1.length co73] 26 (0,0)) Z271 hb) (jA (below_step Z214 hb) (jA (hbox) (jA ((Z71 : w.heap.size ≤ gb612)) (jA ((Z71 : w.heap.size ≤ gb612)) (jA ((Z68 : gb573 ≠ gb612)) (jA ((Z69 : gb612 ≠ gb573)) (jA ((Z116 : gb574 ≠ gb612)) (jA ((Z117 : gb612 ≠ gb574)) (jA ((Z65 : gb585 ≠ gb612)) (Aside0.mk ((Z67 : gb612 ≠ gb585)))))))))))))))))
      clear HO_5 HO_6 HO_586007 BK573 BK574 BK585 HB
      obtain ⟨HO_5,HO_6,HO_586007,BK573,BK574,BK585,HB,BK612,GW612,GE612,NB573_612,NB612_573,NB574_612,NB612_574,NB585_612,NB612_585⟩ := n_
      clear hb hbox hg
      refine hK.out _ _ ⟨bc BK585 0,bc BK585 1,bc BK585 2,bc BK585 3,bc BK585 4,bc BK585 5,bc BK585 6,bc BK585 7,HS8_⟩ (fun hHeld => ?_)
      clear hK K
      refine rN (h := ?_)
      refine rO 9 92 16 9215 HT_ (h := fun K hK => ?_)
      refine goes_ Tryz.func37 Z190 rfl #[.agg #[.int .i64 x586000_1,.int .i64 x586001_1,.int .i64 x586002_1,.int .i64 x586003_1,.int .i64 x586004_1,.int .i64 x586005_1,.int .i64 x586006_1,.slice Ao73 x586007_1.length co73],.int .i64 t597,.string ((rdOf ByteArray.empty t589 x7_1).extract ((ji64) : Int).toNat (rdOf ByteArray.empty t589 x7_1).size)] Z191 rfl rfl Z124 ?_
      with_reducible refine (spec_l8Lay.calls kj25 x586000_1 x586001_1 x586002_1 x586003_1 x586004_1 x586005_1 x586006_1 (fun k_ => some k_ = (.slice Ao73 x586007_1.length co73 : Value).ownBlock) (.slice Ao73 x586007_1.length co73) x586007_1 t597 ((rdOf ByteArray.empty t589 x7_1).extract ((ji64) : Int).toNat (rdOf ByteArray.empty t589 x7_1).size) t601 t602 t603 t604 t605 t606 t607 t608 t611 w _ ?side1 ?side2 A67.out).mono ?_
      (case side1 => exact Z72)
      (case side2 => exact Z170)
      rintro e w76 ⟨v609,rfl,ho0,hb,hkp⟩
      have HS8_ := cell_kept (hHeld.2.2.2.2.2.2.2.2) hkp Z50
      refine ⟨_,rfl,?_⟩
      have n_ := jA (Kd.R_mono (ok' := fun k_ => True) (Kd.R_keptB ((Kd.R_apart' HO_5.out (Kd.R_typed HO_586007.out) Z306)) hkp (fun k_ hk_ hs_ => (hk_.2) hs_)) (fun k_ hk_ => trivial)) (jA (Kd.R_mono (ok' := fun k_ => True) (Kd.R_keptB ((Kd.R_apart' HO_6.out (Kd.R_typed HO_586007.out) Z306)) hkp (fun k_ hk_ hs_ => (hk_.2) hs_)) (fun k_ hk_ => trivial)) (jA (blk_kept Z299 hkp (fun hs_ => (fun e_ => (Kd.R_ne HO_586007.out BK573.out Z306) e_) hs_)) (jA (blk_kept Z270 hkp (fun hs_ => (fun e_ => (Kd.R_ne HO_586007.out BK574.out Z306) e_) hs_)) (jA (blk_kept Z271 hkp (fun hs_ => (fun e_ => (Kd.R_ne HO_586007.out BK585.out Z306) e_) hs_)) (jA (blk_kept Z179 hkp (fun hs_ => (fun e_ => (Kd.R_ne HO_586007.out BK612.out Z306) e_) hs_)) (jA (Kd.R_mono (ok' := fun k_ => True) ho0 (fun k_ hk_ => trivial)) (Aside0.mk (hb))))))))
      clear HO_5 HO_6 BK573 BK574 BK585 BK612 HB HO_586007
      obtain ⟨HO_5,HO_6,BK573,BK574,BK585,BK612,HO610,HB⟩ := n_
      (try clear hb)
      (try clear hkp)
      (try clear ho0)
      refine hK.out _ _ ⟨bc BK585 0,bc BK585 1,bc BK585 2,bc BK585 3,bc BK585 4,bc BK585 5,bc BK585 6,bc BK585 7,HS8_⟩ (fun hHeld => ?_)
      clear hK K
      refine rN (h := ?_)
      refine rP 10 82 16 10239 HT_ (h := ?_)
      refine rP 11 93 16 12287 HT_ (h := ?_)
      refine rP 12 94 16 16383 HT_ (h := ?_)
      exact norm_ Z153 (hCont (v609,gb612) _ ⟨hHeld,Z140,Z267,Z268,Z299,Z270,Z271,Z179,GW612.out,GE612.out,NB573_612.out,NB612_573.out,NB574_612.out,NB612_574.out,NB585_612.out,NB612_585.out,Z72⟩)
     rintro ⟨v609,gb612⟩ w77 ⟨hS_,h0_,h1_,h2_,h3_,h4_,h5_,h6_,h7_,h8_,h9_,h10_,h11_,h12_,h13_,h14_,h15_⟩
     have n0_ : Aside0 (Kd.R (Kd.int .i64) 3 w77 w.heap.size (fun _ => True) v609 t608) := ⟨h0_⟩
     have n1_ : Aside0 (Kd.R Kd.bool 4 w77 w.heap.size (fun _ => True) (.slice (some ⟨go63,0,none⟩) x5_1.length co70) y599) := ⟨h1_⟩
     have n2_ : Aside0 (Kd.R Kd.string 9 w77 w.heap.size (fun _ => True) (.slice (some ad592) t589.length co27) t589) := ⟨h2_⟩
     have n3_ : Aside0 (w77.heap[gb573]? = some (.cells #[.int .i64 x574000_1,.int .i64 x574001_1,.int .i64 x574002_1,.int .i64 x574003_1,.int .i64 x574004_1,.int .i64 x574005_1,.int .i64 x574006_1,.slice none 0 0] 26 (0,0))) := ⟨h3_⟩
     have n4_ : Aside0 (w77.heap[gb574]? = some (.cells #[.int .i64 x575000_1,.int .i64 x575001_1,.int .i64 x575002_1] 31 (0,0))) := ⟨h4_⟩
     have n5_ : Aside0 (w77.heap[gb585]? = some (.cells #[.int .i64 x586000_1,.int .i64 x586001_1,.int .i64 x586002_1,.int .i64 x586003_1,.int .i64 x586004_1,.int .i64 x586005_1,.int .i64 x586006_1,.slice Ao73 x586007_1.length co73] 26 (0,0))) := ⟨h5_⟩
     have n6_ : Aside0 (w77.heap[gb612]? = some (.cells #[.int .i64 0,.int .i64 0,.int .i64 0,.int .i64 0,.int .i64 0,.int .i64 0,.int .i64 0,.slice none 0 0] 26 (0,0))) := ⟨h6_⟩
     have n7_ : Aside0 (w.heap.size ≤ gb612) := ⟨h7_⟩
     have n8_ : Aside0 (w.heap.size ≤ gb612) := ⟨h8_⟩
     have n9_ : Aside0 (gb573 ≠ gb612) := ⟨h9_⟩
     have n10_ : Aside0 (gb612 ≠ gb573) := ⟨h10_⟩
     have n11_ : Aside0 (gb574 ≠ gb612) := ⟨h11_⟩
     have n12_ : Aside0 (gb612 ≠ gb574) := ⟨h12_⟩
     have n13_ : Aside0 (gb585 ≠ gb612) := ⟨h13_⟩
     have n14_ : Aside0 (gb612 ≠ gb585) := ⟨h14_⟩
     have n15_ : Aside0 (Below w.heap.size w w77) := ⟨h15_⟩
     clear HO_5
     clear HO_6
     clear HO_586007
     clear BK573
     clear BK574
     clear BK585
     clear HB
     clear h0_ h1_ h2_ h3_ h4_ h5_ h6_ h7_ h8_ h9_ h10_ h11_ h12_ h13_ h14_ h15_
     have HO610 := n0_
     have HO_5 := n1_
     have HO_6 := n2_
     have BK573 := n3_
     have BK574 := n4_
     have BK585 := n5_
     have BK612 := n6_
     have GW612 := n7_
     have GE612 := n8_
     have NB573_612 := n9_
     have NB612_573 := n10_
     have NB574_612 := n11_
     have NB612_574 := n12_
     have NB585_612 := n13_
     have NB612_585 := n14_
     have HB := n15_
     clear n0_ n1_ n2_ n3_ n4_ n5_ n6_ n7_ n8_ n9_ n10_ n11_ n12_ n13_ n14_ n15_
     have hHeld : w77.cell? ⟨gb585,0,none⟩ = some (.int .i64 x586000_1) ∧ w77.cell? ⟨gb585,1,none⟩ = some (.int .i64 x586001_1) ∧ w77.cell? ⟨gb585,2,none⟩ = some (.int .i64 x586002_1) ∧ w77.cell? ⟨gb585,3,none⟩ = some (.int .i64 x586003_1) ∧ w77.cell? ⟨gb585,4,none⟩ = some (.int .i64 x586004_1) ∧ w77.cell? ⟨gb585,5,none⟩ = some (.int .i64 x586005_1) ∧ w77.cell? ⟨gb585,6,none⟩ = some (.int .i64 x586006_1) ∧ w77.cell? ⟨gb585,7,none⟩ = some (.slice Ao73 x586007_1.length co73) ∧ w77.cell? (ad592.add (x7_1).toNat) = some (.string (rdOf ByteArray.empty t589 x7_1)) := hS_
     obtain ⟨Ao85,co85,eo85⟩ := Kd.R_slice HO610.out
     (first | subst eo85 | (injection eo85 with f1_ f2_ f3_;have f4_ := f1_.symm;have f5_ := f3_.symm;clear f1_ f2_ f3_;subst f4_;subst f5_))
     refine norm_ (a' := ?_) ?_ ?_
     rotate_left
     ·simp only [putAll,Act.put,List.setIfInBounds_toArray,List.set_cons_zero,List.set_cons_succ]
      rfl
     refine one_ (i := 14) (N := none) (qM 16 32767) rfl rfl (one_of HT_.out Z190) Z306 (fun K hK => ?_)
     have hs78 : w77.cell? ⟨gb612,0,none⟩ = some (.int .i64 0) := bc BK612 0
     have hfs78 := blk_frozen BK612.out 0
     have hns78_0 := NB573_612.out
     have hns78_1 := NB574_612.out
     have hns78_2 := NB585_612.out
     have hms78_0 := NB612_573.out
     have hms78_1 := NB612_574.out
     have hms78_2 := NB612_585.out
     have hs79 : w77.cell? ⟨gb612,1,none⟩ = some (.int .i64 0) := bc BK612 1
     have hfs79 := blk_frozen BK612.out 1
     have hns79_0 := NB573_612.out
     have hns79_1 := NB574_612.out
     have hns79_2 := NB585_612.out
     have hms79_0 := NB612_573.out
     have hms79_1 := NB612_574.out
     have hms79_2 := NB612_585.out
     have hs80 : w77.cell? ⟨gb612,2,none⟩ = some (.int .i64 0) := bc BK612 2
     have hfs80 := blk_frozen BK612.out 2
     have hns80_0 := NB573_612.out
     have hns80_1 := NB574_612.out
     have hns80_2 := NB585_612.out
     have hms80_0 := NB612_573.out
     have hms80_1 := NB612_574.out
     have hms80_2 := NB612_585.out
     have hs81 : w77.cell? ⟨gb612,3,none⟩ = some (.int .i64 0) := bc BK612 3
     have hfs81 := blk_frozen BK612.out 3
     have hns81_0 := NB573_612.out
     have hns81_1 := NB574_612.out
     have hns81_2 := NB585_612.out
     have hms81_0 := NB612_573.out
     have hms81_1 := NB612_574.out
     have hms81_2 := NB612_585.out
     have hs82 : w77.cell? ⟨gb612,4,none⟩ = some (.int .i64 0) := bc BK612 4
     have hfs82 := blk_frozen BK612.out 4
     have hns82_0 := NB573_612.out
     have hns82_1 := NB574_612.out
     have hns82_2 := NB585_612.out
     have hms82_0 := NB612_573.out
     have hms82_1 := NB612_574.out
     have hms82_2 := NB612_585.out
     have hs83 : w77.cell? ⟨gb612,5,none⟩ = some (.int .i64 0) := bc BK612 5
     have hfs83 := blk_frozen BK612.out 5
     have hns83_0 := NB573_612.out
     have hns83_1 := NB574_612.out
     have hns83_2 := NB585_612.out
     have hms83_0 := NB612_573.out
     have hms83_1 := NB612_574.out
     have hms83_2 := NB612_585.out
     have hs84 : w77.cell? ⟨gb612,6,none⟩ = some (.int .i64 0) := bc BK612 6
     have hfs84 := blk_frozen BK612.out 6
     have hns84_0 := NB573_612.out
     have hns84_1 := NB574_612.out
     have hns84_2 := NB585_612.out
     have hms84_0 := NB612_573.out
     have hms84_1 := NB612_574.out
     have hms84_2 := NB612_585.out
     have hs86 : w77.cell? ⟨gb612,7,none⟩ = some (.slice none 0 0) := bc BK612 7
     have hfs86 := blk_frozen BK612.out 7
     have hns86_0 := NB573_612.out
     have hns86_1 := NB574_612.out
     have hns86_2 := NB585_612.out
     have hms86_0 := NB612_573.out
     have hms86_1 := NB612_574.out
     have hms86_2 := NB612_585.out
     refine skip_ (w1 := ?_) Z191 rfl ?_ ?_
     rotate_left
     ·go_simp
      rfl
     refine hK.out _ _ ⟨((cell_far (p := ⟨gb612,_,none⟩) NB585_612.out _).trans (((cell_far (p := ⟨gb612,_,none⟩) NB585_612.out _).trans (((cell_far (p := ⟨gb612,_,none⟩) NB585_612.out _).trans (((cell_far (p := ⟨gb612,_,none⟩) NB585_612.out _).trans (((cell_far (p := ⟨gb612,_,none⟩) NB585_612.out _).trans (((cell_far (p := ⟨gb612,_,none⟩) NB585_612.out _).trans (((cell_far (p := ⟨gb612,_,none⟩) NB585_612.out _).trans (((cell_far (p := ⟨gb612,_,none⟩) NB585_612.out _).trans (hHeld.1)))))))))))))))),((cell_far (p := ⟨gb612,_,none⟩) NB585_612.out _).trans (((cell_far (p := ⟨gb612,_,none⟩) NB585_612.out _).trans (((cell_far (p := ⟨gb612,_,none⟩) NB585_612.out _).trans (((cell_far (p := ⟨gb612,_,none⟩) NB585_612.out _).trans (((cell_far (p := ⟨gb612,_,none⟩) NB585_612.out _).trans (((cell_far (p := ⟨gb612,_,none⟩) NB585_612.out _).trans (((cell_far (p := ⟨gb612,_,none⟩) NB585_612.out _).trans (((cell_far (p := ⟨gb612,_,none⟩) NB585_612.out _).trans (hHeld.2.1)))))))))))))))),((cell_far (p := ⟨gb612,_,none⟩) NB585_612.out _).trans (((cell_far (p := ⟨gb612,_,none⟩) NB585_612.out _).trans (((cell_far (p := ⟨gb612,_,none⟩) NB585_612.out _).trans (((cell_far (p := ⟨gb612,_,none⟩) NB585_612.out _).trans (((cell_far (p := ⟨gb612,_,none⟩) NB585_612.out _).trans (((cell_far (p := ⟨gb612,_,none⟩) NB585_612.out _).trans (((cell_far (p := ⟨gb612,_,none⟩) NB585_612.out _).trans (((cell_far (p := ⟨gb612,_,none⟩) NB585_612.out _).trans (hHeld.2.2.1)))))))))))))))),((cell_far (p := ⟨gb612,_,none⟩) NB585_612.out _).trans (((cell_far (p := ⟨gb612,_,none⟩) NB585_612.out _).trans (((cell_far (p := ⟨gb612,_,none⟩) NB585_612.out _).trans (((cell_far (p := ⟨gb612,_,none⟩) NB585_612.out _).trans (((cell_far (p := ⟨gb612,_,none⟩) NB585_612.out _).trans (((cell_far (p := ⟨gb612,_,none⟩) NB585_612.out _).trans (((cell_far (p := ⟨gb612,_,none⟩) NB585_612.out _).trans (((cell_far (p := ⟨gb612,_,none⟩) NB585_612.out _).trans (hHeld.2.2.2.1)))))))))))))))),((cell_far (p := ⟨gb612,_,none⟩) NB585_612.out _).trans (((cell_far (p := ⟨gb612,_,none⟩) NB585_612.out _).trans (((cell_far (p := ⟨gb612,_,none⟩) NB585_612.out _).trans (((cell_far (p := ⟨gb612,_,none⟩) NB585_612.out _).trans (((cell_far (p := ⟨gb612,_,none⟩) NB585_612.out _).trans (((cell_far (p := ⟨gb612,_,none⟩) NB585_612.out _).trans (((cell_far (p := ⟨gb612,_,none⟩) NB585_612.out _).trans (((cell_far (p := ⟨gb612,_,none⟩) NB585_612.out _).trans (hHeld.2.2.2.2.1)))))))))))))))),((cell_far (p := ⟨gb612,_,none⟩) NB585_612.out _).trans (((cell_far (p := ⟨gb612,_,none⟩) NB585_612.out _).trans (((cell_far (p := ⟨gb612,_,none⟩) NB585_612.out _).trans (((cell_far (p := ⟨gb612,_,none⟩) NB585_612.out _).trans (((cell_far (p := ⟨gb612,_,none⟩) NB585_612.out _).trans (((cell_far (p := ⟨gb612,_,none⟩) NB585_612.out _).trans (((cell_far (p := ⟨gb612,_,none⟩) NB585_612.out _).trans (((cell_far (p := ⟨gb612,_,none⟩) NB585_612.out _).trans (hHeld.2.2.2.2.2.1)))))))))))))))),((cell_far (p := ⟨gb612,_,none⟩) NB585_612.out _).trans (((cell_far (p := ⟨gb612,_,none⟩) NB585_612.out _).trans (((cell_far (p := ⟨gb612,_,none⟩) NB585_612.out _).trans (((cell_far (p := ⟨gb612,_,none⟩) NB585_612.out _).trans (((cell_far (p := ⟨gb612,_,none⟩) NB585_612.out _).trans (((cell_far (p := ⟨gb612,_,none⟩) NB585_612.out _).trans (((cell_far (p := ⟨gb612,_,none⟩) NB585_612.out _).trans (((cell_far (p := ⟨gb612,_,none⟩) NB585_612.out _).trans (hHeld.2.2.2.2.2.2.1)))))))))))))))),((cell_far (p := ⟨gb612,_,none⟩) NB585_612.out _).trans (((cell_far (p := ⟨gb612,_,none⟩) NB585_612.out _).trans (((cell_far (p := ⟨gb612,_,none⟩) NB585_612.out _).trans (((cell_far (p := ⟨gb612,_,none⟩) NB585_612.out _).trans (((cell_far (p := ⟨gb612,_,none⟩) NB585_612.out _).trans (((cell_far (p := ⟨gb612,_,none⟩) NB585_612.out _).trans (((cell_far (p := ⟨gb612,_,none⟩) NB585_612.out _).trans (((cell_far (p := ⟨gb612,_,none⟩) NB585_612.out _).trans (hHeld.2.2.2.2.2.2.2.1)))))))))))))))),((cell_far (p := ⟨gb612,_,none⟩) Z60 _).trans (((cell_far (p := ⟨gb612,_,none⟩) Z60 _).trans (((cell_far (p := ⟨gb612,_,none⟩) Z60 _).trans (((cell_far (p := ⟨gb612,_,none⟩) Z60 _).trans (((cell_far (p := ⟨gb612,_,none⟩) Z60 _).trans (((cell_far (p := ⟨gb612,_,none⟩) Z60 _).trans (((cell_far (p := ⟨gb612,_,none⟩) Z60 _).trans (((cell_far (p := ⟨gb612,_,none⟩) Z60 _).trans (hHeld.2.2.2.2.2.2.2.2))))))))))))))))⟩ (fun hHeld => ?_)
     clear hK K
     refine rP 15 11 16 65535 HT_ (h := ?_)
     refine done_ (done_of HT_.out Z190) ?_
     have hnb87 := NB612_573.out
     have hnc87 := NB573_612.out
     have hnb88 := NB612_574.out
     have hnc88 := NB574_612.out
     have hnb89 := NB612_585.out
     have hnc89 := NB585_612.out
     obtain ⟨hcz90_0,hcz90_1,hcz90_2,hcz90_3,hcz90_4,hcz90_5,hcz90_6,hcz90_7,hfz90_0,hfz90_1,hfz90_2,hfz90_3,hfz90_4,hfz90_5,hfz90_6,hfz90_7⟩ := cells8 BK612.out
     have hnb91 := NB585_573.out
     have hnc91 := NB573_585.out
     have hnb92 := NB585_574.out
     have hnc92 := NB574_585.out
     obtain ⟨hcz93_0,hcz93_1,hcz93_2,hcz93_3,hcz93_4,hcz93_5,hcz93_6,hcz93_7,hfz93_0,hfz93_1,hfz93_2,hfz93_3,hfz93_4,hfz93_5,hfz93_6,hfz93_7⟩ := cells8 BK585.out
     try go_wp2
     go_roundg kj25
     case measure => have := HK1.out;have := HJ25.out;omega
     case rel => exact ⟨(y599),(wrap64 (x7_1 + 1)),(x574000_1),(x574001_1),(x574002_1),(x574003_1),(x574004_1),(x574005_1),(x574006_1),(x575000_1),(x575001_1),(x575002_1),(t601),(t602),(t603),(t604),(t605),(t606),(t607),(t608),(.slice Ao85 t608.length co85),Z165,H',⟨by have := HK1.out;have := HJ25.out;omega⟩,⟨by (with_reducible repeat (first | apply Kd.R_alloc | apply Kd.R_drewN | apply Kd.R_drew));exact Kd.R_mono (Kd.R_far (p := ⟨gb585,7,none⟩) (Kd.R_far (p := ⟨gb585,6,none⟩) (Kd.R_far (p := ⟨gb585,5,none⟩) (Kd.R_far (p := ⟨gb585,4,none⟩) (Kd.R_far (p := ⟨gb585,3,none⟩) (Kd.R_far (p := ⟨gb585,2,none⟩) (Kd.R_far (p := ⟨gb585,1,none⟩) (Kd.R_far (p := ⟨gb585,0,none⟩) (Kd.R_far (p := ⟨gb612,7,none⟩) (Kd.R_far (p := ⟨gb612,6,none⟩) (Kd.R_far (p := ⟨gb612,5,none⟩) (Kd.R_far (p := ⟨gb612,4,none⟩) (Kd.R_far (p := ⟨gb612,3,none⟩) (Kd.R_far (p := ⟨gb612,2,none⟩) (Kd.R_far (p := ⟨gb612,1,none⟩) (Kd.R_far (p := ⟨gb612,0,none⟩) (Kd.R_types (Kd.R_types HO_5.out BK612.out Z306) BK585.out Z306) (fun _ hk => hk.1.2) (.int .i64 t601)) (fun _ hk => hk.1.2) (.int .i64 t602)) (fun _ hk => hk.1.2) (.int .i64 t603)) (fun _ hk => hk.1.2) (.int .i64 t604)) (fun _ hk => hk.1.2) (.int .i64 t605)) (fun _ hk => hk.1.2) (.int .i64 t606)) (fun _ hk => hk.1.2) (.int .i64 t607)) (fun _ hk => hk.1.2) (.slice Ao85 t608.length co85)) (fun _ hk => hk.2) (.int .i64 t601)) (fun _ hk => hk.2) (.int .i64 t602)) (fun _ hk => hk.2) (.int .i64 t603)) (fun _ hk => hk.2) (.int .i64 t604)) (fun _ hk => hk.2) (.int .i64 t605)) (fun _ hk => hk.2) (.int .i64 t606)) (fun _ hk => hk.2) (.int .i64 t607)) (fun _ hk => hk.2) (.slice Ao85 t608.length co85)) (fun _ hk => trivial)⟩,⟨by (with_reducible repeat (first | apply Kd.R_alloc | apply Kd.R_drewN | apply Kd.R_drew));exact Kd.R_mono (Kd.R_far (p := ⟨gb585,7,none⟩) (Kd.R_far (p := ⟨gb585,6,none⟩) (Kd.R_far (p := ⟨gb585,5,none⟩) (Kd.R_far (p := ⟨gb585,4,none⟩) (Kd.R_far (p := ⟨gb585,3,none⟩) (Kd.R_far (p := ⟨gb585,2,none⟩) (Kd.R_far (p := ⟨gb585,1,none⟩) (Kd.R_far (p := ⟨gb585,0,none⟩) (Kd.R_far (p := ⟨gb612,7,none⟩) (Kd.R_far (p := ⟨gb612,6,none⟩) (Kd.R_far (p := ⟨gb612,5,none⟩) (Kd.R_far (p := ⟨gb612,4,none⟩) (Kd.R_far (p := ⟨gb612,3,none⟩) (Kd.R_far (p := ⟨gb612,2,none⟩) (Kd.R_far (p := ⟨gb612,1,none⟩) (Kd.R_far (p := ⟨gb612,0,none⟩) (Kd.R_types (Kd.R_types HO_6.out BK612.out Z306) BK585.out Z306) (fun _ hk => hk.1.2) (.int .i64 t601)) (fun _ hk => hk.1.2) (.int .i64 t602)) (fun _ hk => hk.1.2) (.int .i64 t603)) (fun _ hk => hk.1.2) (.int .i64 t604)) (fun _ hk => hk.1.2) (.int .i64 t605)) (fun _ hk => hk.1.2) (.int .i64 t606)) (fun _ hk => hk.1.2) (.int .i64 t607)) (fun _ hk => hk.1.2) (.slice Ao85 t608.length co85)) (fun _ hk => hk.2) (.int .i64 t601)) (fun _ hk => hk.2) (.int .i64 t602)) (fun _ hk => hk.2) (.int .i64 t603)) (fun _ hk => hk.2) (.int .i64 t604)) (fun _ hk => hk.2) (.int .i64 t605)) (fun _ hk => hk.2) (.int .i64 t606)) (fun _ hk => hk.2) (.int .i64 t607)) (fun _ hk => hk.2) (.slice Ao85 t608.length co85)) (fun _ hk => trivial)⟩,⟨by (with_reducible repeat (first | apply Kd.R_alloc | apply Kd.R_drewN | apply Kd.R_drew));exact Kd.R_mono (Kd.R_far (p := ⟨gb585,7,none⟩) (Kd.R_far (p := ⟨gb585,6,none⟩) (Kd.R_far (p := ⟨gb585,5,none⟩) (Kd.R_far (p := ⟨gb585,4,none⟩) (Kd.R_far (p := ⟨gb585,3,none⟩) (Kd.R_far (p := ⟨gb585,2,none⟩) (Kd.R_far (p := ⟨gb585,1,none⟩) (Kd.R_far (p := ⟨gb585,0,none⟩) (Kd.R_far (p := ⟨gb612,7,none⟩) (Kd.R_far (p := ⟨gb612,6,none⟩) (Kd.R_far (p := ⟨gb612,5,none⟩) (Kd.R_far (p := ⟨gb612,4,none⟩) (Kd.R_far (p := ⟨gb612,3,none⟩) (Kd.R_far (p := ⟨gb612,2,none⟩) (Kd.R_far (p := ⟨gb612,1,none⟩) (Kd.R_far (p := ⟨gb612,0,none⟩) (Kd.R_types (Kd.R_types HO610.out BK612.out Z306) BK585.out Z306) (fun _ hk => hk.1.2) (.int .i64 t601)) (fun _ hk => hk.1.2) (.int .i64 t602)) (fun _ hk => hk.1.2) (.int .i64 t603)) (fun _ hk => hk.1.2) (.int .i64 t604)) (fun _ hk => hk.1.2) (.int .i64 t605)) (fun _ hk => hk.1.2) (.int .i64 t606)) (fun _ hk => hk.1.2) (.int .i64 t607)) (fun _ hk => hk.1.2) (.slice Ao85 t608.length co85)) (fun _ hk => hk.2) (.int .i64 t601)) (fun _ hk => hk.2) (.int .i64 t602)) (fun _ hk => hk.2) (.int .i64 t603)) (fun _ hk => hk.2) (.int .i64 t604)) (fun _ hk => hk.2) (.int .i64 t605)) (fun _ hk => hk.2) (.int .i64 t606)) (fun _ hk => hk.2) (.int .i64 t607)) (fun _ hk => hk.2) (.slice Ao85 t608.length co85)) (fun _ hk => trivial)⟩,⟨by refine bP ?_;refine blk_far ?_ NB573_585.out _;refine bP ?_;refine blk_far ?_ NB573_585.out _;refine bP ?_;refine blk_far ?_ NB573_585.out _;refine bP ?_;refine blk_far ?_ NB573_585.out _;refine bP ?_;refine blk_far ?_ NB573_585.out _;refine bP ?_;refine blk_far ?_ NB573_585.out _;refine bP ?_;refine blk_far ?_ NB573_585.out _;refine bP ?_;refine blk_far ?_ NB573_585.out _;refine bP ?_;refine blk_far ?_ NB573_612.out _;refine bP ?_;refine blk_far ?_ NB573_612.out _;refine bP ?_;refine blk_far ?_ NB573_612.out _;refine bP ?_;refine blk_far ?_ NB573_612.out _;refine bP ?_;refine blk_far ?_ NB573_612.out _;refine bP ?_;refine blk_far ?_ NB573_612.out _;refine bP ?_;refine blk_far ?_ NB573_612.out _;refine bP ?_;refine blk_far ?_ NB573_612.out _;refine bP ?_;exact BK573.out⟩,⟨by refine bP ?_;refine blk_far ?_ NB574_585.out _;refine bP ?_;refine blk_far ?_ NB574_585.out _;refine bP ?_;refine blk_far ?_ NB574_585.out _;refine bP ?_;refine blk_far ?_ NB574_585.out _;refine bP ?_;refine blk_far ?_ NB574_585.out _;refine bP ?_;refine blk_far ?_ NB574_585.out _;refine bP ?_;refine blk_far ?_ NB574_585.out _;refine bP ?_;refine blk_far ?_ NB574_585.out _;refine bP ?_;refine blk_far ?_ NB574_612.out _;refine bP ?_;refine blk_far ?_ NB574_612.out _;refine bP ?_;refine blk_far ?_ NB574_612.out _;refine bP ?_;refine blk_far ?_ NB574_612.out _;refine bP ?_;refine blk_far ?_ NB574_612.out _;refine bP ?_;refine blk_far ?_ NB574_612.out _;refine bP ?_;refine blk_far ?_ NB574_612.out _;refine bP ?_;refine blk_far ?_ NB574_612.out _;refine bP ?_;exact BK574.out⟩,⟨by refine bP ?_;refine blk_put (cs := #[.int .i64 t601,.int .i64 t602,.int .i64 t603,.int .i64 t604,.int .i64 t605,.int .i64 t606,.int .i64 t607,.slice Ao73 x586007_1.length co73]) ?_ 7 _ rfl;refine bP ?_;refine blk_put (cs := #[.int .i64 t601,.int .i64 t602,.int .i64 t603,.int .i64 t604,.int .i64 t605,.int .i64 t606,.int .i64 x586006_1,.slice Ao73 x586007_1.length co73]) ?_ 6 _ rfl;refine bP ?_;refine blk_put (cs := #[.int .i64 t601,.int .i64 t602,.int .i64 t603,.int .i64 t604,.int .i64 t605,.int .i64 x586005_1,.int .i64 x586006_1,.slice Ao73 x586007_1.length co73]) ?_ 5 _ rfl;refine bP ?_;refine blk_put (cs := #[.int .i64 t601,.int .i64 t602,.int .i64 t603,.int .i64 t604,.int .i64 x586004_1,.int .i64 x586005_1,.int .i64 x586006_1,.slice Ao73 x586007_1.length co73]) ?_ 4 _ rfl;refine bP ?_;refine blk_put (cs := #[.int .i64 t601,.int .i64 t602,.int .i64 t603,.int .i64 x586003_1,.int .i64 x586004_1,.int .i64 x586005_1,.int .i64 x586006_1,.slice Ao73 x586007_1.length co73]) ?_ 3 _ rfl;refine bP ?_;refine blk_put (cs := #[.int .i64 t601,.int .i64 t602,.int .i64 x586002_1,.int .i64 x586003_1,.int .i64 x586004_1,.int .i64 x586005_1,.int .i64 x586006_1,.slice Ao73 x586007_1.length co73]) ?_ 2 _ rfl;refine bP ?_;refine blk_put (cs := #[.int .i64 t601,.int .i64 x586001_1,.int .i64 x586002_1,.int .i64 x586003_1,.int .i64 x586004_1,.int .i64 x586005_1,.int .i64 x586006_1,.slice Ao73 x586007_1.length co73]) ?_ 1 _ rfl;refine bP ?_;refine blk_put (cs := #[.int .i64 x586000_1,.int .i64 x586001_1,.int .i64 x586002_1,.int .i64 x586003_1,.int .i64 x586004_1,.int .i64 x586005_1,.int .i64 x586006_1,.slice Ao73 x586007_1.length co73]) ?_ 0 _ rfl;refine bP ?_;refine blk_far ?_ NB585_612.out _;refine bP ?_;refine blk_far ?_ NB585_612.out _;refine bP ?_;refine blk_far ?_ NB585_612.out _;refine bP ?_;refine blk_far ?_ NB585_612.out _;refine bP ?_;refine blk_far ?_ NB585_612.out _;refine bP ?_;refine blk_far ?_ NB585_612.out _;refine bP ?_;refine blk_far ?_ NB585_612.out _;refine bP ?_;refine blk_far ?_ NB585_612.out _;refine bP ?_;exact BK585.out⟩,⟨Z72⟩⟩

end Go.Proofs.YtepnbcdbagjmbaeGreatDoor.QFnConfig
