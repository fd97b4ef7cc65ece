/- The machine side of FnConfig: what each Go function that it reaches comes to. Conditions: none. -/
import Derived.Test.YtepnbcdbagjmbaeGreatDoorQFnConfigx0
import Derived.Test.YtepnbcdbagjmbaeGreatDoorQFnConfigx2
import Derived.Test.YtepnbcdbagjmbaeGreatDoorQFnConfigx5
namespace Go.Proofs.YtepnbcdbagjmbaeGreatDoor.QFnConfig
open Go.RowKit Go.Proofs.YtepnbcdbagjmbaeGreatDoorW.PrintWords Go.Proofs.YtepnbcdbagjmbaeGreatDoorW.PrintLast Go.Proofs.YtepnbcdbagjmbaeGreatDoorW.PrintMore
attribute [local go_sem] max2_int min2_int max_two min_two max_three min_three max_four min_four   -- for this text's walks alone
set_option linter.unusedVariables false
set_option linter.unusedSimpArgs false

/-! ### impl_UsualConfig: function 27 -/
def impl_UsualConfig.f  : Option (Int × Int × Int × Int × Int × Int × Int × List Int) := some (4,2,4,1,1,1,1,([] : List Int))
set_option maxHeartbeats 8000000 in
set_option maxRecDepth 100000 in
theorem impl_UsualConfig.calls  (r1 : Int) (r2 : Int) (r3 : Int) (r4 : Int) (r5 : Int) (r6 : Int) (r7 : Int) (r8 : List Int) (w : World) (h : impl_UsualConfig.f  = some (r1,r2,r3,r4,r5,r6,r7,r8)) :
  Calls Tryz.prog 27 #[] w fun e w' => ∃ v7_ : Value,e = .returned (.agg #[.int .i64 r1,.int .i64 r2,.int .i64 r3,.int .i64 r4,.int .i64 r5,.int .i64 r6,.int .i64 r7,v7_]) ∧ Kd.R (Kd.int .i64) 3 w' w.heap.size (fun _ => True) v7_ r8 ∧ Below w.heap.size w w' := by
 have hu26 := Tryz.underlying26
 have HB := Aside0.mk (Below.refl w.heap.size w)
 have H := h
 clear h
 unfold impl_UsualConfig.f at H
 simp only [Option.some.injEq,Prod.mk.injEq] at H
 obtain ⟨rfl,rfl,rfl,rfl,rfl,rfl,rfl,rfl⟩ := H
 go_enter Tryz.func27,Tryz.ntmps27
 go_wp2_with (first | ((with_reducible refine gate_dst (N := 0) rfl ?_);refine bE 0 #[.int .i64 0,.int .i64 0,.int .i64 0,.int .i64 0,.int .i64 0,.int .i64 0,.int .i64 0,.slice none 0 0] 26 (h := ?_);intro gb360 hg wq1 hbox hb;have n_ := jA (below_step Z298 hb) (jA (hbox) (jA ((Z240 : w.heap.size ≤ gb360)) (Aside0.mk ((Z240 : w.heap.size ≤ gb360)))));clear HB;obtain ⟨HB,BK360,GW360,GE360⟩ := n_;clear hb hbox hg;obtain ⟨hczq2_0,hczq2_1,hczq2_2,hczq2_3,hczq2_4,hczq2_5,hczq2_6,hczq2_7,hfzq2_0,hfzq2_1,hfzq2_2,hfzq2_3,hfzq2_4,hfzq2_5,hfzq2_6,hfzq2_7⟩ := cells8 BK360.out))
 refine bodyPost_ret (results_cell_row rfl _ _ gb360 26 #[.int .i64 4,.int .i64 2,.int .i64 4,.int .i64 1,.int .i64 1,.int .i64 1,.int .i64 1,.slice none 0 0] (0,0) _ rfl (by refine bP ?_;refine blk_put (cs := #[.int .i64 4,.int .i64 2,.int .i64 4,.int .i64 1,.int .i64 1,.int .i64 1,.int .i64 1,.slice none 0 0]) ?_ 7 _ rfl;refine bP ?_;refine blk_put (cs := #[.int .i64 4,.int .i64 2,.int .i64 4,.int .i64 1,.int .i64 1,.int .i64 1,.int .i64 0,.slice none 0 0]) ?_ 6 _ rfl;refine bP ?_;refine blk_put (cs := #[.int .i64 4,.int .i64 2,.int .i64 4,.int .i64 1,.int .i64 1,.int .i64 0,.int .i64 0,.slice none 0 0]) ?_ 5 _ rfl;refine bP ?_;refine blk_put (cs := #[.int .i64 4,.int .i64 2,.int .i64 4,.int .i64 1,.int .i64 0,.int .i64 0,.int .i64 0,.slice none 0 0]) ?_ 4 _ rfl;refine bP ?_;refine blk_put (cs := #[.int .i64 4,.int .i64 2,.int .i64 4,.int .i64 0,.int .i64 0,.int .i64 0,.int .i64 0,.slice none 0 0]) ?_ 3 _ rfl;refine bP ?_;refine blk_put (cs := #[.int .i64 4,.int .i64 2,.int .i64 0,.int .i64 0,.int .i64 0,.int .i64 0,.int .i64 0,.slice none 0 0]) ?_ 2 _ rfl;refine bP ?_;refine blk_put (cs := #[.int .i64 4,.int .i64 0,.int .i64 0,.int .i64 0,.int .i64 0,.int .i64 0,.int .i64 0,.slice none 0 0]) ?_ 1 _ rfl;refine bP ?_;refine blk_put (cs := #[.int .i64 0,.int .i64 0,.int .i64 0,.int .i64 0,.int .i64 0,.int .i64 0,.int .i64 0,.slice none 0 0]) ?_ 0 _ rfl;refine bP ?_;exact BK360.out) Tryz.underlying26 rfl Z190) rfl ?_
 exact ⟨_,Z152,Z129,by repeat (first | (with_reducible first | exact HB.out | apply below_alloc | apply pw_below_drewN | apply below_drew1 | refine below_set ?_ GE360.out) | exact HB.out)⟩

/-! ### strings_Split: function 49 -/
def strings_Split.f (a0 a1 : ByteArray) : Option (List ByteArray) := if a0.size < 4294967281 ∧ 1 ≤ a1.size then some (Lib.splitB a1 0 (Lib.countB a0 a1) a0) else none
theorem strings_Split.calls (a0 a1 : ByteArray) (r : List ByteArray) (w : World) (hG : GT w) (h : strings_Split.f a0 a1 = some r) :
  Calls Tryz.prog 49 #[.string a0,.string a1] w fun e w' => ∃ v0_ : Value,e = .returned (v0_) ∧ Kd.R Kd.string 9 w' w.heap.size (fun _ => True) v0_ r ∧ Below w.heap.size w w' := by
 unfold strings_Split.f at h
 by_cases hb : a0.size < 4294967281 ∧ 1 ≤ a1.size
 rotate_left
 ·rw [if_neg hb] at h;cases h
 rw [if_pos hb] at h
 obtain rfl := Option.some.inj h
 obtain ⟨m,hm⟩ := hG.maxlen
 refine (Tryz.strings_Split a0 a1 m w hb.1 hm hb.2).mono fun e w' ⟨he,hw⟩ => ?_
 have hl := Lib.splitB_all a1 hb.2 0 _ a0 rfl
 have hc := Lib.countB_le a1 hb.2 _ a0 (Nat.le_refl _)
 refine ⟨_,he,Kd.R_of_own (enc := Value.string) ?_ (fun _ _ => trivial),hw ▸ below_alloc (Below.refl _ _) _⟩
 rw [hw,hl]
 refine World.ownsRow_lit (w := w) (size := 1) ((Lib.splitB a1 0 (Lib.countB a0 a1) a0).map Value.string).toArray (Lib.countB a0 a1 + 1) (Nat.le_refl _) ?_ ?_
 ·unfold maxLen;omega
 rw [List.size_toArray,List.length_map,hl,Nat.mul_one]

/-! ### impl_Parts: function 28 -/
def impl_Parts.f (a0 : ByteArray) (a1 : Int) : Option (List ByteArray) := (strings_Split.f a0 (strOfNums (([a1] : List Int)))).bind fun t364 => (some t364)
set_option maxHeartbeats 8000000 in
set_option maxRecDepth 100000 in
theorem impl_Parts.calls (a0 : ByteArray) (a1 : Int) (r : List ByteArray) (w : World) (hG : GT w) (h : impl_Parts.f a0 a1 = some r) :
  Calls Tryz.prog 28 #[.string a0,.int .u8 a1] w fun e w' => ∃ v0_ : Value,e = .returned (v0_) ∧ Kd.R Kd.string 9 w' w.heap.size (fun _ => True) v0_ r ∧ Below w.heap.size w w' := by
 have HG := Aside0.mk hG
 clear hG
 have HB := Aside0.mk (Below.refl w.heap.size w)
 have H : ((strings_Split.f a0 (strOfNums (([a1] : List Int)))).bind fun t364 => (some t364)) = some r := h
 clear h
 obtain ⟨y361,hyy⟩ : ∃ y_ : List Int,y_ = (([a1] : List Int)) := ⟨_,rfl⟩
 replace H : ((strings_Split.f a0 (strOfNums y361)).bind fun t364 => (some t364)) = some r := zR
 have Ny361 := Aside0.mk hyy
 clear hyy
 obtain ⟨t364,A30,H⟩ := Option.bind_eq_some_iff.mp H
 have A3 := Aside0.mk A30
 clear A30
 obtain rfl := Option.some.inj H
 go_enter Tryz.func28,Tryz.ntmps28
 go_wp2_with (first | ((with_reducible refine gate_dst (N := 7) rfl ?_);refine Kd.R_lit (Kd.int .u8) _ 5 ?hg (N := 7) ?hd (xs := ([a1] : List Int)) (inner := [.int .u8 a1]) (ok := fun _ => True) (okp := fun _ => True) ?hr ?hp (fun _ hk => hk) trivial (Below.refl _ _) (Nat.le_refl _) Z286 ?_;(case hd => rfl);(case hg => rfl);(case hr => exact Z166);(case hp => exact (Reps.one (show Kd.M (Kd.int .u8) _ _ _ a1 [.int .u8 a1] from rfl) (Reps.none _ _)));intro vq1 wq2 hoq3 hb hg_ hnew_;clear hg_ hnew_;(first | rw [← Ny361.out] at hoq3 | (simp only [Int.reduceToNat] at hoq3;rw [← Ny361.out] at hoq3));have n_ := Z56;clear HB;obtain ⟨HO363,HB⟩ := n_;clear hb hoq3;have hcvq4 := own_string (P := Tryz.prog) Tryz.underlying22 Tryz.underlying5 Tryz.underlying9 (Kd.own_of_R HO363.out)) | ((with_reducible refine gate_callee (f := 49) rfl ?_);refine goesL_ (some 9) rfl rfl Tryz.func49 Z190 rfl #[.string a0,.string (strOfNums y361)] rfl Z130 ?_;(with_reducible refine (strings_Split.calls a0 (strOfNums y361) t364 _ ?side1 A3.out).mono ?_);(case side1 => exact Z125);rintro e wq5 ⟨vq6,rfl,hoq7,hb⟩;refine ⟨_,rfl,?_⟩;have n_ := jA (Kd.R_below (by (with_reducible repeat (first | apply Kd.R_alloc | apply Kd.R_drewN | apply Kd.R_drew));exact HO363.out) hb) (jA (Kd.R_lower hoq7 (below_size Z298)) (Aside0.mk (below_step Z298 hb)));clear HO363 HB;obtain ⟨HO363,HO366,HB⟩ := n_;(try clear hb);(try clear hb2);(try clear hk);(try clear hi);(try clear hoq7)))
 go_ret
 exact ⟨_,Z152,by (with_reducible repeat (first | apply Kd.R_alloc | apply Kd.R_drewN | apply Kd.R_drew));exact HO366.out,Z298⟩

/-! ### strings_Cut: function 29 -/
def strings_Cut.f (a0 a1 : ByteArray) : Option (ByteArray × ByteArray × Bool) := if a0.size < 4294967281 then some (⟨(Lib.cut a0.data.toList a1.data.toList).1.toArray⟩,⟨(Lib.cut a0.data.toList a1.data.toList).2.1.toArray⟩,(Lib.cut a0.data.toList a1.data.toList).2.2) else none
theorem strings_Cut.calls (a0 a1 : ByteArray) (r1 r2 : ByteArray) (r3 : Bool) (w : World) (hG : GT w) (h : strings_Cut.f a0 a1 = some (r1,r2,r3)) :
  Calls Tryz.prog 29 #[.string a0,.string a1] w fun e w' => e = .returned (.tuple #[.string r1,.string r2,.bool r3]) ∧ Below w.heap.size w w' := by
 unfold strings_Cut.f at h
 by_cases hb : a0.size < 4294967281
 rotate_left
 ·rw [if_neg hb] at h;cases h
 rw [if_pos hb] at h
 simp only [Option.some.injEq,Prod.mk.injEq] at h
 obtain ⟨rfl,rfl,rfl⟩ := h
 obtain ⟨m,hm⟩ := hG.maxlen
 exact (Tryz.strings_Cut a0 a1 m w hb hm).mono fun e w' ⟨he,n,hw⟩ => ⟨he,hw ▸ pw_below_drewN (Below.refl _ _) n⟩

/-! ### slices_Index_string_string: function 51 -/
def slices_Index_string_string.l0 : Nat → List ByteArray → ByteArray → Int → Int → Option (Int)
 | 0,_,_,_,_ => none
 | k + 1,x0,x1,x7,x8 => if x8 < x7 then (if 0 ≤ x8 then (if x8 < (x0.length : Int) then (if x1.toList = (rdOf ByteArray.empty x0 x8).toList then (some x8) else (slices_Index_string_string.l0 k x0 x1 x7 (wrap64 (x8 + 1)))) else (none)) else (none)) else (some (-1))
def slices_Index_string_string.f (k : Nat) (l0 : List ByteArray) (a1 : ByteArray) : Option (Int) := slices_Index_string_string.l0 k l0 a1 (l0.length : Int) 0
theorem slices_Index_string_string.mono_l : ∀ k,(∀ y0 y1 y2 y3,LeO (slices_Index_string_string.l0 k y0 y1 y2 y3) (slices_Index_string_string.l0 (k + 1) y0 y1 y2 y3))
 | 0 => fun _ _ _ _ r h => by simp [slices_Index_string_string.l0] at h
 | k + 1 => by
  have ih0 := slices_Index_string_string.mono_l k
  ·intro y0 y1 y2 y3
   unfold slices_Index_string_string.l0
   repeat' first
   | (with_reducible exact ih0 _ _ _ _)
   | (with_reducible exact LeO.refl _)
   | (with_reducible exact LeO.none _)
   | (with_reducible refine LeO.ite ?_ ?_)
   | (with_reducible refine LeO.bind ?_ (fun _ => ?_))
   | exact ih0 _ _ _ _
   | exact LeO.none _
   | refine LeO.ite ?_ ?_
   | refine LeO.bind ?_ (fun _ => ?_)
theorem slices_Index_string_string.mono : ∀ a0 a1 k,LeO (slices_Index_string_string.f k a0 a1) (slices_Index_string_string.f (k + 1) a0 a1) := by
 intro a0 a1 k
 have ih0 := slices_Index_string_string.mono_l k
 unfold slices_Index_string_string.f
 repeat' first
   | (with_reducible exact ih0 _ _ _ _)
   | (with_reducible exact LeO.refl _)
   | (with_reducible exact LeO.none _)
   | (with_reducible refine LeO.ite ?_ ?_)
   | (with_reducible refine LeO.bind ?_ (fun _ => ?_))
   | exact ih0 _ _ _ _
   | exact LeO.none _
   | refine LeO.ite ?_ ?_
   | refine LeO.bind ?_ (fun _ => ?_)
set_option maxHeartbeats 8000000 in
set_option maxRecDepth 100000 in
theorem slices_Index_string_string.calls (k : Nat) (A0 : Option Addr) (c0 : Nat) (l0 : List ByteArray) (a1 : ByteArray) (r : Int) (w : World) (hr0 : Kd.C Kd.string w A0 l0.length l0) (hc0 : l0.length ≤ c0) (h : slices_Index_string_string.f k l0 a1 = some r) :
  Calls Tryz.prog 51 #[.slice A0 l0.length c0,.string a1] w fun e w' => e = .returned (.int .i64 r) ∧ Drawn0 w w' := by
 have HR0 := Aside0.mk hr0
 have HC0 := Aside0.mk hc0
 clear hr0 hc0
 have H : (slices_Index_string_string.l0 k l0 a1 (l0.length : Int) 0) = some r := h
 clear h
 have H' := Aside0.mk H
 clear H
 go_enter Tryz.func51,Tryz.ntmps51
 go_wp2
 go_loopg [8] k (fun kq v8 w' => ∃ (x8_1 : Int),v8 = .int .i64 x8_1 ∧ Aside0 (slices_Index_string_string.l0 kq l0 a1 (l0.length : Int) x8_1 = some r) ∧ Aside0 (kq ≤ k) ∧ Drawn0 w w')
 case atStart => exact ⟨(0),Z165,H',⟨Nat.le_refl _⟩,Z158⟩
 case round =>
  clear H'
  try clear p2
  obtain ⟨x8_1,rfl,HA,HK1,⟨m1,rfl⟩⟩ := hrel
  cases gk with
  | zero => exact absurd HA.out (by simp [slices_Index_string_string.l0])
  | succ k1 =>
   have H := HA.out
   clear HA
   simp only [slices_Index_string_string.l0] at H
   by_cases c3 : x8_1 < (l0.length : Int)
   rotate_left
   ·rw [if_neg c3] at H
    have c3b0 : decide (x8_1 < (l0.length : Int)) = false := decide_eq_false c3
    clear c3
    obtain rfl := Option.some.inj H
    go_wp2
    go_ret
    exact ⟨Z165,Z158⟩
   rw [if_pos c3] at H
   have c3b0 : decide (x8_1 < (l0.length : Int)) = true := decide_eq_true c3
   clear c3
   obtain ⟨c4,H⟩ := ifp H
   have c4b0 : decide (0 ≤ x8_1) = true := decide_eq_true c4
   clear c4
   obtain ⟨c5,H⟩ := ifp H
   have c5b0 : decide (x8_1 < (l0.length : Int)) = true := decide_eq_true c5
   clear c5
   by_cases c6 : a1.toList = (rdOf ByteArray.empty l0 x8_1).toList
   ·rw [if_pos c6] at H
    have c6b0 : (a1.toList == (rdOf ByteArray.empty l0 x8_1).toList) = true := beq_iff_eq.mpr c6
    have c6b1 : (a1.toList != (rdOf ByteArray.empty l0 x8_1).toList) = false := bne_eq_false_iff_eq.mpr c6
    clear c6
    obtain rfl := Option.some.inj H
    have p367 : 0 ≤ (x8_1 : Int) := of_decide_eq_true Z164
    have q367 : x8_1 < (l0.length : Int) := of_decide_eq_true Z164
    obtain ⟨ad367,e367,hx367_0⟩ := Kd.at_string HR0.out x8_1 p367 q367
    cases e367
    replace p367 := eq_true p367
    replace q367 := eq_true q367
    go_wp2
    go_ret
    exact ⟨Z165,Z158⟩
   rw [if_neg c6] at H
   have c6b0 : (a1.toList == (rdOf ByteArray.empty l0 x8_1).toList) = false := beq_eq_false_iff_ne.mpr c6
   have c6b1 : (a1.toList != (rdOf ByteArray.empty l0 x8_1).toList) = true := bne_iff_ne.mpr c6
   have H' := Aside0.mk H
   clear H
   have p367 : 0 ≤ (x8_1 : Int) := of_decide_eq_true Z164
   have q367 : x8_1 < (l0.length : Int) := of_decide_eq_true Z164
   obtain ⟨ad367,e367,hx367_0⟩ := Kd.at_string HR0.out x8_1 p367 q367
   cases e367
   replace p367 := eq_true p367
   replace q367 := eq_true q367
   go_wp2
   go_roundg k1
   case measure => have := HK1.out;omega
   case rel => exact ⟨(wrap64 (x8_1 + 1)),Z165,H',⟨Z184⟩,Z158⟩

/-! ### slices_Contains_string_string: function 30 -/
def slices_Contains_string_string.f (k : Nat) (l0 : List ByteArray) (a1 : ByteArray) : Option (Bool) := (slices_Index_string_string.f k l0 a1).bind fun t368 => (some (decide (t368 ≥ 0)))
theorem slices_Contains_string_string.mono : ∀ a0 a1 k,LeO (slices_Contains_string_string.f k a0 a1) (slices_Contains_string_string.f (k + 1) a0 a1) := by
 intro a0 a1 k
 unfold slices_Contains_string_string.f
 repeat' first
   | (with_reducible exact slices_Index_string_string.mono _ _ _)
   | (with_reducible exact LeO.refl _)
   | (with_reducible exact LeO.none _)
   | (with_reducible refine LeO.ite ?_ ?_)
   | (with_reducible refine LeO.bind ?_ (fun _ => ?_))
   | exact slices_Index_string_string.mono _ _ _
   | exact LeO.none _
   | refine LeO.ite ?_ ?_
   | refine LeO.bind ?_ (fun _ => ?_)
set_option maxHeartbeats 8000000 in
set_option maxRecDepth 100000 in
theorem slices_Contains_string_string.calls (k : Nat) (A0 : Option Addr) (c0 : Nat) (l0 : List ByteArray) (a1 : ByteArray) (r : Bool) (w : World) (hr0 : Kd.C Kd.string w A0 l0.length l0) (hc0 : l0.length ≤ c0) (h : slices_Contains_string_string.f k l0 a1 = some r) :
  Calls Tryz.prog 30 #[.slice A0 l0.length c0,.string a1] w fun e w' => e = .returned (.bool r) ∧ Drawn0 w w' := by
 have HR0 := Aside0.mk hr0
 have HC0 := Aside0.mk hc0
 clear hr0 hc0
 have H := h
 clear h
 unfold slices_Contains_string_string.f at H
 obtain ⟨t368,A30,H⟩ := Option.bind_eq_some_iff.mp H
 have A3 := Aside0.mk A30
 clear A30
 obtain rfl := Option.some.inj H
 go_enter Tryz.func30,Tryz.ntmps30
 go_wp2_with (first | ((with_reducible refine gate_callee (f := 51) rfl ?_);refine goesL_ (some 7) rfl rfl Tryz.func51 Z190 rfl #[.slice A0 l0.length c0,.string a1] rfl Z130 ?_;(with_reducible refine (slices_Index_string_string.calls k _ _ l0 a1 t368 _ ?side1 ?side2 A3.out).mono ?_);(case side1 => exact Z127);(case side2 => exact HC0.out);rintro e w' ⟨rfl,⟨nd,rfl⟩⟩;refine ⟨_,rfl,?_⟩))
 go_ret
 exact ⟨Z165,Z158⟩

/-! ### strings_SplitN: function 65 -/
def strings_SplitN.f (a0 a1 : ByteArray) (a2 : Int) : Option (List ByteArray) := if a0.size < 4294967281 ∧ 1 ≤ a1.size ∧ 1 ≤ a2 ∧ a2 ≤ 9223372036854775807 then some (Lib.splitB a1 0 (min a2.toNat (a0.size + 1) - 1) a0) else none
theorem strings_SplitN.calls (a0 a1 : ByteArray) (a2 : Int) (r : List ByteArray) (w : World) (hG : GT w) (h : strings_SplitN.f a0 a1 a2 = some r) :
  Calls Tryz.prog 65 #[.string a0,.string a1,.int .i64 a2] w fun e w' => ∃ v0_ : Value,e = .returned (v0_) ∧ Kd.R Kd.string 9 w' w.heap.size (fun _ => True) v0_ r ∧ Below w.heap.size w w' := by
 unfold strings_SplitN.f at h
 by_cases hb : a0.size < 4294967281 ∧ 1 ≤ a1.size ∧ 1 ≤ a2 ∧ a2 ≤ 9223372036854775807
 rotate_left
 ·rw [if_neg hb] at h;cases h
 rw [if_pos hb] at h
 obtain rfl := Option.some.inj h
 obtain ⟨m,hm⟩ := hG.maxlen
 obtain ⟨n,rfl⟩ := Int.eq_ofNat_of_zero_le (show 0 ≤ a2 by omega)
 refine (Tryz.strings_SplitN a0 a1 n m w hb.1 hm hb.2.1 Z285 Z285).mono fun e w' ⟨he,hw⟩ => ?_
 rw [Int.toNat_natCast]
 have hl := Lib.splitB_length_le a1 0 (min n (a0.size + 1) - 1) a0
 generalize hL : Lib.splitB a1 0 (min n (a0.size + 1) - 1) a0 = L at he hw hl ⊢
 have hN : 1 ≤ min n (a0.size + 1) ∧ min n (a0.size + 1) ≤ a0.size + 1 := by omega
 generalize min n (a0.size + 1) = N at he hw hl hN
 have hle : L.length ≤ N := by omega
 refine ⟨_,he,Kd.R_of_own (enc := Value.string) ?_ (fun _ _ => trivial),hw ▸ below_alloc (Below.refl _ _) _⟩
 rw [hw]
 refine ⟨by simp [encs],.inr ⟨w.heap.size,N,_,rfl,Nat.le_refl _,heap_alloc_new w _,hle,?_,?_,?_⟩⟩
 ·unfold maxLen;omega
 ·rw [Lib.cellsOf_size hle,Nat.mul_one]
 simp [Lib.cellsOf,encs]

/-! ### strings_Index: function 66 -/
def strings_Index.f (a0 a1 : ByteArray) : Option Int := if a0.size < 4294967281 then some (Lib.index a0.data.toList a1.data.toList) else none
theorem strings_Index.calls (a0 a1 : ByteArray) (r : Int) (w : World) (hG : GT w) (h : strings_Index.f a0 a1 = some r) :
  Calls Tryz.prog 66 #[.string a0,.string a1] w fun e w' => e = .returned (.int .i64 r) ∧ Below w.heap.size w w' := by
 unfold strings_Index.f at h
 by_cases hb : a0.size < 4294967281
 rotate_left
 ·rw [if_neg hb] at h;cases h
 rw [if_pos hb] at h
 obtain rfl := Option.some.inj h
 obtain ⟨m,hm⟩ := hG.maxlen
 exact (Tryz.strings_Index a0 a1 m w hb hm).mono fun e w' ⟨he,hw⟩ => ⟨he,hw ▸ Below.refl _ _⟩

/-! ### impl_readSigns: function 52 -/
def impl_readSigns.l0 : Nat → List Int → List ByteArray → Int → Int → Option (List Int × Bool)
 | 0,_,_,_,_ => none
 | k + 1,x4,x10,x11,x12 => if x12 < x11 then (if 0 ≤ x12 then (if x12 < (x10.length : Int) then ((strings_Index.f (⟨#[45,48,43]⟩ : ByteArray) (rdOf ByteArray.empty x10 x12)).bind fun t376 => (if ((rdOf ByteArray.empty x10 x12).size : Int) = 1 then (if (wrap64 (t376 - 1)) < (-1) then (some (([] : List Int),false)) else (if x4.length < 17592186044416 then (impl_readSigns.l0 k (x4 ++ [wrap64 (t376 - 1)]) x10 x11 (wrap64 (x12 + 1))) else (none))) else (some (([] : List Int),false)))) else (none)) else (none)) else (some (x4,decide ((x4.length : Int) ≤ 4)))
def impl_readSigns.f (k : Nat) (a0 : ByteArray) : Option (List Int × Bool) := (strings_SplitN.f a0 (⟨#[44]⟩ : ByteArray) 5).bind fun t372 => (impl_readSigns.l0 k (([] : List Int)) t372 (t372.length : Int) 0)
theorem impl_readSigns.mono_l : ∀ k,(∀ y0 y1 y2 y3,LeO (impl_readSigns.l0 k y0 y1 y2 y3) (impl_readSigns.l0 (k + 1) y0 y1 y2 y3))
 | 0 => fun _ _ _ _ r h => by simp [impl_readSigns.l0] at h
 | k + 1 => by
  have ih0 := impl_readSigns.mono_l k
  ·intro y0 y1 y2 y3
   unfold impl_readSigns.l0
   repeat' first
   | (with_reducible exact ih0 _ _ _ _)
   | (with_reducible exact LeO.refl _)
   | (with_reducible exact LeO.none _)
   | (with_reducible refine LeO.ite ?_ ?_)
   | (with_reducible refine LeO.bind ?_ (fun _ => ?_))
   | exact ih0 _ _ _ _
   | exact LeO.none _
   | refine LeO.ite ?_ ?_
   | refine LeO.bind ?_ (fun _ => ?_)
theorem impl_readSigns.mono : ∀ a0 k,LeO (impl_readSigns.f k a0) (impl_readSigns.f (k + 1) a0) := by
 intro a0 k
 have ih0 := impl_readSigns.mono_l k
 unfold impl_readSigns.f
 repeat' first
   | (with_reducible exact ih0 _ _ _ _)
   | (with_reducible exact LeO.refl _)
   | (with_reducible exact LeO.none _)
   | (with_reducible refine LeO.ite ?_ ?_)
   | (with_reducible refine LeO.bind ?_ (fun _ => ?_))
   | exact ih0 _ _ _ _
   | exact LeO.none _
   | refine LeO.ite ?_ ?_
   | refine LeO.bind ?_ (fun _ => ?_)
set_option maxHeartbeats 8000000 in
set_option maxRecDepth 100000 in
theorem impl_readSigns.calls (k : Nat) (a0 : ByteArray) (r1 : List Int) (r2 : Bool) (w : World) (hG : GT w) (h : impl_readSigns.f k a0 = some (r1,r2)) :
  Calls Tryz.prog 52 #[.string a0] w fun e w' => ∃ v0_ : Value,e = .returned (.tuple #[v0_,.bool r2]) ∧ Kd.R (Kd.int .i64) 3 w' w.heap.size (fun _ => True) v0_ r1 ∧ Below w.heap.size w w' := by
 have HG := Aside0.mk hG
 clear hG
 have HB := Aside0.mk (Below.refl w.heap.size w)
 have H : ((strings_SplitN.f a0 (⟨#[44]⟩ : ByteArray) 5).bind fun t372 => (impl_readSigns.l0 k (([] : List Int)) t372 (t372.length : Int) 0)) = some (r1,r2) := h
 clear h
 obtain ⟨y369,hyy⟩ : ∃ y_ : List Int,y_ = (([] : List Int)) := ⟨_,rfl⟩
 replace H : ((strings_SplitN.f a0 (⟨#[44]⟩ : ByteArray) 5).bind fun t372 => (impl_readSigns.l0 k y369 t372 (t372.length : Int) 0)) = some (r1,r2) := zR
 have Ny369 := Aside0.mk hyy
 clear hyy
 obtain ⟨t372,A20,H⟩ := Option.bind_eq_some_iff.mp H
 have A2 := Aside0.mk A20
 clear A20
 have H' := Aside0.mk H
 clear H
 go_enter Tryz.func52,Tryz.ntmps52
 go_wp2_with (first | ((with_reducible refine gate_dst (N := 8) rfl ?_);refine Kd.R_lit (Kd.int .i64) _ 3 ?hg (N := 8) ?hd (xs := ([] : List Int)) (inner := []) (ok := fun _ => True) (okp := fun _ => True) ?hr ?hp (fun _ hk => hk) trivial (Below.refl _ _) (Nat.le_refl _) Z286 ?_;(case hd => rfl);(case hg => rfl);(case hr => exact Z166);(case hp => exact Z185);intro v370 w3 ho4 hb hg_ hnew_;clear hg_ hnew_;(first | rw [← Ny369.out] at ho4 | (simp only [Int.reduceToNat] at ho4;rw [← Ny369.out] at ho4));have n_ := Z57;clear HB;obtain ⟨HO371,HB⟩ := n_;clear hb ho4) | ((with_reducible refine gate_callee (f := 65) rfl ?_);refine goesL_ (some 10) rfl rfl Tryz.func65 Z190 rfl #[.string a0,.string (⟨#[44]⟩ : ByteArray),.int .i64 5] rfl Z130 ?_;(with_reducible refine (strings_SplitN.calls a0 (⟨#[44]⟩ : ByteArray) 5 t372 _ ?side1 A2.out).mono ?_);(case side1 => exact Z125);rintro e w5 ⟨v373,rfl,ho0,hb⟩;refine ⟨_,rfl,?_⟩;have n_ := jA (Kd.R_below Z150 hb) (jA (Kd.R_lower ho0 (below_size Z298)) (Aside0.mk (below_step Z298 hb)));clear HO371 HB;obtain ⟨HO371,HO374,HB⟩ := n_;(try clear hb);(try clear hb2);(try clear hk);(try clear hi);(try clear ho0);obtain ⟨Ao6,co6,eo6⟩ := Kd.R_slice HO374.out;subst eo6))
 go_loopg [4,12] k (fun kq v4 v12 w' => ∃ (x4_1 : List Int) (x12_1 : Int),v12 = .int .i64 x12_1 ∧ Aside0 (impl_readSigns.l0 kq x4_1 t372 (t372.length : Int) x12_1 = some (r1,r2)) ∧ Aside0 (kq ≤ k) ∧ Aside0 (Kd.R (Kd.int .i64) 3 w' w.heap.size (fun _ => True) v4 x4_1) ∧ Aside0 (Kd.R Kd.string 9 w' w.heap.size (fun _ => True) (.slice Ao6 t372.length co6) t372) ∧ Aside0 (Below w.heap.size w w'))
 case atStart => exact ⟨(y369),(0),Z165,H',⟨Nat.le_refl _⟩,⟨Z150⟩,⟨by (with_reducible repeat (first | apply Kd.R_alloc | apply Kd.R_drewN | apply Kd.R_drew));exact HO374.out⟩,⟨Z298⟩⟩
 case round =>
  clear H'
  try clear p2
  try clear c5
  try clear c6
  obtain ⟨x4_1,x12_1,rfl,HA,HK1,HO_4,HO_10,HB⟩ := hrel
  cases gk with
  | zero => exact absurd HA.out (by simp [impl_readSigns.l0])
  | succ k1 =>
   have H := HA.out
   clear HA
   simp only [impl_readSigns.l0] at H
   by_cases c7 : x12_1 < (t372.length : Int)
   rotate_left
   ·rw [if_neg c7] at H
    have c7b0 : decide (x12_1 < (t372.length : Int)) = false := decide_eq_false c7
    clear c7
    simp only [Option.some.injEq,Prod.mk.injEq] at H
    obtain ⟨rfl,rfl⟩ := H
    obtain ⟨Ao18,co18,eo18⟩ := Kd.R_slice HO_4.out
    subst eo18
    go_wp2
    go_ret2
    exact ⟨_,Z152,Z269,Z298⟩
   rw [if_pos c7] at H
   have c7b0 : decide (x12_1 < (t372.length : Int)) = true := decide_eq_true c7
   clear c7
   obtain ⟨c8,H⟩ := ifp H
   have c8b0 : decide (0 ≤ x12_1) = true := decide_eq_true c8
   clear c8
   obtain ⟨c9,H⟩ := ifp H
   have c9b0 : decide (x12_1 < (t372.length : Int)) = true := decide_eq_true c9
   clear c9
   obtain ⟨t376,A100,H⟩ := Option.bind_eq_some_iff.mp H
   have A10 := Aside0.mk A100
   clear A100
   by_cases c11 : ((rdOf ByteArray.empty t372 x12_1).size : Int) = 1
   rotate_left
   ·rw [if_neg c11] at H
    have c11b0 : (((rdOf ByteArray.empty t372 x12_1).size : Int) == 1) = false := beq_eq_false_iff_ne.mpr c11
    have c11b1 : (((rdOf ByteArray.empty t372 x12_1).size : Int) != 1) = true := bne_iff_ne.mpr c11
    simp only [Option.some.injEq,Prod.mk.injEq] at H
    obtain ⟨rfl,rfl⟩ := H
    have p375 : 0 ≤ (x12_1 : Int) := of_decide_eq_true Z164
    have q375 : x12_1 < (t372.length : Int) := of_decide_eq_true Z164
    obtain ⟨ad375,e375,hx375_0⟩ := Kd.at_string (Kd.R_reads' HO_10.out).2.2 x12_1 p375 q375
    cases e375
    replace p375 := eq_true p375
    replace q375 := eq_true q375
    go_wp2_with (first | ((with_reducible refine gate_callee (f := 66) rfl ?_);refine goesL_ (some 17) rfl rfl Tryz.func66 Z190 rfl #[.string (⟨#[45,48,43]⟩ : ByteArray),.string (rdOf ByteArray.empty t372 x12_1)] rfl Z130 ?_;(with_reducible refine (strings_Index.calls (⟨#[45,48,43]⟩ : ByteArray) (rdOf ByteArray.empty t372 x12_1) t376 _ ?side1 A10.out).mono ?_);(case side1 => exact Z125);rintro e wq1 ⟨rfl,hb⟩;refine ⟨_,rfl,?_⟩;have n_ := Z54;clear HO_4 HO_10 HB;obtain ⟨HO_4,HO_10,HB⟩ := n_;(try clear hb);(try clear hb2);(try clear hk);(try clear hi)))
    go_ret2
    exact ⟨_,Z152,Z129,Z298⟩
   rw [if_pos c11] at H
   have c11b0 : (((rdOf ByteArray.empty t372 x12_1).size : Int) == 1) = true := beq_iff_eq.mpr c11
   have c11b1 : (((rdOf ByteArray.empty t372 x12_1).size : Int) != 1) = false := bne_eq_false_iff_eq.mpr c11
   clear c11
   by_cases c12 : (wrap64 (t376 - 1)) < (-1)
   ·rw [if_pos c12] at H
    have c12b0 : decide ((wrap64 (t376 - 1)) < (-1)) = true := decide_eq_true c12
    clear c12
    simp only [Option.some.injEq,Prod.mk.injEq] at H
    obtain ⟨rfl,rfl⟩ := H
    have p375 : 0 ≤ (x12_1 : Int) := of_decide_eq_true Z164
    have q375 : x12_1 < (t372.length : Int) := of_decide_eq_true Z164
    obtain ⟨ad375,e375,hx375_0⟩ := Kd.at_string (Kd.R_reads' HO_10.out).2.2 x12_1 p375 q375
    cases e375
    replace p375 := eq_true p375
    replace q375 := eq_true q375
    go_wp2_with (first | ((with_reducible refine gate_callee (f := 66) rfl ?_);refine goesL_ (some 17) rfl rfl Tryz.func66 Z190 rfl #[.string (⟨#[45,48,43]⟩ : ByteArray),.string (rdOf ByteArray.empty t372 x12_1)] rfl Z130 ?_;(with_reducible refine (strings_Index.calls (⟨#[45,48,43]⟩ : ByteArray) (rdOf ByteArray.empty t372 x12_1) t376 _ ?side1 A10.out).mono ?_);(case side1 => exact Z125);rintro e wq1 ⟨rfl,hb⟩;refine ⟨_,rfl,?_⟩;have n_ := Z54;clear HO_4 HO_10 HB;obtain ⟨HO_4,HO_10,HB⟩ := n_;(try clear hb);(try clear hb2);(try clear hk);(try clear hi)))
    go_ret2
    exact ⟨_,Z152,Z129,Z298⟩
   rw [if_neg c12] at H
   have c12b0 : decide ((wrap64 (t376 - 1)) < (-1)) = false := decide_eq_false c12
   clear c12
   obtain ⟨c14,H⟩ := ifp H
   have LMc14 := Aside0.mk c14
   clear c14
   obtain ⟨y377,hyy⟩ : ∃ y_ : List Int,y_ = (x4_1 ++ [wrap64 (t376 - 1)]) := ⟨_,rfl⟩
   replace H : (impl_readSigns.l0 k1 y377 t372 (t372.length : Int) (wrap64 (x12_1 + 1))) = some (r1,r2) := zR
   have Ny377 := Aside0.mk hyy
   clear hyy
   have H' := Aside0.mk H
   clear H
   have p375 : 0 ≤ (x12_1 : Int) := of_decide_eq_true Z164
   have q375 : x12_1 < (t372.length : Int) := of_decide_eq_true Z164
   obtain ⟨ad375,e375,hx375_0⟩ := Kd.at_string (Kd.R_reads' HO_10.out).2.2 x12_1 p375 q375
   cases e375
   replace p375 := eq_true p375
   replace q375 := eq_true q375
   go_wp2_with (first | ((with_reducible refine gate_callee (f := 66) rfl ?_);refine goesL_ (some 17) rfl rfl Tryz.func66 Z190 rfl #[.string (⟨#[45,48,43]⟩ : ByteArray),.string (rdOf ByteArray.empty t372 x12_1)] rfl Z130 ?_;(with_reducible refine (strings_Index.calls (⟨#[45,48,43]⟩ : ByteArray) (rdOf ByteArray.empty t372 x12_1) t376 _ ?side1 A10.out).mono ?_);(case side1 => exact Z125);rintro e w15 ⟨rfl,hb⟩;refine ⟨_,rfl,?_⟩;have n_ := Z54;clear HO_4 HO_10 HB;obtain ⟨HO_4,HO_10,HB⟩ := n_;(try clear hb);(try clear hb2);(try clear hk);(try clear hi)) | ((with_reducible refine gate_builtin (b := .append) (xs := #[.tmp 26,.tmp 28]) rfl ?_);at_builtin;refine Kd.R_append (Kd.int .i64) (w0 := w) w.heap.size rfl (.tmp 26) (.tmp 28) 24 3 (.int .i64 0) 8 rfl Tryz.underlying24 info3 rfl Z306 Z285 u4 x4_1 (wrap64 (t376 - 1)) [.int .i64 (wrap64 (t376 - 1))] (fun _ => True) (fun _ => False) rfl rfl ?aP (fun _ hk => hk.elim) ?aF ?aO ?aB ?aS ?aL ?_;(case aP => exact rfl);(case aB => exact Z128);(case aF => exact Z183);(case aO => exact Z134);(case aS => exact Z126);(case aL => have := LMc14.out;omega);intro v378 w16 ho hb hg hat;rw [← Ny377.out] at ho;have n_ := jA (Kd.R_over' Z264 (Kd.R_typed Z269) Z306 hg) (jA (hb) (Aside0.mk (ho)));clear HO_10 HB HO_4;obtain ⟨HO_10,HB,HO379⟩ := n_;clear ho hb hg hat))
   go_roundg k1
   case measure => have := HK1.out;omega
   case rel => exact ⟨(y377),(wrap64 (x12_1 + 1)),Z165,H',⟨Z184⟩,⟨by (with_reducible repeat (first | apply Kd.R_alloc | apply Kd.R_drewN | apply Kd.R_drew));exact HO379.out⟩,⟨Z264⟩,⟨Z298⟩⟩

/-! ### impl_IntText: function 67 -/
def impl_IntText.f (a0 : ByteArray) : Option (Int × Bool) := if a0.size ≤ 281474976710656 then (match Lib.atoiAll a0.data.toList with
 | .ok v => (impl_Digits.f v).bind fun t => (if t = a0 then some (v,true) else some (0,false))
 | _ => some (0,false)) else none
theorem impl_IntText.below {w w' : World} {e : Nat} (h : w' = w ∨ ∃ t,w' = Lib.bytesWorld w e t) : Below w.heap.size w w' := by
 rcases h with rfl | ⟨t,rfl⟩
 ·exact Below.refl _ _
 exact Lib.bytesWorld_below _ _ _
theorem impl_IntText.calls (a0 : ByteArray) (r1 : Int) (r2 : Bool) (w : World) (hG : GT w) (h : impl_IntText.f a0 = some (r1,r2)) :
  Calls Tryz.prog 67 #[.string a0] w fun e w' => e = .returned (.tuple #[.int .i64 r1,.bool r2]) ∧ Below w.heap.size w w' := by
 have HG := Aside0.mk hG
 clear hG
 have HB := Aside0.mk (Below.refl w.heap.size w)
 unfold impl_IntText.f at h
 by_cases hlim : a0.size ≤ 281474976710656
 rotate_left
 ·rw [if_neg hlim] at h;cases h
 rw [if_pos hlim] at h
 cases hA : Lib.atoiAll a0.data.toList with
 | ok v =>
  have AE := Aside0.mk hA
  rw [hA] at h
  clear hA
  obtain ⟨t,hd,h⟩ := Option.bind_eq_some_iff.mp h
  have AD := Aside0.mk hd
  clear hd
  by_cases ht : t = a0
  ·subst ht
   rw [if_pos rfl] at h
   obtain ⟨rfl,rfl⟩ := Prod.mk.inj (Option.some.inj h)
   clear h
   go_enter Tryz.func67,Tryz.ntmps67
   go_wp2_with (first
    | (go_at_call 79;(with_reducible refine (Tryz.strconv_Atoi_ok t Z285 v AE.out _).mono ?_);rintro e w1 ⟨rfl,hw⟩;have hb := impl_IntText.below hw;clear hw;have n0_ := Aside0.mk (below_step Z298 hb);clear HB;have HB := n0_;clear n0_ hb)
    | (go_at_call 17;(with_reducible refine (impl_Digits.calls v t _ (GT_below HG.out Z298) AD.out).mono ?_);rintro e w2 ⟨rfl,hb⟩;have n0_ := Aside0.mk (below_step Z298 hb);clear HB;have HB := n0_;clear n0_ hb))
   go_ret2
   exact ⟨rfl,HB.out⟩
  rw [if_neg ht] at h
  obtain ⟨rfl,rfl⟩ := Prod.mk.inj (Option.some.inj h)
  clear h
  have htl : (t.toList == a0.toList) = false := beq_eq_false_iff_ne.mpr (fun e => ht (by rw [ByteArray.toList_eq,ByteArray.toList_eq] at e;exact ByteArray.ext (Array.toList_inj.mp e)))
  go_enter Tryz.func67,Tryz.ntmps67
  go_wp2_with (first
   | (go_at_call 79;(with_reducible refine (Tryz.strconv_Atoi_ok a0 Z285 v AE.out _).mono ?_);rintro e w1 ⟨rfl,hw⟩;have hb := impl_IntText.below hw;clear hw;have n0_ := Aside0.mk (below_step Z298 hb);clear HB;have HB := n0_;clear n0_ hb)
   | (go_at_call 17;(with_reducible refine (impl_Digits.calls v t _ (GT_below HG.out Z298) AD.out).mono ?_);rintro e w2 ⟨rfl,hb⟩;have n0_ := Aside0.mk (below_step Z298 hb);clear HB;have HB := n0_;clear n0_ hb))
  go_ret2
  exact ⟨rfl,HB.out⟩
 | range =>
  have AE := Aside0.mk hA
  rw [hA] at h
  clear hA
  obtain ⟨rfl,rfl⟩ := Prod.mk.inj (Option.some.inj h)
  clear h
  go_enter Tryz.func67,Tryz.ntmps67
  go_wp2_with (first
   | (go_at_call 79;(obtain ⟨t_,p_,hv_⟩ := (GT_below HG.out Z298).rng);(with_reducible refine (Tryz.strconv_Atoi_range a0 hlim AE.out (.iface t_ p_) _ hv_ (.inr ⟨t_,p_,rfl⟩)).mono ?_);rintro e w1 ⟨n_,rfl,_,_,hb⟩;clear hv_;have n0_ := Aside0.mk (below_step Z298 hb);clear HB;have HB := n0_;clear n0_ hb))
  go_ret2
  exact ⟨rfl,HB.out⟩

 | _ =>
  have AE := Aside0.mk (show (∀ v,Lib.atoiAll a0.data.toList ≠ .ok v) ∧ Lib.atoiAll a0.data.toList ≠ .range from ⟨fun v e => (by rw [hA] at e;cases e),fun e => (by rw [hA] at e;cases e)⟩)
  rw [hA] at h
  clear hA
  obtain ⟨rfl,rfl⟩ := Prod.mk.inj (Option.some.inj h)
  clear h
  go_enter Tryz.func67,Tryz.ntmps67
  go_wp2_with (first
   | (go_at_call 79;(obtain ⟨t_,p_,hv_⟩ := (GT_below HG.out Z298).syn);(with_reducible refine (Tryz.strconv_Atoi_syntax a0 hlim AE.out (.iface t_ p_) _ hv_ (.inr ⟨t_,p_,rfl⟩)).mono ?_);rintro e w1 ⟨n_,rfl,_,_,hb⟩;clear hv_;have n0_ := Aside0.mk (below_step Z298 hb);clear HB;have HB := n0_;clear n0_ hb))
  go_ret2
  exact ⟨rfl,HB.out⟩
/-! ### impl_Number: function 53 -/
def impl_Number.f (a0 : ByteArray) : Option (Int × Bool) := (impl_IntText.f a0).bind fun bt380 => (if bt380.2 = true then ((impl_within.f bt380.1 0 999999999).bind fun t382 => (if t382 = true then (some (bt380.1,true)) else (some (0,false)))) else (some (0,false)))
set_option maxHeartbeats 8000000 in
set_option maxRecDepth 100000 in
theorem impl_Number.calls (a0 : ByteArray) (r1 : Int) (r2 : Bool) (w : World) (hG : GT w) (h : impl_Number.f a0 = some (r1,r2)) :
  Calls Tryz.prog 53 #[.string a0] w fun e w' => e = .returned (.tuple #[.int .i64 r1,.bool r2]) ∧ Below w.heap.size w w' := by
 have HG := Aside0.mk hG
 clear hG
 have HB := Aside0.mk (Below.refl w.heap.size w)
 have H : ((impl_IntText.f a0).bind fun bt380 => (if bt380.2 = true then ((impl_within.f bt380.1 0 999999999).bind fun t382 => (if t382 = true then (some (bt380.1,true)) else (some (0,false)))) else (some (0,false)))) = some (r1,r2) := h
 clear h
 obtain ⟨⟨t380,t381⟩,A20,H⟩ := Option.bind_eq_some_iff.mp H
 try dsimp only at H
 have A2 := Aside0.mk A20
 clear A20
 by_cases c3 : t381 = true
 rotate_left
 ·replace c3 := Bool.eq_false_iff.mpr c3
  subst c3
  rw [if_neg Bool.false_ne_true] at H
  simp only [Option.some.injEq,Prod.mk.injEq] at H
  obtain ⟨rfl,rfl⟩ := H
  go_enter Tryz.func53,Tryz.ntmps53
  go_wp2_with (first | ((with_reducible refine gate_callee (f := 67) rfl ?_);refine goesL_ (some 8) rfl rfl Tryz.func67 Z190 rfl #[.string a0] rfl Z130 ?_;(with_reducible refine (impl_IntText.calls a0 t380 false _ ?side1 A2.out).mono ?_);(case side1 => exact Z125);rintro e wq1 ⟨rfl,hb⟩;refine ⟨_,rfl,?_⟩;have n0_ := Aside0.mk (below_step Z298 hb);clear HB;have HB := n0_;clear n0_;(try clear hb);(try clear hb2);(try clear hk);(try clear hi)))
  go_ret2
  exact ⟨Z152,Z298⟩
 subst c3
 rw [if_pos rfl] at H
 obtain ⟨t382,A40,H⟩ := Option.bind_eq_some_iff.mp H
 have A4 := Aside0.mk A40
 clear A40
 by_cases c5 : t382 = true
 ·subst c5
  rw [if_pos rfl] at H
  simp only [Option.some.injEq,Prod.mk.injEq] at H
  obtain ⟨rfl,rfl⟩ := H
  go_enter Tryz.func53,Tryz.ntmps53
  go_wp2_with (first | ((with_reducible refine gate_callee (f := 67) rfl ?_);refine goesL_ (some 8) rfl rfl Tryz.func67 Z190 rfl #[.string a0] rfl Z130 ?_;(with_reducible refine (impl_IntText.calls a0 t380 true _ ?side1 A2.out).mono ?_);(case side1 => exact Z125);rintro e wq1 ⟨rfl,hb⟩;refine ⟨_,rfl,?_⟩;have n0_ := Aside0.mk (below_step Z298 hb);clear HB;have HB := n0_;clear n0_;(try clear hb);(try clear hb2);(try clear hk);(try clear hi)) | (go_at_call 23;(with_reducible refine (impl_within.calls t380 0 999999999 true _ A4.out).mono ?_);rintro e w' ⟨rfl,⟨nd,rfl⟩⟩))
  go_ret2
  exact ⟨Z152,Z298⟩
 replace c5 := Bool.eq_false_iff.mpr c5
 subst c5
 rw [if_neg Bool.false_ne_true] at H
 simp only [Option.some.injEq,Prod.mk.injEq] at H
 obtain ⟨rfl,rfl⟩ := H
 go_enter Tryz.func53,Tryz.ntmps53
 go_wp2_with (first | ((with_reducible refine gate_callee (f := 67) rfl ?_);refine goesL_ (some 8) rfl rfl Tryz.func67 Z190 rfl #[.string a0] rfl Z130 ?_;(with_reducible refine (impl_IntText.calls a0 t380 true _ ?side1 A2.out).mono ?_);(case side1 => exact Z125);rintro e wq1 ⟨rfl,hb⟩;refine ⟨_,rfl,?_⟩;have n0_ := Aside0.mk (below_step Z298 hb);clear HB;have HB := n0_;clear n0_;(try clear hb);(try clear hb2);(try clear hk);(try clear hi)) | (go_at_call 23;(with_reducible refine (impl_within.calls t380 0 999999999 false _ A4.out).mono ?_);rintro e w' ⟨rfl,⟨nd,rfl⟩⟩))
 go_ret2
 exact ⟨Z152,Z298⟩

/-! ### impl_Config_set: function 31 -/
def impl_Config_set.place (a1 : ByteArray) : Nat × Int × Int := if a1.toList = ([114,111,117,110,100,115] : List UInt8) then (0,1,8) else if a1.toList = ([100,101,112,116,104] : List UInt8) then (1,0,4) else if a1.toList = ([98,105,110,115] : List UInt8) then (2,2,8) else if a1.toList = ([108,97,109,98,100,97] : List UInt8) then (3,1,100) else (4,1,20)
def impl_Config_set.num (x0 x1 x2 x3 x4 x5 x6 : Int) (l7 : List Int) (a1 : ByteArray) (n : Int) (i : Nat) : Int × Int × Int × Int × Int × Int × Int × Int × List Int := (0,if i = 0 then n else x0,if i = 1 then n else x1,if i = 2 then n else x2,if i = 3 then n else x3,if i = 4 then n else x4,x5,x6,l7)
def impl_Config_set.f (k : Nat) (x0 x1 x2 x3 x4 x5 x6 : Int) (l7 : List Int) (a1 a2 : ByteArray) : Option (Int × Int × Int × Int × Int × Int × Int × Int × List Int) :=
 if a1.toList = ([115,105,103,110,115] : List UInt8) then (impl_readSigns.f k a2).bind fun t => (if t.2 = true then some (0,x0,x1,x2,x3,x4,x5,x6,t.1) else some (14,x0,x1,x2,x3,x4,x5,x6,l7))
 else if a1.toList = ([114,97,116,101] : List UInt8) then (strings_Cut.f a2 (⟨#[47]⟩ : ByteArray)).bind fun t => (impl_Number.f t.1).bind fun n => (impl_Number.f t.2.1).bind fun d => (if n.2 = true then (if d.2 = true then (impl_within.f d.1 1 1000).bind fun b => (if b = true then (impl_within.f n.1 1 d.1).bind fun c => (if c = true then some (0,x0,x1,x2,x3,x4,n.1,d.1,l7) else some (13,x0,x1,x2,x3,x4,x5,x6,l7)) else some (13,x0,x1,x2,x3,x4,x5,x6,l7)) else some (12,x0,x1,x2,x3,x4,x5,x6,l7)) else some (12,x0,x1,x2,x3,x4,x5,x6,l7))
 else (impl_Number.f a2).bind fun n => (if n.2 = true then (impl_within.f n.1 (impl_Config_set.place a1).2.1 (impl_Config_set.place a1).2.2).bind fun b => (if b = true then some (impl_Config_set.num x0 x1 x2 x3 x4 x5 x6 l7 a1 n.1 (impl_Config_set.place a1).1) else some (13,x0,x1,x2,x3,x4,x5,x6,l7)) else some (12,x0,x1,x2,x3,x4,x5,x6,l7))
theorem impl_Config_set.mono : ∀ x0 x1 x2 x3 x4 x5 x6 l7 a1 a2 k,LeO (impl_Config_set.f k x0 x1 x2 x3 x4 x5 x6 l7 a1 a2) (impl_Config_set.f (k + 1) x0 x1 x2 x3 x4 x5 x6 l7 a1 a2) := by
 intro x0 x1 x2 x3 x4 x5 x6 l7 a1 a2 k
 unfold impl_Config_set.f
 exact LeO.ite (LeO.bind (impl_readSigns.mono _ _) (fun _ => LeO.refl _)) (LeO.refl _)
set_option maxHeartbeats 8000000 in
set_option maxRecDepth 100000 in
theorem impl_Config_set.place_calls (g : Nat) (a1 : ByteArray) (w : World) : Calls Tryz.prog 54 #[.pointer (some ⟨g,0,none⟩),.string a1] w fun e w' => e = .returned (.tuple #[.pointer (some ⟨g,(impl_Config_set.place a1).1,none⟩),.int .i64 (impl_Config_set.place a1).2.1,.int .i64 (impl_Config_set.place a1).2.2]) ∧ Drawn0 w w' := by
 have hu := Tryz.underlying26
 unfold impl_Config_set.place
 by_cases c0 : a1.toList = ([114,111,117,110,100,115] : List UInt8)
 ·rw [if_pos c0]
  have b0 : (a1.toList == ([114,111,117,110,100,115] : List UInt8)) = true := beq_iff_eq.mpr c0
  go_enter Tryz.func54,Tryz.ntmps54
  go_wp2
  go_ret3
  exact ⟨rfl,⟨0,rfl⟩⟩
 rw [if_neg c0]
 have b0 : (a1.toList == ([114,111,117,110,100,115] : List UInt8)) = false := beq_eq_false_iff_ne.mpr c0
 by_cases c1 : a1.toList = ([100,101,112,116,104] : List UInt8)
 ·rw [if_pos c1]
  have b1 : (a1.toList == ([100,101,112,116,104] : List UInt8)) = true := beq_iff_eq.mpr c1
  go_enter Tryz.func54,Tryz.ntmps54
  go_wp2
  go_ret3
  exact ⟨rfl,⟨0,rfl⟩⟩
 rw [if_neg c1]
 have b1 : (a1.toList == ([100,101,112,116,104] : List UInt8)) = false := beq_eq_false_iff_ne.mpr c1
 by_cases c2 : a1.toList = ([98,105,110,115] : List UInt8)
 ·rw [if_pos c2]
  have b2 : (a1.toList == ([98,105,110,115] : List UInt8)) = true := beq_iff_eq.mpr c2
  go_enter Tryz.func54,Tryz.ntmps54
  go_wp2
  go_ret3
  exact ⟨rfl,⟨0,rfl⟩⟩
 rw [if_neg c2]
 have b2 : (a1.toList == ([98,105,110,115] : List UInt8)) = false := beq_eq_false_iff_ne.mpr c2
 by_cases c3 : a1.toList = ([108,97,109,98,100,97] : List UInt8)
 ·rw [if_pos c3]
  have b3 : (a1.toList == ([108,97,109,98,100,97] : List UInt8)) = true := beq_iff_eq.mpr c3
  go_enter Tryz.func54,Tryz.ntmps54
  go_wp2
  go_ret3
  exact ⟨rfl,⟨0,rfl⟩⟩
 rw [if_neg c3]
 have b3 : (a1.toList == ([108,97,109,98,100,97] : List UInt8)) = false := beq_eq_false_iff_ne.mpr c3
 go_enter Tryz.func54,Tryz.ntmps54
 go_wp2
 go_ret3
 exact ⟨rfl,⟨0,rfl⟩⟩
def impl_Config_set.At (w0 w : World) (g : Nat) (cs : Array Value) (u : Value) (l : List Int) (W : World) : Prop := W.heap[g]? = some (.cells cs 26 (0,0)) ∧ Kd.R (Kd.int .i64) 3 W w0.heap.size (fun _ => True) u l ∧ Below w0.heap.size w0 W ∧ KeepBut w W g none
theorem impl_Config_set.at_ {w0 w W : World} {g : Nat} {cs : Array Value} {u : Value} {l : List Int} (hc : w.heap[g]? = some (.cells cs 26 (0,0))) (ho : Kd.R (Kd.int .i64) 3 w w0.heap.size (fun _ => True) u l) (hB : Below w0.heap.size w0 w) (HB : Below w.heap.size w W) : impl_Config_set.At w0 w g cs u l W :=
 ⟨blk_below hc HB,Kd.R_below ho HB,below_step hB HB,KeepBut.of_below HB g none⟩
theorem impl_Config_set.put {w0 w W : World} {g : Nat} {cs cs' : Array Value} {u : Value} {l : List Int} (H : impl_Config_set.At w0 w g cs u l W) (hg : w0.heap.size ≤ g) (j : Nat) (x : Value) (e : cs.setIfInBounds j x = cs') : impl_Config_set.At w0 w g cs' u l (W.setCell ⟨g,j,none⟩ x) :=
 ⟨blk_put H.1 j x e,Kd.R_mono (Kd.R_far (p := ⟨g,j,none⟩) (Kd.R_types H.2.1 H.1 Z306) (fun _ hk => hk.2) x) (fun _ _ => trivial),below_set H.2.2.1 hg,H.2.2.2.set_ j x⟩
theorem impl_Config_set.row {w0 w W : World} {g : Nat} {cs : Array Value} {u u' : Value} {l l' : List Int} (H : impl_Config_set.At w0 w g cs u l W) (hr : Kd.R (Kd.int .i64) 3 W w0.heap.size (fun _ => True) u' l') : impl_Config_set.At w0 w g cs u' l' W := ⟨H.1,hr,H.2.2.1,H.2.2.2⟩
set_option maxHeartbeats 8000000 in
set_option maxRecDepth 100000 in
theorem impl_Config_set.calls (k : Nat) (g : Nat) (x0 x1 x2 x3 x4 x5 x6 : Int) (l7 : List Int) (u7 : Value) (a1 a2 : ByteArray) (r0 y0 y1 y2 y3 y4 y5 y6 : Int) (ys : List Int) (w0 w : World) (hg : w0.heap.size ≤ g) (hc : w.heap[g]? = some (.cells #[.int .i64 x0,.int .i64 x1,.int .i64 x2,.int .i64 x3,.int .i64 x4,.int .i64 x5,.int .i64 x6,u7] 26 (0,0))) (ho : Kd.R (Kd.int .i64) 3 w w0.heap.size (fun _ => True) u7 l7) (hB : Below w0.heap.size w0 w) (hG : GT w0) (h : impl_Config_set.f k x0 x1 x2 x3 x4 x5 x6 l7 a1 a2 = some (r0,y0,y1,y2,y3,y4,y5,y6,ys)) :
  Calls Tryz.prog 31 #[.pointer (some ⟨g,0,none⟩),.string a1,.string a2] w fun e w' => ∃ v_ : Value,e = .returned (.int .i64 r0) ∧ w'.heap[g]? = some (.cells #[.int .i64 y0,.int .i64 y1,.int .i64 y2,.int .i64 y3,.int .i64 y4,.int .i64 y5,.int .i64 y6,v_] 26 (0,0)) ∧ Kd.R (Kd.int .i64) 3 w' w0.heap.size (fun _ => True) v_ ys ∧ Below w0.heap.size w0 w' ∧ KeepBut w w' g none := by
 have HG := Aside0.mk (GT_below hG hB)
 have HC := Aside0.mk hc
 have HO := Aside0.mk ho
 have HB0 := Aside0.mk hB
 have HB := Aside0.mk (Below.refl w.heap.size w)
 have hu := Tryz.underlying26
 clear hG hc ho hB
 unfold impl_Config_set.f at h
 by_cases cs : a1.toList = ([115,105,103,110,115] : List UInt8)
 ·rw [if_pos cs] at h
  have bs : (a1.toList == ([115,105,103,110,115] : List UInt8)) = true := beq_iff_eq.mpr cs
  obtain ⟨⟨l,ok⟩,h1,h⟩ := Option.bind_eq_some_iff.mp h
  have A1 := Aside0.mk h1
  clear h1
  cases ok with
  | true =>
   rw [if_pos rfl] at h
   simp only [Option.some.injEq,Prod.mk.injEq] at h;obtain ⟨rfl,rfl,rfl,rfl,rfl,rfl,rfl,rfl,rfl⟩ := h
   go_enter Tryz.func31,Tryz.ntmps31
   go_wp2_with (first
    | (go_at_call 52;(with_reducible refine (impl_readSigns.calls k a2 l true _ (GT_below HG.out Z298) A1.out).mono ?_);rintro e w1 ⟨v,rfl,hr,hb⟩;have HR := Aside0.mk (Kd.R_lower hr (Nat.le_trans HB0.out.size (below_size Z298)));clear hr;obtain ⟨Av_,cv_,ev_⟩ := Kd.R_slice HR.out;subst ev_;have n0_ := Aside0.mk (below_step Z298 hb);clear HB;have HB := n0_;clear n0_ hb;have hcz1_7 := (blk_cell (blk_below HC.out HB.out) 7).trans rfl;have hfz1_7 := blk_frozen (blk_below HC.out HB.out) 7))
   go_ret
   exact ⟨_,rfl,impl_Config_set.put (impl_Config_set.row (impl_Config_set.at_ HC.out HO.out HB0.out Z298) HR.out) hg 7 _ rfl⟩
  | false =>
   rw [if_neg Z286] at h
   simp only [Option.some.injEq,Prod.mk.injEq] at h;obtain ⟨rfl,rfl,rfl,rfl,rfl,rfl,rfl,rfl,rfl⟩ := h
   go_enter Tryz.func31,Tryz.ntmps31
   go_wp2_with (first
    | (go_at_call 52;(with_reducible refine (impl_readSigns.calls k a2 l false _ (GT_below HG.out Z298) A1.out).mono ?_);rintro e w1 ⟨v,rfl,hr,hb⟩;have HR := Aside0.mk (Kd.R_lower hr (Nat.le_trans HB0.out.size (below_size Z298)));clear hr;obtain ⟨Av_,cv_,ev_⟩ := Kd.R_slice HR.out;subst ev_;have n0_ := Aside0.mk (below_step Z298 hb);clear HB;have HB := n0_;clear n0_ hb;have hcz1_7 := (blk_cell (blk_below HC.out HB.out) 7).trans rfl;have hfz1_7 := blk_frozen (blk_below HC.out HB.out) 7))
   go_ret
   exact ⟨u7,rfl,(impl_Config_set.at_ HC.out HO.out HB0.out Z298)⟩
 rw [if_neg cs] at h
 have bs : (a1.toList == ([115,105,103,110,115] : List UInt8)) = false := beq_eq_false_iff_ne.mpr cs
 by_cases cr : a1.toList = ([114,97,116,101] : List UInt8)
 ·rw [if_pos cr] at h
  have br : (a1.toList == ([114,97,116,101] : List UInt8)) = true := beq_iff_eq.mpr cr
  obtain ⟨⟨f1,f2,fo⟩,h1,h⟩ := Option.bind_eq_some_iff.mp h
  obtain ⟨⟨n,on⟩,h2,h⟩ := Option.bind_eq_some_iff.mp h
  obtain ⟨⟨d,od⟩,h3,h⟩ := Option.bind_eq_some_iff.mp h
  have A1 := Aside0.mk h1
  have A2 := Aside0.mk h2
  have A3 := Aside0.mk h3
  clear h1 h2 h3
  (try dsimp only at A2 A3 h)
  cases on with
  | false =>
   rw [if_neg Z286] at h
   simp only [Option.some.injEq,Prod.mk.injEq] at h;obtain ⟨rfl,rfl,rfl,rfl,rfl,rfl,rfl,rfl,rfl⟩ := h
   go_enter Tryz.func31,Tryz.ntmps31
   go_wp2_with (first
    | (go_at_call 29;(with_reducible refine (strings_Cut.calls a2 _ f1 f2 fo _ (GT_below HG.out Z298) A1.out).mono ?_);rintro e w1 ⟨rfl,hb⟩;have n0_ := Aside0.mk (below_step Z298 hb);clear HB;have HB := n0_;clear n0_ hb)
    | (go_at_call 53;(with_reducible refine (impl_Number.calls f1 n false _ (GT_below HG.out Z298) A2.out).mono ?_);rintro e w2 ⟨rfl,hb⟩;have n0_ := Aside0.mk (below_step Z298 hb);clear HB;have HB := n0_;clear n0_ hb)
    | (go_at_call 53;(with_reducible refine (impl_Number.calls f2 d od _ (GT_below HG.out Z298) A3.out).mono ?_);rintro e w3 ⟨rfl,hb⟩;have n0_ := Aside0.mk (below_step Z298 hb);clear HB;have HB := n0_;clear n0_ hb;have hcz3_5 := (blk_cell (blk_below HC.out HB.out) 5).trans rfl;have hfz3_5 := blk_frozen (blk_below HC.out HB.out) 5;have hcz3_6 := (blk_cell (blk_below HC.out HB.out) 6).trans rfl;have hfz3_6 := blk_frozen (blk_below HC.out HB.out) 6))
   go_ret
   exact ⟨u7,rfl,(impl_Config_set.at_ HC.out HO.out HB0.out Z298)⟩
  | true =>
   rw [if_pos rfl] at h
   cases od with
   | false =>
    rw [if_neg Z286] at h
    simp only [Option.some.injEq,Prod.mk.injEq] at h;obtain ⟨rfl,rfl,rfl,rfl,rfl,rfl,rfl,rfl,rfl⟩ := h
    go_enter Tryz.func31,Tryz.ntmps31
    go_wp2_with (first
     | (go_at_call 29;(with_reducible refine (strings_Cut.calls a2 _ f1 f2 fo _ (GT_below HG.out Z298) A1.out).mono ?_);rintro e w1 ⟨rfl,hb⟩;have n0_ := Aside0.mk (below_step Z298 hb);clear HB;have HB := n0_;clear n0_ hb)
     | (go_at_call 53;(with_reducible refine (impl_Number.calls f1 n true _ (GT_below HG.out Z298) A2.out).mono ?_);rintro e w2 ⟨rfl,hb⟩;have n0_ := Aside0.mk (below_step Z298 hb);clear HB;have HB := n0_;clear n0_ hb)
     | (go_at_call 53;(with_reducible refine (impl_Number.calls f2 d false _ (GT_below HG.out Z298) A3.out).mono ?_);rintro e w3 ⟨rfl,hb⟩;have n0_ := Aside0.mk (below_step Z298 hb);clear HB;have HB := n0_;clear n0_ hb;have hcz3_5 := (blk_cell (blk_below HC.out HB.out) 5).trans rfl;have hfz3_5 := blk_frozen (blk_below HC.out HB.out) 5;have hcz3_6 := (blk_cell (blk_below HC.out HB.out) 6).trans rfl;have hfz3_6 := blk_frozen (blk_below HC.out HB.out) 6))
    go_ret
    exact ⟨u7,rfl,(impl_Config_set.at_ HC.out HO.out HB0.out Z298)⟩
   | true =>
    rw [if_pos rfl] at h
    obtain ⟨b,h4,h⟩ := Option.bind_eq_some_iff.mp h
    have A4 := Aside0.mk h4
    clear h4
    (try dsimp only at A4)
    cases b with
    | false =>
     rw [if_neg Z286] at h
     simp only [Option.some.injEq,Prod.mk.injEq] at h;obtain ⟨rfl,rfl,rfl,rfl,rfl,rfl,rfl,rfl,rfl⟩ := h
     go_enter Tryz.func31,Tryz.ntmps31
     go_wp2_with (first
      | (go_at_call 29;(with_reducible refine (strings_Cut.calls a2 _ f1 f2 fo _ (GT_below HG.out Z298) A1.out).mono ?_);rintro e w1 ⟨rfl,hb⟩;have n0_ := Aside0.mk (below_step Z298 hb);clear HB;have HB := n0_;clear n0_ hb)
      | (go_at_call 53;(with_reducible refine (impl_Number.calls f1 n true _ (GT_below HG.out Z298) A2.out).mono ?_);rintro e w2 ⟨rfl,hb⟩;have n0_ := Aside0.mk (below_step Z298 hb);clear HB;have HB := n0_;clear n0_ hb)
      | (go_at_call 53;(with_reducible refine (impl_Number.calls f2 d true _ (GT_below HG.out Z298) A3.out).mono ?_);rintro e w3 ⟨rfl,hb⟩;have n0_ := Aside0.mk (below_step Z298 hb);clear HB;have HB := n0_;clear n0_ hb;have hcz3_5 := (blk_cell (blk_below HC.out HB.out) 5).trans rfl;have hfz3_5 := blk_frozen (blk_below HC.out HB.out) 5;have hcz3_6 := (blk_cell (blk_below HC.out HB.out) 6).trans rfl;have hfz3_6 := blk_frozen (blk_below HC.out HB.out) 6)
      | (go_at_call 23;(with_reducible refine (impl_within.calls d 1 1000 false _ A4.out).mono ?_);rintro e w_ ⟨rfl,⟨nd,rfl⟩⟩))
     go_ret
     exact ⟨u7,rfl,(impl_Config_set.at_ HC.out HO.out HB0.out Z298)⟩
    | true =>
     rw [if_pos rfl] at h
     obtain ⟨c,h5,h⟩ := Option.bind_eq_some_iff.mp h
     have A5 := Aside0.mk h5
     clear h5
     (try dsimp only at A5)
     cases c with
     | false =>
      rw [if_neg Z286] at h
      simp only [Option.some.injEq,Prod.mk.injEq] at h;obtain ⟨rfl,rfl,rfl,rfl,rfl,rfl,rfl,rfl,rfl⟩ := h
      go_enter Tryz.func31,Tryz.ntmps31
      go_wp2_with (first
       | (go_at_call 29;(with_reducible refine (strings_Cut.calls a2 _ f1 f2 fo _ (GT_below HG.out Z298) A1.out).mono ?_);rintro e w1 ⟨rfl,hb⟩;have n0_ := Aside0.mk (below_step Z298 hb);clear HB;have HB := n0_;clear n0_ hb)
       | (go_at_call 53;(with_reducible refine (impl_Number.calls f1 n true _ (GT_below HG.out Z298) A2.out).mono ?_);rintro e w2 ⟨rfl,hb⟩;have n0_ := Aside0.mk (below_step Z298 hb);clear HB;have HB := n0_;clear n0_ hb)
       | (go_at_call 53;(with_reducible refine (impl_Number.calls f2 d true _ (GT_below HG.out Z298) A3.out).mono ?_);rintro e w3 ⟨rfl,hb⟩;have n0_ := Aside0.mk (below_step Z298 hb);clear HB;have HB := n0_;clear n0_ hb;have hcz3_5 := (blk_cell (blk_below HC.out HB.out) 5).trans rfl;have hfz3_5 := blk_frozen (blk_below HC.out HB.out) 5;have hcz3_6 := (blk_cell (blk_below HC.out HB.out) 6).trans rfl;have hfz3_6 := blk_frozen (blk_below HC.out HB.out) 6)
       | (go_at_call 23;(with_reducible refine (impl_within.calls d 1 1000 true _ A4.out).mono ?_);rintro e w_ ⟨rfl,⟨nd,rfl⟩⟩)
       | (go_at_call 23;(with_reducible refine (impl_within.calls n 1 d false _ A5.out).mono ?_);rintro e w_ ⟨rfl,⟨nd,rfl⟩⟩))
      go_ret
      exact ⟨u7,rfl,(impl_Config_set.at_ HC.out HO.out HB0.out Z298)⟩
     | true =>
      rw [if_pos rfl] at h
      simp only [Option.some.injEq,Prod.mk.injEq] at h;obtain ⟨rfl,rfl,rfl,rfl,rfl,rfl,rfl,rfl,rfl⟩ := h
      go_enter Tryz.func31,Tryz.ntmps31
      go_wp2_with (first
       | (go_at_call 29;(with_reducible refine (strings_Cut.calls a2 _ f1 f2 fo _ (GT_below HG.out Z298) A1.out).mono ?_);rintro e w1 ⟨rfl,hb⟩;have n0_ := Aside0.mk (below_step Z298 hb);clear HB;have HB := n0_;clear n0_ hb)
       | (go_at_call 53;(with_reducible refine (impl_Number.calls f1 n true _ (GT_below HG.out Z298) A2.out).mono ?_);rintro e w2 ⟨rfl,hb⟩;have n0_ := Aside0.mk (below_step Z298 hb);clear HB;have HB := n0_;clear n0_ hb)
       | (go_at_call 53;(with_reducible refine (impl_Number.calls f2 d true _ (GT_below HG.out Z298) A3.out).mono ?_);rintro e w3 ⟨rfl,hb⟩;have n0_ := Aside0.mk (below_step Z298 hb);clear HB;have HB := n0_;clear n0_ hb;have hcz3_5 := (blk_cell (blk_below HC.out HB.out) 5).trans rfl;have hfz3_5 := blk_frozen (blk_below HC.out HB.out) 5;have hcz3_6 := (blk_cell (blk_below HC.out HB.out) 6).trans rfl;have hfz3_6 := blk_frozen (blk_below HC.out HB.out) 6)
       | (go_at_call 23;(with_reducible refine (impl_within.calls d 1 1000 true _ A4.out).mono ?_);rintro e w_ ⟨rfl,⟨nd,rfl⟩⟩)
       | (go_at_call 23;(with_reducible refine (impl_within.calls n 1 d true _ A5.out).mono ?_);rintro e w_ ⟨rfl,⟨nd,rfl⟩⟩))
      go_ret
      exact ⟨u7,rfl,impl_Config_set.put (impl_Config_set.put (impl_Config_set.at_ HC.out HO.out HB0.out Z298) hg 5 (.int .i64 n) rfl) hg 6 (.int .i64 d) rfl⟩
 rw [if_neg cr] at h
 have br : (a1.toList == ([114,97,116,101] : List UInt8)) = false := beq_eq_false_iff_ne.mpr cr
 obtain ⟨⟨n,on⟩,h1,h⟩ := Option.bind_eq_some_iff.mp h
 have A1 := Aside0.mk h1
 clear h1
 cases on with
 | false =>
  rw [if_neg Z286] at h
  simp only [Option.some.injEq,Prod.mk.injEq] at h;obtain ⟨rfl,rfl,rfl,rfl,rfl,rfl,rfl,rfl,rfl⟩ := h
  go_enter Tryz.func31,Tryz.ntmps31
  go_wp2_with (first
   | (go_at_call 53;(with_reducible refine (impl_Number.calls a2 n false _ (GT_below HG.out Z298) A1.out).mono ?_);rintro e w1 ⟨rfl,hb⟩;have n0_ := Aside0.mk (below_step Z298 hb);clear HB;have HB := n0_;clear n0_ hb;have hcz1_0 := (blk_cell (blk_below HC.out HB.out) 0).trans rfl;have hfz1_0 := blk_frozen (blk_below HC.out HB.out) 0;have hcz1_1 := (blk_cell (blk_below HC.out HB.out) 1).trans rfl;have hfz1_1 := blk_frozen (blk_below HC.out HB.out) 1;have hcz1_2 := (blk_cell (blk_below HC.out HB.out) 2).trans rfl;have hfz1_2 := blk_frozen (blk_below HC.out HB.out) 2;have hcz1_3 := (blk_cell (blk_below HC.out HB.out) 3).trans rfl;have hfz1_3 := blk_frozen (blk_below HC.out HB.out) 3;have hcz1_4 := (blk_cell (blk_below HC.out HB.out) 4).trans rfl;have hfz1_4 := blk_frozen (blk_below HC.out HB.out) 4))
  go_ret
  exact ⟨u7,rfl,(impl_Config_set.at_ HC.out HO.out HB0.out Z298)⟩
 | true =>
  rw [if_pos rfl] at h
  obtain ⟨b,h2,h⟩ := Option.bind_eq_some_iff.mp h
  have A2 := Aside0.mk h2
  clear h2
  have hp : (impl_Config_set.place a1).1 = 0 ∨ (impl_Config_set.place a1).1 = 1 ∨ (impl_Config_set.place a1).1 = 2 ∨ (impl_Config_set.place a1).1 = 3 ∨ (impl_Config_set.place a1).1 = 4 := by
   unfold impl_Config_set.place
   repeat (first | (split) | simp)
  obtain ⟨i,lo,hi,hpl⟩ : ∃ i lo hi,impl_Config_set.place a1 = (i,lo,hi) := ⟨_,_,_,rfl⟩
  have PC := fun w => impl_Config_set.place_calls g a1 w
  rw [hpl] at A2 hp h
  simp only [hpl] at PC
  (try dsimp only at A2 hp h)
  cases b with
  | false =>
   rw [if_neg Z286] at h
   simp only [Option.some.injEq,Prod.mk.injEq] at h;obtain ⟨rfl,rfl,rfl,rfl,rfl,rfl,rfl,rfl,rfl⟩ := h
   go_enter Tryz.func31,Tryz.ntmps31
   go_wp2_with (first
    | (go_at_call 53;(with_reducible refine (impl_Number.calls a2 n true _ (GT_below HG.out Z298) A1.out).mono ?_);rintro e w1 ⟨rfl,hb⟩;have n0_ := Aside0.mk (below_step Z298 hb);clear HB;have HB := n0_;clear n0_ hb;have hcz1_0 := (blk_cell (blk_below HC.out HB.out) 0).trans rfl;have hfz1_0 := blk_frozen (blk_below HC.out HB.out) 0;have hcz1_1 := (blk_cell (blk_below HC.out HB.out) 1).trans rfl;have hfz1_1 := blk_frozen (blk_below HC.out HB.out) 1;have hcz1_2 := (blk_cell (blk_below HC.out HB.out) 2).trans rfl;have hfz1_2 := blk_frozen (blk_below HC.out HB.out) 2;have hcz1_3 := (blk_cell (blk_below HC.out HB.out) 3).trans rfl;have hfz1_3 := blk_frozen (blk_below HC.out HB.out) 3;have hcz1_4 := (blk_cell (blk_below HC.out HB.out) 4).trans rfl;have hfz1_4 := blk_frozen (blk_below HC.out HB.out) 4)
    | (go_at_call 54;(with_reducible refine (PC _).mono ?_);rintro e w_ ⟨rfl,⟨nd,rfl⟩⟩)
    | (go_at_call 23;(with_reducible refine (impl_within.calls n lo hi false _ A2.out).mono ?_);rintro e w_ ⟨rfl,⟨nd,rfl⟩⟩))
   go_ret
   exact ⟨u7,rfl,(impl_Config_set.at_ HC.out HO.out HB0.out Z298)⟩
  | true =>
   rw [if_pos rfl] at h
   unfold impl_Config_set.num at h
   rcases hp with rfl | rfl | rfl | rfl | rfl
   ·simp only [show ((0 : Nat) = 0) = True from by decide,show ((0 : Nat) = 1) = False from by decide,show ((0 : Nat) = 2) = False from by decide,show ((0 : Nat) = 3) = False from by decide,show ((0 : Nat) = 4) = False from by decide,if_true,if_false] at h
    simp only [Option.some.injEq,Prod.mk.injEq] at h;obtain ⟨rfl,rfl,rfl,rfl,rfl,rfl,rfl,rfl,rfl⟩ := h
    go_enter Tryz.func31,Tryz.ntmps31
    go_wp2_with (first
     | (go_at_call 53;(with_reducible refine (impl_Number.calls a2 n true _ (GT_below HG.out Z298) A1.out).mono ?_);rintro e w1 ⟨rfl,hb⟩;have n0_ := Aside0.mk (below_step Z298 hb);clear HB;have HB := n0_;clear n0_ hb;have hcz1_0 := (blk_cell (blk_below HC.out HB.out) 0).trans rfl;have hfz1_0 := blk_frozen (blk_below HC.out HB.out) 0;have hcz1_1 := (blk_cell (blk_below HC.out HB.out) 1).trans rfl;have hfz1_1 := blk_frozen (blk_below HC.out HB.out) 1;have hcz1_2 := (blk_cell (blk_below HC.out HB.out) 2).trans rfl;have hfz1_2 := blk_frozen (blk_below HC.out HB.out) 2;have hcz1_3 := (blk_cell (blk_below HC.out HB.out) 3).trans rfl;have hfz1_3 := blk_frozen (blk_below HC.out HB.out) 3;have hcz1_4 := (blk_cell (blk_below HC.out HB.out) 4).trans rfl;have hfz1_4 := blk_frozen (blk_below HC.out HB.out) 4)
     | (go_at_call 54;(with_reducible refine (PC _).mono ?_);rintro e w_ ⟨rfl,⟨nd,rfl⟩⟩)
     | (go_at_call 23;(with_reducible refine (impl_within.calls n lo hi true _ A2.out).mono ?_);rintro e w_ ⟨rfl,⟨nd,rfl⟩⟩))
    go_ret
    exact ⟨u7,rfl,impl_Config_set.put (impl_Config_set.at_ HC.out HO.out HB0.out Z298) hg 0 (.int .i64 n) rfl⟩
   ·simp only [show ((1 : Nat) = 0) = False from by decide,show ((1 : Nat) = 1) = True from by decide,show ((1 : Nat) = 2) = False from by decide,show ((1 : Nat) = 3) = False from by decide,show ((1 : Nat) = 4) = False from by decide,if_true,if_false] at h
    simp only [Option.some.injEq,Prod.mk.injEq] at h;obtain ⟨rfl,rfl,rfl,rfl,rfl,rfl,rfl,rfl,rfl⟩ := h
    go_enter Tryz.func31,Tryz.ntmps31
    go_wp2_with (first
     | (go_at_call 53;(with_reducible refine (impl_Number.calls a2 n true _ (GT_below HG.out Z298) A1.out).mono ?_);rintro e w1 ⟨rfl,hb⟩;have n0_ := Aside0.mk (below_step Z298 hb);clear HB;have HB := n0_;clear n0_ hb;have hcz1_0 := (blk_cell (blk_below HC.out HB.out) 0).trans rfl;have hfz1_0 := blk_frozen (blk_below HC.out HB.out) 0;have hcz1_1 := (blk_cell (blk_below HC.out HB.out) 1).trans rfl;have hfz1_1 := blk_frozen (blk_below HC.out HB.out) 1;have hcz1_2 := (blk_cell (blk_below HC.out HB.out) 2).trans rfl;have hfz1_2 := blk_frozen (blk_below HC.out HB.out) 2;have hcz1_3 := (blk_cell (blk_below HC.out HB.out) 3).trans rfl;have hfz1_3 := blk_frozen (blk_below HC.out HB.out) 3;have hcz1_4 := (blk_cell (blk_below HC.out HB.out) 4).trans rfl;have hfz1_4 := blk_frozen (blk_below HC.out HB.out) 4)
     | (go_at_call 54;(with_reducible refine (PC _).mono ?_);rintro e w_ ⟨rfl,⟨nd,rfl⟩⟩)
     | (go_at_call 23;(with_reducible refine (impl_within.calls n lo hi true _ A2.out).mono ?_);rintro e w_ ⟨rfl,⟨nd,rfl⟩⟩))
    go_ret
    exact ⟨u7,rfl,impl_Config_set.put (impl_Config_set.at_ HC.out HO.out HB0.out Z298) hg 1 (.int .i64 n) rfl⟩
   ·simp only [show ((2 : Nat) = 0) = False from by decide,show ((2 : Nat) = 1) = False from by decide,show ((2 : Nat) = 2) = True from by decide,show ((2 : Nat) = 3) = False from by decide,show ((2 : Nat) = 4) = False from by decide,if_true,if_false] at h
    simp only [Option.some.injEq,Prod.mk.injEq] at h;obtain ⟨rfl,rfl,rfl,rfl,rfl,rfl,rfl,rfl,rfl⟩ := h
    go_enter Tryz.func31,Tryz.ntmps31
    go_wp2_with (first
     | (go_at_call 53;(with_reducible refine (impl_Number.calls a2 n true _ (GT_below HG.out Z298) A1.out).mono ?_);rintro e w1 ⟨rfl,hb⟩;have n0_ := Aside0.mk (below_step Z298 hb);clear HB;have HB := n0_;clear n0_ hb;have hcz1_0 := (blk_cell (blk_below HC.out HB.out) 0).trans rfl;have hfz1_0 := blk_frozen (blk_below HC.out HB.out) 0;have hcz1_1 := (blk_cell (blk_below HC.out HB.out) 1).trans rfl;have hfz1_1 := blk_frozen (blk_below HC.out HB.out) 1;have hcz1_2 := (blk_cell (blk_below HC.out HB.out) 2).trans rfl;have hfz1_2 := blk_frozen (blk_below HC.out HB.out) 2;have hcz1_3 := (blk_cell (blk_below HC.out HB.out) 3).trans rfl;have hfz1_3 := blk_frozen (blk_below HC.out HB.out) 3;have hcz1_4 := (blk_cell (blk_below HC.out HB.out) 4).trans rfl;have hfz1_4 := blk_frozen (blk_below HC.out HB.out) 4)
     | (go_at_call 54;(with_reducible refine (PC _).mono ?_);rintro e w_ ⟨rfl,⟨nd,rfl⟩⟩)
     | (go_at_call 23;(with_reducible refine (impl_within.calls n lo hi true _ A2.out).mono ?_);rintro e w_ ⟨rfl,⟨nd,rfl⟩⟩))
    go_ret
    exact ⟨u7,rfl,impl_Config_set.put (impl_Config_set.at_ HC.out HO.out HB0.out Z298) hg 2 (.int .i64 n) rfl⟩
   ·simp only [show ((3 : Nat) = 0) = False from by decide,show ((3 : Nat) = 1) = False from by decide,show ((3 : Nat) = 2) = False from by decide,show ((3 : Nat) = 3) = True from by decide,show ((3 : Nat) = 4) = False from by decide,if_true,if_false] at h
    simp only [Option.some.injEq,Prod.mk.injEq] at h;obtain ⟨rfl,rfl,rfl,rfl,rfl,rfl,rfl,rfl,rfl⟩ := h
    go_enter Tryz.func31,Tryz.ntmps31
    go_wp2_with (first
     | (go_at_call 53;(with_reducible refine (impl_Number.calls a2 n true _ (GT_below HG.out Z298) A1.out).mono ?_);rintro e w1 ⟨rfl,hb⟩;have n0_ := Aside0.mk (below_step Z298 hb);clear HB;have HB := n0_;clear n0_ hb;have hcz1_0 := (blk_cell (blk_below HC.out HB.out) 0).trans rfl;have hfz1_0 := blk_frozen (blk_below HC.out HB.out) 0;have hcz1_1 := (blk_cell (blk_below HC.out HB.out) 1).trans rfl;have hfz1_1 := blk_frozen (blk_below HC.out HB.out) 1;have hcz1_2 := (blk_cell (blk_below HC.out HB.out) 2).trans rfl;have hfz1_2 := blk_frozen (blk_below HC.out HB.out) 2;have hcz1_3 := (blk_cell (blk_below HC.out HB.out) 3).trans rfl;have hfz1_3 := blk_frozen (blk_below HC.out HB.out) 3;have hcz1_4 := (blk_cell (blk_below HC.out HB.out) 4).trans rfl;have hfz1_4 := blk_frozen (blk_below HC.out HB.out) 4)
     | (go_at_call 54;(with_reducible refine (PC _).mono ?_);rintro e w_ ⟨rfl,⟨nd,rfl⟩⟩)
     | (go_at_call 23;(with_reducible refine (impl_within.calls n lo hi true _ A2.out).mono ?_);rintro e w_ ⟨rfl,⟨nd,rfl⟩⟩))
    go_ret
    exact ⟨u7,rfl,impl_Config_set.put (impl_Config_set.at_ HC.out HO.out HB0.out Z298) hg 3 (.int .i64 n) rfl⟩
   simp only [show ((4 : Nat) = 0) = False from by decide,show ((4 : Nat) = 1) = False from by decide,show ((4 : Nat) = 2) = False from by decide,show ((4 : Nat) = 3) = False from by decide,show ((4 : Nat) = 4) = True from by decide,if_true,if_false] at h
   simp only [Option.some.injEq,Prod.mk.injEq] at h;obtain ⟨rfl,rfl,rfl,rfl,rfl,rfl,rfl,rfl,rfl⟩ := h
   go_enter Tryz.func31,Tryz.ntmps31
   go_wp2_with (first
    | (go_at_call 53;(with_reducible refine (impl_Number.calls a2 n true _ (GT_below HG.out Z298) A1.out).mono ?_);rintro e w1 ⟨rfl,hb⟩;have n0_ := Aside0.mk (below_step Z298 hb);clear HB;have HB := n0_;clear n0_ hb;have hcz1_0 := (blk_cell (blk_below HC.out HB.out) 0).trans rfl;have hfz1_0 := blk_frozen (blk_below HC.out HB.out) 0;have hcz1_1 := (blk_cell (blk_below HC.out HB.out) 1).trans rfl;have hfz1_1 := blk_frozen (blk_below HC.out HB.out) 1;have hcz1_2 := (blk_cell (blk_below HC.out HB.out) 2).trans rfl;have hfz1_2 := blk_frozen (blk_below HC.out HB.out) 2;have hcz1_3 := (blk_cell (blk_below HC.out HB.out) 3).trans rfl;have hfz1_3 := blk_frozen (blk_below HC.out HB.out) 3;have hcz1_4 := (blk_cell (blk_below HC.out HB.out) 4).trans rfl;have hfz1_4 := blk_frozen (blk_below HC.out HB.out) 4)
    | (go_at_call 54;(with_reducible refine (PC _).mono ?_);rintro e w_ ⟨rfl,⟨nd,rfl⟩⟩)
    | (go_at_call 23;(with_reducible refine (impl_within.calls n lo hi true _ A2.out).mono ?_);rintro e w_ ⟨rfl,⟨nd,rfl⟩⟩))
   go_ret
   exact ⟨u7,rfl,impl_Config_set.put (impl_Config_set.at_ HC.out HO.out HB0.out Z298) hg 4 (.int .i64 n) rfl⟩

end Go.Proofs.YtepnbcdbagjmbaeGreatDoor.QFnConfig
