/- The machine side of FnConfigLines: what each Go function that it reaches comes to. Conditions: none. -/
import Derived.Test.YtepnbcdbagjmbadGreatDoorQFnConfigLinesx0
import Derived.Test.YtepnbcdbagjmbadGreatDoorQFnConfigLinesx1
import Derived.Test.YtepnbcdbagjmbadGreatDoorQFnConfigLinesx4
namespace Go.Proofs.YtepnbcdbagjmbadGreatDoor.QFnConfigLines
open Go.RowKit Go.Proofs.YtepnbcdbagjmbadGreatDoorW.PrintWords Go.Proofs.YtepnbcdbagjmbadGreatDoorW.PrintLast Go.Proofs.YtepnbcdbagjmbadGreatDoorW.PrintMore
attribute [local go_sem] max2_int min2_int max_two min_two max_three min_three max_four min_four   -- for this text's walks alone
set_option linter.unusedVariables false
set_option linter.unusedSimpArgs false

/-! ### spec_Parts: function 8 -/
def spec_Parts.l0 : Nat → ByteArray → Int → List ByteArray → Int → Int → Option (List ByteArray)
 | 0,_,_,_,_,_ => none
 | k + 1,x0,x1,x5,x6,x7 => if x7 ≤ (x0.size : Int) then (if x7 = (x0.size : Int) then (if 0 ≤ x6 then (if x6 ≤ x7 then (if x5.length < 8796093022208 then (spec_Parts.l0 k x0 x1 (x5 ++ [x0.extract (x6 : Int).toNat (x7 : Int).toNat]) (wrap64 (x7 + 1)) (wrap64 (x7 + 1))) else (none)) else (none)) else (none)) else (if 0 ≤ x7 then (if x7 < (x0.size : Int) then (if (bt x0 x7) = x1 then (if 0 ≤ x6 then (if x6 ≤ x7 then (if x5.length < 8796093022208 then (spec_Parts.l0 k x0 x1 (x5 ++ [x0.extract (x6 : Int).toNat (x7 : Int).toNat]) (wrap64 (x7 + 1)) (wrap64 (x7 + 1))) else (none)) else (none)) else (none)) else (spec_Parts.l0 k x0 x1 x5 x6 (wrap64 (x7 + 1)))) else (none)) else (none))) else (some x5)
def spec_Parts.f (k : Nat) (a0 : ByteArray) (a1 : Int) : Option (List ByteArray) := spec_Parts.l0 k a0 a1 (([] : List ByteArray)) 0 0
theorem spec_Parts.mono_l : ∀ k,(∀ y0 y1 y2 y3 y4,LeO (spec_Parts.l0 k y0 y1 y2 y3 y4) (spec_Parts.l0 (k + 1) y0 y1 y2 y3 y4))
 | 0 => fun _ _ _ _ _ r h => by simp [spec_Parts.l0] at h
 | k + 1 => by
  have ih0 := spec_Parts.mono_l k
  ·intro y0 y1 y2 y3 y4
   unfold spec_Parts.l0
   repeat' first
   | (with_reducible exact ih0 _ _ _ _ _)
   | (with_reducible exact LeO.refl _)
   | (with_reducible exact LeO.none _)
   | (with_reducible refine LeO.ite ?_ ?_)
   | (with_reducible refine LeO.bind ?_ (fun _ => ?_))
   | exact ih0 _ _ _ _ _
   | exact LeO.none _
   | refine LeO.ite ?_ ?_
   | refine LeO.bind ?_ (fun _ => ?_)
theorem spec_Parts.mono : ∀ a0 a1 k,LeO (spec_Parts.f k a0 a1) (spec_Parts.f (k + 1) a0 a1) := by
 intro a0 a1 k
 have ih0 := spec_Parts.mono_l k
 unfold spec_Parts.f
 repeat' first
   | (with_reducible exact ih0 _ _ _ _ _)
   | (with_reducible exact LeO.refl _)
   | (with_reducible exact LeO.none _)
   | (with_reducible refine LeO.ite ?_ ?_)
   | (with_reducible refine LeO.bind ?_ (fun _ => ?_))
   | exact ih0 _ _ _ _ _
   | exact LeO.none _
   | refine LeO.ite ?_ ?_
   | refine LeO.bind ?_ (fun _ => ?_)
set_option maxHeartbeats 8000000 in
set_option maxRecDepth 100000 in
theorem spec_Parts.calls (k : Nat) (a0 : ByteArray) (a1 : Int) (r : List ByteArray) (w : World) (h : spec_Parts.f k a0 a1 = some r) :
  Calls Tryz.prog 8 #[.string a0,.int .u8 a1] w fun e w' => ∃ v0_ : Value,e = .returned (v0_) ∧ Kd.R Kd.string 9 w' w.heap.size (fun _ => True) v0_ r ∧ Below w.heap.size w w' := by
 have HB := Aside0.mk (Below.refl w.heap.size w)
 have H := h
 clear h
 unfold spec_Parts.f at H
 obtain ⟨y360,hyy⟩ : ∃ y_ : List ByteArray,y_ = (([] : List ByteArray)) := ⟨_,rfl⟩
 replace H : (spec_Parts.l0 k a0 a1 y360 0 0) = some r := zR
 have Ny360 := Aside0.mk hyy
 clear hyy
 have H' := Aside0.mk H
 clear H
 go_enter Tryz.func8,Tryz.ntmps8
 go_wp2_with (first | ((with_reducible refine gate_dst (N := 8) rfl ?_);refine Kd.R_lit Kd.string _ 9 ?hg (N := 8) ?hd (xs := ([] : List ByteArray)) (inner := []) (ok := fun _ => True) (okp := fun _ => True) ?hr ?hp (fun _ hk => hk) trivial (Below.refl _ _) (Nat.le_refl _) Z164 ?_;(case hd => rfl);(case hg => rfl);(case hr => exact Z101);(case hp => exact Z112);intro v361 w3 ho4 hb hg_ hnew_;clear hg_ hnew_;(first | rw [← Ny360.out] at ho4 | (simp only [Int.reduceToNat] at ho4;rw [← Ny360.out] at ho4));have n_ := Z30;clear HB;obtain ⟨HO362,HB⟩ := n_;clear hb ho4))
 go_loopg [5,6,7] k (fun kq v5 v6 v7 w' => ∃ (x5_1 : List ByteArray) (x6_1 : Int) (x7_1 : Int),v6 = .int .i64 x6_1 ∧ v7 = .int .i64 x7_1 ∧ Aside0 (spec_Parts.l0 kq a0 a1 x5_1 x6_1 x7_1 = some r) ∧ Aside0 (kq ≤ k) ∧ Aside0 (Kd.R Kd.string 9 w' w.heap.size (fun _ => True) v5 x5_1) ∧ Aside0 (Below w.heap.size w w'))
 case atStart => exact ⟨(y360),(0),(0),Z100,Z100,H',⟨Nat.le_refl _⟩,⟨by (with_reducible repeat (first | apply Kd.R_alloc | apply Kd.R_drewN | apply Kd.R_drew));exact HO362.out⟩,⟨Z169⟩⟩
 case round =>
  clear H'
  try clear p2
  obtain ⟨x5_1,x6_1,x7_1,rfl,rfl,HA,HK1,HO_5,HB⟩ := hrel
  cases gk with
  | zero => exact absurd HA.out (by simp [spec_Parts.l0])
  | succ k1 =>
   have H := HA.out
   clear HA
   simp only [spec_Parts.l0] at H
   by_cases c5 : x7_1 ≤ (a0.size : Int)
   rotate_left
   ·rw [if_neg c5] at H
    have c5b0 : decide (x7_1 ≤ (a0.size : Int)) = false := decide_eq_false c5
    clear c5
    obtain rfl := Option.some.inj H
    go_wp2
    go_ret
    exact ⟨_,Z92,Z152,Z169⟩
   rw [if_pos c5] at H
   have c5b0 : decide (x7_1 ≤ (a0.size : Int)) = true := decide_eq_true c5
   clear c5
   by_cases c6 : x7_1 = (a0.size : Int)
   ·rw [if_pos c6] at H
    have c6b0 : (x7_1 == (a0.size : Int)) = true := beq_iff_eq.mpr c6
    have c6b1 : (x7_1 != (a0.size : Int)) = false := bne_eq_false_iff_eq.mpr c6
    clear c6
    obtain ⟨c7,H⟩ := ifp H
    have c7b0 := eq_true c7
    have c7b1 : decide (0 ≤ x6_1) = true := decide_eq_true c7
    clear c7
    obtain ⟨c8,H⟩ := ifp H
    have c8b0 := eq_true c8
    have c8b1 : decide (x6_1 ≤ x7_1) = true := decide_eq_true c8
    clear c8
    have c9b0 := eq_true (of_decide_eq_true Z99 : x7_1 ≤ (a0.size : Int))
    obtain ⟨c10,H⟩ := ifp H
    have LMc10 := Aside0.mk c10
    clear c10
    obtain ⟨y363,hyy⟩ : ∃ y_ : List ByteArray,y_ = (x5_1 ++ [a0.extract (x6_1 : Int).toNat (x7_1 : Int).toNat]) := ⟨_,rfl⟩
    replace H : (spec_Parts.l0 k1 a0 a1 y363 (wrap64 (x7_1 + 1)) (wrap64 (x7_1 + 1))) = some r := zR
    have Ny363 := Aside0.mk hyy
    clear hyy
    have H' := Aside0.mk H
    clear H
    go_wp2_with (first | ((with_reducible refine gate_builtin (b := .append) (xs := #[.tmp 26,.tmp 31]) rfl ?_);at_builtin;refine Kd.R_append Kd.string (w0 := w) w.heap.size rfl (.tmp 26) (.tmp 31) 29 9 (.string ⟨#[]⟩) 16 rfl Tryz.underlying29 info9 rfl Z163 Z115 u5 x5_1 (a0.extract (x6_1 : Int).toNat (x7_1 : Int).toNat) [.string (a0.extract (x6_1 : Int).toNat (x7_1 : Int).toNat)] (fun _ => True) (fun _ => False) rfl rfl ?aP (fun _ hk => hk.elim) ?aF ?aO ?aB ?aS ?aL ?_;(case aP => exact rfl);(case aB => exact Z72);(case aF => exact Z110);(case aO => exact Z78);(case aS => exact Z69);(case aL => have := LMc10.out;omega);intro v364 w11 ho hb hg hat;rw [← Ny363.out] at ho;have n_ := jA (hb) (Aside0.mk (ho));clear HB HO_5;obtain ⟨HB,HO365⟩ := n_;clear ho hb hg hat))
    go_roundg k1
    case measure => have := HK1.out;omega
    case rel => exact ⟨(y363),(wrap64 (x7_1 + 1)),(wrap64 (x7_1 + 1)),Z100,Z100,H',⟨Z111⟩,⟨by (with_reducible repeat (first | apply Kd.R_alloc | apply Kd.R_drewN | apply Kd.R_drew));exact HO365.out⟩,⟨Z169⟩⟩
   rw [if_neg c6] at H
   have c6b0 : (x7_1 == (a0.size : Int)) = false := beq_eq_false_iff_ne.mpr c6
   have c6b1 : (x7_1 != (a0.size : Int)) = true := bne_iff_ne.mpr c6
   obtain ⟨c12,H⟩ := ifp H
   have c12b0 : decide (0 ≤ x7_1) = true := decide_eq_true c12
   clear c12
   obtain ⟨c13,H⟩ := ifp H
   have c13b0 : decide (x7_1 < (a0.size : Int)) = true := decide_eq_true c13
   clear c13
   by_cases c15 : (bt a0 x7_1) = a1
   rotate_left
   ·rw [if_neg c15] at H
    have c15b0 : ((bt a0 x7_1) == a1) = false := beq_eq_false_iff_ne.mpr c15
    have c15b1 : ((bt a0 x7_1) != a1) = true := bne_iff_ne.mpr c15
    have H' := Aside0.mk H
    clear H
    have p14 : 0 ≤ (x7_1 : Int) := of_decide_eq_true Z99
    have q14 : x7_1 < (a0.size : Int) := of_decide_eq_true Z99
    have hx14 := bt_at a0 x7_1
    replace p14 := eq_true p14
    replace q14 := eq_true q14
    go_wp2
    go_roundg k1
    case measure => have := HK1.out;omega
    case rel => exact ⟨(x5_1),(x6_1),(wrap64 (x7_1 + 1)),Z100,Z100,H',⟨Z111⟩,⟨Z152⟩,⟨Z169⟩⟩
   rw [if_pos c15] at H
   have c15b0 : ((bt a0 x7_1) == a1) = true := beq_iff_eq.mpr c15
   have c15b1 : ((bt a0 x7_1) != a1) = false := bne_eq_false_iff_eq.mpr c15
   clear c15
   obtain ⟨c16,H⟩ := ifp H
   have c16b0 := eq_true c16
   have c16b1 : decide (0 ≤ x6_1) = true := decide_eq_true c16
   clear c16
   obtain ⟨c17,H⟩ := ifp H
   have c17b0 := eq_true c17
   have c17b1 : decide (x6_1 ≤ x7_1) = true := decide_eq_true c17
   clear c17
   have c18b0 := eq_true (of_decide_eq_true Z99 : x7_1 ≤ (a0.size : Int))
   obtain ⟨c19,H⟩ := ifp H
   have LMc19 := Aside0.mk c19
   clear c19
   obtain ⟨y366,hyy⟩ : ∃ y_ : List ByteArray,y_ = (x5_1 ++ [a0.extract (x6_1 : Int).toNat (x7_1 : Int).toNat]) := ⟨_,rfl⟩
   replace H : (spec_Parts.l0 k1 a0 a1 y366 (wrap64 (x7_1 + 1)) (wrap64 (x7_1 + 1))) = some r := zR
   have Ny366 := Aside0.mk hyy
   clear hyy
   have H' := Aside0.mk H
   clear H
   have p14 : 0 ≤ (x7_1 : Int) := of_decide_eq_true Z99
   have q14 : x7_1 < (a0.size : Int) := of_decide_eq_true Z99
   have hx14 := bt_at a0 x7_1
   replace p14 := eq_true p14
   replace q14 := eq_true q14
   go_wp2_with (first | ((with_reducible refine gate_builtin (b := .append) (xs := #[.tmp 26,.tmp 31]) rfl ?_);at_builtin;refine Kd.R_append Kd.string (w0 := w) w.heap.size rfl (.tmp 26) (.tmp 31) 29 9 (.string ⟨#[]⟩) 16 rfl Tryz.underlying29 info9 rfl Z163 Z115 u5 x5_1 (a0.extract (x6_1 : Int).toNat (x7_1 : Int).toNat) [.string (a0.extract (x6_1 : Int).toNat (x7_1 : Int).toNat)] (fun _ => True) (fun _ => False) rfl rfl ?aP (fun _ hk => hk.elim) ?aF ?aO ?aB ?aS ?aL ?_;(case aP => exact rfl);(case aB => exact Z72);(case aF => exact Z110);(case aO => exact Z78);(case aS => exact Z69);(case aL => have := LMc19.out;omega);intro v367 w20 ho hb hg hat;rw [← Ny366.out] at ho;have n_ := jA (hb) (Aside0.mk (ho));clear HB HO_5;obtain ⟨HB,HO368⟩ := n_;clear ho hb hg hat))
   go_roundg k1
   case measure => have := HK1.out;omega
   case rel => exact ⟨(y366),(wrap64 (x7_1 + 1)),(wrap64 (x7_1 + 1)),Z100,Z100,H',⟨Z111⟩,⟨by (with_reducible repeat (first | apply Kd.R_alloc | apply Kd.R_drewN | apply Kd.R_drew));exact HO368.out⟩,⟨Z169⟩⟩

/-! ### laws_at0: function 9 -/
def laws_at0.f (l0 : List Int) (a1 : Int) : Option (Int) := if a1 < (l0.length : Int) then (if 0 ≤ a1 then (some (wrap64 (rd l0 a1))) else (none)) else (some (Int.tmod (wrap64 ((wrap64 (a1 * 7)) + (l0.length : Int))) 256))
set_option maxHeartbeats 8000000 in
set_option maxRecDepth 100000 in
theorem laws_at0.calls (A0 : Option Addr) (c0 : Nat) (l0 : List Int) (a1 : Int) (r : Int) (w : World) (hr0 : Kd.C (Kd.int .u8) w A0 l0.length l0) (hc0 : l0.length ≤ c0) (h : laws_at0.f l0 a1 = some r) :
  Calls Tryz.prog 9 #[.slice A0 l0.length c0,.int .i64 a1] w fun e w' => e = .returned (.int .i64 r) ∧ Drawn0 w w' := by
 have HR0 := Aside0.mk hr0
 have HC0 := Aside0.mk hc0
 clear hr0 hc0
 have H := h
 clear h
 unfold laws_at0.f at H
 by_cases c3 : a1 < (l0.length : Int)
 rotate_left
 ·rw [if_neg c3] at H
  have c3b0 : decide (a1 < (l0.length : Int)) = false := decide_eq_false c3
  clear c3
  obtain rfl := Option.some.inj H
  go_enter Tryz.func9,Tryz.ntmps9
  go_wp2
  go_ret
  exact ⟨Z100,Z94⟩
 rw [if_pos c3] at H
 have c3b0 : decide (a1 < (l0.length : Int)) = true := decide_eq_true c3
 clear c3
 obtain ⟨c4,H⟩ := ifp H
 have c4b0 : decide (0 ≤ a1) = true := decide_eq_true c4
 clear c4
 obtain rfl := Option.some.inj H
 have p369 : 0 ≤ (a1 : Int) := of_decide_eq_true Z99
 have q369 : a1 < (l0.length : Int) := of_decide_eq_true Z99
 obtain ⟨ad369,e369,hx369_0⟩ := Kd.at_int HR0.out a1 p369 q369
 cases e369
 replace p369 := eq_true p369
 replace q369 := eq_true q369
 go_enter Tryz.func9,Tryz.ntmps9
 go_wp2
 go_ret
 exact ⟨Z100,Z94⟩

/-! ### impl_UsualConfig: function 22 -/
def impl_UsualConfig.f  : Option (Int × Int × Int × Int × Int × Int × Int × List Int) := some (4,2,4,1,1,1,1,([] : List Int))
set_option maxHeartbeats 8000000 in
set_option maxRecDepth 100000 in
theorem impl_UsualConfig.calls  (r1 : Int) (r2 : Int) (r3 : Int) (r4 : Int) (r5 : Int) (r6 : Int) (r7 : Int) (r8 : List Int) (w : World) (h : impl_UsualConfig.f  = some (r1,r2,r3,r4,r5,r6,r7,r8)) :
  Calls Tryz.prog 22 #[] w fun e w' => ∃ v7_ : Value,e = .returned (.agg #[.int .i64 r1,.int .i64 r2,.int .i64 r3,.int .i64 r4,.int .i64 r5,.int .i64 r6,.int .i64 r7,v7_]) ∧ Kd.R (Kd.int .i64) 3 w' w.heap.size (fun _ => True) v7_ r8 ∧ Below w.heap.size w w' := by
 have hu26 := Tryz.underlying26
 have HB := Aside0.mk (Below.refl w.heap.size w)
 have H := h
 clear h
 unfold impl_UsualConfig.f at H
 simp only [Option.some.injEq,Prod.mk.injEq] at H
 obtain ⟨rfl,rfl,rfl,rfl,rfl,rfl,rfl,rfl⟩ := H
 go_enter Tryz.func22,Tryz.ntmps22
 go_wp2_with (first | ((with_reducible refine gate_dst (N := 0) rfl ?_);refine bE 0 #[.int .i64 0,.int .i64 0,.int .i64 0,.int .i64 0,.int .i64 0,.int .i64 0,.int .i64 0,.slice none 0 0] 26 (h := ?_);intro gb370 hg wq1 hbox hb;have n_ := jA (below_step Z169 hb) (jA (hbox) (jA ((Z138 : w.heap.size ≤ gb370)) (Aside0.mk ((Z138 : w.heap.size ≤ gb370)))));clear HB;obtain ⟨HB,BK370,GW370,GE370⟩ := n_;clear hb hbox hg;obtain ⟨hczq2_0,hczq2_1,hczq2_2,hczq2_3,hczq2_4,hczq2_5,hczq2_6,hczq2_7,hfzq2_0,hfzq2_1,hfzq2_2,hfzq2_3,hfzq2_4,hfzq2_5,hfzq2_6,hfzq2_7⟩ := cells8 BK370.out))
 refine bodyPost_ret (results_cell_row rfl _ _ gb370 26 #[.int .i64 4,.int .i64 2,.int .i64 4,.int .i64 1,.int .i64 1,.int .i64 1,.int .i64 1,.slice none 0 0] (0,0) _ rfl (by refine bP ?_;refine blk_put (cs := #[.int .i64 4,.int .i64 2,.int .i64 4,.int .i64 1,.int .i64 1,.int .i64 1,.int .i64 1,.slice none 0 0]) ?_ 7 _ rfl;refine bP ?_;refine blk_put (cs := #[.int .i64 4,.int .i64 2,.int .i64 4,.int .i64 1,.int .i64 1,.int .i64 1,.int .i64 0,.slice none 0 0]) ?_ 6 _ rfl;refine bP ?_;refine blk_put (cs := #[.int .i64 4,.int .i64 2,.int .i64 4,.int .i64 1,.int .i64 1,.int .i64 0,.int .i64 0,.slice none 0 0]) ?_ 5 _ rfl;refine bP ?_;refine blk_put (cs := #[.int .i64 4,.int .i64 2,.int .i64 4,.int .i64 1,.int .i64 0,.int .i64 0,.int .i64 0,.slice none 0 0]) ?_ 4 _ rfl;refine bP ?_;refine blk_put (cs := #[.int .i64 4,.int .i64 2,.int .i64 4,.int .i64 0,.int .i64 0,.int .i64 0,.int .i64 0,.slice none 0 0]) ?_ 3 _ rfl;refine bP ?_;refine blk_put (cs := #[.int .i64 4,.int .i64 2,.int .i64 0,.int .i64 0,.int .i64 0,.int .i64 0,.int .i64 0,.slice none 0 0]) ?_ 2 _ rfl;refine bP ?_;refine blk_put (cs := #[.int .i64 4,.int .i64 0,.int .i64 0,.int .i64 0,.int .i64 0,.int .i64 0,.int .i64 0,.slice none 0 0]) ?_ 1 _ rfl;refine bP ?_;refine blk_put (cs := #[.int .i64 0,.int .i64 0,.int .i64 0,.int .i64 0,.int .i64 0,.int .i64 0,.int .i64 0,.slice none 0 0]) ?_ 0 _ rfl;refine bP ?_;exact BK370.out) Tryz.underlying26 rfl Z114) rfl ?_
 exact ⟨_,Z92,Z73,by repeat (first | (with_reducible first | exact HB.out | apply below_alloc | apply pw_below_drewN | apply below_drew1 | refine below_set ?_ GE370.out) | exact HB.out)⟩

/-! ### strings_Split: function 40 -/
def strings_Split.f (a0 a1 : ByteArray) : Option (List ByteArray) := if a0.size < 4294967281 ∧ 1 ≤ a1.size then some (Lib.splitB a1 0 (Lib.countB a0 a1) a0) else none
theorem strings_Split.calls (a0 a1 : ByteArray) (r : List ByteArray) (w : World) (hG : GT w) (h : strings_Split.f a0 a1 = some r) :
  Calls Tryz.prog 40 #[.string a0,.string a1] w fun e w' => ∃ v0_ : Value,e = .returned (v0_) ∧ Kd.R Kd.string 9 w' w.heap.size (fun _ => True) v0_ r ∧ Below w.heap.size w w' := by
 unfold strings_Split.f at h
 by_cases hb : a0.size < 4294967281 ∧ 1 ≤ a1.size
 rotate_left
 ·rw [if_neg hb] at h;cases h
 rw [if_pos hb] at h
 obtain rfl := Option.some.inj h
 obtain ⟨m,hm⟩ := hG.maxlen
 refine (Tryz.strings_Split a0 a1 m w hb.1 hm hb.2).mono fun e w' ⟨he,hw⟩ => ?_
 have hl := Lib.splitB_all a1 hb.2 0 _ a0 rfl
 have hc := Lib.countB_le a1 hb.2 _ a0 (Nat.le_refl _)
 refine ⟨_,he,Kd.R_of_own (enc := Value.string) ?_ (fun _ _ => trivial),hw ▸ below_alloc (Below.refl _ _) _⟩
 rw [hw,hl]
 refine World.ownsRow_lit (w := w) (size := 1) ((Lib.splitB a1 0 (Lib.countB a0 a1) a0).map Value.string).toArray (Lib.countB a0 a1 + 1) (Nat.le_refl _) ?_ ?_
 ·unfold maxLen;omega
 rw [List.size_toArray,List.length_map,hl,Nat.mul_one]

/-! ### impl_Parts: function 23 -/
def impl_Parts.f (a0 : ByteArray) (a1 : Int) : Option (List ByteArray) := (strings_Split.f a0 (strOfNums (([a1] : List Int)))).bind fun t374 => (some t374)
set_option maxHeartbeats 8000000 in
set_option maxRecDepth 100000 in
theorem impl_Parts.calls (a0 : ByteArray) (a1 : Int) (r : List ByteArray) (w : World) (hG : GT w) (h : impl_Parts.f a0 a1 = some r) :
  Calls Tryz.prog 23 #[.string a0,.int .u8 a1] w fun e w' => ∃ v0_ : Value,e = .returned (v0_) ∧ Kd.R Kd.string 9 w' w.heap.size (fun _ => True) v0_ r ∧ Below w.heap.size w w' := by
 have HG := Aside0.mk hG
 clear hG
 have HB := Aside0.mk (Below.refl w.heap.size w)
 have H : ((strings_Split.f a0 (strOfNums (([a1] : List Int)))).bind fun t374 => (some t374)) = some r := h
 clear h
 obtain ⟨y371,hyy⟩ : ∃ y_ : List Int,y_ = (([a1] : List Int)) := ⟨_,rfl⟩
 replace H : ((strings_Split.f a0 (strOfNums y371)).bind fun t374 => (some t374)) = some r := zR
 have Ny371 := Aside0.mk hyy
 clear hyy
 obtain ⟨t374,A30,H⟩ := Option.bind_eq_some_iff.mp H
 have A3 := Aside0.mk A30
 clear A30
 obtain rfl := Option.some.inj H
 go_enter Tryz.func23,Tryz.ntmps23
 go_wp2_with (first | ((with_reducible refine gate_dst (N := 7) rfl ?_);refine Kd.R_lit (Kd.int .u8) _ 5 ?hg (N := 7) ?hd (xs := ([a1] : List Int)) (inner := [.int .u8 a1]) (ok := fun _ => True) (okp := fun _ => True) ?hr ?hp (fun _ hk => hk) trivial (Below.refl _ _) (Nat.le_refl _) Z164 ?_;(case hd => rfl);(case hg => rfl);(case hr => exact Z101);(case hp => exact (Reps.one (show Kd.M (Kd.int .u8) _ _ _ a1 [.int .u8 a1] from rfl) (Reps.none _ _)));intro vq1 wq2 hoq3 hb hg_ hnew_;clear hg_ hnew_;(first | rw [← Ny371.out] at hoq3 | (simp only [Int.reduceToNat] at hoq3;rw [← Ny371.out] at hoq3));have n_ := Z29;clear HB;obtain ⟨HO373,HB⟩ := n_;clear hb hoq3;have hcvq4 := own_string (P := Tryz.prog) Tryz.underlying22 Tryz.underlying5 Tryz.underlying9 (Kd.own_of_R HO373.out)) | ((with_reducible refine gate_callee (f := 40) rfl ?_);refine goesL_ (some 9) rfl rfl Tryz.func40 Z114 rfl #[.string a0,.string (strOfNums y371)] rfl Z74 ?_;(with_reducible refine (strings_Split.calls a0 (strOfNums y371) t374 _ ?side1 A3.out).mono ?_);(case side1 => exact Z68);rintro e wq5 ⟨vq6,rfl,hoq7,hb⟩;refine ⟨_,rfl,?_⟩;have n_ := jA (Kd.R_below (by (with_reducible repeat (first | apply Kd.R_alloc | apply Kd.R_drewN | apply Kd.R_drew));exact HO373.out) hb) (jA (Kd.R_lower hoq7 (below_size Z169)) (Aside0.mk (below_step Z169 hb)));clear HO373 HB;obtain ⟨HO373,HO376,HB⟩ := n_;(try clear hb);(try clear hb2);(try clear hk);(try clear hi);(try clear hoq7)))
 go_ret
 exact ⟨_,Z92,by (with_reducible repeat (first | apply Kd.R_alloc | apply Kd.R_drewN | apply Kd.R_drew));exact HO376.out,Z169⟩

/-! ### strings_Cut: function 24 -/
def strings_Cut.f (a0 a1 : ByteArray) : Option (ByteArray × ByteArray × Bool) := if a0.size < 4294967281 then some (⟨(Lib.cut a0.data.toList a1.data.toList).1.toArray⟩,⟨(Lib.cut a0.data.toList a1.data.toList).2.1.toArray⟩,(Lib.cut a0.data.toList a1.data.toList).2.2) else none
theorem strings_Cut.calls (a0 a1 : ByteArray) (r1 r2 : ByteArray) (r3 : Bool) (w : World) (hG : GT w) (h : strings_Cut.f a0 a1 = some (r1,r2,r3)) :
  Calls Tryz.prog 24 #[.string a0,.string a1] w fun e w' => e = .returned (.tuple #[.string r1,.string r2,.bool r3]) ∧ Below w.heap.size w w' := by
 unfold strings_Cut.f at h
 by_cases hb : a0.size < 4294967281
 rotate_left
 ·rw [if_neg hb] at h;cases h
 rw [if_pos hb] at h
 simp only [Option.some.injEq,Prod.mk.injEq] at h
 obtain ⟨rfl,rfl,rfl⟩ := h
 obtain ⟨m,hm⟩ := hG.maxlen
 exact (Tryz.strings_Cut a0 a1 m w hb hm).mono fun e w' ⟨he,n,hw⟩ => ⟨he,hw ▸ pw_below_drewN (Below.refl _ _) n⟩

/-! ### slices_Index_string_string: function 42 -/
def slices_Index_string_string.l0 : Nat → List ByteArray → ByteArray → Int → Int → Option (Int)
 | 0,_,_,_,_ => none
 | k + 1,x0,x1,x7,x8 => if x8 < x7 then (if 0 ≤ x8 then (if x8 < (x0.length : Int) then (if x1.toList = (rdOf ByteArray.empty x0 x8).toList then (some x8) else (slices_Index_string_string.l0 k x0 x1 x7 (wrap64 (x8 + 1)))) else (none)) else (none)) else (some (-1))
def slices_Index_string_string.f (k : Nat) (l0 : List ByteArray) (a1 : ByteArray) : Option (Int) := slices_Index_string_string.l0 k l0 a1 (l0.length : Int) 0
theorem slices_Index_string_string.mono_l : ∀ k,(∀ y0 y1 y2 y3,LeO (slices_Index_string_string.l0 k y0 y1 y2 y3) (slices_Index_string_string.l0 (k + 1) y0 y1 y2 y3))
 | 0 => fun _ _ _ _ r h => by simp [slices_Index_string_string.l0] at h
 | k + 1 => by
  have ih0 := slices_Index_string_string.mono_l k
  ·intro y0 y1 y2 y3
   unfold slices_Index_string_string.l0
   repeat' first
   | (with_reducible exact ih0 _ _ _ _)
   | (with_reducible exact LeO.refl _)
   | (with_reducible exact LeO.none _)
   | (with_reducible refine LeO.ite ?_ ?_)
   | (with_reducible refine LeO.bind ?_ (fun _ => ?_))
   | exact ih0 _ _ _ _
   | exact LeO.none _
   | refine LeO.ite ?_ ?_
   | refine LeO.bind ?_ (fun _ => ?_)
theorem slices_Index_string_string.mono : ∀ a0 a1 k,LeO (slices_Index_string_string.f k a0 a1) (slices_Index_string_string.f (k + 1) a0 a1) := by
 intro a0 a1 k
 have ih0 := slices_Index_string_string.mono_l k
 unfold slices_Index_string_string.f
 repeat' first
   | (with_reducible exact ih0 _ _ _ _)
   | (with_reducible exact LeO.refl _)
   | (with_reducible exact LeO.none _)
   | (with_reducible refine LeO.ite ?_ ?_)
   | (with_reducible refine LeO.bind ?_ (fun _ => ?_))
   | exact ih0 _ _ _ _
   | exact LeO.none _
   | refine LeO.ite ?_ ?_
   | refine LeO.bind ?_ (fun _ => ?_)
set_option maxHeartbeats 8000000 in
set_option maxRecDepth 100000 in
theorem slices_Index_string_string.calls (k : Nat) (A0 : Option Addr) (c0 : Nat) (l0 : List ByteArray) (a1 : ByteArray) (r : Int) (w : World) (hr0 : Kd.C Kd.string w A0 l0.length l0) (hc0 : l0.length ≤ c0) (h : slices_Index_string_string.f k l0 a1 = some r) :
  Calls Tryz.prog 42 #[.slice A0 l0.length c0,.string a1] w fun e w' => e = .returned (.int .i64 r) ∧ Drawn0 w w' := by
 have HR0 := Aside0.mk hr0
 have HC0 := Aside0.mk hc0
 clear hr0 hc0
 have H : (slices_Index_string_string.l0 k l0 a1 (l0.length : Int) 0) = some r := h
 clear h
 have H' := Aside0.mk H
 clear H
 go_enter Tryz.func42,Tryz.ntmps42
 go_wp2
 go_loopg [8] k (fun kq v8 w' => ∃ (x8_1 : Int),v8 = .int .i64 x8_1 ∧ Aside0 (slices_Index_string_string.l0 kq l0 a1 (l0.length : Int) x8_1 = some r) ∧ Aside0 (kq ≤ k) ∧ Drawn0 w w')
 case atStart => exact ⟨(0),Z100,H',⟨Nat.le_refl _⟩,Z94⟩
 case round =>
  clear H'
  try clear p2
  obtain ⟨x8_1,rfl,HA,HK1,⟨m1,rfl⟩⟩ := hrel
  cases gk with
  | zero => exact absurd HA.out (by simp [slices_Index_string_string.l0])
  | succ k1 =>
   have H := HA.out
   clear HA
   simp only [slices_Index_string_string.l0] at H
   by_cases c3 : x8_1 < (l0.length : Int)
   rotate_left
   ·rw [if_neg c3] at H
    have c3b0 : decide (x8_1 < (l0.length : Int)) = false := decide_eq_false c3
    clear c3
    obtain rfl := Option.some.inj H
    go_wp2
    go_ret
    exact ⟨Z100,Z94⟩
   rw [if_pos c3] at H
   have c3b0 : decide (x8_1 < (l0.length : Int)) = true := decide_eq_true c3
   clear c3
   obtain ⟨c4,H⟩ := ifp H
   have c4b0 : decide (0 ≤ x8_1) = true := decide_eq_true c4
   clear c4
   obtain ⟨c5,H⟩ := ifp H
   have c5b0 : decide (x8_1 < (l0.length : Int)) = true := decide_eq_true c5
   clear c5
   by_cases c6 : a1.toList = (rdOf ByteArray.empty l0 x8_1).toList
   ·rw [if_pos c6] at H
    have c6b0 : (a1.toList == (rdOf ByteArray.empty l0 x8_1).toList) = true := beq_iff_eq.mpr c6
    have c6b1 : (a1.toList != (rdOf ByteArray.empty l0 x8_1).toList) = false := bne_eq_false_iff_eq.mpr c6
    clear c6
    obtain rfl := Option.some.inj H
    have p377 : 0 ≤ (x8_1 : Int) := of_decide_eq_true Z99
    have q377 : x8_1 < (l0.length : Int) := of_decide_eq_true Z99
    obtain ⟨ad377,e377,hx377_0⟩ := Kd.at_string HR0.out x8_1 p377 q377
    cases e377
    replace p377 := eq_true p377
    replace q377 := eq_true q377
    go_wp2
    go_ret
    exact ⟨Z100,Z94⟩
   rw [if_neg c6] at H
   have c6b0 : (a1.toList == (rdOf ByteArray.empty l0 x8_1).toList) = false := beq_eq_false_iff_ne.mpr c6
   have c6b1 : (a1.toList != (rdOf ByteArray.empty l0 x8_1).toList) = true := bne_iff_ne.mpr c6
   have H' := Aside0.mk H
   clear H
   have p377 : 0 ≤ (x8_1 : Int) := of_decide_eq_true Z99
   have q377 : x8_1 < (l0.length : Int) := of_decide_eq_true Z99
   obtain ⟨ad377,e377,hx377_0⟩ := Kd.at_string HR0.out x8_1 p377 q377
   cases e377
   replace p377 := eq_true p377
   replace q377 := eq_true q377
   go_wp2
   go_roundg k1
   case measure => have := HK1.out;omega
   case rel => exact ⟨(wrap64 (x8_1 + 1)),Z100,H',⟨Z111⟩,Z94⟩

/-! ### slices_Contains_string_string: function 25 -/
def slices_Contains_string_string.f (k : Nat) (l0 : List ByteArray) (a1 : ByteArray) : Option (Bool) := (slices_Index_string_string.f k l0 a1).bind fun t378 => (some (decide (t378 ≥ 0)))
theorem slices_Contains_string_string.mono : ∀ a0 a1 k,LeO (slices_Contains_string_string.f k a0 a1) (slices_Contains_string_string.f (k + 1) a0 a1) := by
 intro a0 a1 k
 unfold slices_Contains_string_string.f
 repeat' first
   | (with_reducible exact slices_Index_string_string.mono _ _ _)
   | (with_reducible exact LeO.refl _)
   | (with_reducible exact LeO.none _)
   | (with_reducible refine LeO.ite ?_ ?_)
   | (with_reducible refine LeO.bind ?_ (fun _ => ?_))
   | exact slices_Index_string_string.mono _ _ _
   | exact LeO.none _
   | refine LeO.ite ?_ ?_
   | refine LeO.bind ?_ (fun _ => ?_)
set_option maxHeartbeats 8000000 in
set_option maxRecDepth 100000 in
theorem slices_Contains_string_string.calls (k : Nat) (A0 : Option Addr) (c0 : Nat) (l0 : List ByteArray) (a1 : ByteArray) (r : Bool) (w : World) (hr0 : Kd.C Kd.string w A0 l0.length l0) (hc0 : l0.length ≤ c0) (h : slices_Contains_string_string.f k l0 a1 = some r) :
  Calls Tryz.prog 25 #[.slice A0 l0.length c0,.string a1] w fun e w' => e = .returned (.bool r) ∧ Drawn0 w w' := by
 have HR0 := Aside0.mk hr0
 have HC0 := Aside0.mk hc0
 clear hr0 hc0
 have H := h
 clear h
 unfold slices_Contains_string_string.f at H
 obtain ⟨t378,A30,H⟩ := Option.bind_eq_some_iff.mp H
 have A3 := Aside0.mk A30
 clear A30
 obtain rfl := Option.some.inj H
 go_enter Tryz.func25,Tryz.ntmps25
 go_wp2_with (first | ((with_reducible refine gate_callee (f := 42) rfl ?_);refine goesL_ (some 7) rfl rfl Tryz.func42 Z114 rfl #[.slice A0 l0.length c0,.string a1] rfl Z74 ?_;(with_reducible refine (slices_Index_string_string.calls k _ _ l0 a1 t378 _ ?side1 ?side2 A3.out).mono ?_);(case side1 => exact Z71);(case side2 => exact HC0.out);rintro e w' ⟨rfl,⟨nd,rfl⟩⟩;refine ⟨_,rfl,?_⟩))
 go_ret
 exact ⟨Z100,Z94⟩

/-! ### strings_SplitN: function 53 -/
def strings_SplitN.f (a0 a1 : ByteArray) (a2 : Int) : Option (List ByteArray) := if a0.size < 4294967281 ∧ 1 ≤ a1.size ∧ 1 ≤ a2 ∧ a2 ≤ 9223372036854775807 then some (Lib.splitB a1 0 (min a2.toNat (a0.size + 1) - 1) a0) else none
theorem strings_SplitN.calls (a0 a1 : ByteArray) (a2 : Int) (r : List ByteArray) (w : World) (hG : GT w) (h : strings_SplitN.f a0 a1 a2 = some r) :
  Calls Tryz.prog 53 #[.string a0,.string a1,.int .i64 a2] w fun e w' => ∃ v0_ : Value,e = .returned (v0_) ∧ Kd.R Kd.string 9 w' w.heap.size (fun _ => True) v0_ r ∧ Below w.heap.size w w' := by
 unfold strings_SplitN.f at h
 by_cases hb : a0.size < 4294967281 ∧ 1 ≤ a1.size ∧ 1 ≤ a2 ∧ a2 ≤ 9223372036854775807
 rotate_left
 ·rw [if_neg hb] at h;cases h
 rw [if_pos hb] at h
 obtain rfl := Option.some.inj h
 obtain ⟨m,hm⟩ := hG.maxlen
 obtain ⟨n,rfl⟩ := Int.eq_ofNat_of_zero_le (show 0 ≤ a2 by omega)
 refine (Tryz.strings_SplitN a0 a1 n m w hb.1 hm hb.2.1 Z115 Z115).mono fun e w' ⟨he,hw⟩ => ?_
 rw [Int.toNat_natCast]
 have hl := Lib.splitB_length_le a1 0 (min n (a0.size + 1) - 1) a0
 generalize hL : Lib.splitB a1 0 (min n (a0.size + 1) - 1) a0 = L at he hw hl ⊢
 have hN : 1 ≤ min n (a0.size + 1) ∧ min n (a0.size + 1) ≤ a0.size + 1 := by omega
 generalize min n (a0.size + 1) = N at he hw hl hN
 have hle : L.length ≤ N := by omega
 refine ⟨_,he,Kd.R_of_own (enc := Value.string) ?_ (fun _ _ => trivial),hw ▸ below_alloc (Below.refl _ _) _⟩
 rw [hw]
 refine ⟨by simp [encs],.inr ⟨w.heap.size,N,_,rfl,Nat.le_refl _,heap_alloc_new w _,hle,?_,?_,?_⟩⟩
 ·unfold maxLen;omega
 ·rw [Lib.cellsOf_size hle,Nat.mul_one]
 simp [Lib.cellsOf,encs]

/-! ### strings_Index: function 54 -/
def strings_Index.f (a0 a1 : ByteArray) : Option Int := if a0.size < 4294967281 then some (Lib.index a0.data.toList a1.data.toList) else none
theorem strings_Index.calls (a0 a1 : ByteArray) (r : Int) (w : World) (hG : GT w) (h : strings_Index.f a0 a1 = some r) :
  Calls Tryz.prog 54 #[.string a0,.string a1] w fun e w' => e = .returned (.int .i64 r) ∧ Below w.heap.size w w' := by
 unfold strings_Index.f at h
 by_cases hb : a0.size < 4294967281
 rotate_left
 ·rw [if_neg hb] at h;cases h
 rw [if_pos hb] at h
 obtain rfl := Option.some.inj h
 obtain ⟨m,hm⟩ := hG.maxlen
 exact (Tryz.strings_Index a0 a1 m w hb hm).mono fun e w' ⟨he,hw⟩ => ⟨he,hw ▸ Below.refl _ _⟩

/-! ### impl_readSigns: function 43 -/
def impl_readSigns.l0 : Nat → List Int → List ByteArray → Int → Int → Option (List Int × Bool)
 | 0,_,_,_,_ => none
 | k + 1,x4,x10,x11,x12 => if x12 < x11 then (if 0 ≤ x12 then (if x12 < (x10.length : Int) then ((strings_Index.f (⟨#[45,48,43]⟩ : ByteArray) (rdOf ByteArray.empty x10 x12)).bind fun t386 => (if ((rdOf ByteArray.empty x10 x12).size : Int) = 1 then (if (wrap64 (t386 - 1)) < (-1) then (some (([] : List Int),false)) else (if x4.length < 17592186044416 then (impl_readSigns.l0 k (x4 ++ [wrap64 (t386 - 1)]) x10 x11 (wrap64 (x12 + 1))) else (none))) else (some (([] : List Int),false)))) else (none)) else (none)) else (some (x4,decide ((x4.length : Int) ≤ 4)))
def impl_readSigns.f (k : Nat) (a0 : ByteArray) : Option (List Int × Bool) := (strings_SplitN.f a0 (⟨#[44]⟩ : ByteArray) 5).bind fun t382 => (impl_readSigns.l0 k (([] : List Int)) t382 (t382.length : Int) 0)
theorem impl_readSigns.mono_l : ∀ k,(∀ y0 y1 y2 y3,LeO (impl_readSigns.l0 k y0 y1 y2 y3) (impl_readSigns.l0 (k + 1) y0 y1 y2 y3))
 | 0 => fun _ _ _ _ r h => by simp [impl_readSigns.l0] at h
 | k + 1 => by
  have ih0 := impl_readSigns.mono_l k
  ·intro y0 y1 y2 y3
   unfold impl_readSigns.l0
   repeat' first
   | (with_reducible exact ih0 _ _ _ _)
   | (with_reducible exact LeO.refl _)
   | (with_reducible exact LeO.none _)
   | (with_reducible refine LeO.ite ?_ ?_)
   | (with_reducible refine LeO.bind ?_ (fun _ => ?_))
   | exact ih0 _ _ _ _
   | exact LeO.none _
   | refine LeO.ite ?_ ?_
   | refine LeO.bind ?_ (fun _ => ?_)
theorem impl_readSigns.mono : ∀ a0 k,LeO (impl_readSigns.f k a0) (impl_readSigns.f (k + 1) a0) := by
 intro a0 k
 have ih0 := impl_readSigns.mono_l k
 unfold impl_readSigns.f
 repeat' first
   | (with_reducible exact ih0 _ _ _ _)
   | (with_reducible exact LeO.refl _)
   | (with_reducible exact LeO.none _)
   | (with_reducible refine LeO.ite ?_ ?_)
   | (with_reducible refine LeO.bind ?_ (fun _ => ?_))
   | exact ih0 _ _ _ _
   | exact LeO.none _
   | refine LeO.ite ?_ ?_
   | refine LeO.bind ?_ (fun _ => ?_)
set_option maxHeartbeats 8000000 in
set_option maxRecDepth 100000 in
theorem impl_readSigns.calls (k : Nat) (a0 : ByteArray) (r1 : List Int) (r2 : Bool) (w : World) (hG : GT w) (h : impl_readSigns.f k a0 = some (r1,r2)) :
  Calls Tryz.prog 43 #[.string a0] w fun e w' => ∃ v0_ : Value,e = .returned (.tuple #[v0_,.bool r2]) ∧ Kd.R (Kd.int .i64) 3 w' w.heap.size (fun _ => True) v0_ r1 ∧ Below w.heap.size w w' := by
 have HG := Aside0.mk hG
 clear hG
 have HB := Aside0.mk (Below.refl w.heap.size w)
 have H : ((strings_SplitN.f a0 (⟨#[44]⟩ : ByteArray) 5).bind fun t382 => (impl_readSigns.l0 k (([] : List Int)) t382 (t382.length : Int) 0)) = some (r1,r2) := h
 clear h
 obtain ⟨y379,hyy⟩ : ∃ y_ : List Int,y_ = (([] : List Int)) := ⟨_,rfl⟩
 replace H : ((strings_SplitN.f a0 (⟨#[44]⟩ : ByteArray) 5).bind fun t382 => (impl_readSigns.l0 k y379 t382 (t382.length : Int) 0)) = some (r1,r2) := zR
 have Ny379 := Aside0.mk hyy
 clear hyy
 obtain ⟨t382,A20,H⟩ := Option.bind_eq_some_iff.mp H
 have A2 := Aside0.mk A20
 clear A20
 have H' := Aside0.mk H
 clear H
 go_enter Tryz.func43,Tryz.ntmps43
 go_wp2_with (first | ((with_reducible refine gate_dst (N := 8) rfl ?_);refine Kd.R_lit (Kd.int .i64) _ 3 ?hg (N := 8) ?hd (xs := ([] : List Int)) (inner := []) (ok := fun _ => True) (okp := fun _ => True) ?hr ?hp (fun _ hk => hk) trivial (Below.refl _ _) (Nat.le_refl _) Z164 ?_;(case hd => rfl);(case hg => rfl);(case hr => exact Z101);(case hp => exact Z112);intro v380 w3 ho4 hb hg_ hnew_;clear hg_ hnew_;(first | rw [← Ny379.out] at ho4 | (simp only [Int.reduceToNat] at ho4;rw [← Ny379.out] at ho4));have n_ := Z30;clear HB;obtain ⟨HO381,HB⟩ := n_;clear hb ho4) | ((with_reducible refine gate_callee (f := 53) rfl ?_);refine goesL_ (some 10) rfl rfl Tryz.func53 Z114 rfl #[.string a0,.string (⟨#[44]⟩ : ByteArray),.int .i64 5] rfl Z74 ?_;(with_reducible refine (strings_SplitN.calls a0 (⟨#[44]⟩ : ByteArray) 5 t382 _ ?side1 A2.out).mono ?_);(case side1 => exact Z68);rintro e w5 ⟨v383,rfl,ho0,hb⟩;refine ⟨_,rfl,?_⟩;have n_ := jA (Kd.R_below Z89 hb) (jA (Kd.R_lower ho0 (below_size Z169)) (Aside0.mk (below_step Z169 hb)));clear HO381 HB;obtain ⟨HO381,HO384,HB⟩ := n_;(try clear hb);(try clear hb2);(try clear hk);(try clear hi);(try clear ho0);obtain ⟨Ao6,co6,eo6⟩ := Kd.R_slice HO384.out;subst eo6))
 go_loopg [4,12] k (fun kq v4 v12 w' => ∃ (x4_1 : List Int) (x12_1 : Int),v12 = .int .i64 x12_1 ∧ Aside0 (impl_readSigns.l0 kq x4_1 t382 (t382.length : Int) x12_1 = some (r1,r2)) ∧ Aside0 (kq ≤ k) ∧ Aside0 (Kd.R (Kd.int .i64) 3 w' w.heap.size (fun _ => True) v4 x4_1) ∧ Aside0 (Kd.R Kd.string 9 w' w.heap.size (fun _ => True) (.slice Ao6 t382.length co6) t382) ∧ Aside0 (Below w.heap.size w w'))
 case atStart => exact ⟨(y379),(0),Z100,H',⟨Nat.le_refl _⟩,⟨Z89⟩,⟨by (with_reducible repeat (first | apply Kd.R_alloc | apply Kd.R_drewN | apply Kd.R_drew));exact HO384.out⟩,⟨Z169⟩⟩
 case round =>
  clear H'
  try clear p2
  try clear c4
  try clear c5
  obtain ⟨x4_1,x12_1,rfl,HA,HK1,HO_4,HO_10,HB⟩ := hrel
  cases gk with
  | zero => exact absurd HA.out (by simp [impl_readSigns.l0])
  | succ k1 =>
   have H := HA.out
   clear HA
   simp only [impl_readSigns.l0] at H
   by_cases c7 : x12_1 < (t382.length : Int)
   rotate_left
   ·rw [if_neg c7] at H
    have c7b0 : decide (x12_1 < (t382.length : Int)) = false := decide_eq_false c7
    clear c7
    simp only [Option.some.injEq,Prod.mk.injEq] at H
    obtain ⟨rfl,rfl⟩ := H
    obtain ⟨Ao18,co18,eo18⟩ := Kd.R_slice HO_4.out
    subst eo18
    go_wp2
    go_ret2
    exact ⟨_,Z92,Z151,Z169⟩
   rw [if_pos c7] at H
   have c7b0 : decide (x12_1 < (t382.length : Int)) = true := decide_eq_true c7
   clear c7
   obtain ⟨c8,H⟩ := ifp H
   have c8b0 : decide (0 ≤ x12_1) = true := decide_eq_true c8
   clear c8
   obtain ⟨c9,H⟩ := ifp H
   have c9b0 : decide (x12_1 < (t382.length : Int)) = true := decide_eq_true c9
   clear c9
   obtain ⟨t386,A100,H⟩ := Option.bind_eq_some_iff.mp H
   have A10 := Aside0.mk A100
   clear A100
   by_cases c11 : ((rdOf ByteArray.empty t382 x12_1).size : Int) = 1
   rotate_left
   ·rw [if_neg c11] at H
    have c11b0 : (((rdOf ByteArray.empty t382 x12_1).size : Int) == 1) = false := beq_eq_false_iff_ne.mpr c11
    have c11b1 : (((rdOf ByteArray.empty t382 x12_1).size : Int) != 1) = true := bne_iff_ne.mpr c11
    simp only [Option.some.injEq,Prod.mk.injEq] at H
    obtain ⟨rfl,rfl⟩ := H
    have p385 : 0 ≤ (x12_1 : Int) := of_decide_eq_true Z99
    have q385 : x12_1 < (t382.length : Int) := of_decide_eq_true Z99
    obtain ⟨ad385,e385,hx385_0⟩ := Kd.at_string (Kd.R_reads' HO_10.out).2.2 x12_1 p385 q385
    cases e385
    replace p385 := eq_true p385
    replace q385 := eq_true q385
    go_wp2_with (first | ((with_reducible refine gate_callee (f := 54) rfl ?_);refine goesL_ (some 17) rfl rfl Tryz.func54 Z114 rfl #[.string (⟨#[45,48,43]⟩ : ByteArray),.string (rdOf ByteArray.empty t382 x12_1)] rfl Z74 ?_;(with_reducible refine (strings_Index.calls (⟨#[45,48,43]⟩ : ByteArray) (rdOf ByteArray.empty t382 x12_1) t386 _ ?side1 A10.out).mono ?_);(case side1 => exact Z68);rintro e wq1 ⟨rfl,hb⟩;refine ⟨_,rfl,?_⟩;have n_ := Z27;clear HO_4 HO_10 HB;obtain ⟨HO_4,HO_10,HB⟩ := n_;(try clear hb);(try clear hb2);(try clear hk);(try clear hi)))
    go_ret2
    exact ⟨_,Z92,Z73,Z169⟩
   rw [if_pos c11] at H
   have c11b0 : (((rdOf ByteArray.empty t382 x12_1).size : Int) == 1) = true := beq_iff_eq.mpr c11
   have c11b1 : (((rdOf ByteArray.empty t382 x12_1).size : Int) != 1) = false := bne_eq_false_iff_eq.mpr c11
   clear c11
   by_cases c12 : (wrap64 (t386 - 1)) < (-1)
   ·rw [if_pos c12] at H
    have c12b0 : decide ((wrap64 (t386 - 1)) < (-1)) = true := decide_eq_true c12
    clear c12
    simp only [Option.some.injEq,Prod.mk.injEq] at H
    obtain ⟨rfl,rfl⟩ := H
    have p385 : 0 ≤ (x12_1 : Int) := of_decide_eq_true Z99
    have q385 : x12_1 < (t382.length : Int) := of_decide_eq_true Z99
    obtain ⟨ad385,e385,hx385_0⟩ := Kd.at_string (Kd.R_reads' HO_10.out).2.2 x12_1 p385 q385
    cases e385
    replace p385 := eq_true p385
    replace q385 := eq_true q385
    go_wp2_with (first | ((with_reducible refine gate_callee (f := 54) rfl ?_);refine goesL_ (some 17) rfl rfl Tryz.func54 Z114 rfl #[.string (⟨#[45,48,43]⟩ : ByteArray),.string (rdOf ByteArray.empty t382 x12_1)] rfl Z74 ?_;(with_reducible refine (strings_Index.calls (⟨#[45,48,43]⟩ : ByteArray) (rdOf ByteArray.empty t382 x12_1) t386 _ ?side1 A10.out).mono ?_);(case side1 => exact Z68);rintro e wq1 ⟨rfl,hb⟩;refine ⟨_,rfl,?_⟩;have n_ := Z27;clear HO_4 HO_10 HB;obtain ⟨HO_4,HO_10,HB⟩ := n_;(try clear hb);(try clear hb2);(try clear hk);(try clear hi)))
    go_ret2
    exact ⟨_,Z92,Z73,Z169⟩
   rw [if_neg c12] at H
   have c12b0 : decide ((wrap64 (t386 - 1)) < (-1)) = false := decide_eq_false c12
   clear c12
   obtain ⟨c14,H⟩ := ifp H
   have LMc14 := Aside0.mk c14
   clear c14
   obtain ⟨y387,hyy⟩ : ∃ y_ : List Int,y_ = (x4_1 ++ [wrap64 (t386 - 1)]) := ⟨_,rfl⟩
   replace H : (impl_readSigns.l0 k1 y387 t382 (t382.length : Int) (wrap64 (x12_1 + 1))) = some (r1,r2) := zR
   have Ny387 := Aside0.mk hyy
   clear hyy
   have H' := Aside0.mk H
   clear H
   have p385 : 0 ≤ (x12_1 : Int) := of_decide_eq_true Z99
   have q385 : x12_1 < (t382.length : Int) := of_decide_eq_true Z99
   obtain ⟨ad385,e385,hx385_0⟩ := Kd.at_string (Kd.R_reads' HO_10.out).2.2 x12_1 p385 q385
   cases e385
   replace p385 := eq_true p385
   replace q385 := eq_true q385
   go_wp2_with (first | ((with_reducible refine gate_callee (f := 54) rfl ?_);refine goesL_ (some 17) rfl rfl Tryz.func54 Z114 rfl #[.string (⟨#[45,48,43]⟩ : ByteArray),.string (rdOf ByteArray.empty t382 x12_1)] rfl Z74 ?_;(with_reducible refine (strings_Index.calls (⟨#[45,48,43]⟩ : ByteArray) (rdOf ByteArray.empty t382 x12_1) t386 _ ?side1 A10.out).mono ?_);(case side1 => exact Z68);rintro e w15 ⟨rfl,hb⟩;refine ⟨_,rfl,?_⟩;have n_ := Z27;clear HO_4 HO_10 HB;obtain ⟨HO_4,HO_10,HB⟩ := n_;(try clear hb);(try clear hb2);(try clear hk);(try clear hi)) | ((with_reducible refine gate_builtin (b := .append) (xs := #[.tmp 26,.tmp 28]) rfl ?_);at_builtin;refine Kd.R_append (Kd.int .i64) (w0 := w) w.heap.size rfl (.tmp 26) (.tmp 28) 24 3 (.int .i64 0) 8 rfl Tryz.underlying24 info3 rfl Z163 Z115 u4 x4_1 (wrap64 (t386 - 1)) [.int .i64 (wrap64 (t386 - 1))] (fun _ => True) (fun _ => False) rfl rfl ?aP (fun _ hk => hk.elim) ?aF ?aO ?aB ?aS ?aL ?_;(case aP => exact rfl);(case aB => exact Z72);(case aF => exact Z110);(case aO => exact Z151);(case aS => exact Z69);(case aL => have := LMc14.out;omega);intro v388 w16 ho hb hg hat;rw [← Ny387.out] at ho;have n_ := jA (Kd.R_over' Z149 (Kd.R_typed Z151) Z163 hg) (jA (hb) (Aside0.mk (ho)));clear HO_10 HB HO_4;obtain ⟨HO_10,HB,HO389⟩ := n_;clear ho hb hg hat))
   go_roundg k1
   case measure => have := HK1.out;omega
   case rel => exact ⟨(y387),(wrap64 (x12_1 + 1)),Z100,H',⟨Z111⟩,⟨by (with_reducible repeat (first | apply Kd.R_alloc | apply Kd.R_drewN | apply Kd.R_drew));exact HO389.out⟩,⟨Z149⟩,⟨Z169⟩⟩

/-! ### impl_IntText: function 55 -/
def impl_IntText.f (a0 : ByteArray) : Option (Int × Bool) := if a0.size ≤ 281474976710656 then (match Lib.atoiAll a0.data.toList with
 | .ok v => (impl_Digits.f v).bind fun t => (if t = a0 then some (v,true) else some (0,false))
 | _ => some (0,false)) else none
theorem impl_IntText.below {w w' : World} {e : Nat} (h : w' = w ∨ ∃ t,w' = Lib.bytesWorld w e t) : Below w.heap.size w w' := by
 rcases h with rfl | ⟨t,rfl⟩
 ·exact Below.refl _ _
 exact Lib.bytesWorld_below _ _ _
theorem impl_IntText.calls (a0 : ByteArray) (r1 : Int) (r2 : Bool) (w : World) (hG : GT w) (h : impl_IntText.f a0 = some (r1,r2)) :
  Calls Tryz.prog 55 #[.string a0] w fun e w' => e = .returned (.tuple #[.int .i64 r1,.bool r2]) ∧ Below w.heap.size w w' := by
 have HG := Aside0.mk hG
 clear hG
 have HB := Aside0.mk (Below.refl w.heap.size w)
 unfold impl_IntText.f at h
 by_cases hlim : a0.size ≤ 281474976710656
 rotate_left
 ·rw [if_neg hlim] at h;cases h
 rw [if_pos hlim] at h
 cases hA : Lib.atoiAll a0.data.toList with
 | ok v =>
  have AE := Aside0.mk hA
  rw [hA] at h
  clear hA
  obtain ⟨t,hd,h⟩ := Option.bind_eq_some_iff.mp h
  have AD := Aside0.mk hd
  clear hd
  by_cases ht : t = a0
  ·subst ht
   rw [if_pos rfl] at h
   obtain ⟨rfl,rfl⟩ := Prod.mk.inj (Option.some.inj h)
   clear h
   go_enter Tryz.func55,Tryz.ntmps55
   go_wp2_with (first
    | (go_at_call 66;(with_reducible refine (Tryz.strconv_Atoi_ok t Z115 v AE.out _).mono ?_);rintro e w1 ⟨rfl,hw⟩;have hb := impl_IntText.below hw;clear hw;have n0_ := Aside0.mk (below_step Z169 hb);clear HB;have HB := n0_;clear n0_ hb)
    | (go_at_call 16;(with_reducible refine (impl_Digits.calls v t _ (GT_below HG.out Z169) AD.out).mono ?_);rintro e w2 ⟨rfl,hb⟩;have n0_ := Aside0.mk (below_step Z169 hb);clear HB;have HB := n0_;clear n0_ hb))
   go_ret2
   exact ⟨rfl,HB.out⟩
  rw [if_neg ht] at h
  obtain ⟨rfl,rfl⟩ := Prod.mk.inj (Option.some.inj h)
  clear h
  have htl : (t.toList == a0.toList) = false := beq_eq_false_iff_ne.mpr (fun e => ht (by rw [ByteArray.toList_eq,ByteArray.toList_eq] at e;exact ByteArray.ext (Array.toList_inj.mp e)))
  go_enter Tryz.func55,Tryz.ntmps55
  go_wp2_with (first
   | (go_at_call 66;(with_reducible refine (Tryz.strconv_Atoi_ok a0 Z115 v AE.out _).mono ?_);rintro e w1 ⟨rfl,hw⟩;have hb := impl_IntText.below hw;clear hw;have n0_ := Aside0.mk (below_step Z169 hb);clear HB;have HB := n0_;clear n0_ hb)
   | (go_at_call 16;(with_reducible refine (impl_Digits.calls v t _ (GT_below HG.out Z169) AD.out).mono ?_);rintro e w2 ⟨rfl,hb⟩;have n0_ := Aside0.mk (below_step Z169 hb);clear HB;have HB := n0_;clear n0_ hb))
  go_ret2
  exact ⟨rfl,HB.out⟩
 | range =>
  have AE := Aside0.mk hA
  rw [hA] at h
  clear hA
  obtain ⟨rfl,rfl⟩ := Prod.mk.inj (Option.some.inj h)
  clear h
  go_enter Tryz.func55,Tryz.ntmps55
  go_wp2_with (first
   | (go_at_call 66;(obtain ⟨t_,p_,hv_⟩ := (GT_below HG.out Z169).rng);(with_reducible refine (Tryz.strconv_Atoi_range a0 hlim AE.out (.iface t_ p_) _ hv_ (.inr ⟨t_,p_,rfl⟩)).mono ?_);rintro e w1 ⟨n_,rfl,_,_,hb⟩;clear hv_;have n0_ := Aside0.mk (below_step Z169 hb);clear HB;have HB := n0_;clear n0_ hb))
  go_ret2
  exact ⟨rfl,HB.out⟩

 | _ =>
  have AE := Aside0.mk (show (∀ v,Lib.atoiAll a0.data.toList ≠ .ok v) ∧ Lib.atoiAll a0.data.toList ≠ .range from ⟨fun v e => (by rw [hA] at e;cases e),fun e => (by rw [hA] at e;cases e)⟩)
  rw [hA] at h
  clear hA
  obtain ⟨rfl,rfl⟩ := Prod.mk.inj (Option.some.inj h)
  clear h
  go_enter Tryz.func55,Tryz.ntmps55
  go_wp2_with (first
   | (go_at_call 66;(obtain ⟨t_,p_,hv_⟩ := (GT_below HG.out Z169).syn);(with_reducible refine (Tryz.strconv_Atoi_syntax a0 hlim AE.out (.iface t_ p_) _ hv_ (.inr ⟨t_,p_,rfl⟩)).mono ?_);rintro e w1 ⟨n_,rfl,_,_,hb⟩;clear hv_;have n0_ := Aside0.mk (below_step Z169 hb);clear HB;have HB := n0_;clear n0_ hb))
  go_ret2
  exact ⟨rfl,HB.out⟩
/-! ### impl_Number: function 44 -/
def impl_Number.f (a0 : ByteArray) : Option (Int × Bool) := (impl_IntText.f a0).bind fun bt390 => (if bt390.2 = true then ((impl_within.f bt390.1 0 999999999).bind fun t392 => (if t392 = true then (some (bt390.1,true)) else (some (0,false)))) else (some (0,false)))
set_option maxHeartbeats 8000000 in
set_option maxRecDepth 100000 in
theorem impl_Number.calls (a0 : ByteArray) (r1 : Int) (r2 : Bool) (w : World) (hG : GT w) (h : impl_Number.f a0 = some (r1,r2)) :
  Calls Tryz.prog 44 #[.string a0] w fun e w' => e = .returned (.tuple #[.int .i64 r1,.bool r2]) ∧ Below w.heap.size w w' := by
 have HG := Aside0.mk hG
 clear hG
 have HB := Aside0.mk (Below.refl w.heap.size w)
 have H : ((impl_IntText.f a0).bind fun bt390 => (if bt390.2 = true then ((impl_within.f bt390.1 0 999999999).bind fun t392 => (if t392 = true then (some (bt390.1,true)) else (some (0,false)))) else (some (0,false)))) = some (r1,r2) := h
 clear h
 obtain ⟨⟨t390,t391⟩,A20,H⟩ := Option.bind_eq_some_iff.mp H
 try dsimp only at H
 have A2 := Aside0.mk A20
 clear A20
 by_cases c3 : t391 = true
 rotate_left
 ·replace c3 := Bool.eq_false_iff.mpr c3
  subst c3
  rw [if_neg Bool.false_ne_true] at H
  simp only [Option.some.injEq,Prod.mk.injEq] at H
  obtain ⟨rfl,rfl⟩ := H
  go_enter Tryz.func44,Tryz.ntmps44
  go_wp2_with (first | ((with_reducible refine gate_callee (f := 55) rfl ?_);refine goesL_ (some 8) rfl rfl Tryz.func55 Z114 rfl #[.string a0] rfl Z74 ?_;(with_reducible refine (impl_IntText.calls a0 t390 false _ ?side1 A2.out).mono ?_);(case side1 => exact Z68);rintro e wq1 ⟨rfl,hb⟩;refine ⟨_,rfl,?_⟩;have n0_ := Aside0.mk (below_step Z169 hb);clear HB;have HB := n0_;clear n0_;(try clear hb);(try clear hb2);(try clear hk);(try clear hi)))
  go_ret2
  exact ⟨Z92,Z169⟩
 subst c3
 rw [if_pos rfl] at H
 obtain ⟨t392,A40,H⟩ := Option.bind_eq_some_iff.mp H
 have A4 := Aside0.mk A40
 clear A40
 by_cases c5 : t392 = true
 ·subst c5
  rw [if_pos rfl] at H
  simp only [Option.some.injEq,Prod.mk.injEq] at H
  obtain ⟨rfl,rfl⟩ := H
  go_enter Tryz.func44,Tryz.ntmps44
  go_wp2_with (first | ((with_reducible refine gate_callee (f := 55) rfl ?_);refine goesL_ (some 8) rfl rfl Tryz.func55 Z114 rfl #[.string a0] rfl Z74 ?_;(with_reducible refine (impl_IntText.calls a0 t390 true _ ?side1 A2.out).mono ?_);(case side1 => exact Z68);rintro e wq1 ⟨rfl,hb⟩;refine ⟨_,rfl,?_⟩;have n0_ := Aside0.mk (below_step Z169 hb);clear HB;have HB := n0_;clear n0_;(try clear hb);(try clear hb2);(try clear hk);(try clear hi)) | (go_at_call 31;(with_reducible refine (impl_within.calls t390 0 999999999 true _ A4.out).mono ?_);rintro e w' ⟨rfl,⟨nd,rfl⟩⟩))
  go_ret2
  exact ⟨Z92,Z169⟩
 replace c5 := Bool.eq_false_iff.mpr c5
 subst c5
 rw [if_neg Bool.false_ne_true] at H
 simp only [Option.some.injEq,Prod.mk.injEq] at H
 obtain ⟨rfl,rfl⟩ := H
 go_enter Tryz.func44,Tryz.ntmps44
 go_wp2_with (first | ((with_reducible refine gate_callee (f := 55) rfl ?_);refine goesL_ (some 8) rfl rfl Tryz.func55 Z114 rfl #[.string a0] rfl Z74 ?_;(with_reducible refine (impl_IntText.calls a0 t390 true _ ?side1 A2.out).mono ?_);(case side1 => exact Z68);rintro e wq1 ⟨rfl,hb⟩;refine ⟨_,rfl,?_⟩;have n0_ := Aside0.mk (below_step Z169 hb);clear HB;have HB := n0_;clear n0_;(try clear hb);(try clear hb2);(try clear hk);(try clear hi)) | (go_at_call 31;(with_reducible refine (impl_within.calls t390 0 999999999 false _ A4.out).mono ?_);rintro e w' ⟨rfl,⟨nd,rfl⟩⟩))
 go_ret2
 exact ⟨Z92,Z169⟩

end Go.Proofs.YtepnbcdbagjmbadGreatDoor.QFnConfigLines
