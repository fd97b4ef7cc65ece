/- The machine side of FnExactReadConfig: what each Go function that it reaches comes to. Conditions: none. -/
import Derived.Test.YtepnbcdbagjmbacDoorQFnExactReadConfigx0
namespace Go.Proofs.YtepnbcdbagjmbacDoor.QFnExactReadConfig
open Go.RowKit Go.Proofs.YtepnbcdbagjmbacDoorW.PrintWords Go.Proofs.YtepnbcdbagjmbacDoorW.PrintLast Go.Proofs.YtepnbcdbagjmbacDoorW.PrintMore
attribute [local go_sem] max2_int min2_int max_two min_two max_three min_three max_four min_four   -- for this text's walks alone
set_option linter.unusedVariables false
set_option linter.unusedSimpArgs false

/-! ### spec_UsualConfig: function 10 -/
def spec_UsualConfig.f  : Option (Int × Int × Int × Int × Int × Int × Int × List Int) := some (4,2,4,1,1,1,1,([] : List Int))
set_option maxHeartbeats 8000000 in
set_option maxRecDepth 100000 in
theorem spec_UsualConfig.calls  (r1 : Int) (r2 : Int) (r3 : Int) (r4 : Int) (r5 : Int) (r6 : Int) (r7 : Int) (r8 : List Int) (w : World) (h : spec_UsualConfig.f  = some (r1,r2,r3,r4,r5,r6,r7,r8)) :
  Calls Tryd.prog 10 #[] w fun e w' => ∃ v7_ : Value,e = .returned (.agg #[.int .i64 r1,.int .i64 r2,.int .i64 r3,.int .i64 r4,.int .i64 r5,.int .i64 r6,.int .i64 r7,v7_]) ∧ Kd.R (Kd.int .i64) 3 w' w.heap.size (fun _ => True) v7_ r8 ∧ Below w.heap.size w w' := by
 have hu24 := Tryd.underlying24
 have HB := Aside0.mk (Below.refl w.heap.size w)
 have H := h
 clear h
 unfold spec_UsualConfig.f at H
 simp only [Option.some.injEq,Prod.mk.injEq] at H
 obtain ⟨rfl,rfl,rfl,rfl,rfl,rfl,rfl,rfl⟩ := H
 go_enter Tryd.func10,Tryd.ntmps10
 go_wp2_with (first | ((with_reducible refine gate_dst (N := 0) rfl ?_);refine bE 0 #[.int .i64 0,.int .i64 0,.int .i64 0,.int .i64 0,.int .i64 0,.int .i64 0,.int .i64 0,.slice none 0 0] 24 (h := ?_);intro gb101 hg wq1 hbox hb;have n_ := jA (below_step Z186 hb) (jA (hbox) (jA ((Z155 : w.heap.size ≤ gb101)) (Aside0.mk ((Z155 : w.heap.size ≤ gb101)))));clear HB;obtain ⟨HB,BK101,GW101,GE101⟩ := n_;clear hb hbox hg;obtain ⟨hczq2_0,hczq2_1,hczq2_2,hczq2_3,hczq2_4,hczq2_5,hczq2_6,hczq2_7,hfzq2_0,hfzq2_1,hfzq2_2,hfzq2_3,hfzq2_4,hfzq2_5,hfzq2_6,hfzq2_7⟩ := cells8 BK101.out))
 refine bodyPost_ret (results_cell_row rfl _ _ gb101 24 #[.int .i64 4,.int .i64 2,.int .i64 4,.int .i64 1,.int .i64 1,.int .i64 1,.int .i64 1,.slice none 0 0] (0,0) _ rfl (by refine bP ?_;refine blk_put (cs := #[.int .i64 4,.int .i64 2,.int .i64 4,.int .i64 1,.int .i64 1,.int .i64 1,.int .i64 1,.slice none 0 0]) ?_ 7 _ rfl;refine bP ?_;refine blk_put (cs := #[.int .i64 4,.int .i64 2,.int .i64 4,.int .i64 1,.int .i64 1,.int .i64 1,.int .i64 0,.slice none 0 0]) ?_ 6 _ rfl;refine bP ?_;refine blk_put (cs := #[.int .i64 4,.int .i64 2,.int .i64 4,.int .i64 1,.int .i64 1,.int .i64 0,.int .i64 0,.slice none 0 0]) ?_ 5 _ rfl;refine bP ?_;refine blk_put (cs := #[.int .i64 4,.int .i64 2,.int .i64 4,.int .i64 1,.int .i64 0,.int .i64 0,.int .i64 0,.slice none 0 0]) ?_ 4 _ rfl;refine bP ?_;refine blk_put (cs := #[.int .i64 4,.int .i64 2,.int .i64 4,.int .i64 0,.int .i64 0,.int .i64 0,.int .i64 0,.slice none 0 0]) ?_ 3 _ rfl;refine bP ?_;refine blk_put (cs := #[.int .i64 4,.int .i64 2,.int .i64 0,.int .i64 0,.int .i64 0,.int .i64 0,.int .i64 0,.slice none 0 0]) ?_ 2 _ rfl;refine bP ?_;refine blk_put (cs := #[.int .i64 4,.int .i64 0,.int .i64 0,.int .i64 0,.int .i64 0,.int .i64 0,.int .i64 0,.slice none 0 0]) ?_ 1 _ rfl;refine bP ?_;refine blk_put (cs := #[.int .i64 0,.int .i64 0,.int .i64 0,.int .i64 0,.int .i64 0,.int .i64 0,.int .i64 0,.slice none 0 0]) ?_ 0 _ rfl;refine bP ?_;exact BK101.out) Tryd.underlying24 rfl Z133) rfl ?_
 exact ⟨_,Z107,Z86,by repeat (first | (with_reducible first | exact HB.out | apply below_alloc | apply pw_below_drewN | apply below_drew1 | refine below_set ?_ GE101.out) | exact HB.out)⟩

/-! ### spec_Parts: function 11 -/
def spec_Parts.l0 : Nat → ByteArray → Int → List ByteArray → Int → Int → Option (List ByteArray)
 | 0,_,_,_,_,_ => none
 | k + 1,x0,x1,x5,x6,x7 => if x7 ≤ (x0.size : Int) then (if x7 = (x0.size : Int) then (if 0 ≤ x6 then (if x6 ≤ x7 then (if x5.length < 8796093022208 then (spec_Parts.l0 k x0 x1 (x5 ++ [x0.extract (x6 : Int).toNat (x7 : Int).toNat]) (wrap64 (x7 + 1)) (wrap64 (x7 + 1))) else (none)) else (none)) else (none)) else (if 0 ≤ x7 then (if x7 < (x0.size : Int) then (if (bt x0 x7) = x1 then (if 0 ≤ x6 then (if x6 ≤ x7 then (if x5.length < 8796093022208 then (spec_Parts.l0 k x0 x1 (x5 ++ [x0.extract (x6 : Int).toNat (x7 : Int).toNat]) (wrap64 (x7 + 1)) (wrap64 (x7 + 1))) else (none)) else (none)) else (none)) else (spec_Parts.l0 k x0 x1 x5 x6 (wrap64 (x7 + 1)))) else (none)) else (none))) else (some x5)
def spec_Parts.f (k : Nat) (a0 : ByteArray) (a1 : Int) : Option (List ByteArray) := spec_Parts.l0 k a0 a1 (([] : List ByteArray)) 0 0
theorem spec_Parts.mono_l : ∀ k,(∀ y0 y1 y2 y3 y4,LeO (spec_Parts.l0 k y0 y1 y2 y3 y4) (spec_Parts.l0 (k + 1) y0 y1 y2 y3 y4))
 | 0 => fun _ _ _ _ _ r h => by simp [spec_Parts.l0] at h
 | k + 1 => by
  have ih0 := spec_Parts.mono_l k
  ·intro y0 y1 y2 y3 y4
   unfold spec_Parts.l0
   repeat' first
   | (with_reducible exact ih0 _ _ _ _ _)
   | (with_reducible exact LeO.refl _)
   | (with_reducible exact LeO.none _)
   | (with_reducible refine LeO.ite ?_ ?_)
   | (with_reducible refine LeO.bind ?_ (fun _ => ?_))
   | exact ih0 _ _ _ _ _
   | exact LeO.none _
   | refine LeO.ite ?_ ?_
   | refine LeO.bind ?_ (fun _ => ?_)
theorem spec_Parts.mono : ∀ a0 a1 k,LeO (spec_Parts.f k a0 a1) (spec_Parts.f (k + 1) a0 a1) := by
 intro a0 a1 k
 have ih0 := spec_Parts.mono_l k
 unfold spec_Parts.f
 repeat' first
   | (with_reducible exact ih0 _ _ _ _ _)
   | (with_reducible exact LeO.refl _)
   | (with_reducible exact LeO.none _)
   | (with_reducible refine LeO.ite ?_ ?_)
   | (with_reducible refine LeO.bind ?_ (fun _ => ?_))
   | exact ih0 _ _ _ _ _
   | exact LeO.none _
   | refine LeO.ite ?_ ?_
   | refine LeO.bind ?_ (fun _ => ?_)
set_option maxHeartbeats 8000000 in
set_option maxRecDepth 100000 in
theorem spec_Parts.calls (k : Nat) (a0 : ByteArray) (a1 : Int) (r : List ByteArray) (w : World) (h : spec_Parts.f k a0 a1 = some r) :
  Calls Tryd.prog 11 #[.string a0,.int .u8 a1] w fun e w' => ∃ v0_ : Value,e = .returned (v0_) ∧ Kd.R Kd.string 9 w' w.heap.size (fun _ => True) v0_ r ∧ Below w.heap.size w w' := by
 have HB := Aside0.mk (Below.refl w.heap.size w)
 have H := h
 clear h
 unfold spec_Parts.f at H
 obtain ⟨y102,hyy⟩ : ∃ y_ : List ByteArray,y_ = (([] : List ByteArray)) := ⟨_,rfl⟩
 replace H : (spec_Parts.l0 k a0 a1 y102 0 0) = some r := zR
 have Ny102 := Aside0.mk hyy
 clear hyy
 have H' := Aside0.mk H
 clear H
 go_enter Tryd.func11,Tryd.ntmps11
 go_wp2_with (first | ((with_reducible refine gate_dst (N := 8) rfl ?_);refine Kd.R_lit Kd.string _ 9 ?hg (N := 8) ?hd (xs := ([] : List ByteArray)) (inner := []) (ok := fun _ => True) (okp := fun _ => True) ?hr ?hp (fun _ hk => hk) trivial (Below.refl _ _) (Nat.le_refl _) Z181 ?_;(case hd => rfl);(case hg => rfl);(case hr => exact Z119);(case hp => exact Z130);intro v103 w3 ho4 hb hg_ hnew_;clear hg_ hnew_;(first | rw [← Ny102.out] at ho4 | (simp only [Int.reduceToNat] at ho4;rw [← Ny102.out] at ho4));have n_ := Z33;clear HB;obtain ⟨HO104,HB⟩ := n_;clear hb ho4))
 go_loopg [5,6,7] k (fun kq v5 v6 v7 w' => ∃ (x5_1 : List ByteArray) (x6_1 : Int) (x7_1 : Int),v6 = .int .i64 x6_1 ∧ v7 = .int .i64 x7_1 ∧ Aside0 (spec_Parts.l0 kq a0 a1 x5_1 x6_1 x7_1 = some r) ∧ Aside0 (kq ≤ k) ∧ Aside0 (Kd.R Kd.string 9 w' w.heap.size (fun _ => True) v5 x5_1) ∧ Aside0 (Below w.heap.size w w'))
 case atStart => exact ⟨(y102),(0),(0),Z118,Z118,H',⟨Nat.le_refl _⟩,⟨by (with_reducible repeat (first | apply Kd.R_alloc | apply Kd.R_drewN | apply Kd.R_drew));exact HO104.out⟩,⟨Z186⟩⟩
 case round =>
  clear H'
  try clear c1
  try clear p2
  obtain ⟨x5_1,x6_1,x7_1,rfl,rfl,HA,HK1,HO_5,HB⟩ := hrel
  cases gk with
  | zero => exact absurd HA.out (by simp [spec_Parts.l0])
  | succ k1 =>
   have H := HA.out
   clear HA
   simp only [spec_Parts.l0] at H
   by_cases c5 : x7_1 ≤ (a0.size : Int)
   rotate_left
   ·rw [if_neg c5] at H
    have c5b0 : decide (x7_1 ≤ (a0.size : Int)) = false := decide_eq_false c5
    clear c5
    obtain rfl := Option.some.inj H
    go_wp2
    go_ret
    exact ⟨_,Z107,Z166,Z186⟩
   rw [if_pos c5] at H
   have c5b0 : decide (x7_1 ≤ (a0.size : Int)) = true := decide_eq_true c5
   clear c5
   by_cases c6 : x7_1 = (a0.size : Int)
   ·rw [if_pos c6] at H
    have c6b0 : (x7_1 == (a0.size : Int)) = true := beq_iff_eq.mpr c6
    have c6b1 : (x7_1 != (a0.size : Int)) = false := bne_eq_false_iff_eq.mpr c6
    clear c6
    obtain ⟨c7,H⟩ := ifp H
    have c7b0 := eq_true c7
    have c7b1 : decide (0 ≤ x6_1) = true := decide_eq_true c7
    clear c7
    obtain ⟨c8,H⟩ := ifp H
    have c8b0 := eq_true c8
    have c8b1 : decide (x6_1 ≤ x7_1) = true := decide_eq_true c8
    clear c8
    have c9b0 := eq_true (of_decide_eq_true Z117 : x7_1 ≤ (a0.size : Int))
    obtain ⟨c10,H⟩ := ifp H
    have LMc10 := Aside0.mk c10
    clear c10
    obtain ⟨y105,hyy⟩ : ∃ y_ : List ByteArray,y_ = (x5_1 ++ [a0.extract (x6_1 : Int).toNat (x7_1 : Int).toNat]) := ⟨_,rfl⟩
    replace H : (spec_Parts.l0 k1 a0 a1 y105 (wrap64 (x7_1 + 1)) (wrap64 (x7_1 + 1))) = some r := zR
    have Ny105 := Aside0.mk hyy
    clear hyy
    have H' := Aside0.mk H
    clear H
    go_wp2_with (first | ((with_reducible refine gate_builtin (b := .append) (xs := #[.tmp 26,.tmp 31]) rfl ?_);at_builtin;refine Kd.R_append Kd.string (w0 := w) w.heap.size rfl (.tmp 26) (.tmp 31) 35 9 (.string ⟨#[]⟩) 16 rfl Tryd.underlying35 info9 rfl Z180 Z134 u5 x5_1 (a0.extract (x6_1 : Int).toNat (x7_1 : Int).toNat) [.string (a0.extract (x6_1 : Int).toNat (x7_1 : Int).toNat)] (fun _ => True) (fun _ => False) rfl rfl ?aP (fun _ hk => hk.elim) ?aF ?aO ?aB ?aS ?aL ?_;(case aP => exact rfl);(case aB => exact Z85);(case aF => exact Z128);(case aO => exact Z91);(case aS => exact Z80);(case aL => have := LMc10.out;omega);intro v106 w11 ho hb hg hat;rw [← Ny105.out] at ho;have n_ := jA (hb) (Aside0.mk (ho));clear HB HO_5;obtain ⟨HB,HO107⟩ := n_;clear ho hb hg hat))
    go_roundg k1
    case measure => have := HK1.out;omega
    case rel => exact ⟨(y105),(wrap64 (x7_1 + 1)),(wrap64 (x7_1 + 1)),Z118,Z118,H',⟨Z129⟩,⟨by (with_reducible repeat (first | apply Kd.R_alloc | apply Kd.R_drewN | apply Kd.R_drew));exact HO107.out⟩,⟨Z186⟩⟩
   rw [if_neg c6] at H
   have c6b0 : (x7_1 == (a0.size : Int)) = false := beq_eq_false_iff_ne.mpr c6
   have c6b1 : (x7_1 != (a0.size : Int)) = true := bne_iff_ne.mpr c6
   obtain ⟨c12,H⟩ := ifp H
   have c12b0 : decide (0 ≤ x7_1) = true := decide_eq_true c12
   clear c12
   obtain ⟨c13,H⟩ := ifp H
   have c13b0 : decide (x7_1 < (a0.size : Int)) = true := decide_eq_true c13
   clear c13
   by_cases c15 : (bt a0 x7_1) = a1
   rotate_left
   ·rw [if_neg c15] at H
    have c15b0 : ((bt a0 x7_1) == a1) = false := beq_eq_false_iff_ne.mpr c15
    have c15b1 : ((bt a0 x7_1) != a1) = true := bne_iff_ne.mpr c15
    have H' := Aside0.mk H
    clear H
    have p14 : 0 ≤ (x7_1 : Int) := of_decide_eq_true Z117
    have q14 : x7_1 < (a0.size : Int) := of_decide_eq_true Z117
    have hx14 := bt_at a0 x7_1
    replace p14 := eq_true p14
    replace q14 := eq_true q14
    go_wp2
    go_roundg k1
    case measure => have := HK1.out;omega
    case rel => exact ⟨(x5_1),(x6_1),(wrap64 (x7_1 + 1)),Z118,Z118,H',⟨Z129⟩,⟨Z166⟩,⟨Z186⟩⟩
   rw [if_pos c15] at H
   have c15b0 : ((bt a0 x7_1) == a1) = true := beq_iff_eq.mpr c15
   have c15b1 : ((bt a0 x7_1) != a1) = false := bne_eq_false_iff_eq.mpr c15
   clear c15
   obtain ⟨c16,H⟩ := ifp H
   have c16b0 := eq_true c16
   have c16b1 : decide (0 ≤ x6_1) = true := decide_eq_true c16
   clear c16
   obtain ⟨c17,H⟩ := ifp H
   have c17b0 := eq_true c17
   have c17b1 : decide (x6_1 ≤ x7_1) = true := decide_eq_true c17
   clear c17
   have c18b0 := eq_true (of_decide_eq_true Z117 : x7_1 ≤ (a0.size : Int))
   obtain ⟨c19,H⟩ := ifp H
   have LMc19 := Aside0.mk c19
   clear c19
   obtain ⟨y108,hyy⟩ : ∃ y_ : List ByteArray,y_ = (x5_1 ++ [a0.extract (x6_1 : Int).toNat (x7_1 : Int).toNat]) := ⟨_,rfl⟩
   replace H : (spec_Parts.l0 k1 a0 a1 y108 (wrap64 (x7_1 + 1)) (wrap64 (x7_1 + 1))) = some r := zR
   have Ny108 := Aside0.mk hyy
   clear hyy
   have H' := Aside0.mk H
   clear H
   have p14 : 0 ≤ (x7_1 : Int) := of_decide_eq_true Z117
   have q14 : x7_1 < (a0.size : Int) := of_decide_eq_true Z117
   have hx14 := bt_at a0 x7_1
   replace p14 := eq_true p14
   replace q14 := eq_true q14
   go_wp2_with (first | ((with_reducible refine gate_builtin (b := .append) (xs := #[.tmp 26,.tmp 31]) rfl ?_);at_builtin;refine Kd.R_append Kd.string (w0 := w) w.heap.size rfl (.tmp 26) (.tmp 31) 35 9 (.string ⟨#[]⟩) 16 rfl Tryd.underlying35 info9 rfl Z180 Z134 u5 x5_1 (a0.extract (x6_1 : Int).toNat (x7_1 : Int).toNat) [.string (a0.extract (x6_1 : Int).toNat (x7_1 : Int).toNat)] (fun _ => True) (fun _ => False) rfl rfl ?aP (fun _ hk => hk.elim) ?aF ?aO ?aB ?aS ?aL ?_;(case aP => exact rfl);(case aB => exact Z85);(case aF => exact Z128);(case aO => exact Z91);(case aS => exact Z80);(case aL => have := LMc19.out;omega);intro v109 w20 ho hb hg hat;rw [← Ny108.out] at ho;have n_ := jA (hb) (Aside0.mk (ho));clear HB HO_5;obtain ⟨HB,HO110⟩ := n_;clear ho hb hg hat))
   go_roundg k1
   case measure => have := HK1.out;omega
   case rel => exact ⟨(y108),(wrap64 (x7_1 + 1)),(wrap64 (x7_1 + 1)),Z118,Z118,H',⟨Z129⟩,⟨by (with_reducible repeat (first | apply Kd.R_alloc | apply Kd.R_drewN | apply Kd.R_drew));exact HO110.out⟩,⟨Z186⟩⟩

/-! ### spec_l8Words: function 22 -/
def spec_l8Words.f  : Option (List ByteArray) := some (([(⟨#[114,111,117,110,100,115]⟩ : ByteArray),(⟨#[100,101,112,116,104]⟩ : ByteArray),(⟨#[98,105,110,115]⟩ : ByteArray),(⟨#[108,97,109,98,100,97]⟩ : ByteArray),(⟨#[114,111,119,115]⟩ : ByteArray),(⟨#[114,97,116,101]⟩ : ByteArray),(⟨#[115,105,103,110,115]⟩ : ByteArray)] : List ByteArray))
set_option maxHeartbeats 8000000 in
set_option maxRecDepth 100000 in
theorem spec_l8Words.calls  (r : List ByteArray) (w : World) (h : spec_l8Words.f  = some r) :
  Calls Tryd.prog 22 #[] w fun e w' => ∃ v0_ : Value,e = .returned (v0_) ∧ Kd.R Kd.string 9 w' w.heap.size (fun _ => True) v0_ r ∧ Below w.heap.size w w' := by
 have HB := Aside0.mk (Below.refl w.heap.size w)
 have H := h
 clear h
 unfold spec_l8Words.f at H
 obtain ⟨y111,hyy⟩ : ∃ y_ : List ByteArray,y_ = (([(⟨#[114,111,117,110,100,115]⟩ : ByteArray),(⟨#[100,101,112,116,104]⟩ : ByteArray),(⟨#[98,105,110,115]⟩ : ByteArray),(⟨#[108,97,109,98,100,97]⟩ : ByteArray),(⟨#[114,111,119,115]⟩ : ByteArray),(⟨#[114,97,116,101]⟩ : ByteArray),(⟨#[115,105,103,110,115]⟩ : ByteArray)] : List ByteArray)) := ⟨_,rfl⟩
 replace H : (some y111) = some r := zR
 have Ny111 := Aside0.mk hyy
 clear hyy
 obtain rfl := Option.some.inj H
 go_enter Tryd.func22,Tryd.ntmps22
 go_wp2_with (first | ((with_reducible refine gate_dst (N := 1) rfl ?_);refine Kd.R_lit Kd.string _ 9 ?hg (N := 1) ?hd (xs := ([(⟨#[114,111,117,110,100,115]⟩ : ByteArray),(⟨#[100,101,112,116,104]⟩ : ByteArray),(⟨#[98,105,110,115]⟩ : ByteArray),(⟨#[108,97,109,98,100,97]⟩ : ByteArray),(⟨#[114,111,119,115]⟩ : ByteArray),(⟨#[114,97,116,101]⟩ : ByteArray),(⟨#[115,105,103,110,115]⟩ : ByteArray)] : List ByteArray)) (inner := [.string (⟨#[114,111,117,110,100,115]⟩ : ByteArray),.string (⟨#[100,101,112,116,104]⟩ : ByteArray),.string (⟨#[98,105,110,115]⟩ : ByteArray),.string (⟨#[108,97,109,98,100,97]⟩ : ByteArray),.string (⟨#[114,111,119,115]⟩ : ByteArray),.string (⟨#[114,97,116,101]⟩ : ByteArray),.string (⟨#[115,105,103,110,115]⟩ : ByteArray)]) (ok := fun _ => True) (okp := fun _ => True) ?hr ?hp (fun _ hk => hk) trivial (Below.refl _ _) (Nat.le_refl _) Z181 ?_;(case hd => rfl);(case hg => rfl);(case hr => exact Z119);(case hp => exact Z18);intro vq1 wq2 hoq3 hb hg_ hnew_;clear hg_ hnew_;(first | rw [← Ny111.out] at hoq3 | (simp only [Int.reduceToNat] at hoq3;rw [← Ny111.out] at hoq3));have n_ := Z30;clear HB;obtain ⟨HO113,HB⟩ := n_;clear hb hoq3))
 go_ret
 exact ⟨_,Z107,by (with_reducible repeat (first | apply Kd.R_alloc | apply Kd.R_drewN | apply Kd.R_drew));exact HO113.out,Z186⟩

/-! ### spec_l8Word: function 12 -/
def spec_l8Word.l0 : Nat → ByteArray → Int → Option (Int)
 | 0,_,_ => none
 | k + 1,x0,x3 => if x3 < 7 then ((spec_l8Words.f).bind fun t114 => (if 0 ≤ x3 then (if x3 < (t114.length : Int) then (if (rdOf ByteArray.empty t114 x3).toList = x0.toList then (some x3) else (spec_l8Word.l0 k x0 (wrap64 (x3 + 1)))) else (none)) else (none))) else (some (-1))
def spec_l8Word.f (k : Nat) (a0 : ByteArray) : Option (Int) := spec_l8Word.l0 k a0 0
theorem spec_l8Word.mono_l : ∀ k,(∀ y0 y1,LeO (spec_l8Word.l0 k y0 y1) (spec_l8Word.l0 (k + 1) y0 y1))
 | 0 => fun _ _ r h => by simp [spec_l8Word.l0] at h
 | k + 1 => by
  have ih0 := spec_l8Word.mono_l k
  ·intro y0 y1
   unfold spec_l8Word.l0
   repeat' first
   | (with_reducible exact ih0 _ _)
   | (with_reducible exact LeO.refl _)
   | (with_reducible exact LeO.none _)
   | (with_reducible refine LeO.ite ?_ ?_)
   | (with_reducible refine LeO.bind ?_ (fun _ => ?_))
   | exact ih0 _ _
   | exact LeO.none _
   | refine LeO.ite ?_ ?_
   | refine LeO.bind ?_ (fun _ => ?_)
theorem spec_l8Word.mono : ∀ a0 k,LeO (spec_l8Word.f k a0) (spec_l8Word.f (k + 1) a0) := by
 intro a0 k
 have ih0 := spec_l8Word.mono_l k
 unfold spec_l8Word.f
 repeat' first
   | (with_reducible exact ih0 _ _)
   | (with_reducible exact LeO.refl _)
   | (with_reducible exact LeO.none _)
   | (with_reducible refine LeO.ite ?_ ?_)
   | (with_reducible refine LeO.bind ?_ (fun _ => ?_))
   | exact ih0 _ _
   | exact LeO.none _
   | refine LeO.ite ?_ ?_
   | refine LeO.bind ?_ (fun _ => ?_)
set_option maxHeartbeats 8000000 in
set_option maxRecDepth 100000 in
theorem spec_l8Word.calls (k : Nat) (a0 : ByteArray) (r : Int) (w : World) (h : spec_l8Word.f k a0 = some r) :
  Calls Tryd.prog 12 #[.string a0] w fun e w' => e = .returned (.int .i64 r) ∧ Below w.heap.size w w' := by
 have HB := Aside0.mk (Below.refl w.heap.size w)
 have H := h
 clear h
 unfold spec_l8Word.f at H
 have H' := Aside0.mk H
 clear H
 go_enter Tryd.func12,Tryd.ntmps12
 go_wp2
 go_loopg [3] k (fun kq v3 w' => ∃ (x3_1 : Int),v3 = .int .i64 x3_1 ∧ Aside0 (spec_l8Word.l0 kq a0 x3_1 = some r) ∧ Aside0 (kq ≤ k) ∧ Aside0 (Below w.heap.size w w'))
 case atStart => exact ⟨(0),Z118,H',⟨Nat.le_refl _⟩,⟨Z186⟩⟩
 case round =>
  clear H'
  try clear c1
  obtain ⟨x3_1,rfl,HA,HK1,HB⟩ := hrel
  cases gk with
  | zero => exact absurd HA.out (by simp [spec_l8Word.l0])
  | succ k1 =>
   have H := HA.out
   clear HA
   simp only [spec_l8Word.l0] at H
   by_cases c2 : x3_1 < 7
   rotate_left
   ·rw [if_neg c2] at H
    have c2b0 : decide (x3_1 < 7) = false := decide_eq_false c2
    clear c2
    obtain rfl := Option.some.inj H
    go_wp2
    go_ret
    exact ⟨Z107,Z186⟩
   rw [if_pos c2] at H
   have c2b0 : decide (x3_1 < 7) = true := decide_eq_true c2
   clear c2
   obtain ⟨t114,A30,H⟩ := Option.bind_eq_some_iff.mp H
   have A3 := Aside0.mk A30
   clear A30
   obtain ⟨c4,H⟩ := ifp H
   have c4b0 : decide (0 ≤ x3_1) = true := decide_eq_true c4
   clear c4
   obtain ⟨c5,H⟩ := ifp H
   have c5b0 : decide (x3_1 < (t114.length : Int)) = true := decide_eq_true c5
   clear c5
   by_cases c6 : (rdOf ByteArray.empty t114 x3_1).toList = a0.toList
   ·rw [if_pos c6] at H
    have c6b0 : ((rdOf ByteArray.empty t114 x3_1).toList == a0.toList) = true := beq_iff_eq.mpr c6
    have c6b1 : ((rdOf ByteArray.empty t114 x3_1).toList != a0.toList) = false := bne_eq_false_iff_eq.mpr c6
    clear c6
    obtain rfl := Option.some.inj H
    go_wp2_with (first | ((with_reducible refine gate_callee (f := 22) rfl ?_);refine goesL_ (some 8) rfl rfl Tryd.func22 Z133 rfl #[] rfl Z87 ?_;(with_reducible refine (spec_l8Words.calls  t114 _ A3.out).mono ?_);rintro e wq1 ⟨vq2,rfl,hoq3,hb⟩;refine ⟨_,rfl,?_⟩;have n_ := Z30;clear HB;obtain ⟨HO116,HB⟩ := n_;(try clear hb);(try clear hb2);(try clear hk);(try clear hi);(try clear hoq3);obtain ⟨Aoq4,coq4,eoq4⟩ := Kd.R_slice HO116.out;subst eoq4;have pq5 : 0 ≤ (x3_1 : Int) := of_decide_eq_true Z117;have qq5 : x3_1 < (t114.length : Int) := of_decide_eq_true Z117;obtain ⟨adq5,eq5,hxq5_0⟩ := Kd.at_string (Kd.R_reads' HO116.out).2.2 x3_1 pq5 qq5;cases eq5;replace pq5 := eq_true pq5;replace qq5 := eq_true qq5))
    go_ret
    exact ⟨Z107,Z186⟩
   rw [if_neg c6] at H
   have c6b0 : ((rdOf ByteArray.empty t114 x3_1).toList == a0.toList) = false := beq_eq_false_iff_ne.mpr c6
   have c6b1 : ((rdOf ByteArray.empty t114 x3_1).toList != a0.toList) = true := bne_iff_ne.mpr c6
   have H' := Aside0.mk H
   clear H
   go_wp2_with (first | ((with_reducible refine gate_callee (f := 22) rfl ?_);refine goesL_ (some 8) rfl rfl Tryd.func22 Z133 rfl #[] rfl Z87 ?_;(with_reducible refine (spec_l8Words.calls  t114 _ A3.out).mono ?_);rintro e w9 ⟨v115,rfl,ho0,hb⟩;refine ⟨_,rfl,?_⟩;have n_ := Z31;clear HB;obtain ⟨HO116,HB⟩ := n_;(try clear hb);(try clear hb2);(try clear hk);(try clear hi);(try clear ho0);obtain ⟨Ao10,co10,eo10⟩ := Kd.R_slice HO116.out;subst eo10;have p117 : 0 ≤ (x3_1 : Int) := of_decide_eq_true Z117;have q117 : x3_1 < (t114.length : Int) := of_decide_eq_true Z117;obtain ⟨ad117,e117,hx117_0⟩ := Kd.at_string (Kd.R_reads' HO116.out).2.2 x3_1 p117 q117;cases e117;replace p117 := eq_true p117;replace q117 := eq_true q117))
   go_roundg k1
   case measure => have := HK1.out;omega
   case rel => exact ⟨(wrap64 (x3_1 + 1)),Z118,H',⟨Z129⟩,⟨Z186⟩⟩

/-! ### spec_l8Signs: function 23 -/
def spec_l8Signs.l0 : Nat → List Int → List ByteArray → Int → Option (List Int × Bool)
 | 0,_,_,_ => none
 | k + 1,x4,x5,x6 => if x6 < (x5.length : Int) then (if 0 ≤ x6 then (if (rdOf ByteArray.empty x5 x6).toList = ([43] : List UInt8) then (if x4.length < 17592186044416 then (spec_l8Signs.l0 k (x4 ++ [1]) x5 (wrap64 (x6 + 1))) else (none)) else (if (rdOf ByteArray.empty x5 x6).toList = ([48] : List UInt8) then (if x4.length < 17592186044416 then (spec_l8Signs.l0 k (x4 ++ [0]) x5 (wrap64 (x6 + 1))) else (none)) else (if (rdOf ByteArray.empty x5 x6).toList = ([45] : List UInt8) then (if x4.length < 17592186044416 then (spec_l8Signs.l0 k (x4 ++ [(-1)]) x5 (wrap64 (x6 + 1))) else (none)) else (some ((([] : List Int)),false))))) else (none)) else (some (x4,true))
def spec_l8Signs.f (k : Nat) (a0 : ByteArray) : Option (List Int × Bool) := (some (([] : List Int) : List Int)).bind fun y118 => ((spec_Parts.f k a0 44).bind fun t121 => (if (t121.length : Int) > 4 then (some (y118,false)) else (spec_l8Signs.l0 k y118 t121 0)))
theorem spec_l8Signs.mono_l : ∀ k,(∀ y0 y1 y2,LeO (spec_l8Signs.l0 k y0 y1 y2) (spec_l8Signs.l0 (k + 1) y0 y1 y2))
 | 0 => fun _ _ _ r h => by simp [spec_l8Signs.l0] at h
 | k + 1 => by
  have ih0 := spec_l8Signs.mono_l k
  ·intro y0 y1 y2
   unfold spec_l8Signs.l0
   repeat' first
   | (with_reducible exact ih0 _ _ _)
   | (with_reducible exact spec_Parts.mono _ _ _)
   | (with_reducible exact LeO.refl _)
   | (with_reducible exact LeO.none _)
   | (with_reducible refine LeO.ite ?_ ?_)
   | (with_reducible refine LeO.bind ?_ (fun _ => ?_))
   | exact ih0 _ _ _
   | exact spec_Parts.mono _ _ _
   | exact LeO.none _
   | refine LeO.ite ?_ ?_
   | refine LeO.bind ?_ (fun _ => ?_)
theorem spec_l8Signs.mono : ∀ a0 k,LeO (spec_l8Signs.f k a0) (spec_l8Signs.f (k + 1) a0) := by
 intro a0 k
 have ih0 := spec_l8Signs.mono_l k
 unfold spec_l8Signs.f
 repeat' first
   | (with_reducible exact ih0 _ _ _)
   | (with_reducible exact spec_Parts.mono _ _ _)
   | (with_reducible exact LeO.refl _)
   | (with_reducible exact LeO.none _)
   | (with_reducible refine LeO.ite ?_ ?_)
   | (with_reducible refine LeO.bind ?_ (fun _ => ?_))
   | exact ih0 _ _ _
   | exact spec_Parts.mono _ _ _
   | exact LeO.none _
   | refine LeO.ite ?_ ?_
   | refine LeO.bind ?_ (fun _ => ?_)
set_option maxHeartbeats 8000000 in
set_option maxRecDepth 100000 in
theorem spec_l8Signs.calls (k : Nat) (a0 : ByteArray) (r1 : List Int) (r2 : Bool) (w : World) (h : spec_l8Signs.f k a0 = some (r1,r2)) :
  Calls Tryd.prog 23 #[.string a0] w fun e w' => ∃ v0_ : Value,e = .returned (.tuple #[v0_,.bool r2]) ∧ Kd.R (Kd.int .i64) 3 w' w.heap.size (fun _ => True) v0_ r1 ∧ Below w.heap.size w w' := by
 have HB := Aside0.mk (Below.refl w.heap.size w)
 have H := h
 clear h
 unfold spec_l8Signs.f at H
 obtain ⟨y118,hyy⟩ : ∃ y_ : List Int,y_ = (([] : List Int)) := ⟨_,rfl⟩
 replace H : ((spec_Parts.f k a0 44).bind fun t121 => (if (t121.length : Int) > 4 then (some (y118,false)) else (spec_l8Signs.l0 k y118 t121 0))) = some (r1,r2) := zR
 have Ny118 := Aside0.mk hyy
 clear hyy
 obtain ⟨t121,A20,H⟩ := Option.bind_eq_some_iff.mp H
 have A2 := Aside0.mk A20
 clear A20
 by_cases c3 : (t121.length : Int) > 4
 ·rw [if_pos c3] at H
  have c3b0 : decide (4 < (t121.length : Int)) = true := decide_eq_true c3
  have c3b1 : decide (4 < t121.length) = true := decide_eq_true Z134
  clear c3
  simp only [Option.some.injEq,Prod.mk.injEq] at H
  obtain ⟨rfl,rfl⟩ := H
  go_enter Tryd.func23,Tryd.ntmps23
  go_wp2_with (first | ((with_reducible refine gate_dst (N := 7) rfl ?_);refine Kd.R_lit (Kd.int .i64) _ 3 ?hg (N := 7) ?hd (xs := ([] : List Int)) (inner := []) (ok := fun _ => True) (okp := fun _ => True) ?hr ?hp (fun _ hk => hk) trivial (Below.refl _ _) (Nat.le_refl _) Z181 ?_;(case hd => rfl);(case hg => rfl);(case hr => exact Z119);(case hp => exact Z130);intro vq1 wq2 hoq3 hb hg_ hnew_;clear hg_ hnew_;(first | rw [← Ny118.out] at hoq3 | (simp only [Int.reduceToNat] at hoq3;rw [← Ny118.out] at hoq3));have n_ := Z30;clear HB;obtain ⟨HO120,HB⟩ := n_;clear hb hoq3) | ((with_reducible refine gate_callee (f := 11) rfl ?_);refine goesL_ (some 9) rfl rfl Tryd.func11 Z133 rfl #[.string a0,.int .u8 44] rfl Z87 ?_;(with_reducible refine (spec_Parts.calls k a0 44 t121 _ A2.out).mono ?_);rintro e wq4 ⟨vq5,rfl,hoq6,hb⟩;refine ⟨_,rfl,?_⟩;have n_ := jA (Kd.R_below Z98 hb) (jA (Kd.R_lower hoq6 (below_size Z186)) (Aside0.mk (below_step Z186 hb)));clear HO120 HB;obtain ⟨HO120,HO123,HB⟩ := n_;(try clear hb);(try clear hb2);(try clear hk);(try clear hi);(try clear hoq6);obtain ⟨Aoq7,coq7,eoq7⟩ := Kd.R_slice HO123.out;subst eoq7))
  go_ret2
  exact ⟨_,Z107,Z98,Z186⟩
 rw [if_neg c3] at H
 have c3b0 : decide (4 < (t121.length : Int)) = false := decide_eq_false c3
 have c3b1 : decide (4 < t121.length) = false := decide_eq_false Z134
 clear c3
 have H' := Aside0.mk H
 clear H
 go_enter Tryd.func23,Tryd.ntmps23
 go_wp2_with (first | ((with_reducible refine gate_dst (N := 7) rfl ?_);refine Kd.R_lit (Kd.int .i64) _ 3 ?hg (N := 7) ?hd (xs := ([] : List Int)) (inner := []) (ok := fun _ => True) (okp := fun _ => True) ?hr ?hp (fun _ hk => hk) trivial (Below.refl _ _) (Nat.le_refl _) Z181 ?_;(case hd => rfl);(case hg => rfl);(case hr => exact Z119);(case hp => exact Z130);intro v119 w8 ho9 hb hg_ hnew_;clear hg_ hnew_;(first | rw [← Ny118.out] at ho9 | (simp only [Int.reduceToNat] at ho9;rw [← Ny118.out] at ho9));have n_ := Z32;clear HB;obtain ⟨HO120,HB⟩ := n_;clear hb ho9) | ((with_reducible refine gate_callee (f := 11) rfl ?_);refine goesL_ (some 9) rfl rfl Tryd.func11 Z133 rfl #[.string a0,.int .u8 44] rfl Z87 ?_;(with_reducible refine (spec_Parts.calls k a0 44 t121 _ A2.out).mono ?_);rintro e w10 ⟨v122,rfl,ho0,hb⟩;refine ⟨_,rfl,?_⟩;have n_ := jA (Kd.R_below Z98 hb) (jA (Kd.R_lower ho0 (below_size Z186)) (Aside0.mk (below_step Z186 hb)));clear HO120 HB;obtain ⟨HO120,HO123,HB⟩ := n_;(try clear hb);(try clear hb2);(try clear hk);(try clear hi);(try clear ho0);obtain ⟨Ao11,co11,eo11⟩ := Kd.R_slice HO123.out;subst eo11))
 go_loopg [4,6] k (fun kq v4 v6 w' => ∃ (x4_1 : List Int) (x6_1 : Int),v6 = .int .i64 x6_1 ∧ Aside0 (spec_l8Signs.l0 kq x4_1 t121 x6_1 = some (r1,r2)) ∧ Aside0 (kq ≤ k) ∧ Aside0 (Kd.R (Kd.int .i64) 3 w' w.heap.size (fun _ => True) v4 x4_1) ∧ Aside0 (Kd.R Kd.string 9 w' w.heap.size (fun _ => True) (.slice Ao11 t121.length co11) t121) ∧ Aside0 (Below w.heap.size w w'))
 case atStart => exact ⟨(y118),(0),Z118,H',⟨Nat.le_refl _⟩,⟨Z98⟩,⟨by (with_reducible repeat (first | apply Kd.R_alloc | apply Kd.R_drewN | apply Kd.R_drew));exact HO123.out⟩,⟨Z186⟩⟩
 case round =>
  clear H'
  try clear c1
  try clear c2
  try clear p2
  try clear c3
  try clear c3b0
  try clear c3b1
  try clear c11
  obtain ⟨x4_1,x6_1,rfl,HA,HK1,HO_4,HO_5,HB⟩ := hrel
  cases gk with
  | zero => exact absurd HA.out (by simp [spec_l8Signs.l0])
  | succ k1 =>
   have H := HA.out
   clear HA
   simp only [spec_l8Signs.l0] at H
   by_cases c12 : x6_1 < (t121.length : Int)
   rotate_left
   ·rw [if_neg c12] at H
    have c12b0 : decide (x6_1 < (t121.length : Int)) = false := decide_eq_false c12
    clear c12
    simp only [Option.some.injEq,Prod.mk.injEq] at H
    obtain ⟨rfl,rfl⟩ := H
    go_wp2
    go_ret2
    exact ⟨_,Z107,Z168,Z186⟩
   rw [if_pos c12] at H
   have c12b0 : decide (x6_1 < (t121.length : Int)) = true := decide_eq_true c12
   clear c12
   obtain ⟨c13,H⟩ := ifp H
   have c13b0 : decide (0 ≤ x6_1) = true := decide_eq_true c13
   clear c13
   by_cases c14 : (rdOf ByteArray.empty t121 x6_1).toList = ([43] : List UInt8)
   ·rw [if_pos c14] at H
    have c14b0 : ((rdOf ByteArray.empty t121 x6_1).toList == ([43] : List UInt8)) = true := beq_iff_eq.mpr c14
    have c14b1 : ((rdOf ByteArray.empty t121 x6_1).toList != ([43] : List UInt8)) = false := bne_eq_false_iff_eq.mpr c14
    clear c14
    obtain ⟨c15,H⟩ := ifp H
    have LMc15 := Aside0.mk c15
    clear c15
    obtain ⟨y125,hyy⟩ : ∃ y_ : List Int,y_ = (x4_1 ++ [1]) := ⟨_,rfl⟩
    replace H : (spec_l8Signs.l0 k1 y125 t121 (wrap64 (x6_1 + 1))) = some (r1,r2) := zR
    have Ny125 := Aside0.mk hyy
    clear hyy
    have H' := Aside0.mk H
    clear H
    have p124 : 0 ≤ (x6_1 : Int) := of_decide_eq_true Z117
    have q124 : x6_1 < (t121.length : Int) := of_decide_eq_true Z117
    obtain ⟨ad124,e124,hx124_0⟩ := Kd.at_string (Kd.R_reads' HO_5.out).2.2 x6_1 p124 q124
    cases e124
    replace p124 := eq_true p124
    replace q124 := eq_true q124
    go_wp2_with (first | ((with_reducible refine gate_builtin (b := .append) (xs := #[.tmp 27,.tmp 28]) rfl ?_);at_builtin;refine Kd.R_append (Kd.int .i64) (w0 := w) w.heap.size rfl (.tmp 27) (.tmp 28) 22 3 (.int .i64 0) 8 rfl Tryd.underlying22 info3 rfl Z180 Z134 u4 x4_1 1 [.int .i64 1] (fun _ => True) (fun _ => False) rfl rfl ?aP (fun _ hk => hk.elim) ?aF ?aO ?aB ?aS ?aL ?_;(case aP => exact rfl);(case aB => exact Z85);(case aF => exact Z128);(case aO => exact Z90);(case aS => exact Z80);(case aL => have := LMc15.out;omega);intro v126 w16 ho hb hg hat;rw [← Ny125.out] at ho;have n_ := Z38;clear HO_5 HB HO_4;obtain ⟨HO_5,HB,HO127⟩ := n_;clear ho hb hg hat))
    go_roundg k1
    case measure => have := HK1.out;omega
    case rel => exact ⟨(y125),(wrap64 (x6_1 + 1)),Z118,H',⟨Z129⟩,⟨by (with_reducible repeat (first | apply Kd.R_alloc | apply Kd.R_drewN | apply Kd.R_drew));exact HO127.out⟩,⟨Z166⟩,⟨Z186⟩⟩
   rw [if_neg c14] at H
   have c14b0 : ((rdOf ByteArray.empty t121 x6_1).toList == ([43] : List UInt8)) = false := beq_eq_false_iff_ne.mpr c14
   have c14b1 : ((rdOf ByteArray.empty t121 x6_1).toList != ([43] : List UInt8)) = true := bne_iff_ne.mpr c14
   by_cases c17 : (rdOf ByteArray.empty t121 x6_1).toList = ([48] : List UInt8)
   ·rw [if_pos c17] at H
    have c17b0 : ((rdOf ByteArray.empty t121 x6_1).toList == ([48] : List UInt8)) = true := beq_iff_eq.mpr c17
    have c17b1 : ((rdOf ByteArray.empty t121 x6_1).toList != ([48] : List UInt8)) = false := bne_eq_false_iff_eq.mpr c17
    clear c17
    obtain ⟨c18,H⟩ := ifp H
    have LMc18 := Aside0.mk c18
    clear c18
    obtain ⟨y128,hyy⟩ : ∃ y_ : List Int,y_ = (x4_1 ++ [0]) := ⟨_,rfl⟩
    replace H : (spec_l8Signs.l0 k1 y128 t121 (wrap64 (x6_1 + 1))) = some (r1,r2) := zR
    have Ny128 := Aside0.mk hyy
    clear hyy
    have H' := Aside0.mk H
    clear H
    have p124 : 0 ≤ (x6_1 : Int) := of_decide_eq_true Z117
    have q124 : x6_1 < (t121.length : Int) := of_decide_eq_true Z117
    obtain ⟨ad124,e124,hx124_0⟩ := Kd.at_string (Kd.R_reads' HO_5.out).2.2 x6_1 p124 q124
    cases e124
    replace p124 := eq_true p124
    replace q124 := eq_true q124
    go_wp2_with (first | ((with_reducible refine gate_builtin (b := .append) (xs := #[.tmp 32,.tmp 33]) rfl ?_);at_builtin;refine Kd.R_append (Kd.int .i64) (w0 := w) w.heap.size rfl (.tmp 32) (.tmp 33) 22 3 (.int .i64 0) 8 rfl Tryd.underlying22 info3 rfl Z180 Z134 u4 x4_1 0 [.int .i64 0] (fun _ => True) (fun _ => False) rfl rfl ?aP (fun _ hk => hk.elim) ?aF ?aO ?aB ?aS ?aL ?_;(case aP => exact rfl);(case aB => exact Z85);(case aF => exact Z128);(case aO => exact Z90);(case aS => exact Z80);(case aL => have := LMc18.out;omega);intro v129 w19 ho hb hg hat;rw [← Ny128.out] at ho;have n_ := Z38;clear HO_5 HB HO_4;obtain ⟨HO_5,HB,HO130⟩ := n_;clear ho hb hg hat))
    go_roundg k1
    case measure => have := HK1.out;omega
    case rel => exact ⟨(y128),(wrap64 (x6_1 + 1)),Z118,H',⟨Z129⟩,⟨by (with_reducible repeat (first | apply Kd.R_alloc | apply Kd.R_drewN | apply Kd.R_drew));exact HO130.out⟩,⟨Z166⟩,⟨Z186⟩⟩
   rw [if_neg c17] at H
   have c17b0 : ((rdOf ByteArray.empty t121 x6_1).toList == ([48] : List UInt8)) = false := beq_eq_false_iff_ne.mpr c17
   have c17b1 : ((rdOf ByteArray.empty t121 x6_1).toList != ([48] : List UInt8)) = true := bne_iff_ne.mpr c17
   by_cases c20 : (rdOf ByteArray.empty t121 x6_1).toList = ([45] : List UInt8)
   rotate_left
   ·rw [if_neg c20] at H
    have c20b0 : ((rdOf ByteArray.empty t121 x6_1).toList == ([45] : List UInt8)) = false := beq_eq_false_iff_ne.mpr c20
    have c20b1 : ((rdOf ByteArray.empty t121 x6_1).toList != ([45] : List UInt8)) = true := bne_iff_ne.mpr c20
    obtain ⟨y134,hyy⟩ : ∃ y_ : List Int,y_ = (([] : List Int)) := ⟨_,rfl⟩
    replace H : (some (y134,false)) = some (r1,r2) := zR
    have Ny134 := Aside0.mk hyy
    clear hyy
    simp only [Option.some.injEq,Prod.mk.injEq] at H
    obtain ⟨rfl,rfl⟩ := H
    have p124 : 0 ≤ (x6_1 : Int) := of_decide_eq_true Z117
    have q124 : x6_1 < (t121.length : Int) := of_decide_eq_true Z117
    obtain ⟨ad124,e124,hx124_0⟩ := Kd.at_string (Kd.R_reads' HO_5.out).2.2 x6_1 p124 q124
    cases e124
    replace p124 := eq_true p124
    replace q124 := eq_true q124
    go_wp2_with (first | ((with_reducible refine gate_dst (N := 24) rfl ?_);refine Kd.R_lit (Kd.int .i64) _ 3 ?hg (N := 24) ?hd (xs := ([] : List Int)) (inner := []) (ok := fun _ => True) (okp := fun _ => True) ?hr ?hp (fun _ hk => hk) trivial (Below.refl _ _) (Nat.le_refl _) Z181 ?_;(case hd => rfl);(case hg => rfl);(case hr => exact Z119);(case hp => exact Z130);intro vq1 wq2 hoq3 hb hg_ hnew_;clear hg_ hnew_;(first | rw [← Ny134.out] at hoq3 | (simp only [Int.reduceToNat] at hoq3;rw [← Ny134.out] at hoq3));have n_ := jA (Kd.R_elder' Z168 (Kd.R_base hoq3) hb) (jA (Kd.R_below Z166 hb) (jA (Kd.R_lower (Kd.R_new' hoq3 (Kd.R_lt Z168)) (below_size Z186)) (Aside0.mk (below_step Z186 hb))));clear HO_4 HO_5 HB;obtain ⟨HO_4,HO_5,HO136,HB⟩ := n_;clear hb hoq3))
    go_ret2
    exact ⟨_,Z107,by (with_reducible repeat (first | apply Kd.R_alloc | apply Kd.R_drewN | apply Kd.R_drew));exact Kd.R_mono HO136.out (fun _ hk => trivial),Z186⟩
   rw [if_pos c20] at H
   have c20b0 : ((rdOf ByteArray.empty t121 x6_1).toList == ([45] : List UInt8)) = true := beq_iff_eq.mpr c20
   have c20b1 : ((rdOf ByteArray.empty t121 x6_1).toList != ([45] : List UInt8)) = false := bne_eq_false_iff_eq.mpr c20
   clear c20
   obtain ⟨c21,H⟩ := ifp H
   have LMc21 := Aside0.mk c21
   clear c21
   obtain ⟨y131,hyy⟩ : ∃ y_ : List Int,y_ = (x4_1 ++ [(-1)]) := ⟨_,rfl⟩
   replace H : (spec_l8Signs.l0 k1 y131 t121 (wrap64 (x6_1 + 1))) = some (r1,r2) := zR
   have Ny131 := Aside0.mk hyy
   clear hyy
   have H' := Aside0.mk H
   clear H
   have p124 : 0 ≤ (x6_1 : Int) := of_decide_eq_true Z117
   have q124 : x6_1 < (t121.length : Int) := of_decide_eq_true Z117
   obtain ⟨ad124,e124,hx124_0⟩ := Kd.at_string (Kd.R_reads' HO_5.out).2.2 x6_1 p124 q124
   cases e124
   replace p124 := eq_true p124
   replace q124 := eq_true q124
   go_wp2_with (first | ((with_reducible refine gate_builtin (b := .append) (xs := #[.tmp 37,.tmp 38]) rfl ?_);at_builtin;refine Kd.R_append (Kd.int .i64) (w0 := w) w.heap.size rfl (.tmp 37) (.tmp 38) 22 3 (.int .i64 0) 8 rfl Tryd.underlying22 info3 rfl Z180 Z134 u4 x4_1 (-1) [.int .i64 (-1)] (fun _ => True) (fun _ => False) rfl rfl ?aP (fun _ hk => hk.elim) ?aF ?aO ?aB ?aS ?aL ?_;(case aP => exact rfl);(case aB => exact Z85);(case aF => exact Z128);(case aO => exact Z90);(case aS => exact Z80);(case aL => have := LMc21.out;omega);intro v132 w22 ho hb hg hat;rw [← Ny131.out] at ho;have n_ := Z38;clear HO_5 HB HO_4;obtain ⟨HO_5,HB,HO133⟩ := n_;clear ho hb hg hat))
   go_roundg k1
   case measure => have := HK1.out;omega
   case rel => exact ⟨(y131),(wrap64 (x6_1 + 1)),Z118,H',⟨Z129⟩,⟨by (with_reducible repeat (first | apply Kd.R_alloc | apply Kd.R_drewN | apply Kd.R_drew));exact HO133.out⟩,⟨Z166⟩,⟨Z186⟩⟩

/-! ### spec_l1In: function 26 -/
def spec_l1In.f (a0 : Int) (a1 : Int) (a2 : Int) : Option (Bool) := if a0 ≥ a1 then (some (decide (a0 ≤ a2))) else (some false)
set_option maxHeartbeats 8000000 in
set_option maxRecDepth 100000 in
theorem spec_l1In.calls (a0 : Int) (a1 : Int) (a2 : Int) (r : Bool) (w : World) (h : spec_l1In.f a0 a1 a2 = some r) :
  Calls Tryd.prog 26 #[.int .i64 a0,.int .i64 a1,.int .i64 a2] w fun e w' => e = .returned (.bool r) ∧ Drawn0 w w' := by
 have H := h
 clear h
 unfold spec_l1In.f at H
 by_cases c4 : a0 ≥ a1
 ·rw [if_pos c4] at H
  have c4b0 : decide (a1 ≤ a0) = true := decide_eq_true c4
  clear c4
  obtain rfl := Option.some.inj H
  go_enter Tryd.func26,Tryd.ntmps26
  go_wp2
  go_ret
  exact ⟨Z118,Z112⟩
 rw [if_neg c4] at H
 have c4b0 : decide (a1 ≤ a0) = false := decide_eq_false c4
 clear c4
 obtain rfl := Option.some.inj H
 go_enter Tryd.func26,Tryd.ntmps26
 go_wp2
 go_ret
 exact ⟨Z118,Z112⟩

/-! ### spec_Digits: function 42 -/
def spec_Digits.l0 : Nat → Int → Bool → ByteArray → Option (ByteArray)
 | 0,_,_,_ => none
 | k + 1,x0,x3,x4 => if x0 = 0 then (if x3 = true then (if 1 + x4.size ≤ 9223372036854775807 then (some ((⟨#[45]⟩ : ByteArray) ++ x4)) else (none)) else (some x4)) else (if (Int.tmod x0 10) < 0 then ((some (([(wrap64 (48 + (wrap64 (-(Int.tmod x0 10))))) % 256] : List Int) : List Int)).bind fun y137 => (if (strOfNums y137).size + x4.size ≤ 9223372036854775807 then (spec_Digits.l0 k (wrap64 (Int.tdiv x0 10)) x3 ((strOfNums y137) ++ x4)) else (none))) else ((some (([(wrap64 (48 + (Int.tmod x0 10))) % 256] : List Int) : List Int)).bind fun y140 => (if (strOfNums y140).size + x4.size ≤ 9223372036854775807 then (spec_Digits.l0 k (wrap64 (Int.tdiv x0 10)) x3 ((strOfNums y140) ++ x4)) else (none))))
def spec_Digits.f (k : Nat) (a0 : Int) : Option (ByteArray) := if a0 = 0 then (some (⟨#[48]⟩ : ByteArray)) else (spec_Digits.l0 k a0 (decide (a0 < 0)) (⟨#[]⟩ : ByteArray))
theorem spec_Digits.mono_l : ∀ k,(∀ y0 y1 y2,LeO (spec_Digits.l0 k y0 y1 y2) (spec_Digits.l0 (k + 1) y0 y1 y2))
 | 0 => fun _ _ _ r h => by simp [spec_Digits.l0] at h
 | k + 1 => by
  have ih0 := spec_Digits.mono_l k
  ·intro y0 y1 y2
   unfold spec_Digits.l0
   repeat' first
   | (with_reducible exact ih0 _ _ _)
   | (with_reducible exact LeO.refl _)
   | (with_reducible exact LeO.none _)
   | (with_reducible refine LeO.ite ?_ ?_)
   | (with_reducible refine LeO.bind ?_ (fun _ => ?_))
   | exact ih0 _ _ _
   | exact LeO.none _
   | refine LeO.ite ?_ ?_
   | refine LeO.bind ?_ (fun _ => ?_)
theorem spec_Digits.mono : ∀ a0 k,LeO (spec_Digits.f k a0) (spec_Digits.f (k + 1) a0) := by
 intro a0 k
 have ih0 := spec_Digits.mono_l k
 unfold spec_Digits.f
 repeat' first
   | (with_reducible exact ih0 _ _ _)
   | (with_reducible exact LeO.refl _)
   | (with_reducible exact LeO.none _)
   | (with_reducible refine LeO.ite ?_ ?_)
   | (with_reducible refine LeO.bind ?_ (fun _ => ?_))
   | exact ih0 _ _ _
   | exact LeO.none _
   | refine LeO.ite ?_ ?_
   | refine LeO.bind ?_ (fun _ => ?_)
set_option maxHeartbeats 8000000 in
set_option maxRecDepth 100000 in
theorem spec_Digits.calls (k : Nat) (a0 : Int) (r : ByteArray) (w : World) (h : spec_Digits.f k a0 = some r) :
  Calls Tryd.prog 42 #[.int .i64 a0] w fun e w' => e = .returned (.string r) ∧ Below w.heap.size w w' := by
 have HB := Aside0.mk (Below.refl w.heap.size w)
 have H := h
 clear h
 unfold spec_Digits.f at H
 by_cases c2 : a0 = 0
 ·rw [if_pos c2] at H
  have c2b0 : (a0 == 0) = true := beq_iff_eq.mpr c2
  have c2b1 : (a0 != 0) = false := bne_eq_false_iff_eq.mpr c2
  clear c2
  obtain rfl := Option.some.inj H
  go_enter Tryd.func42,Tryd.ntmps42
  go_wp2
  go_ret
  exact ⟨Z107,Z186⟩
 rw [if_neg c2] at H
 have c2b0 : (a0 == 0) = false := beq_eq_false_iff_ne.mpr c2
 have c2b1 : (a0 != 0) = true := bne_iff_ne.mpr c2
 obtain ⟨b3, hb3⟩ : ∃ b : Bool, decide (a0 < 0) = b := ⟨_, rfl⟩
 rw [hb3] at H
 have H' := Aside0.mk H
 clear H
 go_enter Tryd.func42,Tryd.ntmps42
 go_wp2
 clear hb3
 go_loopg [0,4] k (fun kq v0 v4 w' => ∃ (x0_1 : Int) (x4_1 : ByteArray),v0 = .int .i64 x0_1 ∧ v4 = .string x4_1 ∧ Aside0 (spec_Digits.l0 kq x0_1 b3 x4_1 = some r) ∧ Aside0 (kq ≤ k) ∧ Aside0 (Below w.heap.size w w'))
 case atStart => exact ⟨(a0),((⟨#[]⟩ : ByteArray)),Z118,Z118,H',⟨Nat.le_refl _⟩,⟨Z186⟩⟩
 case round =>
  clear H'
  try clear c2
  try clear c2b0
  try clear c2b1
  try clear p2
  obtain ⟨x0_1,x4_1,rfl,rfl,HA,HK1,HB⟩ := hrel
  cases gk with
  | zero => exact absurd HA.out (by simp [spec_Digits.l0])
  | succ k1 =>
   have H := HA.out
   clear HA
   simp only [spec_Digits.l0] at H
   by_cases c3 : x0_1 = 0
   ·rw [if_pos c3] at H
    have c3b0 : (x0_1 == 0) = true := beq_iff_eq.mpr c3
    have c3b1 : (x0_1 != 0) = false := bne_eq_false_iff_eq.mpr c3
    clear c3
    by_cases c4 : b3 = true
    rotate_left
    ·rw [if_neg c4] at H
     have c4b0 : b3 = false := by simpa using c4
     clear c4
     subst c4b0
     skip
     obtain rfl := Option.some.inj H
     go_wp2
     go_ret
     exact ⟨Z107,Z186⟩
    rw [if_pos c4] at H
    subst c4
    skip
    obtain ⟨c5,H⟩ := ifp H
    have c5b0 := eq_true c5
    have c5b1 : decide (1 + x4_1.size ≤ 9223372036854775807) = true := decide_eq_true c5
    try have c5b2 : (9223372036854775807 < 1 + x4_1.size) = False := eq_false (Nat.not_lt.2 c5)
    obtain rfl := Option.some.inj H
    go_wp2
    go_ret
    exact ⟨Z107,Z186⟩
   rw [if_neg c3] at H
   have c3b0 : (x0_1 == 0) = false := beq_eq_false_iff_ne.mpr c3
   have c3b1 : (x0_1 != 0) = true := bne_iff_ne.mpr c3
   by_cases c6 : (Int.tmod x0_1 10) < 0
   ·rw [if_pos c6] at H
    have c6b0 : decide ((Int.tmod x0_1 10) < 0) = true := decide_eq_true c6
    clear c6
    obtain ⟨y137,hyy⟩ : ∃ y_ : List Int,y_ = (([(wrap64 (48 + (wrap64 (-(Int.tmod x0_1 10))))) % 256] : List Int)) := ⟨_,rfl⟩
    replace H : (if (strOfNums y137).size + x4_1.size ≤ 9223372036854775807 then (spec_Digits.l0 k1 (wrap64 (Int.tdiv x0_1 10)) b3 ((strOfNums y137) ++ x4_1)) else (none)) = some r := zR
    have Ny137 := Aside0.mk hyy
    clear hyy
    obtain ⟨c7,H⟩ := ifp H
    have c7b0 := eq_true c7
    have c7b1 : decide ((strOfNums y137).size + x4_1.size ≤ 9223372036854775807) = true := decide_eq_true c7
    try have c7b2 : (9223372036854775807 < (strOfNums y137).size + x4_1.size) = False := eq_false (Nat.not_lt.2 c7)
    have H' := Aside0.mk H
    clear H
    go_wp2_with (first | ((with_reducible refine gate_dst (N := 21) rfl ?_);refine Kd.R_lit (Kd.int .u8) _ 5 ?hg (N := 21) ?hd (xs := ([(wrap64 (48 + (wrap64 (-(Int.tmod x0_1 10))))) % 256] : List Int)) (inner := [.int .u8 ((wrap64 (48 + (wrap64 (-(Int.tmod x0_1 10))))) % 256)]) (ok := fun _ => True) (okp := fun _ => True) ?hr ?hp (fun _ hk => hk) trivial (Below.refl _ _) (Nat.le_refl _) Z181 ?_;(case hd => rfl);(case hg => rfl);(case hr => exact Z119);(case hp => exact (Reps.one (show Kd.M (Kd.int .u8) _ _ _ ((wrap64 (48 + (wrap64 (-(Int.tmod x0_1 10))))) % 256) [.int .u8 ((wrap64 (48 + (wrap64 (-(Int.tmod x0_1 10))))) % 256)] from rfl) (Reps.none _ _)));intro v138 w8 ho9 hb hg_ hnew_;clear hg_ hnew_;(first | rw [← Ny137.out] at ho9 | (simp only [Int.reduceToNat] at ho9;rw [← Ny137.out] at ho9));have n_ := Z32;clear HB;obtain ⟨HO139,HB⟩ := n_;clear hb ho9;have hcv10 := own_string (P := Tryd.prog) Tryd.underlying56 Tryd.underlying5 Tryd.underlying9 (Kd.own_of_R HO139.out)))
    go_roundg k1
    case measure => have := HK1.out;omega
    case rel => exact ⟨(wrap64 (Int.tdiv x0_1 10)),((strOfNums y137) ++ x4_1),Z118,Z118,H',⟨Z129⟩,⟨Z186⟩⟩
   rw [if_neg c6] at H
   have c6b0 : decide ((Int.tmod x0_1 10) < 0) = false := decide_eq_false c6
   clear c6
   obtain ⟨y140,hyy⟩ : ∃ y_ : List Int,y_ = (([(wrap64 (48 + (Int.tmod x0_1 10))) % 256] : List Int)) := ⟨_,rfl⟩
   replace H : (if (strOfNums y140).size + x4_1.size ≤ 9223372036854775807 then (spec_Digits.l0 k1 (wrap64 (Int.tdiv x0_1 10)) b3 ((strOfNums y140) ++ x4_1)) else (none)) = some r := zR
   have Ny140 := Aside0.mk hyy
   clear hyy
   obtain ⟨c11,H⟩ := ifp H
   have c11b0 := eq_true c11
   have c11b1 : decide ((strOfNums y140).size + x4_1.size ≤ 9223372036854775807) = true := decide_eq_true c11
   try have c11b2 : (9223372036854775807 < (strOfNums y140).size + x4_1.size) = False := eq_false (Nat.not_lt.2 c11)
   have H' := Aside0.mk H
   clear H
   go_wp2_with (first | ((with_reducible refine gate_dst (N := 21) rfl ?_);refine Kd.R_lit (Kd.int .u8) _ 5 ?hg (N := 21) ?hd (xs := ([(wrap64 (48 + (Int.tmod x0_1 10))) % 256] : List Int)) (inner := [.int .u8 ((wrap64 (48 + (Int.tmod x0_1 10))) % 256)]) (ok := fun _ => True) (okp := fun _ => True) ?hr ?hp (fun _ hk => hk) trivial (Below.refl _ _) (Nat.le_refl _) Z181 ?_;(case hd => rfl);(case hg => rfl);(case hr => exact Z119);(case hp => exact (Reps.one (show Kd.M (Kd.int .u8) _ _ _ ((wrap64 (48 + (Int.tmod x0_1 10))) % 256) [.int .u8 ((wrap64 (48 + (Int.tmod x0_1 10))) % 256)] from rfl) (Reps.none _ _)));intro v141 w12 ho13 hb hg_ hnew_;clear hg_ hnew_;(first | rw [← Ny140.out] at ho13 | (simp only [Int.reduceToNat] at ho13;rw [← Ny140.out] at ho13));have n_ := jA (Kd.R_lower ho13 (below_size Z186)) (Aside0.mk (below_step Z186 hb));clear HB;obtain ⟨HO142,HB⟩ := n_;clear hb ho13;have hcv14 := own_string (P := Tryd.prog) Tryd.underlying56 Tryd.underlying5 Tryd.underlying9 (Kd.own_of_R HO142.out)))
   go_roundg k1
   case measure => have := HK1.out;omega
   case rel => exact ⟨(wrap64 (Int.tdiv x0_1 10)),((strOfNums y140) ++ x4_1),Z118,Z118,H',⟨Z129⟩,⟨Z186⟩⟩

end Go.Proofs.YtepnbcdbagjmbacDoor.QFnExactReadConfig
