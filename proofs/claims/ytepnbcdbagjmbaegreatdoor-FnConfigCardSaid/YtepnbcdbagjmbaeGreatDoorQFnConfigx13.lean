/- The machine side of FnConfig: what each Go function that it reaches comes to. Conditions: none. -/
import Derived.Test.YtepnbcdbagjmbaeGreatDoorQFnConfigx0
import Derived.Test.YtepnbcdbagjmbaeGreatDoorQFnConfigx2
import Derived.Test.YtepnbcdbagjmbaeGreatDoorQFnConfigx3
import Derived.Test.YtepnbcdbagjmbaeGreatDoorQFnConfigx4
import Derived.Test.YtepnbcdbagjmbaeGreatDoorQFnConfigx8
import Derived.Test.YtepnbcdbagjmbaeGreatDoorQFnConfigx9
import Derived.Test.YtepnbcdbagjmbaeGreatDoorQFnConfigx10
import Derived.Test.YtepnbcdbagjmbaeGreatDoorQFnConfigx12
namespace Go.Proofs.YtepnbcdbagjmbaeGreatDoor.QFnConfig
open Go.RowKit Go.Proofs.YtepnbcdbagjmbaeGreatDoorW.PrintWords Go.Proofs.YtepnbcdbagjmbaeGreatDoorW.PrintLast Go.Proofs.YtepnbcdbagjmbaeGreatDoorW.PrintMore
attribute [local go_sem] max2_int min2_int max_two min_two max_three min_three max_four min_four   -- for this text's walks alone
set_option linter.unusedVariables false
set_option linter.unusedSimpArgs false

/-! ### spec_Parts: function 35 -/
def spec_Parts.l0 : Nat → ByteArray → Int → List ByteArray → Int → Int → Option (List ByteArray)
 | 0,_,_,_,_,_ => none
 | k + 1,x0,x1,x5,x6,x7 => if x7 ≤ (x0.size : Int) then (if x7 = (x0.size : Int) then (if 0 ≤ x6 then (if x6 ≤ x7 then (if x5.length < 8796093022208 then (spec_Parts.l0 k x0 x1 (x5 ++ [x0.extract (x6 : Int).toNat (x7 : Int).toNat]) (wrap64 (x7 + 1)) (wrap64 (x7 + 1))) else (none)) else (none)) else (none)) else (if 0 ≤ x7 then (if x7 < (x0.size : Int) then (if (bt x0 x7) = x1 then (if 0 ≤ x6 then (if x6 ≤ x7 then (if x5.length < 8796093022208 then (spec_Parts.l0 k x0 x1 (x5 ++ [x0.extract (x6 : Int).toNat (x7 : Int).toNat]) (wrap64 (x7 + 1)) (wrap64 (x7 + 1))) else (none)) else (none)) else (none)) else (spec_Parts.l0 k x0 x1 x5 x6 (wrap64 (x7 + 1)))) else (none)) else (none))) else (some x5)
def spec_Parts.f (k : Nat) (a0 : ByteArray) (a1 : Int) : Option (List ByteArray) := spec_Parts.l0 k a0 a1 (([] : List ByteArray)) 0 0
theorem spec_Parts.mono_l : ∀ k,(∀ y0 y1 y2 y3 y4,LeO (spec_Parts.l0 k y0 y1 y2 y3 y4) (spec_Parts.l0 (k + 1) y0 y1 y2 y3 y4))
 | 0 => fun _ _ _ _ _ r h => by simp [spec_Parts.l0] at h
 | k + 1 => by
  have ih0 := spec_Parts.mono_l k
  ·intro y0 y1 y2 y3 y4
   unfold spec_Parts.l0
   repeat' first
   | (with_reducible exact ih0 _ _ _ _ _)
   | (with_reducible exact LeO.refl _)
   | (with_reducible exact LeO.none _)
   | (with_reducible refine LeO.ite ?_ ?_)
   | (with_reducible refine LeO.bind ?_ (fun _ => ?_))
   | exact ih0 _ _ _ _ _
   | exact LeO.none _
   | refine LeO.ite ?_ ?_
   | refine LeO.bind ?_ (fun _ => ?_)
theorem spec_Parts.mono : ∀ a0 a1 k,LeO (spec_Parts.f k a0 a1) (spec_Parts.f (k + 1) a0 a1) := by
 intro a0 a1 k
 have ih0 := spec_Parts.mono_l k
 unfold spec_Parts.f
 repeat' first
   | (with_reducible exact ih0 _ _ _ _ _)
   | (with_reducible exact LeO.refl _)
   | (with_reducible exact LeO.none _)
   | (with_reducible refine LeO.ite ?_ ?_)
   | (with_reducible refine LeO.bind ?_ (fun _ => ?_))
   | exact ih0 _ _ _ _ _
   | exact LeO.none _
   | refine LeO.ite ?_ ?_
   | refine LeO.bind ?_ (fun _ => ?_)
set_option maxHeartbeats 8000000 in
set_option maxRecDepth 100000 in
theorem spec_Parts.calls (k : Nat) (a0 : ByteArray) (a1 : Int) (r : List ByteArray) (w : World) (h : spec_Parts.f k a0 a1 = some r) :
  Calls Tryz.prog 35 #[.string a0,.int .u8 a1] w fun e w' => ∃ v0_ : Value,e = .returned (v0_) ∧ Kd.R Kd.string 9 w' w.heap.size (fun _ => True) v0_ r ∧ Below w.heap.size w w' := by
 have HB := Aside0.mk (Below.refl w.heap.size w)
 have H := h
 clear h
 unfold spec_Parts.f at H
 obtain ⟨y450,hyy⟩ : ∃ y_ : List ByteArray,y_ = (([] : List ByteArray)) := ⟨_,rfl⟩
 replace H : (spec_Parts.l0 k a0 a1 y450 0 0) = some r := zR
 have Ny450 := Aside0.mk hyy
 clear hyy
 have H' := Aside0.mk H
 clear H
 go_enter Tryz.func35,Tryz.ntmps35
 go_wp2_with (first | ((with_reducible refine gate_dst (N := 8) rfl ?_);refine Kd.R_lit Kd.string _ 9 ?hg (N := 8) ?hd (xs := ([] : List ByteArray)) (inner := []) (ok := fun _ => True) (okp := fun _ => True) ?hr ?hp (fun _ hk => hk) trivial (Below.refl _ _) (Nat.le_refl _) Z286 ?_;(case hd => rfl);(case hg => rfl);(case hr => exact Z166);(case hp => exact Z185);intro v451 w3 ho4 hb hg_ hnew_;clear hg_ hnew_;(first | rw [← Ny450.out] at ho4 | (simp only [Int.reduceToNat] at ho4;rw [← Ny450.out] at ho4));have n_ := Z57;clear HB;obtain ⟨HO452,HB⟩ := n_;clear hb ho4))
 go_loopg [5,6,7] k (fun kq v5 v6 v7 w' => ∃ (x5_1 : List ByteArray) (x6_1 : Int) (x7_1 : Int),v6 = .int .i64 x6_1 ∧ v7 = .int .i64 x7_1 ∧ Aside0 (spec_Parts.l0 kq a0 a1 x5_1 x6_1 x7_1 = some r) ∧ Aside0 (kq ≤ k) ∧ Aside0 (Kd.R Kd.string 9 w' w.heap.size (fun _ => True) v5 x5_1) ∧ Aside0 (Below w.heap.size w w'))
 case atStart => exact ⟨(y450),(0),(0),Z165,Z165,H',⟨Nat.le_refl _⟩,⟨by (with_reducible repeat (first | apply Kd.R_alloc | apply Kd.R_drewN | apply Kd.R_drew));exact HO452.out⟩,⟨Z298⟩⟩
 case round =>
  clear H'
  try clear p2
  try clear c3
  obtain ⟨x5_1,x6_1,x7_1,rfl,rfl,HA,HK1,HO_5,HB⟩ := hrel
  cases gk with
  | zero => exact absurd HA.out (by simp [spec_Parts.l0])
  | succ k1 =>
   have H := HA.out
   clear HA
   simp only [spec_Parts.l0] at H
   by_cases c5 : x7_1 ≤ (a0.size : Int)
   rotate_left
   ·rw [if_neg c5] at H
    have c5b0 : decide (x7_1 ≤ (a0.size : Int)) = false := decide_eq_false c5
    clear c5
    obtain rfl := Option.some.inj H
    go_wp2
    go_ret
    exact ⟨_,Z152,Z267,Z298⟩
   rw [if_pos c5] at H
   have c5b0 : decide (x7_1 ≤ (a0.size : Int)) = true := decide_eq_true c5
   clear c5
   by_cases c6 : x7_1 = (a0.size : Int)
   ·rw [if_pos c6] at H
    have c6b0 : (x7_1 == (a0.size : Int)) = true := beq_iff_eq.mpr c6
    have c6b1 : (x7_1 != (a0.size : Int)) = false := bne_eq_false_iff_eq.mpr c6
    clear c6
    obtain ⟨c7,H⟩ := ifp H
    have c7b0 := eq_true c7
    have c7b1 : decide (0 ≤ x6_1) = true := decide_eq_true c7
    clear c7
    obtain ⟨c8,H⟩ := ifp H
    have c8b0 := eq_true c8
    have c8b1 : decide (x6_1 ≤ x7_1) = true := decide_eq_true c8
    clear c8
    have c9b0 := eq_true (of_decide_eq_true Z164 : x7_1 ≤ (a0.size : Int))
    obtain ⟨c10,H⟩ := ifp H
    have LMc10 := Aside0.mk c10
    clear c10
    obtain ⟨y453,hyy⟩ : ∃ y_ : List ByteArray,y_ = (x5_1 ++ [a0.extract (x6_1 : Int).toNat (x7_1 : Int).toNat]) := ⟨_,rfl⟩
    replace H : (spec_Parts.l0 k1 a0 a1 y453 (wrap64 (x7_1 + 1)) (wrap64 (x7_1 + 1))) = some r := zR
    have Ny453 := Aside0.mk hyy
    clear hyy
    have H' := Aside0.mk H
    clear H
    go_wp2_with (first | ((with_reducible refine gate_builtin (b := .append) (xs := #[.tmp 26,.tmp 31]) rfl ?_);at_builtin;refine Kd.R_append Kd.string (w0 := w) w.heap.size rfl (.tmp 26) (.tmp 31) 42 9 (.string ⟨#[]⟩) 16 rfl Tryz.underlying42 info9 rfl Z306 Z285 u5 x5_1 (a0.extract (x6_1 : Int).toNat (x7_1 : Int).toNat) [.string (a0.extract (x6_1 : Int).toNat (x7_1 : Int).toNat)] (fun _ => True) (fun _ => False) rfl rfl ?aP (fun _ hk => hk.elim) ?aF ?aO ?aB ?aS ?aL ?_;(case aP => exact rfl);(case aB => exact Z128);(case aF => exact Z183);(case aO => exact Z135);(case aS => exact Z126);(case aL => have := LMc10.out;omega);intro v454 w11 ho hb hg hat;rw [← Ny453.out] at ho;have n_ := jA (hb) (Aside0.mk (ho));clear HB HO_5;obtain ⟨HB,HO455⟩ := n_;clear ho hb hg hat))
    go_roundg k1
    case measure => have := HK1.out;omega
    case rel => exact ⟨(y453),(wrap64 (x7_1 + 1)),(wrap64 (x7_1 + 1)),Z165,Z165,H',⟨Z184⟩,⟨by (with_reducible repeat (first | apply Kd.R_alloc | apply Kd.R_drewN | apply Kd.R_drew));exact HO455.out⟩,⟨Z298⟩⟩
   rw [if_neg c6] at H
   have c6b0 : (x7_1 == (a0.size : Int)) = false := beq_eq_false_iff_ne.mpr c6
   have c6b1 : (x7_1 != (a0.size : Int)) = true := bne_iff_ne.mpr c6
   obtain ⟨c12,H⟩ := ifp H
   have c12b0 : decide (0 ≤ x7_1) = true := decide_eq_true c12
   clear c12
   obtain ⟨c13,H⟩ := ifp H
   have c13b0 : decide (x7_1 < (a0.size : Int)) = true := decide_eq_true c13
   clear c13
   by_cases c15 : (bt a0 x7_1) = a1
   rotate_left
   ·rw [if_neg c15] at H
    have c15b0 : ((bt a0 x7_1) == a1) = false := beq_eq_false_iff_ne.mpr c15
    have c15b1 : ((bt a0 x7_1) != a1) = true := bne_iff_ne.mpr c15
    have H' := Aside0.mk H
    clear H
    have p14 : 0 ≤ (x7_1 : Int) := of_decide_eq_true Z164
    have q14 : x7_1 < (a0.size : Int) := of_decide_eq_true Z164
    have hx14 := bt_at a0 x7_1
    replace p14 := eq_true p14
    replace q14 := eq_true q14
    go_wp2
    go_roundg k1
    case measure => have := HK1.out;omega
    case rel => exact ⟨(x5_1),(x6_1),(wrap64 (x7_1 + 1)),Z165,Z165,H',⟨Z184⟩,⟨Z267⟩,⟨Z298⟩⟩
   rw [if_pos c15] at H
   have c15b0 : ((bt a0 x7_1) == a1) = true := beq_iff_eq.mpr c15
   have c15b1 : ((bt a0 x7_1) != a1) = false := bne_eq_false_iff_eq.mpr c15
   clear c15
   obtain ⟨c16,H⟩ := ifp H
   have c16b0 := eq_true c16
   have c16b1 : decide (0 ≤ x6_1) = true := decide_eq_true c16
   clear c16
   obtain ⟨c17,H⟩ := ifp H
   have c17b0 := eq_true c17
   have c17b1 : decide (x6_1 ≤ x7_1) = true := decide_eq_true c17
   clear c17
   have c18b0 := eq_true (of_decide_eq_true Z164 : x7_1 ≤ (a0.size : Int))
   obtain ⟨c19,H⟩ := ifp H
   have LMc19 := Aside0.mk c19
   clear c19
   obtain ⟨y456,hyy⟩ : ∃ y_ : List ByteArray,y_ = (x5_1 ++ [a0.extract (x6_1 : Int).toNat (x7_1 : Int).toNat]) := ⟨_,rfl⟩
   replace H : (spec_Parts.l0 k1 a0 a1 y456 (wrap64 (x7_1 + 1)) (wrap64 (x7_1 + 1))) = some r := zR
   have Ny456 := Aside0.mk hyy
   clear hyy
   have H' := Aside0.mk H
   clear H
   have p14 : 0 ≤ (x7_1 : Int) := of_decide_eq_true Z164
   have q14 : x7_1 < (a0.size : Int) := of_decide_eq_true Z164
   have hx14 := bt_at a0 x7_1
   replace p14 := eq_true p14
   replace q14 := eq_true q14
   go_wp2_with (first | ((with_reducible refine gate_builtin (b := .append) (xs := #[.tmp 26,.tmp 31]) rfl ?_);at_builtin;refine Kd.R_append Kd.string (w0 := w) w.heap.size rfl (.tmp 26) (.tmp 31) 42 9 (.string ⟨#[]⟩) 16 rfl Tryz.underlying42 info9 rfl Z306 Z285 u5 x5_1 (a0.extract (x6_1 : Int).toNat (x7_1 : Int).toNat) [.string (a0.extract (x6_1 : Int).toNat (x7_1 : Int).toNat)] (fun _ => True) (fun _ => False) rfl rfl ?aP (fun _ hk => hk.elim) ?aF ?aO ?aB ?aS ?aL ?_;(case aP => exact rfl);(case aB => exact Z128);(case aF => exact Z183);(case aO => exact Z135);(case aS => exact Z126);(case aL => have := LMc19.out;omega);intro v457 w20 ho hb hg hat;rw [← Ny456.out] at ho;have n_ := jA (hb) (Aside0.mk (ho));clear HB HO_5;obtain ⟨HB,HO458⟩ := n_;clear ho hb hg hat))
   go_roundg k1
   case measure => have := HK1.out;omega
   case rel => exact ⟨(y456),(wrap64 (x7_1 + 1)),(wrap64 (x7_1 + 1)),Z165,Z165,H',⟨Z184⟩,⟨by (with_reducible repeat (first | apply Kd.R_alloc | apply Kd.R_drewN | apply Kd.R_drew));exact HO458.out⟩,⟨Z298⟩⟩

/-! ### spec_l8Lines: function 33 -/
def spec_l8Lines.f (k : Nat) (s0_0 : List Int) (s0_1 : Int) (s0_2 : Int) : Option (ByteArray × Int × Int) := (spec_l8Right.f k s0_0 s0_1 s0_2).bind fun bt459 => ((spec_ConfigText.f k bt459.1 bt459.2.1 bt459.2.2.1 bt459.2.2.2.1 bt459.2.2.2.2.1 bt459.2.2.2.2.2.1 bt459.2.2.2.2.2.2.1 bt459.2.2.2.2.2.2.2.1).bind fun t471 => ((spec_Parts.f k t471 10).bind fun t472 => ((spec_l1Below.f s0_0 bt459.2.2.2.2.2.2.2.2.1 bt459.2.2.2.2.2.2.2.2.2 5).bind fun bt475 => (if bt475.1 = 0 then ((spec_l1Below.f s0_0 bt475.2.1 bt475.2.2 (t472.length : Int)).bind fun bt478 => ((spec_l1Pick.f s0_0 bt478.2.1 bt478.2.2 (([(⟨#[114,111,117,110,100,115,61,57]⟩ : ByteArray),(⟨#[100,101,112,116,104,61,53]⟩ : ByteArray),(⟨#[98,105,110,115,61,49]⟩ : ByteArray),(⟨#[108,97,109,98,100,97,61,48]⟩ : ByteArray),(⟨#[114,111,119,115,61,120]⟩ : ByteArray),(⟨#[114,97,116,101,61,50,47,49]⟩ : ByteArray),(⟨#[114,97,116,101,61,49]⟩ : ByteArray),(⟨#[114,97,116,101,61,49,47,50,47,51]⟩ : ByteArray),(⟨#[115,105,103,110,115,61,43,44,120]⟩ : ByteArray),(⟨#[115,105,103,110,115,61]⟩ : ByteArray),(⟨#[115,105,103,110,115,61,43,44,43,44,48,44,48,44,45]⟩ : ByteArray),(⟨#[104,109,61,49]⟩ : ByteArray),(⟨#[104,109]⟩ : ByteArray),(⟨#[61]⟩ : ByteArray),(⟨#[114,111,117,110,100,115,61]⟩ : ByteArray),(⟨#[114,111,117,110,100,115,61,32,49]⟩ : ByteArray),(⟨#[114,97,116,101,61,48,47,49]⟩ : ByteArray),(⟨#[115,105,103,110,115,61,45,44,48]⟩ : ByteArray)] : List ByteArray))).bind fun bt484 => (if 0 ≤ bt478.1 then (if bt478.1 < (t472.length : Int) then ((spec_Joined.f k (t472.set (bt478.1 : Int).toNat bt484.1) (⟨#[10]⟩ : ByteArray)).bind fun t488 => (some (t488,bt484.2.1,bt484.2.2))) else (none)) else (none)))) else (if bt475.1 = 1 then ((spec_l1Below.f s0_0 bt475.2.1 bt475.2.2 (t472.length : Int)).bind fun bt489 => (if 0 ≤ bt489.1 then (if bt489.1 ≤ (t472.length : Int) then ((spec_Joined.f k (t472.drop (bt489.1 : Int).toNat) (⟨#[10]⟩ : ByteArray)).bind fun t496 => ((spec_Joined.f k (t472.take (bt489.1 : Int).toNat) (⟨#[10]⟩ : ByteArray)).bind fun t501 => (if t496.size + t501.size ≤ 9223372036854775807 then (some (t496 ++ t501,bt489.2.1,bt489.2.2)) else (none)))) else (none)) else (none))) else ((spec_Joined.f k t472 (⟨#[10]⟩ : ByteArray)).bind fun t502 => (some (t502,bt475.2.1,bt475.2.2))))))))
theorem spec_l8Lines.mono : ∀ a0 a1 a2 k,LeO (spec_l8Lines.f k a0 a1 a2) (spec_l8Lines.f (k + 1) a0 a1 a2) := by
 intro a0 a1 a2 k
 unfold spec_l8Lines.f
 repeat' first
   | (with_reducible exact spec_ConfigText.mono _ _ _ _ _ _ _ _ _)
   | (with_reducible exact spec_Joined.mono _ _ _)
   | (with_reducible exact spec_Parts.mono _ _ _)
   | (with_reducible exact spec_l8Right.mono _ _ _ _)
   | (with_reducible exact LeO.refl _)
   | (with_reducible exact LeO.none _)
   | (with_reducible refine LeO.ite ?_ ?_)
   | (with_reducible refine LeO.bind ?_ (fun _ => ?_))
   | exact spec_ConfigText.mono _ _ _ _ _ _ _ _ _
   | exact spec_Joined.mono _ _ _
   | exact spec_Parts.mono _ _ _
   | exact spec_l8Right.mono _ _ _ _
   | exact LeO.none _
   | refine LeO.ite ?_ ?_
   | refine LeO.bind ?_ (fun _ => ?_)
def spec_l8Lines.T8 : Bool × List (List Nat × List Nat) := (true,[([],[]),([],[]),([0,1],[0,1]),([2],[2]),([],[]),([],[]),([4,5],[4,5]),([6,3],[6]),([3,7],[3,7]),([8,7,0,1,2,3,4,5,6,7,8],[8])])
def spec_l8Lines.B8 : List Nat := [0,0,3,7,0,0,48,127,255,511]
theorem spec_l8Lines.tab8 : rtab .any (opsOf Tryz.f33 8) = spec_l8Lines.T8 := by kernel_rfl
theorem spec_l8Lines.bits8 : waitsOk spec_l8Lines.T8.2 spec_l8Lines.B8 = true := by kernel_rfl
set_option maxHeartbeats 8000000 in
set_option maxRecDepth 100000 in
theorem spec_l8Lines.calls (k : Nat) (g : Nat) (s0_0 : List Int) (s0_1 : Int) (s0_2 : Int) (r1 : ByteArray) (r2 : Int) (r3 : Int) (w0 w : World) (hI : IsS65 w0 w g s0_0 s0_1 s0_2) (hB : Below w0.heap.size w0 w) (h : spec_l8Lines.f k s0_0 s0_1 s0_2 = some (r1,r2,r3)) :
  Calls Tryz.prog 33 #[.pointer (some ⟨g,0,none⟩)] w fun e w' => e = .returned (.string r1) ∧ IsS65 w0 w' g s0_0 r2 r3 ∧ Below w0.heap.size w0 w' ∧ KeepBut w w' g none := by
 have HI0 := Aside0.mk hI
 have HK := Aside0.mk (KeepBut.refl w g none)
 have HL := Aside0.mk hB.size
 clear hI
 have HW0 := Aside0.mk hB.size
 have HB := Aside0.mk hB
 clear hB
 have H := h
 clear h
 unfold spec_l8Lines.f at H
 obtain ⟨⟨t459,t460,t461,t462,t463,t464,t465,t466,t469,t470⟩,A20,H⟩ := Option.bind_eq_some_iff.mp H
 try dsimp only at H
 have A2 := Aside0.mk A20
 clear A20
 obtain ⟨t471,A30,H⟩ := Option.bind_eq_some_iff.mp H
 have A3 := Aside0.mk A30
 clear A30
 obtain ⟨t472,A40,H⟩ := Option.bind_eq_some_iff.mp H
 have A4 := Aside0.mk A40
 clear A40
 obtain ⟨⟨t475,t476,t477⟩,A50,H⟩ := Option.bind_eq_some_iff.mp H
 try dsimp only at H
 have A5 := Aside0.mk A50
 clear A50
 by_cases c6 : t475 = 0
 rotate_left
 ·rw [if_neg c6] at H
  have c6b0 : (t475 == 0) = false := beq_eq_false_iff_ne.mpr c6
  have c6b1 : (t475 != 0) = true := bne_iff_ne.mpr c6
  by_cases c27 : t475 = 1
  rotate_left
  ·rw [if_neg c27] at H
   have c27b0 : (t475 == 1) = false := beq_eq_false_iff_ne.mpr c27
   have c27b1 : (t475 != 1) = true := bne_iff_ne.mpr c27
   obtain ⟨t502,A480,H⟩ := Option.bind_eq_some_iff.mp H
   have A48 := Aside0.mk A480
   clear A480
   simp only [Option.some.injEq,Prod.mk.injEq] at H
   obtain ⟨rfl,rfl,rfl⟩ := H
   go_enter Tryz.func33,Tryz.ntmps33
   go_wp2_with (first | ((with_reducible refine gate_callee (f := 43) rfl ?_);refine goesL_ (some 7) rfl rfl Tryz.func43 Z190 rfl #[.pointer (some ⟨g,0,none⟩)] rfl Z130 ?_;(with_reducible refine (spec_l8Right.calls k g s0_0 s0_1 s0_2 t459 t460 t461 t462 t463 t464 t465 t466 t469 t470 w0 _ ?side1 ?side2 A2.out).mono ?_);(case side1 => exact Z238);(case side2 => exact Z237);rintro e wq1 ⟨vq2,rfl,hoq3,hi,hb,hk⟩;refine ⟨_,rfl,?_⟩;have n_ := Z52;clear HK HB HI0;obtain ⟨HO468,HK,HB,HI0⟩ := n_;(try clear hb);(try clear hb2);(try clear hk);(try clear hi);(try clear hoq3);obtain ⟨Aoq4,coq4,eoq4⟩ := Kd.R_slice HO468.out;subst eoq4) | ((with_reducible refine gate_callee (f := 7) rfl ?_);refine goesL_ (some 8) rfl rfl Tryz.func7 Z190 rfl #[.agg #[.int .i64 t459,.int .i64 t460,.int .i64 t461,.int .i64 t462,.int .i64 t463,.int .i64 t464,.int .i64 t465,.slice Aoq4 t466.length coq4]] rfl Z130 ?_;(with_reducible refine (spec_ConfigText.calls k t459 t460 t461 t462 t463 t464 t465 _ _ t466 t471 _ ?side1 ?side2 A3.out).mono ?_);(case side1 => exact Z110);(case side2 => exact (Kd.R_reads' HO468.out).2.1);rintro e wq5 ⟨rfl,hb⟩;refine ⟨_,rfl,?_⟩;have n_ := Z41;clear HO468 HI0 HK HB;obtain ⟨HO468,HI0,HK,HB⟩ := n_;(try clear hb);(try clear hb2);(try clear hk);(try clear hi)) | ((with_reducible refine gate_callee (f := 35) rfl ?_);refine goesL_ (some 9) rfl rfl Tryz.func35 Z190 rfl #[.string t471,.int .u8 10] rfl Z130 ?_;(with_reducible refine (spec_Parts.calls k t471 10 t472 _ A4.out).mono ?_);rintro e wq6 ⟨vq7,rfl,hoq3,hb⟩;refine ⟨_,rfl,?_⟩;have n_ := Z32;clear HO468 HI0 HK HB;obtain ⟨HO468,HO474,HI0,HK,HB⟩ := n_;(try clear hb);(try clear hb2);(try clear hk);(try clear hi);(try clear hoq3)) | ((with_reducible refine gate_callee (f := 44) rfl ?_);refine goesL_ (some 11) rfl rfl Tryz.func44 Z190 rfl #[.pointer (some ⟨g,0,none⟩),.int .i64 5] rfl Z130 ?_;(with_reducible refine (spec_l1Below.calls g s0_0 t469 t470 5 t475 t476 t477 w0 _ ?side1 ?side2 A5.out).mono ?_);(case side1 => exact Z238);(case side2 => exact Z237);rintro e wq8 ⟨rfl,hi,hb,hk⟩;refine ⟨_,rfl,?_⟩;have n_ := Z29;clear HO468 HO474 HK HB HI0;obtain ⟨HO468,HO474,HK,HB,HI0⟩ := n_;(try clear hb);(try clear hb2);(try clear hk);(try clear hi);obtain ⟨Aoq9,coq9,eoq9⟩ := Kd.R_slice HO474.out;subst eoq9) | ((with_reducible refine gate_callee (f := 22) rfl ?_);refine goesL_ (some 40) rfl rfl Tryz.func22 Z190 rfl #[.slice Aoq9 t472.length coq9,.string (⟨#[10]⟩ : ByteArray)] rfl Z130 ?_;(with_reducible refine (spec_Joined.calls k _ _ t472 (⟨#[10]⟩ : ByteArray) t502 _ ?side1 ?side2 A48.out).mono ?_);(case side1 => exact Z113);(case side2 => exact (Kd.R_reads' HO474.out).2.1);rintro e wq10 ⟨rfl,hb⟩;refine ⟨_,rfl,?_⟩;have n_ := jA (Kd.R_below Z258 hb) (jA (Kd.R_below Z260 hb) (jA (IsS65.below Z238 hb) (jA (KeepBut.trans Z297 (KeepBut.of_below hb g none) (.inl rfl)) (Aside0.mk (below_step Z237 hb)))));clear HO468 HO474 HI0 HK HB;obtain ⟨HO468,HO474,HI0,HK,HB⟩ := n_;(try clear hb);(try clear hb2);(try clear hk);(try clear hi)))
   go_ret
   exact ⟨Z152,Z238,Z237,Z297⟩
  rw [if_pos c27] at H
  have c27b0 : (t475 == 1) = true := beq_iff_eq.mpr c27
  have c27b1 : (t475 != 1) = false := bne_eq_false_iff_eq.mpr c27
  clear c27
  obtain ⟨⟨t489,t490,t491⟩,A280,H⟩ := Option.bind_eq_some_iff.mp H
  try dsimp only at H
  have A28 := Aside0.mk A280
  clear A280
  obtain ⟨c29,H⟩ := ifp H
  have c29b0 := eq_true c29
  have c29b1 : decide (0 ≤ t489) = true := decide_eq_true c29
  clear c29
  obtain ⟨c30,H⟩ := ifp H
  have c30b0 := eq_true c30
  have c30b1 : decide (t489 ≤ (t472.length : Int)) = true := decide_eq_true c30
  clear c30
  obtain ⟨y492,hyy⟩ : ∃ y_ : List ByteArray,y_ = (t472.drop (t489 : Int).toNat) := ⟨_,rfl⟩
  replace H : ((spec_Joined.f k y492 (⟨#[10]⟩ : ByteArray)).bind fun t496 => ((spec_Joined.f k (t472.take (t489 : Int).toNat) (⟨#[10]⟩ : ByteArray)).bind fun t501 => (if t496.size + t501.size ≤ 9223372036854775807 then (some (t496 ++ t501,t490,t491)) else (none)))) = some (r1,r2,r3) := zR
  have Ny492 := Aside0.mk hyy
  clear hyy
  obtain ⟨t496,A310,H⟩ := Option.bind_eq_some_iff.mp H
  have A31 := Aside0.mk A310
  clear A310
  have c32b0 := eq_true (of_decide_eq_true Z164 : 0 ≤ t489)
  have c33b0 := eq_true (of_decide_eq_true Z164 : t489 ≤ (t472.length : Int))
  obtain ⟨y497,hyy⟩ : ∃ y_ : List ByteArray,y_ = (t472.take (t489 : Int).toNat) := ⟨_,rfl⟩
  replace H : ((spec_Joined.f k y497 (⟨#[10]⟩ : ByteArray)).bind fun t501 => (if t496.size + t501.size ≤ 9223372036854775807 then (some (t496 ++ t501,t490,t491)) else (none))) = some (r1,r2,r3) := zR
  have Ny497 := Aside0.mk hyy
  clear hyy
  obtain ⟨t501,A340,H⟩ := Option.bind_eq_some_iff.mp H
  have A34 := Aside0.mk A340
  clear A340
  obtain ⟨c35,H⟩ := ifp H
  have c35b0 := eq_true c35
  have c35b1 : decide (t496.size + t501.size ≤ 9223372036854775807) = true := decide_eq_true c35
  try have c35b2 : (9223372036854775807 < t496.size + t501.size) = False := eq_false (Nat.not_lt.2 c35)
  simp only [Option.some.injEq,Prod.mk.injEq] at H
  obtain ⟨rfl,rfl,rfl⟩ := H
  go_enter Tryz.func33,Tryz.ntmps33
  try go_wp2_with (first | ((with_reducible refine gate_callee (f := 43) rfl ?_);refine goesL_ (some 7) rfl rfl Tryz.func43 Z190 rfl #[.pointer (some ⟨g,0,none⟩)] rfl Z130 ?_;(with_reducible refine (spec_l8Right.calls k g s0_0 s0_1 s0_2 t459 t460 t461 t462 t463 t464 t465 t466 t469 t470 w0 _ ?side1 ?side2 A2.out).mono ?_);(case side1 => exact Z238);(case side2 => exact Z237);rintro e w36 ⟨v467,rfl,ho0,hi,hb,hk⟩;refine ⟨_,rfl,?_⟩;have n_ := jA (Kd.R_lower ho0 (keep_size (w := w) (g := g) (row := none) Z297)) (jA (KeepBut.trans Z297 hk (.inl rfl)) (jA (hb) (Aside0.mk (hi))));clear HK HB HI0;obtain ⟨HO468,HK,HB,HI0⟩ := n_;(try clear hb);(try clear hb2);(try clear hk);(try clear hi);(try clear ho0);obtain ⟨Ao37,co37,eo37⟩ := Kd.R_slice HO468.out;subst eo37) | ((with_reducible refine gate_callee (f := 7) rfl ?_);refine goesL_ (some 8) rfl rfl Tryz.func7 Z190 rfl #[.agg #[.int .i64 t459,.int .i64 t460,.int .i64 t461,.int .i64 t462,.int .i64 t463,.int .i64 t464,.int .i64 t465,.slice Ao37 t466.length co37]] rfl Z130 ?_;(with_reducible refine (spec_ConfigText.calls k t459 t460 t461 t462 t463 t464 t465 _ _ t466 t471 _ ?side1 ?side2 A3.out).mono ?_);(case side1 => exact Z110);(case side2 => exact (Kd.R_reads' HO468.out).2.1);rintro e w38 ⟨rfl,hb⟩;refine ⟨_,rfl,?_⟩;have n_ := Z41;clear HO468 HI0 HK HB;obtain ⟨HO468,HI0,HK,HB⟩ := n_;(try clear hb);(try clear hb2);(try clear hk);(try clear hi)) | ((with_reducible refine gate_callee (f := 35) rfl ?_);refine goesL_ (some 9) rfl rfl Tryz.func35 Z190 rfl #[.string t471,.int .u8 10] rfl Z130 ?_;(with_reducible refine (spec_Parts.calls k t471 10 t472 _ A4.out).mono ?_);rintro e w39 ⟨v473,rfl,ho0,hb⟩;refine ⟨_,rfl,?_⟩;have n_ := jA (Kd.R_below Z258 hb) (jA (Kd.R_lower ho0 (keep_size (w := w) (g := g) (row := none) Z297)) (jA (IsS65.below Z238 hb) (jA (KeepBut.trans Z297 (KeepBut.of_below hb g none) (.inl rfl)) (Aside0.mk (below_step Z237 hb)))));clear HO468 HI0 HK HB;obtain ⟨HO468,HO474,HI0,HK,HB⟩ := n_;(try clear hb);(try clear hb2);(try clear hk);(try clear hi);(try clear ho0)) | ((with_reducible refine gate_callee (f := 44) rfl ?_);refine goesL_ (some 11) rfl rfl Tryz.func44 Z190 rfl #[.pointer (some ⟨g,0,none⟩),.int .i64 5] rfl Z130 ?_;(with_reducible refine (spec_l1Below.calls g s0_0 t469 t470 5 t475 t476 t477 w0 _ ?side1 ?side2 A5.out).mono ?_);(case side1 => exact Z238);(case side2 => exact Z237);rintro e w40 ⟨rfl,hi,hb,hk⟩;refine ⟨_,rfl,?_⟩;have n_ := Z29;clear HO468 HO474 HK HB HI0;obtain ⟨HO468,HO474,HK,HB,HI0⟩ := n_;(try clear hb);(try clear hb2);(try clear hk);(try clear hi);obtain ⟨Ao41,co41,eo41⟩ := Kd.R_slice HO474.out;subst eo41) | ((with_reducible refine gate_callee (f := 44) rfl ?_);refine goesL_ (some 29) rfl rfl Tryz.func44 Z190 rfl #[.pointer (some ⟨g,0,none⟩),.int .i64 (t472.length : Int)] rfl Z130 ?_;(with_reducible refine (spec_l1Below.calls g s0_0 t476 t477 (t472.length : Int) t489 t490 t491 w0 _ ?side1 ?side2 A28.out).mono ?_);(case side1 => exact Z238);(case side2 => exact Z237);rintro e w42 ⟨rfl,hi,hb,hk⟩;refine ⟨_,rfl,?_⟩;have n_ := Z30;clear HO468 HO474 HK HB HI0;obtain ⟨HO468,HO474,HK,HB,HI0⟩ := n_;(try clear hb);(try clear hb2);(try clear hk);(try clear hi)))
  have n_ := jA (Kd.R_drew HO468.out) (jA (Kd.R_drew HO474.out) (jA (IsS65.drew HI0.out) (jA (keep_drew HK.out) (Aside0.mk (below_drew1 HB.out)))))
  clear HO468 HO474 HI0 HK HB
  obtain ⟨HO468,HO474,HI0,HK,HB⟩ := n_
  have q44 : (t489 : Int) ≤ ((t472.length : Int) : Int) := of_decide_eq_true Z164
  obtain ⟨i044,hi044,_,hsz44,_⟩ := info_parts info9
  have hroom44 : t472.length ≤ co41 := (Kd.R_reads' HO474.out).2.1
  have hC44 : Kd.C Kd.string _ Ao41 t472.length t472 := (Kd.R_reads' HO474.out).2.2
  have q044 : (0 : Int) ≤ (t489 : Int) := of_decide_eq_true Z164
  have hcut44 := cut_from (P := Tryz.prog) 42 9 .i64 Tryz.underlying42 hi044 1 hsz44 Ao41 t472.length co41 t489 q044 q44
  have hr44 := Kd.C_drop (m := (t489 : Int).toNat) (c := co41) hC44 Z285 hroom44
  obtain ⟨A44,hA44⟩ : ∃ A1,A1 = (if co41 = (t489 : Int).toNat then Ao41 else (Ao41 : Option Addr).map (·.add ((t489 : Int).toNat * 1))) := ⟨_,rfl⟩
  obtain ⟨c44,hc44⟩ : ∃ c1,c1 = co41 - (t489 : Int).toNat := ⟨_,rfl⟩
  have hy44 : y492.length = t472.length - (t489 : Int).toNat := (by rw [Ny492.out,List.length_drop] <;> omega)
  rw [show (t472).drop (t489 : Int).toNat = y492 from Ny492.out.symm] at hr44
  replace hr44 : Kd.C Kd.string _ A44 y492.length y492 := (by rw [hA44];exact hr44)
  rw [← hy44,← hA44,← hc44] at hcut44
  have HR495 := Aside0.mk hr44
  have HC495 := Aside0.mk (show y492.length ≤ c44 from by rw [hy44,hc44];exact Nat.sub_le_sub_right hroom44 _)
  clear hr44 hC44 hroom44 hi044 hsz44 hc44
  have KY44 := Aside0.mk hy44
  have KA44 := Aside0.mk hA44
  clear hy44 hA44
  have KL44 := Aside0.mk (show (t489 : Int).toNat ≤ t472.length from Z285)
  replace q44 := eq_true q44
  have q45 : (t489 : Int) ≤ ((t472.length : Int) : Int) := of_decide_eq_true Z164
  obtain ⟨i045,hi045,_,hsz45,_⟩ := info_parts info9
  have hroom45 : t472.length ≤ co41 := (Kd.R_reads' HO474.out).2.1
  have hC45 : Kd.C Kd.string _ Ao41 t472.length t472 := (Kd.R_reads' HO474.out).2.2
  have hcut45 := cut_to (P := Tryz.prog) 42 9 .i64 Tryz.underlying42 hi045 Ao41 t472.length co41 t489 (of_decide_eq_true Z164) q45 hroom45
  have hr45 := Kd.C_take (m := (t489 : Int).toNat) hC45 Z285
  have hy45 : y497.length = (t489 : Int).toNat := (by rw [Ny497.out,List.length_take];omega)
  rw [← Ny497.out] at hr45
  rw [← hy45] at hcut45
  have HR500 := Aside0.mk hr45
  have HC500 := Aside0.mk (show y497.length ≤ co41 from Z285)
  clear hr45 hC45 hroom45 hi045 hsz45
  have KY45 := Aside0.mk hy45
  clear hy45
  have KL45 := Aside0.mk (show (t489 : Int).toNat ≤ t472.length from Z285)
  replace q45 := eq_true q45
  refine start_ (n := 10) (S := fun w' => True) (ds := []) (qM 10 0) Z190 rfl (by kernel_rfl) trivial (fun hHeld => ?_);refine with_tabW spec_l8Lines.tab8 spec_l8Lines.bits8 (fun HT_ HW_ => ?_)
  generalize w42.drew = w43 at HO468 HO474 HI0 HK HB HR495 HR500 hHeld ⊢
  refine rP 0 30 10 1 HT_ (h := ?_)
  refine rP 1 31 10 3 HT_ (h := ?_)
  refine rP 2 32 10 7 HT_ (h := ?_)
  refine rP 4 34 10 23 HT_ (h := ?_)
  refine rP 5 35 10 55 HT_ (h := ?_)
  refine rP 6 36 10 119 HT_ (h := ?_)
  refine rO 3 33 10 127 HT_ (h := fun K hK => ?_)
  refine goes_ Tryz.func22 Z190 rfl #[.slice A44 y492.length c44,.string (⟨#[10]⟩ : ByteArray)] Z191 rfl rfl Z130 ?_
  with_reducible refine (spec_Joined.calls k _ _ y492 (⟨#[10]⟩ : ByteArray) t496 _ ?side1 ?side2 A31.out).mono ?_
  (case side1 => repeat (first | exact Z101 | (with_reducible refine Kd.C_alloc ?_ _) | (with_reducible refine Kd.C_drewN ?_ _) | (with_reducible refine Kd.C_drew ?_)))
  (case side2 => exact HC495.out)
  rintro e w46 ⟨rfl,hb⟩
  refine ⟨_,rfl,?_⟩
  have n_ := jA (Kd.R_below Z258 hb) (jA (Kd.R_below Z260 hb) (jA (IsS65.below Z238 hb) (jA (Kd.C_below Z101 hb) (jA (Kd.C_below Z100 hb) (jA (KeepBut.trans Z297 (KeepBut.of_below hb g none) (.inl rfl)) (Aside0.mk (below_step Z237 hb)))))))
  clear HO468 HO474 HI0 HR495 HR500 HK HB
  obtain ⟨HO468,HO474,HI0,HR495,HR500,HK,HB⟩ := n_
  (try clear hb)
  (try clear hb2)
  (try clear hk)
  (try clear hi)
  refine hK.out _ _ trivial (fun hHeld => ?_)
  clear hK K
  refine rN (h := ?_)
  refine rO 7 37 10 255 HT_ (h := fun K hK => ?_)
  refine goes_ Tryz.func22 Z190 rfl #[.slice Ao41 y497.length co41,.string (⟨#[10]⟩ : ByteArray)] Z191 rfl rfl Z130 ?_
  with_reducible refine (spec_Joined.calls k _ _ y497 (⟨#[10]⟩ : ByteArray) t501 _ ?side1 ?side2 A34.out).mono ?_
  (case side1 => repeat (first | exact Z100 | (with_reducible refine Kd.C_alloc ?_ _) | (with_reducible refine Kd.C_drewN ?_ _) | (with_reducible refine Kd.C_drew ?_)))
  (case side2 => exact HC500.out)
  rintro e w47 ⟨rfl,hb⟩
  refine ⟨_,rfl,?_⟩
  have n_ := jA (Kd.R_below Z258 hb) (jA (Kd.R_below Z260 hb) (jA (IsS65.below Z238 hb) (jA (Kd.C_below Z101 hb) (jA (Kd.C_below Z100 hb) (jA (KeepBut.trans Z297 (KeepBut.of_below hb g none) (.inl rfl)) (Aside0.mk (below_step Z237 hb)))))))
  clear HO468 HO474 HI0 HR495 HR500 HK HB
  obtain ⟨HO468,HO474,HI0,HR495,HR500,HK,HB⟩ := n_
  (try clear hb)
  (try clear hb2)
  (try clear hk)
  (try clear hi)
  refine hK.out _ _ trivial (fun hHeld => ?_)
  clear hK K
  refine rN (h := ?_)
  refine rP 8 38 10 511 HT_ (h := ?_)
  refine rP 9 2 10 1023 HT_ (h := ?_)
  refine done_ (done_of HT_.out Z190) ?_
  try go_wp2
  go_ret
  exact ⟨Z152,Z238,Z237,Z297⟩
 rw [if_pos c6] at H
 have c6b0 : (t475 == 0) = true := beq_iff_eq.mpr c6
 have c6b1 : (t475 != 0) = false := bne_eq_false_iff_eq.mpr c6
 clear c6
 obtain ⟨⟨t478,t479,t480⟩,A70,H⟩ := Option.bind_eq_some_iff.mp H
 try dsimp only at H
 have A7 := Aside0.mk A70
 clear A70
 obtain ⟨y481,hyy⟩ : ∃ y_ : List ByteArray,y_ = (([(⟨#[114,111,117,110,100,115,61,57]⟩ : ByteArray),(⟨#[100,101,112,116,104,61,53]⟩ : ByteArray),(⟨#[98,105,110,115,61,49]⟩ : ByteArray),(⟨#[108,97,109,98,100,97,61,48]⟩ : ByteArray),(⟨#[114,111,119,115,61,120]⟩ : ByteArray),(⟨#[114,97,116,101,61,50,47,49]⟩ : ByteArray),(⟨#[114,97,116,101,61,49]⟩ : ByteArray),(⟨#[114,97,116,101,61,49,47,50,47,51]⟩ : ByteArray),(⟨#[115,105,103,110,115,61,43,44,120]⟩ : ByteArray),(⟨#[115,105,103,110,115,61]⟩ : ByteArray),(⟨#[115,105,103,110,115,61,43,44,43,44,48,44,48,44,45]⟩ : ByteArray),(⟨#[104,109,61,49]⟩ : ByteArray),(⟨#[104,109]⟩ : ByteArray),(⟨#[61]⟩ : ByteArray),(⟨#[114,111,117,110,100,115,61]⟩ : ByteArray),(⟨#[114,111,117,110,100,115,61,32,49]⟩ : ByteArray),(⟨#[114,97,116,101,61,48,47,49]⟩ : ByteArray),(⟨#[115,105,103,110,115,61,45,44,48]⟩ : ByteArray)] : List ByteArray)) := ⟨_,rfl⟩
 replace H : ((spec_l1Pick.f s0_0 t479 t480 y481).bind fun bt484 => (if 0 ≤ t478 then (if t478 < (t472.length : Int) then ((spec_Joined.f k (t472.set (t478 : Int).toNat bt484.1) (⟨#[10]⟩ : ByteArray)).bind fun t488 => (some (t488,bt484.2.1,bt484.2.2))) else (none)) else (none))) = some (r1,r2,r3) := zR
 have Ny481 := Aside0.mk hyy
 clear hyy
 obtain ⟨⟨t484,t485,t486⟩,A80,H⟩ := Option.bind_eq_some_iff.mp H
 try dsimp only at H
 have A8 := Aside0.mk A80
 clear A80
 obtain ⟨c9,H⟩ := ifp H
 have c9b0 : decide (0 ≤ t478) = true := decide_eq_true c9
 clear c9
 obtain ⟨c10,H⟩ := ifp H
 have c10b0 : decide (t478 < (t472.length : Int)) = true := decide_eq_true c10
 clear c10
 obtain ⟨y487,hyy⟩ : ∃ y_ : List ByteArray,y_ = (t472.set (t478 : Int).toNat t484) := ⟨_,rfl⟩
 replace H : ((spec_Joined.f k y487 (⟨#[10]⟩ : ByteArray)).bind fun t488 => (some (t488,t485,t486))) = some (r1,r2,r3) := zR
 have Ny487 := Aside0.mk hyy
 clear hyy
 obtain ⟨t488,A120,H⟩ := Option.bind_eq_some_iff.mp H
 have A12 := Aside0.mk A120
 clear A120
 simp only [Option.some.injEq,Prod.mk.injEq] at H
 obtain ⟨rfl,rfl,rfl⟩ := H
 go_enter Tryz.func33,Tryz.ntmps33
 go_wp2_with (first | ((with_reducible refine gate_callee (f := 43) rfl ?_);refine goesL_ (some 7) rfl rfl Tryz.func43 Z190 rfl #[.pointer (some ⟨g,0,none⟩)] rfl Z130 ?_;(with_reducible refine (spec_l8Right.calls k g s0_0 s0_1 s0_2 t459 t460 t461 t462 t463 t464 t465 t466 t469 t470 w0 _ ?side1 ?side2 A2.out).mono ?_);(case side1 => exact Z238);(case side2 => exact Z237);rintro e wq1 ⟨vq2,rfl,hoq3,hi,hb,hk⟩;refine ⟨_,rfl,?_⟩;have n_ := Z52;clear HK HB HI0;obtain ⟨HO468,HK,HB,HI0⟩ := n_;(try clear hb);(try clear hb2);(try clear hk);(try clear hi);(try clear hoq3);obtain ⟨Aoq4,coq4,eoq4⟩ := Kd.R_slice HO468.out;subst eoq4) | ((with_reducible refine gate_callee (f := 7) rfl ?_);refine goesL_ (some 8) rfl rfl Tryz.func7 Z190 rfl #[.agg #[.int .i64 t459,.int .i64 t460,.int .i64 t461,.int .i64 t462,.int .i64 t463,.int .i64 t464,.int .i64 t465,.slice Aoq4 t466.length coq4]] rfl Z130 ?_;(with_reducible refine (spec_ConfigText.calls k t459 t460 t461 t462 t463 t464 t465 _ _ t466 t471 _ ?side1 ?side2 A3.out).mono ?_);(case side1 => exact Z110);(case side2 => exact (Kd.R_reads' HO468.out).2.1);rintro e wq5 ⟨rfl,hb⟩;refine ⟨_,rfl,?_⟩;have n_ := Z41;clear HO468 HI0 HK HB;obtain ⟨HO468,HI0,HK,HB⟩ := n_;(try clear hb);(try clear hb2);(try clear hk);(try clear hi)) | ((with_reducible refine gate_callee (f := 35) rfl ?_);refine goesL_ (some 9) rfl rfl Tryz.func35 Z190 rfl #[.string t471,.int .u8 10] rfl Z130 ?_;(with_reducible refine (spec_Parts.calls k t471 10 t472 _ A4.out).mono ?_);rintro e wq6 ⟨vq7,rfl,hoq3,hb⟩;refine ⟨_,rfl,?_⟩;have n_ := Z32;clear HO468 HI0 HK HB;obtain ⟨HO468,HO474,HI0,HK,HB⟩ := n_;(try clear hb);(try clear hb2);(try clear hk);(try clear hi);(try clear hoq3)) | ((with_reducible refine gate_callee (f := 44) rfl ?_);refine goesL_ (some 11) rfl rfl Tryz.func44 Z190 rfl #[.pointer (some ⟨g,0,none⟩),.int .i64 5] rfl Z130 ?_;(with_reducible refine (spec_l1Below.calls g s0_0 t469 t470 5 t475 t476 t477 w0 _ ?side1 ?side2 A5.out).mono ?_);(case side1 => exact Z238);(case side2 => exact Z237);rintro e wq8 ⟨rfl,hi,hb,hk⟩;refine ⟨_,rfl,?_⟩;have n_ := Z29;clear HO468 HO474 HK HB HI0;obtain ⟨HO468,HO474,HK,HB,HI0⟩ := n_;(try clear hb);(try clear hb2);(try clear hk);(try clear hi);obtain ⟨Aoq9,coq9,eoq9⟩ := Kd.R_slice HO474.out;subst eoq9) | ((with_reducible refine gate_callee (f := 44) rfl ?_);refine goesL_ (some 17) rfl rfl Tryz.func44 Z190 rfl #[.pointer (some ⟨g,0,none⟩),.int .i64 (t472.length : Int)] rfl Z130 ?_;(with_reducible refine (spec_l1Below.calls g s0_0 t476 t477 (t472.length : Int) t478 t479 t480 w0 _ ?side1 ?side2 A7.out).mono ?_);(case side1 => exact Z238);(case side2 => exact Z237);rintro e wq10 ⟨rfl,hi,hb,hk⟩;refine ⟨_,rfl,?_⟩;have n_ := Z30;clear HO468 HO474 HK HB HI0;obtain ⟨HO468,HO474,HK,HB,HI0⟩ := n_;(try clear hb);(try clear hb2);(try clear hk);(try clear hi)) | ((with_reducible refine gate_dst (N := 21) rfl ?_);refine Kd.R_lit Kd.string _ 9 ?hg (N := 21) ?hd (xs := ([(⟨#[114,111,117,110,100,115,61,57]⟩ : ByteArray),(⟨#[100,101,112,116,104,61,53]⟩ : ByteArray),(⟨#[98,105,110,115,61,49]⟩ : ByteArray),(⟨#[108,97,109,98,100,97,61,48]⟩ : ByteArray),(⟨#[114,111,119,115,61,120]⟩ : ByteArray),(⟨#[114,97,116,101,61,50,47,49]⟩ : ByteArray),(⟨#[114,97,116,101,61,49]⟩ : ByteArray),(⟨#[114,97,116,101,61,49,47,50,47,51]⟩ : ByteArray),(⟨#[115,105,103,110,115,61,43,44,120]⟩ : ByteArray),(⟨#[115,105,103,110,115,61]⟩ : ByteArray),(⟨#[115,105,103,110,115,61,43,44,43,44,48,44,48,44,45]⟩ : ByteArray),(⟨#[104,109,61,49]⟩ : ByteArray),(⟨#[104,109]⟩ : ByteArray),(⟨#[61]⟩ : ByteArray),(⟨#[114,111,117,110,100,115,61]⟩ : ByteArray),(⟨#[114,111,117,110,100,115,61,32,49]⟩ : ByteArray),(⟨#[114,97,116,101,61,48,47,49]⟩ : ByteArray),(⟨#[115,105,103,110,115,61,45,44,48]⟩ : ByteArray)] : List ByteArray)) (inner := [.string (⟨#[114,111,117,110,100,115,61,57]⟩ : ByteArray),.string (⟨#[100,101,112,116,104,61,53]⟩ : ByteArray),.string (⟨#[98,105,110,115,61,49]⟩ : ByteArray),.string (⟨#[108,97,109,98,100,97,61,48]⟩ : ByteArray),.string (⟨#[114,111,119,115,61,120]⟩ : ByteArray),.string (⟨#[114,97,116,101,61,50,47,49]⟩ : ByteArray),.string (⟨#[114,97,116,101,61,49]⟩ : ByteArray),.string (⟨#[114,97,116,101,61,49,47,50,47,51]⟩ : ByteArray),.string (⟨#[115,105,103,110,115,61,43,44,120]⟩ : ByteArray),.string (⟨#[115,105,103,110,115,61]⟩ : ByteArray),.string (⟨#[115,105,103,110,115,61,43,44,43,44,48,44,48,44,45]⟩ : ByteArray),.string (⟨#[104,109,61,49]⟩ : ByteArray),.string (⟨#[104,109]⟩ : ByteArray),.string (⟨#[61]⟩ : ByteArray),.string (⟨#[114,111,117,110,100,115,61]⟩ : ByteArray),.string (⟨#[114,111,117,110,100,115,61,32,49]⟩ : ByteArray),.string (⟨#[114,97,116,101,61,48,47,49]⟩ : ByteArray),.string (⟨#[115,105,103,110,115,61,45,44,48]⟩ : ByteArray)]) (ok := fun _ => True) (okp := fun _ => True) ?hr ?hp (fun _ hk => hk) trivial (Below.refl _ _) (Nat.le_refl _) Z286 ?_;(case hd => rfl);(case hg => rfl);(case hr => exact Z166);(case hp => exact (Reps.one (show Kd.M Kd.string _ _ _ (⟨#[114,111,117,110,100,115,61,57]⟩ : ByteArray) [.string (⟨#[114,111,117,110,100,115,61,57]⟩ : ByteArray)] from rfl) (Reps.one (show Kd.M Kd.string _ _ _ (⟨#[100,101,112,116,104,61,53]⟩ : ByteArray) [.string (⟨#[100,101,112,116,104,61,53]⟩ : ByteArray)] from rfl) (Reps.one (show Kd.M Kd.string _ _ _ (⟨#[98,105,110,115,61,49]⟩ : ByteArray) [.string (⟨#[98,105,110,115,61,49]⟩ : ByteArray)] from rfl) (Reps.one (show Kd.M Kd.string _ _ _ (⟨#[108,97,109,98,100,97,61,48]⟩ : ByteArray) [.string (⟨#[108,97,109,98,100,97,61,48]⟩ : ByteArray)] from rfl) (Reps.one (show Kd.M Kd.string _ _ _ (⟨#[114,111,119,115,61,120]⟩ : ByteArray) [.string (⟨#[114,111,119,115,61,120]⟩ : ByteArray)] from rfl) (Reps.one (show Kd.M Kd.string _ _ _ (⟨#[114,97,116,101,61,50,47,49]⟩ : ByteArray) [.string (⟨#[114,97,116,101,61,50,47,49]⟩ : ByteArray)] from rfl) (Reps.one (show Kd.M Kd.string _ _ _ (⟨#[114,97,116,101,61,49]⟩ : ByteArray) [.string (⟨#[114,97,116,101,61,49]⟩ : ByteArray)] from rfl) (Reps.one (show Kd.M Kd.string _ _ _ (⟨#[114,97,116,101,61,49,47,50,47,51]⟩ : ByteArray) [.string (⟨#[114,97,116,101,61,49,47,50,47,51]⟩ : ByteArray)] from rfl) (Reps.one (show Kd.M Kd.string _ _ _ (⟨#[115,105,103,110,115,61,43,44,120]⟩ : ByteArray) [.string (⟨#[115,105,103,110,115,61,43,44,120]⟩ : ByteArray)] from rfl) (Reps.one (show Kd.M Kd.string _ _ _ (⟨#[115,105,103,110,115,61]⟩ : ByteArray) [.string (⟨#[115,105,103,110,115,61]⟩ : ByteArray)] from rfl) (Reps.one (show Kd.M Kd.string _ _ _ (⟨#[115,105,103,110,115,61,43,44,43,44,48,44,48,44,45]⟩ : ByteArray) [.string (⟨#[115,105,103,110,115,61,43,44,43,44,48,44,48,44,45]⟩ : ByteArray)] from rfl) (Reps.one (show Kd.M Kd.string _ _ _ (⟨#[104,109,61,49]⟩ : ByteArray) [.string (⟨#[104,109,61,49]⟩ : ByteArray)] from rfl) (Reps.one (show Kd.M Kd.string _ _ _ (⟨#[104,109]⟩ : ByteArray) [.string (⟨#[104,109]⟩ : ByteArray)] from rfl) (Reps.one (show Kd.M Kd.string _ _ _ (⟨#[61]⟩ : ByteArray) [.string (⟨#[61]⟩ : ByteArray)] from rfl) (Reps.one (show Kd.M Kd.string _ _ _ (⟨#[114,111,117,110,100,115,61]⟩ : ByteArray) [.string (⟨#[114,111,117,110,100,115,61]⟩ : ByteArray)] from rfl) (Reps.one (show Kd.M Kd.string _ _ _ (⟨#[114,111,117,110,100,115,61,32,49]⟩ : ByteArray) [.string (⟨#[114,111,117,110,100,115,61,32,49]⟩ : ByteArray)] from rfl) (Reps.one (show Kd.M Kd.string _ _ _ (⟨#[114,97,116,101,61,48,47,49]⟩ : ByteArray) [.string (⟨#[114,97,116,101,61,48,47,49]⟩ : ByteArray)] from rfl) (Reps.one (show Kd.M Kd.string _ _ _ (⟨#[115,105,103,110,115,61,45,44,48]⟩ : ByteArray) [.string (⟨#[115,105,103,110,115,61,45,44,48]⟩ : ByteArray)] from rfl) (Reps.none _ _))))))))))))))))))));intro vq11 wq12 hoq13 hb hg_ hnew_;clear hg_ hnew_;(first | rw [← Ny481.out] at hoq13 | (simp only [Int.reduceToNat] at hoq13;rw [← Ny481.out] at hoq13));have n_ := jA (Kd.R_below Z258 hb) (jA (Kd.R_elder' Z260 (Kd.R_base hoq13) hb) (jA (Kd.R_lower (Kd.R_new' hoq13 (Kd.R_lt Z260)) (keep_size (w := w) (g := g) (row := none) Z297)) (jA (IsS65.below Z238 hb) (jA (KeepBut.trans Z297 (KeepBut.of_below hb g none) (.inl rfl)) (Aside0.mk (below_step Z237 hb))))));clear HO468 HO474 HI0 HK HB;obtain ⟨HO468,HO474,HO483,HI0,HK,HB⟩ := n_;clear hb hoq13;obtain ⟨Aoq14,coq14,eoq14⟩ := Kd.R_slice HO483.out;subst eoq14) | ((with_reducible refine gate_callee (f := 55) rfl ?_);refine goesL_ (some 22) rfl rfl Tryz.func55 Z190 rfl #[.pointer (some ⟨g,0,none⟩),.slice Aoq14 y481.length coq14] rfl Z130 ?_;(with_reducible refine (spec_l1Pick.calls g s0_0 t479 t480 _ _ y481 t484 t485 t486 w0 _ ?side1 ?side2 ?side3 ?side4 ?side5 A8.out).mono ?_);(case side1 => exact Z238);(case side2 => exact Z237);(case side3 => repeat (first | exact (Kd.R_reads' HO483.out).2.2 | (with_reducible refine Kd.C_alloc ?_ _) | (with_reducible refine Kd.C_drewN ?_ _) | (with_reducible refine Kd.C_drew ?_)));(case side4 => exact (Kd.R_reads' HO483.out).2.1);(case side5 => exact far_slice (IsS65.own_ne HI0.out HO483.out Z306));rintro e wq15 ⟨rfl,hi,hb,hk⟩;refine ⟨_,rfl,?_⟩;have n_ := jA (Kd.R_mono (Kd.R_keep (IsS65.apart (show IsS65 w0 _ g s0_0 t479 t480 from Z238) Z258 Z306) hk (fun _ h => h.2)) (fun _ h => h.1)) (jA (Kd.R_mono (Kd.R_keep (IsS65.apart (show IsS65 w0 _ g s0_0 t479 t480 from Z238) Z260 Z306) hk (fun _ h => h.2)) (fun _ h => h.1)) (jA (Kd.R_mono (Kd.R_keep (IsS65.apart (show IsS65 w0 _ g s0_0 t479 t480 from Z238) Z144 Z306) hk (fun _ h => h.2)) (fun _ h => h.1)) (jA (KeepBut.trans Z297 hk (.inl rfl)) (jA (hb) (Aside0.mk (hi))))));clear HO468 HO474 HO483 HK HB HI0;obtain ⟨HO468,HO474,HO483,HK,HB,HI0⟩ := n_;(try clear hb);(try clear hb2);(try clear hk);(try clear hi);have pq16 : 0 ≤ (t478 : Int) := of_decide_eq_true Z164;have qq16 : (t478 : Int) < ((t472.length : Int) : Int) := of_decide_eq_true Z164;obtain ⟨goq16,coq16,eoq16,gb11,glq16,clq16,HGq16⟩ := Kd.R_form HO474.out Z285;(first | cases eoq16 | (injection eoq16 with ea_ en_ ec_;(first | subst ea_ | (injection ea_ with ea_;subst ea_));subst ec_;clear en_));have GBq16 := Aside0.mk gb11;have GGq16 := Aside0.mk HGq16;clear gb11 glq16 HGq16;obtain ⟨hxq16_0,hfq16_0⟩ := Kd.R_celln (⟨#[]⟩ : ByteArray) HO474.out (t478 : Int) pq16 qq16;replace pq16 := eq_true pq16;replace qq16 := eq_true qq16;have n_ := Aside0.mk (Kd.R_mono (ok' := (fun k_ => some k_ ≠ (.slice Aoq14 y481.length coq14 : Value).ownBlock)) HO474.out (fun k_ hk => hk.2));clear HO474;have HO474 := n_;clear n_;obtain ⟨hyq17_,hzq17_⟩ := Kd.R_celln (⟨#[]⟩ : ByteArray) HO474.out (t478 : Int) (of_decide_eq_true Z164) (of_decide_eq_true Z164);have HPq17 := Kd.R_putg HO474.out (t478 : Int) t484) | ((with_reducible refine gate_store (t := 9) (p := 23) rfl ?_);refine store_event (t := 9) (p := 23) (v := ?vo_w25) (w1 := (wq15.setCell ⟨goq16,(t478 : Int).toNat,none⟩ (.string t484))) ?hg ?ho ?hn ?hr ?_;(case ho => rfl);(case hg => rfl);(case hn => rfl);(case hr => exact Z166);intro wq18 hw;have hg : wq15.grownBy wq18 (some goq16) := (by rw [hw];exact HPq17.2);have hp_ : Kd.R Kd.string 9 wq18 w.heap.size (fun k_ => some k_ ≠ (.slice Aoq14 y481.length coq14 : Value).ownBlock) (.slice (some ⟨goq16,0,none⟩) t472.length coq9) y487 := (by rw [hw,Ny487.out];exact HPq17.1);clear HPq17;have n_ := jA (IsS65.grown Z238 hg (IsS65.own_ne HI0.out HO474.out Z306)) (jA (Kd.R_over' (v := (.slice (some ⟨goq16,0,none⟩) t472.length coq9)) Z258 (Kd.R_typed HO474.out) Z306 hg) (jA (hp_) (jA (Kd.R_after (v := (.slice (some ⟨goq16,0,none⟩) t472.length coq9)) (v1 := (.slice (some ⟨goq16,0,none⟩) t472.length coq9)) (ok := (fun _ => True)) Z144 hg (.inl rfl)) (jA ((by rw [hw];exact below_set (HB.out) (Nat.le_trans HL.out GBq16.out) : Below w0.heap.size w0 wq18)) (Aside0.mk (KeepBut.trans Z297 (KeepBut.of_grown hg g) (Kd.R_base2 HO474.out)))))));clear HI0 HO468 HO474 HO483 HB HK;obtain ⟨HI0,HO468,HO474,HO483,HB,HK⟩ := n_;clear hg hw hp_) | ((with_reducible refine gate_callee (f := 22) rfl ?_);refine goesL_ (some 40) rfl rfl Tryz.func22 Z190 rfl #[.slice (some ⟨goq16,0,none⟩) y487.length coq9,.string (⟨#[10]⟩ : ByteArray)] rfl (by (try simp only [List.map_toArray,List.map_cons,List.map_nil]);first | done | (rw [show y487.length = t472.length from (Kd.R_reads' HO474.out).1.symm] <;> rfl) | rfl | (simp only [List.length_drop,List.length_take];rfl)) ?_;(with_reducible refine (spec_Joined.calls k _ _ y487 (⟨#[10]⟩ : ByteArray) t488 _ ?side1 ?side2 A12.out).mono ?_);(case side1 => exact Z113);(case side2 => rw [show y487.length = t472.length from (Kd.R_reads' HO474.out).1.symm];exact (Kd.R_reads' HO474.out).2.1);rintro e wq19 ⟨rfl,hb⟩;refine ⟨_,rfl,?_⟩;have n_ := jA (Kd.R_below Z258 hb) (jA (Kd.R_below Z260 hb) (jA (Kd.R_below Z144 hb) (jA (IsS65.below Z238 hb) (jA (KeepBut.trans Z297 (KeepBut.of_below hb g none) (.inl rfl)) (Aside0.mk (below_step Z237 hb))))));clear HO468 HO474 HO483 HI0 HK HB;obtain ⟨HO468,HO474,HO483,HI0,HK,HB⟩ := n_;(try clear hb);(try clear hb2);(try clear hk);(try clear hi)))
 go_ret
 exact ⟨Z152,Z238,Z237,Z297⟩

/-! ### spec_DrawReadConfig: function 10 -/
def spec_DrawReadConfig.f (k : Nat) (l0 : List Int) : Option (ByteArray) := (spec_l1New.f k l0).bind fun bt503 => ((spec_l8Lines.f k bt503.1 bt503.2.1 bt503.2.2).bind fun bt507 => ((spec_l7Turned.f bt503.1 bt507.2.1 bt507.2.2 bt507.1).bind fun bt510 => (some bt510.1)))
theorem spec_DrawReadConfig.mono : ∀ a0 k,LeO (spec_DrawReadConfig.f k a0) (spec_DrawReadConfig.f (k + 1) a0) := by
 intro a0 k
 unfold spec_DrawReadConfig.f
 repeat' first
   | (with_reducible exact spec_l1New.mono _ _)
   | (with_reducible exact spec_l8Lines.mono _ _ _ _)
   | (with_reducible exact LeO.refl _)
   | (with_reducible exact LeO.none _)
   | (with_reducible refine LeO.ite ?_ ?_)
   | (with_reducible refine LeO.bind ?_ (fun _ => ?_))
   | exact spec_l1New.mono _ _
   | exact spec_l8Lines.mono _ _ _ _
   | exact LeO.none _
   | refine LeO.ite ?_ ?_
   | refine LeO.bind ?_ (fun _ => ?_)
set_option maxHeartbeats 8000000 in
set_option maxRecDepth 100000 in
theorem spec_DrawReadConfig.calls (k : Nat) (A0 : Option Addr) (c0 : Nat) (l0 : List Int) (r : ByteArray) (w : World) (hr0 : Kd.C (Kd.int .u8) w A0 l0.length l0) (hc0 : l0.length ≤ c0) (h : spec_DrawReadConfig.f k l0 = some r) :
  Calls Tryz.prog 10 #[.slice A0 l0.length c0] w fun e w' => e = .returned (.string r) ∧ Below w.heap.size w w' := by
 have HR0 := Aside0.mk hr0
 have HC0 := Aside0.mk hc0
 clear hr0 hc0
 have HB := Aside0.mk (Below.refl w.heap.size w)
 have H := h
 clear h
 unfold spec_DrawReadConfig.f at H
 obtain ⟨⟨t503,t504,t505⟩,A20,H⟩ := Option.bind_eq_some_iff.mp H
 try dsimp only at H
 have A2 := Aside0.mk A20
 clear A20
 obtain ⟨⟨t507,t508,t509⟩,A30,H⟩ := Option.bind_eq_some_iff.mp H
 try dsimp only at H
 have A3 := Aside0.mk A30
 clear A30
 obtain ⟨⟨t510,t511,t512⟩,A40,H⟩ := Option.bind_eq_some_iff.mp H
 try dsimp only at H
 have A4 := Aside0.mk A40
 clear A40
 obtain rfl := Option.some.inj H
 go_enter Tryz.func10,Tryz.ntmps10
 go_wp2_with (first | ((with_reducible refine gate_callee (f := 16) rfl ?_);refine goesL_ (some 5) rfl rfl Tryz.func16 Z190 rfl #[.slice A0 l0.length c0] rfl Z130 ?_;(with_reducible refine (spec_l1New.calls k _ _ l0 t503 t504 t505 w _ ?side1 ?side2 ?side3 A2.out).mono ?_);(case side1 => exact Z298);(case side2 => exact HR0.out);(case side3 => exact HC0.out);rintro e wq1 ⟨gq2,rfl,hi,hb,hbq3⟩;refine ⟨_,rfl,?_⟩;have n_ := jA (hb) (Aside0.mk (hi));clear HB;obtain ⟨HB,HI506⟩ := n_;(try clear hb);(try clear hbq3);(try clear hk);(try clear hi)) | ((with_reducible refine gate_callee (f := 33) rfl ?_);refine goesL_ (some 8) rfl rfl Tryz.func33 Z190 rfl #[.pointer (some ⟨gq2,0,none⟩)] rfl Z130 ?_;(with_reducible refine (spec_l8Lines.calls k gq2 t503 t504 t505 t507 t508 t509 w _ ?side1 ?side2 A3.out).mono ?_);(case side1 => exact Z106);(case side2 => exact Z105);rintro e wq4 ⟨rfl,hi,hb,hk⟩;refine ⟨_,rfl,?_⟩;have n_ := jA (hb) (Aside0.mk (hi));clear HB HI506;obtain ⟨HB,HI506⟩ := n_;(try clear hb);(try clear hbq3);(try clear hk);(try clear hi)) | ((with_reducible refine gate_callee (f := 32) rfl ?_);refine goesL_ (some 9) rfl rfl Tryz.func32 Z190 rfl #[.pointer (some ⟨gq2,0,none⟩),.string t507] rfl Z130 ?_;(with_reducible refine (spec_l7Turned.calls gq2 t503 t508 t509 t507 t510 t511 t512 w _ ?side1 ?side2 A4.out).mono ?_);(case side1 => exact Z106);(case side2 => exact Z105);rintro e wq5 ⟨rfl,hi,hb,hk⟩;refine ⟨_,rfl,?_⟩;have n_ := jA (hb) (Aside0.mk (hi));clear HB HI506;obtain ⟨HB,HI506⟩ := n_;(try clear hb);(try clear hbq3);(try clear hk);(try clear hi)))
 go_ret
 exact ⟨Z152,Z105⟩

/-! ### spec_UsualConfig: function 34 -/
def spec_UsualConfig.f  : Option (Int × Int × Int × Int × Int × Int × Int × List Int) := some (4,2,4,1,1,1,1,([] : List Int))
set_option maxHeartbeats 8000000 in
set_option maxRecDepth 100000 in
theorem spec_UsualConfig.calls  (r1 : Int) (r2 : Int) (r3 : Int) (r4 : Int) (r5 : Int) (r6 : Int) (r7 : Int) (r8 : List Int) (w : World) (h : spec_UsualConfig.f  = some (r1,r2,r3,r4,r5,r6,r7,r8)) :
  Calls Tryz.prog 34 #[] w fun e w' => ∃ v7_ : Value,e = .returned (.agg #[.int .i64 r1,.int .i64 r2,.int .i64 r3,.int .i64 r4,.int .i64 r5,.int .i64 r6,.int .i64 r7,v7_]) ∧ Kd.R (Kd.int .i64) 3 w' w.heap.size (fun _ => True) v7_ r8 ∧ Below w.heap.size w w' := by
 have hu26 := Tryz.underlying26
 have HB := Aside0.mk (Below.refl w.heap.size w)
 have H := h
 clear h
 unfold spec_UsualConfig.f at H
 simp only [Option.some.injEq,Prod.mk.injEq] at H
 obtain ⟨rfl,rfl,rfl,rfl,rfl,rfl,rfl,rfl⟩ := H
 go_enter Tryz.func34,Tryz.ntmps34
 go_wp2_with (first | ((with_reducible refine gate_dst (N := 0) rfl ?_);refine bE 0 #[.int .i64 0,.int .i64 0,.int .i64 0,.int .i64 0,.int .i64 0,.int .i64 0,.int .i64 0,.slice none 0 0] 26 (h := ?_);intro gb513 hg wq1 hbox hb;have n_ := jA (below_step Z298 hb) (jA (hbox) (jA ((Z240 : w.heap.size ≤ gb513)) (Aside0.mk ((Z240 : w.heap.size ≤ gb513)))));clear HB;obtain ⟨HB,BK513,GW513,GE513⟩ := n_;clear hb hbox hg;obtain ⟨hczq2_0,hczq2_1,hczq2_2,hczq2_3,hczq2_4,hczq2_5,hczq2_6,hczq2_7,hfzq2_0,hfzq2_1,hfzq2_2,hfzq2_3,hfzq2_4,hfzq2_5,hfzq2_6,hfzq2_7⟩ := cells8 BK513.out))
 refine bodyPost_ret (results_cell_row rfl _ _ gb513 26 #[.int .i64 4,.int .i64 2,.int .i64 4,.int .i64 1,.int .i64 1,.int .i64 1,.int .i64 1,.slice none 0 0] (0,0) _ rfl (by refine bP ?_;refine blk_put (cs := #[.int .i64 4,.int .i64 2,.int .i64 4,.int .i64 1,.int .i64 1,.int .i64 1,.int .i64 1,.slice none 0 0]) ?_ 7 _ rfl;refine bP ?_;refine blk_put (cs := #[.int .i64 4,.int .i64 2,.int .i64 4,.int .i64 1,.int .i64 1,.int .i64 1,.int .i64 0,.slice none 0 0]) ?_ 6 _ rfl;refine bP ?_;refine blk_put (cs := #[.int .i64 4,.int .i64 2,.int .i64 4,.int .i64 1,.int .i64 1,.int .i64 0,.int .i64 0,.slice none 0 0]) ?_ 5 _ rfl;refine bP ?_;refine blk_put (cs := #[.int .i64 4,.int .i64 2,.int .i64 4,.int .i64 1,.int .i64 0,.int .i64 0,.int .i64 0,.slice none 0 0]) ?_ 4 _ rfl;refine bP ?_;refine blk_put (cs := #[.int .i64 4,.int .i64 2,.int .i64 4,.int .i64 0,.int .i64 0,.int .i64 0,.int .i64 0,.slice none 0 0]) ?_ 3 _ rfl;refine bP ?_;refine blk_put (cs := #[.int .i64 4,.int .i64 2,.int .i64 0,.int .i64 0,.int .i64 0,.int .i64 0,.int .i64 0,.slice none 0 0]) ?_ 2 _ rfl;refine bP ?_;refine blk_put (cs := #[.int .i64 4,.int .i64 0,.int .i64 0,.int .i64 0,.int .i64 0,.int .i64 0,.int .i64 0,.slice none 0 0]) ?_ 1 _ rfl;refine bP ?_;refine blk_put (cs := #[.int .i64 0,.int .i64 0,.int .i64 0,.int .i64 0,.int .i64 0,.int .i64 0,.int .i64 0,.slice none 0 0]) ?_ 0 _ rfl;refine bP ?_;exact BK513.out) Tryz.underlying26 rfl Z190) rfl ?_
 exact ⟨_,Z152,Z129,by repeat (first | (with_reducible first | exact HB.out | apply below_alloc | apply pw_below_drewN | apply below_drew1 | refine below_set ?_ GE513.out) | exact HB.out)⟩

/-! ### spec_l8Word: function 36 -/
def spec_l8Word.l0 : Nat → ByteArray → Int → Option (Int)
 | 0,_,_ => none
 | k + 1,x0,x3 => if x3 < 7 then ((spec_l8Words.f).bind fun t514 => (if 0 ≤ x3 then (if x3 < (t514.length : Int) then (if (rdOf ByteArray.empty t514 x3).toList = x0.toList then (some x3) else (spec_l8Word.l0 k x0 (wrap64 (x3 + 1)))) else (none)) else (none))) else (some (-1))
def spec_l8Word.f (k : Nat) (a0 : ByteArray) : Option (Int) := spec_l8Word.l0 k a0 0
theorem spec_l8Word.mono_l : ∀ k,(∀ y0 y1,LeO (spec_l8Word.l0 k y0 y1) (spec_l8Word.l0 (k + 1) y0 y1))
 | 0 => fun _ _ r h => by simp [spec_l8Word.l0] at h
 | k + 1 => by
  have ih0 := spec_l8Word.mono_l k
  ·intro y0 y1
   unfold spec_l8Word.l0
   repeat' first
   | (with_reducible exact ih0 _ _)
   | (with_reducible exact LeO.refl _)
   | (with_reducible exact LeO.none _)
   | (with_reducible refine LeO.ite ?_ ?_)
   | (with_reducible refine LeO.bind ?_ (fun _ => ?_))
   | exact ih0 _ _
   | exact LeO.none _
   | refine LeO.ite ?_ ?_
   | refine LeO.bind ?_ (fun _ => ?_)
theorem spec_l8Word.mono : ∀ a0 k,LeO (spec_l8Word.f k a0) (spec_l8Word.f (k + 1) a0) := by
 intro a0 k
 have ih0 := spec_l8Word.mono_l k
 unfold spec_l8Word.f
 repeat' first
   | (with_reducible exact ih0 _ _)
   | (with_reducible exact LeO.refl _)
   | (with_reducible exact LeO.none _)
   | (with_reducible refine LeO.ite ?_ ?_)
   | (with_reducible refine LeO.bind ?_ (fun _ => ?_))
   | exact ih0 _ _
   | exact LeO.none _
   | refine LeO.ite ?_ ?_
   | refine LeO.bind ?_ (fun _ => ?_)
set_option maxHeartbeats 8000000 in
set_option maxRecDepth 100000 in
theorem spec_l8Word.calls (k : Nat) (a0 : ByteArray) (r : Int) (w : World) (h : spec_l8Word.f k a0 = some r) :
  Calls Tryz.prog 36 #[.string a0] w fun e w' => e = .returned (.int .i64 r) ∧ Below w.heap.size w w' := by
 have HB := Aside0.mk (Below.refl w.heap.size w)
 have H := h
 clear h
 unfold spec_l8Word.f at H
 have H' := Aside0.mk H
 clear H
 go_enter Tryz.func36,Tryz.ntmps36
 go_wp2
 go_loopg [3] k (fun kq v3 w' => ∃ (x3_1 : Int),v3 = .int .i64 x3_1 ∧ Aside0 (spec_l8Word.l0 kq a0 x3_1 = some r) ∧ Aside0 (kq ≤ k) ∧ Aside0 (Below w.heap.size w w'))
 case atStart => exact ⟨(0),Z165,H',⟨Nat.le_refl _⟩,⟨Z298⟩⟩
 case round =>
  clear H'
  obtain ⟨x3_1,rfl,HA,HK1,HB⟩ := hrel
  cases gk with
  | zero => exact absurd HA.out (by simp [spec_l8Word.l0])
  | succ k1 =>
   have H := HA.out
   clear HA
   simp only [spec_l8Word.l0] at H
   by_cases c2 : x3_1 < 7
   rotate_left
   ·rw [if_neg c2] at H
    have c2b0 : decide (x3_1 < 7) = false := decide_eq_false c2
    clear c2
    obtain rfl := Option.some.inj H
    go_wp2
    go_ret
    exact ⟨Z152,Z298⟩
   rw [if_pos c2] at H
   have c2b0 : decide (x3_1 < 7) = true := decide_eq_true c2
   clear c2
   obtain ⟨t514,A30,H⟩ := Option.bind_eq_some_iff.mp H
   have A3 := Aside0.mk A30
   clear A30
   obtain ⟨c4,H⟩ := ifp H
   have c4b0 : decide (0 ≤ x3_1) = true := decide_eq_true c4
   clear c4
   obtain ⟨c5,H⟩ := ifp H
   have c5b0 : decide (x3_1 < (t514.length : Int)) = true := decide_eq_true c5
   clear c5
   by_cases c6 : (rdOf ByteArray.empty t514 x3_1).toList = a0.toList
   ·rw [if_pos c6] at H
    have c6b0 : ((rdOf ByteArray.empty t514 x3_1).toList == a0.toList) = true := beq_iff_eq.mpr c6
    have c6b1 : ((rdOf ByteArray.empty t514 x3_1).toList != a0.toList) = false := bne_eq_false_iff_eq.mpr c6
    clear c6
    obtain rfl := Option.some.inj H
    go_wp2_with (first | ((with_reducible refine gate_callee (f := 20) rfl ?_);refine goesL_ (some 8) rfl rfl Tryz.func20 Z190 rfl #[] rfl Z130 ?_;(with_reducible refine (spec_l8Words.calls  t514 _ A3.out).mono ?_);rintro e wq1 ⟨vq2,rfl,hoq3,hb⟩;refine ⟨_,rfl,?_⟩;have n_ := Z56;clear HB;obtain ⟨HO516,HB⟩ := n_;(try clear hb);(try clear hb2);(try clear hk);(try clear hi);(try clear hoq3);obtain ⟨Aoq4,coq4,eoq4⟩ := Kd.R_slice HO516.out;subst eoq4;have pq5 : 0 ≤ (x3_1 : Int) := of_decide_eq_true Z164;have qq5 : x3_1 < (t514.length : Int) := of_decide_eq_true Z164;obtain ⟨adq5,eq5,hxq5_0⟩ := Kd.at_string (Kd.R_reads' HO516.out).2.2 x3_1 pq5 qq5;cases eq5;replace pq5 := eq_true pq5;replace qq5 := eq_true qq5))
    go_ret
    exact ⟨Z152,Z298⟩
   rw [if_neg c6] at H
   have c6b0 : ((rdOf ByteArray.empty t514 x3_1).toList == a0.toList) = false := beq_eq_false_iff_ne.mpr c6
   have c6b1 : ((rdOf ByteArray.empty t514 x3_1).toList != a0.toList) = true := bne_iff_ne.mpr c6
   have H' := Aside0.mk H
   clear H
   go_wp2_with (first | ((with_reducible refine gate_callee (f := 20) rfl ?_);refine goesL_ (some 8) rfl rfl Tryz.func20 Z190 rfl #[] rfl Z130 ?_;(with_reducible refine (spec_l8Words.calls  t514 _ A3.out).mono ?_);rintro e w9 ⟨v515,rfl,ho0,hb⟩;refine ⟨_,rfl,?_⟩;have n_ := Z58;clear HB;obtain ⟨HO516,HB⟩ := n_;(try clear hb);(try clear hb2);(try clear hk);(try clear hi);(try clear ho0);obtain ⟨Ao10,co10,eo10⟩ := Kd.R_slice HO516.out;subst eo10;have p517 : 0 ≤ (x3_1 : Int) := of_decide_eq_true Z164;have q517 : x3_1 < (t514.length : Int) := of_decide_eq_true Z164;obtain ⟨ad517,e517,hx517_0⟩ := Kd.at_string (Kd.R_reads' HO516.out).2.2 x3_1 p517 q517;cases e517;replace p517 := eq_true p517;replace q517 := eq_true q517))
   go_roundg k1
   case measure => have := HK1.out;omega
   case rel => exact ⟨(wrap64 (x3_1 + 1)),Z165,H',⟨Z184⟩,⟨Z298⟩⟩

end Go.Proofs.YtepnbcdbagjmbaeGreatDoor.QFnConfig
