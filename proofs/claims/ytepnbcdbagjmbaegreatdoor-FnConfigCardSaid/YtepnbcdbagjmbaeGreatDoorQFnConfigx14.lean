/- The machine side of FnConfig: what each Go function that it reaches comes to. Conditions: none. -/
import Derived.Test.YtepnbcdbagjmbaeGreatDoorQFnConfigx0
import Derived.Test.YtepnbcdbagjmbaeGreatDoorQFnConfigx7
import Derived.Test.YtepnbcdbagjmbaeGreatDoorQFnConfigx9
import Derived.Test.YtepnbcdbagjmbaeGreatDoorQFnConfigx13
namespace Go.Proofs.YtepnbcdbagjmbaeGreatDoor.QFnConfig
open Go.RowKit Go.Proofs.YtepnbcdbagjmbaeGreatDoorW.PrintWords Go.Proofs.YtepnbcdbagjmbaeGreatDoorW.PrintLast Go.Proofs.YtepnbcdbagjmbaeGreatDoorW.PrintMore
attribute [local go_sem] max2_int min2_int max_two min_two max_three min_three max_four min_four   -- for this text's walks alone
set_option linter.unusedVariables false
set_option linter.unusedSimpArgs false

/-! ### spec_l8Signs: function 56 -/
def spec_l8Signs.l0 : Nat → List Int → List ByteArray → Int → Option (List Int × Bool)
 | 0,_,_,_ => none
 | k + 1,x4,x5,x6 => if x6 < (x5.length : Int) then (if 0 ≤ x6 then (if (rdOf ByteArray.empty x5 x6).toList = ([43] : List UInt8) then (if x4.length < 17592186044416 then (spec_l8Signs.l0 k (x4 ++ [1]) x5 (wrap64 (x6 + 1))) else (none)) else (if (rdOf ByteArray.empty x5 x6).toList = ([48] : List UInt8) then (if x4.length < 17592186044416 then (spec_l8Signs.l0 k (x4 ++ [0]) x5 (wrap64 (x6 + 1))) else (none)) else (if (rdOf ByteArray.empty x5 x6).toList = ([45] : List UInt8) then (if x4.length < 17592186044416 then (spec_l8Signs.l0 k (x4 ++ [(-1)]) x5 (wrap64 (x6 + 1))) else (none)) else (some ((([] : List Int)),false))))) else (none)) else (some (x4,true))
def spec_l8Signs.f (k : Nat) (a0 : ByteArray) : Option (List Int × Bool) := (some (([] : List Int) : List Int)).bind fun y518 => ((spec_Parts.f k a0 44).bind fun t521 => (if (t521.length : Int) > 4 then (some (y518,false)) else (spec_l8Signs.l0 k y518 t521 0)))
theorem spec_l8Signs.mono_l : ∀ k,(∀ y0 y1 y2,LeO (spec_l8Signs.l0 k y0 y1 y2) (spec_l8Signs.l0 (k + 1) y0 y1 y2))
 | 0 => fun _ _ _ r h => by simp [spec_l8Signs.l0] at h
 | k + 1 => by
  have ih0 := spec_l8Signs.mono_l k
  ·intro y0 y1 y2
   unfold spec_l8Signs.l0
   repeat' first
   | (with_reducible exact ih0 _ _ _)
   | (with_reducible exact spec_Parts.mono _ _ _)
   | (with_reducible exact LeO.refl _)
   | (with_reducible exact LeO.none _)
   | (with_reducible refine LeO.ite ?_ ?_)
   | (with_reducible refine LeO.bind ?_ (fun _ => ?_))
   | exact ih0 _ _ _
   | exact spec_Parts.mono _ _ _
   | exact LeO.none _
   | refine LeO.ite ?_ ?_
   | refine LeO.bind ?_ (fun _ => ?_)
theorem spec_l8Signs.mono : ∀ a0 k,LeO (spec_l8Signs.f k a0) (spec_l8Signs.f (k + 1) a0) := by
 intro a0 k
 have ih0 := spec_l8Signs.mono_l k
 unfold spec_l8Signs.f
 repeat' first
   | (with_reducible exact ih0 _ _ _)
   | (with_reducible exact spec_Parts.mono _ _ _)
   | (with_reducible exact LeO.refl _)
   | (with_reducible exact LeO.none _)
   | (with_reducible refine LeO.ite ?_ ?_)
   | (with_reducible refine LeO.bind ?_ (fun _ => ?_))
   | exact ih0 _ _ _
   | exact spec_Parts.mono _ _ _
   | exact LeO.none _
   | refine LeO.ite ?_ ?_
   | refine LeO.bind ?_ (fun _ => ?_)
set_option maxHeartbeats 8000000 in
set_option maxRecDepth 100000 in
theorem spec_l8Signs.calls (k : Nat) (a0 : ByteArray) (r1 : List Int) (r2 : Bool) (w : World) (h : spec_l8Signs.f k a0 = some (r1,r2)) :
  Calls Tryz.prog 56 #[.string a0] w fun e w' => ∃ v0_ : Value,e = .returned (.tuple #[v0_,.bool r2]) ∧ Kd.R (Kd.int .i64) 3 w' w.heap.size (fun _ => True) v0_ r1 ∧ Below w.heap.size w w' := by
 have HB := Aside0.mk (Below.refl w.heap.size w)
 have H := h
 clear h
 unfold spec_l8Signs.f at H
 obtain ⟨y518,hyy⟩ : ∃ y_ : List Int,y_ = (([] : List Int)) := ⟨_,rfl⟩
 replace H : ((spec_Parts.f k a0 44).bind fun t521 => (if (t521.length : Int) > 4 then (some (y518,false)) else (spec_l8Signs.l0 k y518 t521 0))) = some (r1,r2) := zR
 have Ny518 := Aside0.mk hyy
 clear hyy
 obtain ⟨t521,A20,H⟩ := Option.bind_eq_some_iff.mp H
 have A2 := Aside0.mk A20
 clear A20
 by_cases c3 : (t521.length : Int) > 4
 ·rw [if_pos c3] at H
  have c3b0 : decide (4 < (t521.length : Int)) = true := decide_eq_true c3
  have c3b1 : decide (4 < t521.length) = true := decide_eq_true Z285
  clear c3
  simp only [Option.some.injEq,Prod.mk.injEq] at H
  obtain ⟨rfl,rfl⟩ := H
  go_enter Tryz.func56,Tryz.ntmps56
  go_wp2_with (first | ((with_reducible refine gate_dst (N := 7) rfl ?_);refine Kd.R_lit (Kd.int .i64) _ 3 ?hg (N := 7) ?hd (xs := ([] : List Int)) (inner := []) (ok := fun _ => True) (okp := fun _ => True) ?hr ?hp (fun _ hk => hk) trivial (Below.refl _ _) (Nat.le_refl _) Z286 ?_;(case hd => rfl);(case hg => rfl);(case hr => exact Z166);(case hp => exact Z185);intro vq1 wq2 hoq3 hb hg_ hnew_;clear hg_ hnew_;(first | rw [← Ny518.out] at hoq3 | (simp only [Int.reduceToNat] at hoq3;rw [← Ny518.out] at hoq3));have n_ := Z56;clear HB;obtain ⟨HO520,HB⟩ := n_;clear hb hoq3) | ((with_reducible refine gate_callee (f := 35) rfl ?_);refine goesL_ (some 9) rfl rfl Tryz.func35 Z190 rfl #[.string a0,.int .u8 44] rfl Z130 ?_;(with_reducible refine (spec_Parts.calls k a0 44 t521 _ A2.out).mono ?_);rintro e wq4 ⟨vq5,rfl,hoq6,hb⟩;refine ⟨_,rfl,?_⟩;have n_ := jA (Kd.R_below Z143 hb) (jA (Kd.R_lower hoq6 (below_size Z298)) (Aside0.mk (below_step Z298 hb)));clear HO520 HB;obtain ⟨HO520,HO523,HB⟩ := n_;(try clear hb);(try clear hb2);(try clear hk);(try clear hi);(try clear hoq6);obtain ⟨Aoq7,coq7,eoq7⟩ := Kd.R_slice HO523.out;subst eoq7))
  go_ret2
  exact ⟨_,Z152,Z143,Z298⟩
 rw [if_neg c3] at H
 have c3b0 : decide (4 < (t521.length : Int)) = false := decide_eq_false c3
 have c3b1 : decide (4 < t521.length) = false := decide_eq_false Z285
 clear c3
 have H' := Aside0.mk H
 clear H
 go_enter Tryz.func56,Tryz.ntmps56
 go_wp2_with (first | ((with_reducible refine gate_dst (N := 7) rfl ?_);refine Kd.R_lit (Kd.int .i64) _ 3 ?hg (N := 7) ?hd (xs := ([] : List Int)) (inner := []) (ok := fun _ => True) (okp := fun _ => True) ?hr ?hp (fun _ hk => hk) trivial (Below.refl _ _) (Nat.le_refl _) Z286 ?_;(case hd => rfl);(case hg => rfl);(case hr => exact Z166);(case hp => exact Z185);intro v519 w8 ho9 hb hg_ hnew_;clear hg_ hnew_;(first | rw [← Ny518.out] at ho9 | (simp only [Int.reduceToNat] at ho9;rw [← Ny518.out] at ho9));have n_ := Z59;clear HB;obtain ⟨HO520,HB⟩ := n_;clear hb ho9) | ((with_reducible refine gate_callee (f := 35) rfl ?_);refine goesL_ (some 9) rfl rfl Tryz.func35 Z190 rfl #[.string a0,.int .u8 44] rfl Z130 ?_;(with_reducible refine (spec_Parts.calls k a0 44 t521 _ A2.out).mono ?_);rintro e w10 ⟨v522,rfl,ho0,hb⟩;refine ⟨_,rfl,?_⟩;have n_ := jA (Kd.R_below Z143 hb) (jA (Kd.R_lower ho0 (below_size Z298)) (Aside0.mk (below_step Z298 hb)));clear HO520 HB;obtain ⟨HO520,HO523,HB⟩ := n_;(try clear hb);(try clear hb2);(try clear hk);(try clear hi);(try clear ho0);obtain ⟨Ao11,co11,eo11⟩ := Kd.R_slice HO523.out;subst eo11))
 go_loopg [4,6] k (fun kq v4 v6 w' => ∃ (x4_1 : List Int) (x6_1 : Int),v6 = .int .i64 x6_1 ∧ Aside0 (spec_l8Signs.l0 kq x4_1 t521 x6_1 = some (r1,r2)) ∧ Aside0 (kq ≤ k) ∧ Aside0 (Kd.R (Kd.int .i64) 3 w' w.heap.size (fun _ => True) v4 x4_1) ∧ Aside0 (Kd.R Kd.string 9 w' w.heap.size (fun _ => True) (.slice Ao11 t521.length co11) t521) ∧ Aside0 (Below w.heap.size w w'))
 case atStart => exact ⟨(y518),(0),Z165,H',⟨Nat.le_refl _⟩,⟨Z143⟩,⟨by (with_reducible repeat (first | apply Kd.R_alloc | apply Kd.R_drewN | apply Kd.R_drew));exact HO523.out⟩,⟨Z298⟩⟩
 case round =>
  clear H'
  try clear p2
  try clear c3
  try clear c3b0
  try clear c3b1
  try clear c5
  obtain ⟨x4_1,x6_1,rfl,HA,HK1,HO_4,HO_5,HB⟩ := hrel
  cases gk with
  | zero => exact absurd HA.out (by simp [spec_l8Signs.l0])
  | succ k1 =>
   have H := HA.out
   clear HA
   simp only [spec_l8Signs.l0] at H
   by_cases c12 : x6_1 < (t521.length : Int)
   rotate_left
   ·rw [if_neg c12] at H
    have c12b0 : decide (x6_1 < (t521.length : Int)) = false := decide_eq_false c12
    clear c12
    simp only [Option.some.injEq,Prod.mk.injEq] at H
    obtain ⟨rfl,rfl⟩ := H
    go_wp2
    go_ret2
    exact ⟨_,Z152,Z269,Z298⟩
   rw [if_pos c12] at H
   have c12b0 : decide (x6_1 < (t521.length : Int)) = true := decide_eq_true c12
   clear c12
   obtain ⟨c13,H⟩ := ifp H
   have c13b0 : decide (0 ≤ x6_1) = true := decide_eq_true c13
   clear c13
   by_cases c14 : (rdOf ByteArray.empty t521 x6_1).toList = ([43] : List UInt8)
   ·rw [if_pos c14] at H
    have c14b0 : ((rdOf ByteArray.empty t521 x6_1).toList == ([43] : List UInt8)) = true := beq_iff_eq.mpr c14
    have c14b1 : ((rdOf ByteArray.empty t521 x6_1).toList != ([43] : List UInt8)) = false := bne_eq_false_iff_eq.mpr c14
    clear c14
    obtain ⟨c15,H⟩ := ifp H
    have LMc15 := Aside0.mk c15
    clear c15
    obtain ⟨y525,hyy⟩ : ∃ y_ : List Int,y_ = (x4_1 ++ [1]) := ⟨_,rfl⟩
    replace H : (spec_l8Signs.l0 k1 y525 t521 (wrap64 (x6_1 + 1))) = some (r1,r2) := zR
    have Ny525 := Aside0.mk hyy
    clear hyy
    have H' := Aside0.mk H
    clear H
    have p524 : 0 ≤ (x6_1 : Int) := of_decide_eq_true Z164
    have q524 : x6_1 < (t521.length : Int) := of_decide_eq_true Z164
    obtain ⟨ad524,e524,hx524_0⟩ := Kd.at_string (Kd.R_reads' HO_5.out).2.2 x6_1 p524 q524
    cases e524
    replace p524 := eq_true p524
    replace q524 := eq_true q524
    go_wp2_with (first | ((with_reducible refine gate_builtin (b := .append) (xs := #[.tmp 27,.tmp 28]) rfl ?_);at_builtin;refine Kd.R_append (Kd.int .i64) (w0 := w) w.heap.size rfl (.tmp 27) (.tmp 28) 24 3 (.int .i64 0) 8 rfl Tryz.underlying24 info3 rfl Z306 Z285 u4 x4_1 1 [.int .i64 1] (fun _ => True) (fun _ => False) rfl rfl ?aP (fun _ hk => hk.elim) ?aF ?aO ?aB ?aS ?aL ?_;(case aP => exact rfl);(case aB => exact Z128);(case aF => exact Z183);(case aO => exact Z134);(case aS => exact Z126);(case aL => have := LMc15.out;omega);intro v526 w16 ho hb hg hat;rw [← Ny525.out] at ho;have n_ := Z62;clear HO_5 HB HO_4;obtain ⟨HO_5,HB,HO527⟩ := n_;clear ho hb hg hat))
    go_roundg k1
    case measure => have := HK1.out;omega
    case rel => exact ⟨(y525),(wrap64 (x6_1 + 1)),Z165,H',⟨Z184⟩,⟨by (with_reducible repeat (first | apply Kd.R_alloc | apply Kd.R_drewN | apply Kd.R_drew));exact HO527.out⟩,⟨Z267⟩,⟨Z298⟩⟩
   rw [if_neg c14] at H
   have c14b0 : ((rdOf ByteArray.empty t521 x6_1).toList == ([43] : List UInt8)) = false := beq_eq_false_iff_ne.mpr c14
   have c14b1 : ((rdOf ByteArray.empty t521 x6_1).toList != ([43] : List UInt8)) = true := bne_iff_ne.mpr c14
   by_cases c17 : (rdOf ByteArray.empty t521 x6_1).toList = ([48] : List UInt8)
   ·rw [if_pos c17] at H
    have c17b0 : ((rdOf ByteArray.empty t521 x6_1).toList == ([48] : List UInt8)) = true := beq_iff_eq.mpr c17
    have c17b1 : ((rdOf ByteArray.empty t521 x6_1).toList != ([48] : List UInt8)) = false := bne_eq_false_iff_eq.mpr c17
    clear c17
    obtain ⟨c18,H⟩ := ifp H
    have LMc18 := Aside0.mk c18
    clear c18
    obtain ⟨y528,hyy⟩ : ∃ y_ : List Int,y_ = (x4_1 ++ [0]) := ⟨_,rfl⟩
    replace H : (spec_l8Signs.l0 k1 y528 t521 (wrap64 (x6_1 + 1))) = some (r1,r2) := zR
    have Ny528 := Aside0.mk hyy
    clear hyy
    have H' := Aside0.mk H
    clear H
    have p524 : 0 ≤ (x6_1 : Int) := of_decide_eq_true Z164
    have q524 : x6_1 < (t521.length : Int) := of_decide_eq_true Z164
    obtain ⟨ad524,e524,hx524_0⟩ := Kd.at_string (Kd.R_reads' HO_5.out).2.2 x6_1 p524 q524
    cases e524
    replace p524 := eq_true p524
    replace q524 := eq_true q524
    go_wp2_with (first | ((with_reducible refine gate_builtin (b := .append) (xs := #[.tmp 32,.tmp 33]) rfl ?_);at_builtin;refine Kd.R_append (Kd.int .i64) (w0 := w) w.heap.size rfl (.tmp 32) (.tmp 33) 24 3 (.int .i64 0) 8 rfl Tryz.underlying24 info3 rfl Z306 Z285 u4 x4_1 0 [.int .i64 0] (fun _ => True) (fun _ => False) rfl rfl ?aP (fun _ hk => hk.elim) ?aF ?aO ?aB ?aS ?aL ?_;(case aP => exact rfl);(case aB => exact Z128);(case aF => exact Z183);(case aO => exact Z134);(case aS => exact Z126);(case aL => have := LMc18.out;omega);intro v529 w19 ho hb hg hat;rw [← Ny528.out] at ho;have n_ := Z62;clear HO_5 HB HO_4;obtain ⟨HO_5,HB,HO530⟩ := n_;clear ho hb hg hat))
    go_roundg k1
    case measure => have := HK1.out;omega
    case rel => exact ⟨(y528),(wrap64 (x6_1 + 1)),Z165,H',⟨Z184⟩,⟨by (with_reducible repeat (first | apply Kd.R_alloc | apply Kd.R_drewN | apply Kd.R_drew));exact HO530.out⟩,⟨Z267⟩,⟨Z298⟩⟩
   rw [if_neg c17] at H
   have c17b0 : ((rdOf ByteArray.empty t521 x6_1).toList == ([48] : List UInt8)) = false := beq_eq_false_iff_ne.mpr c17
   have c17b1 : ((rdOf ByteArray.empty t521 x6_1).toList != ([48] : List UInt8)) = true := bne_iff_ne.mpr c17
   by_cases c20 : (rdOf ByteArray.empty t521 x6_1).toList = ([45] : List UInt8)
   rotate_left
   ·rw [if_neg c20] at H
    have c20b0 : ((rdOf ByteArray.empty t521 x6_1).toList == ([45] : List UInt8)) = false := beq_eq_false_iff_ne.mpr c20
    have c20b1 : ((rdOf ByteArray.empty t521 x6_1).toList != ([45] : List UInt8)) = true := bne_iff_ne.mpr c20
    obtain ⟨y534,hyy⟩ : ∃ y_ : List Int,y_ = (([] : List Int)) := ⟨_,rfl⟩
    replace H : (some (y534,false)) = some (r1,r2) := zR
    have Ny534 := Aside0.mk hyy
    clear hyy
    simp only [Option.some.injEq,Prod.mk.injEq] at H
    obtain ⟨rfl,rfl⟩ := H
    have p524 : 0 ≤ (x6_1 : Int) := of_decide_eq_true Z164
    have q524 : x6_1 < (t521.length : Int) := of_decide_eq_true Z164
    obtain ⟨ad524,e524,hx524_0⟩ := Kd.at_string (Kd.R_reads' HO_5.out).2.2 x6_1 p524 q524
    cases e524
    replace p524 := eq_true p524
    replace q524 := eq_true q524
    go_wp2_with (first | ((with_reducible refine gate_dst (N := 24) rfl ?_);refine Kd.R_lit (Kd.int .i64) _ 3 ?hg (N := 24) ?hd (xs := ([] : List Int)) (inner := []) (ok := fun _ => True) (okp := fun _ => True) ?hr ?hp (fun _ hk => hk) trivial (Below.refl _ _) (Nat.le_refl _) Z286 ?_;(case hd => rfl);(case hg => rfl);(case hr => exact Z166);(case hp => exact Z185);intro vq1 wq2 hoq3 hb hg_ hnew_;clear hg_ hnew_;(first | rw [← Ny534.out] at hoq3 | (simp only [Int.reduceToNat] at hoq3;rw [← Ny534.out] at hoq3));have n_ := jA (Kd.R_elder' Z269 (Kd.R_base hoq3) hb) (jA (Kd.R_below Z267 hb) (jA (Kd.R_lower (Kd.R_new' hoq3 (Kd.R_lt Z269)) (below_size Z298)) (Aside0.mk (below_step Z298 hb))));clear HO_4 HO_5 HB;obtain ⟨HO_4,HO_5,HO536,HB⟩ := n_;clear hb hoq3))
    go_ret2
    exact ⟨_,Z152,by (with_reducible repeat (first | apply Kd.R_alloc | apply Kd.R_drewN | apply Kd.R_drew));exact Kd.R_mono HO536.out (fun _ hk => trivial),Z298⟩
   rw [if_pos c20] at H
   have c20b0 : ((rdOf ByteArray.empty t521 x6_1).toList == ([45] : List UInt8)) = true := beq_iff_eq.mpr c20
   have c20b1 : ((rdOf ByteArray.empty t521 x6_1).toList != ([45] : List UInt8)) = false := bne_eq_false_iff_eq.mpr c20
   clear c20
   obtain ⟨c21,H⟩ := ifp H
   have LMc21 := Aside0.mk c21
   clear c21
   obtain ⟨y531,hyy⟩ : ∃ y_ : List Int,y_ = (x4_1 ++ [(-1)]) := ⟨_,rfl⟩
   replace H : (spec_l8Signs.l0 k1 y531 t521 (wrap64 (x6_1 + 1))) = some (r1,r2) := zR
   have Ny531 := Aside0.mk hyy
   clear hyy
   have H' := Aside0.mk H
   clear H
   have p524 : 0 ≤ (x6_1 : Int) := of_decide_eq_true Z164
   have q524 : x6_1 < (t521.length : Int) := of_decide_eq_true Z164
   obtain ⟨ad524,e524,hx524_0⟩ := Kd.at_string (Kd.R_reads' HO_5.out).2.2 x6_1 p524 q524
   cases e524
   replace p524 := eq_true p524
   replace q524 := eq_true q524
   go_wp2_with (first | ((with_reducible refine gate_builtin (b := .append) (xs := #[.tmp 37,.tmp 38]) rfl ?_);at_builtin;refine Kd.R_append (Kd.int .i64) (w0 := w) w.heap.size rfl (.tmp 37) (.tmp 38) 24 3 (.int .i64 0) 8 rfl Tryz.underlying24 info3 rfl Z306 Z285 u4 x4_1 (-1) [.int .i64 (-1)] (fun _ => True) (fun _ => False) rfl rfl ?aP (fun _ hk => hk.elim) ?aF ?aO ?aB ?aS ?aL ?_;(case aP => exact rfl);(case aB => exact Z128);(case aF => exact Z183);(case aO => exact Z134);(case aS => exact Z126);(case aL => have := LMc21.out;omega);intro v532 w22 ho hb hg hat;rw [← Ny531.out] at ho;have n_ := Z62;clear HO_5 HB HO_4;obtain ⟨HO_5,HB,HO533⟩ := n_;clear ho hb hg hat))
   go_roundg k1
   case measure => have := HK1.out;omega
   case rel => exact ⟨(y531),(wrap64 (x6_1 + 1)),Z165,H',⟨Z184⟩,⟨by (with_reducible repeat (first | apply Kd.R_alloc | apply Kd.R_drewN | apply Kd.R_drew));exact HO533.out⟩,⟨Z267⟩,⟨Z298⟩⟩

theorem tdiv_w (d : Int) (h0 : 0 ≤ d) (h1 : d < 256) : wrap64 (Int.tdiv ((-9223372036854775808) + d) 10) = Int.tdiv ((-9223372036854775808) + d) 10 := by
 have e : Int.tdiv ((-9223372036854775808) + d) 10 = -((9223372036854775808 - d) / 10) := by
  rw [show (-9223372036854775808) + d = -(9223372036854775808 - d) by omega, Int.neg_tdiv, Int.tdiv_eq_ediv_of_nonneg Z285]
 rw [e]
 unfold wrap64
 omega
/-! ### spec_IntText: function 68 -/
mutual
def spec_IntText.j0 : Nat → ByteArray → Bool → Option (Int × Bool)
 | 0,_,_ => none
 | k + 1,x0,x15 => if x15 = true then (some (0,false)) else (if 0 < (x0.size : Int) then (if (bt x0 0) = 45 then (spec_IntText.j1 k x0 1) else (spec_IntText.j1 k x0 0)) else (none))
def spec_IntText.j1 : Nat → ByteArray → Int → Option (Int × Bool)
 | 0,_,_ => none
 | k + 1,x0,x4 => spec_IntText.l0 k x0 x4 0 x4
def spec_IntText.l0 : Nat → ByteArray → Int → Int → Int → Option (Int × Bool)
 | 0,_,_,_,_ => none
 | k + 1,x0,x4,x5,x6 => if x6 < (x0.size : Int) then (if 0 ≤ x6 then (if (bt x0 x6) < 48 then (spec_IntText.j3 k x0 x4 x5 x6 true) else (spec_IntText.j3 k x0 x4 x5 x6 (decide ((bt x0 x6) > 57)))) else (none)) else (if x4 = 0 then (if x5 = (-9223372036854775808) then (some (0,false)) else ((spec_Digits.f k (wrap64 (-x5))).bind fun t537 => (if t537.toList = x0.toList then (some (wrap64 (-x5),true)) else (some (0,false))))) else ((spec_Digits.f k x5).bind fun t538 => (if t538.toList = x0.toList then (some (x5,true)) else (some (0,false)))))
def spec_IntText.j3 : Nat → ByteArray → Int → Int → Int → Bool → Option (Int × Bool)
 | 0,_,_,_,_,_ => none
 | k + 1,x0,x4,x5,x6,x35 => if x35 = true then (some (0,false)) else (if 0 ≤ x6 then (if x6 < (x0.size : Int) then (if x5 < (wrap64 (Int.tdiv ((-9223372036854775808) + (((bt x0 x6) - 48) % 256)) 10)) then (some (0,false)) else (spec_IntText.l0 k x0 x4 (wrap64 ((wrap64 (10 * x5)) - (((bt x0 x6) - 48) % 256))) (wrap64 (x6 + 1)))) else (none)) else (none))
end
def spec_IntText.f (k : Nat) (a0 : ByteArray) : Option (Int × Bool) := if (a0.size : Int) < 1 then (spec_IntText.j0 k a0 true) else (spec_IntText.j0 k a0 (decide ((a0.size : Int) > 20)))
theorem spec_IntText.mono_l : ∀ k,(∀ y0 y1,LeO (spec_IntText.j0 k y0 y1) (spec_IntText.j0 (k + 1) y0 y1)) ∧ (∀ y0 y1,LeO (spec_IntText.j1 k y0 y1) (spec_IntText.j1 (k + 1) y0 y1)) ∧ (∀ y0 y1 y2 y3,LeO (spec_IntText.l0 k y0 y1 y2 y3) (spec_IntText.l0 (k + 1) y0 y1 y2 y3)) ∧ (∀ y0 y1 y2 y3 y4,LeO (spec_IntText.j3 k y0 y1 y2 y3 y4) (spec_IntText.j3 (k + 1) y0 y1 y2 y3 y4))
 | 0 => ⟨fun _ _ r h => by simp [spec_IntText.j0] at h,fun _ _ r h => by simp [spec_IntText.j1] at h,fun _ _ _ _ r h => by simp [spec_IntText.l0] at h,fun _ _ _ _ _ r h => by simp [spec_IntText.j3] at h⟩
 | k + 1 => by
  obtain ⟨ih0,ih1,ih2,ih3⟩ := spec_IntText.mono_l k
  refine ⟨?_,?_,?_,?_⟩
  ·intro y0 y1
   unfold spec_IntText.j0
   repeat' first
   | (with_reducible exact ih0 _ _)
   | (with_reducible exact ih1 _ _)
   | (with_reducible exact ih2 _ _ _ _)
   | (with_reducible exact ih3 _ _ _ _ _)
   | (with_reducible exact spec_Digits.mono _ _)
   | (with_reducible exact LeO.refl _)
   | (with_reducible exact LeO.none _)
   | (with_reducible refine LeO.ite ?_ ?_)
   | (with_reducible refine LeO.bind ?_ (fun _ => ?_))
   | exact ih0 _ _
   | exact ih1 _ _
   | exact ih2 _ _ _ _
   | exact ih3 _ _ _ _ _
   | exact spec_Digits.mono _ _
   | exact LeO.none _
   | refine LeO.ite ?_ ?_
   | refine LeO.bind ?_ (fun _ => ?_)
  ·intro y0 y1
   unfold spec_IntText.j1
   repeat' first
   | (with_reducible exact ih0 _ _)
   | (with_reducible exact ih1 _ _)
   | (with_reducible exact ih2 _ _ _ _)
   | (with_reducible exact ih3 _ _ _ _ _)
   | (with_reducible exact spec_Digits.mono _ _)
   | (with_reducible exact LeO.refl _)
   | (with_reducible exact LeO.none _)
   | (with_reducible refine LeO.ite ?_ ?_)
   | (with_reducible refine LeO.bind ?_ (fun _ => ?_))
   | exact ih0 _ _
   | exact ih1 _ _
   | exact ih2 _ _ _ _
   | exact ih3 _ _ _ _ _
   | exact spec_Digits.mono _ _
   | exact LeO.none _
   | refine LeO.ite ?_ ?_
   | refine LeO.bind ?_ (fun _ => ?_)
  ·intro y0 y1 y2 y3
   unfold spec_IntText.l0
   repeat' first
   | (with_reducible exact ih0 _ _)
   | (with_reducible exact ih1 _ _)
   | (with_reducible exact ih2 _ _ _ _)
   | (with_reducible exact ih3 _ _ _ _ _)
   | (with_reducible exact spec_Digits.mono _ _)
   | (with_reducible exact LeO.refl _)
   | (with_reducible exact LeO.none _)
   | (with_reducible refine LeO.ite ?_ ?_)
   | (with_reducible refine LeO.bind ?_ (fun _ => ?_))
   | exact ih0 _ _
   | exact ih1 _ _
   | exact ih2 _ _ _ _
   | exact ih3 _ _ _ _ _
   | exact spec_Digits.mono _ _
   | exact LeO.none _
   | refine LeO.ite ?_ ?_
   | refine LeO.bind ?_ (fun _ => ?_)
  ·intro y0 y1 y2 y3 y4
   unfold spec_IntText.j3
   repeat' first
   | (with_reducible exact ih0 _ _)
   | (with_reducible exact ih1 _ _)
   | (with_reducible exact ih2 _ _ _ _)
   | (with_reducible exact ih3 _ _ _ _ _)
   | (with_reducible exact spec_Digits.mono _ _)
   | (with_reducible exact LeO.refl _)
   | (with_reducible exact LeO.none _)
   | (with_reducible refine LeO.ite ?_ ?_)
   | (with_reducible refine LeO.bind ?_ (fun _ => ?_))
   | exact ih0 _ _
   | exact ih1 _ _
   | exact ih2 _ _ _ _
   | exact ih3 _ _ _ _ _
   | exact spec_Digits.mono _ _
   | exact LeO.none _
   | refine LeO.ite ?_ ?_
   | refine LeO.bind ?_ (fun _ => ?_)
theorem spec_IntText.mono : ∀ a0 k,LeO (spec_IntText.f k a0) (spec_IntText.f (k + 1) a0) := by
 intro a0 k
 obtain ⟨ih0,ih1,ih2,ih3⟩ := spec_IntText.mono_l k
 unfold spec_IntText.f
 repeat' first
   | (with_reducible exact ih0 _ _)
   | (with_reducible exact ih1 _ _)
   | (with_reducible exact ih2 _ _ _ _)
   | (with_reducible exact ih3 _ _ _ _ _)
   | (with_reducible exact spec_Digits.mono _ _)
   | (with_reducible exact LeO.refl _)
   | (with_reducible exact LeO.none _)
   | (with_reducible refine LeO.ite ?_ ?_)
   | (with_reducible refine LeO.bind ?_ (fun _ => ?_))
   | exact ih0 _ _
   | exact ih1 _ _
   | exact ih2 _ _ _ _
   | exact ih3 _ _ _ _ _
   | exact spec_Digits.mono _ _
   | exact LeO.none _
   | refine LeO.ite ?_ ?_
   | refine LeO.bind ?_ (fun _ => ?_)
set_option maxHeartbeats 8000000 in
set_option maxRecDepth 100000 in
theorem spec_IntText.calls (k : Nat) (a0 : ByteArray) (r1 : Int) (r2 : Bool) (w : World) (h : spec_IntText.f k a0 = some (r1,r2)) :
  Calls Tryz.prog 68 #[.string a0] w fun e w' => e = .returned (.tuple #[.int .i64 r1,.bool r2]) ∧ Below w.heap.size w w' := by
 have HB := Aside0.mk (Below.refl w.heap.size w)
 have H := h
 clear h
 unfold spec_IntText.f at H
 have HC2 := Aside0.mk H
 clear H
 go_enter Tryz.func68,Tryz.ntmps68
 go_upto_region 1 with (fail)
 go_cut [15] (fun v15 wc => ∃ (kq : Nat) (x15_1 : Bool),v15 = .bool x15_1 ∧ Aside0 (spec_IntText.j0 kq a0 x15_1 = some (r1,r2)) ∧ Aside0 (kq ≤ k) ∧ Aside0 (Below w.heap.size w wc))
 case first =>
  have H := HC2.out
  clear HC2
  by_cases c3 : (a0.size : Int) < 1
  ·rw [if_pos c3] at H
   have c3b0 : decide ((a0.size : Int) < 1) = true := decide_eq_true c3
   have c3b1 : decide (a0.size < 1) = true := decide_eq_true Z285
   clear c3
   (first | rw [c3b0] | (simp only [i64_w,i32_w];rw [c3b0]) | skip)
   have H' := Aside0.mk H
   clear H
   go_wp2
   go_meet
   case rel => exact ⟨_,(true),Z165,H',⟨Z169⟩,⟨Z298⟩⟩
  rw [if_neg c3] at H
  have c3b0 : decide ((a0.size : Int) < 1) = false := decide_eq_false c3
  have c3b1 : decide (a0.size < 1) = false := decide_eq_false Z285
  clear c3
  (first | rw [c3b0] | (simp only [i64_w,i32_w];rw [c3b0]) | skip)
  have H' := Aside0.mk H
  clear H
  go_wp2
  go_meet
  case rel => exact ⟨_,(decide ((a0.size : Int) > 20)),Z165,H',⟨Z169⟩,⟨Z298⟩⟩
 case rest =>
  clear HC2
  try clear p2
  try clear c3
  try clear c3b0
  try clear c3b1
  obtain ⟨kq,x15_1,rfl,HA,HJ1,HB⟩ := hcut
  cases kq with
  | zero => exact absurd HA.out (by simp [spec_IntText.j0])
  | succ kj1 =>
   have H := HA.out
   clear HA
   simp only [spec_IntText.j0] at H
   by_cases c4 : x15_1 = true
   ·subst c4
    rw [if_pos rfl] at H
    simp only [Option.some.injEq,Prod.mk.injEq] at H
    obtain ⟨rfl,rfl⟩ := H
    go_wp2
    go_ret2
    exact ⟨Z152,Z298⟩
   replace c4 := Bool.eq_false_iff.mpr c4
   subst c4
   rw [if_neg Bool.false_ne_true] at H
   obtain ⟨c5,H⟩ := ifp H
   have c5b0 : decide (0 < (a0.size : Int)) = true := decide_eq_true c5
   have c5b1 : decide (0 < a0.size) = true := decide_eq_true Z285
   clear c5
   have HC7 := Aside0.mk H
   clear H
   have p6 : 0 ≤ (0 : Int) := Z285
   have q6 : 0 < a0.size := (by have : (0 : Int) < (a0.size : Int) := of_decide_eq_true Z164;omega)
   have hx6 : ∀ h : 0 < a0.size,((a0[0]'h).toNat : Int) = bt a0 0 := bt_at a0 0
   clear p6
   have qi6 : (0 < (a0.size : Int)) = True := eq_true (of_decide_eq_true Z164)
   replace q6 := eq_true q6
   go_upto_if 18 with (fail)
   go_cut [4] (fun v4 wc => ∃ (kq : Nat) (x4_6 : Int),v4 = .int .i64 x4_6 ∧ Aside0 (spec_IntText.j1 kq a0 x4_6 = some (r1,r2)) ∧ Aside0 (kq ≤ kj1) ∧ Aside0 (Below w.heap.size w wc))
   case first =>
    have H := HC7.out
    clear HC7
    by_cases c8 : (bt a0 0) = 45
    rotate_left
    ·rw [if_neg c8] at H
     have c8b0 : ((bt a0 0) == 45) = false := beq_eq_false_iff_ne.mpr c8
     have c8b1 : ((bt a0 0) != 45) = true := bne_iff_ne.mpr c8
     (first | rw [c8b0] | (simp only [i64_w,i32_w];rw [c8b0]) | skip)
     have H' := Aside0.mk H
     clear H
     go_wp2
     go_meet
     case rel => exact ⟨_,(0),Z165,H',⟨Z163⟩,⟨Z298⟩⟩
    rw [if_pos c8] at H
    have c8b0 : ((bt a0 0) == 45) = true := beq_iff_eq.mpr c8
    have c8b1 : ((bt a0 0) != 45) = false := bne_eq_false_iff_eq.mpr c8
    clear c8
    (first | rw [c8b0] | (simp only [i64_w,i32_w];rw [c8b0]) | skip)
    have H' := Aside0.mk H
    clear H
    go_wp2
    go_meet
    case rel => exact ⟨_,(1),Z165,H',⟨Z163⟩,⟨Z298⟩⟩
   case rest =>
    clear HC7
    try clear p2
    try clear c3
    try clear c3b0
    try clear c3b1
    try clear c4
    try clear c5
    try clear c5b0
    try clear c5b1
    try clear c6
    try clear p6
    try clear q6
    try clear hx6
    try clear qi6
    try clear c8
    try clear c8b0
    try clear c8b1
    try clear p2
    try clear p6
    try clear q6
    obtain ⟨kq,x4_6,rfl,HA,HJ6,HB⟩ := hcut
    cases kq with
    | zero => exact absurd HA.out (by simp [spec_IntText.j1])
    | succ kj6 =>
     have H := HA.out
     clear HA
     simp only [spec_IntText.j1] at H
     have H' := Aside0.mk H
     clear H
     go_wp2
     go_loopg [5,6] kj6 (fun kq v5 v6 w' => ∃ (x5_3 : Int) (x6_3 : Int),v5 = .int .i64 x5_3 ∧ v6 = .int .i64 x6_3 ∧ Aside0 (spec_IntText.l0 kq a0 x4_6 x5_3 x6_3 = some (r1,r2)) ∧ Aside0 (kq ≤ kj6) ∧ Aside0 (Below w.heap.size w w'))
     case atStart => exact ⟨(0),(x4_6),Z165,Z165,H',⟨Nat.le_refl _⟩,⟨Z298⟩⟩
     case round =>
      clear H'
      try clear p2
      try clear c3
      try clear c3b0
      try clear c3b1
      try clear c4
      try clear c5
      try clear c5b0
      try clear c5b1
      try clear c6
      try clear p6
      try clear q6
      try clear hx6
      try clear qi6
      try clear c8
      try clear c8b0
      try clear c8b1
      try clear p2
      try clear p6
      try clear q6
      obtain ⟨x5_3,x6_3,rfl,rfl,HA,HK3,HB⟩ := hrel
      cases gk with
      | zero => exact absurd HA.out (by simp [spec_IntText.l0])
      | succ k3 =>
       have H := HA.out
       clear HA
       simp only [spec_IntText.l0] at H
       by_cases c9 : x6_3 < (a0.size : Int)
       rotate_left
       ·rw [if_neg c9] at H
        have c9b0 : decide (x6_3 < (a0.size : Int)) = false := decide_eq_false c9
        clear c9
        by_cases c20 : x4_6 = 0
        rotate_left
        ·rw [if_neg c20] at H
         have c20b0 : (x4_6 == 0) = false := beq_eq_false_iff_ne.mpr c20
         have c20b1 : (x4_6 != 0) = true := bne_iff_ne.mpr c20
         obtain ⟨t538,A260,H⟩ := Option.bind_eq_some_iff.mp H
         have A26 := Aside0.mk A260
         clear A260
         by_cases c27 : t538.toList = a0.toList
         rotate_left
         ·rw [if_neg c27] at H
          have c27b0 : (t538.toList == a0.toList) = false := beq_eq_false_iff_ne.mpr c27
          have c27b1 : (t538.toList != a0.toList) = true := bne_iff_ne.mpr c27
          simp only [Option.some.injEq,Prod.mk.injEq] at H
          obtain ⟨rfl,rfl⟩ := H
          go_wp2_with (first | ((with_reducible refine gate_callee (f := 21) rfl ?_);refine goesL_ (some 57) rfl rfl Tryz.func21 Z190 rfl #[.int .i64 x5_3] rfl Z130 ?_;(with_reducible refine (spec_Digits.calls k3 x5_3 t538 _ A26.out).mono ?_);rintro e wq1 ⟨rfl,hb⟩;refine ⟨_,rfl,?_⟩;have n0_ := Aside0.mk (below_step Z298 hb);clear HB;have HB := n0_;clear n0_;(try clear hb);(try clear hb2);(try clear hk);(try clear hi)))
          go_ret2
          exact ⟨Z152,Z298⟩
         rw [if_pos c27] at H
         have c27b0 : (t538.toList == a0.toList) = true := beq_iff_eq.mpr c27
         have c27b1 : (t538.toList != a0.toList) = false := bne_eq_false_iff_eq.mpr c27
         clear c27
         simp only [Option.some.injEq,Prod.mk.injEq] at H
         obtain ⟨rfl,rfl⟩ := H
         go_wp2_with (first | ((with_reducible refine gate_callee (f := 21) rfl ?_);refine goesL_ (some 57) rfl rfl Tryz.func21 Z190 rfl #[.int .i64 x5_3] rfl Z130 ?_;(with_reducible refine (spec_Digits.calls k3 x5_3 t538 _ A26.out).mono ?_);rintro e wq1 ⟨rfl,hb⟩;refine ⟨_,rfl,?_⟩;have n0_ := Aside0.mk (below_step Z298 hb);clear HB;have HB := n0_;clear n0_;(try clear hb);(try clear hb2);(try clear hk);(try clear hi)))
         go_ret2
         exact ⟨Z152,Z298⟩
        rw [if_pos c20] at H
        have c20b0 : (x4_6 == 0) = true := beq_iff_eq.mpr c20
        have c20b1 : (x4_6 != 0) = false := bne_eq_false_iff_eq.mpr c20
        clear c20
        by_cases c21 : x5_3 = (-9223372036854775808)
        ·rw [if_pos c21] at H
         have c21b0 : (x5_3 == (-9223372036854775808)) = true := beq_iff_eq.mpr c21
         have c21b1 : (x5_3 != (-9223372036854775808)) = false := bne_eq_false_iff_eq.mpr c21
         clear c21
         simp only [Option.some.injEq,Prod.mk.injEq] at H
         obtain ⟨rfl,rfl⟩ := H
         go_wp2
         go_ret2
         exact ⟨Z152,Z298⟩
        rw [if_neg c21] at H
        have c21b0 : (x5_3 == (-9223372036854775808)) = false := beq_eq_false_iff_ne.mpr c21
        have c21b1 : (x5_3 != (-9223372036854775808)) = true := bne_iff_ne.mpr c21
        obtain ⟨t537,A220,H⟩ := Option.bind_eq_some_iff.mp H
        have A22 := Aside0.mk A220
        clear A220
        by_cases c23 : t537.toList = a0.toList
        rotate_left
        ·rw [if_neg c23] at H
         have c23b0 : (t537.toList == a0.toList) = false := beq_eq_false_iff_ne.mpr c23
         have c23b1 : (t537.toList != a0.toList) = true := bne_iff_ne.mpr c23
         simp only [Option.some.injEq,Prod.mk.injEq] at H
         obtain ⟨rfl,rfl⟩ := H
         go_wp2_with (first | ((with_reducible refine gate_callee (f := 21) rfl ?_);refine goesL_ (some 57) rfl rfl Tryz.func21 Z190 rfl #[.int .i64 (wrap64 (-x5_3))] rfl Z130 ?_;(with_reducible refine (spec_Digits.calls k3 (wrap64 (-x5_3)) t537 _ A22.out).mono ?_);rintro e wq1 ⟨rfl,hb⟩;refine ⟨_,rfl,?_⟩;have n0_ := Aside0.mk (below_step Z298 hb);clear HB;have HB := n0_;clear n0_;(try clear hb);(try clear hb2);(try clear hk);(try clear hi)))
         go_ret2
         exact ⟨Z152,Z298⟩
        rw [if_pos c23] at H
        have c23b0 : (t537.toList == a0.toList) = true := beq_iff_eq.mpr c23
        have c23b1 : (t537.toList != a0.toList) = false := bne_eq_false_iff_eq.mpr c23
        clear c23
        simp only [Option.some.injEq,Prod.mk.injEq] at H
        obtain ⟨rfl,rfl⟩ := H
        go_wp2_with (first | ((with_reducible refine gate_callee (f := 21) rfl ?_);refine goesL_ (some 57) rfl rfl Tryz.func21 Z190 rfl #[.int .i64 (wrap64 (-x5_3))] rfl Z130 ?_;(with_reducible refine (spec_Digits.calls k3 (wrap64 (-x5_3)) t537 _ A22.out).mono ?_);rintro e wq1 ⟨rfl,hb⟩;refine ⟨_,rfl,?_⟩;have n0_ := Aside0.mk (below_step Z298 hb);clear HB;have HB := n0_;clear n0_;(try clear hb);(try clear hb2);(try clear hk);(try clear hi)))
        go_ret2
        exact ⟨Z152,Z298⟩
       rw [if_pos c9] at H
       have c9b0 : decide (x6_3 < (a0.size : Int)) = true := decide_eq_true c9
       clear c9
       have HC10 := Aside0.mk H
       clear H
       go_upto_region 10 with (fail)
       go_cut [35] (fun v35 wc => ∃ (kq : Nat) (x35_9 : Bool),v35 = .bool x35_9 ∧ Aside0 (spec_IntText.j3 kq a0 x4_6 x5_3 x6_3 x35_9 = some (r1,r2)) ∧ Aside0 (kq ≤ k3) ∧ Aside0 (Below w.heap.size w wc))
       case first =>
        have H := HC10.out
        clear HC10
        obtain ⟨c11,H⟩ := ifp H
        have c11b0 : decide (0 ≤ x6_3) = true := decide_eq_true c11
        clear c11
        (first | rw [c11b0] | (simp only [i64_w,i32_w];rw [c11b0]) | skip)
        by_cases c13 : (bt a0 x6_3) < 48
        ·rw [if_pos c13] at H
         have c13b0 : decide ((bt a0 x6_3) < 48) = true := decide_eq_true c13
         clear c13
         have H' := Aside0.mk H
         clear H
         have p12 : 0 ≤ (x6_3 : Int) := of_decide_eq_true Z164
         have q12 : x6_3 < (a0.size : Int) := of_decide_eq_true Z164
         have hx12 := bt_at a0 x6_3
         replace p12 := eq_true p12
         replace q12 := eq_true q12
         go_wp2
         go_meet
         case rel => exact ⟨_,(true),Z165,H',⟨Z154⟩,⟨Z298⟩⟩
        rw [if_neg c13] at H
        have c13b0 : decide ((bt a0 x6_3) < 48) = false := decide_eq_false c13
        clear c13
        have H' := Aside0.mk H
        clear H
        have p12 : 0 ≤ (x6_3 : Int) := of_decide_eq_true Z164
        have q12 : x6_3 < (a0.size : Int) := of_decide_eq_true Z164
        have hx12 := bt_at a0 x6_3
        replace p12 := eq_true p12
        replace q12 := eq_true q12
        have p14 : 0 ≤ (x6_3 : Int) := of_decide_eq_true Z164
        have q14 : x6_3 < (a0.size : Int) := of_decide_eq_true Z164
        have hx14 := bt_at a0 x6_3
        replace p14 := eq_true p14
        replace q14 := eq_true q14
        go_wp2
        go_meet
        case rel => exact ⟨_,(decide ((bt a0 x6_3) > 57)),Z165,H',⟨Z154⟩,⟨Z298⟩⟩
       case rest =>
        clear HC10
        try clear c1
        try clear p1
        try clear q1
        try clear hx1
        try clear p2
        try clear c3
        try clear c3b0
        try clear c3b1
        try clear c4
        try clear c5
        try clear c5b0
        try clear c5b1
        try clear c6
        try clear p6
        try clear q6
        try clear hx6
        try clear qi6
        try clear c8
        try clear c8b0
        try clear c8b1
        try clear c9
        try clear c9b0
        try clear c11
        try clear c11b0
        try clear p12
        try clear q12
        try clear hx12
        try clear c13
        try clear c13b0
        try clear p14
        try clear q14
        try clear hx14
        try clear p12
        try clear p14
        try clear p2
        try clear p6
        try clear q12
        try clear q14
        try clear q6
        obtain ⟨kq,x35_9,rfl,HA,HJ9,HB⟩ := hcut
        cases kq with
        | zero => exact absurd HA.out (by simp [spec_IntText.j3])
        | succ kj9 =>
         have H := HA.out
         clear HA
         simp only [spec_IntText.j3] at H
         by_cases c15 : x35_9 = true
         ·subst c15
          rw [if_pos rfl] at H
          simp only [Option.some.injEq,Prod.mk.injEq] at H
          obtain ⟨rfl,rfl⟩ := H
          go_wp2
          go_ret2
          exact ⟨Z152,Z298⟩
         replace c15 := Bool.eq_false_iff.mpr c15
         subst c15
         rw [if_neg Bool.false_ne_true] at H
         obtain ⟨c16,H⟩ := ifp H
         have c16b0 : decide (0 ≤ x6_3) = true := decide_eq_true c16
         clear c16
         obtain ⟨c17,H⟩ := ifp H
         have c17b0 : decide (x6_3 < (a0.size : Int)) = true := decide_eq_true c17
         clear c17
         by_cases c19 : x5_3 < (wrap64 (Int.tdiv ((-9223372036854775808) + (((bt a0 x6_3) - 48) % 256)) 10))
         ·rw [if_pos c19] at H
          have c19b0 : decide (x5_3 < (wrap64 (Int.tdiv ((-9223372036854775808) + (((bt a0 x6_3) - 48) % 256)) 10))) = true := decide_eq_true c19
          have c19b1 : decide (x5_3 < Int.tdiv ((-9223372036854775808) + (((bt a0 x6_3) - 48) % 256)) 10) = true := by rw [← tdiv_w ((((bt a0 x6_3) - 48) % 256)) (Int.emod_nonneg _ Z306) (Int.emod_lt_of_pos _ Z306)];exact c19b0
          clear c19
          simp only [Option.some.injEq,Prod.mk.injEq] at H
          obtain ⟨rfl,rfl⟩ := H
          have p18 : 0 ≤ (x6_3 : Int) := of_decide_eq_true Z164
          have q18 : x6_3 < (a0.size : Int) := of_decide_eq_true Z164
          have hx18 := bt_at a0 x6_3
          replace p18 := eq_true p18
          replace q18 := eq_true q18
          go_wp2
          go_ret2
          exact ⟨Z152,Z298⟩
         rw [if_neg c19] at H
         have c19b0 : decide (x5_3 < (wrap64 (Int.tdiv ((-9223372036854775808) + (((bt a0 x6_3) - 48) % 256)) 10))) = false := decide_eq_false c19
         have c19b1 : decide (x5_3 < Int.tdiv ((-9223372036854775808) + (((bt a0 x6_3) - 48) % 256)) 10) = false := by rw [← tdiv_w ((((bt a0 x6_3) - 48) % 256)) (Int.emod_nonneg _ Z306) (Int.emod_lt_of_pos _ Z306)];exact c19b0
         clear c19
         have H' := Aside0.mk H
         clear H
         have p18 : 0 ≤ (x6_3 : Int) := of_decide_eq_true Z164
         have q18 : x6_3 < (a0.size : Int) := of_decide_eq_true Z164
         have hx18 := bt_at a0 x6_3
         replace p18 := eq_true p18
         replace q18 := eq_true q18
         go_wp2
         go_roundg kj9
         case measure => have := HJ1.out;have := HJ6.out;have := HK3.out;have := HJ9.out;omega
         case rel => exact ⟨(wrap64 ((wrap64 (10 * x5_3)) - (((bt a0 x6_3) - 48) % 256))),(wrap64 (x6_3 + 1)),Z165,Z165,H',⟨by have := HJ1.out;have := HJ6.out;have := HK3.out;have := HJ9.out;omega⟩,⟨Z298⟩⟩

/-! ### spec_Number: function 58 -/
def spec_Number.f (k : Nat) (a0 : ByteArray) : Option (Int × Bool) := (spec_IntText.f k a0).bind fun bt539 => (if bt539.2 = true then ((spec_l1In.f bt539.1 0 999999999).bind fun t541 => (if t541 = true then (some (bt539.1,true)) else (some (0,false)))) else (some (0,false)))
theorem spec_Number.mono : ∀ a0 k,LeO (spec_Number.f k a0) (spec_Number.f (k + 1) a0) := by
 intro a0 k
 unfold spec_Number.f
 repeat' first
   | (with_reducible exact spec_IntText.mono _ _)
   | (with_reducible exact LeO.refl _)
   | (with_reducible exact LeO.none _)
   | (with_reducible refine LeO.ite ?_ ?_)
   | (with_reducible refine LeO.bind ?_ (fun _ => ?_))
   | exact spec_IntText.mono _ _
   | exact LeO.none _
   | refine LeO.ite ?_ ?_
   | refine LeO.bind ?_ (fun _ => ?_)
set_option maxHeartbeats 8000000 in
set_option maxRecDepth 100000 in
theorem spec_Number.calls (k : Nat) (a0 : ByteArray) (r1 : Int) (r2 : Bool) (w : World) (h : spec_Number.f k a0 = some (r1,r2)) :
  Calls Tryz.prog 58 #[.string a0] w fun e w' => e = .returned (.tuple #[.int .i64 r1,.bool r2]) ∧ Below w.heap.size w w' := by
 have HB := Aside0.mk (Below.refl w.heap.size w)
 have H := h
 clear h
 unfold spec_Number.f at H
 obtain ⟨⟨t539,t540⟩,A20,H⟩ := Option.bind_eq_some_iff.mp H
 try dsimp only at H
 have A2 := Aside0.mk A20
 clear A20
 by_cases c3 : t540 = true
 rotate_left
 ·replace c3 := Bool.eq_false_iff.mpr c3
  subst c3
  rw [if_neg Bool.false_ne_true] at H
  simp only [Option.some.injEq,Prod.mk.injEq] at H
  obtain ⟨rfl,rfl⟩ := H
  go_enter Tryz.func58,Tryz.ntmps58
  go_wp2_with (first | ((with_reducible refine gate_callee (f := 68) rfl ?_);refine goesL_ (some 8) rfl rfl Tryz.func68 Z190 rfl #[.string a0] rfl Z130 ?_;(with_reducible refine (spec_IntText.calls k a0 t539 false _ A2.out).mono ?_);rintro e wq1 ⟨rfl,hb⟩;refine ⟨_,rfl,?_⟩;have n0_ := Aside0.mk (below_step Z298 hb);clear HB;have HB := n0_;clear n0_;(try clear hb);(try clear hb2);(try clear hk);(try clear hi)))
  go_ret2
  exact ⟨Z152,Z298⟩
 subst c3
 rw [if_pos rfl] at H
 obtain ⟨t541,A40,H⟩ := Option.bind_eq_some_iff.mp H
 have A4 := Aside0.mk A40
 clear A40
 by_cases c5 : t541 = true
 ·subst c5
  rw [if_pos rfl] at H
  simp only [Option.some.injEq,Prod.mk.injEq] at H
  obtain ⟨rfl,rfl⟩ := H
  go_enter Tryz.func58,Tryz.ntmps58
  go_wp2_with (first | ((with_reducible refine gate_callee (f := 68) rfl ?_);refine goesL_ (some 8) rfl rfl Tryz.func68 Z190 rfl #[.string a0] rfl Z130 ?_;(with_reducible refine (spec_IntText.calls k a0 t539 true _ A2.out).mono ?_);rintro e wq1 ⟨rfl,hb⟩;refine ⟨_,rfl,?_⟩;have n0_ := Aside0.mk (below_step Z298 hb);clear HB;have HB := n0_;clear n0_;(try clear hb);(try clear hb2);(try clear hk);(try clear hi)) | (go_at_call 40;(with_reducible refine (spec_l1In.calls t539 0 999999999 true _ A4.out).mono ?_);rintro e w' ⟨rfl,⟨nd,rfl⟩⟩))
  go_ret2
  exact ⟨Z152,Z298⟩
 replace c5 := Bool.eq_false_iff.mpr c5
 subst c5
 rw [if_neg Bool.false_ne_true] at H
 simp only [Option.some.injEq,Prod.mk.injEq] at H
 obtain ⟨rfl,rfl⟩ := H
 go_enter Tryz.func58,Tryz.ntmps58
 go_wp2_with (first | ((with_reducible refine gate_callee (f := 68) rfl ?_);refine goesL_ (some 8) rfl rfl Tryz.func68 Z190 rfl #[.string a0] rfl Z130 ?_;(with_reducible refine (spec_IntText.calls k a0 t539 true _ A2.out).mono ?_);rintro e wq1 ⟨rfl,hb⟩;refine ⟨_,rfl,?_⟩;have n0_ := Aside0.mk (below_step Z298 hb);clear HB;have HB := n0_;clear n0_;(try clear hb);(try clear hb2);(try clear hk);(try clear hi)) | (go_at_call 40;(with_reducible refine (spec_l1In.calls t539 0 999999999 false _ A4.out).mono ?_);rintro e w' ⟨rfl,⟨nd,rfl⟩⟩))
 go_ret2
 exact ⟨Z152,Z298⟩

end Go.Proofs.YtepnbcdbagjmbaeGreatDoor.QFnConfig
