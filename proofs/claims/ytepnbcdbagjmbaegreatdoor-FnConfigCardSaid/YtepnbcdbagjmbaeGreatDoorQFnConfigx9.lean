/- The machine side of FnConfig: what each Go function that it reaches comes to. Conditions: none. -/
import Derived.Test.YtepnbcdbagjmbaeGreatDoorQFnConfigx0
namespace Go.Proofs.YtepnbcdbagjmbaeGreatDoor.QFnConfig
open Go.RowKit Go.Proofs.YtepnbcdbagjmbaeGreatDoorW.PrintWords Go.Proofs.YtepnbcdbagjmbaeGreatDoorW.PrintLast Go.Proofs.YtepnbcdbagjmbaeGreatDoorW.PrintMore
attribute [local go_sem] max2_int min2_int max_two min_two max_three min_three max_four min_four   -- for this text's walks alone
set_option linter.unusedVariables false
set_option linter.unusedSimpArgs false

/-! ### spec_Digits: function 21 -/
def spec_Digits.l0 : Nat → Int → Bool → ByteArray → Option (ByteArray)
 | 0,_,_,_ => none
 | k + 1,x0,x3,x4 => if x0 = 0 then (if x3 = true then (if 1 + x4.size ≤ 9223372036854775807 then (some ((⟨#[45]⟩ : ByteArray) ++ x4)) else (none)) else (some x4)) else (if (Int.tmod x0 10) < 0 then ((some (([(wrap64 (48 + (wrap64 (-(Int.tmod x0 10))))) % 256] : List Int) : List Int)).bind fun y315 => (if (strOfNums y315).size + x4.size ≤ 9223372036854775807 then (spec_Digits.l0 k (wrap64 (Int.tdiv x0 10)) x3 ((strOfNums y315) ++ x4)) else (none))) else ((some (([(wrap64 (48 + (Int.tmod x0 10))) % 256] : List Int) : List Int)).bind fun y318 => (if (strOfNums y318).size + x4.size ≤ 9223372036854775807 then (spec_Digits.l0 k (wrap64 (Int.tdiv x0 10)) x3 ((strOfNums y318) ++ x4)) else (none))))
def spec_Digits.f (k : Nat) (a0 : Int) : Option (ByteArray) := if a0 = 0 then (some (⟨#[48]⟩ : ByteArray)) else (spec_Digits.l0 k a0 (decide (a0 < 0)) (⟨#[]⟩ : ByteArray))
theorem spec_Digits.mono_l : ∀ k,(∀ y0 y1 y2,LeO (spec_Digits.l0 k y0 y1 y2) (spec_Digits.l0 (k + 1) y0 y1 y2))
 | 0 => fun _ _ _ r h => by simp [spec_Digits.l0] at h
 | k + 1 => by
  have ih0 := spec_Digits.mono_l k
  ·intro y0 y1 y2
   unfold spec_Digits.l0
   repeat' first
   | (with_reducible exact ih0 _ _ _)
   | (with_reducible exact LeO.refl _)
   | (with_reducible exact LeO.none _)
   | (with_reducible refine LeO.ite ?_ ?_)
   | (with_reducible refine LeO.bind ?_ (fun _ => ?_))
   | exact ih0 _ _ _
   | exact LeO.none _
   | refine LeO.ite ?_ ?_
   | refine LeO.bind ?_ (fun _ => ?_)
theorem spec_Digits.mono : ∀ a0 k,LeO (spec_Digits.f k a0) (spec_Digits.f (k + 1) a0) := by
 intro a0 k
 have ih0 := spec_Digits.mono_l k
 unfold spec_Digits.f
 repeat' first
   | (with_reducible exact ih0 _ _ _)
   | (with_reducible exact LeO.refl _)
   | (with_reducible exact LeO.none _)
   | (with_reducible refine LeO.ite ?_ ?_)
   | (with_reducible refine LeO.bind ?_ (fun _ => ?_))
   | exact ih0 _ _ _
   | exact LeO.none _
   | refine LeO.ite ?_ ?_
   | refine LeO.bind ?_ (fun _ => ?_)
set_option maxHeartbeats 8000000 in
set_option maxRecDepth 100000 in
theorem spec_Digits.calls (k : Nat) (a0 : Int) (r : ByteArray) (w : World) (h : spec_Digits.f k a0 = some r) :
  Calls Tryz.prog 21 #[.int .i64 a0] w fun e w' => e = .returned (.string r) ∧ Below w.heap.size w w' := by
 have HB := Aside0.mk (Below.refl w.heap.size w)
 have H := h
 clear h
 unfold spec_Digits.f at H
 by_cases c2 : a0 = 0
 ·rw [if_pos c2] at H
  have c2b0 : (a0 == 0) = true := beq_iff_eq.mpr c2
  have c2b1 : (a0 != 0) = false := bne_eq_false_iff_eq.mpr c2
  clear c2
  obtain rfl := Option.some.inj H
  go_enter Tryz.func21,Tryz.ntmps21
  go_wp2
  go_ret
  exact ⟨Z152,Z298⟩
 rw [if_neg c2] at H
 have c2b0 : (a0 == 0) = false := beq_eq_false_iff_ne.mpr c2
 have c2b1 : (a0 != 0) = true := bne_iff_ne.mpr c2
 obtain ⟨b3, hb3⟩ : ∃ b : Bool, decide (a0 < 0) = b := ⟨_, rfl⟩
 rw [hb3] at H
 have H' := Aside0.mk H
 clear H
 go_enter Tryz.func21,Tryz.ntmps21
 go_wp2
 clear hb3
 go_loopg [0,4] k (fun kq v0 v4 w' => ∃ (x0_1 : Int) (x4_1 : ByteArray),v0 = .int .i64 x0_1 ∧ v4 = .string x4_1 ∧ Aside0 (spec_Digits.l0 kq x0_1 b3 x4_1 = some r) ∧ Aside0 (kq ≤ k) ∧ Aside0 (Below w.heap.size w w'))
 case atStart => exact ⟨(a0),((⟨#[]⟩ : ByteArray)),Z165,Z165,H',⟨Nat.le_refl _⟩,⟨Z298⟩⟩
 case round =>
  clear H'
  try clear c2
  try clear c2b0
  try clear c2b1
  try clear p2
  obtain ⟨x0_1,x4_1,rfl,rfl,HA,HK1,HB⟩ := hrel
  cases gk with
  | zero => exact absurd HA.out (by simp [spec_Digits.l0])
  | succ k1 =>
   have H := HA.out
   clear HA
   simp only [spec_Digits.l0] at H
   by_cases c3 : x0_1 = 0
   ·rw [if_pos c3] at H
    have c3b0 : (x0_1 == 0) = true := beq_iff_eq.mpr c3
    have c3b1 : (x0_1 != 0) = false := bne_eq_false_iff_eq.mpr c3
    clear c3
    by_cases c4 : b3 = true
    rotate_left
    ·rw [if_neg c4] at H
     have c4b0 : b3 = false := by simpa using c4
     clear c4
     subst c4b0
     skip
     obtain rfl := Option.some.inj H
     go_wp2
     go_ret
     exact ⟨Z152,Z298⟩
    rw [if_pos c4] at H
    subst c4
    skip
    obtain ⟨c5,H⟩ := ifp H
    have c5b0 := eq_true c5
    have c5b1 : decide (1 + x4_1.size ≤ 9223372036854775807) = true := decide_eq_true c5
    try have c5b2 : (9223372036854775807 < 1 + x4_1.size) = False := eq_false (Nat.not_lt.2 c5)
    obtain rfl := Option.some.inj H
    go_wp2
    go_ret
    exact ⟨Z152,Z298⟩
   rw [if_neg c3] at H
   have c3b0 : (x0_1 == 0) = false := beq_eq_false_iff_ne.mpr c3
   have c3b1 : (x0_1 != 0) = true := bne_iff_ne.mpr c3
   by_cases c6 : (Int.tmod x0_1 10) < 0
   ·rw [if_pos c6] at H
    have c6b0 : decide ((Int.tmod x0_1 10) < 0) = true := decide_eq_true c6
    clear c6
    obtain ⟨y315,hyy⟩ : ∃ y_ : List Int,y_ = (([(wrap64 (48 + (wrap64 (-(Int.tmod x0_1 10))))) % 256] : List Int)) := ⟨_,rfl⟩
    replace H : (if (strOfNums y315).size + x4_1.size ≤ 9223372036854775807 then (spec_Digits.l0 k1 (wrap64 (Int.tdiv x0_1 10)) b3 ((strOfNums y315) ++ x4_1)) else (none)) = some r := zR
    have Ny315 := Aside0.mk hyy
    clear hyy
    obtain ⟨c7,H⟩ := ifp H
    have c7b0 := eq_true c7
    have c7b1 : decide ((strOfNums y315).size + x4_1.size ≤ 9223372036854775807) = true := decide_eq_true c7
    try have c7b2 : (9223372036854775807 < (strOfNums y315).size + x4_1.size) = False := eq_false (Nat.not_lt.2 c7)
    have H' := Aside0.mk H
    clear H
    go_wp2_with (first | ((with_reducible refine gate_dst (N := 21) rfl ?_);refine Kd.R_lit (Kd.int .u8) _ 5 ?hg (N := 21) ?hd (xs := ([(wrap64 (48 + (wrap64 (-(Int.tmod x0_1 10))))) % 256] : List Int)) (inner := [.int .u8 ((wrap64 (48 + (wrap64 (-(Int.tmod x0_1 10))))) % 256)]) (ok := fun _ => True) (okp := fun _ => True) ?hr ?hp (fun _ hk => hk) trivial (Below.refl _ _) (Nat.le_refl _) Z286 ?_;(case hd => rfl);(case hg => rfl);(case hr => exact Z166);(case hp => exact (Reps.one (show Kd.M (Kd.int .u8) _ _ _ ((wrap64 (48 + (wrap64 (-(Int.tmod x0_1 10))))) % 256) [.int .u8 ((wrap64 (48 + (wrap64 (-(Int.tmod x0_1 10))))) % 256)] from rfl) (Reps.none _ _)));intro v316 w8 ho9 hb hg_ hnew_;clear hg_ hnew_;(first | rw [← Ny315.out] at ho9 | (simp only [Int.reduceToNat] at ho9;rw [← Ny315.out] at ho9));have n_ := Z59;clear HB;obtain ⟨HO317,HB⟩ := n_;clear hb ho9;have hcv10 := own_string (P := Tryz.prog) Tryz.underlying22 Tryz.underlying5 Tryz.underlying9 (Kd.own_of_R HO317.out)))
    go_roundg k1
    case measure => have := HK1.out;omega
    case rel => exact ⟨(wrap64 (Int.tdiv x0_1 10)),((strOfNums y315) ++ x4_1),Z165,Z165,H',⟨Z184⟩,⟨Z298⟩⟩
   rw [if_neg c6] at H
   have c6b0 : decide ((Int.tmod x0_1 10) < 0) = false := decide_eq_false c6
   clear c6
   obtain ⟨y318,hyy⟩ : ∃ y_ : List Int,y_ = (([(wrap64 (48 + (Int.tmod x0_1 10))) % 256] : List Int)) := ⟨_,rfl⟩
   replace H : (if (strOfNums y318).size + x4_1.size ≤ 9223372036854775807 then (spec_Digits.l0 k1 (wrap64 (Int.tdiv x0_1 10)) b3 ((strOfNums y318) ++ x4_1)) else (none)) = some r := zR
   have Ny318 := Aside0.mk hyy
   clear hyy
   obtain ⟨c11,H⟩ := ifp H
   have c11b0 := eq_true c11
   have c11b1 : decide ((strOfNums y318).size + x4_1.size ≤ 9223372036854775807) = true := decide_eq_true c11
   try have c11b2 : (9223372036854775807 < (strOfNums y318).size + x4_1.size) = False := eq_false (Nat.not_lt.2 c11)
   have H' := Aside0.mk H
   clear H
   go_wp2_with (first | ((with_reducible refine gate_dst (N := 21) rfl ?_);refine Kd.R_lit (Kd.int .u8) _ 5 ?hg (N := 21) ?hd (xs := ([(wrap64 (48 + (Int.tmod x0_1 10))) % 256] : List Int)) (inner := [.int .u8 ((wrap64 (48 + (Int.tmod x0_1 10))) % 256)]) (ok := fun _ => True) (okp := fun _ => True) ?hr ?hp (fun _ hk => hk) trivial (Below.refl _ _) (Nat.le_refl _) Z286 ?_;(case hd => rfl);(case hg => rfl);(case hr => exact Z166);(case hp => exact (Reps.one (show Kd.M (Kd.int .u8) _ _ _ ((wrap64 (48 + (Int.tmod x0_1 10))) % 256) [.int .u8 ((wrap64 (48 + (Int.tmod x0_1 10))) % 256)] from rfl) (Reps.none _ _)));intro v319 w12 ho13 hb hg_ hnew_;clear hg_ hnew_;(first | rw [← Ny318.out] at ho13 | (simp only [Int.reduceToNat] at ho13;rw [← Ny318.out] at ho13));have n_ := jA (Kd.R_lower ho13 (below_size Z298)) (Aside0.mk (below_step Z298 hb));clear HB;obtain ⟨HO320,HB⟩ := n_;clear hb ho13;have hcv14 := own_string (P := Tryz.prog) Tryz.underlying22 Tryz.underlying5 Tryz.underlying9 (Kd.own_of_R HO320.out)))
   go_roundg k1
   case measure => have := HK1.out;omega
   case rel => exact ⟨(wrap64 (Int.tdiv x0_1 10)),((strOfNums y318) ++ x4_1),Z165,Z165,H',⟨Z184⟩,⟨Z298⟩⟩

/-! ### spec_Joined: function 22 -/
def spec_Joined.l0 : Nat → List ByteArray → ByteArray → List Int → Int → Option (ByteArray)
 | 0,_,_,_,_ => none
 | k + 1,x0,x1,x5,x6 => if x6 < (x0.length : Int) then (if x6 > 0 then (if x5.length + x1.size < 140737488355328 then ((some (x5 ++ bytesOf x1 : List Int)).bind fun y324 => (if 0 ≤ x6 then (if y324.length + (rdOf ByteArray.empty x0 x6).size < 140737488355328 then (spec_Joined.l0 k x0 x1 (y324 ++ bytesOf (rdOf ByteArray.empty x0 x6)) (wrap64 (x6 + 1))) else (none)) else (none))) else (none)) else (if 0 ≤ x6 then (if x5.length + (rdOf ByteArray.empty x0 x6).size < 140737488355328 then (spec_Joined.l0 k x0 x1 (x5 ++ bytesOf (rdOf ByteArray.empty x0 x6)) (wrap64 (x6 + 1))) else (none)) else (none))) else (some (strOfNums x5))
def spec_Joined.f (k : Nat) (l0 : List ByteArray) (a1 : ByteArray) : Option (ByteArray) := spec_Joined.l0 k l0 a1 (([] : List Int)) 0
theorem spec_Joined.mono_l : ∀ k,(∀ y0 y1 y2 y3,LeO (spec_Joined.l0 k y0 y1 y2 y3) (spec_Joined.l0 (k + 1) y0 y1 y2 y3))
 | 0 => fun _ _ _ _ r h => by simp [spec_Joined.l0] at h
 | k + 1 => by
  have ih0 := spec_Joined.mono_l k
  ·intro y0 y1 y2 y3
   unfold spec_Joined.l0
   repeat' first
   | (with_reducible exact ih0 _ _ _ _)
   | (with_reducible exact LeO.refl _)
   | (with_reducible exact LeO.none _)
   | (with_reducible refine LeO.ite ?_ ?_)
   | (with_reducible refine LeO.bind ?_ (fun _ => ?_))
   | exact ih0 _ _ _ _
   | exact LeO.none _
   | refine LeO.ite ?_ ?_
   | refine LeO.bind ?_ (fun _ => ?_)
theorem spec_Joined.mono : ∀ a0 a1 k,LeO (spec_Joined.f k a0 a1) (spec_Joined.f (k + 1) a0 a1) := by
 intro a0 a1 k
 have ih0 := spec_Joined.mono_l k
 unfold spec_Joined.f
 repeat' first
   | (with_reducible exact ih0 _ _ _ _)
   | (with_reducible exact LeO.refl _)
   | (with_reducible exact LeO.none _)
   | (with_reducible refine LeO.ite ?_ ?_)
   | (with_reducible refine LeO.bind ?_ (fun _ => ?_))
   | exact ih0 _ _ _ _
   | exact LeO.none _
   | refine LeO.ite ?_ ?_
   | refine LeO.bind ?_ (fun _ => ?_)
set_option maxHeartbeats 8000000 in
set_option maxRecDepth 100000 in
theorem spec_Joined.calls (k : Nat) (A0 : Option Addr) (c0 : Nat) (l0 : List ByteArray) (a1 : ByteArray) (r : ByteArray) (w : World) (hr0 : Kd.C Kd.string w A0 l0.length l0) (hc0 : l0.length ≤ c0) (h : spec_Joined.f k l0 a1 = some r) :
  Calls Tryz.prog 22 #[.slice A0 l0.length c0,.string a1] w fun e w' => e = .returned (.string r) ∧ Below w.heap.size w w' := by
 have HR0 := Aside0.mk hr0
 have HC0 := Aside0.mk hc0
 clear hr0 hc0
 have HB := Aside0.mk (Below.refl w.heap.size w)
 have H := h
 clear h
 unfold spec_Joined.f at H
 obtain ⟨y321,hyy⟩ : ∃ y_ : List Int,y_ = (([] : List Int)) := ⟨_,rfl⟩
 replace H : (spec_Joined.l0 k l0 a1 y321 0) = some r := zR
 have Ny321 := Aside0.mk hyy
 clear hyy
 have H' := Aside0.mk H
 clear H
 go_enter Tryz.func22,Tryz.ntmps22
 go_wp2_with (first | ((with_reducible refine gate_dst (N := 7) rfl ?_);refine Kd.R_lit (Kd.int .u8) _ 5 ?hg (N := 7) ?hd (xs := ([] : List Int)) (inner := []) (ok := fun _ => True) (okp := fun _ => True) ?hr ?hp (fun _ hk => hk) trivial (Below.refl _ _) (Nat.le_refl _) Z286 ?_;(case hd => rfl);(case hg => rfl);(case hr => exact Z166);(case hp => exact Z185);intro v322 w3 ho4 hb hg_ hnew_;clear hg_ hnew_;(first | rw [← Ny321.out] at ho4 | (simp only [Int.reduceToNat] at ho4;rw [← Ny321.out] at ho4));have n_ := Z57;clear HB;obtain ⟨HO323,HB⟩ := n_;clear hb ho4))
 go_loopg [5,6] k (fun kq v5 v6 w' => ∃ (x5_1 : List Int) (x6_1 : Int),v6 = .int .i64 x6_1 ∧ Aside0 (spec_Joined.l0 kq l0 a1 x5_1 x6_1 = some r) ∧ Aside0 (kq ≤ k) ∧ Aside0 (Kd.R (Kd.int .u8) 5 w' w.heap.size (fun _ => True) v5 x5_1) ∧ Aside0 (Below w.heap.size w w'))
 case atStart => exact ⟨(y321),(0),Z165,H',⟨Nat.le_refl _⟩,⟨by (with_reducible repeat (first | apply Kd.R_alloc | apply Kd.R_drewN | apply Kd.R_drew));exact HO323.out⟩,⟨Z298⟩⟩
 case round =>
  clear H'
  try clear c2
  try clear p2
  obtain ⟨x5_1,x6_1,rfl,HA,HK1,HO_5,HB⟩ := hrel
  cases gk with
  | zero => exact absurd HA.out (by simp [spec_Joined.l0])
  | succ k1 =>
   have H := HA.out
   clear HA
   simp only [spec_Joined.l0] at H
   by_cases c5 : x6_1 < (l0.length : Int)
   rotate_left
   ·rw [if_neg c5] at H
    have c5b0 : decide (x6_1 < (l0.length : Int)) = false := decide_eq_false c5
    clear c5
    obtain rfl := Option.some.inj H
    have hcv15 := own_string (P := Tryz.prog) Tryz.underlying22 Tryz.underlying5 Tryz.underlying9 (Kd.own_of_R HO_5.out)
    go_wp2
    go_ret
    exact ⟨Z152,Z298⟩
   rw [if_pos c5] at H
   have c5b0 : decide (x6_1 < (l0.length : Int)) = true := decide_eq_true c5
   clear c5
   by_cases c6 : x6_1 > 0
   rotate_left
   ·rw [if_neg c6] at H
    have c6b0 : decide (0 < x6_1) = false := decide_eq_false c6
    clear c6
    obtain ⟨c12,H⟩ := ifp H
    have c12b0 : decide (0 ≤ x6_1) = true := decide_eq_true c12
    clear c12
    obtain ⟨c13,H⟩ := ifp H
    have LMc13 := Aside0.mk c13
    clear c13
    obtain ⟨y332,hyy⟩ : ∃ y_ : List Int,y_ = (x5_1 ++ bytesOf (rdOf ByteArray.empty l0 x6_1)) := ⟨_,rfl⟩
    replace H : (spec_Joined.l0 k1 l0 a1 y332 (wrap64 (x6_1 + 1))) = some r := zR
    have Ny332 := Aside0.mk hyy
    clear hyy
    have H' := Aside0.mk H
    clear H
    have p331 : 0 ≤ (x6_1 : Int) := of_decide_eq_true Z164
    have q331 : x6_1 < (l0.length : Int) := of_decide_eq_true Z164
    obtain ⟨ad331,e331,hx331_0⟩ := Kd.at_string HR0.out x6_1 p331 q331
    cases e331
    replace hx331_0 := (HB.out.cell (World.block_lt_of_cell? w _ hx331_0)).trans hx331_0
    replace p331 := eq_true p331
    replace q331 := eq_true q331
    go_wp2_with (first | (at_builtin;refine print_append_str (w0 := w) w.heap.size rfl (.tmp 19) _ 22 9 5 rfl Tryz.underlying22 Tryz.underlying9 info5 u5 x5_1 (rdOf ByteArray.empty l0 x6_1) rfl rfl ?aO ?aB ?aS ?aL ?_;(case aB => exact Z128);(case aO => exact Z132);(case aS => exact Z126);(case aL => have := LMc13.out;omega);intro v333 w14 ho0 hb hg;have ho := Kd.R_of_own (h1 := fun _ => rfl) (ok := fun _ => True) ho0 (fun _ _ => trivial);clear ho0;have hat := True.intro;rw [← Ny332.out] at ho;change Kd.R (Kd.int .u8) 5 w14 w.heap.size (fun _ => True) v333 y332 at ho;have n_ := jA (hb) (Aside0.mk (ho));clear HB HO_5;obtain ⟨HB,HO334⟩ := n_;clear ho hb hg hat))
    go_roundg k1
    case measure => have := HK1.out;omega
    case rel => exact ⟨(y332),(wrap64 (x6_1 + 1)),Z165,H',⟨Z184⟩,⟨by (with_reducible repeat (first | apply Kd.R_alloc | apply Kd.R_drewN | apply Kd.R_drew));exact HO334.out⟩,⟨Z298⟩⟩
   rw [if_pos c6] at H
   have c6b0 : decide (0 < x6_1) = true := decide_eq_true c6
   clear c6
   obtain ⟨c7,H⟩ := ifp H
   have LMc7 := Aside0.mk c7
   clear c7
   obtain ⟨y324,hyy⟩ : ∃ y_ : List Int,y_ = (x5_1 ++ bytesOf a1) := ⟨_,rfl⟩
   replace H : (if 0 ≤ x6_1 then (if y324.length + (rdOf ByteArray.empty l0 x6_1).size < 140737488355328 then (spec_Joined.l0 k1 l0 a1 (y324 ++ bytesOf (rdOf ByteArray.empty l0 x6_1)) (wrap64 (x6_1 + 1))) else (none)) else (none)) = some r := zR
   have Ny324 := Aside0.mk hyy
   clear hyy
   obtain ⟨c8,H⟩ := ifp H
   have c8b0 : decide (0 ≤ x6_1) = true := decide_eq_true c8
   clear c8
   obtain ⟨c9,H⟩ := ifp H
   have LMc9 := Aside0.mk c9
   clear c9
   obtain ⟨y328,hyy⟩ : ∃ y_ : List Int,y_ = (y324 ++ bytesOf (rdOf ByteArray.empty l0 x6_1)) := ⟨_,rfl⟩
   replace H : (spec_Joined.l0 k1 l0 a1 y328 (wrap64 (x6_1 + 1))) = some r := zR
   have Ny328 := Aside0.mk hyy
   clear hyy
   have H' := Aside0.mk H
   clear H
   go_wp2_with (first | (at_builtin;refine print_append_str (w0 := w) w.heap.size rfl (.tmp 16) _ 22 9 5 rfl Tryz.underlying22 Tryz.underlying9 info5 u5 x5_1 a1 rfl rfl ?aO ?aB ?aS ?aL ?_;(case aB => exact Z128);(case aO => exact Z132);(case aS => exact Z126);(case aL => have := LMc7.out;omega);intro v325 w10 ho0 hb hg;have ho := Kd.R_of_own (h1 := fun _ => rfl) (ok := fun _ => True) ho0 (fun _ _ => trivial);clear ho0;have hat := True.intro;rw [← Ny324.out] at ho;change Kd.R (Kd.int .u8) 5 w10 w.heap.size (fun _ => True) v325 y324 at ho;have n_ := jA (hb) (Aside0.mk (ho));clear HB HO_5;obtain ⟨HB,HO326⟩ := n_;clear ho hb hg hat;have p327 : 0 ≤ (x6_1 : Int) := of_decide_eq_true Z164;have q327 : x6_1 < (l0.length : Int) := of_decide_eq_true Z164;obtain ⟨ad327,e327,hx327_0⟩ := Kd.at_string HR0.out x6_1 p327 q327;cases e327;replace hx327_0 := (HB.out.cell (World.block_lt_of_cell? w _ hx327_0)).trans hx327_0;replace p327 := eq_true p327;replace q327 := eq_true q327) | (at_builtin;refine print_append_str (w0 := w) w.heap.size rfl (.tmp 19) _ 22 9 5 rfl Tryz.underlying22 Tryz.underlying9 info5 v325 y324 (rdOf ByteArray.empty l0 x6_1) rfl rfl ?aO ?aB ?aS ?aL ?_;(case aB => exact Z128);(case aO => exact (Kd.own_of_R (by (with_reducible repeat (first | apply Kd.R_alloc | apply Kd.R_drewN | apply Kd.R_drew));exact HO326.out)));(case aS => exact Z126);(case aL => have := LMc9.out;omega);intro v329 w11 ho0 hb hg;have ho := Kd.R_of_own (h1 := fun _ => rfl) (ok := fun _ => True) ho0 (fun _ _ => trivial);clear ho0;have hat := True.intro;rw [← Ny328.out] at ho;change Kd.R (Kd.int .u8) 5 w11 w.heap.size (fun _ => True) v329 y328 at ho;have n_ := jA (hb) (Aside0.mk (ho));clear HB HO326;obtain ⟨HB,HO330⟩ := n_;clear ho hb hg hat))
   go_roundg k1
   case measure => have := HK1.out;omega
   case rel => exact ⟨(y328),(wrap64 (x6_1 + 1)),Z165,H',⟨Z184⟩,⟨by (with_reducible repeat (first | apply Kd.R_alloc | apply Kd.R_drewN | apply Kd.R_drew));exact HO330.out⟩,⟨Z298⟩⟩

end Go.Proofs.YtepnbcdbagjmbaeGreatDoor.QFnConfig
