/- The machine side of FnExactTableText: what each Go function that it reaches comes to. Conditions: none. -/
import Derived.Test.YtepnbcdbagjmbabDoorQFnExactTableTextx0
import Derived.Test.YtepnbcdbagjmbabDoorQFnExactTableTextx1
namespace Go.Proofs.YtepnbcdbagjmbabDoor.QFnExactTableText
open Go.RowKit Go.Proofs.YtepnbcdbagjmbabDoorW.PrintWords Go.Proofs.YtepnbcdbagjmbabDoorW.PrintLast Go.Proofs.YtepnbcdbagjmbabDoorW.PrintMore
attribute [local go_sem] max2_int min2_int max_two min_two max_three min_three max_four min_four   -- for this text's walks alone
set_option linter.unusedVariables false
set_option linter.unusedSimpArgs false

/-! ### spec_Digits: function 30 -/
def spec_Digits.l0 : Nat → Int → Bool → ByteArray → Option (ByteArray)
 | 0,_,_,_ => none
 | k + 1,x0,x3,x4 => if x0 = 0 then (if x3 = true then (if 1 + x4.size ≤ 9223372036854775807 then (some ((⟨#[45]⟩ : ByteArray) ++ x4)) else (none)) else (some x4)) else (if (Int.tmod x0 10) < 0 then ((some (([(wrap64 (48 + (wrap64 (-(Int.tmod x0 10))))) % 256] : List Int) : List Int)).bind fun y131 => (if (strOfNums y131).size + x4.size ≤ 9223372036854775807 then (spec_Digits.l0 k (wrap64 (Int.tdiv x0 10)) x3 ((strOfNums y131) ++ x4)) else (none))) else ((some (([(wrap64 (48 + (Int.tmod x0 10))) % 256] : List Int) : List Int)).bind fun y134 => (if (strOfNums y134).size + x4.size ≤ 9223372036854775807 then (spec_Digits.l0 k (wrap64 (Int.tdiv x0 10)) x3 ((strOfNums y134) ++ x4)) else (none))))
def spec_Digits.f (k : Nat) (a0 : Int) : Option (ByteArray) := if a0 = 0 then (some (⟨#[48]⟩ : ByteArray)) else (spec_Digits.l0 k a0 (decide (a0 < 0)) (⟨#[]⟩ : ByteArray))
theorem spec_Digits.mono_l : ∀ k,(∀ y0 y1 y2,LeO (spec_Digits.l0 k y0 y1 y2) (spec_Digits.l0 (k + 1) y0 y1 y2))
 | 0 => fun _ _ _ r h => by simp [spec_Digits.l0] at h
 | k + 1 => by
  have ih0 := spec_Digits.mono_l k
  ·intro y0 y1 y2
   unfold spec_Digits.l0
   repeat' first
   | (with_reducible exact ih0 _ _ _)
   | (with_reducible exact LeO.refl _)
   | (with_reducible exact LeO.none _)
   | (with_reducible refine LeO.ite ?_ ?_)
   | (with_reducible refine LeO.bind ?_ (fun _ => ?_))
   | exact ih0 _ _ _
   | exact LeO.none _
   | refine LeO.ite ?_ ?_
   | refine LeO.bind ?_ (fun _ => ?_)
theorem spec_Digits.mono : ∀ a0 k,LeO (spec_Digits.f k a0) (spec_Digits.f (k + 1) a0) := by
 intro a0 k
 have ih0 := spec_Digits.mono_l k
 unfold spec_Digits.f
 repeat' first
   | (with_reducible exact ih0 _ _ _)
   | (with_reducible exact LeO.refl _)
   | (with_reducible exact LeO.none _)
   | (with_reducible refine LeO.ite ?_ ?_)
   | (with_reducible refine LeO.bind ?_ (fun _ => ?_))
   | exact ih0 _ _ _
   | exact LeO.none _
   | refine LeO.ite ?_ ?_
   | refine LeO.bind ?_ (fun _ => ?_)
set_option maxHeartbeats 8000000 in
set_option maxRecDepth 100000 in
theorem spec_Digits.calls (k : Nat) (a0 : Int) (r : ByteArray) (w : World) (h : spec_Digits.f k a0 = some r) :
  Calls Tryd.prog 30 #[.int .i64 a0] w fun e w' => e = .returned (.string r) ∧ Below w.heap.size w w' := by
 have HB := Aside0.mk (Below.refl w.heap.size w)
 have H := h
 clear h
 unfold spec_Digits.f at H
 by_cases c2 : a0 = 0
 ·rw [if_pos c2] at H
  have c2b0 : (a0 == 0) = true := beq_iff_eq.mpr c2
  have c2b1 : (a0 != 0) = false := bne_eq_false_iff_eq.mpr c2
  clear c2
  obtain rfl := Option.some.inj H
  go_enter Tryd.func30,Tryd.ntmps30
  go_wp2
  go_ret
  exact ⟨Z98,Z148⟩
 rw [if_neg c2] at H
 have c2b0 : (a0 == 0) = false := beq_eq_false_iff_ne.mpr c2
 have c2b1 : (a0 != 0) = true := bne_iff_ne.mpr c2
 obtain ⟨b3, hb3⟩ : ∃ b : Bool, decide (a0 < 0) = b := ⟨_, rfl⟩
 rw [hb3] at H
 have H' := Aside0.mk H
 clear H
 go_enter Tryd.func30,Tryd.ntmps30
 go_wp2
 clear hb3
 go_loopg [0,4] k (fun kq v0 v4 w' => ∃ (x0_1 : Int) (x4_1 : ByteArray),v0 = .int .i64 x0_1 ∧ v4 = .string x4_1 ∧ Aside0 (spec_Digits.l0 kq x0_1 b3 x4_1 = some r) ∧ Aside0 (kq ≤ k) ∧ Aside0 (Below w.heap.size w w'))
 case atStart => exact ⟨(a0),((⟨#[]⟩ : ByteArray)),Z106,Z106,H',⟨Nat.le_refl _⟩,⟨Z148⟩⟩
 case round =>
  clear H'
  try clear c2
  try clear c2b0
  try clear c2b1
  try clear p2
  obtain ⟨x0_1,x4_1,rfl,rfl,HA,HK1,HB⟩ := hrel
  cases gk with
  | zero => exact absurd HA.out (by simp [spec_Digits.l0])
  | succ k1 =>
   have H := HA.out
   clear HA
   simp only [spec_Digits.l0] at H
   by_cases c3 : x0_1 = 0
   ·rw [if_pos c3] at H
    have c3b0 : (x0_1 == 0) = true := beq_iff_eq.mpr c3
    have c3b1 : (x0_1 != 0) = false := bne_eq_false_iff_eq.mpr c3
    clear c3
    by_cases c4 : b3 = true
    rotate_left
    ·rw [if_neg c4] at H
     have c4b0 : b3 = false := by simpa using c4
     clear c4
     subst c4b0
     skip
     obtain rfl := Option.some.inj H
     go_wp2
     go_ret
     exact ⟨Z98,Z148⟩
    rw [if_pos c4] at H
    subst c4
    skip
    obtain ⟨c5,H⟩ := ifp H
    have c5b0 := eq_true c5
    have c5b1 : decide (1 + x4_1.size ≤ 9223372036854775807) = true := decide_eq_true c5
    try have c5b2 : (9223372036854775807 < 1 + x4_1.size) = False := eq_false (Nat.not_lt.2 c5)
    obtain rfl := Option.some.inj H
    go_wp2
    go_ret
    exact ⟨Z98,Z148⟩
   rw [if_neg c3] at H
   have c3b0 : (x0_1 == 0) = false := beq_eq_false_iff_ne.mpr c3
   have c3b1 : (x0_1 != 0) = true := bne_iff_ne.mpr c3
   by_cases c6 : (Int.tmod x0_1 10) < 0
   rotate_left
   ·rw [if_neg c6] at H
    have c6b0 : decide ((Int.tmod x0_1 10) < 0) = false := decide_eq_false c6
    clear c6
    obtain ⟨y134,hyy⟩ : ∃ y_ : List Int,y_ = (([(wrap64 (48 + (Int.tmod x0_1 10))) % 256] : List Int)) := ⟨_,rfl⟩
    replace H : (if (strOfNums y134).size + x4_1.size ≤ 9223372036854775807 then (spec_Digits.l0 k1 (wrap64 (Int.tdiv x0_1 10)) b3 ((strOfNums y134) ++ x4_1)) else (none)) = some r := zR
    have Ny134 := Aside0.mk hyy
    clear hyy
    obtain ⟨c11,H⟩ := ifp H
    have c11b0 := eq_true c11
    have c11b1 : decide ((strOfNums y134).size + x4_1.size ≤ 9223372036854775807) = true := decide_eq_true c11
    try have c11b2 : (9223372036854775807 < (strOfNums y134).size + x4_1.size) = False := eq_false (Nat.not_lt.2 c11)
    have H' := Aside0.mk H
    clear H
    go_wp2_with (first | ((with_reducible refine gate_dst (N := 21) rfl ?_);refine Kd.R_lit (Kd.int .u8) _ 5 ?hg (N := 21) ?hd (xs := ([(wrap64 (48 + (Int.tmod x0_1 10))) % 256] : List Int)) (inner := [.int .u8 ((wrap64 (48 + (Int.tmod x0_1 10))) % 256)]) (ok := fun _ => True) (okp := fun _ => True) ?hr ?hp (fun _ hk => hk) trivial (Below.refl _ _) (Nat.le_refl _) Z146 ?_;(case hd => rfl);(case hg => rfl);(case hr => exact Z107);(case hp => exact (Reps.one (show Kd.M (Kd.int .u8) _ _ _ ((wrap64 (48 + (Int.tmod x0_1 10))) % 256) [.int .u8 ((wrap64 (48 + (Int.tmod x0_1 10))) % 256)] from rfl) (Reps.none _ _)));intro v135 w12 ho13 hb hg_ hnew_;clear hg_ hnew_;(first | rw [← Ny134.out] at ho13 | (simp only [Int.reduceToNat] at ho13;rw [← Ny134.out] at ho13));have n_ := jA (Kd.R_lower ho13 (below_size Z148)) (Aside0.mk (below_step Z148 hb));clear HB;obtain ⟨HO136,HB⟩ := n_;clear hb ho13;have hcv14 := own_string (P := Tryd.prog) Tryd.underlying51 Tryd.underlying5 Tryd.underlying9 (Kd.own_of_R HO136.out)))
    go_roundg k1
    case measure => have := HK1.out;omega
    case rel => exact ⟨(wrap64 (Int.tdiv x0_1 10)),((strOfNums y134) ++ x4_1),Z106,Z106,H',⟨Z116⟩,⟨Z148⟩⟩
   rw [if_pos c6] at H
   have c6b0 : decide ((Int.tmod x0_1 10) < 0) = true := decide_eq_true c6
   clear c6
   obtain ⟨y131,hyy⟩ : ∃ y_ : List Int,y_ = (([(wrap64 (48 + (wrap64 (-(Int.tmod x0_1 10))))) % 256] : List Int)) := ⟨_,rfl⟩
   replace H : (if (strOfNums y131).size + x4_1.size ≤ 9223372036854775807 then (spec_Digits.l0 k1 (wrap64 (Int.tdiv x0_1 10)) b3 ((strOfNums y131) ++ x4_1)) else (none)) = some r := zR
   have Ny131 := Aside0.mk hyy
   clear hyy
   obtain ⟨c7,H⟩ := ifp H
   have c7b0 := eq_true c7
   have c7b1 : decide ((strOfNums y131).size + x4_1.size ≤ 9223372036854775807) = true := decide_eq_true c7
   try have c7b2 : (9223372036854775807 < (strOfNums y131).size + x4_1.size) = False := eq_false (Nat.not_lt.2 c7)
   have H' := Aside0.mk H
   clear H
   go_wp2_with (first | ((with_reducible refine gate_dst (N := 21) rfl ?_);refine Kd.R_lit (Kd.int .u8) _ 5 ?hg (N := 21) ?hd (xs := ([(wrap64 (48 + (wrap64 (-(Int.tmod x0_1 10))))) % 256] : List Int)) (inner := [.int .u8 ((wrap64 (48 + (wrap64 (-(Int.tmod x0_1 10))))) % 256)]) (ok := fun _ => True) (okp := fun _ => True) ?hr ?hp (fun _ hk => hk) trivial (Below.refl _ _) (Nat.le_refl _) Z146 ?_;(case hd => rfl);(case hg => rfl);(case hr => exact Z107);(case hp => exact (Reps.one (show Kd.M (Kd.int .u8) _ _ _ ((wrap64 (48 + (wrap64 (-(Int.tmod x0_1 10))))) % 256) [.int .u8 ((wrap64 (48 + (wrap64 (-(Int.tmod x0_1 10))))) % 256)] from rfl) (Reps.none _ _)));intro v132 w8 ho9 hb hg_ hnew_;clear hg_ hnew_;(first | rw [← Ny131.out] at ho9 | (simp only [Int.reduceToNat] at ho9;rw [← Ny131.out] at ho9));have n_ := jA (Kd.R_lower ho9 (below_size Z148)) (Aside0.mk (below_step Z148 hb));clear HB;obtain ⟨HO133,HB⟩ := n_;clear hb ho9;have hcv10 := own_string (P := Tryd.prog) Tryd.underlying51 Tryd.underlying5 Tryd.underlying9 (Kd.own_of_R HO133.out)))
   go_roundg k1
   case measure => have := HK1.out;omega
   case rel => exact ⟨(wrap64 (Int.tdiv x0_1 10)),((strOfNums y131) ++ x4_1),Z106,Z106,H',⟨Z116⟩,⟨Z148⟩⟩

/-! ### spec_FixText: function 13 -/
mutual
def spec_FixText.j0 : Nat → Int → ByteArray → Option (ByteArray)
 | 0,_,_ => none
 | k + 1,x0,x3 => (spec_Digits.f k (wrap64 (Int.tdiv x0 1000))).bind fun t138 => (if x3.size + t138.size ≤ 9223372036854775807 then (if (Int.tmod x0 1000) = 0 then (some (x3 ++ t138)) else (spec_FixText.l0 k (x3 ++ t138) (([(wrap64 (48 + (wrap64 (Int.tdiv (Int.tmod x0 1000) 100)))) % 256,(wrap64 (48 + (Int.tmod (wrap64 (Int.tdiv (Int.tmod x0 1000) 10)) 10))) % 256,(wrap64 (48 + (Int.tmod (Int.tmod x0 1000) 10))) % 256] : List Int)))) else (none))
def spec_FixText.l0 : Nat → ByteArray → List Int → Option (ByteArray)
 | 0,_,_ => none
 | k + 1,x3,x5 => if 0 ≤ (wrap64 ((x5.length : Int) - 1)) then (if (wrap64 ((x5.length : Int) - 1)) < (x5.length : Int) then (if (rd x5 (wrap64 ((x5.length : Int) - 1))) = 48 then (if (wrap64 ((x5.length : Int) - 1)) ≤ (x5.length : Int) then (spec_FixText.l0 k x3 (x5.take ((wrap64 ((x5.length : Int) - 1)) : Int).toNat)) else (none)) else (if x3.size + 1 ≤ 9223372036854775807 then (if (x3 ++ (⟨#[46]⟩ : ByteArray)).size + (strOfNums x5).size ≤ 9223372036854775807 then (some ((x3 ++ (⟨#[46]⟩ : ByteArray)) ++ (strOfNums x5))) else (none)) else (none))) else (none)) else (none)
end
def spec_FixText.f (k : Nat) (a0 : Int) : Option (ByteArray) := (spec_l6Value.f a0).bind fun t137 => (if t137 = true then (if a0 < 0 then (spec_FixText.j0 k (wrap64 (-a0)) (⟨#[45]⟩ : ByteArray)) else (spec_FixText.j0 k a0 (⟨#[]⟩ : ByteArray))) else (some (⟨#[]⟩ : ByteArray)))
theorem spec_FixText.mono_l : ∀ k,(∀ y0 y1,LeO (spec_FixText.j0 k y0 y1) (spec_FixText.j0 (k + 1) y0 y1)) ∧ (∀ y0 y1,LeO (spec_FixText.l0 k y0 y1) (spec_FixText.l0 (k + 1) y0 y1))
 | 0 => ⟨fun _ _ r h => by simp [spec_FixText.j0] at h,fun _ _ r h => by simp [spec_FixText.l0] at h⟩
 | k + 1 => by
  obtain ⟨ih0,ih1⟩ := spec_FixText.mono_l k
  refine ⟨?_,?_⟩
  ·intro y0 y1
   unfold spec_FixText.j0
   repeat' first
   | (with_reducible exact ih0 _ _)
   | (with_reducible exact ih1 _ _)
   | (with_reducible exact spec_Digits.mono _ _)
   | (with_reducible exact LeO.refl _)
   | (with_reducible exact LeO.none _)
   | (with_reducible refine LeO.ite ?_ ?_)
   | (with_reducible refine LeO.bind ?_ (fun _ => ?_))
   | exact ih0 _ _
   | exact ih1 _ _
   | exact spec_Digits.mono _ _
   | exact LeO.none _
   | refine LeO.ite ?_ ?_
   | refine LeO.bind ?_ (fun _ => ?_)
  ·intro y0 y1
   unfold spec_FixText.l0
   repeat' first
   | (with_reducible exact ih0 _ _)
   | (with_reducible exact ih1 _ _)
   | (with_reducible exact spec_Digits.mono _ _)
   | (with_reducible exact LeO.refl _)
   | (with_reducible exact LeO.none _)
   | (with_reducible refine LeO.ite ?_ ?_)
   | (with_reducible refine LeO.bind ?_ (fun _ => ?_))
   | exact ih0 _ _
   | exact ih1 _ _
   | exact spec_Digits.mono _ _
   | exact LeO.none _
   | refine LeO.ite ?_ ?_
   | refine LeO.bind ?_ (fun _ => ?_)
theorem spec_FixText.mono : ∀ a0 k,LeO (spec_FixText.f k a0) (spec_FixText.f (k + 1) a0) := by
 intro a0 k
 obtain ⟨ih0,ih1⟩ := spec_FixText.mono_l k
 unfold spec_FixText.f
 repeat' first
   | (with_reducible exact ih0 _ _)
   | (with_reducible exact ih1 _ _)
   | (with_reducible exact spec_Digits.mono _ _)
   | (with_reducible exact LeO.refl _)
   | (with_reducible exact LeO.none _)
   | (with_reducible refine LeO.ite ?_ ?_)
   | (with_reducible refine LeO.bind ?_ (fun _ => ?_))
   | exact ih0 _ _
   | exact ih1 _ _
   | exact spec_Digits.mono _ _
   | exact LeO.none _
   | refine LeO.ite ?_ ?_
   | refine LeO.bind ?_ (fun _ => ?_)
set_option maxHeartbeats 8000000 in
set_option maxRecDepth 100000 in
theorem spec_FixText.calls (k : Nat) (a0 : Int) (r : ByteArray) (w : World) (h : spec_FixText.f k a0 = some r) :
  Calls Tryd.prog 13 #[.int .i64 a0] w fun e w' => e = .returned (.string r) ∧ Below w.heap.size w w' := by
 have HB := Aside0.mk (Below.refl w.heap.size w)
 have H := h
 clear h
 unfold spec_FixText.f at H
 obtain ⟨t137,A20,H⟩ := Option.bind_eq_some_iff.mp H
 have A2 := Aside0.mk A20
 clear A20
 by_cases c3 : t137 = true
 rotate_left
 ·replace c3 := Bool.eq_false_iff.mpr c3
  subst c3
  rw [if_neg Bool.false_ne_true] at H
  obtain rfl := Option.some.inj H
  go_enter Tryd.func13,Tryd.ntmps13
  go_wp2_with (first | ((with_reducible refine gate_callee (f := 29) rfl ?_);refine goesL_ (some 7) rfl rfl Tryd.func29 Z121 rfl #[.int .i64 a0] rfl Z66 ?_;(with_reducible refine (spec_l6Value.calls a0 false _ A2.out).mono ?_);rintro e w' ⟨rfl,⟨nd,rfl⟩⟩;refine ⟨_,rfl,?_⟩))
  go_ret
  exact ⟨Z98,Z148⟩
 subst c3
 rw [if_pos rfl] at H
 have HC4 := Aside0.mk H
 clear H
 go_enter Tryd.func13,Tryd.ntmps13
 go_upto_if 10 with (first | ((with_reducible refine gate_callee (f := 29) rfl ?_);refine goesL_ (some 7) rfl rfl Tryd.func29 Z121 rfl #[.int .i64 a0] rfl Z66 ?_;(with_reducible refine (spec_l6Value.calls a0 true _ A2.out).mono ?_);rintro e w' ⟨rfl,⟨nd,rfl⟩⟩;refine ⟨_,rfl,?_⟩))
 (try simp only [Act.put,List.setIfInBounds_toArray,List.set_cons_zero,List.set_cons_succ])
 go_cut [0,3] (fun v0 v3 wc => ∃ (kq : Nat) (x0_3 : Int) (x3_3 : ByteArray),v0 = .int .i64 x0_3 ∧ v3 = .string x3_3 ∧ Aside0 (spec_FixText.j0 kq x0_3 x3_3 = some r) ∧ Aside0 (kq ≤ k) ∧ Aside0 (Below w.heap.size w wc))
 case first =>
  have H := HC4.out
  clear HC4
  by_cases c5 : a0 < 0
  rotate_left
  ·rw [if_neg c5] at H
   have c5b0 : decide (a0 < 0) = false := decide_eq_false c5
   clear c5
   (first | rw [c5b0] | (simp only [i64_w,i32_w];rw [c5b0]) | skip)
   have H' := Aside0.mk H
   clear H
   go_wp2
   go_meet
   case rel => exact ⟨_,(a0),((⟨#[]⟩ : ByteArray)),Z106,Z106,H',⟨Z110⟩,⟨Z148⟩⟩
  rw [if_pos c5] at H
  have c5b0 : decide (a0 < 0) = true := decide_eq_true c5
  clear c5
  (first | rw [c5b0] | (simp only [i64_w,i32_w];rw [c5b0]) | skip)
  have H' := Aside0.mk H
  clear H
  go_wp2
  go_meet
  case rel => exact ⟨_,(wrap64 (-a0)),((⟨#[45]⟩ : ByteArray)),Z106,Z106,H',⟨Z110⟩,⟨Z148⟩⟩
 case rest =>
  clear HC4
  try clear c1
  try clear c2
  try clear p2
  try clear c3
  try clear c5
  try clear c5b0
  obtain ⟨kq,x0_3,x3_3,rfl,rfl,HA,HJ3,HB⟩ := hcut
  cases kq with
  | zero => exact absurd HA.out (by simp [spec_FixText.j0])
  | succ kj3 =>
   have H := HA.out
   clear HA
   simp only [spec_FixText.j0] at H
   obtain ⟨t138,A60,H⟩ := Option.bind_eq_some_iff.mp H
   have A6 := Aside0.mk A60
   clear A60
   obtain ⟨c7,H⟩ := ifp H
   have c7b0 := eq_true c7
   have c7b1 : decide (x3_3.size + t138.size ≤ 9223372036854775807) = true := decide_eq_true c7
   try have c7b2 : (9223372036854775807 < x3_3.size + t138.size) = False := eq_false (Nat.not_lt.2 c7)
   by_cases c8 : (Int.tmod x0_3 1000) = 0
   ·rw [if_pos c8] at H
    have c8b0 : ((Int.tmod x0_3 1000) == 0) = true := beq_iff_eq.mpr c8
    have c8b1 : ((Int.tmod x0_3 1000) != 0) = false := bne_eq_false_iff_eq.mpr c8
    clear c8
    obtain rfl := Option.some.inj H
    go_wp2_with (first | ((with_reducible refine gate_callee (f := 30) rfl ?_);refine goesL_ (some 16) rfl rfl Tryd.func30 Z121 rfl #[.int .i64 (wrap64 (Int.tdiv x0_3 1000))] rfl Z66 ?_;(with_reducible refine (spec_Digits.calls kj3 (wrap64 (Int.tdiv x0_3 1000)) t138 _ A6.out).mono ?_);rintro e wq1 ⟨rfl,hb⟩;refine ⟨_,rfl,?_⟩;have n0_ := Aside0.mk (below_step Z148 hb);clear HB;have HB := n0_;clear n0_;(try clear hb);(try clear hb2);(try clear hk);(try clear hi)))
    go_ret
    exact ⟨Z98,Z148⟩
   rw [if_neg c8] at H
   have c8b0 : ((Int.tmod x0_3 1000) == 0) = false := beq_eq_false_iff_ne.mpr c8
   have c8b1 : ((Int.tmod x0_3 1000) != 0) = true := bne_iff_ne.mpr c8
   obtain ⟨y139,hyy⟩ : ∃ y_ : List Int,y_ = (([(wrap64 (48 + (wrap64 (Int.tdiv (Int.tmod x0_3 1000) 100)))) % 256,(wrap64 (48 + (Int.tmod (wrap64 (Int.tdiv (Int.tmod x0_3 1000) 10)) 10))) % 256,(wrap64 (48 + (Int.tmod (Int.tmod x0_3 1000) 10))) % 256] : List Int)) := ⟨_,rfl⟩
   replace H : (spec_FixText.l0 kj3 (x3_3 ++ t138) y139) = some r := zR
   have Ny139 := Aside0.mk hyy
   clear hyy
   have H' := Aside0.mk H
   clear H
   go_wp2_with (first | ((with_reducible refine gate_callee (f := 30) rfl ?_);refine goesL_ (some 16) rfl rfl Tryd.func30 Z121 rfl #[.int .i64 (wrap64 (Int.tdiv x0_3 1000))] rfl Z66 ?_;(with_reducible refine (spec_Digits.calls kj3 (wrap64 (Int.tdiv x0_3 1000)) t138 _ A6.out).mono ?_);rintro e w10 ⟨rfl,hb⟩;refine ⟨_,rfl,?_⟩;have n0_ := Aside0.mk (below_step Z148 hb);clear HB;have HB := n0_;clear n0_;(try clear hb);(try clear hb2);(try clear hk);(try clear hi)) | ((with_reducible refine gate_dst (N := 36) rfl ?_);refine Kd.R_lit (Kd.int .u8) _ 5 ?hg (N := 36) ?hd (xs := ([(wrap64 (48 + (wrap64 (Int.tdiv (Int.tmod x0_3 1000) 100)))) % 256,(wrap64 (48 + (Int.tmod (wrap64 (Int.tdiv (Int.tmod x0_3 1000) 10)) 10))) % 256,(wrap64 (48 + (Int.tmod (Int.tmod x0_3 1000) 10))) % 256] : List Int)) (inner := [.int .u8 ((wrap64 (48 + (wrap64 (Int.tdiv (Int.tmod x0_3 1000) 100)))) % 256),.int .u8 ((wrap64 (48 + (Int.tmod (wrap64 (Int.tdiv (Int.tmod x0_3 1000) 10)) 10))) % 256),.int .u8 ((wrap64 (48 + (Int.tmod (Int.tmod x0_3 1000) 10))) % 256)]) (ok := fun _ => True) (okp := fun _ => True) ?hr ?hp (fun _ hk => hk) trivial (Below.refl _ _) (Nat.le_refl _) Z146 ?_;(case hd => rfl);(case hg => rfl);(case hr => exact Z107);(case hp => exact (Reps.one (show Kd.M (Kd.int .u8) _ _ _ ((wrap64 (48 + (wrap64 (Int.tdiv (Int.tmod x0_3 1000) 100)))) % 256) [.int .u8 ((wrap64 (48 + (wrap64 (Int.tdiv (Int.tmod x0_3 1000) 100)))) % 256)] from rfl) (Reps.one (show Kd.M (Kd.int .u8) _ _ _ ((wrap64 (48 + (Int.tmod (wrap64 (Int.tdiv (Int.tmod x0_3 1000) 10)) 10))) % 256) [.int .u8 ((wrap64 (48 + (Int.tmod (wrap64 (Int.tdiv (Int.tmod x0_3 1000) 10)) 10))) % 256)] from rfl) (Reps.one (show Kd.M (Kd.int .u8) _ _ _ ((wrap64 (48 + (Int.tmod (Int.tmod x0_3 1000) 10))) % 256) [.int .u8 ((wrap64 (48 + (Int.tmod (Int.tmod x0_3 1000) 10))) % 256)] from rfl) (Reps.none _ _)))));intro v140 w11 ho12 hb hg_ hnew_;clear hg_ hnew_;(first | rw [← Ny139.out] at ho12 | (simp only [Int.reduceToNat] at ho12;rw [← Ny139.out] at ho12));have n_ := jA (Kd.R_lower ho12 (below_size Z148)) (Aside0.mk (below_step Z148 hb));clear HB;obtain ⟨HO141,HB⟩ := n_;clear hb ho12))
   go_loopg [5] kj3 (fun kq v5 w' => ∃ (x5_2 : List Int),Aside0 (spec_FixText.l0 kq (x3_3 ++ t138) x5_2 = some r) ∧ Aside0 (kq ≤ kj3) ∧ Aside0 (Kd.R (Kd.int .u8) 5 w' w.heap.size (fun _ => True) v5 x5_2) ∧ Aside0 (Below w.heap.size w w'))
   case atStart => exact ⟨(y139),H',⟨Nat.le_refl _⟩,⟨by (with_reducible repeat (first | apply Kd.R_alloc | apply Kd.R_drewN | apply Kd.R_drew));exact HO141.out⟩,⟨Z148⟩⟩
   case round =>
    clear H'
    try clear c1
    try clear c2
    try clear p2
    try clear c3
    try clear c5
    try clear c5b0
    try clear p6
    try clear c7
    try clear c7b0
    try clear c7b1
    try clear c7b2
    try clear c8
    try clear c8b0
    try clear c8b1
    try clear p2
    obtain ⟨x5_2,HA,HK2,HO_5,HB⟩ := hrel
    cases gk with
    | zero => exact absurd HA.out (by simp [spec_FixText.l0])
    | succ k2 =>
     have H := HA.out
     clear HA
     simp only [spec_FixText.l0] at H
     obtain ⟨ji13,hji13⟩ : ∃ j_ : Int,(wrap64 ((x5_2.length : Int) - 1)) = j_ := ⟨_,rfl⟩
     replace H : (if 0 ≤ (ji13) then (if (ji13) < (x5_2.length : Int) then (if (rd x5_2 (ji13)) = 48 then (if (ji13) ≤ (x5_2.length : Int) then (spec_FixText.l0 k2 (x3_3 ++ t138) (x5_2.take ((ji13) : Int).toNat)) else (none)) else (if (x3_3 ++ t138).size + 1 ≤ 9223372036854775807 then (if ((x3_3 ++ t138) ++ (⟨#[46]⟩ : ByteArray)).size + (strOfNums x5_2).size ≤ 9223372036854775807 then (some (((x3_3 ++ t138) ++ (⟨#[46]⟩ : ByteArray)) ++ (strOfNums x5_2))) else (none)) else (none))) else (none)) else (none)) = some r := by first | (rw [hji13] at H;exact H) | (simp only [hji13] at H ⊢;exact H)
     have hji13w : (IntKind.i64.wrap ((x5_2.length : Int) - 1)) = ji13 := (i64_w _).trans hji13
     obtain ⟨c14,H⟩ := ifp H
     have c14b0 : decide (0 ≤ (ji13)) = true := decide_eq_true c14
     clear c14
     obtain ⟨c15,H⟩ := ifp H
     have c15b0 : decide ((ji13) < (x5_2.length : Int)) = true := decide_eq_true c15
     clear c15
     by_cases c16 : (rd x5_2 (ji13)) = 48
     ·rw [if_pos c16] at H
      have c16b0 : ((rd x5_2 (ji13)) == 48) = true := beq_iff_eq.mpr c16
      have c16b1 : ((rd x5_2 (ji13)) != 48) = false := bne_eq_false_iff_eq.mpr c16
      clear c16
      obtain ⟨c17,H⟩ := ifp H
      have c17b0 := eq_true c17
      have c17b1 : decide ((ji13) ≤ (x5_2.length : Int)) = true := decide_eq_true c17
      clear c17
      obtain ⟨y143,hyy⟩ : ∃ y_ : List Int,y_ = (x5_2.take ((ji13) : Int).toNat) := ⟨_,rfl⟩
      replace H : (spec_FixText.l0 k2 (x3_3 ++ t138) y143) = some r := zR
      have Ny143 := Aside0.mk hyy
      clear hyy
      have H' := Aside0.mk H
      clear H
      obtain ⟨Ao18,co18,eo18⟩ := Kd.R_slice HO_5.out
      subst eo18
      have p142 : 0 ≤ ((ji13) : Int) := of_decide_eq_true Z105
      have q142 : (ji13) < (x5_2.length : Int) := of_decide_eq_true Z105
      obtain ⟨ad142,e142,hx142_0⟩ := Kd.at_int (Kd.R_reads' HO_5.out).2.2 (ji13) p142 q142
      cases e142
      replace p142 := eq_true p142
      replace q142 := eq_true q142
      have q19 : ((ji13) : Int) ≤ ((x5_2.length : Int) : Int) := of_decide_eq_true Z105
      obtain ⟨i019,hi019,_,hsz19,_⟩ := info_parts info5
      have hcut19 := cut_to (P := Tryd.prog) 51 5 .i64 Tryd.underlying51 hi019 (some ad142) x5_2.length co18 (ji13) (of_decide_eq_true Z105) q19 (Kd.R_reads' HO_5.out).2.1
      have hr19 := Kd.R_take (m := ((ji13) : Int).toNat) HO_5.out Z122
      have hy19 : y143.length = ((ji13) : Int).toNat := (by rw [Ny143.out,List.length_take];omega)
      rw [← Ny143.out] at hr19
      rw [← hy19] at hr19 hcut19
      clear hy19 hi019 hsz19 HO_5
      have HO145 := Aside0.mk hr19
      clear hr19
      replace q19 := eq_true q19
      go_wp2
      go_roundg k2
      case measure => have := HJ3.out;have := HK2.out;omega
      case rel => exact ⟨(y143),H',⟨by have := HJ3.out;have := HK2.out;omega⟩,⟨by (with_reducible repeat (first | apply Kd.R_alloc | apply Kd.R_drewN | apply Kd.R_drew));exact HO145.out⟩,⟨Z148⟩⟩
     rw [if_neg c16] at H
     have c16b0 : ((rd x5_2 (ji13)) == 48) = false := beq_eq_false_iff_ne.mpr c16
     have c16b1 : ((rd x5_2 (ji13)) != 48) = true := bne_iff_ne.mpr c16
     obtain ⟨c20,H⟩ := ifp H
     have c20b0 := eq_true c20
     have c20b1 : decide ((x3_3 ++ t138).size + 1 ≤ 9223372036854775807) = true := decide_eq_true c20
     try have c20b2 : (9223372036854775807 < (x3_3 ++ t138).size + 1) = False := eq_false (Nat.not_lt.2 c20)
     try (have c20b3 := c20b2; simp only [ByteArray.size_append] at c20b3)
     try (have c20b4 := c20b3; simp only [show ∀ b_ : UInt8, (⟨#[b_]⟩ : ByteArray).size = 1 from fun _ => rfl] at c20b4)
     obtain ⟨c21,H⟩ := ifp H
     have c21b0 := eq_true c21
     have c21b1 : decide (((x3_3 ++ t138) ++ (⟨#[46]⟩ : ByteArray)).size + (strOfNums x5_2).size ≤ 9223372036854775807) = true := decide_eq_true c21
     try have c21b2 : (9223372036854775807 < ((x3_3 ++ t138) ++ (⟨#[46]⟩ : ByteArray)).size + (strOfNums x5_2).size) = False := eq_false (Nat.not_lt.2 c21)
     try (have c21b3 := c21b2; simp only [ByteArray.size_append] at c21b3)
     try (have c21b4 := c21b3; simp only [show ∀ b_ : UInt8, (⟨#[b_]⟩ : ByteArray).size = 1 from fun _ => rfl] at c21b4)
     obtain rfl := Option.some.inj H
     obtain ⟨Ao22,co22,eo22⟩ := Kd.R_slice HO_5.out
     subst eo22
     have p142 : 0 ≤ ((ji13) : Int) := of_decide_eq_true Z105
     have q142 : (ji13) < (x5_2.length : Int) := of_decide_eq_true Z105
     obtain ⟨ad142,e142,hx142_0⟩ := Kd.at_int (Kd.R_reads' HO_5.out).2.2 (ji13) p142 q142
     cases e142
     replace p142 := eq_true p142
     replace q142 := eq_true q142
     have hcv23 := own_string (P := Tryd.prog) Tryd.underlying51 Tryd.underlying5 Tryd.underlying9 (Kd.own_of_R HO_5.out)
     go_wp2
     go_ret
     exact ⟨by first | rfl | (simp [errW_none,errW_some] <;> rfl) | (simp only [← hji13];first | rfl | (simp [errW_none,errW_some] <;> rfl)) | (simp [*,errW_none,errW_some] <;> rfl),Z148⟩

/-! ### spec_CsvField: function 31 -/
def spec_CsvField.l0 : Nat → ByteArray → Bool → List Int → Int → Option (ByteArray)
 | 0,_,_,_,_ => none
 | k + 1,x0,x3,x4,x5 => if x5 < (x0.size : Int) then (if x3 = true then (if 0 ≤ x5 then (if x4.length < 140737488355328 then ((some (x4 ++ [bt x0 x5] : List Int)).bind fun y149 => (if (bt x0 x5) = 34 then (if y149.length < 140737488355328 then (spec_CsvField.l0 k x0 true (y149 ++ [34]) (wrap64 (x5 + 1))) else (none)) else (spec_CsvField.l0 k x0 true y149 (wrap64 (x5 + 1))))) else (none)) else (none)) else (if 0 ≤ x5 then (if (bt x0 x5) = 44 then (if x4.length < 140737488355328 then ((some (x4 ++ [bt x0 x5] : List Int)).bind fun y155 => (if (bt x0 x5) = 34 then (if y155.length < 140737488355328 then (spec_CsvField.l0 k x0 true (y155 ++ [34]) (wrap64 (x5 + 1))) else (none)) else (spec_CsvField.l0 k x0 true y155 (wrap64 (x5 + 1))))) else (none)) else (if (bt x0 x5) = 34 then (if x4.length < 140737488355328 then ((some (x4 ++ [bt x0 x5] : List Int)).bind fun y161 => (if y161.length < 140737488355328 then (spec_CsvField.l0 k x0 true (y161 ++ [34]) (wrap64 (x5 + 1))) else (none))) else (none)) else (if (bt x0 x5) = 10 then (if x4.length < 140737488355328 then (spec_CsvField.l0 k x0 true (x4 ++ [bt x0 x5]) (wrap64 (x5 + 1))) else (none)) else (if x4.length < 140737488355328 then (spec_CsvField.l0 k x0 ((bt x0 x5) == 13) (x4 ++ [bt x0 x5]) (wrap64 (x5 + 1))) else (none))))) else (none))) else (if x3 = true then (if x4.length < 140737488355328 then (some (strOfNums (x4 ++ [34]))) else (none)) else (some x0))
def spec_CsvField.f (k : Nat) (a0 : ByteArray) : Option (ByteArray) := spec_CsvField.l0 k a0 false (([34] : List Int)) 0
theorem spec_CsvField.mono_l : ∀ k,(∀ y0 y1 y2 y3,LeO (spec_CsvField.l0 k y0 y1 y2 y3) (spec_CsvField.l0 (k + 1) y0 y1 y2 y3))
 | 0 => fun _ _ _ _ r h => by simp [spec_CsvField.l0] at h
 | k + 1 => by
  have ih0 := spec_CsvField.mono_l k
  ·intro y0 y1 y2 y3
   unfold spec_CsvField.l0
   repeat' first
   | (with_reducible exact ih0 _ _ _ _)
   | (with_reducible exact LeO.refl _)
   | (with_reducible exact LeO.none _)
   | (with_reducible refine LeO.ite ?_ ?_)
   | (with_reducible refine LeO.bind ?_ (fun _ => ?_))
   | exact ih0 _ _ _ _
   | exact LeO.none _
   | refine LeO.ite ?_ ?_
   | refine LeO.bind ?_ (fun _ => ?_)
theorem spec_CsvField.mono : ∀ a0 k,LeO (spec_CsvField.f k a0) (spec_CsvField.f (k + 1) a0) := by
 intro a0 k
 have ih0 := spec_CsvField.mono_l k
 unfold spec_CsvField.f
 repeat' first
   | (with_reducible exact ih0 _ _ _ _)
   | (with_reducible exact LeO.refl _)
   | (with_reducible exact LeO.none _)
   | (with_reducible refine LeO.ite ?_ ?_)
   | (with_reducible refine LeO.bind ?_ (fun _ => ?_))
   | exact ih0 _ _ _ _
   | exact LeO.none _
   | refine LeO.ite ?_ ?_
   | refine LeO.bind ?_ (fun _ => ?_)
set_option maxHeartbeats 8000000 in
set_option maxRecDepth 100000 in
theorem spec_CsvField.calls (k : Nat) (a0 : ByteArray) (r : ByteArray) (w : World) (h : spec_CsvField.f k a0 = some r) :
  Calls Tryd.prog 31 #[.string a0] w fun e w' => e = .returned (.string r) ∧ Below w.heap.size w w' := by
 have HB := Aside0.mk (Below.refl w.heap.size w)
 have H := h
 clear h
 unfold spec_CsvField.f at H
 obtain ⟨y146,hyy⟩ : ∃ y_ : List Int,y_ = (([34] : List Int)) := ⟨_,rfl⟩
 replace H : (spec_CsvField.l0 k a0 false y146 0) = some r := zR
 have Ny146 := Aside0.mk hyy
 clear hyy
 have H' := Aside0.mk H
 clear H
 go_enter Tryd.func31,Tryd.ntmps31
 go_wp2_with (first | ((with_reducible refine gate_dst (N := 6) rfl ?_);refine Kd.R_lit (Kd.int .u8) _ 5 ?hg (N := 6) ?hd (xs := ([34] : List Int)) (inner := [.int .u8 34]) (ok := fun _ => True) (okp := fun _ => True) ?hr ?hp (fun _ hk => hk) trivial (Below.refl _ _) (Nat.le_refl _) Z146 ?_;(case hd => rfl);(case hg => rfl);(case hr => exact Z107);(case hp => exact (Reps.one (show Kd.M (Kd.int .u8) _ _ _ 34 [.int .u8 34] from rfl) (Reps.none _ _)));intro v147 w2 ho3 hb hg_ hnew_;clear hg_ hnew_;(first | rw [← Ny146.out] at ho3 | (simp only [Int.reduceToNat] at ho3;rw [← Ny146.out] at ho3));have n_ := Z20;clear HB;obtain ⟨HO148,HB⟩ := n_;clear hb ho3))
 go_loopg [3,4,5] k (fun kq v3 v4 v5 w' => ∃ (x3_1 : Bool) (x4_1 : List Int) (x5_1 : Int),v3 = .bool x3_1 ∧ v5 = .int .i64 x5_1 ∧ Aside0 (spec_CsvField.l0 kq a0 x3_1 x4_1 x5_1 = some r) ∧ Aside0 (kq ≤ k) ∧ Aside0 (Kd.R (Kd.int .u8) 5 w' w.heap.size (fun _ => True) v4 x4_1) ∧ Aside0 (Below w.heap.size w w'))
 case atStart => exact ⟨(false),(y146),(0),Z106,Z106,H',⟨Nat.le_refl _⟩,⟨by (with_reducible repeat (first | apply Kd.R_alloc | apply Kd.R_drewN | apply Kd.R_drew));exact HO148.out⟩,⟨Z148⟩⟩
 case round =>
  clear H'
  try clear p2
  try clear c3
  obtain ⟨x3_1,x4_1,x5_1,rfl,rfl,HA,HK1,HO_4,HB⟩ := hrel
  cases gk with
  | zero => exact absurd HA.out (by simp [spec_CsvField.l0])
  | succ k1 =>
   have H := HA.out
   clear HA
   simp only [spec_CsvField.l0] at H
   by_cases c4 : x5_1 < (a0.size : Int)
   rotate_left
   ·rw [if_neg c4] at H
    have c4b0 : decide (x5_1 < (a0.size : Int)) = false := decide_eq_false c4
    clear c4
    by_cases c45 : x3_1 = true
    rotate_left
    ·replace c45 := Bool.eq_false_iff.mpr c45
     subst c45
     rw [if_neg Bool.false_ne_true] at H
     obtain rfl := Option.some.inj H
     go_wp2
     go_ret
     exact ⟨Z98,Z148⟩
    subst c45
    rw [if_pos rfl] at H
    obtain ⟨c46,H⟩ := ifp H
    have LMc46 := Aside0.mk c46
    clear c46
    obtain ⟨y173,hyy⟩ : ∃ y_ : List Int,y_ = (x4_1 ++ [34]) := ⟨_,rfl⟩
    replace H : (some (strOfNums y173)) = some r := zR
    have Ny173 := Aside0.mk hyy
    clear hyy
    obtain rfl := Option.some.inj H
    go_wp2_with (first | ((with_reducible refine gate_builtin (b := .append) (xs := #[.tmp 54,.tmp 55]) rfl ?_);at_builtin;refine Kd.R_append (Kd.int .u8) (w0 := w) w.heap.size rfl (.tmp 54) (.tmp 55) 51 5 (.int .u8 0) 1 rfl Tryd.underlying51 info5 rfl Z145 Z122 u4 x4_1 34 [.int .u8 34] (fun _ => True) (fun _ => False) rfl rfl ?aP (fun _ hk => hk.elim) ?aF ?aO ?aB ?aS ?aL ?_;(case aP => exact rfl);(case aB => exact Z63);(case aF => exact Z114);(case aO => exact Z74);(case aS => exact Z57);(case aL => have := LMc46.out;omega);intro vq1 wq2 ho hb hg hat;rw [← Ny173.out] at ho;have n_ := jA (hb) (Aside0.mk (ho));clear HB HO_4;obtain ⟨HB,HO175⟩ := n_;clear ho hb hg hat;have hcvq3 := own_string (P := Tryd.prog) Tryd.underlying51 Tryd.underlying5 Tryd.underlying9 (Kd.own_of_R HO175.out)))
    go_ret
    exact ⟨Z98,Z148⟩
   rw [if_pos c4] at H
   have c4b0 : decide (x5_1 < (a0.size : Int)) = true := decide_eq_true c4
   clear c4
   by_cases c5 : x3_1 = true
   ·subst c5
    rw [if_pos rfl] at H
    obtain ⟨c6,H⟩ := ifp H
    have c6b0 : decide (0 ≤ x5_1) = true := decide_eq_true c6
    clear c6
    obtain ⟨c8,H⟩ := ifp H
    have LMc8 := Aside0.mk c8
    clear c8
    obtain ⟨y149,hyy⟩ : ∃ y_ : List Int,y_ = (x4_1 ++ [bt a0 x5_1]) := ⟨_,rfl⟩
    replace H : (if (bt a0 x5_1) = 34 then (if y149.length < 140737488355328 then (spec_CsvField.l0 k1 a0 true (y149 ++ [34]) (wrap64 (x5_1 + 1))) else (none)) else (spec_CsvField.l0 k1 a0 true y149 (wrap64 (x5_1 + 1)))) = some r := zR
    have Ny149 := Aside0.mk hyy
    clear hyy
    by_cases c10 : (bt a0 x5_1) = 34
    rotate_left
    ·rw [if_neg c10] at H
     have c10b0 : ((bt a0 x5_1) == 34) = false := beq_eq_false_iff_ne.mpr c10
     have c10b1 : ((bt a0 x5_1) != 34) = true := bne_iff_ne.mpr c10
     have H' := Aside0.mk H
     clear H
     have p7 : 0 ≤ (x5_1 : Int) := of_decide_eq_true Z105
     have q7 : x5_1 < (a0.size : Int) := of_decide_eq_true Z105
     have hx7 := bt_at a0 x5_1
     replace p7 := eq_true p7
     replace q7 := eq_true q7
     go_wp2_with (first | ((with_reducible refine gate_builtin (b := .append) (xs := #[.tmp 38,.tmp 42]) rfl ?_);at_builtin;refine Kd.R_append (Kd.int .u8) (w0 := w) w.heap.size rfl (.tmp 38) (.tmp 42) 51 5 (.int .u8 0) 1 rfl Tryd.underlying51 info5 rfl Z145 Z122 u4 x4_1 (bt a0 x5_1) [.int .u8 (bt a0 x5_1)] (fun _ => True) (fun _ => False) rfl rfl ?aP (fun _ hk => hk.elim) ?aF ?aO ?aB ?aS ?aL ?_;(case aP => exact rfl);(case aB => exact Z63);(case aF => exact Z114);(case aO => exact Z74);(case aS => exact Z57);(case aL => have := LMc8.out;omega);intro v150 w14 ho hb hg hat;rw [← Ny149.out] at ho;have n_ := jA (hb) (Aside0.mk (ho));clear HB HO_4;obtain ⟨HB,HO151⟩ := n_;clear ho hb hg hat;have p9 : 0 ≤ (x5_1 : Int) := of_decide_eq_true Z105;have q9 : x5_1 < (a0.size : Int) := of_decide_eq_true Z105;have hx9 := bt_at a0 x5_1;replace p9 := eq_true p9;replace q9 := eq_true q9))
     go_roundg k1
     case measure => have := HK1.out;omega
     case rel => exact ⟨(true),(y149),(wrap64 (x5_1 + 1)),Z106,Z106,H',⟨Z116⟩,⟨Z93⟩,⟨Z148⟩⟩
    rw [if_pos c10] at H
    have c10b0 : ((bt a0 x5_1) == 34) = true := beq_iff_eq.mpr c10
    have c10b1 : ((bt a0 x5_1) != 34) = false := bne_eq_false_iff_eq.mpr c10
    clear c10
    obtain ⟨c11,H⟩ := ifp H
    have LMc11 := Aside0.mk c11
    clear c11
    obtain ⟨y152,hyy⟩ : ∃ y_ : List Int,y_ = (y149 ++ [34]) := ⟨_,rfl⟩
    replace H : (spec_CsvField.l0 k1 a0 true y152 (wrap64 (x5_1 + 1))) = some r := zR
    have Ny152 := Aside0.mk hyy
    clear hyy
    have H' := Aside0.mk H
    clear H
    have p7 : 0 ≤ (x5_1 : Int) := of_decide_eq_true Z105
    have q7 : x5_1 < (a0.size : Int) := of_decide_eq_true Z105
    have hx7 := bt_at a0 x5_1
    replace p7 := eq_true p7
    replace q7 := eq_true q7
    go_wp2_with (first | ((with_reducible refine gate_builtin (b := .append) (xs := #[.tmp 38,.tmp 42]) rfl ?_);at_builtin;refine Kd.R_append (Kd.int .u8) (w0 := w) w.heap.size rfl (.tmp 38) (.tmp 42) 51 5 (.int .u8 0) 1 rfl Tryd.underlying51 info5 rfl Z145 Z122 u4 x4_1 (bt a0 x5_1) [.int .u8 (bt a0 x5_1)] (fun _ => True) (fun _ => False) rfl rfl ?aP (fun _ hk => hk.elim) ?aF ?aO ?aB ?aS ?aL ?_;(case aP => exact rfl);(case aB => exact Z63);(case aF => exact Z114);(case aO => exact Z74);(case aS => exact Z57);(case aL => have := LMc8.out;omega);intro v150 w12 ho hb hg hat;rw [← Ny149.out] at ho;have n_ := jA (hb) (Aside0.mk (ho));clear HB HO_4;obtain ⟨HB,HO151⟩ := n_;clear ho hb hg hat;have p9 : 0 ≤ (x5_1 : Int) := of_decide_eq_true Z105;have q9 : x5_1 < (a0.size : Int) := of_decide_eq_true Z105;have hx9 := bt_at a0 x5_1;replace p9 := eq_true p9;replace q9 := eq_true q9) | ((with_reducible refine gate_builtin (b := .append) (xs := #[.tmp 48,.tmp 49]) rfl ?_);at_builtin;refine Kd.R_append (Kd.int .u8) (w0 := w) w.heap.size rfl (.tmp 48) (.tmp 49) 51 5 (.int .u8 0) 1 rfl Tryd.underlying51 info5 rfl Z145 Z122 v150 y149 34 [.int .u8 34] (fun _ => True) (fun _ => False) rfl rfl ?aP (fun _ hk => hk.elim) ?aF ?aO ?aB ?aS ?aL ?_;(case aP => exact rfl);(case aB => exact Z63);(case aF => exact Z114);(case aO => exact Z93);(case aS => exact Z57);(case aL => have := LMc11.out;omega);intro v153 w13 ho hb hg hat;rw [← Ny152.out] at ho;have n_ := jA (hb) (Aside0.mk (ho));clear HB HO151;obtain ⟨HB,HO154⟩ := n_;clear ho hb hg hat))
    go_roundg k1
    case measure => have := HK1.out;omega
    case rel => exact ⟨(true),(y152),(wrap64 (x5_1 + 1)),Z106,Z106,H',⟨Z116⟩,⟨by (with_reducible repeat (first | apply Kd.R_alloc | apply Kd.R_drewN | apply Kd.R_drew));exact HO154.out⟩,⟨Z148⟩⟩
   replace c5 := Bool.eq_false_iff.mpr c5
   subst c5
   rw [if_neg Bool.false_ne_true] at H
   obtain ⟨c15,H⟩ := ifp H
   have c15b0 : decide (0 ≤ x5_1) = true := decide_eq_true c15
   clear c15
   by_cases c17 : (bt a0 x5_1) = 44
   ·rw [if_pos c17] at H
    have c17b0 : ((bt a0 x5_1) == 44) = true := beq_iff_eq.mpr c17
    have c17b1 : ((bt a0 x5_1) != 44) = false := bne_eq_false_iff_eq.mpr c17
    clear c17
    obtain ⟨c19,H⟩ := ifp H
    have LMc19 := Aside0.mk c19
    clear c19
    obtain ⟨y155,hyy⟩ : ∃ y_ : List Int,y_ = (x4_1 ++ [bt a0 x5_1]) := ⟨_,rfl⟩
    replace H : (if (bt a0 x5_1) = 34 then (if y155.length < 140737488355328 then (spec_CsvField.l0 k1 a0 true (y155 ++ [34]) (wrap64 (x5_1 + 1))) else (none)) else (spec_CsvField.l0 k1 a0 true y155 (wrap64 (x5_1 + 1)))) = some r := zR
    have Ny155 := Aside0.mk hyy
    clear hyy
    by_cases c21 : (bt a0 x5_1) = 34
    rotate_left
    ·rw [if_neg c21] at H
     have c21b0 : ((bt a0 x5_1) == 34) = false := beq_eq_false_iff_ne.mpr c21
     have c21b1 : ((bt a0 x5_1) != 34) = true := bne_iff_ne.mpr c21
     have H' := Aside0.mk H
     clear H
     have p16 : 0 ≤ (x5_1 : Int) := of_decide_eq_true Z105
     have q16 : x5_1 < (a0.size : Int) := of_decide_eq_true Z105
     have hx16 := bt_at a0 x5_1
     replace p16 := eq_true p16
     replace q16 := eq_true q16
     have p18 : 0 ≤ (x5_1 : Int) := of_decide_eq_true Z105
     have q18 : x5_1 < (a0.size : Int) := of_decide_eq_true Z105
     have hx18 := bt_at a0 x5_1
     replace p18 := eq_true p18
     replace q18 := eq_true q18
     go_wp2_with (first | ((with_reducible refine gate_builtin (b := .append) (xs := #[.tmp 38,.tmp 42]) rfl ?_);at_builtin;refine Kd.R_append (Kd.int .u8) (w0 := w) w.heap.size rfl (.tmp 38) (.tmp 42) 51 5 (.int .u8 0) 1 rfl Tryd.underlying51 info5 rfl Z145 Z122 u4 x4_1 (bt a0 x5_1) [.int .u8 (bt a0 x5_1)] (fun _ => True) (fun _ => False) rfl rfl ?aP (fun _ hk => hk.elim) ?aF ?aO ?aB ?aS ?aL ?_;(case aP => exact rfl);(case aB => exact Z63);(case aF => exact Z114);(case aO => exact Z74);(case aS => exact Z57);(case aL => have := LMc19.out;omega);intro v156 w25 ho hb hg hat;rw [← Ny155.out] at ho;have n_ := jA (hb) (Aside0.mk (ho));clear HB HO_4;obtain ⟨HB,HO157⟩ := n_;clear ho hb hg hat;have p20 : 0 ≤ (x5_1 : Int) := of_decide_eq_true Z105;have q20 : x5_1 < (a0.size : Int) := of_decide_eq_true Z105;have hx20 := bt_at a0 x5_1;replace p20 := eq_true p20;replace q20 := eq_true q20))
     go_roundg k1
     case measure => have := HK1.out;omega
     case rel => exact ⟨(true),(y155),(wrap64 (x5_1 + 1)),Z106,Z106,H',⟨Z116⟩,⟨Z92⟩,⟨Z148⟩⟩
    rw [if_pos c21] at H
    have c21b0 : ((bt a0 x5_1) == 34) = true := beq_iff_eq.mpr c21
    have c21b1 : ((bt a0 x5_1) != 34) = false := bne_eq_false_iff_eq.mpr c21
    clear c21
    obtain ⟨c22,H⟩ := ifp H
    have LMc22 := Aside0.mk c22
    clear c22
    obtain ⟨y158,hyy⟩ : ∃ y_ : List Int,y_ = (y155 ++ [34]) := ⟨_,rfl⟩
    replace H : (spec_CsvField.l0 k1 a0 true y158 (wrap64 (x5_1 + 1))) = some r := zR
    have Ny158 := Aside0.mk hyy
    clear hyy
    have H' := Aside0.mk H
    clear H
    have p16 : 0 ≤ (x5_1 : Int) := of_decide_eq_true Z105
    have q16 : x5_1 < (a0.size : Int) := of_decide_eq_true Z105
    have hx16 := bt_at a0 x5_1
    replace p16 := eq_true p16
    replace q16 := eq_true q16
    have p18 : 0 ≤ (x5_1 : Int) := of_decide_eq_true Z105
    have q18 : x5_1 < (a0.size : Int) := of_decide_eq_true Z105
    have hx18 := bt_at a0 x5_1
    replace p18 := eq_true p18
    replace q18 := eq_true q18
    go_wp2_with (first | ((with_reducible refine gate_builtin (b := .append) (xs := #[.tmp 38,.tmp 42]) rfl ?_);at_builtin;refine Kd.R_append (Kd.int .u8) (w0 := w) w.heap.size rfl (.tmp 38) (.tmp 42) 51 5 (.int .u8 0) 1 rfl Tryd.underlying51 info5 rfl Z145 Z122 u4 x4_1 (bt a0 x5_1) [.int .u8 (bt a0 x5_1)] (fun _ => True) (fun _ => False) rfl rfl ?aP (fun _ hk => hk.elim) ?aF ?aO ?aB ?aS ?aL ?_;(case aP => exact rfl);(case aB => exact Z63);(case aF => exact Z114);(case aO => exact Z74);(case aS => exact Z57);(case aL => have := LMc19.out;omega);intro v156 w23 ho hb hg hat;rw [← Ny155.out] at ho;have n_ := jA (hb) (Aside0.mk (ho));clear HB HO_4;obtain ⟨HB,HO157⟩ := n_;clear ho hb hg hat;have p20 : 0 ≤ (x5_1 : Int) := of_decide_eq_true Z105;have q20 : x5_1 < (a0.size : Int) := of_decide_eq_true Z105;have hx20 := bt_at a0 x5_1;replace p20 := eq_true p20;replace q20 := eq_true q20) | ((with_reducible refine gate_builtin (b := .append) (xs := #[.tmp 48,.tmp 49]) rfl ?_);at_builtin;refine Kd.R_append (Kd.int .u8) (w0 := w) w.heap.size rfl (.tmp 48) (.tmp 49) 51 5 (.int .u8 0) 1 rfl Tryd.underlying51 info5 rfl Z145 Z122 v156 y155 34 [.int .u8 34] (fun _ => True) (fun _ => False) rfl rfl ?aP (fun _ hk => hk.elim) ?aF ?aO ?aB ?aS ?aL ?_;(case aP => exact rfl);(case aB => exact Z63);(case aF => exact Z114);(case aO => exact Z92);(case aS => exact Z57);(case aL => have := LMc22.out;omega);intro v159 w24 ho hb hg hat;rw [← Ny158.out] at ho;have n_ := jA (hb) (Aside0.mk (ho));clear HB HO157;obtain ⟨HB,HO160⟩ := n_;clear ho hb hg hat))
    go_roundg k1
    case measure => have := HK1.out;omega
    case rel => exact ⟨(true),(y158),(wrap64 (x5_1 + 1)),Z106,Z106,H',⟨Z116⟩,⟨by (with_reducible repeat (first | apply Kd.R_alloc | apply Kd.R_drewN | apply Kd.R_drew));exact HO160.out⟩,⟨Z148⟩⟩
   rw [if_neg c17] at H
   have c17b0 : ((bt a0 x5_1) == 44) = false := beq_eq_false_iff_ne.mpr c17
   have c17b1 : ((bt a0 x5_1) != 44) = true := bne_iff_ne.mpr c17
   by_cases c27 : (bt a0 x5_1) = 34
   ·rw [if_pos c27] at H
    have c27b0 : ((bt a0 x5_1) == 34) = true := beq_iff_eq.mpr c27
    have c27b1 : ((bt a0 x5_1) != 34) = false := bne_eq_false_iff_eq.mpr c27
    clear c27
    obtain ⟨c29,H⟩ := ifp H
    have LMc29 := Aside0.mk c29
    clear c29
    obtain ⟨y161,hyy⟩ : ∃ y_ : List Int,y_ = (x4_1 ++ [bt a0 x5_1]) := ⟨_,rfl⟩
    replace H : (if y161.length < 140737488355328 then (spec_CsvField.l0 k1 a0 true (y161 ++ [34]) (wrap64 (x5_1 + 1))) else (none)) = some r := zR
    have Ny161 := Aside0.mk hyy
    clear hyy
    obtain ⟨c31,H⟩ := ifp H
    have LMc31 := Aside0.mk c31
    clear c31
    obtain ⟨y164,hyy⟩ : ∃ y_ : List Int,y_ = (y161 ++ [34]) := ⟨_,rfl⟩
    replace H : (spec_CsvField.l0 k1 a0 true y164 (wrap64 (x5_1 + 1))) = some r := zR
    have Ny164 := Aside0.mk hyy
    clear hyy
    have H' := Aside0.mk H
    clear H
    have p16 : 0 ≤ (x5_1 : Int) := of_decide_eq_true Z105
    have q16 : x5_1 < (a0.size : Int) := of_decide_eq_true Z105
    have hx16 := bt_at a0 x5_1
    replace p16 := eq_true p16
    replace q16 := eq_true q16
    have p26 : 0 ≤ (x5_1 : Int) := of_decide_eq_true Z105
    have q26 : x5_1 < (a0.size : Int) := of_decide_eq_true Z105
    have hx26 := bt_at a0 x5_1
    replace p26 := eq_true p26
    replace q26 := eq_true q26
    have p28 : 0 ≤ (x5_1 : Int) := of_decide_eq_true Z105
    have q28 : x5_1 < (a0.size : Int) := of_decide_eq_true Z105
    have hx28 := bt_at a0 x5_1
    replace p28 := eq_true p28
    replace q28 := eq_true q28
    go_wp2_with (first | ((with_reducible refine gate_builtin (b := .append) (xs := #[.tmp 38,.tmp 42]) rfl ?_);at_builtin;refine Kd.R_append (Kd.int .u8) (w0 := w) w.heap.size rfl (.tmp 38) (.tmp 42) 51 5 (.int .u8 0) 1 rfl Tryd.underlying51 info5 rfl Z145 Z122 u4 x4_1 (bt a0 x5_1) [.int .u8 (bt a0 x5_1)] (fun _ => True) (fun _ => False) rfl rfl ?aP (fun _ hk => hk.elim) ?aF ?aO ?aB ?aS ?aL ?_;(case aP => exact rfl);(case aB => exact Z63);(case aF => exact Z114);(case aO => exact Z74);(case aS => exact Z57);(case aL => have := LMc29.out;omega);intro v162 w32 ho hb hg hat;rw [← Ny161.out] at ho;have n_ := jA (hb) (Aside0.mk (ho));clear HB HO_4;obtain ⟨HB,HO163⟩ := n_;clear ho hb hg hat;have p30 : 0 ≤ (x5_1 : Int) := of_decide_eq_true Z105;have q30 : x5_1 < (a0.size : Int) := of_decide_eq_true Z105;have hx30 := bt_at a0 x5_1;replace p30 := eq_true p30;replace q30 := eq_true q30) | ((with_reducible refine gate_builtin (b := .append) (xs := #[.tmp 48,.tmp 49]) rfl ?_);at_builtin;refine Kd.R_append (Kd.int .u8) (w0 := w) w.heap.size rfl (.tmp 48) (.tmp 49) 51 5 (.int .u8 0) 1 rfl Tryd.underlying51 info5 rfl Z145 Z122 v162 y161 34 [.int .u8 34] (fun _ => True) (fun _ => False) rfl rfl ?aP (fun _ hk => hk.elim) ?aF ?aO ?aB ?aS ?aL ?_;(case aP => exact rfl);(case aB => exact Z63);(case aF => exact Z114);(case aO => exact (by (with_reducible repeat (first | apply Kd.R_alloc | apply Kd.R_drewN | apply Kd.R_drew));exact HO163.out));(case aS => exact Z57);(case aL => have := LMc31.out;omega);intro v165 w33 ho hb hg hat;rw [← Ny164.out] at ho;have n_ := jA (hb) (Aside0.mk (ho));clear HB HO163;obtain ⟨HB,HO166⟩ := n_;clear ho hb hg hat))
    go_roundg k1
    case measure => have := HK1.out;omega
    case rel => exact ⟨(true),(y164),(wrap64 (x5_1 + 1)),Z106,Z106,H',⟨Z116⟩,⟨by (with_reducible repeat (first | apply Kd.R_alloc | apply Kd.R_drewN | apply Kd.R_drew));exact HO166.out⟩,⟨Z148⟩⟩
   rw [if_neg c27] at H
   have c27b0 : ((bt a0 x5_1) == 34) = false := beq_eq_false_iff_ne.mpr c27
   have c27b1 : ((bt a0 x5_1) != 34) = true := bne_iff_ne.mpr c27
   by_cases c35 : (bt a0 x5_1) = 10
   ·rw [if_pos c35] at H
    have c35b0 : ((bt a0 x5_1) == 10) = true := beq_iff_eq.mpr c35
    have c35b1 : ((bt a0 x5_1) != 10) = false := bne_eq_false_iff_eq.mpr c35
    clear c35
    obtain ⟨c37,H⟩ := ifp H
    have LMc37 := Aside0.mk c37
    clear c37
    obtain ⟨y167,hyy⟩ : ∃ y_ : List Int,y_ = (x4_1 ++ [bt a0 x5_1]) := ⟨_,rfl⟩
    replace H : (spec_CsvField.l0 k1 a0 true y167 (wrap64 (x5_1 + 1))) = some r := zR
    have Ny167 := Aside0.mk hyy
    clear hyy
    have H' := Aside0.mk H
    clear H
    have p16 : 0 ≤ (x5_1 : Int) := of_decide_eq_true Z105
    have q16 : x5_1 < (a0.size : Int) := of_decide_eq_true Z105
    have hx16 := bt_at a0 x5_1
    replace p16 := eq_true p16
    replace q16 := eq_true q16
    have p26 : 0 ≤ (x5_1 : Int) := of_decide_eq_true Z105
    have q26 : x5_1 < (a0.size : Int) := of_decide_eq_true Z105
    have hx26 := bt_at a0 x5_1
    replace p26 := eq_true p26
    replace q26 := eq_true q26
    have p34 : 0 ≤ (x5_1 : Int) := of_decide_eq_true Z105
    have q34 : x5_1 < (a0.size : Int) := of_decide_eq_true Z105
    have hx34 := bt_at a0 x5_1
    replace p34 := eq_true p34
    replace q34 := eq_true q34
    have p36 : 0 ≤ (x5_1 : Int) := of_decide_eq_true Z105
    have q36 : x5_1 < (a0.size : Int) := of_decide_eq_true Z105
    have hx36 := bt_at a0 x5_1
    replace p36 := eq_true p36
    replace q36 := eq_true q36
    go_wp2_with (first | ((with_reducible refine gate_builtin (b := .append) (xs := #[.tmp 38,.tmp 42]) rfl ?_);at_builtin;refine Kd.R_append (Kd.int .u8) (w0 := w) w.heap.size rfl (.tmp 38) (.tmp 42) 51 5 (.int .u8 0) 1 rfl Tryd.underlying51 info5 rfl Z145 Z122 u4 x4_1 (bt a0 x5_1) [.int .u8 (bt a0 x5_1)] (fun _ => True) (fun _ => False) rfl rfl ?aP (fun _ hk => hk.elim) ?aF ?aO ?aB ?aS ?aL ?_;(case aP => exact rfl);(case aB => exact Z63);(case aF => exact Z114);(case aO => exact Z74);(case aS => exact Z57);(case aL => have := LMc37.out;omega);intro v168 w39 ho hb hg hat;rw [← Ny167.out] at ho;have n_ := jA (hb) (Aside0.mk (ho));clear HB HO_4;obtain ⟨HB,HO169⟩ := n_;clear ho hb hg hat;have p38 : 0 ≤ (x5_1 : Int) := of_decide_eq_true Z105;have q38 : x5_1 < (a0.size : Int) := of_decide_eq_true Z105;have hx38 := bt_at a0 x5_1;replace p38 := eq_true p38;replace q38 := eq_true q38))
    go_roundg k1
    case measure => have := HK1.out;omega
    case rel => exact ⟨(true),(y167),(wrap64 (x5_1 + 1)),Z106,Z106,H',⟨Z116⟩,⟨by (with_reducible repeat (first | apply Kd.R_alloc | apply Kd.R_drewN | apply Kd.R_drew));exact HO169.out⟩,⟨Z148⟩⟩
   rw [if_neg c35] at H
   have c35b0 : ((bt a0 x5_1) == 10) = false := beq_eq_false_iff_ne.mpr c35
   have c35b1 : ((bt a0 x5_1) != 10) = true := bne_iff_ne.mpr c35
   obtain ⟨c42,H⟩ := ifp H
   have LMc42 := Aside0.mk c42
   clear c42
   obtain ⟨y170,hyy⟩ : ∃ y_ : List Int,y_ = (x4_1 ++ [bt a0 x5_1]) := ⟨_,rfl⟩
   replace H : (spec_CsvField.l0 k1 a0 ((bt a0 x5_1) == 13) y170 (wrap64 (x5_1 + 1))) = some r := zR
   have Ny170 := Aside0.mk hyy
   clear hyy
   have H' := Aside0.mk H
   clear H
   have p16 : 0 ≤ (x5_1 : Int) := of_decide_eq_true Z105
   have q16 : x5_1 < (a0.size : Int) := of_decide_eq_true Z105
   have hx16 := bt_at a0 x5_1
   replace p16 := eq_true p16
   replace q16 := eq_true q16
   have p26 : 0 ≤ (x5_1 : Int) := of_decide_eq_true Z105
   have q26 : x5_1 < (a0.size : Int) := of_decide_eq_true Z105
   have hx26 := bt_at a0 x5_1
   replace p26 := eq_true p26
   replace q26 := eq_true q26
   have p34 : 0 ≤ (x5_1 : Int) := of_decide_eq_true Z105
   have q34 : x5_1 < (a0.size : Int) := of_decide_eq_true Z105
   have hx34 := bt_at a0 x5_1
   replace p34 := eq_true p34
   replace q34 := eq_true q34
   have p40 : 0 ≤ (x5_1 : Int) := of_decide_eq_true Z105
   have q40 : x5_1 < (a0.size : Int) := of_decide_eq_true Z105
   have hx40 := bt_at a0 x5_1
   replace p40 := eq_true p40
   replace q40 := eq_true q40
   have p41 : 0 ≤ (x5_1 : Int) := of_decide_eq_true Z105
   have q41 : x5_1 < (a0.size : Int) := of_decide_eq_true Z105
   have hx41 := bt_at a0 x5_1
   replace p41 := eq_true p41
   replace q41 := eq_true q41
   go_wp2_with (first | ((with_reducible refine gate_builtin (b := .append) (xs := #[.tmp 38,.tmp 42]) rfl ?_);at_builtin;refine Kd.R_append (Kd.int .u8) (w0 := w) w.heap.size rfl (.tmp 38) (.tmp 42) 51 5 (.int .u8 0) 1 rfl Tryd.underlying51 info5 rfl Z145 Z122 u4 x4_1 (bt a0 x5_1) [.int .u8 (bt a0 x5_1)] (fun _ => True) (fun _ => False) rfl rfl ?aP (fun _ hk => hk.elim) ?aF ?aO ?aB ?aS ?aL ?_;(case aP => exact rfl);(case aB => exact Z63);(case aF => exact Z114);(case aO => exact Z74);(case aS => exact Z57);(case aL => have := LMc42.out;omega);intro v171 w44 ho hb hg hat;rw [← Ny170.out] at ho;have n_ := jA (hb) (Aside0.mk (ho));clear HB HO_4;obtain ⟨HB,HO172⟩ := n_;clear ho hb hg hat;have p43 : 0 ≤ (x5_1 : Int) := of_decide_eq_true Z105;have q43 : x5_1 < (a0.size : Int) := of_decide_eq_true Z105;have hx43 := bt_at a0 x5_1;replace p43 := eq_true p43;replace q43 := eq_true q43))
   go_roundg k1
   case measure => have := HK1.out;omega
   case rel => exact ⟨(((bt a0 x5_1) == 13)),(y170),(wrap64 (x5_1 + 1)),Z106,Z106,H',⟨Z116⟩,⟨by (with_reducible repeat (first | apply Kd.R_alloc | apply Kd.R_drewN | apply Kd.R_drew));exact HO172.out⟩,⟨Z148⟩⟩

end Go.Proofs.YtepnbcdbagjmbabDoor.QFnExactTableText
