/- The machine side of FnExactReadTable: what each Go function that it reaches comes to. Conditions: none. -/
import Derived.Test.YtepnbcdbagjmbaaDoorQFnExactReadTablex0
import Derived.Test.YtepnbcdbagjmbaaDoorQFnExactReadTablex3
namespace Go.Proofs.YtepnbcdbagjmbaaDoor.QFnExactReadTable
open Go.RowKit Go.Proofs.YtepnbcdbagjmbaaDoorW.PrintWords Go.Proofs.YtepnbcdbagjmbaaDoorW.PrintLast Go.Proofs.YtepnbcdbagjmbaaDoorW.PrintMore
attribute [local go_sem] max2_int min2_int max_two min_two max_three min_three max_four min_four   -- for this text's walks alone
set_option linter.unusedVariables false
set_option linter.unusedSimpArgs false

/-! ### spec_Digits: function 49 -/
def spec_Digits.l0 : Nat → Int → Bool → ByteArray → Option (ByteArray)
 | 0,_,_,_ => none
 | k + 1,x0,x3,x4 => if x0 = 0 then (if x3 = true then (if 1 + x4.size ≤ 9223372036854775807 then (some ((⟨#[45]⟩ : ByteArray) ++ x4)) else (none)) else (some x4)) else (if (Int.tmod x0 10) < 0 then ((some (([(wrap64 (48 + (wrap64 (-(Int.tmod x0 10))))) % 256] : List Int) : List Int)).bind fun y162 => (if (strOfNums y162).size + x4.size ≤ 9223372036854775807 then (spec_Digits.l0 k (wrap64 (Int.tdiv x0 10)) x3 ((strOfNums y162) ++ x4)) else (none))) else ((some (([(wrap64 (48 + (Int.tmod x0 10))) % 256] : List Int) : List Int)).bind fun y165 => (if (strOfNums y165).size + x4.size ≤ 9223372036854775807 then (spec_Digits.l0 k (wrap64 (Int.tdiv x0 10)) x3 ((strOfNums y165) ++ x4)) else (none))))
def spec_Digits.f (k : Nat) (a0 : Int) : Option (ByteArray) := if a0 = 0 then (some (⟨#[48]⟩ : ByteArray)) else (spec_Digits.l0 k a0 (decide (a0 < 0)) (⟨#[]⟩ : ByteArray))
theorem spec_Digits.mono_l : ∀ k,(∀ y0 y1 y2,LeO (spec_Digits.l0 k y0 y1 y2) (spec_Digits.l0 (k + 1) y0 y1 y2))
 | 0 => fun _ _ _ r h => by simp [spec_Digits.l0] at h
 | k + 1 => by
  have ih0 := spec_Digits.mono_l k
  ·intro y0 y1 y2
   unfold spec_Digits.l0
   repeat' first
   | (with_reducible exact ih0 _ _ _)
   | (with_reducible exact LeO.refl _)
   | (with_reducible exact LeO.none _)
   | (with_reducible refine LeO.ite ?_ ?_)
   | (with_reducible refine LeO.bind ?_ (fun _ => ?_))
   | exact ih0 _ _ _
   | exact LeO.none _
   | refine LeO.ite ?_ ?_
   | refine LeO.bind ?_ (fun _ => ?_)
theorem spec_Digits.mono : ∀ a0 k,LeO (spec_Digits.f k a0) (spec_Digits.f (k + 1) a0) := by
 intro a0 k
 have ih0 := spec_Digits.mono_l k
 unfold spec_Digits.f
 repeat' first
   | (with_reducible exact ih0 _ _ _)
   | (with_reducible exact LeO.refl _)
   | (with_reducible exact LeO.none _)
   | (with_reducible refine LeO.ite ?_ ?_)
   | (with_reducible refine LeO.bind ?_ (fun _ => ?_))
   | exact ih0 _ _ _
   | exact LeO.none _
   | refine LeO.ite ?_ ?_
   | refine LeO.bind ?_ (fun _ => ?_)
set_option maxHeartbeats 8000000 in
set_option maxRecDepth 100000 in
theorem spec_Digits.calls (k : Nat) (a0 : Int) (r : ByteArray) (w : World) (h : spec_Digits.f k a0 = some r) :
  Calls Tryd.prog 49 #[.int .i64 a0] w fun e w' => e = .returned (.string r) ∧ Below w.heap.size w w' := by
 have HB := Aside0.mk (Below.refl w.heap.size w)
 have H := h
 clear h
 unfold spec_Digits.f at H
 by_cases c2 : a0 = 0
 ·rw [if_pos c2] at H
  have c2b0 : (a0 == 0) = true := beq_iff_eq.mpr c2
  have c2b1 : (a0 != 0) = false := bne_eq_false_iff_eq.mpr c2
  clear c2
  obtain rfl := Option.some.inj H
  go_enter Tryd.func49,Tryd.ntmps49
  go_wp2
  go_ret
  exact ⟨Z218,Z351⟩
 rw [if_neg c2] at H
 have c2b0 : (a0 == 0) = false := beq_eq_false_iff_ne.mpr c2
 have c2b1 : (a0 != 0) = true := bne_iff_ne.mpr c2
 obtain ⟨b3, hb3⟩ : ∃ b : Bool, decide (a0 < 0) = b := ⟨_, rfl⟩
 rw [hb3] at H
 have H' := Aside0.mk H
 clear H
 go_enter Tryd.func49,Tryd.ntmps49
 go_wp2
 clear hb3
 go_loopg [0,4] k (fun kq v0 v4 w' => ∃ (x0_1 : Int) (x4_1 : ByteArray),v0 = .int .i64 x0_1 ∧ v4 = .string x4_1 ∧ Aside0 (spec_Digits.l0 kq x0_1 b3 x4_1 = some r) ∧ Aside0 (kq ≤ k) ∧ Aside0 (Below w.heap.size w w'))
 case atStart => exact ⟨(a0),((⟨#[]⟩ : ByteArray)),Z238,Z238,H',⟨Nat.le_refl _⟩,⟨Z351⟩⟩
 case round =>
  clear H'
  try clear c2
  try clear c2b0
  try clear c2b1
  try clear p2
  obtain ⟨x0_1,x4_1,rfl,rfl,HA,HK1,HB⟩ := hrel
  cases gk with
  | zero => exact absurd HA.out (by simp [spec_Digits.l0])
  | succ k1 =>
   have H := HA.out
   clear HA
   simp only [spec_Digits.l0] at H
   by_cases c3 : x0_1 = 0
   ·rw [if_pos c3] at H
    have c3b0 : (x0_1 == 0) = true := beq_iff_eq.mpr c3
    have c3b1 : (x0_1 != 0) = false := bne_eq_false_iff_eq.mpr c3
    clear c3
    by_cases c4 : b3 = true
    rotate_left
    ·rw [if_neg c4] at H
     have c4b0 : b3 = false := by simpa using c4
     clear c4
     subst c4b0
     skip
     obtain rfl := Option.some.inj H
     go_wp2
     go_ret
     exact ⟨Z218,Z351⟩
    rw [if_pos c4] at H
    subst c4
    skip
    obtain ⟨c5,H⟩ := ifp H
    have c5b0 := eq_true c5
    have c5b1 : decide (1 + x4_1.size ≤ 9223372036854775807) = true := decide_eq_true c5
    try have c5b2 : (9223372036854775807 < 1 + x4_1.size) = False := eq_false (Nat.not_lt.2 c5)
    obtain rfl := Option.some.inj H
    go_wp2
    go_ret
    exact ⟨Z218,Z351⟩
   rw [if_neg c3] at H
   have c3b0 : (x0_1 == 0) = false := beq_eq_false_iff_ne.mpr c3
   have c3b1 : (x0_1 != 0) = true := bne_iff_ne.mpr c3
   by_cases c6 : (Int.tmod x0_1 10) < 0
   rotate_left
   ·rw [if_neg c6] at H
    have c6b0 : decide ((Int.tmod x0_1 10) < 0) = false := decide_eq_false c6
    clear c6
    obtain ⟨y165,hyy⟩ : ∃ y_ : List Int,y_ = (([(wrap64 (48 + (Int.tmod x0_1 10))) % 256] : List Int)) := ⟨_,rfl⟩
    replace H : (if (strOfNums y165).size + x4_1.size ≤ 9223372036854775807 then (spec_Digits.l0 k1 (wrap64 (Int.tdiv x0_1 10)) b3 ((strOfNums y165) ++ x4_1)) else (none)) = some r := zR
    have Ny165 := Aside0.mk hyy
    clear hyy
    obtain ⟨c11,H⟩ := ifp H
    have c11b0 := eq_true c11
    have c11b1 : decide ((strOfNums y165).size + x4_1.size ≤ 9223372036854775807) = true := decide_eq_true c11
    try have c11b2 : (9223372036854775807 < (strOfNums y165).size + x4_1.size) = False := eq_false (Nat.not_lt.2 c11)
    have H' := Aside0.mk H
    clear H
    go_wp2_with (first | ((with_reducible refine gate_dst (N := 21) rfl ?_);refine Kd.R_lit (Kd.int .u8) _ 5 ?hg (N := 21) ?hd (xs := ([(wrap64 (48 + (Int.tmod x0_1 10))) % 256] : List Int)) (inner := [.int .u8 ((wrap64 (48 + (Int.tmod x0_1 10))) % 256)]) (ok := fun _ => True) (okp := fun _ => True) ?hr ?hp (fun _ hk => hk) trivial (Below.refl _ _) (Nat.le_refl _) Z342 ?_;(case hd => rfl);(case hg => rfl);(case hr => exact Z239);(case hp => exact Z144);intro v166 w12 ho13 hb hg_ hnew_;clear hg_ hnew_;(first | rw [← Ny165.out] at ho13 | (simp only [Int.reduceToNat] at ho13;rw [← Ny165.out] at ho13));have n_ := jA (Kd.R_lower ho13 (below_size Z351)) (Aside0.mk (below_step Z351 hb));clear HB;obtain ⟨HO167,HB⟩ := n_;clear hb ho13;have hcv14 := own_string (P := Tryd.prog) Tryd.underlying66 Tryd.underlying5 Tryd.underlying9 (Kd.own_of_R HO167.out)))
    go_roundg k1
    case measure => have := HK1.out;omega
    case rel => exact ⟨(wrap64 (Int.tdiv x0_1 10)),((strOfNums y165) ++ x4_1),Z238,Z238,H',⟨Z248⟩,⟨Z351⟩⟩
   rw [if_pos c6] at H
   have c6b0 : decide ((Int.tmod x0_1 10) < 0) = true := decide_eq_true c6
   clear c6
   obtain ⟨y162,hyy⟩ : ∃ y_ : List Int,y_ = (([(wrap64 (48 + (wrap64 (-(Int.tmod x0_1 10))))) % 256] : List Int)) := ⟨_,rfl⟩
   replace H : (if (strOfNums y162).size + x4_1.size ≤ 9223372036854775807 then (spec_Digits.l0 k1 (wrap64 (Int.tdiv x0_1 10)) b3 ((strOfNums y162) ++ x4_1)) else (none)) = some r := zR
   have Ny162 := Aside0.mk hyy
   clear hyy
   obtain ⟨c7,H⟩ := ifp H
   have c7b0 := eq_true c7
   have c7b1 : decide ((strOfNums y162).size + x4_1.size ≤ 9223372036854775807) = true := decide_eq_true c7
   try have c7b2 : (9223372036854775807 < (strOfNums y162).size + x4_1.size) = False := eq_false (Nat.not_lt.2 c7)
   have H' := Aside0.mk H
   clear H
   go_wp2_with (first | ((with_reducible refine gate_dst (N := 21) rfl ?_);refine Kd.R_lit (Kd.int .u8) _ 5 ?hg (N := 21) ?hd (xs := ([(wrap64 (48 + (wrap64 (-(Int.tmod x0_1 10))))) % 256] : List Int)) (inner := [.int .u8 ((wrap64 (48 + (wrap64 (-(Int.tmod x0_1 10))))) % 256)]) (ok := fun _ => True) (okp := fun _ => True) ?hr ?hp (fun _ hk => hk) trivial (Below.refl _ _) (Nat.le_refl _) Z342 ?_;(case hd => rfl);(case hg => rfl);(case hr => exact Z239);(case hp => exact (Reps.one (show Kd.M (Kd.int .u8) _ _ _ ((wrap64 (48 + (wrap64 (-(Int.tmod x0_1 10))))) % 256) [.int .u8 ((wrap64 (48 + (wrap64 (-(Int.tmod x0_1 10))))) % 256)] from rfl) (Reps.none _ _)));intro v163 w8 ho9 hb hg_ hnew_;clear hg_ hnew_;(first | rw [← Ny162.out] at ho9 | (simp only [Int.reduceToNat] at ho9;rw [← Ny162.out] at ho9));have n_ := jA (Kd.R_lower ho9 (below_size Z351)) (Aside0.mk (below_step Z351 hb));clear HB;obtain ⟨HO164,HB⟩ := n_;clear hb ho9;have hcv10 := own_string (P := Tryd.prog) Tryd.underlying66 Tryd.underlying5 Tryd.underlying9 (Kd.own_of_R HO164.out)))
   go_roundg k1
   case measure => have := HK1.out;omega
   case rel => exact ⟨(wrap64 (Int.tdiv x0_1 10)),((strOfNums y162) ++ x4_1),Z238,Z238,H',⟨Z248⟩,⟨Z351⟩⟩

theorem tdiv_w (d : Int) (h0 : 0 ≤ d) (h1 : d < 256) : wrap64 (Int.tdiv ((-9223372036854775808) + d) 10) = Int.tdiv ((-9223372036854775808) + d) 10 := by
 have e : Int.tdiv ((-9223372036854775808) + d) 10 = -((9223372036854775808 - d) / 10) := by
  rw [show (-9223372036854775808) + d = -(9223372036854775808 - d) by omega, Int.neg_tdiv, Int.tdiv_eq_ediv_of_nonneg Z254]
 rw [e]
 unfold wrap64
 omega
/-! ### spec_IntText: function 42 -/
mutual
def spec_IntText.j0 : Nat → ByteArray → Bool → Option (Int × Bool)
 | 0,_,_ => none
 | k + 1,x0,x15 => if x15 = true then (some (0,false)) else (if 0 < (x0.size : Int) then (if (bt x0 0) = 45 then (spec_IntText.j1 k x0 1) else (spec_IntText.j1 k x0 0)) else (none))
def spec_IntText.j1 : Nat → ByteArray → Int → Option (Int × Bool)
 | 0,_,_ => none
 | k + 1,x0,x4 => spec_IntText.l0 k x0 x4 0 x4
def spec_IntText.l0 : Nat → ByteArray → Int → Int → Int → Option (Int × Bool)
 | 0,_,_,_,_ => none
 | k + 1,x0,x4,x5,x6 => if x6 < (x0.size : Int) then (if 0 ≤ x6 then (if (bt x0 x6) < 48 then (spec_IntText.j3 k x0 x4 x5 x6 true) else (spec_IntText.j3 k x0 x4 x5 x6 (decide ((bt x0 x6) > 57)))) else (none)) else (if x4 = 0 then (if x5 = (-9223372036854775808) then (some (0,false)) else ((spec_Digits.f k (wrap64 (-x5))).bind fun t168 => (if t168.toList = x0.toList then (some (wrap64 (-x5),true)) else (some (0,false))))) else ((spec_Digits.f k x5).bind fun t169 => (if t169.toList = x0.toList then (some (x5,true)) else (some (0,false)))))
def spec_IntText.j3 : Nat → ByteArray → Int → Int → Int → Bool → Option (Int × Bool)
 | 0,_,_,_,_,_ => none
 | k + 1,x0,x4,x5,x6,x35 => if x35 = true then (some (0,false)) else (if 0 ≤ x6 then (if x6 < (x0.size : Int) then (if x5 < (wrap64 (Int.tdiv ((-9223372036854775808) + (((bt x0 x6) - 48) % 256)) 10)) then (some (0,false)) else (spec_IntText.l0 k x0 x4 (wrap64 ((wrap64 (10 * x5)) - (((bt x0 x6) - 48) % 256))) (wrap64 (x6 + 1)))) else (none)) else (none))
end
def spec_IntText.f (k : Nat) (a0 : ByteArray) : Option (Int × Bool) := if (a0.size : Int) < 1 then (spec_IntText.j0 k a0 true) else (spec_IntText.j0 k a0 (decide ((a0.size : Int) > 20)))
theorem spec_IntText.mono_l : ∀ k,(∀ y0 y1,LeO (spec_IntText.j0 k y0 y1) (spec_IntText.j0 (k + 1) y0 y1)) ∧ (∀ y0 y1,LeO (spec_IntText.j1 k y0 y1) (spec_IntText.j1 (k + 1) y0 y1)) ∧ (∀ y0 y1 y2 y3,LeO (spec_IntText.l0 k y0 y1 y2 y3) (spec_IntText.l0 (k + 1) y0 y1 y2 y3)) ∧ (∀ y0 y1 y2 y3 y4,LeO (spec_IntText.j3 k y0 y1 y2 y3 y4) (spec_IntText.j3 (k + 1) y0 y1 y2 y3 y4))
 | 0 => ⟨fun _ _ r h => by simp [spec_IntText.j0] at h,fun _ _ r h => by simp [spec_IntText.j1] at h,fun _ _ _ _ r h => by simp [spec_IntText.l0] at h,fun _ _ _ _ _ r h => by simp [spec_IntText.j3] at h⟩
 | k + 1 => by
  obtain ⟨ih0,ih1,ih2,ih3⟩ := spec_IntText.mono_l k
  refine ⟨?_,?_,?_,?_⟩
  ·intro y0 y1
   unfold spec_IntText.j0
   repeat' first
   | (with_reducible exact ih0 _ _)
   | (with_reducible exact ih1 _ _)
   | (with_reducible exact ih2 _ _ _ _)
   | (with_reducible exact ih3 _ _ _ _ _)
   | (with_reducible exact spec_Digits.mono _ _)
   | (with_reducible exact LeO.refl _)
   | (with_reducible exact LeO.none _)
   | (with_reducible refine LeO.ite ?_ ?_)
   | (with_reducible refine LeO.bind ?_ (fun _ => ?_))
   | exact ih0 _ _
   | exact ih1 _ _
   | exact ih2 _ _ _ _
   | exact ih3 _ _ _ _ _
   | exact spec_Digits.mono _ _
   | exact LeO.none _
   | refine LeO.ite ?_ ?_
   | refine LeO.bind ?_ (fun _ => ?_)
  ·intro y0 y1
   unfold spec_IntText.j1
   repeat' first
   | (with_reducible exact ih0 _ _)
   | (with_reducible exact ih1 _ _)
   | (with_reducible exact ih2 _ _ _ _)
   | (with_reducible exact ih3 _ _ _ _ _)
   | (with_reducible exact spec_Digits.mono _ _)
   | (with_reducible exact LeO.refl _)
   | (with_reducible exact LeO.none _)
   | (with_reducible refine LeO.ite ?_ ?_)
   | (with_reducible refine LeO.bind ?_ (fun _ => ?_))
   | exact ih0 _ _
   | exact ih1 _ _
   | exact ih2 _ _ _ _
   | exact ih3 _ _ _ _ _
   | exact spec_Digits.mono _ _
   | exact LeO.none _
   | refine LeO.ite ?_ ?_
   | refine LeO.bind ?_ (fun _ => ?_)
  ·intro y0 y1 y2 y3
   unfold spec_IntText.l0
   repeat' first
   | (with_reducible exact ih0 _ _)
   | (with_reducible exact ih1 _ _)
   | (with_reducible exact ih2 _ _ _ _)
   | (with_reducible exact ih3 _ _ _ _ _)
   | (with_reducible exact spec_Digits.mono _ _)
   | (with_reducible exact LeO.refl _)
   | (with_reducible exact LeO.none _)
   | (with_reducible refine LeO.ite ?_ ?_)
   | (with_reducible refine LeO.bind ?_ (fun _ => ?_))
   | exact ih0 _ _
   | exact ih1 _ _
   | exact ih2 _ _ _ _
   | exact ih3 _ _ _ _ _
   | exact spec_Digits.mono _ _
   | exact LeO.none _
   | refine LeO.ite ?_ ?_
   | refine LeO.bind ?_ (fun _ => ?_)
  ·intro y0 y1 y2 y3 y4
   unfold spec_IntText.j3
   repeat' first
   | (with_reducible exact ih0 _ _)
   | (with_reducible exact ih1 _ _)
   | (with_reducible exact ih2 _ _ _ _)
   | (with_reducible exact ih3 _ _ _ _ _)
   | (with_reducible exact spec_Digits.mono _ _)
   | (with_reducible exact LeO.refl _)
   | (with_reducible exact LeO.none _)
   | (with_reducible refine LeO.ite ?_ ?_)
   | (with_reducible refine LeO.bind ?_ (fun _ => ?_))
   | exact ih0 _ _
   | exact ih1 _ _
   | exact ih2 _ _ _ _
   | exact ih3 _ _ _ _ _
   | exact spec_Digits.mono _ _
   | exact LeO.none _
   | refine LeO.ite ?_ ?_
   | refine LeO.bind ?_ (fun _ => ?_)
theorem spec_IntText.mono : ∀ a0 k,LeO (spec_IntText.f k a0) (spec_IntText.f (k + 1) a0) := by
 intro a0 k
 obtain ⟨ih0,ih1,ih2,ih3⟩ := spec_IntText.mono_l k
 unfold spec_IntText.f
 repeat' first
   | (with_reducible exact ih0 _ _)
   | (with_reducible exact ih1 _ _)
   | (with_reducible exact ih2 _ _ _ _)
   | (with_reducible exact ih3 _ _ _ _ _)
   | (with_reducible exact spec_Digits.mono _ _)
   | (with_reducible exact LeO.refl _)
   | (with_reducible exact LeO.none _)
   | (with_reducible refine LeO.ite ?_ ?_)
   | (with_reducible refine LeO.bind ?_ (fun _ => ?_))
   | exact ih0 _ _
   | exact ih1 _ _
   | exact ih2 _ _ _ _
   | exact ih3 _ _ _ _ _
   | exact spec_Digits.mono _ _
   | exact LeO.none _
   | refine LeO.ite ?_ ?_
   | refine LeO.bind ?_ (fun _ => ?_)
set_option maxHeartbeats 8000000 in
set_option maxRecDepth 100000 in
theorem spec_IntText.calls (k : Nat) (a0 : ByteArray) (r1 : Int) (r2 : Bool) (w : World) (h : spec_IntText.f k a0 = some (r1,r2)) :
  Calls Tryd.prog 42 #[.string a0] w fun e w' => e = .returned (.tuple #[.int .i64 r1,.bool r2]) ∧ Below w.heap.size w w' := by
 have HB := Aside0.mk (Below.refl w.heap.size w)
 have H := h
 clear h
 unfold spec_IntText.f at H
 have HC2 := Aside0.mk H
 clear H
 go_enter Tryd.func42,Tryd.ntmps42
 go_upto_region 1 with (fail)
 go_cut [15] (fun v15 wc => ∃ (kq : Nat) (x15_1 : Bool),v15 = .bool x15_1 ∧ Aside0 (spec_IntText.j0 kq a0 x15_1 = some (r1,r2)) ∧ Aside0 (kq ≤ k) ∧ Aside0 (Below w.heap.size w wc))
 case first =>
  have H := HC2.out
  clear HC2
  by_cases c3 : (a0.size : Int) < 1
  ·rw [if_pos c3] at H
   have c3b0 : decide ((a0.size : Int) < 1) = true := decide_eq_true c3
   have c3b1 : decide (a0.size < 1) = true := decide_eq_true Z254
   clear c3
   (first | rw [c3b0] | (simp only [i64_w,i32_w];rw [c3b0]) | skip)
   have H' := Aside0.mk H
   clear H
   go_wp2
   go_meet
   case rel => exact ⟨_,(true),Z238,H',⟨Z241⟩,⟨Z351⟩⟩
  rw [if_neg c3] at H
  have c3b0 : decide ((a0.size : Int) < 1) = false := decide_eq_false c3
  have c3b1 : decide (a0.size < 1) = false := decide_eq_false Z254
  clear c3
  (first | rw [c3b0] | (simp only [i64_w,i32_w];rw [c3b0]) | skip)
  have H' := Aside0.mk H
  clear H
  go_wp2
  go_meet
  case rel => exact ⟨_,(decide ((a0.size : Int) > 20)),Z238,H',⟨Z241⟩,⟨Z351⟩⟩
 case rest =>
  clear HC2
  try clear p2
  try clear c3
  try clear c3b0
  try clear c3b1
  obtain ⟨kq,x15_1,rfl,HA,HJ1,HB⟩ := hcut
  cases kq with
  | zero => exact absurd HA.out (by simp [spec_IntText.j0])
  | succ kj1 =>
   have H := HA.out
   clear HA
   simp only [spec_IntText.j0] at H
   by_cases c4 : x15_1 = true
   ·subst c4
    rw [if_pos rfl] at H
    simp only [Option.some.injEq,Prod.mk.injEq] at H
    obtain ⟨rfl,rfl⟩ := H
    go_wp2
    go_ret2
    exact ⟨Z218,Z351⟩
   replace c4 := Bool.eq_false_iff.mpr c4
   subst c4
   rw [if_neg Bool.false_ne_true] at H
   obtain ⟨c5,H⟩ := ifp H
   have c5b0 : decide (0 < (a0.size : Int)) = true := decide_eq_true c5
   have c5b1 : decide (0 < a0.size) = true := decide_eq_true Z254
   clear c5
   have HC7 := Aside0.mk H
   clear H
   have p6 : 0 ≤ (0 : Int) := Z254
   have q6 : 0 < a0.size := (by have : (0 : Int) < (a0.size : Int) := of_decide_eq_true Z330;omega)
   have hx6 : ∀ h : 0 < a0.size,((a0[0]'h).toNat : Int) = bt a0 0 := bt_at a0 0
   clear p6
   have qi6 : (0 < (a0.size : Int)) = True := eq_true (of_decide_eq_true Z330)
   replace q6 := eq_true q6
   go_upto_if 18 with (fail)
   go_cut [4] (fun v4 wc => ∃ (kq : Nat) (x4_6 : Int),v4 = .int .i64 x4_6 ∧ Aside0 (spec_IntText.j1 kq a0 x4_6 = some (r1,r2)) ∧ Aside0 (kq ≤ kj1) ∧ Aside0 (Below w.heap.size w wc))
   case first =>
    have H := HC7.out
    clear HC7
    by_cases c8 : (bt a0 0) = 45
    rotate_left
    ·rw [if_neg c8] at H
     have c8b0 : ((bt a0 0) == 45) = false := beq_eq_false_iff_ne.mpr c8
     have c8b1 : ((bt a0 0) != 45) = true := bne_iff_ne.mpr c8
     (first | rw [c8b0] | (simp only [i64_w,i32_w];rw [c8b0]) | skip)
     have H' := Aside0.mk H
     clear H
     go_wp2
     go_meet
     case rel => exact ⟨_,(0),Z238,H',⟨Z237⟩,⟨Z351⟩⟩
    rw [if_pos c8] at H
    have c8b0 : ((bt a0 0) == 45) = true := beq_iff_eq.mpr c8
    have c8b1 : ((bt a0 0) != 45) = false := bne_eq_false_iff_eq.mpr c8
    clear c8
    (first | rw [c8b0] | (simp only [i64_w,i32_w];rw [c8b0]) | skip)
    have H' := Aside0.mk H
    clear H
    go_wp2
    go_meet
    case rel => exact ⟨_,(1),Z238,H',⟨Z237⟩,⟨Z351⟩⟩
   case rest =>
    clear HC7
    try clear p2
    try clear c3
    try clear c3b0
    try clear c3b1
    try clear c4
    try clear c5
    try clear c5b0
    try clear c5b1
    try clear p6
    try clear q6
    try clear hx6
    try clear qi6
    try clear c8
    try clear c8b0
    try clear c8b1
    try clear p2
    try clear p6
    try clear q6
    obtain ⟨kq,x4_6,rfl,HA,HJ6,HB⟩ := hcut
    cases kq with
    | zero => exact absurd HA.out (by simp [spec_IntText.j1])
    | succ kj6 =>
     have H := HA.out
     clear HA
     simp only [spec_IntText.j1] at H
     have H' := Aside0.mk H
     clear H
     go_wp2
     go_loopg [5,6] kj6 (fun kq v5 v6 w' => ∃ (x5_3 : Int) (x6_3 : Int),v5 = .int .i64 x5_3 ∧ v6 = .int .i64 x6_3 ∧ Aside0 (spec_IntText.l0 kq a0 x4_6 x5_3 x6_3 = some (r1,r2)) ∧ Aside0 (kq ≤ kj6) ∧ Aside0 (Below w.heap.size w w'))
     case atStart => exact ⟨(0),(x4_6),Z238,Z238,H',⟨Nat.le_refl _⟩,⟨Z351⟩⟩
     case round =>
      clear H'
      try clear p2
      try clear c3
      try clear c3b0
      try clear c3b1
      try clear c4
      try clear c5
      try clear c5b0
      try clear c5b1
      try clear p6
      try clear q6
      try clear hx6
      try clear qi6
      try clear c8
      try clear c8b0
      try clear c8b1
      try clear p2
      try clear p6
      try clear q6
      obtain ⟨x5_3,x6_3,rfl,rfl,HA,HK3,HB⟩ := hrel
      cases gk with
      | zero => exact absurd HA.out (by simp [spec_IntText.l0])
      | succ k3 =>
       have H := HA.out
       clear HA
       simp only [spec_IntText.l0] at H
       by_cases c9 : x6_3 < (a0.size : Int)
       rotate_left
       ·rw [if_neg c9] at H
        have c9b0 : decide (x6_3 < (a0.size : Int)) = false := decide_eq_false c9
        clear c9
        by_cases c20 : x4_6 = 0
        rotate_left
        ·rw [if_neg c20] at H
         have c20b0 : (x4_6 == 0) = false := beq_eq_false_iff_ne.mpr c20
         have c20b1 : (x4_6 != 0) = true := bne_iff_ne.mpr c20
         obtain ⟨t169,A260,H⟩ := Option.bind_eq_some_iff.mp H
         have A26 := Aside0.mk A260
         clear A260
         by_cases c27 : t169.toList = a0.toList
         rotate_left
         ·rw [if_neg c27] at H
          have c27b0 : (t169.toList == a0.toList) = false := beq_eq_false_iff_ne.mpr c27
          have c27b1 : (t169.toList != a0.toList) = true := bne_iff_ne.mpr c27
          simp only [Option.some.injEq,Prod.mk.injEq] at H
          obtain ⟨rfl,rfl⟩ := H
          go_wp2_with (first | ((with_reducible refine gate_callee (f := 49) rfl ?_);refine goesL_ (some 57) rfl rfl Tryd.func49 Z253 rfl #[.int .i64 x5_3] rfl Z173 ?_;(with_reducible refine (spec_Digits.calls k3 x5_3 t169 _ A26.out).mono ?_);rintro e wq1 ⟨rfl,hb⟩;refine ⟨_,rfl,?_⟩;have n0_ := Aside0.mk (below_step Z351 hb);clear HB;have HB := n0_;clear n0_;(try clear hb);(try clear hb2);(try clear hk);(try clear hi)))
          go_ret2
          exact ⟨Z218,Z351⟩
         rw [if_pos c27] at H
         have c27b0 : (t169.toList == a0.toList) = true := beq_iff_eq.mpr c27
         have c27b1 : (t169.toList != a0.toList) = false := bne_eq_false_iff_eq.mpr c27
         clear c27
         simp only [Option.some.injEq,Prod.mk.injEq] at H
         obtain ⟨rfl,rfl⟩ := H
         go_wp2_with (first | ((with_reducible refine gate_callee (f := 49) rfl ?_);refine goesL_ (some 57) rfl rfl Tryd.func49 Z253 rfl #[.int .i64 x5_3] rfl Z173 ?_;(with_reducible refine (spec_Digits.calls k3 x5_3 t169 _ A26.out).mono ?_);rintro e wq1 ⟨rfl,hb⟩;refine ⟨_,rfl,?_⟩;have n0_ := Aside0.mk (below_step Z351 hb);clear HB;have HB := n0_;clear n0_;(try clear hb);(try clear hb2);(try clear hk);(try clear hi)))
         go_ret2
         exact ⟨Z218,Z351⟩
        rw [if_pos c20] at H
        have c20b0 : (x4_6 == 0) = true := beq_iff_eq.mpr c20
        have c20b1 : (x4_6 != 0) = false := bne_eq_false_iff_eq.mpr c20
        clear c20
        by_cases c21 : x5_3 = (-9223372036854775808)
        ·rw [if_pos c21] at H
         have c21b0 : (x5_3 == (-9223372036854775808)) = true := beq_iff_eq.mpr c21
         have c21b1 : (x5_3 != (-9223372036854775808)) = false := bne_eq_false_iff_eq.mpr c21
         clear c21
         simp only [Option.some.injEq,Prod.mk.injEq] at H
         obtain ⟨rfl,rfl⟩ := H
         go_wp2
         go_ret2
         exact ⟨Z218,Z351⟩
        rw [if_neg c21] at H
        have c21b0 : (x5_3 == (-9223372036854775808)) = false := beq_eq_false_iff_ne.mpr c21
        have c21b1 : (x5_3 != (-9223372036854775808)) = true := bne_iff_ne.mpr c21
        obtain ⟨t168,A220,H⟩ := Option.bind_eq_some_iff.mp H
        have A22 := Aside0.mk A220
        clear A220
        by_cases c23 : t168.toList = a0.toList
        rotate_left
        ·rw [if_neg c23] at H
         have c23b0 : (t168.toList == a0.toList) = false := beq_eq_false_iff_ne.mpr c23
         have c23b1 : (t168.toList != a0.toList) = true := bne_iff_ne.mpr c23
         simp only [Option.some.injEq,Prod.mk.injEq] at H
         obtain ⟨rfl,rfl⟩ := H
         go_wp2_with (first | ((with_reducible refine gate_callee (f := 49) rfl ?_);refine goesL_ (some 57) rfl rfl Tryd.func49 Z253 rfl #[.int .i64 (wrap64 (-x5_3))] rfl Z173 ?_;(with_reducible refine (spec_Digits.calls k3 (wrap64 (-x5_3)) t168 _ A22.out).mono ?_);rintro e wq1 ⟨rfl,hb⟩;refine ⟨_,rfl,?_⟩;have n0_ := Aside0.mk (below_step Z351 hb);clear HB;have HB := n0_;clear n0_;(try clear hb);(try clear hb2);(try clear hk);(try clear hi)))
         go_ret2
         exact ⟨Z218,Z351⟩
        rw [if_pos c23] at H
        have c23b0 : (t168.toList == a0.toList) = true := beq_iff_eq.mpr c23
        have c23b1 : (t168.toList != a0.toList) = false := bne_eq_false_iff_eq.mpr c23
        clear c23
        simp only [Option.some.injEq,Prod.mk.injEq] at H
        obtain ⟨rfl,rfl⟩ := H
        go_wp2_with (first | ((with_reducible refine gate_callee (f := 49) rfl ?_);refine goesL_ (some 57) rfl rfl Tryd.func49 Z253 rfl #[.int .i64 (wrap64 (-x5_3))] rfl Z173 ?_;(with_reducible refine (spec_Digits.calls k3 (wrap64 (-x5_3)) t168 _ A22.out).mono ?_);rintro e wq1 ⟨rfl,hb⟩;refine ⟨_,rfl,?_⟩;have n0_ := Aside0.mk (below_step Z351 hb);clear HB;have HB := n0_;clear n0_;(try clear hb);(try clear hb2);(try clear hk);(try clear hi)))
        go_ret2
        exact ⟨Z218,Z351⟩
       rw [if_pos c9] at H
       have c9b0 : decide (x6_3 < (a0.size : Int)) = true := decide_eq_true c9
       clear c9
       have HC10 := Aside0.mk H
       clear H
       go_upto_region 10 with (fail)
       go_cut [35] (fun v35 wc => ∃ (kq : Nat) (x35_9 : Bool),v35 = .bool x35_9 ∧ Aside0 (spec_IntText.j3 kq a0 x4_6 x5_3 x6_3 x35_9 = some (r1,r2)) ∧ Aside0 (kq ≤ k3) ∧ Aside0 (Below w.heap.size w wc))
       case first =>
        have H := HC10.out
        clear HC10
        obtain ⟨c11,H⟩ := ifp H
        have c11b0 : decide (0 ≤ x6_3) = true := decide_eq_true c11
        clear c11
        (first | rw [c11b0] | (simp only [i64_w,i32_w];rw [c11b0]) | skip)
        by_cases c13 : (bt a0 x6_3) < 48
        ·rw [if_pos c13] at H
         have c13b0 : decide ((bt a0 x6_3) < 48) = true := decide_eq_true c13
         clear c13
         have H' := Aside0.mk H
         clear H
         have p12 : 0 ≤ (x6_3 : Int) := of_decide_eq_true Z330
         have q12 : x6_3 < (a0.size : Int) := of_decide_eq_true Z330
         have hx12 := bt_at a0 x6_3
         replace p12 := eq_true p12
         replace q12 := eq_true q12
         go_wp2
         go_meet
         case rel => exact ⟨_,(true),Z238,H',⟨Z221⟩,⟨Z351⟩⟩
        rw [if_neg c13] at H
        have c13b0 : decide ((bt a0 x6_3) < 48) = false := decide_eq_false c13
        clear c13
        have H' := Aside0.mk H
        clear H
        have p12 : 0 ≤ (x6_3 : Int) := of_decide_eq_true Z330
        have q12 : x6_3 < (a0.size : Int) := of_decide_eq_true Z330
        have hx12 := bt_at a0 x6_3
        replace p12 := eq_true p12
        replace q12 := eq_true q12
        have p14 : 0 ≤ (x6_3 : Int) := of_decide_eq_true Z330
        have q14 : x6_3 < (a0.size : Int) := of_decide_eq_true Z330
        have hx14 := bt_at a0 x6_3
        replace p14 := eq_true p14
        replace q14 := eq_true q14
        go_wp2
        go_meet
        case rel => exact ⟨_,(decide ((bt a0 x6_3) > 57)),Z238,H',⟨Z221⟩,⟨Z351⟩⟩
       case rest =>
        clear HC10
        try clear c1
        try clear p1
        try clear q1
        try clear hx1
        try clear p2
        try clear c3
        try clear c3b0
        try clear c3b1
        try clear c4
        try clear c5
        try clear c5b0
        try clear c5b1
        try clear p6
        try clear q6
        try clear hx6
        try clear qi6
        try clear c8
        try clear c8b0
        try clear c8b1
        try clear c9
        try clear c9b0
        try clear c11
        try clear c11b0
        try clear p12
        try clear q12
        try clear hx12
        try clear c13
        try clear c13b0
        try clear p14
        try clear q14
        try clear hx14
        try clear p12
        try clear p14
        try clear p2
        try clear p6
        try clear q12
        try clear q14
        try clear q6
        obtain ⟨kq,x35_9,rfl,HA,HJ9,HB⟩ := hcut
        cases kq with
        | zero => exact absurd HA.out (by simp [spec_IntText.j3])
        | succ kj9 =>
         have H := HA.out
         clear HA
         simp only [spec_IntText.j3] at H
         by_cases c15 : x35_9 = true
         ·subst c15
          rw [if_pos rfl] at H
          simp only [Option.some.injEq,Prod.mk.injEq] at H
          obtain ⟨rfl,rfl⟩ := H
          go_wp2
          go_ret2
          exact ⟨Z218,Z351⟩
         replace c15 := Bool.eq_false_iff.mpr c15
         subst c15
         rw [if_neg Bool.false_ne_true] at H
         obtain ⟨c16,H⟩ := ifp H
         have c16b0 : decide (0 ≤ x6_3) = true := decide_eq_true c16
         clear c16
         obtain ⟨c17,H⟩ := ifp H
         have c17b0 : decide (x6_3 < (a0.size : Int)) = true := decide_eq_true c17
         clear c17
         by_cases c19 : x5_3 < (wrap64 (Int.tdiv ((-9223372036854775808) + (((bt a0 x6_3) - 48) % 256)) 10))
         ·rw [if_pos c19] at H
          have c19b0 : decide (x5_3 < (wrap64 (Int.tdiv ((-9223372036854775808) + (((bt a0 x6_3) - 48) % 256)) 10))) = true := decide_eq_true c19
          have c19b1 : decide (x5_3 < Int.tdiv ((-9223372036854775808) + (((bt a0 x6_3) - 48) % 256)) 10) = true := by rw [← tdiv_w ((((bt a0 x6_3) - 48) % 256)) (Int.emod_nonneg _ Z355) (Int.emod_lt_of_pos _ Z355)];exact c19b0
          clear c19
          simp only [Option.some.injEq,Prod.mk.injEq] at H
          obtain ⟨rfl,rfl⟩ := H
          have p18 : 0 ≤ (x6_3 : Int) := of_decide_eq_true Z330
          have q18 : x6_3 < (a0.size : Int) := of_decide_eq_true Z330
          have hx18 := bt_at a0 x6_3
          replace p18 := eq_true p18
          replace q18 := eq_true q18
          go_wp2
          go_ret2
          exact ⟨Z218,Z351⟩
         rw [if_neg c19] at H
         have c19b0 : decide (x5_3 < (wrap64 (Int.tdiv ((-9223372036854775808) + (((bt a0 x6_3) - 48) % 256)) 10))) = false := decide_eq_false c19
         have c19b1 : decide (x5_3 < Int.tdiv ((-9223372036854775808) + (((bt a0 x6_3) - 48) % 256)) 10) = false := by rw [← tdiv_w ((((bt a0 x6_3) - 48) % 256)) (Int.emod_nonneg _ Z355) (Int.emod_lt_of_pos _ Z355)];exact c19b0
         clear c19
         have H' := Aside0.mk H
         clear H
         have p18 : 0 ≤ (x6_3 : Int) := of_decide_eq_true Z330
         have q18 : x6_3 < (a0.size : Int) := of_decide_eq_true Z330
         have hx18 := bt_at a0 x6_3
         replace p18 := eq_true p18
         replace q18 := eq_true q18
         go_wp2
         go_roundg kj9
         case measure => have := HJ1.out;have := HJ6.out;have := HK3.out;have := HJ9.out;omega
         case rel => exact ⟨(wrap64 ((wrap64 (10 * x5_3)) - (((bt a0 x6_3) - 48) % 256))),(wrap64 (x6_3 + 1)),Z238,Z238,H',⟨by have := HJ1.out;have := HJ6.out;have := HK3.out;have := HJ9.out;omega⟩,⟨Z351⟩⟩

/-! ### spec_Number: function 34 -/
def spec_Number.f (k : Nat) (a0 : ByteArray) : Option (Int × Bool) := (spec_IntText.f k a0).bind fun bt170 => (if bt170.2 = true then ((spec_l1In.f bt170.1 0 999999999).bind fun t172 => (if t172 = true then (some (bt170.1,true)) else (some (0,false)))) else (some (0,false)))
theorem spec_Number.mono : ∀ a0 k,LeO (spec_Number.f k a0) (spec_Number.f (k + 1) a0) := by
 intro a0 k
 unfold spec_Number.f
 repeat' first
   | (with_reducible exact spec_IntText.mono _ _)
   | (with_reducible exact LeO.refl _)
   | (with_reducible exact LeO.none _)
   | (with_reducible refine LeO.ite ?_ ?_)
   | (with_reducible refine LeO.bind ?_ (fun _ => ?_))
   | exact spec_IntText.mono _ _
   | exact LeO.none _
   | refine LeO.ite ?_ ?_
   | refine LeO.bind ?_ (fun _ => ?_)
set_option maxHeartbeats 8000000 in
set_option maxRecDepth 100000 in
theorem spec_Number.calls (k : Nat) (a0 : ByteArray) (r1 : Int) (r2 : Bool) (w : World) (h : spec_Number.f k a0 = some (r1,r2)) :
  Calls Tryd.prog 34 #[.string a0] w fun e w' => e = .returned (.tuple #[.int .i64 r1,.bool r2]) ∧ Below w.heap.size w w' := by
 have HB := Aside0.mk (Below.refl w.heap.size w)
 have H := h
 clear h
 unfold spec_Number.f at H
 obtain ⟨⟨t170,t171⟩,A20,H⟩ := Option.bind_eq_some_iff.mp H
 try dsimp only at H
 have A2 := Aside0.mk A20
 clear A20
 by_cases c3 : t171 = true
 rotate_left
 ·replace c3 := Bool.eq_false_iff.mpr c3
  subst c3
  rw [if_neg Bool.false_ne_true] at H
  simp only [Option.some.injEq,Prod.mk.injEq] at H
  obtain ⟨rfl,rfl⟩ := H
  go_enter Tryd.func34,Tryd.ntmps34
  go_wp2_with (first | ((with_reducible refine gate_callee (f := 42) rfl ?_);refine goesL_ (some 8) rfl rfl Tryd.func42 Z253 rfl #[.string a0] rfl Z173 ?_;(with_reducible refine (spec_IntText.calls k a0 t170 false _ A2.out).mono ?_);rintro e wq1 ⟨rfl,hb⟩;refine ⟨_,rfl,?_⟩;have n0_ := Aside0.mk (below_step Z351 hb);clear HB;have HB := n0_;clear n0_;(try clear hb);(try clear hb2);(try clear hk);(try clear hi)))
  go_ret2
  exact ⟨Z218,Z351⟩
 subst c3
 rw [if_pos rfl] at H
 obtain ⟨t172,A40,H⟩ := Option.bind_eq_some_iff.mp H
 have A4 := Aside0.mk A40
 clear A40
 by_cases c5 : t172 = true
 ·subst c5
  rw [if_pos rfl] at H
  simp only [Option.some.injEq,Prod.mk.injEq] at H
  obtain ⟨rfl,rfl⟩ := H
  go_enter Tryd.func34,Tryd.ntmps34
  go_wp2_with (first | ((with_reducible refine gate_callee (f := 42) rfl ?_);refine goesL_ (some 8) rfl rfl Tryd.func42 Z253 rfl #[.string a0] rfl Z173 ?_;(with_reducible refine (spec_IntText.calls k a0 t170 true _ A2.out).mono ?_);rintro e wq1 ⟨rfl,hb⟩;refine ⟨_,rfl,?_⟩;have n0_ := Aside0.mk (below_step Z351 hb);clear HB;have HB := n0_;clear n0_;(try clear hb);(try clear hb2);(try clear hk);(try clear hi)) | (go_at_call 12;(with_reducible refine (spec_l1In.calls t170 0 999999999 true _ A4.out).mono ?_);rintro e w' ⟨rfl,⟨nd,rfl⟩⟩))
  go_ret2
  exact ⟨Z218,Z351⟩
 replace c5 := Bool.eq_false_iff.mpr c5
 subst c5
 rw [if_neg Bool.false_ne_true] at H
 simp only [Option.some.injEq,Prod.mk.injEq] at H
 obtain ⟨rfl,rfl⟩ := H
 go_enter Tryd.func34,Tryd.ntmps34
 go_wp2_with (first | ((with_reducible refine gate_callee (f := 42) rfl ?_);refine goesL_ (some 8) rfl rfl Tryd.func42 Z253 rfl #[.string a0] rfl Z173 ?_;(with_reducible refine (spec_IntText.calls k a0 t170 true _ A2.out).mono ?_);rintro e wq1 ⟨rfl,hb⟩;refine ⟨_,rfl,?_⟩;have n0_ := Aside0.mk (below_step Z351 hb);clear HB;have HB := n0_;clear n0_;(try clear hb);(try clear hb2);(try clear hk);(try clear hi)) | (go_at_call 12;(with_reducible refine (spec_l1In.calls t170 0 999999999 false _ A4.out).mono ?_);rintro e w' ⟨rfl,⟨nd,rfl⟩⟩))
 go_ret2
 exact ⟨Z218,Z351⟩

/-! ### spec_l6Value: function 35 -/
def spec_l6Value.f (a0 : Int) : Option (Bool) := (spec_l1In.f a0 (-2147483647) 2147483647).bind fun t173 => (some t173)
set_option maxHeartbeats 8000000 in
set_option maxRecDepth 100000 in
theorem spec_l6Value.calls (a0 : Int) (r : Bool) (w : World) (h : spec_l6Value.f a0 = some r) :
  Calls Tryd.prog 35 #[.int .i64 a0] w fun e w' => e = .returned (.bool r) ∧ Drawn0 w w' := by
 have H := h
 clear h
 unfold spec_l6Value.f at H
 obtain ⟨t173,A20,H⟩ := Option.bind_eq_some_iff.mp H
 have A2 := Aside0.mk A20
 clear A20
 obtain rfl := Option.some.inj H
 go_enter Tryd.func35,Tryd.ntmps35
 go_wp2_with (first | ((with_reducible refine gate_callee (f := 12) rfl ?_);refine goesL_ (some 4) rfl rfl Tryd.func12 Z253 rfl #[.int .i64 a0,.int .i64 (-2147483647),.int .i64 2147483647] rfl Z173 ?_;(with_reducible refine (spec_l1In.calls a0 (-2147483647) 2147483647 t173 _ A2.out).mono ?_);rintro e w' ⟨rfl,⟨nd,rfl⟩⟩;refine ⟨_,rfl,?_⟩))
 go_ret
 exact ⟨Z238,Z231⟩

end Go.Proofs.YtepnbcdbagjmbaaDoor.QFnExactReadTable
