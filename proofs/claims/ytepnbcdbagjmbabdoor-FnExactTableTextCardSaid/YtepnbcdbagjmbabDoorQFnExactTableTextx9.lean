/- The machine side of FnExactTableText: what each Go function that it reaches comes to. Conditions: none. -/
import Derived.Test.YtepnbcdbagjmbabDoorQFnExactTableTextx0
import Derived.Test.YtepnbcdbagjmbabDoorQFnExactTableTextx1
namespace Go.Proofs.YtepnbcdbagjmbabDoor.QFnExactTableText
open Go.RowKit Go.Proofs.YtepnbcdbagjmbabDoorW.PrintWords Go.Proofs.YtepnbcdbagjmbabDoorW.PrintLast Go.Proofs.YtepnbcdbagjmbabDoorW.PrintMore
attribute [local go_sem] max2_int min2_int max_two min_two max_three min_three max_four min_four   -- for this text's walks alone
set_option linter.unusedVariables false
set_option linter.unusedSimpArgs false

/-! ### strconv_Itoa: function 46 -/
def strconv_Itoa.f (a0 : Int) : Option (ByteArray) := if -9223372036854775808 ≤ a0 ∧ a0 ≤ 9223372036854775807 then some ⟨(Lib.itoa a0).toArray⟩ else none
theorem strconv_Itoa.calls (a0 : Int) (r : ByteArray) (w : World) (hG : GT w) (h : strconv_Itoa.f a0 = some r) :
  Calls Tryd.prog 46 #[.int .i64 a0] w fun e w' => e = .returned (.string r) ∧ Below w.heap.size w w' := by
 unfold strconv_Itoa.f at h
 by_cases hb : -9223372036854775808 ≤ a0 ∧ a0 ≤ 9223372036854775807
 rotate_left
 ·rw [if_neg hb] at h;cases h
 rw [if_pos hb] at h
 obtain rfl := Option.some.inj h
 exact (Tryd.strconv_Itoa a0 hb.1 hb.2 w hG).mono fun e w' ⟨he,k,os,hw⟩ => ⟨he,by rw [hw];exact Lib.below_grow _ _ (Nat.le_refl _) k os⟩

/-! ### impl_Digits: function 38 -/
def impl_Digits.f (a0 : Int) : Option (ByteArray) := (strconv_Itoa.f a0).bind fun t299 => (some t299)
set_option maxHeartbeats 8000000 in
set_option maxRecDepth 100000 in
theorem impl_Digits.calls (a0 : Int) (r : ByteArray) (w : World) (hG : GT w) (h : impl_Digits.f a0 = some r) :
  Calls Tryd.prog 38 #[.int .i64 a0] w fun e w' => e = .returned (.string r) ∧ Below w.heap.size w w' := by
 have HG := Aside0.mk hG
 clear hG
 have HB := Aside0.mk (Below.refl w.heap.size w)
 have H : ((strconv_Itoa.f a0).bind fun t299 => (some t299)) = some r := h
 clear h
 obtain ⟨t299,A20,H⟩ := Option.bind_eq_some_iff.mp H
 have A2 := Aside0.mk A20
 clear A20
 obtain rfl := Option.some.inj H
 go_enter Tryd.func38,Tryd.ntmps38
 go_wp2_with (first | ((with_reducible refine gate_callee (f := 46) rfl ?_);refine goesL_ (some 4) rfl rfl Tryd.func46 Z121 rfl #[.int .i64 a0] rfl Z66 ?_;(with_reducible refine (strconv_Itoa.calls a0 t299 _ ?side1 A2.out).mono ?_);(case side1 => exact Z52);rintro e wq1 ⟨rfl,hb⟩;refine ⟨_,rfl,?_⟩;have n0_ := Aside0.mk (below_step Z148 hb);clear HB;have HB := n0_;clear n0_;(try clear hb);(try clear hb2);(try clear hk);(try clear hi)))
 go_ret
 exact ⟨Z98,Z148⟩

/-! ### strings_TrimRight: function 39 -/
def strings_TrimRight.f (a0 a1 : ByteArray) : Option (ByteArray) := if a0.size ≤ 9223372036854775807 ∧ a1 = (⟨#[48]⟩ : ByteArray) then some ⟨(Lib.trimRightB a0.data.toList 48).toArray⟩ else none
theorem strings_TrimRight.calls (a0 a1 : ByteArray) (r : ByteArray) (w : World) (h : strings_TrimRight.f a0 a1 = some r) :
  Calls Tryd.prog 39 #[.string a0,.string a1] w fun e w' => e = .returned (.string r) ∧ Below w.heap.size w w' := by
 unfold strings_TrimRight.f at h
 by_cases hb : a0.size ≤ 9223372036854775807 ∧ a1 = (⟨#[48]⟩ : ByteArray)
 rotate_left
 ·rw [if_neg hb] at h;cases h
 rw [if_pos hb] at h
 obtain rfl := Option.some.inj h
 rw [hb.2]
 exact (Tryd.strings_TrimRight_one a0 48 Z145 w hb.1).mono fun e w' ⟨he,hw⟩ => ⟨he,hw ▸ Below.refl _ _⟩

/-! ### impl_FixText: function 21 -/
def impl_FixText.j0 : Nat → Int → ByteArray → Option (ByteArray)
 | 0,_,_ => none
 | k + 1,x0,x3 => (impl_Digits.f (wrap64 (Int.tdiv x0 1000))).bind fun t301 => (if x3.size + t301.size ≤ 9223372036854775807 then (if (Int.tmod x0 1000) = 0 then (some (x3 ++ t301)) else ((impl_Digits.f (wrap64 (1000 + (Int.tmod x0 1000)))).bind fun t302 => (if 1 ≤ (t302.size : Int) then ((strings_TrimRight.f (t302.extract 1 t302.size) (⟨#[48]⟩ : ByteArray)).bind fun t303 => (if 1 + t303.size ≤ 9223372036854775807 then (if (x3 ++ t301).size + ((⟨#[46]⟩ : ByteArray) ++ t303).size ≤ 9223372036854775807 then (some ((x3 ++ t301) ++ ((⟨#[46]⟩ : ByteArray) ++ t303))) else (none)) else (none))) else (none)))) else (none))
def impl_FixText.f (k : Nat) (a0 : Int) : Option (ByteArray) := (impl_isDecimal.f a0).bind fun t300 => (if t300 = true then (if a0 < 0 then (impl_FixText.j0 k (wrap64 (-a0)) (⟨#[45]⟩ : ByteArray)) else (impl_FixText.j0 k a0 (⟨#[]⟩ : ByteArray))) else (some (⟨#[]⟩ : ByteArray)))
theorem impl_FixText.mono_l : ∀ k,(∀ y0 y1,LeO (impl_FixText.j0 k y0 y1) (impl_FixText.j0 (k + 1) y0 y1))
 | 0 => fun _ _ r h => by simp [impl_FixText.j0] at h
 | k + 1 => by
  have ih0 := impl_FixText.mono_l k
  ·intro y0 y1
   unfold impl_FixText.j0
   repeat' first
   | (with_reducible exact ih0 _ _)
   | (with_reducible exact LeO.refl _)
   | (with_reducible exact LeO.none _)
   | (with_reducible refine LeO.ite ?_ ?_)
   | (with_reducible refine LeO.bind ?_ (fun _ => ?_))
   | exact ih0 _ _
   | exact LeO.none _
   | refine LeO.ite ?_ ?_
   | refine LeO.bind ?_ (fun _ => ?_)
theorem impl_FixText.mono : ∀ a0 k,LeO (impl_FixText.f k a0) (impl_FixText.f (k + 1) a0) := by
 intro a0 k
 have ih0 := impl_FixText.mono_l k
 unfold impl_FixText.f
 repeat' first
   | (with_reducible exact ih0 _ _)
   | (with_reducible exact LeO.refl _)
   | (with_reducible exact LeO.none _)
   | (with_reducible refine LeO.ite ?_ ?_)
   | (with_reducible refine LeO.bind ?_ (fun _ => ?_))
   | exact ih0 _ _
   | exact LeO.none _
   | refine LeO.ite ?_ ?_
   | refine LeO.bind ?_ (fun _ => ?_)
set_option maxHeartbeats 8000000 in
set_option maxRecDepth 100000 in
theorem impl_FixText.calls (k : Nat) (a0 : Int) (r : ByteArray) (w : World) (hG : GT w) (h : impl_FixText.f k a0 = some r) :
  Calls Tryd.prog 21 #[.int .i64 a0] w fun e w' => e = .returned (.string r) ∧ Below w.heap.size w w' := by
 have HG := Aside0.mk hG
 clear hG
 have HB := Aside0.mk (Below.refl w.heap.size w)
 have H : ((impl_isDecimal.f a0).bind fun t300 => (if t300 = true then (if a0 < 0 then (impl_FixText.j0 k (wrap64 (-a0)) (⟨#[45]⟩ : ByteArray)) else (impl_FixText.j0 k a0 (⟨#[]⟩ : ByteArray))) else (some (⟨#[]⟩ : ByteArray)))) = some r := h
 clear h
 obtain ⟨t300,A20,H⟩ := Option.bind_eq_some_iff.mp H
 have A2 := Aside0.mk A20
 clear A20
 by_cases c3 : t300 = true
 rotate_left
 ·replace c3 := Bool.eq_false_iff.mpr c3
  subst c3
  rw [if_neg Bool.false_ne_true] at H
  obtain rfl := Option.some.inj H
  go_enter Tryd.func21,Tryd.ntmps21
  go_wp2_with (first | ((with_reducible refine gate_callee (f := 37) rfl ?_);refine goesL_ (some 6) rfl rfl Tryd.func37 Z121 rfl #[.int .i64 a0] rfl Z66 ?_;(with_reducible refine (impl_isDecimal.calls a0 false _ A2.out).mono ?_);rintro e w' ⟨rfl,⟨nd,rfl⟩⟩;refine ⟨_,rfl,?_⟩))
  go_ret
  exact ⟨Z98,Z148⟩
 subst c3
 rw [if_pos rfl] at H
 have HC4 := Aside0.mk H
 clear H
 go_enter Tryd.func21,Tryd.ntmps21
 go_upto_if 9 with (first | ((with_reducible refine gate_callee (f := 37) rfl ?_);refine goesL_ (some 6) rfl rfl Tryd.func37 Z121 rfl #[.int .i64 a0] rfl Z66 ?_;(with_reducible refine (impl_isDecimal.calls a0 true _ A2.out).mono ?_);rintro e w' ⟨rfl,⟨nd,rfl⟩⟩;refine ⟨_,rfl,?_⟩))
 (try simp only [Act.put,List.setIfInBounds_toArray,List.set_cons_zero,List.set_cons_succ])
 go_cut [0,3] (fun v0 v3 wc => ∃ (kq : Nat) (x0_3 : Int) (x3_3 : ByteArray),v0 = .int .i64 x0_3 ∧ v3 = .string x3_3 ∧ Aside0 (impl_FixText.j0 kq x0_3 x3_3 = some r) ∧ Aside0 (kq ≤ k) ∧ Aside0 (Below w.heap.size w wc))
 case first =>
  have H := HC4.out
  clear HC4
  by_cases c5 : a0 < 0
  rotate_left
  ·rw [if_neg c5] at H
   have c5b0 : decide (a0 < 0) = false := decide_eq_false c5
   clear c5
   (first | rw [c5b0] | (simp only [i64_w,i32_w];rw [c5b0]) | skip)
   have H' := Aside0.mk H
   clear H
   go_wp2
   go_meet
   case rel => exact ⟨_,(a0),((⟨#[]⟩ : ByteArray)),Z106,Z106,H',⟨Z110⟩,⟨Z148⟩⟩
  rw [if_pos c5] at H
  have c5b0 : decide (a0 < 0) = true := decide_eq_true c5
  clear c5
  (first | rw [c5b0] | (simp only [i64_w,i32_w];rw [c5b0]) | skip)
  have H' := Aside0.mk H
  clear H
  go_wp2
  go_meet
  case rel => exact ⟨_,(wrap64 (-a0)),((⟨#[45]⟩ : ByteArray)),Z106,Z106,H',⟨Z110⟩,⟨Z148⟩⟩
 case rest =>
  clear HC4
  try clear c2
  try clear p2
  try clear c3
  try clear c5
  try clear c5b0
  obtain ⟨kq,x0_3,x3_3,rfl,rfl,HA,HJ3,HB⟩ := hcut
  cases kq with
  | zero => exact absurd HA.out (by simp [impl_FixText.j0])
  | succ kj3 =>
   have H := HA.out
   clear HA
   simp only [impl_FixText.j0] at H
   obtain ⟨t301,A60,H⟩ := Option.bind_eq_some_iff.mp H
   have A6 := Aside0.mk A60
   clear A60
   obtain ⟨c7,H⟩ := ifp H
   have c7b0 := eq_true c7
   have c7b1 : decide (x3_3.size + t301.size ≤ 9223372036854775807) = true := decide_eq_true c7
   try have c7b2 : (9223372036854775807 < x3_3.size + t301.size) = False := eq_false (Nat.not_lt.2 c7)
   by_cases c8 : (Int.tmod x0_3 1000) = 0
   ·rw [if_pos c8] at H
    have c8b0 : ((Int.tmod x0_3 1000) == 0) = true := beq_iff_eq.mpr c8
    have c8b1 : ((Int.tmod x0_3 1000) != 0) = false := bne_eq_false_iff_eq.mpr c8
    clear c8
    obtain rfl := Option.some.inj H
    go_wp2_with (first | ((with_reducible refine gate_callee (f := 38) rfl ?_);refine goesL_ (some 15) rfl rfl Tryd.func38 Z121 rfl #[.int .i64 (wrap64 (Int.tdiv x0_3 1000))] rfl Z66 ?_;(with_reducible refine (impl_Digits.calls (wrap64 (Int.tdiv x0_3 1000)) t301 _ ?side1 A6.out).mono ?_);(case side1 => exact Z52);rintro e wq1 ⟨rfl,hb⟩;refine ⟨_,rfl,?_⟩;have n0_ := Aside0.mk (below_step Z148 hb);clear HB;have HB := n0_;clear n0_;(try clear hb);(try clear hb2);(try clear hk);(try clear hi)))
    go_ret
    exact ⟨Z98,Z148⟩
   rw [if_neg c8] at H
   have c8b0 : ((Int.tmod x0_3 1000) == 0) = false := beq_eq_false_iff_ne.mpr c8
   have c8b1 : ((Int.tmod x0_3 1000) != 0) = true := bne_iff_ne.mpr c8
   obtain ⟨t302,A100,H⟩ := Option.bind_eq_some_iff.mp H
   have A10 := Aside0.mk A100
   clear A100
   obtain ⟨c11,H⟩ := ifp H
   have c11b0 := eq_true c11
   have c11b1 : decide (1 ≤ (t302.size : Int)) = true := decide_eq_true c11
   clear c11
   obtain ⟨t303,A120,H⟩ := Option.bind_eq_some_iff.mp H
   have A12 := Aside0.mk A120
   clear A120
   obtain ⟨c13,H⟩ := ifp H
   have c13b0 := eq_true c13
   have c13b1 : decide (1 + t303.size ≤ 9223372036854775807) = true := decide_eq_true c13
   try have c13b2 : (9223372036854775807 < 1 + t303.size) = False := eq_false (Nat.not_lt.2 c13)
   obtain ⟨c14,H⟩ := ifp H
   have c14b0 := eq_true c14
   have c14b1 : decide ((x3_3 ++ t301).size + ((⟨#[46]⟩ : ByteArray) ++ t303).size ≤ 9223372036854775807) = true := decide_eq_true c14
   try have c14b2 : (9223372036854775807 < (x3_3 ++ t301).size + ((⟨#[46]⟩ : ByteArray) ++ t303).size) = False := eq_false (Nat.not_lt.2 c14)
   try (have c14b3 := c14b2; simp only [ByteArray.size_append] at c14b3)
   try (have c14b4 := c14b3; simp only [show ∀ b_ : UInt8, (⟨#[b_]⟩ : ByteArray).size = 1 from fun _ => rfl] at c14b4)
   obtain rfl := Option.some.inj H
   go_wp2_with (first | ((with_reducible refine gate_callee (f := 38) rfl ?_);refine goesL_ (some 15) rfl rfl Tryd.func38 Z121 rfl #[.int .i64 (wrap64 (Int.tdiv x0_3 1000))] rfl Z66 ?_;(with_reducible refine (impl_Digits.calls (wrap64 (Int.tdiv x0_3 1000)) t301 _ ?side1 A6.out).mono ?_);(case side1 => exact Z52);rintro e wq1 ⟨rfl,hb⟩;refine ⟨_,rfl,?_⟩;have n0_ := Aside0.mk (below_step Z148 hb);clear HB;have HB := n0_;clear n0_;(try clear hb);(try clear hb2);(try clear hk);(try clear hi)) | ((with_reducible refine gate_callee (f := 38) rfl ?_);refine goesL_ (some 24) rfl rfl Tryd.func38 Z121 rfl #[.int .i64 (wrap64 (1000 + (Int.tmod x0_3 1000)))] rfl Z66 ?_;(with_reducible refine (impl_Digits.calls (wrap64 (1000 + (Int.tmod x0_3 1000))) t302 _ ?side1 A10.out).mono ?_);(case side1 => exact Z52);rintro e wq2 ⟨rfl,hb⟩;refine ⟨_,rfl,?_⟩;have n0_ := Aside0.mk (below_step Z148 hb);clear HB;have HB := n0_;clear n0_;(try clear hb);(try clear hb2);(try clear hk);(try clear hi)) | ((with_reducible refine gate_callee (f := 39) rfl ?_);refine goesL_ (some 26) rfl rfl Tryd.func39 Z121 rfl #[.string (t302.extract 1 t302.size),.string (⟨#[48]⟩ : ByteArray)] rfl Z66 ?_;(with_reducible refine (strings_TrimRight.calls (t302.extract 1 t302.size) (⟨#[48]⟩ : ByteArray) t303 _ A12.out).mono ?_);rintro e wq3 ⟨rfl,hb⟩;refine ⟨_,rfl,?_⟩;have n0_ := Aside0.mk (below_step Z148 hb);clear HB;have HB := n0_;clear n0_;(try clear hb);(try clear hb2);(try clear hk);(try clear hi)))
   go_ret
   exact ⟨Z98,Z148⟩

/-! ### impl_fixTexts: function 20 -/
def impl_fixTexts.l0 : Nat → List ByteArray → List Int → Int → Int → Option (List ByteArray)
 | 0,_,_,_,_ => none
 | k + 1,x3,x7,x8,x9 => if x9 < x8 then (if 0 ≤ x9 then (if x9 < (x7.length : Int) then ((impl_FixText.f k (rd x7 x9)).bind fun t308 => (if x3.length < 8796093022208 then (impl_fixTexts.l0 k (x3 ++ [t308]) x7 x8 (wrap64 (x9 + 1))) else (none))) else (none)) else (none)) else (some x3)
def impl_fixTexts.f (k : Nat) (l0 : List Int) : Option (List ByteArray) := impl_fixTexts.l0 k (([] : List ByteArray)) l0 (l0.length : Int) 0
theorem impl_fixTexts.mono_l : ∀ k,(∀ y0 y1 y2 y3,LeO (impl_fixTexts.l0 k y0 y1 y2 y3) (impl_fixTexts.l0 (k + 1) y0 y1 y2 y3))
 | 0 => fun _ _ _ _ r h => by simp [impl_fixTexts.l0] at h
 | k + 1 => by
  have ih0 := impl_fixTexts.mono_l k
  ·intro y0 y1 y2 y3
   unfold impl_fixTexts.l0
   repeat' first
   | (with_reducible exact ih0 _ _ _ _)
   | (with_reducible exact impl_FixText.mono _ _)
   | (with_reducible exact LeO.refl _)
   | (with_reducible exact LeO.none _)
   | (with_reducible refine LeO.ite ?_ ?_)
   | (with_reducible refine LeO.bind ?_ (fun _ => ?_))
   | exact ih0 _ _ _ _
   | exact impl_FixText.mono _ _
   | exact LeO.none _
   | refine LeO.ite ?_ ?_
   | refine LeO.bind ?_ (fun _ => ?_)
theorem impl_fixTexts.mono : ∀ a0 k,LeO (impl_fixTexts.f k a0) (impl_fixTexts.f (k + 1) a0) := by
 intro a0 k
 have ih0 := impl_fixTexts.mono_l k
 unfold impl_fixTexts.f
 repeat' first
   | (with_reducible exact ih0 _ _ _ _)
   | (with_reducible exact impl_FixText.mono _ _)
   | (with_reducible exact LeO.refl _)
   | (with_reducible exact LeO.none _)
   | (with_reducible refine LeO.ite ?_ ?_)
   | (with_reducible refine LeO.bind ?_ (fun _ => ?_))
   | exact ih0 _ _ _ _
   | exact impl_FixText.mono _ _
   | exact LeO.none _
   | refine LeO.ite ?_ ?_
   | refine LeO.bind ?_ (fun _ => ?_)
set_option maxHeartbeats 8000000 in
set_option maxRecDepth 100000 in
theorem impl_fixTexts.calls (k : Nat) (A0 : Option Addr) (c0 : Nat) (l0 : List Int) (r : List ByteArray) (w : World) (hr0 : Kd.C (Kd.int .i64) w A0 l0.length l0) (hc0 : l0.length ≤ c0) (hG : GT w) (h : impl_fixTexts.f k l0 = some r) :
  Calls Tryd.prog 20 #[.slice A0 l0.length c0] w fun e w' => ∃ v0_ : Value,e = .returned (v0_) ∧ Kd.R Kd.string 9 w' w.heap.size (fun _ => True) v0_ r ∧ Below w.heap.size w w' := by
 have HG := Aside0.mk hG
 clear hG
 have HR0 := Aside0.mk hr0
 have HC0 := Aside0.mk hc0
 clear hr0 hc0
 have HB := Aside0.mk (Below.refl w.heap.size w)
 have H := h
 clear h
 unfold impl_fixTexts.f at H
 obtain ⟨y304,hyy⟩ : ∃ y_ : List ByteArray,y_ = (([] : List ByteArray)) := ⟨_,rfl⟩
 replace H : (impl_fixTexts.l0 k y304 l0 (l0.length : Int) 0) = some r := zR
 have Ny304 := Aside0.mk hyy
 clear hyy
 have H' := Aside0.mk H
 clear H
 go_enter Tryd.func20,Tryd.ntmps20
 go_wp2_with (first | ((with_reducible refine gate_dst (N := 6) rfl ?_);refine Kd.R_lit Kd.string _ 9 ?hg (N := 6) ?hd (xs := ([] : List ByteArray)) (inner := []) (ok := fun _ => True) (okp := fun _ => True) ?hr ?hp (fun _ hk => hk) trivial (Below.refl _ _) (Nat.le_refl _) Z146 ?_;(case hd => rfl);(case hg => rfl);(case hr => exact Z107);(case hp => exact Z117);intro v305 w2 ho3 hb hg_ hnew_;clear hg_ hnew_;(first | rw [← Ny304.out] at ho3 | (simp only [Int.reduceToNat] at ho3;rw [← Ny304.out] at ho3));have n_ := Z20;clear HB;obtain ⟨HO306,HB⟩ := n_;clear hb ho3))
 go_loopg [3,9] k (fun kq v3 v9 w' => ∃ (x3_1 : List ByteArray) (x9_1 : Int),v9 = .int .i64 x9_1 ∧ Aside0 (impl_fixTexts.l0 kq x3_1 l0 (l0.length : Int) x9_1 = some r) ∧ Aside0 (kq ≤ k) ∧ Aside0 (Kd.R Kd.string 9 w' w.heap.size (fun _ => True) v3 x3_1) ∧ Aside0 (Below w.heap.size w w'))
 case atStart => exact ⟨(y304),(0),Z106,H',⟨Nat.le_refl _⟩,⟨by (with_reducible repeat (first | apply Kd.R_alloc | apply Kd.R_drewN | apply Kd.R_drew));exact HO306.out⟩,⟨Z148⟩⟩
 case round =>
  clear H'
  try clear c2
  try clear p2
  obtain ⟨x3_1,x9_1,rfl,HA,HK1,HO_3,HB⟩ := hrel
  cases gk with
  | zero => exact absurd HA.out (by simp [impl_fixTexts.l0])
  | succ k1 =>
   have H := HA.out
   clear HA
   simp only [impl_fixTexts.l0] at H
   by_cases c4 : x9_1 < (l0.length : Int)
   rotate_left
   ·rw [if_neg c4] at H
    have c4b0 : decide (x9_1 < (l0.length : Int)) = false := decide_eq_false c4
    clear c4
    obtain rfl := Option.some.inj H
    go_wp2
    go_ret
    exact ⟨_,Z98,Z138,Z148⟩
   rw [if_pos c4] at H
   have c4b0 : decide (x9_1 < (l0.length : Int)) = true := decide_eq_true c4
   clear c4
   obtain ⟨c5,H⟩ := ifp H
   have c5b0 : decide (0 ≤ x9_1) = true := decide_eq_true c5
   clear c5
   obtain ⟨c6,H⟩ := ifp H
   have c6b0 : decide (x9_1 < (l0.length : Int)) = true := decide_eq_true c6
   clear c6
   obtain ⟨t308,A70,H⟩ := Option.bind_eq_some_iff.mp H
   have A7 := Aside0.mk A70
   clear A70
   obtain ⟨c8,H⟩ := ifp H
   have LMc8 := Aside0.mk c8
   clear c8
   obtain ⟨y309,hyy⟩ : ∃ y_ : List ByteArray,y_ = (x3_1 ++ [t308]) := ⟨_,rfl⟩
   replace H : (impl_fixTexts.l0 k1 y309 l0 (l0.length : Int) (wrap64 (x9_1 + 1))) = some r := zR
   have Ny309 := Aside0.mk hyy
   clear hyy
   have H' := Aside0.mk H
   clear H
   have p307 : 0 ≤ (x9_1 : Int) := of_decide_eq_true Z105
   have q307 : x9_1 < (l0.length : Int) := of_decide_eq_true Z105
   obtain ⟨ad307,e307,hx307_0⟩ := Kd.at_int HR0.out x9_1 p307 q307
   cases e307
   replace hx307_0 := (HB.out.cell (World.block_lt_of_cell? w _ hx307_0)).trans hx307_0
   replace p307 := eq_true p307
   replace q307 := eq_true q307
   go_wp2_with (first | ((with_reducible refine gate_callee (f := 21) rfl ?_);refine goesL_ (some 15) rfl rfl Tryd.func21 Z121 rfl #[.int .i64 (rd l0 x9_1)] rfl Z66 ?_;(with_reducible refine (impl_FixText.calls k1 (rd l0 x9_1) t308 _ ?side1 A7.out).mono ?_);(case side1 => exact Z52);rintro e w9 ⟨rfl,hb⟩;refine ⟨_,rfl,?_⟩;have n_ := Z29;clear HO_3 HB;obtain ⟨HO_3,HB⟩ := n_;(try clear hb);(try clear hb2);(try clear hk);(try clear hi)) | ((with_reducible refine gate_builtin (b := .append) (xs := #[.tmp 13,.tmp 16]) rfl ?_);at_builtin;refine Kd.R_append Kd.string (w0 := w) w.heap.size rfl (.tmp 13) (.tmp 16) 22 9 (.string ⟨#[]⟩) 16 rfl Tryd.underlying22 info9 rfl Z145 Z122 u3 x3_1 t308 [.string t308] (fun _ => True) (fun _ => False) rfl rfl ?aP (fun _ hk => hk.elim) ?aF ?aO ?aB ?aS ?aL ?_;(case aP => exact rfl);(case aB => exact Z63);(case aF => exact Z114);(case aO => exact Z75);(case aS => exact Z57);(case aL => have := LMc8.out;omega);intro v310 w10 ho hb hg hat;rw [← Ny309.out] at ho;have n_ := jA (hb) (Aside0.mk (ho));clear HB HO_3;obtain ⟨HB,HO311⟩ := n_;clear ho hb hg hat))
   go_roundg k1
   case measure => have := HK1.out;omega
   case rel => exact ⟨(y309),(wrap64 (x9_1 + 1)),Z106,H',⟨Z116⟩,⟨by (with_reducible repeat (first | apply Kd.R_alloc | apply Kd.R_drewN | apply Kd.R_drew));exact HO311.out⟩,⟨Z148⟩⟩

/-! ### strings_IndexAny: function 59 -/
def strings_IndexAny.ascii (a : ByteArray) : Bool := a.data.toList.all (fun b => decide (b.toNat < 128))
theorem strings_IndexAny.at {a : ByteArray} (h : strings_IndexAny.ascii a = true) : ∀ (j : Nat) b,a.data.toList[j]? = some b → b.toNat < 128 := fun j b hj =>
 of_decide_eq_true (List.all_eq_true.mp h b (List.mem_of_getElem? hj))
def strings_IndexAny.f (a0 a1 : ByteArray) : Option Int := if a0.size < 4294967281 ∧ a1.size < 4294967281 ∧ strings_IndexAny.ascii a0 = true ∧ strings_IndexAny.ascii a1 = true then some (Lib.indexAny a0.data.toList a1.data.toList) else none
theorem strings_IndexAny.calls (a0 a1 : ByteArray) (r : Int) (w : World) (h : strings_IndexAny.f a0 a1 = some r) :
  Calls Tryd.prog 59 #[.string a0,.string a1] w fun e w' => e = .returned (.int .i64 r) ∧ Below w.heap.size w w' := by
 unfold strings_IndexAny.f at h
 by_cases hb : a0.size < 4294967281 ∧ a1.size < 4294967281 ∧ strings_IndexAny.ascii a0 = true ∧ strings_IndexAny.ascii a1 = true
 rotate_left
 ·rw [if_neg hb] at h;cases h
 rw [if_pos hb] at h
 obtain rfl := Option.some.inj h
 exact Tryd.strings_IndexAny_laid a0 a1 w hb.1 hb.2.1 (strings_IndexAny.at hb.2.2.1) (strings_IndexAny.at hb.2.2.2)

/-! ### strings_ContainsAny: function 51 -/
def strings_ContainsAny.f (a0 : ByteArray) (a1 : ByteArray) : Option (Bool) := (strings_IndexAny.f a0 a1).bind fun t312 => (some (decide (t312 ≥ 0)))
set_option maxHeartbeats 8000000 in
set_option maxRecDepth 100000 in
theorem strings_ContainsAny.calls (a0 : ByteArray) (a1 : ByteArray) (r : Bool) (w : World) (h : strings_ContainsAny.f a0 a1 = some r) :
  Calls Tryd.prog 51 #[.string a0,.string a1] w fun e w' => e = .returned (.bool r) ∧ Below w.heap.size w w' := by
 have HB := Aside0.mk (Below.refl w.heap.size w)
 have H : ((strings_IndexAny.f a0 a1).bind fun t312 => (some (decide (t312 ≥ 0)))) = some r := h
 clear h
 obtain ⟨t312,A30,H⟩ := Option.bind_eq_some_iff.mp H
 have A3 := Aside0.mk A30
 clear A30
 obtain rfl := Option.some.inj H
 go_enter Tryd.func51,Tryd.ntmps51
 go_wp2_with (first | ((with_reducible refine gate_callee (f := 59) rfl ?_);refine goesL_ (some 7) rfl rfl Tryd.func59 Z121 rfl #[.string a0,.string a1] rfl Z66 ?_;(with_reducible refine (strings_IndexAny.calls a0 a1 t312 _ A3.out).mono ?_);rintro e wq1 ⟨rfl,hb⟩;refine ⟨_,rfl,?_⟩;have n0_ := Aside0.mk (below_step Z148 hb);clear HB;have HB := n0_;clear n0_;(try clear hb);(try clear hb2);(try clear hk);(try clear hi)))
 go_ret
 exact ⟨Z98,Z148⟩

/-! ### strings_ReplaceAll: function 52 (not reached by what this program hands it: nothing is told of it) -/
def strings_ReplaceAll.f (_a0 _a1 _a2 : ByteArray) : Option ByteArray := none
theorem strings_ReplaceAll.calls (a0 a1 a2 : ByteArray) (r : ByteArray) (w : World) (h : strings_ReplaceAll.f a0 a1 a2 = some r) :
  Calls Tryd.prog 52 #[.string a0,.string a1,.string a2] w fun e w' => e = .returned (.string r) ∧ Below w.heap.size w w' := by
 unfold strings_ReplaceAll.f at h
 cases h

/-! ### impl_CsvField: function 40 -/
def impl_CsvField.f (a0 : ByteArray) : Option (ByteArray) := (strings_ContainsAny.f a0 (⟨#[44,34,10,13]⟩ : ByteArray)).bind fun t313 => (if t313 = true then ((strings_ReplaceAll.f a0 (⟨#[34]⟩ : ByteArray) (⟨#[34,34]⟩ : ByteArray)).bind fun t314 => (if 1 + t314.size ≤ 9223372036854775807 then (if ((⟨#[34]⟩ : ByteArray) ++ t314).size + 1 ≤ 9223372036854775807 then (some (((⟨#[34]⟩ : ByteArray) ++ t314) ++ (⟨#[34]⟩ : ByteArray))) else (none)) else (none))) else (some a0))
set_option maxHeartbeats 8000000 in
set_option maxRecDepth 100000 in
theorem impl_CsvField.calls (a0 : ByteArray) (r : ByteArray) (w : World) (h : impl_CsvField.f a0 = some r) :
  Calls Tryd.prog 40 #[.string a0] w fun e w' => e = .returned (.string r) ∧ Below w.heap.size w w' := by
 have HB := Aside0.mk (Below.refl w.heap.size w)
 have H : ((strings_ContainsAny.f a0 (⟨#[44,34,10,13]⟩ : ByteArray)).bind fun t313 => (if t313 = true then ((strings_ReplaceAll.f a0 (⟨#[34]⟩ : ByteArray) (⟨#[34,34]⟩ : ByteArray)).bind fun t314 => (if 1 + t314.size ≤ 9223372036854775807 then (if ((⟨#[34]⟩ : ByteArray) ++ t314).size + 1 ≤ 9223372036854775807 then (some (((⟨#[34]⟩ : ByteArray) ++ t314) ++ (⟨#[34]⟩ : ByteArray))) else (none)) else (none))) else (some a0))) = some r := h
 clear h
 obtain ⟨t313,A20,H⟩ := Option.bind_eq_some_iff.mp H
 have A2 := Aside0.mk A20
 clear A20
 by_cases c3 : t313 = true
 rotate_left
 ·replace c3 := Bool.eq_false_iff.mpr c3
  subst c3
  rw [if_neg Bool.false_ne_true] at H
  obtain rfl := Option.some.inj H
  go_enter Tryd.func40,Tryd.ntmps40
  go_wp2_with (first | ((with_reducible refine gate_callee (f := 51) rfl ?_);refine goesL_ (some 4) rfl rfl Tryd.func51 Z121 rfl #[.string a0,.string (⟨#[44,34,10,13]⟩ : ByteArray)] rfl Z66 ?_;(with_reducible refine (strings_ContainsAny.calls a0 (⟨#[44,34,10,13]⟩ : ByteArray) false _ A2.out).mono ?_);rintro e wq1 ⟨rfl,hb⟩;refine ⟨_,rfl,?_⟩;have n0_ := Aside0.mk (below_step Z148 hb);clear HB;have HB := n0_;clear n0_;(try clear hb);(try clear hb2);(try clear hk);(try clear hi)))
  go_ret
  exact ⟨Z98,Z148⟩
 subst c3
 rw [if_pos rfl] at H
 obtain ⟨t314,A40,H⟩ := Option.bind_eq_some_iff.mp H
 have A4 := Aside0.mk A40
 clear A40
 obtain ⟨c5,H⟩ := ifp H
 have c5b0 := eq_true c5
 have c5b1 : decide (1 + t314.size ≤ 9223372036854775807) = true := decide_eq_true c5
 try have c5b2 : (9223372036854775807 < 1 + t314.size) = False := eq_false (Nat.not_lt.2 c5)
 obtain ⟨c6,H⟩ := ifp H
 have c6b0 := eq_true c6
 have c6b1 : decide (((⟨#[34]⟩ : ByteArray) ++ t314).size + 1 ≤ 9223372036854775807) = true := decide_eq_true c6
 try have c6b2 : (9223372036854775807 < ((⟨#[34]⟩ : ByteArray) ++ t314).size + 1) = False := eq_false (Nat.not_lt.2 c6)
 try (have c6b3 := c6b2; simp only [ByteArray.size_append] at c6b3)
 try (have c6b4 := c6b3; simp only [show ∀ b_ : UInt8, (⟨#[b_]⟩ : ByteArray).size = 1 from fun _ => rfl] at c6b4)
 obtain rfl := Option.some.inj H
 go_enter Tryd.func40,Tryd.ntmps40
 go_wp2_with (first | ((with_reducible refine gate_callee (f := 51) rfl ?_);refine goesL_ (some 4) rfl rfl Tryd.func51 Z121 rfl #[.string a0,.string (⟨#[44,34,10,13]⟩ : ByteArray)] rfl Z66 ?_;(with_reducible refine (strings_ContainsAny.calls a0 (⟨#[44,34,10,13]⟩ : ByteArray) true _ A2.out).mono ?_);rintro e wq1 ⟨rfl,hb⟩;refine ⟨_,rfl,?_⟩;have n0_ := Aside0.mk (below_step Z148 hb);clear HB;have HB := n0_;clear n0_;(try clear hb);(try clear hb2);(try clear hk);(try clear hi)) | ((with_reducible refine gate_callee (f := 52) rfl ?_);refine goesL_ (some 8) rfl rfl Tryd.func52 Z121 rfl #[.string a0,.string (⟨#[34]⟩ : ByteArray),.string (⟨#[34,34]⟩ : ByteArray)] rfl Z66 ?_;(with_reducible refine (strings_ReplaceAll.calls a0 (⟨#[34]⟩ : ByteArray) (⟨#[34,34]⟩ : ByteArray) t314 _ A4.out).mono ?_);rintro e wq2 ⟨rfl,hb⟩;refine ⟨_,rfl,?_⟩;have n0_ := Aside0.mk (below_step Z148 hb);clear HB;have HB := n0_;clear n0_;(try clear hb);(try clear hb2);(try clear hk);(try clear hi)))
 go_ret
 exact ⟨Z98,Z148⟩

/-! ### impl_CsvText: function 22 -/
mutual
def impl_CsvText.l0 : Nat → List Int → List (List ByteArray) → Int → Int → Option (ByteArray)
 | 0,_,_,_,_ => none
 | k + 1,x3,x9,x10,x11 => if x11 < x10 then (if 0 ≤ x11 then (if x11 < (x9.length : Int) then (impl_CsvText.l1 k x3 x9 x10 x11 (rd_L4 x9 x11) ((rd_L4 x9 x11).length : Int) 0) else (none)) else (none)) else (some (strOfNums x3))
def impl_CsvText.l1 : Nat → List Int → List (List ByteArray) → Int → Int → List ByteArray → Int → Int → Option (ByteArray)
 | 0,_,_,_,_,_,_,_ => none
 | k + 1,x3,x9,x10,x11,x15,x16,x17 => if x17 < x16 then (if 0 ≤ x17 then (if x17 < (x15.length : Int) then (if x17 > 0 then (if x3.length < 140737488355328 then ((some (x3 ++ [44] : List Int)).bind fun y320 => ((impl_CsvField.f (rdOf ByteArray.empty x15 x17)).bind fun t323 => (if y320.length + t323.size < 140737488355328 then (impl_CsvText.l1 k (y320 ++ bytesOf t323) x9 x10 x11 x15 x16 (wrap64 (x17 + 1))) else (none)))) else (none)) else ((impl_CsvField.f (rdOf ByteArray.empty x15 x17)).bind fun t327 => (if x3.length + t327.size < 140737488355328 then (impl_CsvText.l1 k (x3 ++ bytesOf t327) x9 x10 x11 x15 x16 (wrap64 (x17 + 1))) else (none)))) else (none)) else (none)) else (if x3.length < 140737488355328 then (impl_CsvText.l0 k (x3 ++ [10]) x9 x10 (wrap64 (x11 + 1))) else (none))
end
def impl_CsvText.f (k : Nat) (l0 : List (List ByteArray)) : Option (ByteArray) := impl_CsvText.l0 k (([] : List Int)) l0 (l0.length : Int) 0
theorem impl_CsvText.mono_l : ∀ k,(∀ y0 y1 y2 y3,LeO (impl_CsvText.l0 k y0 y1 y2 y3) (impl_CsvText.l0 (k + 1) y0 y1 y2 y3)) ∧ (∀ y0 y1 y2 y3 y4 y5 y6,LeO (impl_CsvText.l1 k y0 y1 y2 y3 y4 y5 y6) (impl_CsvText.l1 (k + 1) y0 y1 y2 y3 y4 y5 y6))
 | 0 => ⟨fun _ _ _ _ r h => by simp [impl_CsvText.l0] at h,fun _ _ _ _ _ _ _ r h => by simp [impl_CsvText.l1] at h⟩
 | k + 1 => by
  obtain ⟨ih0,ih1⟩ := impl_CsvText.mono_l k
  refine ⟨?_,?_⟩
  ·intro y0 y1 y2 y3
   unfold impl_CsvText.l0
   repeat' first
   | (with_reducible exact ih0 _ _ _ _)
   | (with_reducible exact ih1 _ _ _ _ _ _ _)
   | (with_reducible exact LeO.refl _)
   | (with_reducible exact LeO.none _)
   | (with_reducible refine LeO.ite ?_ ?_)
   | (with_reducible refine LeO.bind ?_ (fun _ => ?_))
   | exact ih0 _ _ _ _
   | exact ih1 _ _ _ _ _ _ _
   | exact LeO.none _
   | refine LeO.ite ?_ ?_
   | refine LeO.bind ?_ (fun _ => ?_)
  ·intro y0 y1 y2 y3 y4 y5 y6
   unfold impl_CsvText.l1
   repeat' first
   | (with_reducible exact ih0 _ _ _ _)
   | (with_reducible exact ih1 _ _ _ _ _ _ _)
   | (with_reducible exact LeO.refl _)
   | (with_reducible exact LeO.none _)
   | (with_reducible refine LeO.ite ?_ ?_)
   | (with_reducible refine LeO.bind ?_ (fun _ => ?_))
   | exact ih0 _ _ _ _
   | exact ih1 _ _ _ _ _ _ _
   | exact LeO.none _
   | refine LeO.ite ?_ ?_
   | refine LeO.bind ?_ (fun _ => ?_)
theorem impl_CsvText.mono : ∀ a0 k,LeO (impl_CsvText.f k a0) (impl_CsvText.f (k + 1) a0) := by
 intro a0 k
 obtain ⟨ih0,ih1⟩ := impl_CsvText.mono_l k
 unfold impl_CsvText.f
 repeat' first
   | (with_reducible exact ih0 _ _ _ _)
   | (with_reducible exact ih1 _ _ _ _ _ _ _)
   | (with_reducible exact LeO.refl _)
   | (with_reducible exact LeO.none _)
   | (with_reducible refine LeO.ite ?_ ?_)
   | (with_reducible refine LeO.bind ?_ (fun _ => ?_))
   | exact ih0 _ _ _ _
   | exact ih1 _ _ _ _ _ _ _
   | exact LeO.none _
   | refine LeO.ite ?_ ?_
   | refine LeO.bind ?_ (fun _ => ?_)
set_option maxHeartbeats 8000000 in
set_option maxRecDepth 100000 in
theorem impl_CsvText.calls (k : Nat) (A0 : Option Addr) (c0 : Nat) (l0 : List (List ByteArray)) (r : ByteArray) (w : World) (hr0 : Kd.C (Kd.slice 9 Kd.string) w A0 l0.length l0) (hc0 : l0.length ≤ c0) (h : impl_CsvText.f k l0 = some r) :
  Calls Tryd.prog 22 #[.slice A0 l0.length c0] w fun e w' => e = .returned (.string r) ∧ Below w.heap.size w w' := by
 have HR0 := Aside0.mk hr0
 have HC0 := Aside0.mk hc0
 clear hr0 hc0
 have HB := Aside0.mk (Below.refl w.heap.size w)
 have H := h
 clear h
 unfold impl_CsvText.f at H
 obtain ⟨y315,hyy⟩ : ∃ y_ : List Int,y_ = (([] : List Int)) := ⟨_,rfl⟩
 replace H : (impl_CsvText.l0 k y315 l0 (l0.length : Int) 0) = some r := zR
 have Ny315 := Aside0.mk hyy
 clear hyy
 have H' := Aside0.mk H
 clear H
 go_enter Tryd.func22,Tryd.ntmps22
 go_wp2_with (first | ((with_reducible refine gate_dst (N := 8) rfl ?_);refine Kd.R_lit (Kd.int .u8) _ 5 ?hg (N := 8) ?hd (xs := ([] : List Int)) (inner := []) (ok := fun _ => True) (okp := fun _ => True) ?hr ?hp (fun _ hk => hk) trivial (Below.refl _ _) (Nat.le_refl _) Z146 ?_;(case hd => rfl);(case hg => rfl);(case hr => exact Z107);(case hp => exact Z117);intro v316 w2 ho3 hb hg_ hnew_;clear hg_ hnew_;(first | rw [← Ny315.out] at ho3 | (simp only [Int.reduceToNat] at ho3;rw [← Ny315.out] at ho3));have n_ := Z20;clear HB;obtain ⟨HO317,HB⟩ := n_;clear hb ho3))
 go_loopg [3,11] k (fun kq v3 v11 w' => ∃ (x3_1 : List Int) (x11_1 : Int),v11 = .int .i64 x11_1 ∧ Aside0 (impl_CsvText.l0 kq x3_1 l0 (l0.length : Int) x11_1 = some r) ∧ Aside0 (kq ≤ k) ∧ Aside0 (Kd.R (Kd.int .u8) 5 w' w.heap.size (fun _ => True) v3 x3_1) ∧ Aside0 (Below w.heap.size w w'))
 case atStart => exact ⟨(y315),(0),Z106,H',⟨Nat.le_refl _⟩,⟨by (with_reducible repeat (first | apply Kd.R_alloc | apply Kd.R_drewN | apply Kd.R_drew));exact HO317.out⟩,⟨Z148⟩⟩
 case round =>
  clear H'
  try clear c2
  try clear p2
  obtain ⟨x3_1,x11_1,rfl,HA,HK1,HO_3,HB⟩ := hrel
  cases gk with
  | zero => exact absurd HA.out (by simp [impl_CsvText.l0])
  | succ k1 =>
   have H := HA.out
   clear HA
   simp only [impl_CsvText.l0] at H
   by_cases c4 : x11_1 < (l0.length : Int)
   rotate_left
   ·rw [if_neg c4] at H
    have c4b0 : decide (x11_1 < (l0.length : Int)) = false := decide_eq_false c4
    clear c4
    obtain rfl := Option.some.inj H
    have hcv23 := own_string (P := Tryd.prog) Tryd.underlying51 Tryd.underlying5 Tryd.underlying9 (Kd.own_of_R HO_3.out)
    go_wp2
    go_ret
    exact ⟨Z98,Z148⟩
   rw [if_pos c4] at H
   have c4b0 : decide (x11_1 < (l0.length : Int)) = true := decide_eq_true c4
   clear c4
   obtain ⟨c5,H⟩ := ifp H
   have c5b0 : decide (0 ≤ x11_1) = true := decide_eq_true c5
   clear c5
   obtain ⟨c6,H⟩ := ifp H
   have c6b0 : decide (x11_1 < (l0.length : Int)) = true := decide_eq_true c6
   clear c6
   have H' := Aside0.mk H
   clear H
   have p318 : 0 ≤ (x11_1 : Int) := of_decide_eq_true Z105
   have q318 : x11_1 < (l0.length : Int) := of_decide_eq_true Z105
   obtain ⟨ad318,A318_0,c318_0,e318,hx318_0,hl318_0,hi318_0⟩ := at_L4 HR0.out x11_1 p318 q318
   cases e318
   replace hx318_0 := (HB.out.cell (World.block_lt_of_cell? w _ hx318_0)).trans hx318_0
   have HR318_0 := Aside0.mk hi318_0
   have HC318_0 := Aside0.mk hl318_0
   clear hi318_0 hl318_0
   replace p318 := eq_true p318
   replace q318 := eq_true q318
   go_wp2
   go_loopg [3,17] k1 (fun kq v3 v17 w' => ∃ (x3_2 : List Int) (x17_2 : Int),v17 = .int .i64 x17_2 ∧ Aside0 (impl_CsvText.l1 kq x3_2 l0 (l0.length : Int) x11_1 (rd_L4 l0 x11_1) ((rd_L4 l0 x11_1).length : Int) x17_2 = some r) ∧ Aside0 (kq ≤ k1) ∧ Aside0 (Kd.R (Kd.int .u8) 5 w' w.heap.size (fun _ => True) v3 x3_2) ∧ Aside0 (Below w.heap.size w w'))
   case atStart => exact ⟨(x3_1),(0),Z106,H',⟨Nat.le_refl _⟩,⟨Z138⟩,⟨Z148⟩⟩
   case round =>
    clear H'
    try clear c2
    try clear p2
    try clear c3
    try clear p3
    try clear q3
    try clear hx3
    try clear c4
    try clear c4b0
    try clear c5
    try clear c5b0
    try clear c6
    try clear c6b0
    try clear hx318_0
    try clear p2
    try clear p318
    try clear q318
    obtain ⟨x3_2,x17_2,rfl,HA,HK2,HO_3,HB⟩ := hrel
    cases gk with
    | zero => exact absurd HA.out (by simp [impl_CsvText.l1])
    | succ k2 =>
     have H := HA.out
     clear HA
     simp only [impl_CsvText.l1] at H
     by_cases c7 : x17_2 < ((rd_L4 l0 x11_1).length : Int)
     rotate_left
     ·rw [if_neg c7] at H
      have c7b0 : decide (x17_2 < ((rd_L4 l0 x11_1).length : Int)) = false := decide_eq_false c7
      clear c7
      obtain ⟨c21,H⟩ := ifp H
      have LMc21 := Aside0.mk c21
      clear c21
      obtain ⟨y331,hyy⟩ : ∃ y_ : List Int,y_ = (x3_2 ++ [10]) := ⟨_,rfl⟩
      replace H : (impl_CsvText.l0 k2 y331 l0 (l0.length : Int) (wrap64 (x11_1 + 1))) = some r := zR
      have Ny331 := Aside0.mk hyy
      clear hyy
      have H' := Aside0.mk H
      clear H
      go_wp2_with (first | ((with_reducible refine gate_builtin (b := .append) (xs := #[.tmp 32,.tmp 33]) rfl ?_);at_builtin;refine Kd.R_append (Kd.int .u8) (w0 := w) w.heap.size rfl (.tmp 32) (.tmp 33) 51 5 (.int .u8 0) 1 rfl Tryd.underlying51 info5 rfl Z145 Z122 u3 x3_2 10 [.int .u8 10] (fun _ => True) (fun _ => False) rfl rfl ?aP (fun _ hk => hk.elim) ?aF ?aO ?aB ?aS ?aL ?_;(case aP => exact rfl);(case aB => exact Z63);(case aF => exact Z114);(case aO => exact Z75);(case aS => exact Z57);(case aL => have := LMc21.out;omega);intro v332 w22 ho hb hg hat;rw [← Ny331.out] at ho;have n_ := jA (hb) (Aside0.mk (ho));clear HB HO_3;obtain ⟨HB,HO333⟩ := n_;clear ho hb hg hat))
      go_roundg k2
      case measure => have := HK1.out;have := HK2.out;omega
      case rel => exact ⟨(y331),(wrap64 (x11_1 + 1)),Z106,H',⟨Z108⟩,⟨by (with_reducible repeat (first | apply Kd.R_alloc | apply Kd.R_drewN | apply Kd.R_drew));exact HO333.out⟩,⟨Z148⟩⟩
     rw [if_pos c7] at H
     have c7b0 : decide (x17_2 < ((rd_L4 l0 x11_1).length : Int)) = true := decide_eq_true c7
     clear c7
     obtain ⟨c8,H⟩ := ifp H
     have c8b0 : decide (0 ≤ x17_2) = true := decide_eq_true c8
     clear c8
     obtain ⟨c9,H⟩ := ifp H
     have c9b0 : decide (x17_2 < ((rd_L4 l0 x11_1).length : Int)) = true := decide_eq_true c9
     clear c9
     by_cases c10 : x17_2 > 0
     rotate_left
     ·rw [if_neg c10] at H
      have c10b0 : decide (0 < x17_2) = false := decide_eq_false c10
      clear c10
      obtain ⟨t327,A170,H⟩ := Option.bind_eq_some_iff.mp H
      have A17 := Aside0.mk A170
      clear A170
      obtain ⟨c18,H⟩ := ifp H
      have LMc18 := Aside0.mk c18
      clear c18
      obtain ⟨y328,hyy⟩ : ∃ y_ : List Int,y_ = (x3_2 ++ bytesOf t327) := ⟨_,rfl⟩
      replace H : (impl_CsvText.l1 k2 y328 l0 (l0.length : Int) x11_1 (rd_L4 l0 x11_1) ((rd_L4 l0 x11_1).length : Int) (wrap64 (x17_2 + 1))) = some r := zR
      have Ny328 := Aside0.mk hyy
      clear hyy
      have H' := Aside0.mk H
      clear H
      have p319 : 0 ≤ (x17_2 : Int) := of_decide_eq_true Z105
      have q319 : x17_2 < ((rd_L4 l0 x11_1).length : Int) := of_decide_eq_true Z105
      obtain ⟨ad319,e319,hx319_0⟩ := Kd.at_string HR318_0.out x17_2 p319 q319
      cases e319
      replace hx319_0 := (HB.out.cell (World.block_lt_of_cell? w _ hx319_0)).trans hx319_0
      replace p319 := eq_true p319
      replace q319 := eq_true q319
      go_wp2_with (first | ((with_reducible refine gate_callee (f := 40) rfl ?_);refine goesL_ (some 29) rfl rfl Tryd.func40 Z121 rfl #[.string (rdOf ByteArray.empty (rd_L4 l0 x11_1) x17_2)] rfl Z66 ?_;(with_reducible refine (impl_CsvField.calls (rdOf ByteArray.empty (rd_L4 l0 x11_1) x17_2) t327 _ A17.out).mono ?_);rintro e w19 ⟨rfl,hb⟩;refine ⟨_,rfl,?_⟩;have n_ := Z29;clear HO_3 HB;obtain ⟨HO_3,HB⟩ := n_;(try clear hb);(try clear hb2);(try clear hk);(try clear hi)) | (at_builtin;refine print_append_str (w0 := w) w.heap.size rfl (.tmp 27) _ 51 9 5 rfl Tryd.underlying51 Tryd.underlying9 info5 u3 x3_2 t327 rfl rfl ?aO ?aB ?aS ?aL ?_;(case aB => exact Z63);(case aO => exact Z72);(case aS => exact Z57);(case aL => have := LMc18.out;omega);intro v329 w20 ho0 hb hg;have ho := Kd.R_of_own (h1 := fun _ => rfl) (ok := fun _ => True) ho0 (fun _ _ => trivial);clear ho0;have hat := True.intro;rw [← Ny328.out] at ho;change Kd.R (Kd.int .u8) 5 w20 w.heap.size (fun _ => True) v329 y328 at ho;have n_ := jA (hb) (Aside0.mk (ho));clear HB HO_3;obtain ⟨HB,HO330⟩ := n_;clear ho hb hg hat))
      go_roundg k2
      case measure => have := HK1.out;have := HK2.out;omega
      case rel => exact ⟨(y328),(wrap64 (x17_2 + 1)),Z106,H',⟨Z108⟩,⟨by (with_reducible repeat (first | apply Kd.R_alloc | apply Kd.R_drewN | apply Kd.R_drew));exact HO330.out⟩,⟨Z148⟩⟩
     rw [if_pos c10] at H
     have c10b0 : decide (0 < x17_2) = true := decide_eq_true c10
     clear c10
     obtain ⟨c11,H⟩ := ifp H
     have LMc11 := Aside0.mk c11
     clear c11
     obtain ⟨y320,hyy⟩ : ∃ y_ : List Int,y_ = (x3_2 ++ [44]) := ⟨_,rfl⟩
     replace H : ((impl_CsvField.f (rdOf ByteArray.empty (rd_L4 l0 x11_1) x17_2)).bind fun t323 => (if y320.length + t323.size < 140737488355328 then (impl_CsvText.l1 k2 (y320 ++ bytesOf t323) l0 (l0.length : Int) x11_1 (rd_L4 l0 x11_1) ((rd_L4 l0 x11_1).length : Int) (wrap64 (x17_2 + 1))) else (none))) = some r := zR
     have Ny320 := Aside0.mk hyy
     clear hyy
     obtain ⟨t323,A120,H⟩ := Option.bind_eq_some_iff.mp H
     have A12 := Aside0.mk A120
     clear A120
     obtain ⟨c13,H⟩ := ifp H
     have LMc13 := Aside0.mk c13
     clear c13
     obtain ⟨y324,hyy⟩ : ∃ y_ : List Int,y_ = (y320 ++ bytesOf t323) := ⟨_,rfl⟩
     replace H : (impl_CsvText.l1 k2 y324 l0 (l0.length : Int) x11_1 (rd_L4 l0 x11_1) ((rd_L4 l0 x11_1).length : Int) (wrap64 (x17_2 + 1))) = some r := zR
     have Ny324 := Aside0.mk hyy
     clear hyy
     have H' := Aside0.mk H
     clear H
     have p319 : 0 ≤ (x17_2 : Int) := of_decide_eq_true Z105
     have q319 : x17_2 < ((rd_L4 l0 x11_1).length : Int) := of_decide_eq_true Z105
     obtain ⟨ad319,e319,hx319_0⟩ := Kd.at_string HR318_0.out x17_2 p319 q319
     cases e319
     replace hx319_0 := (HB.out.cell (World.block_lt_of_cell? w _ hx319_0)).trans hx319_0
     replace p319 := eq_true p319
     replace q319 := eq_true q319
     go_wp2_with (first | ((with_reducible refine gate_builtin (b := .append) (xs := #[.tmp 24,.tmp 25]) rfl ?_);at_builtin;refine Kd.R_append (Kd.int .u8) (w0 := w) w.heap.size rfl (.tmp 24) (.tmp 25) 51 5 (.int .u8 0) 1 rfl Tryd.underlying51 info5 rfl Z145 Z122 u3 x3_2 44 [.int .u8 44] (fun _ => True) (fun _ => False) rfl rfl ?aP (fun _ hk => hk.elim) ?aF ?aO ?aB ?aS ?aL ?_;(case aP => exact rfl);(case aB => exact Z63);(case aF => exact Z114);(case aO => exact Z75);(case aS => exact Z57);(case aL => have := LMc11.out;omega);intro v321 w14 ho hb hg hat;rw [← Ny320.out] at ho;have n_ := jA (hb) (Aside0.mk (ho));clear HB HO_3;obtain ⟨HB,HO322⟩ := n_;clear ho hb hg hat) | ((with_reducible refine gate_callee (f := 40) rfl ?_);refine goesL_ (some 29) rfl rfl Tryd.func40 Z121 rfl #[.string (rdOf ByteArray.empty (rd_L4 l0 x11_1) x17_2)] rfl Z66 ?_;(with_reducible refine (impl_CsvField.calls (rdOf ByteArray.empty (rd_L4 l0 x11_1) x17_2) t323 _ A12.out).mono ?_);rintro e w15 ⟨rfl,hb⟩;refine ⟨_,rfl,?_⟩;have n_ := jA (Kd.R_below Z89 hb) (Aside0.mk (below_step Z148 hb));clear HO322 HB;obtain ⟨HO322,HB⟩ := n_;(try clear hb);(try clear hb2);(try clear hk);(try clear hi)) | (at_builtin;refine print_append_str (w0 := w) w.heap.size rfl (.tmp 27) _ 51 9 5 rfl Tryd.underlying51 Tryd.underlying9 info5 v321 y320 t323 rfl rfl ?aO ?aB ?aS ?aL ?_;(case aB => exact Z63);(case aO => exact (Kd.own_of_R Z89));(case aS => exact Z57);(case aL => have := LMc13.out;omega);intro v325 w16 ho0 hb hg;have ho := Kd.R_of_own (h1 := fun _ => rfl) (ok := fun _ => True) ho0 (fun _ _ => trivial);clear ho0;have hat := True.intro;rw [← Ny324.out] at ho;change Kd.R (Kd.int .u8) 5 w16 w.heap.size (fun _ => True) v325 y324 at ho;have n_ := jA (hb) (Aside0.mk (ho));clear HB HO322;obtain ⟨HB,HO326⟩ := n_;clear ho hb hg hat))
     go_roundg k2
     case measure => have := HK1.out;have := HK2.out;omega
     case rel => exact ⟨(y324),(wrap64 (x17_2 + 1)),Z106,H',⟨Z108⟩,⟨by (with_reducible repeat (first | apply Kd.R_alloc | apply Kd.R_drewN | apply Kd.R_drew));exact HO326.out⟩,⟨Z148⟩⟩

end Go.Proofs.YtepnbcdbagjmbabDoor.QFnExactTableText
