/- impl.SidesOf returns what spec.SidesOf returns, for all arguments. Conditions: none but the row's own.
-/
import Derived.Test.YtloinhlkkbploaaQFnExactSidesOfx5
set_option linter.unusedVariables false
set_option linter.unusedSimpArgs false
namespace Go.Proofs.Ytloinhlkkbploaa.Pure
open Go.RowKit Go.Proofs.Ytloinhlkkbploaa.QFnExactSidesOf Go.Proofs.YtloinhlkkbploaaW.PrintWords Go.Proofs.YtloinhlkkbploaaW.PrintLast Go.Proofs.YtloinhlkkbploaaW.PrintMore

theorem w64 {x : Int} (h1 : -9223372036854775808 ≤ x) (h2 : x ≤ 9223372036854775807) : wrap64 x = x := by unfold wrap64; omega
theorem i64_wf {x : Int} (h : (Lit.int .i64 x).wf = true) : -9223372036854775808 ≤ x ∧ x ≤ 9223372036854775807 := by
  simpa [Lit.wf, IntKind.min, IntKind.max, IntKind.signed, IntKind.bits] using h
theorem u8_wf {x : Int} (h : (Lit.int .u8 x).wf = true) : 0 ≤ x ∧ x ≤ 255 := by
  simpa [Lit.wf, IntKind.min, IntKind.max, IntKind.signed, IntKind.bits] using h
theorem rd_eq {xs : List Int} {i : Int} (h0 : 0 ≤ i) (h : i < (xs.length : Int)) : xs[i.toNat]? = some (rd xs i) := by
  unfold rd
  rw [List.getD_eq_getElem?_getD, List.getElem?_eq_getElem (by omega)]
  rfl
theorem rd_mem {xs : List Int} {i : Int} (h0 : 0 ≤ i) (h : i < (xs.length : Int)) : rd xs i ∈ xs := List.mem_of_getElem? (rd_eq h0 h)
theorem rd_of {xs : List Int} {n : Nat} {v : Int} (h : xs[n]? = some v) : rd xs (n : Int) = v := by
  unfold rd
  rw [List.getD_eq_getElem?_getD, Int.toNat_natCast, h]
  rfl
theorem ev_of {α : Type} {r : α} {p : Option α} (h : p = some r) : Ev (fun _ => p) r := ⟨0, fun _ _ => h⟩
theorem ev_end {α : Type} {g : Nat → Option α} {r : α} (h : ∀ k, g (k + 1) = some r) : Ev g r := Ev.step (f := fun _ => some r) h (Ev.now r)
theorem ev_pos {α : Type} {c : Prop} [Decidable c] {f g : Nat → Option α} {r : α} (hc : c) (h : Ev f r) : Ev (fun k => if c then f k else g k) r := Ev.congr (fun _ => if_pos hc) h
theorem ev_neg {α : Type} {c : Prop} [Decidable c] {f g : Nat → Option α} {r : α} (hc : ¬ c) (h : Ev g r) : Ev (fun k => if c then f k else g k) r := Ev.congr (fun _ => if_neg hc) h
theorem rd_drop {xs : List Int} {n : Nat} (h : n < xs.length) : xs.drop n = rd xs (n : Int) :: xs.drop (n + 1) := by
  rw [List.drop_eq_getElem_cons h]
  congr 1
  unfold rd
  rw [List.getD_eq_getElem?_getD, Int.toNat_natCast, List.getElem?_eq_getElem h]
  rfl
noncomputable def dec (p : Prop) : Bool := @decide p (Classical.propDecidable p)
theorem dec_true {p : Prop} (h : p) : dec p = true := @decide_eq_true p (Classical.propDecidable p) h
theorem dec_false {p : Prop} (h : ¬ p) : dec p = false := @decide_eq_false p (Classical.propDecidable p) h
theorem dec_iff {p : Prop} : dec p = true ↔ p := @decide_eq_true_iff p (Classical.propDecidable p)
theorem dec_congr {p q : Prop} (h : p ↔ q) : dec p = dec q := by rw [propext h]
theorem dec_eq {p : Prop} [Decidable p] : dec p = decide p := by
  by_cases h : p
  · rw [dec_true h, decide_eq_true h]
  · rw [dec_false h, decide_eq_false h]
def brought (x a b : Int) : Int := if x < a then a else if x > b then b else x
/-- The sum and true; 0 and false where it has no room. -/
def addI (a b : Int) : Int × Bool := if -9223372036854775808 ≤ a + b ∧ a + b ≤ 9223372036854775807 then (a + b, true) else (0, false)
def subI (a b : Int) : Int × Bool := if -9223372036854775808 ≤ a - b ∧ a - b ≤ 9223372036854775807 then (a - b, true) else (0, false)
def I64 (a : Int) : Prop := -9223372036854775808 ≤ a ∧ a ≤ 9223372036854775807
theorem addI_i64 (a b : Int) : I64 (addI a b).1 := by
  unfold addI I64
  split
  · assumption
  · exact ⟨by decide, by decide⟩
theorem subI_i64 (a b : Int) : I64 (subI a b).1 := by
  unfold subI I64
  split
  · assumption
  · exact ⟨by decide, by decide⟩
theorem wrap_over {x : Int} (h1 : 9223372036854775807 < x) (h2 : x < 27670116110564327424) : wrap64 x = x - 18446744073709551616 := by unfold wrap64; omega
theorem wrap_under {x : Int} (h1 : x < -9223372036854775808) (h2 : -27670116110564327424 ≤ x) : wrap64 x = x + 18446744073709551616 := by unfold wrap64; omega
theorem nat_add_bits (a b : Nat) : a + b = 2 * (a &&& b) + (a ^^^ b) := by
  induction a using Nat.strongRecOn generalizing b with
  | ind a ih =>
    by_cases h : a = 0
    · subst h; simp
    · have e := ih (a / 2) (by omega) (b / 2)
      have h1 : (a &&& b) / 2 = a / 2 &&& b / 2 := Nat.and_div_two
      have h2 : (a ^^^ b) / 2 = a / 2 ^^^ b / 2 := Nat.xor_div_two
      have h3 : (a &&& b) % 2 = 1 ↔ a % 2 = 1 ∧ b % 2 = 1 := Nat.and_mod_two_eq_one
      have h4 : (a ^^^ b) % 2 = 1 ↔ ¬ (a % 2 = 1 ↔ b % 2 = 1) := Nat.xor_mod_two_eq_one
      rw [← h1, ← h2] at e
      by_cases p : a % 2 = 1 <;> by_cases q : b % 2 = 1 <;> simp only [p, q, true_iff, iff_true, iff_false, false_iff, not_true, not_false_eq_true, and_self, and_true, true_and, and_false, false_and] at h3 h4 <;> omega
theorem bv_add_bits (x y : BitVec 64) : x.toInt + y.toInt = 2 * (x &&& y).toInt + (x ^^^ y).toInt := by
  have h := nat_add_bits x.toNat y.toNat
  rw [BitVec.toInt_eq_msb_cond, BitVec.toInt_eq_msb_cond, BitVec.toInt_eq_msb_cond, BitVec.toInt_eq_msb_cond, BitVec.msb_and, BitVec.msb_xor, BitVec.toNat_and, BitVec.toNat_xor]
  have e : ((2 ^ 64 : Nat) : Int) = 18446744073709551616 := by decide
  rw [e]
  cases x.msb <;> cases y.msb <;> simp <;> omega
theorem wrap_bv (x : BitVec 64) : IntKind.i64.wrap (x.toNat : Int) = x.toInt := by
  rw [IntKind.wrap_i64, BitVec.toInt_eq_toNat_cond]
  have := x.isLt
  split <;> omega
theorem toInt_of {a : Int} (h : I64 a) : (BitVec.ofInt 64 a).toInt = a := by
  unfold I64 at h
  rw [BitVec.toInt_ofInt, Int.bmod_def]
  omega
theorem and_i64 (a b : Int) : Go.bits .and .i64 a b = (BitVec.ofInt 64 a &&& BitVec.ofInt 64 b).toInt := by
  rw [← wrap_bv]; rfl
theorem xor_i64 (a b : Int) : Go.bits .xor .i64 a b = (BitVec.ofInt 64 a ^^^ BitVec.ofInt 64 b).toInt := by
  rw [← wrap_bv]; rfl
theorem add_bits {a b : Int} (ha : I64 a) (hb : I64 b) : a + b = 2 * Go.bits .and .i64 a b + Go.bits .xor .i64 a b := by
  rw [and_i64, xor_i64, ← bv_add_bits, toInt_of ha, toInt_of hb]
theorem toInt_i64 (x : BitVec 64) : I64 x.toInt := by
  have h1 := BitVec.toInt_lt (x := x)
  have h2 := BitVec.le_toInt (x := x)
  unfold I64
  simp only [Nat.reduceSub, Int.reducePow] at h1 h2
  omega
theorem and_range (a b : Int) : I64 (Go.bits .and .i64 a b) := by rw [and_i64]; exact toInt_i64 _
theorem xor_range (a b : Int) : I64 (Go.bits .xor .i64 a b) := by rw [xor_i64]; exact toInt_i64 _
theorem bv_mod2 (x : BitVec 64) : x.toInt % 2 = ((x.toNat % 2 : Nat) : Int) := by
  rw [BitVec.toInt_eq_toNat_cond]
  split <;> omega
theorem and_mod2 {a b : Int} (ha : I64 a) (hb : I64 b) : Go.bits .and .i64 a b % 2 = if a % 2 = 1 ∧ b % 2 = 1 then 1 else 0 := by
  have e1 := bv_mod2 (BitVec.ofInt 64 a)
  have e2 := bv_mod2 (BitVec.ofInt 64 b)
  rw [toInt_of ha] at e1
  rw [toInt_of hb] at e2
  rw [and_i64, bv_mod2, BitVec.toNat_and]
  have h3 : ((BitVec.ofInt 64 a).toNat &&& (BitVec.ofInt 64 b).toNat) % 2 = 1 ↔ (BitVec.ofInt 64 a).toNat % 2 = 1 ∧ (BitVec.ofInt 64 b).toNat % 2 = 1 := Nat.and_mod_two_eq_one
  split
  · rename_i h
    have := h3.2 ⟨by omega, by omega⟩
    omega
  · rename_i h
    have h5 : ¬ ((BitVec.ofInt 64 a).toNat % 2 = 1 ∧ (BitVec.ofInt 64 b).toNat % 2 = 1) := fun z => h ⟨by omega, by omega⟩
    rw [← h3] at h5
    omega
theorem and_one {a : Int} (ha : I64 a) : Go.bits .and .i64 a 1 = a % 2 := by
  have h1 := and_mod2 ha (b := 1) ⟨by decide, by decide⟩
  have h2 := add_bits ha (b := 1) ⟨by decide, by decide⟩
  have e : Go.bits .and .i64 a 1 = 0 ∨ Go.bits .and .i64 a 1 = 1 := by
    rw [and_i64]
    have h : (BitVec.ofInt 64 a &&& BitVec.ofInt 64 1).toNat ≤ 1 := by
      rw [BitVec.toNat_and]
      exact Nat.le_trans Nat.and_le_right (by decide)
    rw [BitVec.toInt_eq_toNat_cond]
    split <;> omega
  split at h1 <;> omega
/-- Half of a sum, rounded down. -/
def half (a b : Int) : Int := (a + b) / 2
theorem half_i64 {a b : Int} (ha : I64 a) (hb : I64 b) : I64 (half a b) := by unfold I64 half at *; omega
def BndOk (a b : Int) : Prop := a ≤ b ∧ (-1099511627776 ≤ a ∧ a ≤ 1099511627776) ∧ (-1099511627776 ≤ b ∧ b ≤ 1099511627776)
open Classical in
/-- The bounds of both sides. -/
noncomputable def sides (s a b x y : Int) : Int × Int × Int × Int :=
  if BndOk a b ∧ s = 1 then (a, brought (half x y) a b, brought (half x y) a b, b) else if BndOk a b ∧ s = -1 then (brought (half x y) a b, b, a, brought (half x y) a b) else (a, b, a, b)
theorem implHalf {a b : Int} (ha : I64 a) (hb : I64 b) : impl_HalfSum.f a b = some (half a b) := by
  unfold impl_HalfSum.f half
  rw [and_one (and_range a b), and_mod2 ha hb]
  unfold I64 at ha hb
  rw [w64 (x := a / 2 + b / 2) (by omega) (by omega)]
  congr 1
  split
  · rw [w64 (by omega) (by omega)]; omega
  · rw [w64 (by omega) (by omega)]; omega
theorem implBrought (x a b : Int) : impl_Brought.f x a b = some (brought x a b) := by
  unfold impl_Brought.f brought
  split
  · rfl
  · split <;> rfl
theorem implWithin (a b c : Int) : impl_within.f a b c = some (decide (b ≤ a ∧ a ≤ c)) := by
  unfold impl_within.f
  by_cases h : b ≤ a
  · rw [if_pos h]; simp [h]
  · rw [if_neg h]; simp [h]
theorem implBoundOk (a b : Int) : impl_BoundOk.f a b = some (dec (BndOk a b)) := by
  unfold impl_BoundOk.f impl_isLeafValue.f
  simp only [implWithin, Option.bind_some]
  by_cases h1 : a ≤ b
  · rw [if_pos h1]
    by_cases h2 : -1099511627776 ≤ a ∧ a ≤ 1099511627776
    · rw [if_pos (by simpa using h2), ← dec_eq]
      congr 1
      exact dec_congr ⟨fun g => ⟨h1, h2, g⟩, fun g => g.2.2⟩
    · rw [if_neg (by simpa using h2), dec_false]
      exact fun g => h2 g.2.1
  · rw [if_neg h1, dec_false]
    exact fun g => h1 g.1
theorem implSides (s a b : Int) {x y : Int} (hx : I64 x) (hy : I64 y) : impl_SidesOf.f s a b x y = some (sides s a b x y) := by
  unfold impl_SidesOf.f sides
  simp only [implHalf hx hy, implBrought, implBoundOk, Option.bind_some]
  by_cases h : BndOk a b
  · rw [dec_true h]
    by_cases h1 : s = 1
    · simp [h, h1]
    · by_cases h2 : s = -1
      · simp [h, h2]
      · simp [h, h1, h2]
  · rw [dec_false h]
    simp [h]
theorem specHalf {a b : Int} (ha : I64 a) (hb : I64 b) : spec_HalfSum.f a b = some (half a b) := by
  unfold spec_HalfSum.f half
  have h := add_bits ha hb
  unfold I64 at ha hb
  rw [w64 (by omega) (by omega)]
  congr 1
  omega
theorem specBrought (x a b : Int) : spec_Brought.f x a b = some (brought x a b) := by
  unfold spec_Brought.f brought
  split
  · rfl
  · split <;> rfl
theorem specIn (a b c : Int) : spec_l1In.f a b c = some (decide (b ≤ a ∧ a ≤ c)) := by
  unfold spec_l1In.f
  by_cases h : b ≤ a
  · rw [if_pos h]; simp [h]
  · rw [if_neg h]; simp [h]
theorem specBoundOk (a b : Int) : spec_BoundOk.f a b = some (dec (BndOk a b)) := by
  unfold spec_BoundOk.f spec_l14Leaf.f
  simp only [specIn, Option.bind_some]
  by_cases h1 : a ≤ b
  · rw [if_pos h1]
    by_cases h2 : -1099511627776 ≤ a ∧ a ≤ 1099511627776
    · rw [if_pos (by simpa using h2), ← dec_eq]
      congr 1
      exact dec_congr ⟨fun g => ⟨h1, h2, g⟩, fun g => g.2.2⟩
    · rw [if_neg (by simpa using h2), dec_false]
      exact fun g => h2 g.2.1
  · rw [if_neg h1, dec_false]
    exact fun g => h1 g.1
theorem specSides (s a b : Int) {x y : Int} (hx : I64 x) (hy : I64 y) : spec_SidesOf.f s a b x y = some (sides s a b x y) := by
  unfold spec_SidesOf.f sides
  simp only [specHalf hx hy, specBrought, specBoundOk, Option.bind_some]
  by_cases h : BndOk a b
  · rw [dec_true h]
    by_cases h1 : s = 1
    · simp [h, h1]
    · by_cases h2 : s = -1
      · simp [h, h2]
      · simp [h, h1, h2]
  · rw [dec_false h]
    simp [h]

theorem FnExactSidesOf (a0 : Int) (a1_0 : Int) (a1_1 : Int) (a2 : Int) (a3 : Int)
    (w0 : (Lit.int .i64 a0).wf = true) (w1_0 : (Lit.int .i64 a1_0).wf = true) (w1_1 : (Lit.int .i64 a1_1).wf = true) (w2 : (Lit.int .i64 a2).wf = true) (w3 : (Lit.int .i64 a3).wf = true) : laws_FnExactSidesOf.f a0 a1_0 a1_1 a2 a3 = some true := by
  have h2 := i64_wf w2
  have h3 := i64_wf w3
  unfold laws_FnExactSidesOf.f laws_toBound.f laws_eqBound.f
  simp [specSides a0 a1_0 a1_1 h2 h3, implSides a0 a1_0 a1_1 h2 h3]

end Go.Proofs.Ytloinhlkkbploaa.Pure
