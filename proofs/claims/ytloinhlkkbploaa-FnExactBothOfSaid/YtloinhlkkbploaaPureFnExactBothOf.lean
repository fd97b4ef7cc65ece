/- impl.BothOf returns what spec.BothOf returns, for all arguments. Conditions: none but the row's own.
-/
import Derived.Test.YtloinhlkkbploaaQFnExactBothOfx1
set_option linter.unusedVariables false
set_option linter.unusedSimpArgs false
namespace Go.Proofs.Ytloinhlkkbploaa.Pure
open Go.RowKit Go.Proofs.Ytloinhlkkbploaa.QFnExactBothOf Go.Proofs.YtloinhlkkbploaaW.PrintWords Go.Proofs.YtloinhlkkbploaaW.PrintLast Go.Proofs.YtloinhlkkbploaaW.PrintMore

theorem w64 {x : Int} (h1 : -9223372036854775808 ≤ x) (h2 : x ≤ 9223372036854775807) : wrap64 x = x := by unfold wrap64; omega
theorem i64_wf {x : Int} (h : (Lit.int .i64 x).wf = true) : -9223372036854775808 ≤ x ∧ x ≤ 9223372036854775807 := by
  simpa [Lit.wf, IntKind.min, IntKind.max, IntKind.signed, IntKind.bits] using h
theorem u8_wf {x : Int} (h : (Lit.int .u8 x).wf = true) : 0 ≤ x ∧ x ≤ 255 := by
  simpa [Lit.wf, IntKind.min, IntKind.max, IntKind.signed, IntKind.bits] using h
theorem rd_eq {xs : List Int} {i : Int} (h0 : 0 ≤ i) (h : i < (xs.length : Int)) : xs[i.toNat]? = some (rd xs i) := by
  unfold rd
  rw [List.getD_eq_getElem?_getD, List.getElem?_eq_getElem (by omega)]
  rfl
theorem rd_mem {xs : List Int} {i : Int} (h0 : 0 ≤ i) (h : i < (xs.length : Int)) : rd xs i ∈ xs := List.mem_of_getElem? (rd_eq h0 h)
theorem rd_of {xs : List Int} {n : Nat} {v : Int} (h : xs[n]? = some v) : rd xs (n : Int) = v := by
  unfold rd
  rw [List.getD_eq_getElem?_getD, Int.toNat_natCast, h]
  rfl
theorem ev_of {α : Type} {r : α} {p : Option α} (h : p = some r) : Ev (fun _ => p) r := ⟨0, fun _ _ => h⟩
theorem ev_end {α : Type} {g : Nat → Option α} {r : α} (h : ∀ k, g (k + 1) = some r) : Ev g r := Ev.step (f := fun _ => some r) h (Ev.now r)
theorem ev_pos {α : Type} {c : Prop} [Decidable c] {f g : Nat → Option α} {r : α} (hc : c) (h : Ev f r) : Ev (fun k => if c then f k else g k) r := Ev.congr (fun _ => if_pos hc) h
theorem ev_neg {α : Type} {c : Prop} [Decidable c] {f g : Nat → Option α} {r : α} (hc : ¬ c) (h : Ev g r) : Ev (fun k => if c then f k else g k) r := Ev.congr (fun _ => if_neg hc) h
theorem rd_drop {xs : List Int} {n : Nat} (h : n < xs.length) : xs.drop n = rd xs (n : Int) :: xs.drop (n + 1) := by
  rw [List.drop_eq_getElem_cons h]
  congr 1
  unfold rd
  rw [List.getD_eq_getElem?_getD, Int.toNat_natCast, List.getElem?_eq_getElem h]
  rfl
noncomputable def dec (p : Prop) : Bool := @decide p (Classical.propDecidable p)
theorem dec_true {p : Prop} (h : p) : dec p = true := @decide_eq_true p (Classical.propDecidable p) h
theorem dec_false {p : Prop} (h : ¬ p) : dec p = false := @decide_eq_false p (Classical.propDecidable p) h
theorem dec_iff {p : Prop} : dec p = true ↔ p := @decide_eq_true_iff p (Classical.propDecidable p)
theorem dec_congr {p q : Prop} (h : p ↔ q) : dec p = dec q := by rw [propext h]
theorem dec_eq {p : Prop} [Decidable p] : dec p = decide p := by
  by_cases h : p
  · rw [dec_true h, decide_eq_true h]
  · rw [dec_false h, decide_eq_false h]
/-- The sum and true; 0 and false where it has no room. -/
def addI (a b : Int) : Int × Bool := if -9223372036854775808 ≤ a + b ∧ a + b ≤ 9223372036854775807 then (a + b, true) else (0, false)
def subI (a b : Int) : Int × Bool := if -9223372036854775808 ≤ a - b ∧ a - b ≤ 9223372036854775807 then (a - b, true) else (0, false)
def I64 (a : Int) : Prop := -9223372036854775808 ≤ a ∧ a ≤ 9223372036854775807
theorem addI_i64 (a b : Int) : I64 (addI a b).1 := by
  unfold addI I64
  split
  · assumption
  · exact ⟨by decide, by decide⟩
theorem subI_i64 (a b : Int) : I64 (subI a b).1 := by
  unfold subI I64
  split
  · assumption
  · exact ⟨by decide, by decide⟩
theorem wrap_over {x : Int} (h1 : 9223372036854775807 < x) (h2 : x < 27670116110564327424) : wrap64 x = x - 18446744073709551616 := by unfold wrap64; omega
theorem wrap_under {x : Int} (h1 : x < -9223372036854775808) (h2 : -27670116110564327424 ≤ x) : wrap64 x = x + 18446744073709551616 := by unfold wrap64; omega
/-- Two slots together. -/
def plusS (n g n' g' : Int) : Int × Int × Bool := if (addI n n').2 = true ∧ (addI g g').2 = true then ((addI n n').1, (addI g g').1, true) else (0, 0, false)
theorem plusS_i64 (n g n' g' : Int) : I64 (plusS n g n' g').1 ∧ I64 (plusS n g n' g').2.1 := by
  unfold plusS
  split
  · exact ⟨addI_i64 _ _, addI_i64 _ _⟩
  · exact ⟨⟨by decide, by decide⟩, ⟨by decide, by decide⟩⟩
theorem specAddInt {a b : Int} (ha : I64 a) (hb : I64 b) : spec_AddInt.f a b = some (addI a b) := by
  unfold I64 at ha hb
  unfold spec_AddInt.f addI
  by_cases h1 : b > 0
  · rw [if_pos h1, w64 (x := 9223372036854775807 - b) (by omega) (by omega)]
    by_cases h2 : a > 9223372036854775807 - b
    · rw [if_pos h2, if_neg (by omega)]
    · rw [if_neg h2, if_neg (by omega), if_pos (by omega), w64 (by omega) (by omega)]
  · rw [if_neg h1]
    by_cases h2 : b < 0
    · rw [if_pos h2, w64 (x := -9223372036854775808 - b) (by omega) (by omega)]
      by_cases h3 : a < -9223372036854775808 - b
      · rw [if_pos h3, if_neg (by omega)]
      · rw [if_neg h3, if_pos (by omega), w64 (by omega) (by omega)]
    · rw [if_neg h2, if_pos (by omega), w64 (by omega) (by omega)]
theorem specAdd13 {n g n' g' : Int} (h1 : I64 n) (h2 : I64 g) (h3 : I64 n') (h4 : I64 g') : spec_l13Add.f n g n' g' = some (plusS n g n' g') := by
  unfold spec_l13Add.f plusS
  simp only [specAddInt h1 h3, specAddInt h2 h4, Option.bind_some]
  by_cases a : (addI n n').2 = true
  · by_cases b : (addI g g').2 = true
    · rw [if_pos a, if_pos b, if_pos ⟨a, b⟩]
    · rw [if_pos a, if_neg b, if_neg (fun z => b z.2)]
  · rw [if_neg a, if_neg (fun z => a z.1)]
theorem implAddInt {a b : Int} (ha : I64 a) (hb : I64 b) : impl_AddInt.f a b = some (addI a b) := by
  unfold I64 at ha hb
  unfold impl_AddInt.f addI
  by_cases h : -9223372036854775808 ≤ a + b ∧ a + b ≤ 9223372036854775807
  · rw [if_pos h, w64 h.1 h.2]
    split
    · rename_i h1
      rw [if_neg]
      simp only [beq_iff_eq, decide_eq_decide] at h1
      simp only [bne_iff_ne, ne_eq, decide_eq_decide, Decidable.not_not]
      omega
    · rfl
  · rw [if_neg h]
    have h2 : a + b < -9223372036854775808 ∨ 9223372036854775807 < a + b := by omega
    rw [if_pos (by simp only [beq_iff_eq, decide_eq_decide]; omega)]
    rcases h2 with h2 | h2
    · rw [wrap_under h2 (by omega), if_pos]
      simp only [bne_iff_ne, ne_eq, decide_eq_decide]
      omega
    · rw [wrap_over h2 (by omega), if_pos]
      simp only [bne_iff_ne, ne_eq, decide_eq_decide]
      omega
theorem implPlus {n g n' g' : Int} (h1 : I64 n) (h2 : I64 g) (h3 : I64 n') (h4 : I64 g') : impl_Slot_plus.f n g n' g' = some (plusS n g n' g') := by
  unfold impl_Slot_plus.f plusS
  simp only [implAddInt h1 h3, implAddInt h2 h4, Option.bind_some]
  by_cases a : (addI n n').2 = true
  · by_cases b : (addI g g').2 = true
    · rw [if_pos a, if_pos b, if_pos ⟨a, b⟩]
    · rw [if_pos a, if_neg b, if_neg (fun z => b z.2)]
  · rw [if_neg a, if_neg (fun z => a z.1)]

theorem FnExactBothOf (a0_0 : Int) (a0_1 : Int) (a0_2 : Int) (a0_3 : Int) (a0_4 : Int) (a0_5 : Int)
    (w0_0 : (Lit.int .i64 a0_0).wf = true) (w0_1 : (Lit.int .i64 a0_1).wf = true) (w0_2 : (Lit.int .i64 a0_2).wf = true) (w0_3 : (Lit.int .i64 a0_3).wf = true) (w0_4 : (Lit.int .i64 a0_4).wf = true) (w0_5 : (Lit.int .i64 a0_5).wf = true) : laws_FnExactBothOf.f a0_0 a0_1 a0_2 a0_3 a0_4 a0_5 = some true := by
  have h2 := i64_wf w0_2
  have h3 := i64_wf w0_3
  have h4 := i64_wf w0_4
  have h5 := i64_wf w0_5
  unfold laws_FnExactBothOf.f laws_toCand.f laws_toSlot.f spec_BothOf.f impl_BothOf.f laws_eqSlot.f
  simp [specAdd13 h2 h3 h4 h5, implPlus h2 h3 h4 h5]

end Go.Proofs.Ytloinhlkkbploaa.Pure
