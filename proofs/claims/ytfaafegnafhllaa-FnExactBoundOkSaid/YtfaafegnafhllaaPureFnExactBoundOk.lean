/- impl.BoundOk returns what spec.BoundOk returns, for all arguments. Conditions: none but the row's own.
-/
import Derived.Test.YtfaafegnafhllaaQFnExactBoundOkx1
set_option linter.unusedVariables false
set_option linter.unusedSimpArgs false
namespace Go.Proofs.Ytfaafegnafhllaa.Pure
open Go.RowKit Go.Proofs.Ytfaafegnafhllaa.QFnExactBoundOk Go.Proofs.YtfaafegnafhllaaW.PrintWords Go.Proofs.YtfaafegnafhllaaW.PrintLast Go.Proofs.YtfaafegnafhllaaW.PrintMore

theorem w64 {x : Int} (h1 : -9223372036854775808 ≤ x) (h2 : x ≤ 9223372036854775807) : wrap64 x = x := by unfold wrap64; omega
theorem i64_wf {x : Int} (h : (Lit.int .i64 x).wf = true) : -9223372036854775808 ≤ x ∧ x ≤ 9223372036854775807 := by
  simpa [Lit.wf, IntKind.min, IntKind.max, IntKind.signed, IntKind.bits] using h
theorem u8_wf {x : Int} (h : (Lit.int .u8 x).wf = true) : 0 ≤ x ∧ x ≤ 255 := by
  simpa [Lit.wf, IntKind.min, IntKind.max, IntKind.signed, IntKind.bits] using h
theorem rd_eq {xs : List Int} {i : Int} (h0 : 0 ≤ i) (h : i < (xs.length : Int)) : xs[i.toNat]? = some (rd xs i) := by
  unfold rd
  rw [List.getD_eq_getElem?_getD, List.getElem?_eq_getElem (by omega)]
  rfl
theorem rd_mem {xs : List Int} {i : Int} (h0 : 0 ≤ i) (h : i < (xs.length : Int)) : rd xs i ∈ xs := List.mem_of_getElem? (rd_eq h0 h)
theorem rd_of {xs : List Int} {n : Nat} {v : Int} (h : xs[n]? = some v) : rd xs (n : Int) = v := by
  unfold rd
  rw [List.getD_eq_getElem?_getD, Int.toNat_natCast, h]
  rfl
theorem ev_of {α : Type} {r : α} {p : Option α} (h : p = some r) : Ev (fun _ => p) r := ⟨0, fun _ _ => h⟩
theorem ev_end {α : Type} {g : Nat → Option α} {r : α} (h : ∀ k, g (k + 1) = some r) : Ev g r := Ev.step (f := fun _ => some r) h (Ev.now r)
theorem ev_pos {α : Type} {c : Prop} [Decidable c] {f g : Nat → Option α} {r : α} (hc : c) (h : Ev f r) : Ev (fun k => if c then f k else g k) r := Ev.congr (fun _ => if_pos hc) h
theorem ev_neg {α : Type} {c : Prop} [Decidable c] {f g : Nat → Option α} {r : α} (hc : ¬ c) (h : Ev g r) : Ev (fun k => if c then f k else g k) r := Ev.congr (fun _ => if_neg hc) h
theorem rd_drop {xs : List Int} {n : Nat} (h : n < xs.length) : xs.drop n = rd xs (n : Int) :: xs.drop (n + 1) := by
  rw [List.drop_eq_getElem_cons h]
  congr 1
  unfold rd
  rw [List.getD_eq_getElem?_getD, Int.toNat_natCast, List.getElem?_eq_getElem h]
  rfl
noncomputable def dec (p : Prop) : Bool := @decide p (Classical.propDecidable p)
theorem dec_true {p : Prop} (h : p) : dec p = true := @decide_eq_true p (Classical.propDecidable p) h
theorem dec_false {p : Prop} (h : ¬ p) : dec p = false := @decide_eq_false p (Classical.propDecidable p) h
theorem dec_iff {p : Prop} : dec p = true ↔ p := @decide_eq_true_iff p (Classical.propDecidable p)
theorem dec_congr {p q : Prop} (h : p ↔ q) : dec p = dec q := by rw [propext h]
theorem dec_eq {p : Prop} [Decidable p] : dec p = decide p := by
  by_cases h : p
  · rw [dec_true h, decide_eq_true h]
  · rw [dec_false h, decide_eq_false h]
theorem specIn (a b c : Int) : spec_l1In.f a b c = some (decide (b ≤ a ∧ a ≤ c)) := by
  unfold spec_l1In.f
  by_cases h : b ≤ a
  · rw [if_pos h]; simp [h]
  · rw [if_neg h]; simp [h]
def BndOk (a b : Int) : Prop := a ≤ b ∧ (-1099511627776 ≤ a ∧ a ≤ 1099511627776) ∧ (-1099511627776 ≤ b ∧ b ≤ 1099511627776)
theorem specBoundOk (a b : Int) : spec_BoundOk.f a b = some (dec (BndOk a b)) := by
  unfold spec_BoundOk.f spec_l14Leaf.f
  simp only [specIn, Option.bind_some]
  by_cases h1 : a ≤ b
  · rw [if_pos h1]
    by_cases h2 : -1099511627776 ≤ a ∧ a ≤ 1099511627776
    · rw [if_pos (by simpa using h2), ← dec_eq]
      congr 1
      exact dec_congr ⟨fun g => ⟨h1, h2, g⟩, fun g => g.2.2⟩
    · rw [if_neg (by simpa using h2), dec_false]
      exact fun g => h2 g.2.1
  · rw [if_neg h1, dec_false]
    exact fun g => h1 g.1
theorem implWithin (a b c : Int) : impl_within.f a b c = some (decide (b ≤ a ∧ a ≤ c)) := by
  unfold impl_within.f
  by_cases h : b ≤ a
  · rw [if_pos h]; simp [h]
  · rw [if_neg h]; simp [h]
theorem implBoundOk (a b : Int) : impl_BoundOk.f a b = some (dec (BndOk a b)) := by
  unfold impl_BoundOk.f impl_isLeafValue.f
  simp only [implWithin, Option.bind_some]
  by_cases h1 : a ≤ b
  · rw [if_pos h1]
    by_cases h2 : -1099511627776 ≤ a ∧ a ≤ 1099511627776
    · rw [if_pos (by simpa using h2), ← dec_eq]
      congr 1
      exact dec_congr ⟨fun g => ⟨h1, h2, g⟩, fun g => g.2.2⟩
    · rw [if_neg (by simpa using h2), dec_false]
      exact fun g => h2 g.2.1
  · rw [if_neg h1, dec_false]
    exact fun g => h1 g.1

theorem FnExactBoundOk (a0_0 : Int) (a0_1 : Int)
    (w0_0 : (Lit.int .i64 a0_0).wf = true) (w0_1 : (Lit.int .i64 a0_1).wf = true) : laws_FnExactBoundOk.f a0_0 a0_1 = some true := by
  simp [laws_FnExactBoundOk.f, laws_toBound.f, specBoundOk, implBoundOk]

end Go.Proofs.Ytfaafegnafhllaa.Pure
