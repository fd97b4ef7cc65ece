/- impl.RowsOk returns what spec.RowsOk returns and leaves its slice as it was, for all arguments. Conditions: none but the row's own.
-/
import Derived.Test.YtfaafegnafhllaaQFnExactRowsOkx1
set_option linter.unusedVariables false
set_option linter.unusedSimpArgs false
namespace Go.Proofs.Ytfaafegnafhllaa.Pure
open Go.RowKit Go.Proofs.Ytfaafegnafhllaa.QFnExactRowsOk Go.Proofs.YtfaafegnafhllaaW.PrintWords Go.Proofs.YtfaafegnafhllaaW.PrintLast Go.Proofs.YtfaafegnafhllaaW.PrintMore

theorem w64 {x : Int} (h1 : -9223372036854775808 ≤ x) (h2 : x ≤ 9223372036854775807) : wrap64 x = x := by unfold wrap64; omega
theorem i64_wf {x : Int} (h : (Lit.int .i64 x).wf = true) : -9223372036854775808 ≤ x ∧ x ≤ 9223372036854775807 := by
  simpa [Lit.wf, IntKind.min, IntKind.max, IntKind.signed, IntKind.bits] using h
theorem u8_wf {x : Int} (h : (Lit.int .u8 x).wf = true) : 0 ≤ x ∧ x ≤ 255 := by
  simpa [Lit.wf, IntKind.min, IntKind.max, IntKind.signed, IntKind.bits] using h
theorem rd_eq {xs : List Int} {i : Int} (h0 : 0 ≤ i) (h : i < (xs.length : Int)) : xs[i.toNat]? = some (rd xs i) := by
  unfold rd
  rw [List.getD_eq_getElem?_getD, List.getElem?_eq_getElem (by omega)]
  rfl
theorem rd_mem {xs : List Int} {i : Int} (h0 : 0 ≤ i) (h : i < (xs.length : Int)) : rd xs i ∈ xs := List.mem_of_getElem? (rd_eq h0 h)
theorem rd_of {xs : List Int} {n : Nat} {v : Int} (h : xs[n]? = some v) : rd xs (n : Int) = v := by
  unfold rd
  rw [List.getD_eq_getElem?_getD, Int.toNat_natCast, h]
  rfl
theorem ev_of {α : Type} {r : α} {p : Option α} (h : p = some r) : Ev (fun _ => p) r := ⟨0, fun _ _ => h⟩
theorem ev_end {α : Type} {g : Nat → Option α} {r : α} (h : ∀ k, g (k + 1) = some r) : Ev g r := Ev.step (f := fun _ => some r) h (Ev.now r)
theorem ev_pos {α : Type} {c : Prop} [Decidable c] {f g : Nat → Option α} {r : α} (hc : c) (h : Ev f r) : Ev (fun k => if c then f k else g k) r := Ev.congr (fun _ => if_pos hc) h
theorem ev_neg {α : Type} {c : Prop} [Decidable c] {f g : Nat → Option α} {r : α} (hc : ¬ c) (h : Ev g r) : Ev (fun k => if c then f k else g k) r := Ev.congr (fun _ => if_neg hc) h
theorem rd_drop {xs : List Int} {n : Nat} (h : n < xs.length) : xs.drop n = rd xs (n : Int) :: xs.drop (n + 1) := by
  rw [List.drop_eq_getElem_cons h]
  congr 1
  unfold rd
  rw [List.getD_eq_getElem?_getD, Int.toNat_natCast, List.getElem?_eq_getElem h]
  rfl
noncomputable def dec (p : Prop) : Bool := @decide p (Classical.propDecidable p)
theorem dec_true {p : Prop} (h : p) : dec p = true := @decide_eq_true p (Classical.propDecidable p) h
theorem dec_false {p : Prop} (h : ¬ p) : dec p = false := @decide_eq_false p (Classical.propDecidable p) h
theorem dec_iff {p : Prop} : dec p = true ↔ p := @decide_eq_true_iff p (Classical.propDecidable p)
theorem dec_congr {p q : Prop} (h : p ↔ q) : dec p = dec q := by rw [propext h]
theorem dec_eq {p : Prop} [Decidable p] : dec p = decide p := by
  by_cases h : p
  · rw [dec_true h, decide_eq_true h]
  · rw [dec_false h, decide_eq_false h]
theorem toIntS_l0 (l : List Int) (hl : l.length ≤ 35184372088832) : ∀ (d n : Nat) (acc : List Int), n + d = l.length → acc.length = l.length → (∀ j, j < n → acc[j]? = l[j]?) → Ev (fun k => laws_toIntS.l0 k l acc (n : Int)) l := by
  intro d
  induction d with
  | zero =>
    intro n acc hn ha hp
    refine ev_end fun k => ?_
    simp only [laws_toIntS.l0]
    rw [if_neg (by omega)]
    congr 1
    exact List.ext_getElem? fun j => by
      by_cases h : j < n
      · exact hp j h
      · rw [List.getElem?_eq_none (by omega), List.getElem?_eq_none (by omega)]
  | succ d ih =>
    intro n acc hn ha hp
    refine Ev.step (fun k => ?_) (ih (n + 1) (acc.set n (rd l n)) (by omega) (by simpa using ha) ?_)
    · simp only [laws_toIntS.l0]
      rw [if_pos (by omega), if_pos (by omega), if_pos (by omega), w64 (by omega) (by omega)]
      rfl
    intro j hj
    rw [List.getElem?_set]
    by_cases h : j = n
    · subst h
      rw [if_pos (by omega), if_pos (by omega), ← rd_eq (by omega) (by omega)]
      simp
    · rw [if_neg (by omega)]
      exact hp j (by omega)
theorem toIntS (l : List Int) (hl : l.length ≤ 35184372088832) : Ev (fun k => laws_toIntS.f k l) l := by
  refine Ev.congr (fun k => ?_) (toIntS_l0 l hl l.length 0 (List.replicate l.length 0) (by omega) (by simp) (fun j h => by omega))
  unfold laws_toIntS.f
  rw [if_pos (by omega), if_pos (by omega)]
  rfl
theorem eqIntS_l0 (l : List Int) (hl : l.length ≤ 35184372088832) : ∀ (d n : Nat), n + d = l.length → Ev (fun k => laws_eqIntS.l0 k l l (n : Int)) true := by
  intro d
  induction d with
  | zero =>
    intro n hn
    refine ev_end fun k => ?_
    simp only [laws_eqIntS.l0]
    rw [if_neg (by omega)]
  | succ d ih =>
    intro n hn
    refine Ev.step (fun k => ?_) (ih (n + 1) (by omega))
    simp only [laws_eqIntS.l0]
    rw [if_pos (by omega), if_pos (by omega), if_pos (by omega), if_pos trivial, w64 (by omega) (by omega)]
    rfl
theorem eqIntS (l : List Int) (hl : l.length ≤ 35184372088832) : Ev (fun k => laws_eqIntS.f k l l) true := by
  refine Ev.congr (fun k => ?_) (eqIntS_l0 l hl l.length 0 (by omega))
  unfold laws_eqIntS.f
  rw [if_pos rfl]
  rfl
/-- From place n on the rows are right. -/
def RowsFrom (l : List Int) (a : Int) (n : Nat) : Prop := ∀ j : Nat, n ≤ j → j < l.length → 0 ≤ rd l (j : Int) ∧ rd l (j : Int) < a ∧ (0 < j → rd l ((j : Int) - 1) < rd l (j : Int))
theorem RowsFrom.step {l : List Int} {a : Int} {n : Nat} (h : n < l.length) : RowsFrom l a n ↔ (0 ≤ rd l (n : Int) ∧ rd l (n : Int) < a ∧ (0 < n → rd l ((n : Int) - 1) < rd l (n : Int))) ∧ RowsFrom l a (n + 1) := by
  constructor
  · exact fun g => ⟨g n (Nat.le_refl _) h, fun j hj => g j (by omega)⟩
  · intro ⟨g0, g⟩ j hj hlt
    by_cases e : j = n
    · subst e; exact g0
    · exact g j (by omega) hlt
theorem RowsFrom.stop {l : List Int} {a : Int} : RowsFrom l a l.length := fun j h1 h2 => by omega
theorem specIn (a b c : Int) : spec_l1In.f a b c = some (decide (b ≤ a ∧ a ≤ c)) := by
  unfold spec_l1In.f
  by_cases h : b ≤ a
  · rw [if_pos h]; simp [h]
  · rw [if_neg h]; simp [h]
theorem specRowsOk_l0 (l : List Int) (a : Int) (ha : -9223372036854775808 ≤ a ∧ a ≤ 9223372036854775807) (hl : l.length ≤ 35184372088832) : ∀ (d n : Nat), n + d = l.length → Ev (fun k => spec_RowsOk.l0 k l a (n : Int)) (dec (RowsFrom l a n)) := by
  intro d
  induction d with
  | zero =>
    intro n hn
    refine ev_end fun k => ?_
    simp only [spec_RowsOk.l0]
    obtain rfl : n = l.length := by omega
    rw [if_neg (by omega), dec_true RowsFrom.stop]
  | succ d ih =>
    intro n hn
    have hs := RowsFrom.step (l := l) (a := a) (n := n) (by omega)
    by_cases h1 : a < 1
    · refine ev_end fun k => ?_
      simp only [spec_RowsOk.l0]
      rw [if_pos (by omega), if_pos h1, dec_false]
      rw [hs]; omega
    by_cases h2 : 0 ≤ rd l (n : Int) ∧ rd l (n : Int) < a
    · by_cases h3 : 0 < n → rd l ((n : Int) - 1) < rd l (n : Int)
      · have e : dec (RowsFrom l a n) = dec (RowsFrom l a (n + 1)) := dec_congr (by rw [hs]; exact ⟨fun g => g.2, fun g => ⟨⟨h2.1, h2.2, h3⟩, g⟩⟩)
        rw [e]
        refine Ev.step (fun k => ?_) (ih (n + 1) (by omega))
        simp only [spec_RowsOk.l0, specIn, Option.bind_some]
        rw [if_pos (by omega), if_neg h1, if_pos (by omega), w64 (x := a - 1) (by omega) (by omega), if_pos (by simp; omega), w64 (x := (n : Int) + 1) (by omega) (by omega)]
        by_cases h4 : 0 < n
        · rw [if_pos (by omega), w64 (by omega) (by omega), if_pos (by omega), if_pos (by omega), if_neg (by have := h3 h4; omega)]
          rfl
        · rw [if_neg (by omega)]
          rfl
      · refine ev_end fun k => ?_
        simp only [spec_RowsOk.l0, specIn, Option.bind_some]
        rw [if_pos (by omega), if_neg h1, if_pos (by omega), w64 (x := a - 1) (by omega) (by omega), if_pos (by simp; omega), if_pos (by omega), w64 (by omega) (by omega), if_pos (by omega), if_pos (by omega), if_pos (by omega), dec_false]
        rw [hs]; exact fun g => h3 g.1.2.2
    · refine ev_end fun k => ?_
      simp only [spec_RowsOk.l0, specIn, Option.bind_some]
      rw [if_pos (by omega), if_neg h1, if_pos (by omega), w64 (x := a - 1) (by omega) (by omega), if_neg (by simp; omega), dec_false]
      rw [hs]; exact fun g => h2 ⟨g.1.1, g.1.2.1⟩
theorem specRowsOk (l : List Int) (a : Int) (ha : -9223372036854775808 ≤ a ∧ a ≤ 9223372036854775807) (hl : l.length ≤ 35184372088832) : Ev (fun k => spec_RowsOk.f k l a) (dec (RowsFrom l a 0)) :=
  specRowsOk_l0 l a ha hl l.length 0 (by omega)
theorem implRowsOk_l0 (l : List Int) (a : Int) (hl : l.length ≤ 35184372088832) : ∀ (d n : Nat), n + d = l.length → Ev (fun k => impl_RowsOk.l0 k l a l (l.length : Int) (n : Int)) (dec (RowsFrom l a n)) := by
  intro d
  induction d with
  | zero =>
    intro n hn
    refine ev_end fun k => ?_
    simp only [impl_RowsOk.l0]
    obtain rfl : n = l.length := by omega
    rw [if_neg (by omega), dec_true RowsFrom.stop]
  | succ d ih =>
    intro n hn
    have hs := RowsFrom.step (l := l) (a := a) (n := n) (by omega)
    by_cases h1 : rd l (n : Int) < 0
    · refine ev_end fun k => ?_
      simp only [impl_RowsOk.l0]
      rw [if_pos (by omega), if_pos (by omega), if_pos (by omega), if_pos h1, dec_false]
      rw [hs]; omega
    by_cases h2 : rd l (n : Int) ≥ a
    · refine ev_end fun k => ?_
      simp only [impl_RowsOk.l0]
      rw [if_pos (by omega), if_pos (by omega), if_pos (by omega), if_neg h1, if_pos h2, dec_false]
      rw [hs]; omega
    by_cases h3 : 0 < n → rd l ((n : Int) - 1) < rd l (n : Int)
    · have e : dec (RowsFrom l a n) = dec (RowsFrom l a (n + 1)) := dec_congr (by rw [hs]; exact ⟨fun g => g.2, fun g => ⟨⟨by omega, by omega, h3⟩, g⟩⟩)
      rw [e]
      refine Ev.step (fun k => ?_) (ih (n + 1) (by omega))
      simp only [impl_RowsOk.l0]
      rw [if_pos (by omega), if_pos (by omega), if_pos (by omega), if_neg h1, if_neg h2, w64 (x := (n : Int) + 1) (by omega) (by omega)]
      by_cases h4 : 0 < n
      · rw [if_pos (by omega), w64 (by omega) (by omega), if_pos (by omega), if_pos (by omega), if_neg (by have := h3 h4; omega)]
        rfl
      · rw [if_neg (by omega)]
        rfl
    · refine ev_end fun k => ?_
      simp only [impl_RowsOk.l0]
      rw [if_pos (by omega), if_pos (by omega), if_pos (by omega), if_neg h1, if_neg h2, if_pos (by omega), w64 (by omega) (by omega), if_pos (by omega), if_pos (by omega), if_pos (by omega), dec_false]
      rw [hs]; exact fun g => h3 g.1.2.2
theorem implRowsOk (l : List Int) (a : Int) (hl : l.length ≤ 35184372088832) : Ev (fun k => impl_RowsOk.f k l a) (dec (RowsFrom l a 0)) :=
  implRowsOk_l0 l a hl l.length 0 (by omega)

theorem FnExactRowsOk : laws_FnExactRowsOk.Pure := by
  intro l a hm hl hw ha
  have ha := i64_wf ha
  refine Ev.rounds ?_
  unfold laws_FnExactRowsOk.f
  by_cases hb : (l.length : Int) > 1048576
  · exact ev_pos hb (Ev.now _)
  refine ev_neg hb ?_
  refine Ev.bind (toIntS l (by omega)) (Ev.bind (specRowsOk l a ha (by omega)) (Ev.bind (toIntS l (by omega)) (Ev.bind (implRowsOk l a (by omega)) (ev_neg (by simp) ?_))))
  exact Ev.bind (toIntS l (by omega)) (Ev.bind (eqIntS _ (by omega)) (ev_pos rfl (Ev.now _)))

end Go.Proofs.Ytfaafegnafhllaa.Pure
