/- impl.AllRows returns what spec.AllRows returns, new memory each time, for every int. Conditions: none but the row's own.
-/
import Derived.Test.YtfaafegnafhllaaQFnExactAllRowsx1
set_option linter.unusedVariables false
set_option linter.unusedSimpArgs false
namespace Go.Proofs.Ytfaafegnafhllaa.Pure
open Go.RowKit Go.Proofs.Ytfaafegnafhllaa.QFnExactAllRows Go.Proofs.YtfaafegnafhllaaW.PrintWords Go.Proofs.YtfaafegnafhllaaW.PrintLast Go.Proofs.YtfaafegnafhllaaW.PrintMore

theorem w64 {x : Int} (h1 : -9223372036854775808 ≤ x) (h2 : x ≤ 9223372036854775807) : wrap64 x = x := by unfold wrap64; omega
theorem i64_wf {x : Int} (h : (Lit.int .i64 x).wf = true) : -9223372036854775808 ≤ x ∧ x ≤ 9223372036854775807 := by
  simpa [Lit.wf, IntKind.min, IntKind.max, IntKind.signed, IntKind.bits] using h
theorem u8_wf {x : Int} (h : (Lit.int .u8 x).wf = true) : 0 ≤ x ∧ x ≤ 255 := by
  simpa [Lit.wf, IntKind.min, IntKind.max, IntKind.signed, IntKind.bits] using h
theorem rd_eq {xs : List Int} {i : Int} (h0 : 0 ≤ i) (h : i < (xs.length : Int)) : xs[i.toNat]? = some (rd xs i) := by
  unfold rd
  rw [List.getD_eq_getElem?_getD, List.getElem?_eq_getElem (by omega)]
  rfl
theorem rd_mem {xs : List Int} {i : Int} (h0 : 0 ≤ i) (h : i < (xs.length : Int)) : rd xs i ∈ xs := List.mem_of_getElem? (rd_eq h0 h)
theorem rd_of {xs : List Int} {n : Nat} {v : Int} (h : xs[n]? = some v) : rd xs (n : Int) = v := by
  unfold rd
  rw [List.getD_eq_getElem?_getD, Int.toNat_natCast, h]
  rfl
theorem ev_of {α : Type} {r : α} {p : Option α} (h : p = some r) : Ev (fun _ => p) r := ⟨0, fun _ _ => h⟩
theorem ev_end {α : Type} {g : Nat → Option α} {r : α} (h : ∀ k, g (k + 1) = some r) : Ev g r := Ev.step (f := fun _ => some r) h (Ev.now r)
theorem ev_pos {α : Type} {c : Prop} [Decidable c] {f g : Nat → Option α} {r : α} (hc : c) (h : Ev f r) : Ev (fun k => if c then f k else g k) r := Ev.congr (fun _ => if_pos hc) h
theorem ev_neg {α : Type} {c : Prop} [Decidable c] {f g : Nat → Option α} {r : α} (hc : ¬ c) (h : Ev g r) : Ev (fun k => if c then f k else g k) r := Ev.congr (fun _ => if_neg hc) h
theorem rd_drop {xs : List Int} {n : Nat} (h : n < xs.length) : xs.drop n = rd xs (n : Int) :: xs.drop (n + 1) := by
  rw [List.drop_eq_getElem_cons h]
  congr 1
  unfold rd
  rw [List.getD_eq_getElem?_getD, Int.toNat_natCast, List.getElem?_eq_getElem h]
  rfl
noncomputable def dec (p : Prop) : Bool := @decide p (Classical.propDecidable p)
theorem dec_true {p : Prop} (h : p) : dec p = true := @decide_eq_true p (Classical.propDecidable p) h
theorem dec_false {p : Prop} (h : ¬ p) : dec p = false := @decide_eq_false p (Classical.propDecidable p) h
theorem dec_iff {p : Prop} : dec p = true ↔ p := @decide_eq_true_iff p (Classical.propDecidable p)
theorem dec_congr {p q : Prop} (h : p ↔ q) : dec p = dec q := by rw [propext h]
theorem dec_eq {p : Prop} [Decidable p] : dec p = decide p := by
  by_cases h : p
  · rw [dec_true h, decide_eq_true h]
  · rw [dec_false h, decide_eq_false h]
theorem eqIntS_l0 (l : List Int) (hl : l.length ≤ 35184372088832) : ∀ (d n : Nat), n + d = l.length → Ev (fun k => laws_eqIntS.l0 k l l (n : Int)) true := by
  intro d
  induction d with
  | zero =>
    intro n hn
    refine ev_end fun k => ?_
    simp only [laws_eqIntS.l0]
    rw [if_neg (by omega)]
  | succ d ih =>
    intro n hn
    refine Ev.step (fun k => ?_) (ih (n + 1) (by omega))
    simp only [laws_eqIntS.l0]
    rw [if_pos (by omega), if_pos (by omega), if_pos (by omega), if_pos trivial, w64 (by omega) (by omega)]
    rfl
theorem eqIntS (l : List Int) (hl : l.length ≤ 35184372088832) : Ev (fun k => laws_eqIntS.f k l l) true := by
  refine Ev.congr (fun k => ?_) (eqIntS_l0 l hl l.length 0 (by omega))
  unfold laws_eqIntS.f
  rw [if_pos rfl]
  rfl
/-- The numbers from m on, n of them. -/
def marked (m : Int) : Nat → List Int
  | 0 => []
  | n + 1 => m :: marked (m + 1) n
theorem marked_length (m : Int) (n : Nat) : (marked m n).length = n := by
  induction n generalizing m with
  | zero => rfl
  | succ n ih => simp [marked, ih]
theorem marked_get (m : Int) (n j : Nat) (h : j < n) : (marked m n)[j]? = some (m + (j : Int)) := by
  induction n generalizing m j with
  | zero => omega
  | succ n ih =>
    cases j with
    | zero => simp [marked]
    | succ j =>
      simp only [marked, List.getElem?_cons_succ]
      rw [ih (m + 1) j (by omega)]
      congr 1
      omega
theorem marked_snoc (m : Int) (n : Nat) : marked m (n + 1) = marked m n ++ [m + (n : Int)] := by
  induction n generalizing m with
  | zero => simp [marked]
  | succ n ih =>
    rw [marked, ih (m + 1)]
    simp only [marked, List.cons_append, List.cons.injEq, true_and, List.append_cancel_left_eq, and_true]
    omega
theorem rd_marked {m : Int} {n : Nat} {j : Int} (h0 : 0 ≤ j) (h : j < (n : Int)) : rd (marked m n) j = m + j := by
  obtain ⟨i, rfl⟩ := Int.eq_ofNat_of_zero_le h0
  exact rd_of (marked_get m n i (by omega))
theorem markIntS_l0 (m : Int) (hm : 0 ≤ m) : ∀ (d n : Nat) (x : List Int), n + d = x.length → m + x.length ≤ 35184372088832 → (∀ j : Nat, j < n → x[j]? = some (m + (j : Int))) →
    Ev (fun k => laws_markIntS.l0 k x (m + (n : Int)) (n : Int)) (m + (x.length : Int), marked m x.length) := by
  intro d
  induction d with
  | zero =>
    intro n x hn hl hp
    refine ev_end fun k => ?_
    simp only [laws_markIntS.l0]
    rw [if_neg (by omega)]
    obtain rfl : n = x.length := by omega
    congr 2
    exact List.ext_getElem? fun j => by
      by_cases h : j < x.length
      · rw [hp j h, marked_get _ _ _ h]
      · rw [List.getElem?_eq_none (by omega), List.getElem?_eq_none (by rw [marked_length]; omega)]
  | succ d ih =>
    intro n x hn hl hp
    have hlen : (x.set n (m + (n : Int))).length = x.length := by simp
    have := ih (n + 1) (x.set n (m + (n : Int))) (by rw [hlen]; omega) (by rw [hlen]; omega) (by
      intro j hj
      rw [List.getElem?_set]
      by_cases h : j = n
      · subst h
        rw [if_pos (by omega), if_pos (by omega)]
      · rw [if_neg (by omega)]
        exact hp j (by omega))
    rw [hlen] at this
    refine Ev.step (fun k => ?_) this
    simp only [laws_markIntS.l0]
    rw [if_pos (by omega), if_pos (by omega), w64 (x := (n : Int) + 1) (by omega) (by omega), w64 (by omega) (by omega)]
    have e : m + (n : Int) + 1 = m + ((n + 1 : Nat) : Int) := by omega
    rw [e]
    rfl
theorem markIntS (l : List Int) (m : Int) (hm : 0 ≤ m) (hl : m + l.length ≤ 35184372088832) : Ev (fun k => laws_markIntS.f k l m) (m + (l.length : Int), marked m l.length) := by
  have := markIntS_l0 m hm l.length 0 l (by omega) hl (fun j h => by omega)
  exact Ev.congr (fun k => by unfold laws_markIntS.f; simp) this
theorem heldIntS_l0 (m : Int) (N : Nat) (hm : 0 ≤ m) (hN : m + N ≤ 35184372088832) : ∀ (d n : Nat), n + d = N → Ev (fun k => laws_heldIntS.l0 k (marked m N) (m + (n : Int)) (n : Int)) (m + (N : Int)) := by
  intro d
  induction d with
  | zero =>
    intro n hn
    refine ev_end fun k => ?_
    simp only [laws_heldIntS.l0]
    rw [if_neg (by rw [marked_length]; omega)]
    congr 1; omega
  | succ d ih =>
    intro n hn
    refine Ev.step (fun k => ?_) (ih (n + 1) (by omega))
    simp only [laws_heldIntS.l0]
    rw [if_pos (by rw [marked_length]; omega), if_pos (by omega), if_pos (rd_marked (by omega) (by omega)), w64 (x := (n : Int) + 1) (by omega) (by omega), w64 (by omega) (by omega)]
    have e : m + (n : Int) + 1 = m + ((n + 1 : Nat) : Int) := by omega
    rw [e]
    rfl
theorem heldIntS (N : Nat) (m : Int) (hm : 0 ≤ m) (hN : m + N ≤ 35184372088832) : Ev (fun k => laws_heldIntS.f k (marked m N) m) (m + (N : Int)) := by
  have := heldIntS_l0 m N hm hN N 0 (by omega)
  exact Ev.congr (fun k => by unfold laws_heldIntS.f; simp) this
/-- All rows, as numbers. -/
def allRows (a : Int) : List Int := if 1 ≤ a ∧ a ≤ 40 then marked 0 a.toNat else []
theorem allRows_length (a : Int) : (allRows a).length ≤ 40 := by
  unfold allRows
  split
  · rw [marked_length]; omega
  · simp
theorem specAllRows_l0 (N : Nat) (hN : N ≤ 40) : ∀ (d n : Nat), n + d = N → Ev (fun k => spec_AllRows.l0 k (N : Int) (marked 0 n) (n : Int)) (marked 0 N) := by
  intro d
  induction d with
  | zero =>
    intro n hn
    refine ev_end fun k => ?_
    simp only [spec_AllRows.l0]
    rw [if_neg (by omega)]
    obtain rfl : n = N := by omega
    rfl
  | succ d ih =>
    intro n hn
    refine Ev.step (fun k => ?_) (ih (n + 1) (by omega))
    simp only [spec_AllRows.l0]
    rw [if_pos (by omega), if_pos (by omega), if_pos (by rw [marked_length]; omega), w64 (by omega) (by omega), marked_snoc]
    simp
theorem specAllRows (a : Int) : Ev (fun k => spec_AllRows.f k a) (allRows a) := by
  unfold allRows spec_AllRows.f
  by_cases h : 1 ≤ a ∧ a ≤ 40
  · rw [if_pos h]
    have := specAllRows_l0 a.toNat (by omega) a.toNat 0 (by omega)
    rw [Int.toNat_of_nonneg (by omega)] at this
    exact this
  · rw [if_neg h]
    refine ev_end fun k => ?_
    simp only [spec_AllRows.l0]
    by_cases h1 : 0 < a
    · rw [if_pos h1, if_neg (by omega)]
    · rw [if_neg h1]
theorem implWithin (a b c : Int) : impl_within.f a b c = some (decide (b ≤ a ∧ a ≤ c)) := by
  unfold impl_within.f
  by_cases h : b ≤ a
  · rw [if_pos h]; simp [h]
  · rw [if_neg h]; simp [h]
theorem implAllRows_l0 (N : Nat) (hN : N ≤ 40) : ∀ (d n : Nat), n + d = N → Ev (fun k => impl_AllRows.l0 k (marked 0 n) (N : Int) (n : Int)) (marked 0 N) := by
  intro d
  induction d with
  | zero =>
    intro n hn
    refine ev_end fun k => ?_
    simp only [impl_AllRows.l0]
    rw [if_neg (by omega)]
    obtain rfl : n = N := by omega
    rfl
  | succ d ih =>
    intro n hn
    refine Ev.step (fun k => ?_) (ih (n + 1) (by omega))
    simp only [impl_AllRows.l0]
    rw [if_pos (by omega), if_pos (by rw [marked_length]; omega), w64 (by omega) (by omega), marked_snoc]
    simp
theorem implAllRows (a : Int) : Ev (fun k => impl_AllRows.f k a) (allRows a) := by
  unfold allRows impl_AllRows.f
  simp only [Option.bind_some, implWithin]
  by_cases h : 1 ≤ a ∧ a ≤ 40
  · rw [if_pos h]
    have := implAllRows_l0 a.toNat (by omega) a.toNat 0 (by omega)
    rw [Int.toNat_of_nonneg (by omega)] at this
    simpa [h, marked] using this
  · rw [if_neg h]
    simpa [h] using Ev.now []

theorem FnExactAllRows : laws_FnExactAllRows.Pure := by
  intro a ha
  have hl := allRows_length a
  refine Ev.rounds ?_
  unfold laws_FnExactAllRows.f
  refine Ev.bind (specAllRows a) (Ev.bind (implAllRows a) (Ev.bind (eqIntS _ (by omega)) (ev_pos rfl ?_)))
  refine Ev.bind (markIntS _ 1 (by omega) (by omega)) (Ev.bind (heldIntS _ 1 (by omega) (by omega)) (ev_neg (by omega) (ev_pos rfl ?_)))
  refine Ev.bind (implAllRows a) (Ev.bind (eqIntS _ (by omega)) (ev_pos rfl ?_))
  exact Ev.bind (heldIntS _ 1 (by omega) (by omega)) (ev_neg (by omega) (ev_pos rfl (Ev.now _)))

end Go.Proofs.Ytfaafegnafhllaa.Pure
