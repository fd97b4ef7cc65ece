/- impl.SplitRows returns what spec.SplitRows returns, both results in new memory apart from each other, and leaves its slices as they were, for all arguments. Conditions: none but the row's own.
-/
import Derived.Test.YtloinhlkkbploaaQFnExactSplitRowsx2
set_option linter.unusedVariables false
set_option linter.unusedSimpArgs false
namespace Go.Proofs.Ytloinhlkkbploaa.Pure
open Go.RowKit Go.Proofs.Ytloinhlkkbploaa.QFnExactSplitRows Go.Proofs.YtloinhlkkbploaaW.PrintWords Go.Proofs.YtloinhlkkbploaaW.PrintLast Go.Proofs.YtloinhlkkbploaaW.PrintMore

theorem w64 {x : Int} (h1 : -9223372036854775808 ≤ x) (h2 : x ≤ 9223372036854775807) : wrap64 x = x := by unfold wrap64; omega
theorem i64_wf {x : Int} (h : (Lit.int .i64 x).wf = true) : -9223372036854775808 ≤ x ∧ x ≤ 9223372036854775807 := by
  simpa [Lit.wf, IntKind.min, IntKind.max, IntKind.signed, IntKind.bits] using h
theorem u8_wf {x : Int} (h : (Lit.int .u8 x).wf = true) : 0 ≤ x ∧ x ≤ 255 := by
  simpa [Lit.wf, IntKind.min, IntKind.max, IntKind.signed, IntKind.bits] using h
theorem rd_eq {xs : List Int} {i : Int} (h0 : 0 ≤ i) (h : i < (xs.length : Int)) : xs[i.toNat]? = some (rd xs i) := by
  unfold rd
  rw [List.getD_eq_getElem?_getD, List.getElem?_eq_getElem (by omega)]
  rfl
theorem rd_mem {xs : List Int} {i : Int} (h0 : 0 ≤ i) (h : i < (xs.length : Int)) : rd xs i ∈ xs := List.mem_of_getElem? (rd_eq h0 h)
theorem rd_of {xs : List Int} {n : Nat} {v : Int} (h : xs[n]? = some v) : rd xs (n : Int) = v := by
  unfold rd
  rw [List.getD_eq_getElem?_getD, Int.toNat_natCast, h]
  rfl
theorem ev_of {α : Type} {r : α} {p : Option α} (h : p = some r) : Ev (fun _ => p) r := ⟨0, fun _ _ => h⟩
theorem ev_end {α : Type} {g : Nat → Option α} {r : α} (h : ∀ k, g (k + 1) = some r) : Ev g r := Ev.step (f := fun _ => some r) h (Ev.now r)
theorem ev_pos {α : Type} {c : Prop} [Decidable c] {f g : Nat → Option α} {r : α} (hc : c) (h : Ev f r) : Ev (fun k => if c then f k else g k) r := Ev.congr (fun _ => if_pos hc) h
theorem ev_neg {α : Type} {c : Prop} [Decidable c] {f g : Nat → Option α} {r : α} (hc : ¬ c) (h : Ev g r) : Ev (fun k => if c then f k else g k) r := Ev.congr (fun _ => if_neg hc) h
theorem rd_drop {xs : List Int} {n : Nat} (h : n < xs.length) : xs.drop n = rd xs (n : Int) :: xs.drop (n + 1) := by
  rw [List.drop_eq_getElem_cons h]
  congr 1
  unfold rd
  rw [List.getD_eq_getElem?_getD, Int.toNat_natCast, List.getElem?_eq_getElem h]
  rfl
noncomputable def dec (p : Prop) : Bool := @decide p (Classical.propDecidable p)
theorem dec_true {p : Prop} (h : p) : dec p = true := @decide_eq_true p (Classical.propDecidable p) h
theorem dec_false {p : Prop} (h : ¬ p) : dec p = false := @decide_eq_false p (Classical.propDecidable p) h
theorem dec_iff {p : Prop} : dec p = true ↔ p := @decide_eq_true_iff p (Classical.propDecidable p)
theorem dec_congr {p q : Prop} (h : p ↔ q) : dec p = dec q := by rw [propext h]
theorem dec_eq {p : Prop} [Decidable p] : dec p = decide p := by
  by_cases h : p
  · rw [dec_true h, decide_eq_true h]
  · rw [dec_false h, decide_eq_false h]
theorem ev_succ {α : Type} {g : Nat → Option α} {r : α} (h : Ev (fun k => g (k + 1)) r) : Ev g r := by
  obtain ⟨K, h⟩ := h
  refine ⟨K + 1, fun n hn => ?_⟩
  obtain ⟨m, rfl⟩ : ∃ m, n = m + 1 := ⟨n - 1, by omega⟩
  exact h m (by omega)
theorem ev_eq {α : Type} {g : Nat → Option α} {r r' : α} (h : Ev g r) (e : r = r') : Ev g r' := e ▸ h
theorem gd_eq {α : Type} (z : α) {xs : List α} {i : Int} (h0 : 0 ≤ i) (h : i < (xs.length : Int)) : xs[i.toNat]? = some (xs.getD i.toNat z) := by
  rw [List.getD_eq_getElem?_getD, List.getElem?_eq_getElem (by omega)]
  rfl
theorem gd_nat {α : Type} (z : α) {xs : List α} {n : Nat} {v : α} (h : xs[n]? = some v) : xs.getD ((n : Int)).toNat z = v := by
  rw [List.getD_eq_getElem?_getD, Int.toNat_natCast, h]
  rfl
theorem gd_drop {α : Type} (z : α) {xs : List α} {n : Nat} (h : n < xs.length) : xs.drop n = xs.getD ((n : Int)).toNat z :: xs.drop (n + 1) := by
  rw [List.drop_eq_getElem_cons h]
  congr 1
  exact (gd_nat z (List.getElem?_eq_getElem h)).symm
/-- A loop that copies: place after place is set. -/
theorem copy_loop {α β : Type} (F : Nat → List β → Int → Option (List β)) (l : List α) (g : α → β)
    (hend : ∀ acc : List β, acc.length = l.length → Ev (fun k => F k acc (l.length : Int)) acc)
    (hstep : ∀ (acc : List β) (n : Nat) (x : α) (r : List β), n < l.length → acc.length = l.length → l[n]? = some x → Ev (fun k => F k (acc.set n (g x)) ((n + 1 : Nat) : Int)) r → Ev (fun k => F k acc (n : Int)) r) :
    ∀ (d n : Nat) (acc : List β), n + d = l.length → acc.length = l.length → (∀ j, j < n → acc[j]? = (l.map g)[j]?) → Ev (fun k => F k acc (n : Int)) (l.map g) := by
  intro d
  induction d with
  | zero =>
    intro n acc hn ha hp
    obtain rfl : n = l.length := by omega
    refine ev_eq (hend acc ha) (List.ext_getElem? fun j => ?_)
    by_cases h : j < l.length
    · exact hp j h
    · rw [List.getElem?_eq_none (by omega), List.getElem?_eq_none (by simp; omega)]
  | succ d ih =>
    intro n acc hn ha hp
    have hx : l[n]? = some l[n] := List.getElem?_eq_getElem (by omega)
    refine hstep acc n l[n] _ (by omega) ha hx (ih (n + 1) _ (by omega) (by simpa using ha) ?_)
    intro j hj
    rw [List.getElem?_set]
    by_cases h : n = j
    · subst h
      rw [if_pos rfl, if_pos (by omega), List.getElem?_map, hx]
      rfl
    · rw [if_neg h]
      exact hp j (by omega)
/-- A loop that tests place after place. -/
theorem all_loop (F : Nat → Int → Option Bool) (L : Nat) (p : Nat → Prop) (hend : Ev (fun k => F k (L : Int)) true)
    (hyes : ∀ (n : Nat) (r : Bool), n < L → p n → Ev (fun k => F k ((n + 1 : Nat) : Int)) r → Ev (fun k => F k (n : Int)) r)
    (hno : ∀ n : Nat, n < L → ¬ p n → Ev (fun k => F k (n : Int)) false) :
    ∀ (d n : Nat), n + d = L → Ev (fun k => F k (n : Int)) (dec (∀ j, n ≤ j → j < L → p j)) := by
  intro d
  induction d with
  | zero =>
    intro n hn
    obtain rfl : n = L := by omega
    exact ev_eq hend (dec_true (fun j h1 h2 => by omega)).symm
  | succ d ih =>
    intro n hn
    by_cases h : p n
    · refine hyes n _ (by omega) h (ev_eq (ih (n + 1) (by omega)) (dec_congr ⟨fun g j h1 h2 => ?_, fun g j h1 h2 => g j (by omega) h2⟩))
      by_cases e : j = n
      · exact e ▸ h
      · exact g j (by omega) h2
    · exact ev_eq (hno n (by omega) h) (dec_false (fun g => h (g n (Nat.le_refl _) (by omega)))).symm
/-- A loop that goes round L times over a state. -/
theorem fold_loop {σ ρ : Type} (F : Nat → σ → Int → Option ρ) (L : Nat) (S : Nat → σ) (r : ρ) (hend : Ev (fun k => F k (S L) (L : Int)) r)
    (hstep : ∀ n : Nat, n < L → Ev (fun k => F k (S (n + 1)) ((n + 1 : Nat) : Int)) r → Ev (fun k => F k (S n) (n : Int)) r) :
    ∀ (d n : Nat), n + d = L → Ev (fun k => F k (S n) (n : Int)) r := by
  intro d
  induction d with
  | zero =>
    intro n hn
    obtain rfl : n = L := by omega
    exact hend
  | succ d ih =>
    intro n hn
    exact hstep n (by omega) (ih (n + 1) (by omega))
theorem set_mid {α : Type} (a b : List α) (x v : α) {n : Nat} (h : a.length = n) : (a ++ x :: b).set n v = a ++ v :: b := by
  subst h
  rw [List.set_append_right _ _ (Nat.le_refl _), Nat.sub_self]
  rfl
theorem get_mid {α : Type} (a b : List α) (x : α) {n : Nat} (h : a.length = n) : (a ++ x :: b)[n]? = some x := by
  subst h
  rw [List.getElem?_append_right (Nat.le_refl _), Nat.sub_self]
  rfl
/-- A loop that tests place after place, and one thing more at its end. -/
theorem all_loop2 (F : Nat → Int → Option Bool) (L : Nat) (p : Nat → Prop) (E : Prop) (hend : Ev (fun k => F k (L : Int)) (dec E))
    (hyes : ∀ (n : Nat) (r : Bool), n < L → p n → Ev (fun k => F k ((n + 1 : Nat) : Int)) r → Ev (fun k => F k (n : Int)) r)
    (hno : ∀ n : Nat, n < L → ¬ p n → Ev (fun k => F k (n : Int)) false) :
    ∀ (d n : Nat), n + d = L → Ev (fun k => F k (n : Int)) (dec ((∀ j, n ≤ j → j < L → p j) ∧ E)) := by
  intro d
  induction d with
  | zero =>
    intro n hn
    obtain rfl : n = L := by omega
    exact ev_eq hend (dec_congr ⟨fun h => ⟨fun j h1 h2 => by omega, h⟩, fun h => h.2⟩)
  | succ d ih =>
    intro n hn
    by_cases h : p n
    · refine hyes n _ (by omega) h (ev_eq (ih (n + 1) (by omega)) (dec_congr ⟨fun g => ⟨fun j h1 h2 => ?_, g.2⟩, fun g => ⟨fun j h1 h2 => g.1 j (by omega) h2, g.2⟩⟩))
      by_cases e : j = n
      · exact e ▸ h
      · exact g.1 j (by omega) h2
    · exact ev_eq (hno n (by omega) h) (dec_false (fun g => h (g.1 n (Nat.le_refl _) (by omega)))).symm
theorem toIntS_l0 (l : List Int) (hl : l.length ≤ 35184372088832) : ∀ (d n : Nat) (acc : List Int), n + d = l.length → acc.length = l.length → (∀ j, j < n → acc[j]? = l[j]?) → Ev (fun k => laws_toIntS.l0 k l acc (n : Int)) l := by
  intro d
  induction d with
  | zero =>
    intro n acc hn ha hp
    refine ev_end fun k => ?_
    simp only [laws_toIntS.l0]
    rw [if_neg (by omega)]
    congr 1
    exact List.ext_getElem? fun j => by
      by_cases h : j < n
      · exact hp j h
      · rw [List.getElem?_eq_none (by omega), List.getElem?_eq_none (by omega)]
  | succ d ih =>
    intro n acc hn ha hp
    refine Ev.step (fun k => ?_) (ih (n + 1) (acc.set n (rd l n)) (by omega) (by simpa using ha) ?_)
    · simp only [laws_toIntS.l0]
      rw [if_pos (by omega), if_pos (by omega), if_pos (by omega), w64 (by omega) (by omega)]
      rfl
    intro j hj
    rw [List.getElem?_set]
    by_cases h : j = n
    · subst h
      rw [if_pos (by omega), if_pos (by omega), ← rd_eq (by omega) (by omega)]
      simp
    · rw [if_neg (by omega)]
      exact hp j (by omega)
theorem toIntS (l : List Int) (hl : l.length ≤ 35184372088832) : Ev (fun k => laws_toIntS.f k l) l := by
  refine Ev.congr (fun k => ?_) (toIntS_l0 l hl l.length 0 (List.replicate l.length 0) (by omega) (by simp) (fun j h => by omega))
  unfold laws_toIntS.f
  rw [if_pos (by omega), if_pos (by omega)]
  rfl
theorem eqIntS_l0 (l : List Int) (hl : l.length ≤ 35184372088832) : ∀ (d n : Nat), n + d = l.length → Ev (fun k => laws_eqIntS.l0 k l l (n : Int)) true := by
  intro d
  induction d with
  | zero =>
    intro n hn
    refine ev_end fun k => ?_
    simp only [laws_eqIntS.l0]
    rw [if_neg (by omega)]
  | succ d ih =>
    intro n hn
    refine Ev.step (fun k => ?_) (ih (n + 1) (by omega))
    simp only [laws_eqIntS.l0]
    rw [if_pos (by omega), if_pos (by omega), if_pos (by omega), if_pos trivial, w64 (by omega) (by omega)]
    rfl
theorem eqIntS (l : List Int) (hl : l.length ≤ 35184372088832) : Ev (fun k => laws_eqIntS.f k l l) true := by
  refine Ev.congr (fun k => ?_) (eqIntS_l0 l hl l.length 0 (by omega))
  unfold laws_eqIntS.f
  rw [if_pos rfl]
  rfl
/-- The numbers from m on, n of them. -/
def marked (m : Int) : Nat → List Int
  | 0 => []
  | n + 1 => m :: marked (m + 1) n
theorem marked_length (m : Int) (n : Nat) : (marked m n).length = n := by
  induction n generalizing m with
  | zero => rfl
  | succ n ih => simp [marked, ih]
theorem marked_get (m : Int) (n j : Nat) (h : j < n) : (marked m n)[j]? = some (m + (j : Int)) := by
  induction n generalizing m j with
  | zero => omega
  | succ n ih =>
    cases j with
    | zero => simp [marked]
    | succ j =>
      simp only [marked, List.getElem?_cons_succ]
      rw [ih (m + 1) j (by omega)]
      congr 1
      omega
theorem marked_snoc (m : Int) (n : Nat) : marked m (n + 1) = marked m n ++ [m + (n : Int)] := by
  induction n generalizing m with
  | zero => simp [marked]
  | succ n ih =>
    rw [marked, ih (m + 1)]
    simp only [marked, List.cons_append, List.cons.injEq, true_and, List.append_cancel_left_eq, and_true]
    omega
theorem rd_marked {m : Int} {n : Nat} {j : Int} (h0 : 0 ≤ j) (h : j < (n : Int)) : rd (marked m n) j = m + j := by
  obtain ⟨i, rfl⟩ := Int.eq_ofNat_of_zero_le h0
  exact rd_of (marked_get m n i (by omega))
theorem markIntS_l0 (m : Int) (hm : 0 ≤ m) : ∀ (d n : Nat) (x : List Int), n + d = x.length → m + x.length ≤ 35184372088832 → (∀ j : Nat, j < n → x[j]? = some (m + (j : Int))) →
    Ev (fun k => laws_markIntS.l0 k x (m + (n : Int)) (n : Int)) (m + (x.length : Int), marked m x.length) := by
  intro d
  induction d with
  | zero =>
    intro n x hn hl hp
    refine ev_end fun k => ?_
    simp only [laws_markIntS.l0]
    rw [if_neg (by omega)]
    obtain rfl : n = x.length := by omega
    congr 2
    exact List.ext_getElem? fun j => by
      by_cases h : j < x.length
      · rw [hp j h, marked_get _ _ _ h]
      · rw [List.getElem?_eq_none (by omega), List.getElem?_eq_none (by rw [marked_length]; omega)]
  | succ d ih =>
    intro n x hn hl hp
    have hlen : (x.set n (m + (n : Int))).length = x.length := by simp
    have := ih (n + 1) (x.set n (m + (n : Int))) (by rw [hlen]; omega) (by rw [hlen]; omega) (by
      intro j hj
      rw [List.getElem?_set]
      by_cases h : j = n
      · subst h
        rw [if_pos (by omega), if_pos (by omega)]
      · rw [if_neg (by omega)]
        exact hp j (by omega))
    rw [hlen] at this
    refine Ev.step (fun k => ?_) this
    simp only [laws_markIntS.l0]
    rw [if_pos (by omega), if_pos (by omega), w64 (x := (n : Int) + 1) (by omega) (by omega), w64 (by omega) (by omega)]
    have e : m + (n : Int) + 1 = m + ((n + 1 : Nat) : Int) := by omega
    rw [e]
    rfl
theorem markIntS (l : List Int) (m : Int) (hm : 0 ≤ m) (hl : m + l.length ≤ 35184372088832) : Ev (fun k => laws_markIntS.f k l m) (m + (l.length : Int), marked m l.length) := by
  have := markIntS_l0 m hm l.length 0 l (by omega) hl (fun j h => by omega)
  exact Ev.congr (fun k => by unfold laws_markIntS.f; simp) this
theorem heldIntS_l0 (m : Int) (N : Nat) (hm : 0 ≤ m) (hN : m + N ≤ 35184372088832) : ∀ (d n : Nat), n + d = N → Ev (fun k => laws_heldIntS.l0 k (marked m N) (m + (n : Int)) (n : Int)) (m + (N : Int)) := by
  intro d
  induction d with
  | zero =>
    intro n hn
    refine ev_end fun k => ?_
    simp only [laws_heldIntS.l0]
    rw [if_neg (by rw [marked_length]; omega)]
    congr 1; omega
  | succ d ih =>
    intro n hn
    refine Ev.step (fun k => ?_) (ih (n + 1) (by omega))
    simp only [laws_heldIntS.l0]
    rw [if_pos (by rw [marked_length]; omega), if_pos (by omega), if_pos (rd_marked (by omega) (by omega)), w64 (x := (n : Int) + 1) (by omega) (by omega), w64 (by omega) (by omega)]
    have e : m + (n : Int) + 1 = m + ((n + 1 : Nat) : Int) := by omega
    rw [e]
    rfl
theorem heldIntS (N : Nat) (m : Int) (hm : 0 ≤ m) (hN : m + N ≤ 35184372088832) : Ev (fun k => laws_heldIntS.f k (marked m N) m) (m + (N : Int)) := by
  have := heldIntS_l0 m N hm hN N 0 (by omega)
  exact Ev.congr (fun k => by unfold laws_heldIntS.f; simp) this
/-- The sum and true; 0 and false where it has no room. -/
def addI (a b : Int) : Int × Bool := if -9223372036854775808 ≤ a + b ∧ a + b ≤ 9223372036854775807 then (a + b, true) else (0, false)
def subI (a b : Int) : Int × Bool := if -9223372036854775808 ≤ a - b ∧ a - b ≤ 9223372036854775807 then (a - b, true) else (0, false)
def I64 (a : Int) : Prop := -9223372036854775808 ≤ a ∧ a ≤ 9223372036854775807
theorem addI_i64 (a b : Int) : I64 (addI a b).1 := by
  unfold addI I64
  split
  · assumption
  · exact ⟨by decide, by decide⟩
theorem subI_i64 (a b : Int) : I64 (subI a b).1 := by
  unfold subI I64
  split
  · assumption
  · exact ⟨by decide, by decide⟩
theorem wrap_over {x : Int} (h1 : 9223372036854775807 < x) (h2 : x < 27670116110564327424) : wrap64 x = x - 18446744073709551616 := by unfold wrap64; omega
theorem wrap_under {x : Int} (h1 : x < -9223372036854775808) (h2 : -27670116110564327424 ≤ x) : wrap64 x = x + 18446744073709551616 := by unfold wrap64; omega
/-- Is r an index of bins? -/
def inB (bins : List Int) (r : Int) : Bool := decide (0 ≤ r ∧ r ≤ (bins.length : Int) - 1)
def leftOf (bins : List Int) (b : Int) (rows : List Int) : List Int := rows.filter (fun r => inB bins r && decide (rd bins r ≤ b))
def rightOf (bins : List Int) (b : Int) (rows : List Int) : List Int := rows.filter (fun r => inB bins r && !decide (rd bins r ≤ b))
theorem leftOf_length (bins : List Int) (b : Int) (rows : List Int) : (leftOf bins b rows).length ≤ rows.length := List.length_filter_le _ _
theorem rightOf_length (bins : List Int) (b : Int) (rows : List Int) : (rightOf bins b rows).length ≤ rows.length := List.length_filter_le _ _
theorem split_cons (bins : List Int) (b : Int) (r : Int) (rows : List Int) :
    (inB bins r = false → leftOf bins b (r :: rows) = leftOf bins b rows ∧ rightOf bins b (r :: rows) = rightOf bins b rows) ∧
    (inB bins r = true → rd bins r ≤ b → leftOf bins b (r :: rows) = r :: leftOf bins b rows ∧ rightOf bins b (r :: rows) = rightOf bins b rows) ∧
    (inB bins r = true → ¬ rd bins r ≤ b → leftOf bins b (r :: rows) = leftOf bins b rows ∧ rightOf bins b (r :: rows) = r :: rightOf bins b rows) := by
  unfold leftOf rightOf
  refine ⟨fun h => ?_, fun h h1 => ?_, fun h h1 => ?_⟩
  · simp [List.filter_cons, h]
  · simp [List.filter_cons, h, h1]
  · simp [List.filter_cons, h, h1]
theorem specIn (a b c : Int) : spec_l1In.f a b c = some (decide (b ≤ a ∧ a ≤ c)) := by
  unfold spec_l1In.f
  by_cases h : b ≤ a
  · rw [if_pos h]; simp [h]
  · rw [if_neg h]; simp [h]
theorem specSplit_l0 (bins rows : List Int) (b : Int) (hb : bins.length ≤ 1048576) (hr : rows.length ≤ 1048576) : ∀ (d n : Nat) (L R : List Int), n + d = rows.length → L.length ≤ n → R.length ≤ n →
    Ev (fun k => spec_SplitRows.l0 k bins rows b L R (n : Int)) (L ++ leftOf bins b (rows.drop n), R ++ rightOf bins b (rows.drop n)) := by
  intro d
  induction d with
  | zero =>
    intro n L R hn hL hR
    obtain rfl : n = rows.length := by omega
    refine ev_succ ?_
    simp only [spec_SplitRows.l0]
    refine ev_neg (by omega) (ev_of ?_)
    rw [List.drop_length]
    simp [leftOf, rightOf]
  | succ d ih =>
    intro n L R hn hL hR
    refine ev_succ ?_
    obtain ⟨c0, c1, c2⟩ := split_cons bins b (rd rows (n : Int)) (rows.drop (n + 1))
    rw [rd_drop (by omega)]
    simp only [spec_SplitRows.l0, specIn, Option.bind_some]
    rw [w64 (x := (n : Int) + 1) (by omega) (by omega), w64 (x := (bins.length : Int) - 1) (by omega) (by omega)]
    refine ev_pos (by omega) (ev_pos (by omega) ?_)
    by_cases h : inB bins (rd rows (n : Int)) = true
    · have h' : 0 ≤ rd rows (n : Int) ∧ rd rows (n : Int) ≤ (bins.length : Int) - 1 := by simpa [inB] using h
      refine ev_pos (by simpa using h') (ev_pos (by omega) (ev_pos (by omega) ?_))
      by_cases g : rd bins (rd rows (n : Int)) ≤ b
      · rw [(c1 h g).1, (c1 h g).2]
        refine ev_pos g (ev_pos (by omega) (ev_eq (ih (n + 1) (L ++ [rd rows (n : Int)]) R (by omega) (by simp; omega) (by omega)) ?_))
        simp
      · rw [(c2 h g).1, (c2 h g).2]
        refine ev_neg g (ev_pos (by omega) (ev_eq (ih (n + 1) L (R ++ [rd rows (n : Int)]) (by omega) (by omega) (by simp; omega)) ?_))
        simp
    · simp only [Bool.not_eq_true] at h
      rw [(c0 h).1, (c0 h).2]
      exact ev_neg (by simpa [inB] using h) (ih (n + 1) L R (by omega) (by omega) (by omega))
theorem specSplit (bins rows : List Int) (b : Int) (hb : bins.length ≤ 1048576) (hr : rows.length ≤ 1048576) : Ev (fun k => spec_SplitRows.f k bins rows b) (leftOf bins b rows, rightOf bins b rows) :=
  specSplit_l0 bins rows b hb hr rows.length 0 [] [] (by omega) (by simp) (by simp)
theorem implWithin (a b c : Int) : impl_within.f a b c = some (decide (b ≤ a ∧ a ≤ c)) := by
  unfold impl_within.f
  by_cases h : b ≤ a
  · rw [if_pos h]; simp [h]
  · rw [if_neg h]; simp [h]
theorem implSplit_l0 (bins rows : List Int) (b : Int) (hb : bins.length ≤ 1048576) (hr : rows.length ≤ 1048576) : ∀ (d n : Nat) (L R : List Int), n + d = rows.length → L.length ≤ n → R.length ≤ n →
    Ev (fun k => impl_SplitRows.l0 k bins b L R rows (rows.length : Int) (n : Int)) (L ++ leftOf bins b (rows.drop n), R ++ rightOf bins b (rows.drop n)) := by
  intro d
  induction d with
  | zero =>
    intro n L R hn hL hR
    obtain rfl : n = rows.length := by omega
    refine ev_succ ?_
    simp only [impl_SplitRows.l0]
    refine ev_neg (by omega) (ev_of ?_)
    rw [List.drop_length]
    simp [leftOf, rightOf]
  | succ d ih =>
    intro n L R hn hL hR
    refine ev_succ ?_
    obtain ⟨c0, c1, c2⟩ := split_cons bins b (rd rows (n : Int)) (rows.drop (n + 1))
    rw [rd_drop (by omega)]
    simp only [impl_SplitRows.l0, implWithin, Option.bind_some]
    rw [w64 (x := (n : Int) + 1) (by omega) (by omega), w64 (x := (bins.length : Int) - 1) (by omega) (by omega)]
    refine ev_pos (by omega) (ev_pos (by omega) (ev_pos (by omega) ?_))
    by_cases h : inB bins (rd rows (n : Int)) = true
    · have h' : 0 ≤ rd rows (n : Int) ∧ rd rows (n : Int) ≤ (bins.length : Int) - 1 := by simpa [inB] using h
      refine ev_pos (by simpa using h') (ev_pos (by omega) (ev_pos (by omega) ?_))
      by_cases g : rd bins (rd rows (n : Int)) ≤ b
      · rw [(c1 h g).1, (c1 h g).2]
        refine ev_pos g (ev_pos (by omega) (ev_eq (ih (n + 1) (L ++ [rd rows (n : Int)]) R (by omega) (by simp; omega) (by omega)) ?_))
        simp
      · rw [(c2 h g).1, (c2 h g).2]
        refine ev_neg g (ev_pos (by omega) (ev_eq (ih (n + 1) L (R ++ [rd rows (n : Int)]) (by omega) (by omega) (by simp; omega)) ?_))
        simp
    · simp only [Bool.not_eq_true] at h
      rw [(c0 h).1, (c0 h).2]
      exact ev_neg (by simpa [inB] using h) (ih (n + 1) L R (by omega) (by omega) (by omega))
theorem implSplit (bins rows : List Int) (b : Int) (hb : bins.length ≤ 1048576) (hr : rows.length ≤ 1048576) : Ev (fun k => impl_SplitRows.f k bins rows b) (leftOf bins b rows, rightOf bins b rows) :=
  implSplit_l0 bins rows b hb hr rows.length 0 [] [] (by omega) (by simp) (by simp)

theorem FnExactSplitRows : laws_FnExactSplitRows.Pure := by
  intro bins rows b hm0 hl0 hw0 hm1 hl1 hw1 hb
  refine Ev.rounds ?_
  unfold laws_FnExactSplitRows.f
  by_cases b0 : (bins.length : Int) > 1048576
  · exact ev_pos b0 (Ev.now _)
  refine ev_neg b0 ?_
  by_cases b1 : (rows.length : Int) > 1048576
  · exact ev_pos b1 (Ev.now _)
  refine ev_neg b1 ?_
  have t0 := toIntS bins (by omega)
  have t1 := toIntS rows (by omega)
  have eS := specSplit bins rows b (by omega) (by omega)
  have eI := implSplit bins rows b (by omega) (by omega)
  have nL := leftOf_length bins b rows
  have nR := rightOf_length bins b rows
  generalize leftOf bins b rows = L at *
  generalize rightOf bins b rows = R at *
  refine Ev.bind t0 (Ev.bind t1 (Ev.bind eS (Ev.bind t0 (Ev.bind t1 (Ev.bind eI (Ev.bind (eqIntS _ (by simp only; omega)) (ev_pos rfl (Ev.bind (eqIntS _ (by simp only; omega)) ?_))))))))
  refine ev_succ ?_
  simp only [laws_FnExactSplitRows.j0]
  refine ev_neg (by simp) (Ev.bind t0 (Ev.bind (eqIntS _ (by omega)) (ev_pos rfl (Ev.bind t1 (Ev.bind (eqIntS _ (by omega)) (ev_pos rfl ?_))))))
  refine Ev.bind (markIntS bins 1 (by omega) (by omega)) (Ev.bind (markIntS rows _ (by omega) (by omega)) (ev_neg (by omega) (Ev.bind (eqIntS _ (by omega)) (ev_pos rfl (Ev.bind (eqIntS _ (by omega)) ?_)))))
  refine ev_succ ?_
  simp only [laws_FnExactSplitRows.j1]
  refine ev_neg (by simp) (Ev.bind (markIntS L 1 (by omega) (by omega)) (Ev.bind (markIntS R _ (by omega) (by omega)) ?_))
  refine Ev.bind (heldIntS _ 1 (by omega) (by omega)) (ev_neg (by omega) (Ev.bind (heldIntS _ _ (by omega) (by omega)) (ev_neg (by omega) (ev_pos rfl ?_))))
  refine Ev.bind t0 (Ev.bind t1 (Ev.bind eI (Ev.bind (eqIntS _ (by simp only; omega)) (ev_pos rfl (Ev.bind (eqIntS _ (by simp only; omega)) ?_)))))
  refine ev_succ ?_
  simp only [laws_FnExactSplitRows.j2]
  refine ev_neg (by simp) (Ev.bind (heldIntS _ 1 (by omega) (by omega)) (ev_neg (by omega) (Ev.bind (heldIntS _ _ (by omega) (by omega)) (ev_neg (by omega) (ev_pos rfl (Ev.now _))))))

end Go.Proofs.Ytloinhlkkbploaa.Pure
