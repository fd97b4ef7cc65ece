/- impl.HistOf returns what spec.HistOf returns, new memory, and leaves its slices as they were, for all arguments. Conditions: none but the row's own.
-/
import Derived.Test.YtohngimlmcdiiaaQx28
set_option linter.unusedVariables false
set_option linter.unusedSimpArgs false
namespace Go.Proofs.Ytohngimlmcdiiaa.Pure
open Go.RowKit Go.Proofs.Ytohngimlmcdiiaa.Q Go.Proofs.YtohngimlmcdiiaaW.PrintWords Go.Proofs.YtohngimlmcdiiaaW.PrintLast Go.Proofs.YtohngimlmcdiiaaW.PrintMore

theorem w64 {x : Int} (h1 : -9223372036854775808 ≤ x) (h2 : x ≤ 9223372036854775807) : wrap64 x = x := by unfold wrap64; omega
theorem i64_wf {x : Int} (h : (Lit.int .i64 x).wf = true) : -9223372036854775808 ≤ x ∧ x ≤ 9223372036854775807 := by
  simpa [Lit.wf, IntKind.min, IntKind.max, IntKind.signed, IntKind.bits] using h
theorem u8_wf {x : Int} (h : (Lit.int .u8 x).wf = true) : 0 ≤ x ∧ x ≤ 255 := by
  simpa [Lit.wf, IntKind.min, IntKind.max, IntKind.signed, IntKind.bits] using h
theorem rd_eq {xs : List Int} {i : Int} (h0 : 0 ≤ i) (h : i < (xs.length : Int)) : xs[i.toNat]? = some (rd xs i) := by
  unfold rd
  rw [List.getD_eq_getElem?_getD, List.getElem?_eq_getElem (by omega)]
  rfl
theorem rd_mem {xs : List Int} {i : Int} (h0 : 0 ≤ i) (h : i < (xs.length : Int)) : rd xs i ∈ xs := List.mem_of_getElem? (rd_eq h0 h)
theorem rd_of {xs : List Int} {n : Nat} {v : Int} (h : xs[n]? = some v) : rd xs (n : Int) = v := by
  unfold rd
  rw [List.getD_eq_getElem?_getD, Int.toNat_natCast, h]
  rfl
theorem ev_of {α : Type} {r : α} {p : Option α} (h : p = some r) : Ev (fun _ => p) r := ⟨0, fun _ _ => h⟩
theorem ev_end {α : Type} {g : Nat → Option α} {r : α} (h : ∀ k, g (k + 1) = some r) : Ev g r := Ev.step (f := fun _ => some r) h (Ev.now r)
theorem ev_pos {α : Type} {c : Prop} [Decidable c] {f g : Nat → Option α} {r : α} (hc : c) (h : Ev f r) : Ev (fun k => if c then f k else g k) r := Ev.congr (fun _ => if_pos hc) h
theorem ev_neg {α : Type} {c : Prop} [Decidable c] {f g : Nat → Option α} {r : α} (hc : ¬ c) (h : Ev g r) : Ev (fun k => if c then f k else g k) r := Ev.congr (fun _ => if_neg hc) h
theorem rd_drop {xs : List Int} {n : Nat} (h : n < xs.length) : xs.drop n = rd xs (n : Int) :: xs.drop (n + 1) := by
  rw [List.drop_eq_getElem_cons h]
  congr 1
  unfold rd
  rw [List.getD_eq_getElem?_getD, Int.toNat_natCast, List.getElem?_eq_getElem h]
  rfl
noncomputable def dec (p : Prop) : Bool := @decide p (Classical.propDecidable p)
theorem dec_true {p : Prop} (h : p) : dec p = true := @decide_eq_true p (Classical.propDecidable p) h
theorem dec_false {p : Prop} (h : ¬ p) : dec p = false := @decide_eq_false p (Classical.propDecidable p) h
theorem dec_iff {p : Prop} : dec p = true ↔ p := @decide_eq_true_iff p (Classical.propDecidable p)
theorem dec_congr {p q : Prop} (h : p ↔ q) : dec p = dec q := by rw [propext h]
theorem dec_eq {p : Prop} [Decidable p] : dec p = decide p := by
  by_cases h : p
  · rw [dec_true h, decide_eq_true h]
  · rw [dec_false h, decide_eq_false h]
theorem ev_succ {α : Type} {g : Nat → Option α} {r : α} (h : Ev (fun k => g (k + 1)) r) : Ev g r := by
  obtain ⟨K, h⟩ := h
  refine ⟨K + 1, fun n hn => ?_⟩
  obtain ⟨m, rfl⟩ : ∃ m, n = m + 1 := ⟨n - 1, by omega⟩
  exact h m (by omega)
theorem ev_eq {α : Type} {g : Nat → Option α} {r r' : α} (h : Ev g r) (e : r = r') : Ev g r' := e ▸ h
theorem gd_eq {α : Type} (z : α) {xs : List α} {i : Int} (h0 : 0 ≤ i) (h : i < (xs.length : Int)) : xs[i.toNat]? = some (xs.getD i.toNat z) := by
  rw [List.getD_eq_getElem?_getD, List.getElem?_eq_getElem (by omega)]
  rfl
theorem gd_nat {α : Type} (z : α) {xs : List α} {n : Nat} {v : α} (h : xs[n]? = some v) : xs.getD ((n : Int)).toNat z = v := by
  rw [List.getD_eq_getElem?_getD, Int.toNat_natCast, h]
  rfl
theorem gd_drop {α : Type} (z : α) {xs : List α} {n : Nat} (h : n < xs.length) : xs.drop n = xs.getD ((n : Int)).toNat z :: xs.drop (n + 1) := by
  rw [List.drop_eq_getElem_cons h]
  congr 1
  exact (gd_nat z (List.getElem?_eq_getElem h)).symm
/-- A loop that copies: place after place is set. -/
theorem copy_loop {α β : Type} (F : Nat → List β → Int → Option (List β)) (l : List α) (g : α → β)
    (hend : ∀ acc : List β, acc.length = l.length → Ev (fun k => F k acc (l.length : Int)) acc)
    (hstep : ∀ (acc : List β) (n : Nat) (x : α) (r : List β), n < l.length → acc.length = l.length → l[n]? = some x → Ev (fun k => F k (acc.set n (g x)) ((n + 1 : Nat) : Int)) r → Ev (fun k => F k acc (n : Int)) r) :
    ∀ (d n : Nat) (acc : List β), n + d = l.length → acc.length = l.length → (∀ j, j < n → acc[j]? = (l.map g)[j]?) → Ev (fun k => F k acc (n : Int)) (l.map g) := by
  intro d
  induction d with
  | zero =>
    intro n acc hn ha hp
    obtain rfl : n = l.length := by omega
    refine ev_eq (hend acc ha) (List.ext_getElem? fun j => ?_)
    by_cases h : j < l.length
    · exact hp j h
    · rw [List.getElem?_eq_none (by omega), List.getElem?_eq_none (by simp; omega)]
  | succ d ih =>
    intro n acc hn ha hp
    have hx : l[n]? = some l[n] := List.getElem?_eq_getElem (by omega)
    refine hstep acc n l[n] _ (by omega) ha hx (ih (n + 1) _ (by omega) (by simpa using ha) ?_)
    intro j hj
    rw [List.getElem?_set]
    by_cases h : n = j
    · subst h
      rw [if_pos rfl, if_pos (by omega), List.getElem?_map, hx]
      rfl
    · rw [if_neg h]
      exact hp j (by omega)
/-- A loop that tests place after place. -/
theorem all_loop (F : Nat → Int → Option Bool) (L : Nat) (p : Nat → Prop) (hend : Ev (fun k => F k (L : Int)) true)
    (hyes : ∀ (n : Nat) (r : Bool), n < L → p n → Ev (fun k => F k ((n + 1 : Nat) : Int)) r → Ev (fun k => F k (n : Int)) r)
    (hno : ∀ n : Nat, n < L → ¬ p n → Ev (fun k => F k (n : Int)) false) :
    ∀ (d n : Nat), n + d = L → Ev (fun k => F k (n : Int)) (dec (∀ j, n ≤ j → j < L → p j)) := by
  intro d
  induction d with
  | zero =>
    intro n hn
    obtain rfl : n = L := by omega
    exact ev_eq hend (dec_true (fun j h1 h2 => by omega)).symm
  | succ d ih =>
    intro n hn
    by_cases h : p n
    · refine hyes n _ (by omega) h (ev_eq (ih (n + 1) (by omega)) (dec_congr ⟨fun g j h1 h2 => ?_, fun g j h1 h2 => g j (by omega) h2⟩))
      by_cases e : j = n
      · exact e ▸ h
      · exact g j (by omega) h2
    · exact ev_eq (hno n (by omega) h) (dec_false (fun g => h (g n (Nat.le_refl _) (by omega)))).symm
/-- A loop that goes round L times over a state. -/
theorem fold_loop {σ ρ : Type} (F : Nat → σ → Int → Option ρ) (L : Nat) (S : Nat → σ) (r : ρ) (hend : Ev (fun k => F k (S L) (L : Int)) r)
    (hstep : ∀ n : Nat, n < L → Ev (fun k => F k (S (n + 1)) ((n + 1 : Nat) : Int)) r → Ev (fun k => F k (S n) (n : Int)) r) :
    ∀ (d n : Nat), n + d = L → Ev (fun k => F k (S n) (n : Int)) r := by
  intro d
  induction d with
  | zero =>
    intro n hn
    obtain rfl : n = L := by omega
    exact hend
  | succ d ih =>
    intro n hn
    exact hstep n (by omega) (ih (n + 1) (by omega))
theorem set_mid {α : Type} (a b : List α) (x v : α) {n : Nat} (h : a.length = n) : (a ++ x :: b).set n v = a ++ v :: b := by
  subst h
  rw [List.set_append_right _ _ (Nat.le_refl _), Nat.sub_self]
  rfl
theorem get_mid {α : Type} (a b : List α) (x : α) {n : Nat} (h : a.length = n) : (a ++ x :: b)[n]? = some x := by
  subst h
  rw [List.getElem?_append_right (Nat.le_refl _), Nat.sub_self]
  rfl
/-- A loop that tests place after place, and one thing more at its end. -/
theorem all_loop2 (F : Nat → Int → Option Bool) (L : Nat) (p : Nat → Prop) (E : Prop) (hend : Ev (fun k => F k (L : Int)) (dec E))
    (hyes : ∀ (n : Nat) (r : Bool), n < L → p n → Ev (fun k => F k ((n + 1 : Nat) : Int)) r → Ev (fun k => F k (n : Int)) r)
    (hno : ∀ n : Nat, n < L → ¬ p n → Ev (fun k => F k (n : Int)) false) :
    ∀ (d n : Nat), n + d = L → Ev (fun k => F k (n : Int)) (dec ((∀ j, n ≤ j → j < L → p j) ∧ E)) := by
  intro d
  induction d with
  | zero =>
    intro n hn
    obtain rfl : n = L := by omega
    exact ev_eq hend (dec_congr ⟨fun h => ⟨fun j h1 h2 => by omega, h⟩, fun h => h.2⟩)
  | succ d ih =>
    intro n hn
    by_cases h : p n
    · refine hyes n _ (by omega) h (ev_eq (ih (n + 1) (by omega)) (dec_congr ⟨fun g => ⟨fun j h1 h2 => ?_, g.2⟩, fun g => ⟨fun j h1 h2 => g.1 j (by omega) h2, g.2⟩⟩))
      by_cases e : j = n
      · exact e ▸ h
      · exact g.1 j (by omega) h2
    · exact ev_eq (hno n (by omega) h) (dec_false (fun g => h (g.1 n (Nat.le_refl _) (by omega)))).symm
theorem toIntS_l0 (l : List Int) (hl : l.length ≤ 35184372088832) : ∀ (d n : Nat) (acc : List Int), n + d = l.length → acc.length = l.length → (∀ j, j < n → acc[j]? = l[j]?) → Ev (fun k => laws_toIntS.l0 k l acc (n : Int)) l := by
  intro d
  induction d with
  | zero =>
    intro n acc hn ha hp
    refine ev_end fun k => ?_
    simp only [laws_toIntS.l0]
    rw [if_neg (by omega)]
    congr 1
    exact List.ext_getElem? fun j => by
      by_cases h : j < n
      · exact hp j h
      · rw [List.getElem?_eq_none (by omega), List.getElem?_eq_none (by omega)]
  | succ d ih =>
    intro n acc hn ha hp
    refine Ev.step (fun k => ?_) (ih (n + 1) (acc.set n (rd l n)) (by omega) (by simpa using ha) ?_)
    · simp only [laws_toIntS.l0]
      rw [if_pos (by omega), if_pos (by omega), if_pos (by omega), w64 (by omega) (by omega)]
      rfl
    intro j hj
    rw [List.getElem?_set]
    by_cases h : j = n
    · subst h
      rw [if_pos (by omega), if_pos (by omega), ← rd_eq (by omega) (by omega)]
      simp
    · rw [if_neg (by omega)]
      exact hp j (by omega)
theorem toIntS (l : List Int) (hl : l.length ≤ 35184372088832) : Ev (fun k => laws_toIntS.f k l) l := by
  refine Ev.congr (fun k => ?_) (toIntS_l0 l hl l.length 0 (List.replicate l.length 0) (by omega) (by simp) (fun j h => by omega))
  unfold laws_toIntS.f
  rw [if_pos (by omega), if_pos (by omega)]
  rfl
theorem eqIntS_l0 (l : List Int) (hl : l.length ≤ 35184372088832) : ∀ (d n : Nat), n + d = l.length → Ev (fun k => laws_eqIntS.l0 k l l (n : Int)) true := by
  intro d
  induction d with
  | zero =>
    intro n hn
    refine ev_end fun k => ?_
    simp only [laws_eqIntS.l0]
    rw [if_neg (by omega)]
  | succ d ih =>
    intro n hn
    refine Ev.step (fun k => ?_) (ih (n + 1) (by omega))
    simp only [laws_eqIntS.l0]
    rw [if_pos (by omega), if_pos (by omega), if_pos (by omega), if_pos trivial, w64 (by omega) (by omega)]
    rfl
theorem eqIntS (l : List Int) (hl : l.length ≤ 35184372088832) : Ev (fun k => laws_eqIntS.f k l l) true := by
  refine Ev.congr (fun k => ?_) (eqIntS_l0 l hl l.length 0 (by omega))
  unfold laws_eqIntS.f
  rw [if_pos rfl]
  rfl
/-- The numbers from m on, n of them. -/
def marked (m : Int) : Nat → List Int
  | 0 => []
  | n + 1 => m :: marked (m + 1) n
theorem marked_length (m : Int) (n : Nat) : (marked m n).length = n := by
  induction n generalizing m with
  | zero => rfl
  | succ n ih => simp [marked, ih]
theorem marked_get (m : Int) (n j : Nat) (h : j < n) : (marked m n)[j]? = some (m + (j : Int)) := by
  induction n generalizing m j with
  | zero => omega
  | succ n ih =>
    cases j with
    | zero => simp [marked]
    | succ j =>
      simp only [marked, List.getElem?_cons_succ]
      rw [ih (m + 1) j (by omega)]
      congr 1
      omega
theorem marked_snoc (m : Int) (n : Nat) : marked m (n + 1) = marked m n ++ [m + (n : Int)] := by
  induction n generalizing m with
  | zero => simp [marked]
  | succ n ih =>
    rw [marked, ih (m + 1)]
    simp only [marked, List.cons_append, List.cons.injEq, true_and, List.append_cancel_left_eq, and_true]
    omega
theorem rd_marked {m : Int} {n : Nat} {j : Int} (h0 : 0 ≤ j) (h : j < (n : Int)) : rd (marked m n) j = m + j := by
  obtain ⟨i, rfl⟩ := Int.eq_ofNat_of_zero_le h0
  exact rd_of (marked_get m n i (by omega))
theorem markIntS_l0 (m : Int) (hm : 0 ≤ m) : ∀ (d n : Nat) (x : List Int), n + d = x.length → m + x.length ≤ 35184372088832 → (∀ j : Nat, j < n → x[j]? = some (m + (j : Int))) →
    Ev (fun k => laws_markIntS.l0 k x (m + (n : Int)) (n : Int)) (m + (x.length : Int), marked m x.length) := by
  intro d
  induction d with
  | zero =>
    intro n x hn hl hp
    refine ev_end fun k => ?_
    simp only [laws_markIntS.l0]
    rw [if_neg (by omega)]
    obtain rfl : n = x.length := by omega
    congr 2
    exact List.ext_getElem? fun j => by
      by_cases h : j < x.length
      · rw [hp j h, marked_get _ _ _ h]
      · rw [List.getElem?_eq_none (by omega), List.getElem?_eq_none (by rw [marked_length]; omega)]
  | succ d ih =>
    intro n x hn hl hp
    have hlen : (x.set n (m + (n : Int))).length = x.length := by simp
    have := ih (n + 1) (x.set n (m + (n : Int))) (by rw [hlen]; omega) (by rw [hlen]; omega) (by
      intro j hj
      rw [List.getElem?_set]
      by_cases h : j = n
      · subst h
        rw [if_pos (by omega), if_pos (by omega)]
      · rw [if_neg (by omega)]
        exact hp j (by omega))
    rw [hlen] at this
    refine Ev.step (fun k => ?_) this
    simp only [laws_markIntS.l0]
    rw [if_pos (by omega), if_pos (by omega), w64 (x := (n : Int) + 1) (by omega) (by omega), w64 (by omega) (by omega)]
    have e : m + (n : Int) + 1 = m + ((n + 1 : Nat) : Int) := by omega
    rw [e]
    rfl
theorem markIntS (l : List Int) (m : Int) (hm : 0 ≤ m) (hl : m + l.length ≤ 35184372088832) : Ev (fun k => laws_markIntS.f k l m) (m + (l.length : Int), marked m l.length) := by
  have := markIntS_l0 m hm l.length 0 l (by omega) hl (fun j h => by omega)
  exact Ev.congr (fun k => by unfold laws_markIntS.f; simp) this
theorem rdi (xs : List S41) (i : Int) : rd_T41 xs i = xs.getD i.toNat z41 := rfl
theorem eqSlotS (l : List S41) (hl : l.length ≤ 17592186044416) : Ev (fun k => laws_eqSlotS.f k l l) true := by
  unfold laws_eqSlotS.f
  refine ev_pos rfl ?_
  refine ev_eq (all_loop (fun k i => laws_eqSlotS.l0 k l l i) l.length (fun _ => True) ?_ ?_ ?_ l.length 0 (by omega)) (dec_true (fun _ _ _ => trivial))
  · refine ev_succ ?_
    simp only [laws_eqSlotS.l0]
    exact ev_neg (by omega) (Ev.now _)
  · intro n r hn _ h
    refine ev_succ ?_
    simp only [laws_eqSlotS.l0, laws_eqSlot.f, if_true, Option.bind_some]
    refine ev_pos (by omega) (ev_pos (by omega) (ev_pos (by omega) ?_))
    rw [w64 (x := (n : Int) + 1) (by omega) (by omega)]
    exact h
  · intro n hn h
    exact absurd trivial h
def markedS (m : Int) : Nat → List S41
  | 0 => []
  | n + 1 => ⟨m, m + 1⟩ :: markedS (m + 2) n
theorem markedS_length (m : Int) (n : Nat) : (markedS m n).length = n := by
  induction n generalizing m with
  | zero => rfl
  | succ n ih => simp [markedS, ih]
theorem markedS_get (m : Int) (n j : Nat) (h : j < n) : (markedS m n)[j]? = some ⟨m + 2 * (j : Int), m + 2 * (j : Int) + 1⟩ := by
  induction n generalizing m j with
  | zero => omega
  | succ n ih =>
    cases j with
    | zero => simp [markedS]
    | succ j =>
      simp only [markedS, List.getElem?_cons_succ]
      rw [ih (m + 2) j (by omega)]
      congr 2 <;> omega
theorem markedS_snoc (m : Int) (n : Nat) : markedS m (n + 1) = markedS m n ++ [⟨m + 2 * (n : Int), m + 2 * (n : Int) + 1⟩] := by
  induction n generalizing m with
  | zero => simp [markedS]
  | succ n ih =>
    rw [markedS, ih (m + 2)]
    simp only [markedS, List.cons_append, List.cons.injEq, true_and, List.append_cancel_left_eq, and_true, S41.mk.injEq]
    omega
theorem markSlotS (l : List S41) (m : Int) (hm : 0 ≤ m) (hl : m + 2 * l.length ≤ 35184372088832) : Ev (fun k => laws_markSlotS.f k l m) (m + 2 * (l.length : Int), markedS m l.length) := by
  unfold laws_markSlotS.f
  have key := fold_loop (fun k (s : List S41 × Int) i => laws_markSlotS.l0 k s.1 s.2 i) l.length (fun n => (markedS m n ++ l.drop n, m + 2 * (n : Int))) (m + 2 * (l.length : Int), markedS m l.length) ?_ ?_ l.length 0 (by omega)
  · simpa [markedS] using key
  · refine ev_succ ?_
    simp only [laws_markSlotS.l0]
    refine ev_neg (by simp [markedS_length]) (ev_of ?_)
    simp
  · intro n hn h
    refine ev_succ ?_
    simp only at h ⊢
    have hlen : (markedS m n ++ l.drop n).length = l.length := by simp [markedS_length]; omega
    have hx : l.drop n = l[n] :: l.drop (n + 1) := List.drop_eq_getElem_cons hn
    simp only [laws_markSlotS.l0, Option.bind_some, rdi, Int.toNat_natCast]
    refine ev_pos (by omega) (ev_pos (by omega) ?_)
    rw [hx, set_mid _ _ _ _ (markedS_length m n)]
    rw [set_mid _ _ _ _ (markedS_length m n)]
    rw [w64 (x := m + 2 * (n : Int) + 1) (by omega) (by omega), w64 (x := m + 2 * (n : Int) + 1 + 1) (by omega) (by omega), w64 (x := (n : Int) + 1) (by omega) (by omega)]
    have e1 := gd_nat z41 (get_mid (markedS m n) (l.drop (n + 1)) (⟨m + 2 * (n : Int), ((markedS m n ++ l[n] :: l.drop (n + 1)).getD n z41).f1⟩ : S41) (markedS_length m n))
    simp only [Int.toNat_natCast] at e1
    rw [e1]
    simp only
    have e2 : markedS m n ++ (⟨m + 2 * (n : Int), m + 2 * (n : Int) + 1⟩ : S41) :: l.drop (n + 1) = markedS m (n + 1) ++ l.drop (n + 1) := by rw [markedS_snoc]; simp
    have e3 : m + 2 * (n : Int) + 1 + 1 = m + 2 * ((n + 1 : Nat) : Int) := by omega
    rw [e2, e3]
    exact h
theorem heldSlotS (m : Int) (N : Nat) (hm : 0 ≤ m) (hl : m + 2 * N ≤ 35184372088832) : Ev (fun k => laws_heldSlotS.f k (markedS m N) m) (m + 2 * (N : Int)) := by
  unfold laws_heldSlotS.f
  have key := fold_loop (fun k (s : Int) i => laws_heldSlotS.l0 k (markedS m N) s i) N (fun n => m + 2 * (n : Int)) (m + 2 * (N : Int)) ?_ ?_ N 0 (by omega)
  · simpa using key
  · refine ev_succ ?_
    simp only [laws_heldSlotS.l0]
    exact ev_neg (by rw [markedS_length]; omega) (Ev.now _)
  · intro n hn h
    refine ev_succ ?_
    simp only [laws_heldSlotS.l0, rdi, gd_nat z41 (markedS_get m N n hn)]
    rw [w64 (x := m + 2 * (n : Int) + 1) (by omega) (by omega), w64 (x := m + 2 * (n : Int) + 1 + 1) (by omega) (by omega), w64 (x := (n : Int) + 1) (by omega) (by omega)]
    refine ev_pos (by rw [markedS_length]; omega) (ev_pos (by omega) (ev_pos trivial (ev_pos rfl ?_)))
    have e3 : m + 2 * (n : Int) + 1 + 1 = m + 2 * ((n + 1 : Nat) : Int) := by omega
    rw [e3]
    exact h
/-- The sum and true; 0 and false where it has no room. -/
def addI (a b : Int) : Int × Bool := if -9223372036854775808 ≤ a + b ∧ a + b ≤ 9223372036854775807 then (a + b, true) else (0, false)
def subI (a b : Int) : Int × Bool := if -9223372036854775808 ≤ a - b ∧ a - b ≤ 9223372036854775807 then (a - b, true) else (0, false)
def I64 (a : Int) : Prop := -9223372036854775808 ≤ a ∧ a ≤ 9223372036854775807
theorem addI_i64 (a b : Int) : I64 (addI a b).1 := by
  unfold addI I64
  split
  · assumption
  · exact ⟨by decide, by decide⟩
theorem subI_i64 (a b : Int) : I64 (subI a b).1 := by
  unfold subI I64
  split
  · assumption
  · exact ⟨by decide, by decide⟩
theorem wrap_over {x : Int} (h1 : 9223372036854775807 < x) (h2 : x < 27670116110564327424) : wrap64 x = x - 18446744073709551616 := by unfold wrap64; omega
theorem wrap_under {x : Int} (h1 : x < -9223372036854775808) (h2 : -27670116110564327424 ≤ x) : wrap64 x = x + 18446744073709551616 := by unfold wrap64; omega
/-- Slots of whole numbers. -/
def SOk (l : List S41) : Prop := ∀ x ∈ l, I64 x.f0 ∧ I64 x.f1
theorem SOk.at {l : List S41} (h : SOk l) {n : Nat} {x : S41} (e : l[n]? = some x) : I64 x.f0 ∧ I64 x.f1 := h x (List.mem_of_getElem? e)
/-- Two slots together. -/
def plusS (n g n' g' : Int) : Int × Int × Bool := if (addI n n').2 = true ∧ (addI g g').2 = true then ((addI n n').1, (addI g g').1, true) else (0, 0, false)
theorem plusS_i64 (n g n' g' : Int) : I64 (plusS n g n' g').1 ∧ I64 (plusS n g n' g').2.1 := by
  unfold plusS
  split
  · exact ⟨addI_i64 _ _, addI_i64 _ _⟩
  · exact ⟨⟨by decide, by decide⟩, ⟨by decide, by decide⟩⟩
theorem at_set {α : Type} (z : α) (l : List α) (i j : Nat) (v : α) (hi : i < l.length) : (l.set i v).getD j z = if i = j then v else l.getD j z := by
  rw [List.getD_eq_getElem?_getD, List.getElem?_set, List.getD_eq_getElem?_getD]
  by_cases h : i = j
  · subst h
    rw [if_pos rfl, if_pos hi, if_pos rfl]
    rfl
  · rw [if_neg h, if_neg h]
/-- A row that the histogram may take. -/
def RowIn (bins grads : List Int) (n r : Int) : Prop := (0 ≤ r ∧ r < (bins.length : Int) ∧ r < (grads.length : Int)) ∧ (0 ≤ rd bins r ∧ rd bins r < n)
/-- The slot of a row's bin with the row. -/
def stepS (bins grads : List Int) (r : Int) (acc : List S41) : Int × Int × Bool :=
  plusS (acc.getD (rd bins r).toNat z41).f0 (acc.getD (rd bins r).toNat z41).f1 1 (rd grads r)
open Classical in
noncomputable def histGo (bins grads : List Int) (n : Int) : List Int → List S41 → List S41 × Bool
  | [], acc => (acc, true)
  | r :: rows, acc => if RowIn bins grads n r ∧ (stepS bins grads r acc).2.2 = true then histGo bins grads n rows (acc.set (rd bins r).toNat ⟨(stepS bins grads r acc).1, (stepS bins grads r acc).2.1⟩) else ([], false)
open Classical in
noncomputable def histOf (bins grads rows : List Int) (n : Int) : List S41 × Bool := if 1 ≤ n ∧ n ≤ 8 then histGo bins grads n rows (List.replicate n.toNat z41) else ([], false)
theorem histGo_length (bins grads : List Int) (n : Int) (rows : List Int) (acc : List S41) : (histGo bins grads n rows acc).1.length ≤ acc.length ∧ ((histGo bins grads n rows acc).2 = true → (histGo bins grads n rows acc).1.length = acc.length) := by
  induction rows generalizing acc with
  | nil => simp [histGo]
  | cons r rows ih =>
    simp only [histGo]
    split
    · have := ih (acc.set (rd bins r).toNat ⟨(stepS bins grads r acc).1, (stepS bins grads r acc).2.1⟩)
      simpa using this
    · simp
theorem histOf_length (bins grads rows : List Int) (n : Int) : (histOf bins grads rows n).1.length ≤ 8 ∧ ((histOf bins grads rows n).2 = true → ((histOf bins grads rows n).1.length : Int) = n) := by
  unfold histOf
  by_cases h : 1 ≤ n ∧ n ≤ 8
  · rw [if_pos h]
    have := histGo_length bins grads n rows (List.replicate n.toNat z41)
    simp only [List.length_replicate] at this
    exact ⟨by omega, fun g => by have := this.2 g; omega⟩
  · rw [if_neg h]; simp
theorem histGo_false (bins grads : List Int) (n : Int) (rows : List Int) (acc : List S41) (h : (histGo bins grads n rows acc).2 ≠ true) : (histGo bins grads n rows acc).1 = [] := by
  induction rows generalizing acc with
  | nil => simp [histGo] at h
  | cons r rows ih =>
    simp only [histGo] at h ⊢
    split at h
    · rename_i c; rw [if_pos c]; exact ih _ h
    · rename_i c; rw [if_neg c]
theorem histOf_false (bins grads rows : List Int) (n : Int) (h : (histOf bins grads rows n).2 ≠ true) : (histOf bins grads rows n).1 = [] := by
  unfold histOf at h ⊢
  by_cases c : 1 ≤ n ∧ n ≤ 8
  · rw [if_pos c] at h ⊢; exact histGo_false _ _ _ _ _ h
  · rw [if_neg c]
theorem SOk_rep (n : Nat) : SOk (List.replicate n z41) := by
  intro x hx
  rw [(List.mem_replicate.1 hx).2]
  exact ⟨⟨by decide, by decide⟩, ⟨by decide, by decide⟩⟩
theorem SOk_set {l : List S41} (h : SOk l) {x : S41} (h0 : I64 x.f0) (h1 : I64 x.f1) (n : Nat) : SOk (l.set n x) := by
  intro y hy
  rcases List.mem_or_eq_of_mem_set hy with hy | rfl
  · exact h y hy
  · exact ⟨h0, h1⟩
theorem SOk_at {l : List S41} (h : SOk l) (j : Nat) : I64 (l.getD j z41).f0 ∧ I64 (l.getD j z41).f1 := by
  rw [List.getD_eq_getElem?_getD]
  cases e : l[j]? with
  | none => exact ⟨⟨by decide, by decide⟩, ⟨by decide, by decide⟩⟩
  | some x => exact h.at e
theorem histGo_ok (bins grads : List Int) (n : Int) (rows : List Int) (acc : List S41) (h : SOk acc) : SOk (histGo bins grads n rows acc).1 := by
  induction rows generalizing acc with
  | nil => simpa [histGo] using h
  | cons r rows ih =>
    simp only [histGo]
    split
    · exact ih _ (SOk_set h (plusS_i64 _ _ _ _).1 (plusS_i64 _ _ _ _).2 _)
    · intro x hx; simp at hx
theorem histOf_ok (bins grads rows : List Int) (n : Int) : SOk (histOf bins grads rows n).1 := by
  unfold histOf
  split
  · exact histGo_ok _ _ _ _ _ (SOk_rep _)
  · intro x hx; simp at hx
theorem specAddInt {a b : Int} (ha : I64 a) (hb : I64 b) : spec_AddInt.f a b = some (addI a b) := by
  unfold I64 at ha hb
  unfold spec_AddInt.f addI
  by_cases h1 : b > 0
  · rw [if_pos h1, w64 (x := 9223372036854775807 - b) (by omega) (by omega)]
    by_cases h2 : a > 9223372036854775807 - b
    · rw [if_pos h2, if_neg (by omega)]
    · rw [if_neg h2, if_neg (by omega), if_pos (by omega), w64 (by omega) (by omega)]
  · rw [if_neg h1]
    by_cases h2 : b < 0
    · rw [if_pos h2, w64 (x := -9223372036854775808 - b) (by omega) (by omega)]
      by_cases h3 : a < -9223372036854775808 - b
      · rw [if_pos h3, if_neg (by omega)]
      · rw [if_neg h3, if_pos (by omega), w64 (by omega) (by omega)]
    · rw [if_neg h2, if_pos (by omega), w64 (by omega) (by omega)]
theorem specAdd13 {n g n' g' : Int} (h1 : I64 n) (h2 : I64 g) (h3 : I64 n') (h4 : I64 g') : spec_l13Add.f n g n' g' = some (plusS n g n' g') := by
  unfold spec_l13Add.f plusS
  simp only [specAddInt h1 h3, specAddInt h2 h4, Option.bind_some]
  by_cases a : (addI n n').2 = true
  · by_cases b : (addI g g').2 = true
    · rw [if_pos a, if_pos b, if_pos ⟨a, b⟩]
    · rw [if_pos a, if_neg b, if_neg (fun z => b z.2)]
  · rw [if_neg a, if_neg (fun z => a z.1)]
theorem specIn (a b c : Int) : spec_l1In.f a b c = some (decide (b ≤ a ∧ a ≤ c)) := by
  unfold spec_l1In.f
  by_cases h : b ≤ a
  · rw [if_pos h]; simp [h]
  · rw [if_neg h]; simp [h]
theorem rd_i64 {l : List Int} (h : ∀ x ∈ l, I64 x) (i : Int) : I64 (rd l i) := by
  show I64 (l.getD i.toNat 0)
  rw [List.getD_eq_getElem?_getD]
  cases e : l[i.toNat]? with
  | none => exact ⟨by decide, by decide⟩
  | some x => exact h x (List.mem_of_getElem? e)
theorem specHist_stop (bins grads rows : List Int) (acc : List S41) (n i r : Int) : Ev (fun k => spec_HistOf.j1 k bins grads rows n [] acc i r true) ([], false) :=
  ev_end fun k => by simp only [spec_HistOf.j1]; rw [if_pos trivial]
theorem specHist_l0 (bins grads rows : List Int) (n : Int) (hb : bins.length ≤ 1048576) (hg : grads.length ≤ 1048576) (hr : rows.length ≤ 1048576) (g64 : ∀ x ∈ grads, I64 x) (hn : 1 ≤ n ∧ n ≤ 8) :
    ∀ (d m : Nat) (acc : List S41), m + d = rows.length → (acc.length : Int) = n → SOk acc → Ev (fun k => spec_HistOf.l0 k bins grads rows n [] acc (m : Int)) (histGo bins grads n (rows.drop m) acc) := by
  intro d
  induction d with
  | zero =>
    intro m acc hm hl ho
    obtain rfl : m = rows.length := by omega
    refine ev_succ ?_
    simp only [spec_HistOf.l0]
    refine ev_neg (by omega) (ev_of ?_)
    rw [List.drop_length]; rfl
  | succ d ih =>
    intro m acc hm hl ho
    refine ev_succ ?_
    have d1 := rd_drop (xs := rows) (n := m) (by omega)
    rw [d1]
    simp only [spec_HistOf.l0, specIn, Option.bind_some, histGo]
    generalize rd rows (m : Int) = r
    rw [w64 (x := (bins.length : Int) - 1) (by omega) (by omega), w64 (x := (grads.length : Int) - 1) (by omega) (by omega), w64 (x := n - 1) (by omega) (by omega)]
    refine ev_pos (by omega) (ev_pos (by omega) ?_)
    by_cases c1 : 0 ≤ r ∧ r ≤ (bins.length : Int) - 1
    · refine ev_pos (by simpa using c1) ?_
      by_cases c2 : 0 ≤ r ∧ r ≤ (grads.length : Int) - 1
      · refine ev_pos (by simpa using c2) (ev_pos (by omega) (ev_pos (by omega) ?_))
        by_cases c3 : 0 ≤ rd bins r ∧ rd bins r ≤ n - 1
        · rw [show (!decide (0 ≤ rd bins r ∧ rd bins r ≤ n - 1)) = false by simpa using c3]
          have hR : RowIn bins grads n r := ⟨by omega, by omega⟩
          refine ev_succ ?_
          simp only [spec_HistOf.j1, rdi]
          rw [specAdd13 (SOk_at ho _).1 (SOk_at ho _).2 ⟨by decide, by decide⟩ (rd_i64 g64 r)]
          simp only [Option.bind_some]
          refine ev_neg (by decide) (ev_pos (by omega) (ev_pos (by omega) (ev_pos (by omega) (ev_pos (by omega) (ev_pos (by omega) ?_)))))
          unfold stepS
          by_cases c4 : (plusS (acc.getD (rd bins r).toNat z41).f0 (acc.getD (rd bins r).toNat z41).f1 1 (rd grads r)).2.2 = true
          · refine ev_pos c4 ?_
            rw [if_pos ⟨hR, c4⟩, w64 (x := (m : Int) + 1) (by omega) (by omega)]
            exact ih (m + 1) _ (by omega) (by simpa using hl) (SOk_set ho (plusS_i64 _ _ _ _).1 (plusS_i64 _ _ _ _).2 _)
          · refine ev_neg c4 (ev_of ?_)
            rw [if_neg (fun z => c4 z.2)]
        · rw [show (!decide (0 ≤ rd bins r ∧ rd bins r ≤ n - 1)) = true by rw [decide_eq_false c3]; rfl, if_neg (fun z => c3 (by have := z.1.2; omega))]
          exact specHist_stop _ _ _ _ _ _ _
      · rw [if_neg (fun z => c2 (by have := z.1.1; omega))]
        exact ev_neg (by simpa using c2) (specHist_stop _ _ _ _ _ _ _)
    · rw [if_neg (fun z => c1 (by have := z.1.1; omega))]
      exact ev_neg (by simpa using c1) (specHist_stop _ _ _ _ _ _ _)
theorem specHistOf (bins grads rows : List Int) (n : Int) (hb : bins.length ≤ 1048576) (hg : grads.length ≤ 1048576) (hr : rows.length ≤ 1048576) (g64 : ∀ x ∈ grads, I64 x) : Ev (fun k => spec_HistOf.f k bins grads rows n) (histOf bins grads rows n) := by
  unfold spec_HistOf.f histOf
  simp only [specIn, Option.bind_some]
  by_cases h : 1 ≤ n ∧ n ≤ 8
  · rw [if_pos h]
    refine ev_pos (by simpa using h) (ev_pos (by omega) (ev_pos (by omega) ?_))
    exact specHist_l0 bins grads rows n hb hg hr g64 h rows.length 0 _ (by omega) (by simp; omega) (SOk_rep _)
  · rw [if_neg h]
    exact ev_neg (by simpa using h) (Ev.now _)
theorem implAddInt {a b : Int} (ha : I64 a) (hb : I64 b) : impl_AddInt.f a b = some (addI a b) := by
  unfold I64 at ha hb
  unfold impl_AddInt.f addI
  by_cases h : -9223372036854775808 ≤ a + b ∧ a + b ≤ 9223372036854775807
  · rw [if_pos h, w64 h.1 h.2]
    split
    · rename_i h1
      rw [if_neg]
      simp only [beq_iff_eq, decide_eq_decide] at h1
      simp only [bne_iff_ne, ne_eq, decide_eq_decide, Decidable.not_not]
      omega
    · rfl
  · rw [if_neg h]
    have h2 : a + b < -9223372036854775808 ∨ 9223372036854775807 < a + b := by omega
    rw [if_pos (by simp only [beq_iff_eq, decide_eq_decide]; omega)]
    rcases h2 with h2 | h2
    · rw [wrap_under h2 (by omega), if_pos]
      simp only [bne_iff_ne, ne_eq, decide_eq_decide]
      omega
    · rw [wrap_over h2 (by omega), if_pos]
      simp only [bne_iff_ne, ne_eq, decide_eq_decide]
      omega
theorem implPlus {n g n' g' : Int} (h1 : I64 n) (h2 : I64 g) (h3 : I64 n') (h4 : I64 g') : impl_Slot_plus.f n g n' g' = some (plusS n g n' g') := by
  unfold impl_Slot_plus.f plusS
  simp only [implAddInt h1 h3, implAddInt h2 h4, Option.bind_some]
  by_cases a : (addI n n').2 = true
  · by_cases b : (addI g g').2 = true
    · rw [if_pos a, if_pos b, if_pos ⟨a, b⟩]
    · rw [if_pos a, if_neg b, if_neg (fun z => b z.2)]
  · rw [if_neg a, if_neg (fun z => a z.1)]
theorem implWithin (a b c : Int) : impl_within.f a b c = some (decide (b ≤ a ∧ a ≤ c)) := by
  unfold impl_within.f
  by_cases h : b ≤ a
  · rw [if_pos h]; simp [h]
  · rw [if_neg h]; simp [h]
theorem implHist_stop (bins grads : List Int) (rows : List Int) (acc : List S41) (n i r L : Int) : Ev (fun k => impl_HistOf.j1 k bins grads n acc r rows L i true) ([], false) :=
  ev_end fun k => by simp only [impl_HistOf.j1]; rw [if_pos trivial]
theorem implHist_l0 (bins grads rows : List Int) (n : Int) (hb : bins.length ≤ 1048576) (hg : grads.length ≤ 1048576) (hr : rows.length ≤ 1048576) (g64 : ∀ x ∈ grads, I64 x) (hn : 1 ≤ n ∧ n ≤ 8) :
    ∀ (d m : Nat) (acc : List S41), m + d = rows.length → (acc.length : Int) = n → SOk acc → Ev (fun k => impl_HistOf.l0 k bins grads n acc rows (rows.length : Int) (m : Int)) (histGo bins grads n (rows.drop m) acc) := by
  intro d
  induction d with
  | zero =>
    intro m acc hm hl ho
    obtain rfl : m = rows.length := by omega
    refine ev_succ ?_
    simp only [impl_HistOf.l0]
    refine ev_neg (by omega) (ev_of ?_)
    rw [List.drop_length]; rfl
  | succ d ih =>
    intro m acc hm hl ho
    refine ev_succ ?_
    have d1 := rd_drop (xs := rows) (n := m) (by omega)
    rw [d1]
    have em : (mn (bins.length : Int) (grads.length : Int) = bins.length ∧ bins.length ≤ grads.length) ∨ (mn (bins.length : Int) (grads.length : Int) = grads.length ∧ grads.length ≤ bins.length) := by
      unfold mn; split <;> omega
    simp only [impl_HistOf.l0, implWithin, Option.bind_some, histGo]
    generalize rd rows (m : Int) = r
    generalize mn (bins.length : Int) (grads.length : Int) = M at em
    rw [w64 (x := M - 1) (by omega) (by omega), w64 (x := n - 1) (by omega) (by omega)]
    refine ev_pos (by omega) (ev_pos (by omega) (ev_pos (by omega) ?_))
    by_cases c1 : 0 ≤ r ∧ r ≤ M - 1
    · refine ev_pos (by simpa using c1) (ev_pos (by omega) (ev_pos (by omega) ?_))
      by_cases c3 : 0 ≤ rd bins r ∧ rd bins r ≤ n - 1
      · rw [show (!decide (0 ≤ rd bins r ∧ rd bins r ≤ n - 1)) = false by simpa using c3]
        have hR : RowIn bins grads n r := ⟨by omega, by omega⟩
        refine ev_succ ?_
        simp only [impl_HistOf.j1, rdi]
        rw [implPlus (SOk_at ho _).1 (SOk_at ho _).2 ⟨by decide, by decide⟩ (rd_i64 g64 r)]
        simp only [Option.bind_some]
        refine ev_neg (by decide) (ev_pos (by omega) (ev_pos (by omega) (ev_pos (by omega) (ev_pos (by omega) (ev_pos (by omega) ?_)))))
        unfold stepS
        by_cases c4 : (plusS (acc.getD (rd bins r).toNat z41).f0 (acc.getD (rd bins r).toNat z41).f1 1 (rd grads r)).2.2 = true
        · refine ev_pos c4 ?_
          rw [if_pos ⟨hR, c4⟩, w64 (x := (m : Int) + 1) (by omega) (by omega)]
          exact ih (m + 1) _ (by omega) (by simpa using hl) (SOk_set ho (plusS_i64 _ _ _ _).1 (plusS_i64 _ _ _ _).2 _)
        · refine ev_neg c4 (ev_of ?_)
          rw [if_neg (fun z => c4 z.2)]
      · rw [show (!decide (0 ≤ rd bins r ∧ rd bins r ≤ n - 1)) = true by rw [decide_eq_false c3]; rfl, if_neg (fun z => c3 (by have := z.1.2; omega))]
        exact implHist_stop _ _ _ _ _ _ _ _
    · rw [if_neg (fun z => c1 (by have := z.1.1; omega))]
      exact ev_neg (by simpa using c1) (implHist_stop _ _ _ _ _ _ _ _)
theorem implHistOf (bins grads rows : List Int) (n : Int) (hb : bins.length ≤ 1048576) (hg : grads.length ≤ 1048576) (hr : rows.length ≤ 1048576) (g64 : ∀ x ∈ grads, I64 x) : Ev (fun k => impl_HistOf.f k bins grads rows n) (histOf bins grads rows n) := by
  unfold impl_HistOf.f histOf
  simp only [implWithin, Option.bind_some]
  by_cases h : 1 ≤ n ∧ n ≤ 8
  · rw [if_pos h]
    refine ev_pos (by simpa using h) (ev_pos (by omega) (ev_pos (by omega) ?_))
    exact implHist_l0 bins grads rows n hb hg hr g64 h rows.length 0 _ (by omega) (by simp; omega) (SOk_rep _)
  · rw [if_neg h]
    exact ev_neg (by simpa using h) (Ev.now _)

theorem histOf_j2 (N : Nat) (hN : N ≤ 1048576) : Ev (fun k => laws_FnExactHistOf.j2 k (markedS 1 N) (1 + 2 * (N : Int)) false) true := by
  refine ev_succ ?_
  simp only [laws_FnExactHistOf.j2]
  exact ev_neg (by decide) (Ev.bind (heldSlotS 1 N (by omega) (by omega)) (ev_neg (by omega) (ev_pos rfl (Ev.now _))))
theorem FnExactHistOf : laws_FnExactHistOf.Pure := by
  intro bins grads rows a3 hm0 hl0 hw0 hm1 hl1 hw1 hm2 hl2 hw2 h3
  refine Ev.rounds ?_
  unfold laws_FnExactHistOf.f
  by_cases b0 : (bins.length : Int) > 1048576
  · exact ev_pos b0 (Ev.now _)
  refine ev_neg b0 ?_
  by_cases b1 : (grads.length : Int) > 1048576
  · exact ev_pos b1 (Ev.now _)
  refine ev_neg b1 ?_
  by_cases b2 : (rows.length : Int) > 1048576
  · exact ev_pos b2 (Ev.now _)
  refine ev_neg b2 ?_
  have t0 := toIntS bins (by omega)
  have t1 := toIntS grads (by omega)
  have t2 := toIntS rows (by omega)
  have g64 : ∀ x ∈ grads, I64 x := fun x hx => i64_wf (hw1 x hx)
  have eS := specHistOf bins grads rows a3 (by omega) (by omega) (by omega) g64
  have eI := implHistOf bins grads rows a3 (by omega) (by omega) (by omega) g64
  have hl := (histOf_length bins grads rows a3).1
  generalize histOf bins grads rows a3 = R at *
  refine Ev.bind t0 (Ev.bind t1 (Ev.bind t2 (Ev.bind eS (Ev.bind t0 (Ev.bind t1 (Ev.bind t2 (Ev.bind eI (Ev.bind (eqSlotS _ (by omega)) (ev_pos rfl ?_)))))))))
  refine ev_succ ?_
  simp only [laws_FnExactHistOf.j0]
  refine ev_neg (by simp) (Ev.bind t0 (Ev.bind (eqIntS _ (by omega)) (ev_pos rfl (Ev.bind t1 (Ev.bind (eqIntS _ (by omega)) (ev_pos rfl (Ev.bind t2 (Ev.bind (eqIntS _ (by omega)) (ev_pos rfl ?_)))))))))
  refine Ev.bind (markIntS bins 1 (by omega) (by omega)) (Ev.bind (markIntS grads _ (by omega) (by omega)) (Ev.bind (markIntS rows _ (by omega) (by omega)) (ev_neg (by omega) (Ev.bind (eqSlotS _ (by omega)) (ev_pos rfl ?_)))))
  refine ev_succ ?_
  simp only [laws_FnExactHistOf.j1]
  refine ev_neg (by simp) (Ev.bind (markSlotS R.1 1 (by omega) (by omega)) (Ev.bind (heldSlotS 1 _ (by omega) (by omega)) (ev_neg (by omega) (ev_pos rfl ?_))))
  refine Ev.bind t0 (Ev.bind t1 (Ev.bind t2 (Ev.bind eI (Ev.bind (eqSlotS _ (by omega)) (ev_pos rfl ?_)))))
  simp only [bne_self_eq_false]
  exact histOf_j2 _ (by omega)

end Go.Proofs.Ytohngimlmcdiiaa.Pure
