/- impl.MergedRows returns what spec.MergedRows returns, new memory each time, for every two rows of ints. Conditions: none but the row's own.
-/
import Derived.Test.YtadgobfcchhgfaaQFnExactMergedRowsx3
set_option linter.unusedVariables false
set_option linter.unusedSimpArgs false
namespace Go.Proofs.Ytadgobfcchhgfaa.Pure
open Go.RowKit Go.Proofs.Ytadgobfcchhgfaa.QFnExactMergedRows Go.Proofs.YtadgobfcchhgfaaW.PrintWords Go.Proofs.YtadgobfcchhgfaaW.PrintLast Go.Proofs.YtadgobfcchhgfaaW.PrintMore

theorem w64 {x : Int} (h1 : -9223372036854775808 ≤ x) (h2 : x ≤ 9223372036854775807) : wrap64 x = x := by unfold wrap64; omega
theorem i64_wf {x : Int} (h : (Lit.int .i64 x).wf = true) : -9223372036854775808 ≤ x ∧ x ≤ 9223372036854775807 := by
  simpa [Lit.wf, IntKind.min, IntKind.max, IntKind.signed, IntKind.bits] using h
theorem u8_wf {x : Int} (h : (Lit.int .u8 x).wf = true) : 0 ≤ x ∧ x ≤ 255 := by
  simpa [Lit.wf, IntKind.min, IntKind.max, IntKind.signed, IntKind.bits] using h
theorem rd_eq {xs : List Int} {i : Int} (h0 : 0 ≤ i) (h : i < (xs.length : Int)) : xs[i.toNat]? = some (rd xs i) := by
  unfold rd
  rw [List.getD_eq_getElem?_getD, List.getElem?_eq_getElem (by omega)]
  rfl
theorem rd_mem {xs : List Int} {i : Int} (h0 : 0 ≤ i) (h : i < (xs.length : Int)) : rd xs i ∈ xs := List.mem_of_getElem? (rd_eq h0 h)
theorem rd_of {xs : List Int} {n : Nat} {v : Int} (h : xs[n]? = some v) : rd xs (n : Int) = v := by
  unfold rd
  rw [List.getD_eq_getElem?_getD, Int.toNat_natCast, h]
  rfl
theorem ev_of {α : Type} {r : α} {p : Option α} (h : p = some r) : Ev (fun _ => p) r := ⟨0, fun _ _ => h⟩
theorem ev_end {α : Type} {g : Nat → Option α} {r : α} (h : ∀ k, g (k + 1) = some r) : Ev g r := Ev.step (f := fun _ => some r) h (Ev.now r)
theorem ev_pos {α : Type} {c : Prop} [Decidable c] {f g : Nat → Option α} {r : α} (hc : c) (h : Ev f r) : Ev (fun k => if c then f k else g k) r := Ev.congr (fun _ => if_pos hc) h
theorem ev_neg {α : Type} {c : Prop} [Decidable c] {f g : Nat → Option α} {r : α} (hc : ¬ c) (h : Ev g r) : Ev (fun k => if c then f k else g k) r := Ev.congr (fun _ => if_neg hc) h
theorem rd_drop {xs : List Int} {n : Nat} (h : n < xs.length) : xs.drop n = rd xs (n : Int) :: xs.drop (n + 1) := by
  rw [List.drop_eq_getElem_cons h]
  congr 1
  unfold rd
  rw [List.getD_eq_getElem?_getD, Int.toNat_natCast, List.getElem?_eq_getElem h]
  rfl
noncomputable def dec (p : Prop) : Bool := @decide p (Classical.propDecidable p)
theorem dec_true {p : Prop} (h : p) : dec p = true := @decide_eq_true p (Classical.propDecidable p) h
theorem dec_false {p : Prop} (h : ¬ p) : dec p = false := @decide_eq_false p (Classical.propDecidable p) h
theorem dec_iff {p : Prop} : dec p = true ↔ p := @decide_eq_true_iff p (Classical.propDecidable p)
theorem dec_congr {p q : Prop} (h : p ↔ q) : dec p = dec q := by rw [propext h]
theorem dec_eq {p : Prop} [Decidable p] : dec p = decide p := by
  by_cases h : p
  · rw [dec_true h, decide_eq_true h]
  · rw [dec_false h, decide_eq_false h]
theorem ev_succ {α : Type} {g : Nat → Option α} {r : α} (h : Ev (fun k => g (k + 1)) r) : Ev g r := by
  obtain ⟨K, h⟩ := h
  refine ⟨K + 1, fun n hn => ?_⟩
  obtain ⟨m, rfl⟩ : ∃ m, n = m + 1 := ⟨n - 1, by omega⟩
  exact h m (by omega)
theorem ev_eq {α : Type} {g : Nat → Option α} {r r' : α} (h : Ev g r) (e : r = r') : Ev g r' := e ▸ h
theorem gd_eq {α : Type} (z : α) {xs : List α} {i : Int} (h0 : 0 ≤ i) (h : i < (xs.length : Int)) : xs[i.toNat]? = some (xs.getD i.toNat z) := by
  rw [List.getD_eq_getElem?_getD, List.getElem?_eq_getElem (by omega)]
  rfl
theorem gd_nat {α : Type} (z : α) {xs : List α} {n : Nat} {v : α} (h : xs[n]? = some v) : xs.getD ((n : Int)).toNat z = v := by
  rw [List.getD_eq_getElem?_getD, Int.toNat_natCast, h]
  rfl
theorem gd_drop {α : Type} (z : α) {xs : List α} {n : Nat} (h : n < xs.length) : xs.drop n = xs.getD ((n : Int)).toNat z :: xs.drop (n + 1) := by
  rw [List.drop_eq_getElem_cons h]
  congr 1
  exact (gd_nat z (List.getElem?_eq_getElem h)).symm
/-- A loop that copies: place after place is set. -/
theorem copy_loop {α β : Type} (F : Nat → List β → Int → Option (List β)) (l : List α) (g : α → β)
    (hend : ∀ acc : List β, acc.length = l.length → Ev (fun k => F k acc (l.length : Int)) acc)
    (hstep : ∀ (acc : List β) (n : Nat) (x : α) (r : List β), n < l.length → acc.length = l.length → l[n]? = some x → Ev (fun k => F k (acc.set n (g x)) ((n + 1 : Nat) : Int)) r → Ev (fun k => F k acc (n : Int)) r) :
    ∀ (d n : Nat) (acc : List β), n + d = l.length → acc.length = l.length → (∀ j, j < n → acc[j]? = (l.map g)[j]?) → Ev (fun k => F k acc (n : Int)) (l.map g) := by
  intro d
  induction d with
  | zero =>
    intro n acc hn ha hp
    obtain rfl : n = l.length := by omega
    refine ev_eq (hend acc ha) (List.ext_getElem? fun j => ?_)
    by_cases h : j < l.length
    · exact hp j h
    · rw [List.getElem?_eq_none (by omega), List.getElem?_eq_none (by simp; omega)]
  | succ d ih =>
    intro n acc hn ha hp
    have hx : l[n]? = some l[n] := List.getElem?_eq_getElem (by omega)
    refine hstep acc n l[n] _ (by omega) ha hx (ih (n + 1) _ (by omega) (by simpa using ha) ?_)
    intro j hj
    rw [List.getElem?_set]
    by_cases h : n = j
    · subst h
      rw [if_pos rfl, if_pos (by omega), List.getElem?_map, hx]
      rfl
    · rw [if_neg h]
      exact hp j (by omega)
/-- A loop that tests place after place. -/
theorem all_loop (F : Nat → Int → Option Bool) (L : Nat) (p : Nat → Prop) (hend : Ev (fun k => F k (L : Int)) true)
    (hyes : ∀ (n : Nat) (r : Bool), n < L → p n → Ev (fun k => F k ((n + 1 : Nat) : Int)) r → Ev (fun k => F k (n : Int)) r)
    (hno : ∀ n : Nat, n < L → ¬ p n → Ev (fun k => F k (n : Int)) false) :
    ∀ (d n : Nat), n + d = L → Ev (fun k => F k (n : Int)) (dec (∀ j, n ≤ j → j < L → p j)) := by
  intro d
  induction d with
  | zero =>
    intro n hn
    obtain rfl : n = L := by omega
    exact ev_eq hend (dec_true (fun j h1 h2 => by omega)).symm
  | succ d ih =>
    intro n hn
    by_cases h : p n
    · refine hyes n _ (by omega) h (ev_eq (ih (n + 1) (by omega)) (dec_congr ⟨fun g j h1 h2 => ?_, fun g j h1 h2 => g j (by omega) h2⟩))
      by_cases e : j = n
      · exact e ▸ h
      · exact g j (by omega) h2
    · exact ev_eq (hno n (by omega) h) (dec_false (fun g => h (g n (Nat.le_refl _) (by omega)))).symm
/-- A loop that goes round L times over a state. -/
theorem fold_loop {σ ρ : Type} (F : Nat → σ → Int → Option ρ) (L : Nat) (S : Nat → σ) (r : ρ) (hend : Ev (fun k => F k (S L) (L : Int)) r)
    (hstep : ∀ n : Nat, n < L → Ev (fun k => F k (S (n + 1)) ((n + 1 : Nat) : Int)) r → Ev (fun k => F k (S n) (n : Int)) r) :
    ∀ (d n : Nat), n + d = L → Ev (fun k => F k (S n) (n : Int)) r := by
  intro d
  induction d with
  | zero =>
    intro n hn
    obtain rfl : n = L := by omega
    exact hend
  | succ d ih =>
    intro n hn
    exact hstep n (by omega) (ih (n + 1) (by omega))
theorem set_mid {α : Type} (a b : List α) (x v : α) {n : Nat} (h : a.length = n) : (a ++ x :: b).set n v = a ++ v :: b := by
  subst h
  rw [List.set_append_right _ _ (Nat.le_refl _), Nat.sub_self]
  rfl
theorem get_mid {α : Type} (a b : List α) (x : α) {n : Nat} (h : a.length = n) : (a ++ x :: b)[n]? = some x := by
  subst h
  rw [List.getElem?_append_right (Nat.le_refl _), Nat.sub_self]
  rfl
/-- A loop that tests place after place, and one thing more at its end. -/
theorem all_loop2 (F : Nat → Int → Option Bool) (L : Nat) (p : Nat → Prop) (E : Prop) (hend : Ev (fun k => F k (L : Int)) (dec E))
    (hyes : ∀ (n : Nat) (r : Bool), n < L → p n → Ev (fun k => F k ((n + 1 : Nat) : Int)) r → Ev (fun k => F k (n : Int)) r)
    (hno : ∀ n : Nat, n < L → ¬ p n → Ev (fun k => F k (n : Int)) false) :
    ∀ (d n : Nat), n + d = L → Ev (fun k => F k (n : Int)) (dec ((∀ j, n ≤ j → j < L → p j) ∧ E)) := by
  intro d
  induction d with
  | zero =>
    intro n hn
    obtain rfl : n = L := by omega
    exact ev_eq hend (dec_congr ⟨fun h => ⟨fun j h1 h2 => by omega, h⟩, fun h => h.2⟩)
  | succ d ih =>
    intro n hn
    by_cases h : p n
    · refine hyes n _ (by omega) h (ev_eq (ih (n + 1) (by omega)) (dec_congr ⟨fun g => ⟨fun j h1 h2 => ?_, g.2⟩, fun g => ⟨fun j h1 h2 => g.1 j (by omega) h2, g.2⟩⟩))
      by_cases e : j = n
      · exact e ▸ h
      · exact g.1 j (by omega) h2
    · exact ev_eq (hno n (by omega) h) (dec_false (fun g => h (g.1 n (Nat.le_refl _) (by omega)))).symm
theorem toIntS_l0 (l : List Int) (hl : l.length ≤ 35184372088832) : ∀ (d n : Nat) (acc : List Int), n + d = l.length → acc.length = l.length → (∀ j, j < n → acc[j]? = l[j]?) → Ev (fun k => laws_toIntS.l0 k l acc (n : Int)) l := by
  intro d
  induction d with
  | zero =>
    intro n acc hn ha hp
    refine ev_end fun k => ?_
    simp only [laws_toIntS.l0]
    rw [if_neg (by omega)]
    congr 1
    exact List.ext_getElem? fun j => by
      by_cases h : j < n
      · exact hp j h
      · rw [List.getElem?_eq_none (by omega), List.getElem?_eq_none (by omega)]
  | succ d ih =>
    intro n acc hn ha hp
    refine Ev.step (fun k => ?_) (ih (n + 1) (acc.set n (rd l n)) (by omega) (by simpa using ha) ?_)
    · simp only [laws_toIntS.l0]
      rw [if_pos (by omega), if_pos (by omega), if_pos (by omega), w64 (by omega) (by omega)]
      rfl
    intro j hj
    rw [List.getElem?_set]
    by_cases h : j = n
    · subst h
      rw [if_pos (by omega), if_pos (by omega), ← rd_eq (by omega) (by omega)]
      simp
    · rw [if_neg (by omega)]
      exact hp j (by omega)
theorem toIntS (l : List Int) (hl : l.length ≤ 35184372088832) : Ev (fun k => laws_toIntS.f k l) l := by
  refine Ev.congr (fun k => ?_) (toIntS_l0 l hl l.length 0 (List.replicate l.length 0) (by omega) (by simp) (fun j h => by omega))
  unfold laws_toIntS.f
  rw [if_pos (by omega), if_pos (by omega)]
  rfl
theorem eqIntS_l0 (l : List Int) (hl : l.length ≤ 35184372088832) : ∀ (d n : Nat), n + d = l.length → Ev (fun k => laws_eqIntS.l0 k l l (n : Int)) true := by
  intro d
  induction d with
  | zero =>
    intro n hn
    refine ev_end fun k => ?_
    simp only [laws_eqIntS.l0]
    rw [if_neg (by omega)]
  | succ d ih =>
    intro n hn
    refine Ev.step (fun k => ?_) (ih (n + 1) (by omega))
    simp only [laws_eqIntS.l0]
    rw [if_pos (by omega), if_pos (by omega), if_pos (by omega), if_pos trivial, w64 (by omega) (by omega)]
    rfl
theorem eqIntS (l : List Int) (hl : l.length ≤ 35184372088832) : Ev (fun k => laws_eqIntS.f k l l) true := by
  refine Ev.congr (fun k => ?_) (eqIntS_l0 l hl l.length 0 (by omega))
  unfold laws_eqIntS.f
  rw [if_pos rfl]
  rfl
/-- The numbers from m on, n of them. -/
def marked (m : Int) : Nat → List Int
  | 0 => []
  | n + 1 => m :: marked (m + 1) n
theorem marked_length (m : Int) (n : Nat) : (marked m n).length = n := by
  induction n generalizing m with
  | zero => rfl
  | succ n ih => simp [marked, ih]
theorem marked_get (m : Int) (n j : Nat) (h : j < n) : (marked m n)[j]? = some (m + (j : Int)) := by
  induction n generalizing m j with
  | zero => omega
  | succ n ih =>
    cases j with
    | zero => simp [marked]
    | succ j =>
      simp only [marked, List.getElem?_cons_succ]
      rw [ih (m + 1) j (by omega)]
      congr 1
      omega
theorem marked_snoc (m : Int) (n : Nat) : marked m (n + 1) = marked m n ++ [m + (n : Int)] := by
  induction n generalizing m with
  | zero => simp [marked]
  | succ n ih =>
    rw [marked, ih (m + 1)]
    simp only [marked, List.cons_append, List.cons.injEq, true_and, List.append_cancel_left_eq, and_true]
    omega
theorem rd_marked {m : Int} {n : Nat} {j : Int} (h0 : 0 ≤ j) (h : j < (n : Int)) : rd (marked m n) j = m + j := by
  obtain ⟨i, rfl⟩ := Int.eq_ofNat_of_zero_le h0
  exact rd_of (marked_get m n i (by omega))
theorem markIntS_l0 (m : Int) (hm : 0 ≤ m) : ∀ (d n : Nat) (x : List Int), n + d = x.length → m + x.length ≤ 35184372088832 → (∀ j : Nat, j < n → x[j]? = some (m + (j : Int))) →
    Ev (fun k => laws_markIntS.l0 k x (m + (n : Int)) (n : Int)) (m + (x.length : Int), marked m x.length) := by
  intro d
  induction d with
  | zero =>
    intro n x hn hl hp
    refine ev_end fun k => ?_
    simp only [laws_markIntS.l0]
    rw [if_neg (by omega)]
    obtain rfl : n = x.length := by omega
    congr 2
    exact List.ext_getElem? fun j => by
      by_cases h : j < x.length
      · rw [hp j h, marked_get _ _ _ h]
      · rw [List.getElem?_eq_none (by omega), List.getElem?_eq_none (by rw [marked_length]; omega)]
  | succ d ih =>
    intro n x hn hl hp
    have hlen : (x.set n (m + (n : Int))).length = x.length := by simp
    have := ih (n + 1) (x.set n (m + (n : Int))) (by rw [hlen]; omega) (by rw [hlen]; omega) (by
      intro j hj
      rw [List.getElem?_set]
      by_cases h : j = n
      · subst h
        rw [if_pos (by omega), if_pos (by omega)]
      · rw [if_neg (by omega)]
        exact hp j (by omega))
    rw [hlen] at this
    refine Ev.step (fun k => ?_) this
    simp only [laws_markIntS.l0]
    rw [if_pos (by omega), if_pos (by omega), w64 (x := (n : Int) + 1) (by omega) (by omega), w64 (by omega) (by omega)]
    have e : m + (n : Int) + 1 = m + ((n + 1 : Nat) : Int) := by omega
    rw [e]
    rfl
theorem markIntS (l : List Int) (m : Int) (hm : 0 ≤ m) (hl : m + l.length ≤ 35184372088832) : Ev (fun k => laws_markIntS.f k l m) (m + (l.length : Int), marked m l.length) := by
  have := markIntS_l0 m hm l.length 0 l (by omega) hl (fun j h => by omega)
  exact Ev.congr (fun k => by unfold laws_markIntS.f; simp) this
theorem heldIntS_l0 (m : Int) (N : Nat) (hm : 0 ≤ m) (hN : m + N ≤ 35184372088832) : ∀ (d n : Nat), n + d = N → Ev (fun k => laws_heldIntS.l0 k (marked m N) (m + (n : Int)) (n : Int)) (m + (N : Int)) := by
  intro d
  induction d with
  | zero =>
    intro n hn
    refine ev_end fun k => ?_
    simp only [laws_heldIntS.l0]
    rw [if_neg (by rw [marked_length]; omega)]
    congr 1; omega
  | succ d ih =>
    intro n hn
    refine Ev.step (fun k => ?_) (ih (n + 1) (by omega))
    simp only [laws_heldIntS.l0]
    rw [if_pos (by rw [marked_length]; omega), if_pos (by omega), if_pos (rd_marked (by omega) (by omega)), w64 (x := (n : Int) + 1) (by omega) (by omega), w64 (by omega) (by omega)]
    have e : m + (n : Int) + 1 = m + ((n + 1 : Nat) : Int) := by omega
    rw [e]
    rfl
theorem heldIntS (N : Nat) (m : Int) (hm : 0 ≤ m) (hN : m + N ≤ 35184372088832) : Ev (fun k => laws_heldIntS.f k (marked m N) m) (m + (N : Int)) := by
  have := heldIntS_l0 m N hm hN N 0 (by omega)
  exact Ev.congr (fun k => by unfold laws_heldIntS.f; simp) this
/-- x put among sorted numbers, behind those that are not greater. -/
def ins (l : List Int) (x : Int) : List Int := l.filter (fun y => decide (y ≤ x)) ++ x :: l.filter (fun y => decide (x < y))
def Asc (l : List Int) : Prop := l.Pairwise (· ≤ ·)
theorem ins_perm (l : List Int) (x : Int) : (ins l x).Perm (x :: l) := by
  unfold ins
  refine List.perm_middle.trans (List.Perm.cons _ ?_)
  have e : l.filter (fun y => decide (x < y)) = l.filter (fun y => !decide (y ≤ x)) := List.filter_congr fun y _ => by
    by_cases h : y ≤ x
    · simp [h]
    · simp [h]; omega
  rw [e]
  exact List.filter_append_perm _ l
theorem ins_length (l : List Int) (x : Int) : (ins l x).length = l.length + 1 := by
  have := (ins_perm l x).length_eq
  simpa using this
theorem ins_asc {l : List Int} (h : Asc l) (x : Int) : Asc (ins l x) := by
  unfold Asc ins at *
  rw [List.pairwise_append]
  refine ⟨h.filter _, ?_, ?_⟩
  · rw [List.pairwise_cons]
    refine ⟨fun y hy => ?_, h.filter _⟩
    have := (List.mem_filter.1 hy).2
    simp at this; omega
  · intro a ha b hb
    have h1 := (List.mem_filter.1 ha).2
    simp at h1
    rcases List.mem_cons.1 hb with rfl | hb
    · exact h1
    · have h2 := (List.mem_filter.1 hb).2
      simp at h2; omega
/-- The numbers in ascending order. -/
def isort (l : List Int) : List Int := l.foldl ins []
theorem isort_aux (l acc : List Int) (h : Asc acc) : Asc (l.foldl ins acc) ∧ (l.foldl ins acc).Perm (acc ++ l) := by
  induction l generalizing acc with
  | nil => exact ⟨h, by simp⟩
  | cons x l ih =>
    obtain ⟨h1, h2⟩ := ih (ins acc x) (ins_asc h x)
    refine ⟨h1, h2.trans ?_⟩
    refine ((ins_perm acc x).append_right l).trans ?_
    exact (List.perm_middle (a := x) (l₁ := acc) (l₂ := l)).symm
theorem isort_asc (l : List Int) : Asc (isort l) := (isort_aux l [] List.Pairwise.nil).1
theorem isort_perm (l : List Int) : (isort l).Perm l := by simpa [isort] using (isort_aux l [] List.Pairwise.nil).2
theorem isort_length (l : List Int) : (isort l).length = l.length := (isort_perm l).length_eq
theorem parts_at {out : List Int} (h : Asc out) {x : Int} {p : Nat} (hp : p ≤ out.length) (hb : ∀ y ∈ out.drop p, x < y) (ha : ∀ y ∈ out.take p, y ≤ x) : ins out x = out.take p ++ x :: out.drop p := by
  have a1 : (out.take p).filter (fun y => decide (y ≤ x)) = out.take p := List.filter_eq_self.2 fun y hy => by simpa using ha y hy
  have a2 : (out.drop p).filter (fun y => decide (y ≤ x)) = [] := List.filter_eq_nil_iff.2 fun y hy => by have := hb y hy; simp; omega
  have b1 : (out.take p).filter (fun y => decide (x < y)) = [] := List.filter_eq_nil_iff.2 fun y hy => by have := ha y hy; simp; omega
  have b2 : (out.drop p).filter (fun y => decide (x < y)) = out.drop p := List.filter_eq_self.2 fun y hy => by simpa using hb y hy
  have e1 : out.filter (fun y => decide (y ≤ x)) = out.take p := by
    conv => lhs; rw [← List.take_append_drop p out]
    rw [List.filter_append, a1, a2, List.append_nil]
  have e2 : out.filter (fun y => decide (x < y)) = out.drop p := by
    conv => lhs; rw [← List.take_append_drop p out]
    rw [List.filter_append, b1, b2, List.nil_append]
  unfold ins
  rw [e1, e2]
theorem specSort_l1 (l : List Int) (hl : l.length ≤ 4194304) (n : Nat) (hn : n < l.length) (out : List Int) (ho : out.length = n) (hs : Asc out) (r : List Int)
    (go : Ev (fun k => spec_SortInts.l0 k l (ins out (rd l (n : Int))) ((n + 1 : Nat) : Int)) r) : ∀ p : Nat, p ≤ out.length → (∀ y ∈ out.drop p, rd l (n : Int) < y) →
    Ev (fun k => spec_SortInts.l1 k l out (n : Int) (p : Int)) r := by
  have hw : wrap64 ((n : Int) + 1) = ((n + 1 : Nat) : Int) := w64 (by omega) (by omega)
  intro p
  induction p with
  | zero =>
    intro hp hb
    refine ev_succ ?_
    have e := parts_at hs hp hb (fun y hy => by simp at hy)
    simp only [spec_SortInts.l1, Option.bind_some, hw]
    rw [e] at go
    refine ev_neg (by omega) (ev_pos (by omega) (ev_pos (by omega) (ev_pos (by simp <;> omega) (ev_pos (by omega) (ev_pos (by omega) (ev_pos (by simp <;> omega) (ev_pos (by simp <;> omega) ?_)))))))
    simpa using go
  | succ p ih =>
    intro hp hb
    refine ev_succ ?_
    have em : (((p + 1 : Nat) : Int) - 1) = (p : Int) := by omega
    have hx : out[p]? = some out[p] := List.getElem?_eq_getElem (by omega)
    have d1 : out.drop p = out[p] :: out.drop (p + 1) := List.drop_eq_getElem_cons (by omega)
    have hwp : wrap64 ((p : Int)) = (p : Int) := w64 (by omega) (by omega)
    simp only [spec_SortInts.l1, Option.bind_some, hw, em, hwp, rd_of hx]
    refine ev_pos (by omega) (ev_pos (by omega) (ev_pos (by omega) (ev_pos (by omega) (ev_pos (by omega) ?_))))
    by_cases g : out[p] > rd l (n : Int)
    · refine ev_pos g (ih (by omega) ?_)
      intro y hy
      rw [d1, List.mem_cons] at hy
      rcases hy with rfl | hy
      · exact g
      · exact hb y hy
    · have e := parts_at hs hp hb (fun y hy => by
        obtain ⟨i, hi, rfl⟩ := List.getElem_of_mem hy
        simp only [List.length_take] at hi
        rw [List.getElem_take]
        by_cases c : i = p
        · subst c; omega
        · have := List.pairwise_iff_getElem.1 hs i p (by omega) (by omega) (by omega)
          omega)
      rw [e] at go
      refine ev_neg g (ev_pos (by omega) (ev_pos (by omega) (ev_pos (by simp <;> omega) (ev_pos (by simp <;> omega) (ev_pos (by simp <;> omega) ?_)))))
      have et : (((p + 1 : Nat) : Int)).toNat = p + 1 := by omega
      simp only [et]
      simpa using go
theorem specSort_l0 (l : List Int) (hl : l.length ≤ 4194304) : ∀ (d n : Nat) (out : List Int), n + d = l.length → out.length = n → Asc out → Ev (fun k => spec_SortInts.l0 k l out (n : Int)) ((l.drop n).foldl ins out) := by
  intro d
  induction d with
  | zero =>
    intro n out hn ho hs
    obtain rfl : n = l.length := by omega
    refine ev_succ ?_
    simp only [spec_SortInts.l0]
    refine ev_neg (by omega) (ev_of ?_)
    rw [List.drop_length]
    rfl
  | succ d ih =>
    intro n out hn ho hs
    refine ev_succ ?_
    simp only [spec_SortInts.l0]
    refine ev_pos (by omega) ?_
    rw [rd_drop (by omega), List.foldl_cons]
    exact specSort_l1 l hl n (by omega) out ho hs _ (ih (n + 1) _ (by omega) (by rw [ins_length, ho]) (ins_asc hs _)) out.length (Nat.le_refl _) (by simp)
theorem specSortB (l : List Int) (hl : l.length ≤ 4194304) : Ev (fun k => spec_SortInts.f k l) (isort l) :=
  specSort_l0 l hl l.length 0 [] (by omega) rfl List.Pairwise.nil
theorem specSort (l : List Int) (hl : l.length ≤ 1048576) : Ev (fun k => spec_SortInts.f k l) (isort l) := specSortB l (by omega)
theorem msort_eq (l : List Int) : l.mergeSort (fun x y => decide (x ≤ y)) = isort l := by
  refine List.Perm.eq_of_pairwise (le := fun a b => a ≤ b) (fun a b _ _ h1 h2 => Int.le_antisymm h1 h2) ?_ (isort_asc l) ((List.mergeSort_perm l _).trans (isort_perm l).symm)
  refine (List.pairwise_mergeSort (le := fun x y : Int => decide (x ≤ y)) (fun a b c h1 h2 => ?_) (fun a b => ?_) l).imp (fun h => by simpa using h)
  · simp only [decide_eq_true_eq] at *; omega
  · simp only [Bool.or_eq_true, decide_eq_true_eq]; omega
theorem implSortB (l : List Int) (hl : l.length ≤ 4194304) : impl_SortInts.f l = some (isort l) := by
  unfold impl_SortInts.f slices_Clone_int_int.f slices_Sort_int_int.f
  rw [if_pos (by omega)]
  simp only [Option.bind_some]
  rw [if_pos (by omega), msort_eq]
  rfl
theorem implSort (l : List Int) (hl : l.length ≤ 1048576) : impl_SortInts.f l = some (isort l) := implSortB l (by omega)
theorem rdL1 (xs : List (List Int)) (i : Int) : rd_L1 xs i = xs.getD i.toNat [] := rfl
theorem implConcat (a b : List Int) (ha : a.length ≤ 1048576) (hb : b.length ≤ 1048576) : Ev (fun k => slices_Concat_int_int.f k [a, b]) (a ++ b) := by
  unfold slices_Concat_int_int.f
  have e0 : rd_L1 [a, b] 0 = a := rfl
  have e1 : rd_L1 [a, b] 1 = b := rfl
  have w1 : wrap64 (0 + 1) = 1 := w64 (by omega) (by omega)
  have w2 : wrap64 (1 + 1) = 2 := w64 (by omega) (by omega)
  have wa : wrap64 (0 + (a.length : Int)) = (a.length : Int) := by rw [w64 (by omega) (by omega)]; omega
  have wb : wrap64 ((a.length : Int) + (b.length : Int)) = ((a.length + b.length : Nat) : Int) := by rw [w64 (by omega) (by omega)]; omega
  refine ev_succ ?_
  simp only [slices_Concat_int_int.l0, e0, w1, wa]
  refine ev_pos (by simp) (ev_pos (by omega) (ev_pos (by simp) (ev_neg (by omega) (ev_succ ?_))))
  simp only [slices_Concat_int_int.l0, e1, w2, wb]
  refine ev_pos (by simp) (ev_pos (by omega) (ev_pos (by simp) (ev_neg (by omega) (ev_succ ?_))))
  simp only [slices_Concat_int_int.l0]
  refine ev_neg (by simp) ?_
  have hg : slices_Grow_int_int.f ([] : List Int) ((a.length + b.length : Nat) : Int) = some [] := by
    unfold slices_Grow_int_int.f
    rw [if_pos ⟨by omega, by simp; omega⟩]
  rw [hg]
  simp only [Option.bind_some]
  refine ev_succ ?_
  simp only [slices_Concat_int_int.l1, e0, w1]
  refine ev_pos (by simp) (ev_pos (by omega) (ev_pos (by simp) (ev_pos (by simp; omega) (ev_succ ?_))))
  simp only [slices_Concat_int_int.l1, e1, w2]
  refine ev_pos (by simp) (ev_pos (by omega) (ev_pos (by simp) (ev_pos (by simp; omega) (ev_succ ?_))))
  simp only [slices_Concat_int_int.l1]
  exact ev_neg (by simp) (ev_of (by simp))
theorem implMerged (a b : List Int) (ha : a.length ≤ 1048576) (hb : b.length ≤ 1048576) : Ev (fun k => impl_MergedRows.f k a b) (isort (a ++ b)) := by
  unfold impl_MergedRows.f
  refine Ev.bind (implConcat a b ha hb) ?_
  rw [implSortB _ (by simp; omega)]
  exact Ev.now _

theorem specMerged (a b : List Int) (ha : a.length ≤ 1048576) (hb : b.length ≤ 1048576) : Ev (fun k => spec_MergedRows.f k a b) (isort (a ++ b)) := by
  unfold spec_MergedRows.f
  simp only [Option.bind_some, List.nil_append, List.length_nil]
  exact ev_pos (by omega) (ev_pos (by omega) (Ev.bind (specSortB _ (by simp; omega)) (Ev.now _)))
theorem FnExactMergedRows : laws_FnExactMergedRows.Pure := by
  intro a b hm1 hl1 hw1 hm2 hl2 hw2
  refine Ev.rounds ?_
  unfold laws_FnExactMergedRows.f
  by_cases hb1 : (a.length : Int) > 1048576
  · exact ev_pos hb1 (Ev.now _)
  by_cases hb2 : (b.length : Int) > 1048576
  · exact ev_neg hb1 (ev_pos hb2 (Ev.now _))
  have ha : a.length ≤ 1048576 := by omega
  have hb : b.length ≤ 1048576 := by omega
  have hs : (isort (a ++ b)).length = a.length + b.length := by rw [isort_length]; simp
  refine ev_neg hb1 (ev_neg hb2 (Ev.bind (toIntS a (by omega)) (Ev.bind (toIntS b (by omega)) (Ev.bind (specMerged a b ha hb) (Ev.bind (toIntS a (by omega)) (Ev.bind (toIntS b (by omega)) (Ev.bind (implMerged a b ha hb) ?_)))))))
  refine Ev.bind (eqIntS _ (by omega)) (ev_pos rfl (Ev.bind (toIntS a (by omega)) (Ev.bind (eqIntS _ (by omega)) (ev_pos rfl (Ev.bind (toIntS b (by omega)) (Ev.bind (eqIntS _ (by omega)) (ev_pos rfl ?_)))))))
  refine Ev.bind (markIntS _ 1 (by omega) (by omega)) (Ev.bind (markIntS _ _ (by simp only; omega) (by simp only; omega)) (ev_neg (by simp only; omega) (Ev.bind (eqIntS _ (by omega)) (ev_succ ?_))))
  simp only [laws_FnExactMergedRows.j0]
  refine ev_neg (by simp) (Ev.bind (markIntS _ 1 (by omega) (by omega)) (Ev.bind (heldIntS _ 1 (by omega) (by omega)) (ev_neg (by omega) (ev_pos rfl (Ev.bind (toIntS a (by omega)) (Ev.bind (toIntS b (by omega)) (Ev.bind (implMerged a b ha hb) ?_)))))))
  exact Ev.bind (eqIntS _ (by omega)) (ev_pos rfl (Ev.bind (heldIntS _ 1 (by omega) (by omega)) (ev_neg (by omega) (ev_pos rfl (Ev.now _)))))

end Go.Proofs.Ytadgobfcchhgfaa.Pure
