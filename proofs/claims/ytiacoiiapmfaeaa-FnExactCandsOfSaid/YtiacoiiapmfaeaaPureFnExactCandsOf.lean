/- impl.CandsOf returns what spec.CandsOf returns, new memory each time, and leaves its histograms as they were, for all arguments. Conditions: none but the row's own.
-/
import Derived.Test.YtiacoiiapmfaeaaQFnExactCandsOfx8
set_option linter.unusedVariables false
set_option linter.unusedSimpArgs false
namespace Go.Proofs.Ytiacoiiapmfaeaa.Pure
open Go.RowKit Go.Proofs.Ytiacoiiapmfaeaa.QFnExactCandsOf Go.Proofs.YtiacoiiapmfaeaaW.PrintWords Go.Proofs.YtiacoiiapmfaeaaW.PrintLast Go.Proofs.YtiacoiiapmfaeaaW.PrintMore

theorem w64 {x : Int} (h1 : -9223372036854775808 ≤ x) (h2 : x ≤ 9223372036854775807) : wrap64 x = x := by unfold wrap64; omega
theorem i64_wf {x : Int} (h : (Lit.int .i64 x).wf = true) : -9223372036854775808 ≤ x ∧ x ≤ 9223372036854775807 := by
  simpa [Lit.wf, IntKind.min, IntKind.max, IntKind.signed, IntKind.bits] using h
theorem u8_wf {x : Int} (h : (Lit.int .u8 x).wf = true) : 0 ≤ x ∧ x ≤ 255 := by
  simpa [Lit.wf, IntKind.min, IntKind.max, IntKind.signed, IntKind.bits] using h
theorem rd_eq {xs : List Int} {i : Int} (h0 : 0 ≤ i) (h : i < (xs.length : Int)) : xs[i.toNat]? = some (rd xs i) := by
  unfold rd
  rw [List.getD_eq_getElem?_getD, List.getElem?_eq_getElem (by omega)]
  rfl
theorem rd_mem {xs : List Int} {i : Int} (h0 : 0 ≤ i) (h : i < (xs.length : Int)) : rd xs i ∈ xs := List.mem_of_getElem? (rd_eq h0 h)
theorem rd_of {xs : List Int} {n : Nat} {v : Int} (h : xs[n]? = some v) : rd xs (n : Int) = v := by
  unfold rd
  rw [List.getD_eq_getElem?_getD, Int.toNat_natCast, h]
  rfl
theorem ev_of {α : Type} {r : α} {p : Option α} (h : p = some r) : Ev (fun _ => p) r := ⟨0, fun _ _ => h⟩
theorem ev_end {α : Type} {g : Nat → Option α} {r : α} (h : ∀ k, g (k + 1) = some r) : Ev g r := Ev.step (f := fun _ => some r) h (Ev.now r)
theorem ev_pos {α : Type} {c : Prop} [Decidable c] {f g : Nat → Option α} {r : α} (hc : c) (h : Ev f r) : Ev (fun k => if c then f k else g k) r := Ev.congr (fun _ => if_pos hc) h
theorem ev_neg {α : Type} {c : Prop} [Decidable c] {f g : Nat → Option α} {r : α} (hc : ¬ c) (h : Ev g r) : Ev (fun k => if c then f k else g k) r := Ev.congr (fun _ => if_neg hc) h
theorem rd_drop {xs : List Int} {n : Nat} (h : n < xs.length) : xs.drop n = rd xs (n : Int) :: xs.drop (n + 1) := by
  rw [List.drop_eq_getElem_cons h]
  congr 1
  unfold rd
  rw [List.getD_eq_getElem?_getD, Int.toNat_natCast, List.getElem?_eq_getElem h]
  rfl
noncomputable def dec (p : Prop) : Bool := @decide p (Classical.propDecidable p)
theorem dec_true {p : Prop} (h : p) : dec p = true := @decide_eq_true p (Classical.propDecidable p) h
theorem dec_false {p : Prop} (h : ¬ p) : dec p = false := @decide_eq_false p (Classical.propDecidable p) h
theorem dec_iff {p : Prop} : dec p = true ↔ p := @decide_eq_true_iff p (Classical.propDecidable p)
theorem dec_congr {p q : Prop} (h : p ↔ q) : dec p = dec q := by rw [propext h]
theorem dec_eq {p : Prop} [Decidable p] : dec p = decide p := by
  by_cases h : p
  · rw [dec_true h, decide_eq_true h]
  · rw [dec_false h, decide_eq_false h]
theorem ev_succ {α : Type} {g : Nat → Option α} {r : α} (h : Ev (fun k => g (k + 1)) r) : Ev g r := by
  obtain ⟨K, h⟩ := h
  refine ⟨K + 1, fun n hn => ?_⟩
  obtain ⟨m, rfl⟩ : ∃ m, n = m + 1 := ⟨n - 1, by omega⟩
  exact h m (by omega)
theorem ev_eq {α : Type} {g : Nat → Option α} {r r' : α} (h : Ev g r) (e : r = r') : Ev g r' := e ▸ h
theorem gd_eq {α : Type} (z : α) {xs : List α} {i : Int} (h0 : 0 ≤ i) (h : i < (xs.length : Int)) : xs[i.toNat]? = some (xs.getD i.toNat z) := by
  rw [List.getD_eq_getElem?_getD, List.getElem?_eq_getElem (by omega)]
  rfl
theorem gd_nat {α : Type} (z : α) {xs : List α} {n : Nat} {v : α} (h : xs[n]? = some v) : xs.getD ((n : Int)).toNat z = v := by
  rw [List.getD_eq_getElem?_getD, Int.toNat_natCast, h]
  rfl
theorem gd_drop {α : Type} (z : α) {xs : List α} {n : Nat} (h : n < xs.length) : xs.drop n = xs.getD ((n : Int)).toNat z :: xs.drop (n + 1) := by
  rw [List.drop_eq_getElem_cons h]
  congr 1
  exact (gd_nat z (List.getElem?_eq_getElem h)).symm
/-- A loop that copies: place after place is set. -/
theorem copy_loop {α β : Type} (F : Nat → List β → Int → Option (List β)) (l : List α) (g : α → β)
    (hend : ∀ acc : List β, acc.length = l.length → Ev (fun k => F k acc (l.length : Int)) acc)
    (hstep : ∀ (acc : List β) (n : Nat) (x : α) (r : List β), n < l.length → acc.length = l.length → l[n]? = some x → Ev (fun k => F k (acc.set n (g x)) ((n + 1 : Nat) : Int)) r → Ev (fun k => F k acc (n : Int)) r) :
    ∀ (d n : Nat) (acc : List β), n + d = l.length → acc.length = l.length → (∀ j, j < n → acc[j]? = (l.map g)[j]?) → Ev (fun k => F k acc (n : Int)) (l.map g) := by
  intro d
  induction d with
  | zero =>
    intro n acc hn ha hp
    obtain rfl : n = l.length := by omega
    refine ev_eq (hend acc ha) (List.ext_getElem? fun j => ?_)
    by_cases h : j < l.length
    · exact hp j h
    · rw [List.getElem?_eq_none (by omega), List.getElem?_eq_none (by simp; omega)]
  | succ d ih =>
    intro n acc hn ha hp
    have hx : l[n]? = some l[n] := List.getElem?_eq_getElem (by omega)
    refine hstep acc n l[n] _ (by omega) ha hx (ih (n + 1) _ (by omega) (by simpa using ha) ?_)
    intro j hj
    rw [List.getElem?_set]
    by_cases h : n = j
    · subst h
      rw [if_pos rfl, if_pos (by omega), List.getElem?_map, hx]
      rfl
    · rw [if_neg h]
      exact hp j (by omega)
/-- A loop that tests place after place. -/
theorem all_loop (F : Nat → Int → Option Bool) (L : Nat) (p : Nat → Prop) (hend : Ev (fun k => F k (L : Int)) true)
    (hyes : ∀ (n : Nat) (r : Bool), n < L → p n → Ev (fun k => F k ((n + 1 : Nat) : Int)) r → Ev (fun k => F k (n : Int)) r)
    (hno : ∀ n : Nat, n < L → ¬ p n → Ev (fun k => F k (n : Int)) false) :
    ∀ (d n : Nat), n + d = L → Ev (fun k => F k (n : Int)) (dec (∀ j, n ≤ j → j < L → p j)) := by
  intro d
  induction d with
  | zero =>
    intro n hn
    obtain rfl : n = L := by omega
    exact ev_eq hend (dec_true (fun j h1 h2 => by omega)).symm
  | succ d ih =>
    intro n hn
    by_cases h : p n
    · refine hyes n _ (by omega) h (ev_eq (ih (n + 1) (by omega)) (dec_congr ⟨fun g j h1 h2 => ?_, fun g j h1 h2 => g j (by omega) h2⟩))
      by_cases e : j = n
      · exact e ▸ h
      · exact g j (by omega) h2
    · exact ev_eq (hno n (by omega) h) (dec_false (fun g => h (g n (Nat.le_refl _) (by omega)))).symm
/-- A loop that goes round L times over a state. -/
theorem fold_loop {σ ρ : Type} (F : Nat → σ → Int → Option ρ) (L : Nat) (S : Nat → σ) (r : ρ) (hend : Ev (fun k => F k (S L) (L : Int)) r)
    (hstep : ∀ n : Nat, n < L → Ev (fun k => F k (S (n + 1)) ((n + 1 : Nat) : Int)) r → Ev (fun k => F k (S n) (n : Int)) r) :
    ∀ (d n : Nat), n + d = L → Ev (fun k => F k (S n) (n : Int)) r := by
  intro d
  induction d with
  | zero =>
    intro n hn
    obtain rfl : n = L := by omega
    exact hend
  | succ d ih =>
    intro n hn
    exact hstep n (by omega) (ih (n + 1) (by omega))
theorem set_mid {α : Type} (a b : List α) (x v : α) {n : Nat} (h : a.length = n) : (a ++ x :: b).set n v = a ++ v :: b := by
  subst h
  rw [List.set_append_right _ _ (Nat.le_refl _), Nat.sub_self]
  rfl
theorem get_mid {α : Type} (a b : List α) (x : α) {n : Nat} (h : a.length = n) : (a ++ x :: b)[n]? = some x := by
  subst h
  rw [List.getElem?_append_right (Nat.le_refl _), Nat.sub_self]
  rfl
/-- A loop that tests place after place, and one thing more at its end. -/
theorem all_loop2 (F : Nat → Int → Option Bool) (L : Nat) (p : Nat → Prop) (E : Prop) (hend : Ev (fun k => F k (L : Int)) (dec E))
    (hyes : ∀ (n : Nat) (r : Bool), n < L → p n → Ev (fun k => F k ((n + 1 : Nat) : Int)) r → Ev (fun k => F k (n : Int)) r)
    (hno : ∀ n : Nat, n < L → ¬ p n → Ev (fun k => F k (n : Int)) false) :
    ∀ (d n : Nat), n + d = L → Ev (fun k => F k (n : Int)) (dec ((∀ j, n ≤ j → j < L → p j) ∧ E)) := by
  intro d
  induction d with
  | zero =>
    intro n hn
    obtain rfl : n = L := by omega
    exact ev_eq hend (dec_congr ⟨fun h => ⟨fun j h1 h2 => by omega, h⟩, fun h => h.2⟩)
  | succ d ih =>
    intro n hn
    by_cases h : p n
    · refine hyes n _ (by omega) h (ev_eq (ih (n + 1) (by omega)) (dec_congr ⟨fun g => ⟨fun j h1 h2 => ?_, g.2⟩, fun g => ⟨fun j h1 h2 => g.1 j (by omega) h2, g.2⟩⟩))
      by_cases e : j = n
      · exact e ▸ h
      · exact g.1 j (by omega) h2
    · exact ev_eq (hno n (by omega) h) (dec_false (fun g => h (g.1 n (Nat.le_refl _) (by omega)))).symm
theorem rdi (xs : List S87) (i : Int) : rd_T87 xs i = xs.getD i.toNat z87 := rfl
theorem rdl (xs : List S108) (i : Int) : rd_T108 xs i = xs.getD i.toNat z108 := rfl
/-- A slot of the law as one of the program. -/
def toS (x : S108) : S87 := ⟨x.f0, x.f1⟩
theorem szSlotS (l : List S108) (a : Int) (h0 : 0 ≤ a) (h1 : a ≤ 1048576) (hl : l.length ≤ maxLen) : laws_szSlotS.f l a = some (if a < l.length then -1 else a - l.length) := by
  unfold maxLen at hl
  unfold laws_szSlotS.f
  rw [w64 (by omega) (by omega)]
  by_cases h : a < l.length
  · rw [if_pos (by omega), if_pos h]
  · rw [if_neg (by omega), if_neg h]
theorem toSlotS (l : List S108) (hl : l.length ≤ 17592186044416) : Ev (fun k => laws_toSlotS.f k l) (l.map toS) := by
  unfold laws_toSlotS.f
  refine ev_pos (by omega) (ev_pos (by omega) ?_)
  refine copy_loop (fun k acc i => laws_toSlotS.l0 k l acc i) l toS ?_ ?_ l.length 0 _ (by omega) (by simp) (fun j h => by omega)
  · intro acc ha
    refine ev_succ ?_
    simp only [laws_toSlotS.l0]
    exact ev_neg (by omega) (Ev.now _)
  · intro acc n x r hn ha hx h
    refine ev_succ ?_
    simp only [laws_toSlotS.l0, laws_toSlot.f, Option.bind_some, rdl, gd_nat z108 hx]
    refine ev_pos (by omega) (ev_pos (by omega) (ev_pos (by omega) ?_))
    rw [w64 (x := (n : Int) + 1) (by omega) (by omega)]
    exact h
theorem eqSlotS (l : List S87) (hl : l.length ≤ 17592186044416) : Ev (fun k => laws_eqSlotS.f k l l) true := by
  unfold laws_eqSlotS.f
  refine ev_pos rfl ?_
  refine ev_eq (all_loop (fun k i => laws_eqSlotS.l0 k l l i) l.length (fun _ => True) ?_ ?_ ?_ l.length 0 (by omega)) (dec_true (fun _ _ _ => trivial))
  · refine ev_succ ?_
    simp only [laws_eqSlotS.l0]
    exact ev_neg (by omega) (Ev.now _)
  · intro n r hn _ h
    refine ev_succ ?_
    simp only [laws_eqSlotS.l0, laws_eqSlot.f, if_true, Option.bind_some]
    refine ev_pos (by omega) (ev_pos (by omega) (ev_pos (by omega) ?_))
    rw [w64 (x := (n : Int) + 1) (by omega) (by omega)]
    exact h
  · intro n hn h
    exact absurd trivial h
def markedS (m : Int) : Nat → List S87
  | 0 => []
  | n + 1 => ⟨m, m + 1⟩ :: markedS (m + 2) n
theorem markedS_length (m : Int) (n : Nat) : (markedS m n).length = n := by
  induction n generalizing m with
  | zero => rfl
  | succ n ih => simp [markedS, ih]
theorem markedS_get (m : Int) (n j : Nat) (h : j < n) : (markedS m n)[j]? = some ⟨m + 2 * (j : Int), m + 2 * (j : Int) + 1⟩ := by
  induction n generalizing m j with
  | zero => omega
  | succ n ih =>
    cases j with
    | zero => simp [markedS]
    | succ j =>
      simp only [markedS, List.getElem?_cons_succ]
      rw [ih (m + 2) j (by omega)]
      congr 2 <;> omega
theorem markedS_snoc (m : Int) (n : Nat) : markedS m (n + 1) = markedS m n ++ [⟨m + 2 * (n : Int), m + 2 * (n : Int) + 1⟩] := by
  induction n generalizing m with
  | zero => simp [markedS]
  | succ n ih =>
    rw [markedS, ih (m + 2)]
    simp only [markedS, List.cons_append, List.cons.injEq, true_and, List.append_cancel_left_eq, and_true, S87.mk.injEq]
    omega
theorem markSlotS (l : List S87) (m : Int) (hm : 0 ≤ m) (hl : m + 2 * l.length ≤ 35184372088832) : Ev (fun k => laws_markSlotS.f k l m) (m + 2 * (l.length : Int), markedS m l.length) := by
  unfold laws_markSlotS.f
  have key := fold_loop (fun k (s : List S87 × Int) i => laws_markSlotS.l0 k s.1 s.2 i) l.length (fun n => (markedS m n ++ l.drop n, m + 2 * (n : Int))) (m + 2 * (l.length : Int), markedS m l.length) ?_ ?_ l.length 0 (by omega)
  · simpa [markedS] using key
  · refine ev_succ ?_
    simp only [laws_markSlotS.l0]
    refine ev_neg (by simp [markedS_length]) (ev_of ?_)
    simp
  · intro n hn h
    refine ev_succ ?_
    simp only at h ⊢
    have hlen : (markedS m n ++ l.drop n).length = l.length := by simp [markedS_length]; omega
    have hx : l.drop n = l[n] :: l.drop (n + 1) := List.drop_eq_getElem_cons hn
    simp only [laws_markSlotS.l0, Option.bind_some, rdi, Int.toNat_natCast]
    refine ev_pos (by omega) (ev_pos (by omega) ?_)
    rw [hx, set_mid _ _ _ _ (markedS_length m n)]
    rw [set_mid _ _ _ _ (markedS_length m n)]
    rw [w64 (x := m + 2 * (n : Int) + 1) (by omega) (by omega), w64 (x := m + 2 * (n : Int) + 1 + 1) (by omega) (by omega), w64 (x := (n : Int) + 1) (by omega) (by omega)]
    have e1 := gd_nat z87 (get_mid (markedS m n) (l.drop (n + 1)) (⟨m + 2 * (n : Int), ((markedS m n ++ l[n] :: l.drop (n + 1)).getD n z87).f1⟩ : S87) (markedS_length m n))
    simp only [Int.toNat_natCast] at e1
    rw [e1]
    simp only
    have e2 : markedS m n ++ (⟨m + 2 * (n : Int), m + 2 * (n : Int) + 1⟩ : S87) :: l.drop (n + 1) = markedS m (n + 1) ++ l.drop (n + 1) := by rw [markedS_snoc]; simp
    have e3 : m + 2 * (n : Int) + 1 + 1 = m + 2 * ((n + 1 : Nat) : Int) := by omega
    rw [e2, e3]
    exact h
/-- The sum and true; 0 and false where it has no room. -/
def addI (a b : Int) : Int × Bool := if -9223372036854775808 ≤ a + b ∧ a + b ≤ 9223372036854775807 then (a + b, true) else (0, false)
def subI (a b : Int) : Int × Bool := if -9223372036854775808 ≤ a - b ∧ a - b ≤ 9223372036854775807 then (a - b, true) else (0, false)
def I64 (a : Int) : Prop := -9223372036854775808 ≤ a ∧ a ≤ 9223372036854775807
theorem addI_i64 (a b : Int) : I64 (addI a b).1 := by
  unfold addI I64
  split
  · assumption
  · exact ⟨by decide, by decide⟩
theorem subI_i64 (a b : Int) : I64 (subI a b).1 := by
  unfold subI I64
  split
  · assumption
  · exact ⟨by decide, by decide⟩
theorem wrap_over {x : Int} (h1 : 9223372036854775807 < x) (h2 : x < 27670116110564327424) : wrap64 x = x - 18446744073709551616 := by unfold wrap64; omega
theorem wrap_under {x : Int} (h1 : x < -9223372036854775808) (h2 : -27670116110564327424 ≤ x) : wrap64 x = x + 18446744073709551616 := by unfold wrap64; omega
/-- Slots of whole numbers. -/
def SOk (l : List S87) : Prop := ∀ x ∈ l, I64 x.f0 ∧ I64 x.f1
theorem SOk.at {l : List S87} (h : SOk l) {n : Nat} {x : S87} (e : l[n]? = some x) : I64 x.f0 ∧ I64 x.f1 := h x (List.mem_of_getElem? e)
/-- Two slots together. -/
def plusS (n g n' g' : Int) : Int × Int × Bool := if (addI n n').2 = true ∧ (addI g g').2 = true then ((addI n n').1, (addI g g').1, true) else (0, 0, false)
theorem plusS_i64 (n g n' g' : Int) : I64 (plusS n g n' g').1 ∧ I64 (plusS n g n' g').2.1 := by
  unfold plusS
  split
  · exact ⟨addI_i64 _ _, addI_i64 _ _⟩
  · exact ⟨⟨by decide, by decide⟩, ⟨by decide, by decide⟩⟩
theorem plusS_true {n g n' g' : Int} (h : (plusS n g n' g').2.2 = true) : plusS n g n' g' = (n + n', g + g', true) ∧ I64 (n + n') ∧ I64 (g + g') := by
  unfold plusS at *
  by_cases c : (addI n n').2 = true ∧ (addI g g').2 = true
  · rw [if_pos c]
    obtain ⟨c1, c2⟩ := c
    unfold addI at *
    split at c1
    · rename_i r1
      split at c2
      · rename_i r2
        rw [if_pos r1, if_pos r2]
        exact ⟨rfl, r1, r2⟩
      · simp at c2
    · simp at c1
  · rw [if_neg c] at h
    simp at h
/-- The sums of all beginnings, behind what is there; none where one has no room. -/
def preS : List S87 → Int → Int → List S87 → List S87 × Bool
  | [], _, _, acc => (acc, true)
  | x :: l, n, g, acc => if (plusS n g x.f0 x.f1).2.2 = true then preS l (plusS n g x.f0 x.f1).1 (plusS n g x.f0 x.f1).2.1 (acc ++ [⟨(plusS n g x.f0 x.f1).1, (plusS n g x.f0 x.f1).2.1⟩]) else ([], false)
def prefixS (l : List S87) : List S87 × Bool := preS l 0 0 []
theorem preS_length (l : List S87) (n g : Int) (acc : List S87) : (preS l n g acc).1.length ≤ acc.length + l.length ∧ ((preS l n g acc).2 = true → (preS l n g acc).1.length = acc.length + l.length) := by
  induction l generalizing n g acc with
  | nil => simp [preS]
  | cons x l ih =>
    simp only [preS]
    split
    · have := ih (plusS n g x.f0 x.f1).1 (plusS n g x.f0 x.f1).2.1 (acc ++ [⟨(plusS n g x.f0 x.f1).1, (plusS n g x.f0 x.f1).2.1⟩])
      simp at this ⊢
      exact ⟨by omega, fun h => by have := this.2 h; omega⟩
    · simp
theorem prefixS_length (l : List S87) : (prefixS l).1.length ≤ l.length ∧ ((prefixS l).2 = true → (prefixS l).1.length = l.length) := by
  have := preS_length l 0 0 []
  simpa [prefixS] using this
/-- Plain sums. -/
def sums : Int → Int → List S87 → List S87
  | _, _, [] => []
  | n, g, x :: l => ⟨n + x.f0, g + x.f1⟩ :: sums (n + x.f0) (g + x.f1) l
theorem preS_sums (l : List S87) (n g : Int) (acc : List S87) (h : (preS l n g acc).2 = true) : (preS l n g acc).1 = acc ++ sums n g l ∧ SOk (sums n g l) := by
  induction l generalizing n g acc with
  | nil => exact ⟨by simp [preS, sums], fun x hx => by simp [sums] at hx⟩
  | cons x l ih =>
    simp only [preS] at h ⊢
    split at h
    · rename_i c
      rw [if_pos c]
      obtain ⟨e, r1, r2⟩ := plusS_true c
      rw [e] at h ⊢
      simp only at h ⊢
      obtain ⟨h1, h2⟩ := ih _ _ _ h
      refine ⟨by rw [h1]; simp [sums], fun y hy => ?_⟩
      simp only [sums, List.mem_cons] at hy
      rcases hy with rfl | hy
      · exact ⟨r1, r2⟩
      · exact h2 y hy
    · simp at h
theorem prefixS_sums {l : List S87} (h : (prefixS l).2 = true) : (prefixS l).1 = sums 0 0 l ∧ SOk (sums 0 0 l) := by
  have := preS_sums l 0 0 [] h
  simpa [prefixS] using this
theorem prefixS_false {l : List S87} (h : (prefixS l).2 ≠ true) : (prefixS l).1 = [] := by
  have key : ∀ (l : List S87) (n g : Int) (a : List S87), (preS l n g a).2 ≠ true → (preS l n g a).1 = [] := by
    intro l
    induction l with
    | nil => intro n g a h; simp [preS] at h
    | cons x l ih =>
      intro n g a h
      simp only [preS] at h ⊢
      split at h
      · rename_i c; rw [if_pos c]; exact ih _ _ _ h
      · rename_i c; rw [if_neg c]
  exact key l 0 0 [] h
theorem sums_length (n g : Int) (l : List S87) : (sums n g l).length = l.length := by
  induction l generalizing n g with
  | nil => rfl
  | cons x l ih => simp [sums, ih]
theorem sums_next (l : List S87) (n g : Int) (j : Nat) (x p : S87) (hx : l[j + 1]? = some x) (hp : (sums n g l)[j]? = some p) : (sums n g l)[j + 1]? = some ⟨p.f0 + x.f0, p.f1 + x.f1⟩ := by
  induction l generalizing n g j with
  | nil => simp at hx
  | cons y l ih =>
    simp only [sums] at hp ⊢
    cases j with
    | zero =>
      simp only [List.getElem?_cons_zero, Option.some.injEq] at hp
      subst hp
      cases l with
      | nil => simp at hx
      | cons z l =>
        simp only [List.getElem?_cons_succ, List.getElem?_cons_zero, Option.some.injEq] at hx
        subst hx
        simp [sums]
    | succ j =>
      simp only [List.getElem?_cons_succ] at hp hx ⊢
      exact ih _ _ j hx hp
/-- One slot less another. -/
def minusS (n g n' g' : Int) : Int × Int × Bool := if (subI n n').2 = true ∧ (subI g g').2 = true then ((subI n n').1, (subI g g').1, true) else (0, 0, false)
theorem minusS_i64 (n g n' g' : Int) : I64 (minusS n g n' g').1 ∧ I64 (minusS n g n' g').2.1 := by
  unfold minusS
  split
  · exact ⟨subI_i64 _ _, subI_i64 _ _⟩
  · exact ⟨⟨by decide, by decide⟩, ⟨by decide, by decide⟩⟩
def LessPair (f b f' b' : Int) : Prop := f < f' ∨ f = f' ∧ b < b'
/-- What is left of the last sum without the b-th. -/
def difS (S : List S87) (b : Nat) : Int × Int × Bool := minusS (S.getD (S.length - 1) z87).f0 (S.getD (S.length - 1) z87).f1 (S.getD b z87).f0 (S.getD b z87).f1
def candAt (f b : Nat) (S : List S87) : S91 := ⟨(f : Int), (b : Int), ⟨(S.getD b z87).f0, (S.getD b z87).f1⟩, ⟨(difS S b).1, (difS S b).2.1⟩⟩
def addC (f b : Nat) (least : Int) (S : List S87) (acc : List S91) : List S91 :=
  if (S.getD b z87).f0 ≥ least ∧ (difS S b).1 ≥ least then acc ++ [candAt f b S] else acc
def binsGo (f : Nat) (least : Int) (S : List S87) : Nat → Nat → List S91 → List S91 × Bool
  | 0, _, acc => (acc, true)
  | d + 1, b, acc => if (difS S b).2.2 = true then binsGo f least S d (b + 1) (addC f b least S acc) else ([], false)
def finC (K : List S91 → List S91) (r : List S91 × Bool) : List S91 := if r.2 = true then K r.1 else []
theorem binsGo_succ (f : Nat) (least : Int) (S : List S87) (d b : Nat) (acc : List S91) : binsGo f least S (d + 1) b acc = if (difS S b).2.2 = true then binsGo f least S d (b + 1) (addC f b least S acc) else ([], false) := rfl
def candsGo (least : Int) : List (List S87) → Nat → List S91 → List S91
  | [], _, acc => acc
  | h :: hs, f, acc => if (prefixS h).2 = true then (if (binsGo f least (prefixS h).1 ((prefixS h).1.length - 1) 0 acc).2 = true then candsGo least hs (f + 1) (binsGo f least (prefixS h).1 ((prefixS h).1.length - 1) 0 acc).1 else []) else []
theorem addC_length (f b : Nat) (least : Int) (S : List S87) (acc : List S91) : (addC f b least S acc).length ≤ acc.length + 1 := by
  unfold addC
  split <;> simp
theorem binsGo_length (f : Nat) (least : Int) (S : List S87) (d b : Nat) (acc : List S91) : (binsGo f least S d b acc).1.length ≤ acc.length + d := by
  induction d generalizing b acc with
  | zero => simp [binsGo]
  | succ d ih =>
    simp only [binsGo]
    split
    · have h1 := ih (b + 1) (addC f b least S acc)
      have h2 := addC_length f b least S acc
      omega
    · simp
theorem prefS_ok (h : List S87) : SOk (prefixS h).1 := by
  by_cases c : (prefixS h).2 = true
  · obtain ⟨a, b⟩ := prefixS_sums c
    rw [a]; exact b
  · rw [prefixS_false c]
    intro x hx; simp at hx
theorem getD_ok {l : List S87} (h : SOk l) (j : Nat) : I64 (l.getD j z87).f0 ∧ I64 (l.getD j z87).f1 := by
  rw [List.getD_eq_getElem?_getD]
  cases e : l[j]? with
  | none => exact ⟨⟨by decide, by decide⟩, ⟨by decide, by decide⟩⟩
  | some x => exact h.at e
theorem rdS (xs : List S87) (n : Nat) : rd_T87 xs (n : Int) = xs.getD n z87 := rfl
theorem rdLS (xs : List (List S87)) (n : Nat) : rd_L4 xs (n : Int) = xs.getD n [] := rfl
/-- What is known of a candidate in the list. -/
def GoodC (hists : List (List S87)) (least : Int) (c : S91) : Prop :=
  ∃ f b : Nat, f < hists.length ∧ (prefixS (hists.getD f [])).2 = true ∧ b + 1 < (prefixS (hists.getD f [])).1.length ∧ (difS (prefixS (hists.getD f [])).1 b).2.2 = true ∧
    c = candAt f b (prefixS (hists.getD f [])).1 ∧ c.f2.f0 ≥ least ∧ c.f3.f0 ≥ least
def Below2 (x : S91) (f b : Nat) : Prop := LessPair x.f0 x.f1 (f : Int) (b : Int)
def Sorted2 (l : List S91) : Prop := l.Pairwise (fun x y => LessPair x.f0 x.f1 y.f0 y.f1)
theorem addC_good {hists : List (List S87)} {least : Int} {f b : Nat} {acc : List S91} (hf : f < hists.length) (hp : (prefixS (hists.getD f [])).2 = true) (hb : b + 1 < (prefixS (hists.getD f [])).1.length) (hd : (difS (prefixS (hists.getD f [])).1 b).2.2 = true)
    (h1 : ∀ x ∈ acc, GoodC hists least x) (h2 : ∀ x ∈ acc, Below2 x f b) (h3 : Sorted2 acc) :
    (∀ x ∈ addC f b least (prefixS (hists.getD f [])).1 acc, GoodC hists least x) ∧ (∀ x ∈ addC f b least (prefixS (hists.getD f [])).1 acc, Below2 x f (b + 1)) ∧ Sorted2 (addC f b least (prefixS (hists.getD f [])).1 acc) := by
  have up : ∀ x, Below2 x f b → Below2 x f (b + 1) := fun x h => by
    unfold Below2 LessPair at *
    omega
  unfold addC
  split
  · rename_i c
    refine ⟨fun x hx => ?_, fun x hx => ?_, ?_⟩
    · rcases List.mem_append.1 hx with hx | hx
      · exact h1 x hx
      · simp only [List.mem_singleton] at hx
        subst hx
        exact ⟨f, b, hf, hp, hb, hd, rfl, c.1, c.2⟩
    · rcases List.mem_append.1 hx with hx | hx
      · exact up x (h2 x hx)
      · simp only [List.mem_singleton] at hx
        subst hx
        exact Or.inr ⟨rfl, by show (b : Int) < ((b + 1 : Nat) : Int); omega⟩
    · unfold Sorted2
      rw [List.pairwise_append]
      refine ⟨h3, List.pairwise_singleton _ _, fun x hx y hy => ?_⟩
      simp only [List.mem_singleton] at hy
      subst hy
      exact h2 x hx
  · exact ⟨h1, fun x hx => up x (h2 x hx), h3⟩
theorem binsGo_good {hists : List (List S87)} {least : Int} {f : Nat} (hf : f < hists.length) (hp : (prefixS (hists.getD f [])).2 = true) (d b : Nat) (acc : List S91) (hb : b + d = (prefixS (hists.getD f [])).1.length - 1)
    (h1 : ∀ x ∈ acc, GoodC hists least x) (h2 : ∀ x ∈ acc, Below2 x f b) (h3 : Sorted2 acc) :
    (∀ x ∈ (binsGo f least (prefixS (hists.getD f [])).1 d b acc).1, GoodC hists least x) ∧ (∀ x ∈ (binsGo f least (prefixS (hists.getD f [])).1 d b acc).1, Below2 x (f + 1) 0) ∧ Sorted2 (binsGo f least (prefixS (hists.getD f [])).1 d b acc).1 := by
  induction d generalizing b acc with
  | zero =>
    refine ⟨h1, fun x hx => ?_, h3⟩
    have := h2 x hx
    unfold Below2 LessPair at *
    omega
  | succ d ih =>
    simp only [binsGo]
    split
    · rename_i c
      obtain ⟨a1, a2, a3⟩ := addC_good hf hp (by omega) c h1 h2 h3
      exact ih (b + 1) _ (by omega) a1 a2 a3
    · exact ⟨fun x hx => by simp at hx, fun x hx => by simp at hx, List.Pairwise.nil⟩
theorem candsGo_good {hists : List (List S87)} {least : Int} (d f : Nat) (acc : List S91) (hd : f + d = hists.length) (h1 : ∀ x ∈ acc, GoodC hists least x) (h2 : ∀ x ∈ acc, Below2 x f 0) (h3 : Sorted2 acc) :
    (∀ x ∈ candsGo least (hists.drop f) f acc, GoodC hists least x) ∧ Sorted2 (candsGo least (hists.drop f) f acc) := by
  induction d generalizing f acc with
  | zero =>
    rw [List.drop_eq_nil_of_le (by omega)]
    exact ⟨h1, h3⟩
  | succ d ih =>
    have d1 : hists.drop f = hists.getD f [] :: hists.drop (f + 1) := by
      rw [List.drop_eq_getElem_cons (by omega), List.getD_eq_getElem?_getD, List.getElem?_eq_getElem (by omega)]
      rfl
    rw [d1]
    simp only [candsGo]
    split
    · rename_i c
      split
      · obtain ⟨a1, a2, a3⟩ := binsGo_good (least := least) (show f < hists.length by omega) c ((prefixS (hists.getD f [])).1.length - 1) 0 acc (by omega) h1 h2 h3
        exact ih (f + 1) _ (by omega) a1 a2 a3
      · exact ⟨fun x hx => by simp at hx, List.Pairwise.nil⟩
    · exact ⟨fun x hx => by simp at hx, List.Pairwise.nil⟩
theorem sum_len16 {α : Type} {l : List (List α)} (h : ∀ x ∈ l, x.length ≤ 16) : (l.map List.length).sum ≤ 16 * l.length := by
  induction l with
  | nil => simp
  | cons x l ih =>
    have h1 := h x (List.mem_cons_self ..)
    have h2 := ih (fun y hy => h y (List.mem_cons_of_mem _ hy))
    simp only [List.map_cons, List.sum_cons, List.length_cons]
    omega
theorem candsGo_length (least : Int) (hists : List (List S87)) : ∀ (f : Nat) (acc : List S91), (candsGo least hists f acc).length ≤ acc.length + (hists.map List.length).sum := by
  induction hists with
  | nil => intro f acc; simp [candsGo]
  | cons h hs ih =>
    intro f acc
    simp only [candsGo, List.map_cons, List.sum_cons]
    split
    · split
      · have h1 := ih (f + 1) (binsGo f least (prefixS h).1 ((prefixS h).1.length - 1) 0 acc).1
        have h2 := binsGo_length f least (prefixS h).1 ((prefixS h).1.length - 1) 0 acc
        have h3 := (prefixS_length h).1
        omega
      · simp
    · simp
theorem SOk_of {l : List S108} (h : ∀ x ∈ l, ((Lit.int .i64 x.f0).wf = true) ∧ ((Lit.int .i64 x.f1).wf = true)) : SOk (l.map toS) := by
  intro y hy
  obtain ⟨x, hx, rfl⟩ := List.mem_map.1 hy
  exact ⟨i64_wf (h x hx).1, i64_wf (h x hx).2⟩
theorem rdLl (xs : List (List S108)) (i : Int) : rd_L2 xs i = xs.getD i.toNat [] := rfl
theorem rdLi (xs : List (List S87)) (i : Int) : rd_L4 xs i = xs.getD i.toNat [] := rfl
def wl {α : Type} (l : List (List α)) : Nat := (l.map List.length).sum
theorem wl_mem {α : Type} {l : List (List α)} {x : List α} (h : x ∈ l) : x.length ≤ wl l := by
  unfold wl
  induction l with
  | nil => simp at h
  | cons y l ih =>
    simp only [List.mem_cons] at h
    simp only [List.map_cons, List.sum_cons]
    rcases h with rfl | h
    · omega
    · have := ih h; omega
theorem szSlotSS_l0 (l : List (List S108)) (hl : l.length ≤ 1048576) (hm : ∀ x ∈ l, x.length ≤ maxLen) : ∀ (d n : Nat) (a : Int), n + d = l.length → 0 ≤ a → a ≤ 1048576 →
    Ev (fun k => laws_szSlotSS.l0 k l a (n : Int)) (if a < ((l.drop n).map List.length).sum then -1 else a - ((l.drop n).map List.length).sum) := by
  intro d
  induction d with
  | zero =>
    intro n a hn h0 h1
    obtain rfl : n = l.length := by omega
    refine ev_succ ?_
    simp only [laws_szSlotSS.l0]
    refine ev_neg (by omega) (ev_of ?_)
    rw [List.drop_length, if_neg (by simp; omega)]
    simp
  | succ d ih =>
    intro n a hn h0 h1
    refine ev_succ ?_
    have hx : l[n]? = some l[n] := List.getElem?_eq_getElem (by omega)
    have d1 : l.drop n = l[n] :: l.drop (n + 1) := List.drop_eq_getElem_cons (by omega)
    have hmx := hm _ (List.mem_of_getElem? hx)
    simp only [laws_szSlotSS.l0, rdLl, gd_nat [] hx, szSlotS l[n] a h0 h1 hmx, Option.bind_some]
    refine ev_pos (by omega) (ev_pos (by omega) ?_)
    rw [d1, List.map_cons, List.sum_cons, w64 (x := (n : Int) + 1) (by omega) (by omega)]
    by_cases h : a < l[n].length
    · rw [if_pos h]
      refine ev_pos (by omega) (ev_of ?_)
      rw [if_pos (by omega)]
    · rw [if_neg h]
      refine ev_neg (by omega) (ev_eq (ih (n + 1) (a - l[n].length) (by omega) (by omega) (by omega)) ?_)
      by_cases g : a - (l[n].length : Int) < ((l.drop (n + 1)).map List.length).sum
      · rw [if_pos g, if_pos (by omega)]
      · rw [if_neg g, if_neg (by omega)]
        omega
theorem szSlotSS (l : List (List S108)) (a : Int) (h0 : 0 ≤ a) (h1 : a ≤ 1048576) (hl : l.length ≤ maxLen) (hm : ∀ x ∈ l, x.length ≤ maxLen) : Ev (fun k => laws_szSlotSS.f k l a) (if a < l.length + wl l then -1 else a - l.length - wl l) := by
  unfold maxLen at hl
  unfold laws_szSlotSS.f wl
  rw [w64 (by omega) (by omega)]
  by_cases h : a < l.length
  · refine ev_pos (by omega) (ev_of ?_)
    rw [if_pos (by omega)]
  · refine ev_neg (by omega) (ev_eq (szSlotSS_l0 l (by omega) hm l.length 0 _ (by omega) (by omega) (by omega)) ?_)
    rw [List.drop_zero]
    by_cases g : a - (l.length : Int) < (l.map List.length).sum
    · rw [if_pos g, if_pos (by omega)]
    · rw [if_neg g, if_neg (by omega)]
theorem toSlotSS (l : List (List S108)) (hl : l.length ≤ 1048576) (hw : wl l ≤ 1048576) : Ev (fun k => laws_toSlotSS.f k l) (l.map (List.map toS)) := by
  unfold laws_toSlotSS.f
  refine ev_pos (by omega) (ev_pos (by omega) ?_)
  refine copy_loop (fun k acc i => laws_toSlotSS.l0 k l acc i) l (List.map toS) ?_ ?_ l.length 0 (List.replicate (l.length : Int).toNat []) (by omega) (by simp) (fun j h => by omega)
  · intro acc ha
    refine ev_succ ?_
    simp only [laws_toSlotSS.l0]
    exact ev_neg (by omega) (Ev.now _)
  · intro acc n x r hn ha hx h
    refine ev_succ ?_
    have hm := wl_mem (List.mem_of_getElem? hx)
    simp only [laws_toSlotSS.l0, rdLl, gd_nat [] hx, Option.bind_some]
    refine ev_pos (by omega) (ev_pos (by omega) (Ev.bind (toSlotS x (by omega)) (ev_pos (by omega) ?_)))
    rw [w64 (x := (n : Int) + 1) (by omega) (by omega)]
    exact h
theorem eqSlotSS (l : List (List S87)) (hl : l.length ≤ 1048576) (hw : wl l ≤ 1048576) : Ev (fun k => laws_eqSlotSS.f k l l) true := by
  unfold laws_eqSlotSS.f
  refine ev_pos rfl ?_
  refine ev_eq (all_loop (fun k i => laws_eqSlotSS.l0 k l l i) l.length (fun _ => True) ?_ ?_ ?_ l.length 0 (by omega)) (dec_true (fun _ _ _ => trivial))
  · refine ev_succ ?_
    simp only [laws_eqSlotSS.l0]
    exact ev_neg (by omega) (Ev.now _)
  · intro n r hn _ h
    refine ev_succ ?_
    have hx : l[n]? = some l[n] := List.getElem?_eq_getElem hn
    have hm := wl_mem (List.mem_of_getElem? hx)
    simp only [laws_eqSlotSS.l0, rdLi, gd_nat [] hx]
    refine ev_pos (by omega) (ev_pos (by omega) (ev_pos (by omega) (Ev.bind (eqSlotS _ (by omega)) (ev_pos rfl ?_))))
    rw [w64 (x := (n : Int) + 1) (by omega) (by omega)]
    exact h
  · intro n hn h
    exact absurd trivial h
theorem markSlotSS_l0 : ∀ (d n : Nat) (x : List (List S87)) (m : Int), n + d = x.length → 0 ≤ m → m + 2 * (((x.drop n).map List.length).sum : Nat) ≤ 8388608 → x.length ≤ 1048576 → ∃ v r, Ev (fun k => laws_markSlotSS.l0 k x m (n : Int)) (v, r) ∧ m ≤ v := by
  intro d
  induction d with
  | zero =>
    intro n x m hn h0 hm hl
    refine ⟨m, x, ev_succ ?_, by omega⟩
    simp only [laws_markSlotSS.l0]
    exact ev_neg (by omega) (Ev.now _)
  | succ d ih =>
    intro n x m hn h0 hm hl
    have hx : n < x.length := by omega
    have er : laws_markSlotSS.row x (n : Int) = x[n] := by
      show x.getD n [] = _
      rw [List.getD_eq_getElem?_getD, List.getElem?_eq_getElem hx]
      rfl
    have ed : ((x.drop n).map List.length).sum = x[n].length + ((x.drop (n + 1)).map List.length).sum := by
      rw [List.drop_eq_getElem_cons hx, List.map_cons, List.sum_cons]
    have es : (x.set n (markedS m x[n].length)).drop (n + 1) = x.drop (n + 1) := List.drop_set_of_lt (by omega)
    obtain ⟨v, r, e, v1⟩ := ih (n + 1) (x.set n (markedS m x[n].length)) (m + 2 * (x[n].length : Int)) (by rw [List.length_set]; omega) (by omega) (by rw [es]; omega) (by rw [List.length_set]; exact hl)
    refine ⟨v, r, ev_succ ?_, by omega⟩
    simp only [laws_markSlotSS.l0, er]
    refine ev_pos (by omega) (ev_pos (by omega) (Ev.bind (markSlotS x[n] m h0 (by omega)) ?_))
    rw [w64 (x := (n : Int) + 1) (by omega) (by omega)]
    exact e
theorem markSlotSS (l : List (List S87)) (hl : l.length ≤ 1048576) (hw : wl l ≤ 1048576) : ∃ v r, Ev (fun k => laws_markSlotSS.f k l 1) (v, r) ∧ 0 ≤ v := by
  obtain ⟨v, r, e, h⟩ := markSlotSS_l0 l.length 0 l 1 (by omega) (by omega) (by rw [List.drop_zero]; unfold wl at hw; omega) hl
  exact ⟨v, r, e, by omega⟩
theorem rdc (xs : List S91) (i : Int) : rd_T91 xs i = xs.getD i.toNat z91 := rfl
theorem eqCandS (l : List S91) (hl : l.length ≤ 17592186044416) : Ev (fun k => laws_eqCandS.f k l l) true := by
  unfold laws_eqCandS.f
  refine ev_pos rfl ?_
  refine ev_eq (all_loop (fun k i => laws_eqCandS.l0 k l l i) l.length (fun _ => True) ?_ ?_ ?_ l.length 0 (by omega)) (dec_true (fun _ _ _ => trivial))
  · refine ev_succ ?_
    simp only [laws_eqCandS.l0]
    exact ev_neg (by omega) (Ev.now _)
  · intro n r hn _ h
    refine ev_succ ?_
    simp only [laws_eqCandS.l0, laws_eqCand.f, laws_eqSlot.f, if_true, Option.bind_some]
    refine ev_pos (by omega) (ev_pos (by omega) (ev_pos (by omega) ?_))
    rw [w64 (x := (n : Int) + 1) (by omega) (by omega)]
    exact h
  · intro n hn h
    exact absurd trivial h
def candM (m : Int) : S91 := ⟨m, m + 1, ⟨m + 2, m + 3⟩, ⟨m + 4, m + 5⟩⟩
def markedC (m : Int) : Nat → List S91
  | 0 => []
  | n + 1 => candM m :: markedC (m + 6) n
theorem markedC_length (m : Int) (n : Nat) : (markedC m n).length = n := by
  induction n generalizing m with
  | zero => rfl
  | succ n ih => simp [markedC, ih]
theorem markedC_get (m : Int) (n j : Nat) (h : j < n) : (markedC m n)[j]? = some (candM (m + 6 * (j : Int))) := by
  induction n generalizing m j with
  | zero => omega
  | succ n ih =>
    cases j with
    | zero => simp [markedC]
    | succ j =>
      simp only [markedC, List.getElem?_cons_succ]
      rw [ih (m + 6) j (by omega)]
      congr 2
      omega
theorem markedC_snoc (m : Int) (n : Nat) : markedC m (n + 1) = markedC m n ++ [candM (m + 6 * (n : Int))] := by
  induction n generalizing m with
  | zero => simp [markedC]
  | succ n ih =>
    rw [markedC, ih (m + 6)]
    simp only [markedC, List.cons_append, List.cons.injEq, true_and, List.append_cancel_left_eq, and_true]
    congr 1
    omega
theorem rdc_set {x : List S91} {n : Nat} (h : n < x.length) (v : S91) : rd_T91 (x.set n v) (n : Int) = v := by
  rw [rdc]
  exact gd_nat _ (by rw [List.getElem?_set_self h])
theorem markCandS (l : List S91) (m : Int) (hm : 0 ≤ m) (hl : m + 6 * l.length ≤ 35184372088832) : Ev (fun k => laws_markCandS.f k l m) (m + 6 * (l.length : Int), markedC m l.length) := by
  unfold laws_markCandS.f
  have key := fold_loop (fun k (s : List S91 × Int) i => laws_markCandS.l0 k s.1 s.2 i) l.length (fun n => (markedC m n ++ l.drop n, m + 6 * (n : Int))) (m + 6 * (l.length : Int), markedC m l.length) ?_ ?_ l.length 0 (by omega)
  · simpa [markedC] using key
  · refine ev_succ ?_
    simp only [laws_markCandS.l0]
    refine ev_neg (by simp [markedC_length]) (ev_of ?_)
    simp
  · intro n hn h
    refine ev_succ ?_
    simp only at h ⊢
    have hlen : (markedC m n ++ l.drop n).length = l.length := by simp [markedC_length]; omega
    have hx : l.drop n = l[n] :: l.drop (n + 1) := List.drop_eq_getElem_cons hn
    have hr : ∀ v, rd_T91 ((markedC m n ++ l.drop n).set n v) (n : Int) = v := rdc_set (by omega)
    have hs : ∀ v, (markedC m n ++ l.drop n).set n v = markedC m n ++ v :: l.drop (n + 1) := fun v => by rw [hx]; exact set_mid _ _ _ _ (markedC_length m n)
    simp only [laws_markCandS.l0, Option.bind_some, Int.toNat_natCast, List.set_set, hr]
    rw [w64 (x := m + 6 * (n : Int) + 1) (by omega) (by omega), w64 (x := m + 6 * (n : Int) + 1 + 1) (by omega) (by omega), w64 (x := m + 6 * (n : Int) + 1 + 1 + 1) (by omega) (by omega), w64 (x := m + 6 * (n : Int) + 1 + 1 + 1 + 1) (by omega) (by omega), w64 (x := m + 6 * (n : Int) + 1 + 1 + 1 + 1 + 1) (by omega) (by omega), w64 (x := m + 6 * (n : Int) + 1 + 1 + 1 + 1 + 1 + 1) (by omega) (by omega), w64 (x := (n : Int) + 1) (by omega) (by omega)]
    refine ev_pos (by omega) (ev_pos (by omega) ?_)
    rw [hs]
    have e2 : markedC m n ++ (⟨m + 6 * (n : Int), m + 6 * (n : Int) + 1, ⟨m + 6 * (n : Int) + 1 + 1, m + 6 * (n : Int) + 1 + 1 + 1⟩, ⟨m + 6 * (n : Int) + 1 + 1 + 1 + 1, m + 6 * (n : Int) + 1 + 1 + 1 + 1 + 1⟩⟩ : S91) :: l.drop (n + 1) = markedC m (n + 1) ++ l.drop (n + 1) := by
      rw [markedC_snoc, List.append_assoc, List.singleton_append]
      congr 2
      unfold candM
      congr 2 <;> omega
    have e3 : m + 6 * (n : Int) + 1 + 1 + 1 + 1 + 1 + 1 = m + 6 * ((n + 1 : Nat) : Int) := by omega
    rw [e2, e3]
    exact h
theorem heldCandS (m : Int) (N : Nat) (hm : 0 ≤ m) (hl : m + 6 * N ≤ 35184372088832) : Ev (fun k => laws_heldCandS.f k (markedC m N) m) (m + 6 * (N : Int)) := by
  unfold laws_heldCandS.f
  have key := fold_loop (fun k (s : Int) i => laws_heldCandS.l0 k (markedC m N) s i) N (fun n => m + 6 * (n : Int)) (m + 6 * (N : Int)) ?_ ?_ N 0 (by omega)
  · simpa using key
  · refine ev_succ ?_
    simp only [laws_heldCandS.l0]
    exact ev_neg (by rw [markedC_length]; omega) (Ev.now _)
  · intro n hn h
    refine ev_succ ?_
    simp only [laws_heldCandS.l0, rdc, gd_nat z91 (markedC_get m N n hn), candM]
    rw [w64 (x := m + 6 * (n : Int) + 1) (by omega) (by omega), w64 (x := m + 6 * (n : Int) + 1 + 1) (by omega) (by omega), w64 (x := m + 6 * (n : Int) + 1 + 1 + 1) (by omega) (by omega), w64 (x := m + 6 * (n : Int) + 1 + 1 + 1 + 1) (by omega) (by omega), w64 (x := m + 6 * (n : Int) + 1 + 1 + 1 + 1 + 1) (by omega) (by omega), w64 (x := m + 6 * (n : Int) + 1 + 1 + 1 + 1 + 1 + 1) (by omega) (by omega), w64 (x := (n : Int) + 1) (by omega) (by omega)]
    have e3 : m + 6 * (n : Int) + 1 + 1 + 1 + 1 + 1 + 1 = m + 6 * ((n + 1 : Nat) : Int) := by omega
    rw [e3]
    exact ev_pos (by rw [markedC_length]; omega) (ev_pos (by omega) (ev_pos trivial (ev_pos rfl (ev_pos (by omega) (ev_pos (by omega) (ev_pos (by omega) (ev_pos (by omega) h)))))))
theorem implAddInt {a b : Int} (ha : I64 a) (hb : I64 b) : impl_AddInt.f a b = some (addI a b) := by
  unfold I64 at ha hb
  unfold impl_AddInt.f addI
  by_cases h : -9223372036854775808 ≤ a + b ∧ a + b ≤ 9223372036854775807
  · rw [if_pos h, w64 h.1 h.2]
    split
    · rename_i h1
      rw [if_neg]
      simp only [beq_iff_eq, decide_eq_decide] at h1
      simp only [bne_iff_ne, ne_eq, decide_eq_decide, Decidable.not_not]
      omega
    · rfl
  · rw [if_neg h]
    have h2 : a + b < -9223372036854775808 ∨ 9223372036854775807 < a + b := by omega
    rw [if_pos (by simp only [beq_iff_eq, decide_eq_decide]; omega)]
    rcases h2 with h2 | h2
    · rw [wrap_under h2 (by omega), if_pos]
      simp only [bne_iff_ne, ne_eq, decide_eq_decide]
      omega
    · rw [wrap_over h2 (by omega), if_pos]
      simp only [bne_iff_ne, ne_eq, decide_eq_decide]
      omega
theorem implPlus {n g n' g' : Int} (h1 : I64 n) (h2 : I64 g) (h3 : I64 n') (h4 : I64 g') : impl_Slot_plus.f n g n' g' = some (plusS n g n' g') := by
  unfold impl_Slot_plus.f plusS
  simp only [implAddInt h1 h3, implAddInt h2 h4, Option.bind_some]
  by_cases a : (addI n n').2 = true
  · by_cases b : (addI g g').2 = true
    · rw [if_pos a, if_pos b, if_pos ⟨a, b⟩]
    · rw [if_pos a, if_neg b, if_neg (fun z => b z.2)]
  · rw [if_neg a, if_neg (fun z => a z.1)]
theorem implPrefix_l0 (l : List S87) (hl : l.length ≤ 1048576) (hx : SOk l) : ∀ (d n : Nat) (acc : List S87) (a b : Int), n + d = l.length → acc.length = n → I64 a → I64 b →
    Ev (fun k => impl_Prefix.l0 k acc l (l.length : Int) (n : Int) a b) (preS (l.drop n) a b acc) := by
  intro d
  induction d with
  | zero =>
    intro n acc a b hn ha h1 h2
    obtain rfl : n = l.length := by omega
    refine ev_succ ?_
    simp only [impl_Prefix.l0]
    refine ev_neg (by omega) (ev_of ?_)
    rw [List.drop_length]
    rfl
  | succ d ih =>
    intro n acc a b hn ha h1 h2
    refine ev_succ ?_
    have e1 : l[n]? = some l[n] := List.getElem?_eq_getElem (by omega)
    have d1 : l.drop n = l[n] :: l.drop (n + 1) := List.drop_eq_getElem_cons (by omega)
    simp only [impl_Prefix.l0, rdi, gd_nat z87 e1, implPlus h1 h2 (hx.at e1).1 (hx.at e1).2, Option.bind_some]
    refine ev_pos (by omega) (ev_pos (by omega) (ev_pos (by omega) ?_))
    rw [d1]
    simp only [preS]
    by_cases c1 : (plusS a b l[n].f0 l[n].f1).2.2 = true
    · rw [if_pos c1]
      refine ev_pos c1 (ev_pos (by omega) ?_)
      rw [w64 (x := (n : Int) + 1) (by omega) (by omega)]
      exact ih (n + 1) _ _ _ (by omega) (by simp [ha]) (plusS_i64 _ _ _ _).1 (plusS_i64 _ _ _ _).2
    · rw [if_neg c1]
      exact ev_neg c1 (Ev.now _)
theorem implPrefix (l : List S87) (hl : l.length ≤ 1048576) (hx : SOk l) : Ev (fun k => impl_Prefix.f k l) (prefixS l) :=
  implPrefix_l0 l hl hx l.length 0 [] 0 0 (by omega) rfl ⟨by decide, by decide⟩ ⟨by decide, by decide⟩
theorem implSubInt {a b : Int} (ha : I64 a) (hb : I64 b) : impl_SubInt.f a b = some (subI a b) := by
  unfold I64 at ha hb
  unfold impl_SubInt.f subI
  by_cases h : -9223372036854775808 ≤ a - b ∧ a - b ≤ 9223372036854775807
  · rw [if_pos h, w64 h.1 h.2]
    split
    · rename_i h1
      rw [if_neg]
      simp only [bne_iff_ne, ne_eq, decide_eq_decide] at h1
      simp only [bne_iff_ne, ne_eq, decide_eq_decide, Decidable.not_not]
      omega
    · rfl
  · rw [if_neg h]
    have h2 : a - b < -9223372036854775808 ∨ 9223372036854775807 < a - b := by omega
    rw [if_pos (by simp only [bne_iff_ne, ne_eq, decide_eq_decide]; omega)]
    rcases h2 with h2 | h2
    · rw [wrap_under h2 (by omega), if_pos]
      simp only [bne_iff_ne, ne_eq, decide_eq_decide]
      omega
    · rw [wrap_over h2 (by omega), if_pos]
      simp only [bne_iff_ne, ne_eq, decide_eq_decide]
      omega
theorem implMinus {n g n' g' : Int} (h1 : I64 n) (h2 : I64 g) (h3 : I64 n') (h4 : I64 g') : impl_Slot_minus.f n g n' g' = some (minusS n g n' g') := by
  unfold impl_Slot_minus.f minusS
  simp only [implSubInt h1 h3, implSubInt h2 h4, Option.bind_some]
  by_cases a : (subI n n').2 = true
  · by_cases b : (subI g g').2 = true
    · rw [if_pos a, if_pos b, if_pos ⟨a, b⟩]
    · rw [if_pos a, if_neg b, if_neg (fun z => b z.2)]
  · rw [if_neg a, if_neg (fun z => a z.1)]
theorem implCands_l1 (k0 : Unit) (hists : List (List S87)) (least : Int) (f : Nat) (S : List S87) (hS : S.length ≤ 1048576) (ho : SOk S) (K : List S91 → List S91) (B : Nat) (hB : B ≤ 1048576)
    (next : ∀ acc : List S91, acc.length ≤ B → Ev (fun k => impl_CandsOf.l0 k least acc hists (hists.length : Int) (wrap64 ((f : Int) + 1))) (K acc)) :
    ∀ (d b : Nat) (acc : List S91), b + d = S.length - 1 → acc.length + d ≤ B → Ev (fun k => impl_CandsOf.l1 k least acc (f : Int) S (b : Int) hists (hists.length : Int) (f : Int)) (finC K (binsGo f least S d b acc)) := by
  intro d
  induction d with
  | zero =>
    intro b acc hb ha
    refine ev_succ ?_
    simp only [impl_CandsOf.l1, binsGo, finC, if_true]
    rw [w64 (x := (S.length : Int) - 1) (by omega) (by omega)]
    exact ev_neg (by omega) (next acc (by omega))
  | succ d ih =>
    intro b acc hb ha
    refine ev_succ ?_
    have e1 : (S.length : Int) - 1 = ((S.length - 1 : Nat) : Int) := by omega
    have hw : wrap64 ((b : Int) + 1) = ((b + 1 : Nat) : Int) := w64 (by omega) (by omega)
    have go := ih (b + 1)
    have o1 := getD_ok ho (S.length - 1)
    have o2 := getD_ok ho b
    rw [binsGo_succ]
    simp only [impl_CandsOf.l1]
    rw [w64 (x := (S.length : Int) - 1) (by omega) (by omega), e1]
    simp only [rdS, hw, implMinus o1.1 o1.2 o2.1 o2.2, Option.bind_some]
    refine ev_pos (by omega) (ev_pos (by omega) (ev_pos (by omega) (ev_pos (by omega) (ev_pos (by omega) ?_))))
    by_cases c : (difS S b).2.2 = true
    · refine ev_pos c ?_
      rw [if_pos c]
      unfold addC
      by_cases c1 : (S.getD b z87).f0 ≥ least
      · refine ev_pos c1 ?_
        by_cases c2 : (difS S b).1 ≥ least
        · refine ev_pos c2 (ev_pos (by omega) ?_)
          rw [if_pos ⟨c1, c2⟩]
          exact go _ (by omega) (by simp; omega)
        · rw [if_neg (fun z => c2 z.2)]
          exact ev_neg c2 (go _ (by omega) (by omega))
      · rw [if_neg (fun z => c1 z.1)]
        exact ev_neg c1 (go _ (by omega) (by omega))
    · refine ev_neg c (ev_of ?_)
      rw [if_neg c]
      rfl
theorem implCands_l0 (hists : List (List S87)) (least : Int) (hl : hists.length ≤ 1048576) (hh : ∀ h ∈ hists, SOk h) :
    ∀ (d f : Nat) (acc : List S91), f + d = hists.length → acc.length + ((hists.drop f).map List.length).sum ≤ 1048576 → Ev (fun k => impl_CandsOf.l0 k least acc hists (hists.length : Int) (f : Int)) (candsGo least (hists.drop f) f acc) := by
  intro d
  induction d with
  | zero =>
    intro f acc hf ha
    have e0 : hists.drop f = [] := List.drop_eq_nil_of_le (by omega)
    rw [e0]
    refine ev_succ ?_
    simp only [impl_CandsOf.l0, candsGo]
    exact ev_neg (by omega) (Ev.now _)
  | succ d ih =>
    intro f acc hf ha
    have hx : hists[f]? = some hists[f] := List.getElem?_eq_getElem (by omega)
    have d1 : hists.drop f = hists[f] :: hists.drop (f + 1) := List.drop_eq_getElem_cons (by omega)
    have hg : hists.getD f [] = hists[f] := by rw [List.getD_eq_getElem?_getD, hx]; rfl
    have g1 : hists[f].length + ((hists.drop (f + 1)).map List.length).sum = ((hists.drop f).map List.length).sum := by rw [d1, List.map_cons, List.sum_cons]
    have pI := implPrefix hists[f] (by omega) (hh _ (List.mem_of_getElem? hx))
    clear hh
    rw [d1]
    refine ev_succ ?_
    simp only [impl_CandsOf.l0, rdLS, hg, candsGo]
    refine ev_pos (by omega) (ev_pos (by omega) (ev_pos (by omega) (Ev.bind pI ?_)))
    by_cases c : (prefixS hists[f]).2 = true
    · refine ev_pos c ?_
      rw [if_pos c]
      have len := (prefixS_length hists[f]).1
      exact implCands_l1 () hists least f (prefixS hists[f]).1 (by omega) (prefS_ok _) (fun a => candsGo least (hists.drop (f + 1)) (f + 1) a) (1048576 - ((hists.drop (f + 1)).map List.length).sum) (by omega) (fun a h => by
        rw [w64 (x := (f : Int) + 1) (by omega) (by omega)]
        exact ih (f + 1) a (by omega) (by omega)) ((prefixS hists[f]).1.length - 1) 0 acc (by omega) (by omega)
    · refine ev_neg c (ev_of ?_)
      rw [if_neg c]
theorem implCandsOf_all (hists : List (List S87)) (least : Int) (hl : hists.length ≤ 1048576) (ht : (hists.map List.length).sum ≤ 1048576) (hh : ∀ h ∈ hists, SOk h) : Ev (fun k => impl_CandsOf.f k hists least) (candsGo least hists 0 []) :=
  implCands_l0 hists least hl hh hists.length 0 [] (by omega) (by rw [List.drop_zero]; simpa using ht)
theorem implCandsOf (hists : List (List S87)) (least : Int) (hl : hists.length ≤ 16) (hh : ∀ h ∈ hists, h.length ≤ 16 ∧ SOk h) : Ev (fun k => impl_CandsOf.f k hists least) (candsGo least hists 0 []) :=
  implCandsOf_all hists least (by omega) (by have := sum_len16 (fun h hm => (hh h hm).1); omega) (fun h hm => (hh h hm).2)
theorem specAddInt {a b : Int} (ha : I64 a) (hb : I64 b) : spec_AddInt.f a b = some (addI a b) := by
  unfold I64 at ha hb
  unfold spec_AddInt.f addI
  by_cases h1 : b > 0
  · rw [if_pos h1, w64 (x := 9223372036854775807 - b) (by omega) (by omega)]
    by_cases h2 : a > 9223372036854775807 - b
    · rw [if_pos h2, if_neg (by omega)]
    · rw [if_neg h2, if_neg (by omega), if_pos (by omega), w64 (by omega) (by omega)]
  · rw [if_neg h1]
    by_cases h2 : b < 0
    · rw [if_pos h2, w64 (x := -9223372036854775808 - b) (by omega) (by omega)]
      by_cases h3 : a < -9223372036854775808 - b
      · rw [if_pos h3, if_neg (by omega)]
      · rw [if_neg h3, if_pos (by omega), w64 (by omega) (by omega)]
    · rw [if_neg h2, if_pos (by omega), w64 (by omega) (by omega)]
theorem specAdd13 {n g n' g' : Int} (h1 : I64 n) (h2 : I64 g) (h3 : I64 n') (h4 : I64 g') : spec_l13Add.f n g n' g' = some (plusS n g n' g') := by
  unfold spec_l13Add.f plusS
  simp only [specAddInt h1 h3, specAddInt h2 h4, Option.bind_some]
  by_cases a : (addI n n').2 = true
  · by_cases b : (addI g g').2 = true
    · rw [if_pos a, if_pos b, if_pos ⟨a, b⟩]
    · rw [if_pos a, if_neg b, if_neg (fun z => b z.2)]
  · rw [if_neg a, if_neg (fun z => a z.1)]
theorem specPrefix_l0 (l : List S87) (hl : l.length ≤ 1048576) (hx : SOk l) : ∀ (d n : Nat) (acc : List S87) (a b : Int), n + d = l.length → acc.length = n → I64 a → I64 b →
    Ev (fun k => spec_Prefix.l0 k l acc (n : Int) a b) (preS (l.drop n) a b acc) := by
  intro d
  induction d with
  | zero =>
    intro n acc a b hn ha h1 h2
    obtain rfl : n = l.length := by omega
    refine ev_succ ?_
    simp only [spec_Prefix.l0]
    refine ev_neg (by omega) (ev_of ?_)
    rw [List.drop_length]
    rfl
  | succ d ih =>
    intro n acc a b hn ha h1 h2
    refine ev_succ ?_
    have e1 : l[n]? = some l[n] := List.getElem?_eq_getElem (by omega)
    have d1 : l.drop n = l[n] :: l.drop (n + 1) := List.drop_eq_getElem_cons (by omega)
    simp only [spec_Prefix.l0, rdi, gd_nat z87 e1, specAdd13 h1 h2 (hx.at e1).1 (hx.at e1).2, Option.bind_some]
    refine ev_pos (by omega) (ev_pos (by omega) ?_)
    rw [d1]
    simp only [preS]
    by_cases c1 : (plusS a b l[n].f0 l[n].f1).2.2 = true
    · rw [if_pos c1]
      refine ev_pos c1 (ev_pos (by omega) ?_)
      rw [w64 (x := (n : Int) + 1) (by omega) (by omega)]
      exact ih (n + 1) _ _ _ (by omega) (by simp [ha]) (plusS_i64 _ _ _ _).1 (plusS_i64 _ _ _ _).2
    · rw [if_neg c1]
      exact ev_neg c1 (Ev.now _)
theorem specPrefix (l : List S87) (hl : l.length ≤ 1048576) (hx : SOk l) : Ev (fun k => spec_Prefix.f k l) (prefixS l) :=
  specPrefix_l0 l hl hx l.length 0 [] 0 0 (by omega) rfl ⟨by decide, by decide⟩ ⟨by decide, by decide⟩
theorem specSubInt {a b : Int} (ha : I64 a) (hb : I64 b) : spec_SubInt.f a b = some (subI a b) := by
  unfold I64 at ha hb
  unfold spec_SubInt.f subI
  by_cases h1 : b < 0
  · rw [if_pos h1, w64 (x := 9223372036854775807 + b) (by omega) (by omega)]
    by_cases h2 : a > 9223372036854775807 + b
    · rw [if_pos h2, if_neg (by omega)]
    · rw [if_neg h2, if_neg (by omega), if_pos (by omega), w64 (by omega) (by omega)]
  · rw [if_neg h1]
    by_cases h2 : b > 0
    · rw [if_pos h2, w64 (x := -9223372036854775808 + b) (by omega) (by omega)]
      by_cases h3 : a < -9223372036854775808 + b
      · rw [if_pos h3, if_neg (by omega)]
      · rw [if_neg h3, if_pos (by omega), w64 (by omega) (by omega)]
    · rw [if_neg h2, if_pos (by omega), w64 (by omega) (by omega)]
theorem specCands_stop (hists : List (List S87)) (least : Int) (acc : List S91) (f : Int) (S : List S87) (b x y : Int) : Ev (fun k => spec_CandsOf.j2 k hists least acc f S b x y true) [] := ev_end fun k => by
  simp only [spec_CandsOf.j2]
  rw [if_pos trivial]
theorem specCands_l1 (hists : List (List S87)) (least : Int) (f : Nat) (S : List S87) (hS : S.length ≤ 1048576) (ho : SOk S) (K : List S91 → List S91) (B : Nat) (hB : B ≤ 1048576)
    (next : ∀ acc : List S91, acc.length ≤ B → Ev (fun k => spec_CandsOf.l0 k hists least acc (wrap64 ((f : Int) + 1))) (K acc)) :
    ∀ (d b : Nat) (acc : List S91), b + d = S.length - 1 → acc.length + d ≤ B → Ev (fun k => spec_CandsOf.l1 k hists least acc (f : Int) S (b : Int)) (finC K (binsGo f least S d b acc)) := by
  intro d
  induction d with
  | zero =>
    intro b acc hb ha
    refine ev_succ ?_
    simp only [spec_CandsOf.l1, binsGo, finC, if_true]
    rw [w64 (x := (b : Int) + 1) (by omega) (by omega)]
    exact ev_neg (by omega) (next acc (by omega))
  | succ d ih =>
    intro b acc hb ha
    refine ev_succ ?_
    have e1 : (S.length : Int) - 1 = ((S.length - 1 : Nat) : Int) := by omega
    have hw : wrap64 ((b : Int) + 1) = ((b + 1 : Nat) : Int) := w64 (by omega) (by omega)
    have go := ih (b + 1)
    have o1 := getD_ok ho (S.length - 1)
    have o2 := getD_ok ho b
    rw [binsGo_succ]
    simp only [spec_CandsOf.l1]
    rw [w64 (x := (S.length : Int) - 1) (by omega) (by omega), e1]
    simp only [rdS, hw, specSubInt o1.1 o2.1, specSubInt o1.2 o2.2, Option.bind_some]
    refine ev_pos (by omega) (ev_pos (by omega) (ev_pos (by omega) (ev_pos (by omega) (ev_pos (by omega) ?_))))
    by_cases a1 : (subI (S.getD (S.length - 1) z87).f0 (S.getD b z87).f0).2 = true
    · refine ev_pos a1 ?_
      by_cases a2 : (subI (S.getD (S.length - 1) z87).f1 (S.getD b z87).f1).2 = true
      · have ed : difS S b = ((subI (S.getD (S.length - 1) z87).f0 (S.getD b z87).f0).1, (subI (S.getD (S.length - 1) z87).f1 (S.getD b z87).f1).1, true) := by
          unfold difS minusS
          rw [if_pos ⟨a1, a2⟩]
        have c : (difS S b).2.2 = true := by rw [ed]
        have x1 : (subI (S.getD (S.length - 1) z87).f0 (S.getD b z87).f0).1 = (difS S b).1 := by rw [ed]
        have x2 : (subI (S.getD (S.length - 1) z87).f1 (S.getD b z87).f1).1 = (difS S b).2.1 := by rw [ed]
        rw [if_pos c, x1, x2]
        refine ev_succ ?_
        simp only [spec_CandsOf.j2, rdS, hw]
        refine ev_neg (by rw [a2]; decide) (ev_pos (by omega) (ev_pos (by omega) ?_))
        unfold addC
        by_cases c1 : (S.getD b z87).f0 ≥ least
        · refine ev_pos c1 ?_
          by_cases c2 : (difS S b).1 ≥ least
          · refine ev_pos c2 (ev_pos (by omega) ?_)
            rw [if_pos ⟨c1, c2⟩]
            exact go _ (by omega) (by simp; omega)
          · rw [if_neg (fun z => c2 z.2)]
            exact ev_neg c2 (go _ (by omega) (by omega))
        · rw [if_neg (fun z => c1 z.1)]
          exact ev_neg c1 (go _ (by omega) (by omega))
      · have c : ¬ (difS S b).2.2 = true := by
          unfold difS minusS
          rw [if_neg (fun z => a2 z.2)]
          decide
        rw [if_neg c, show (!(subI (S.getD (S.length - 1) z87).f1 (S.getD b z87).f1).2) = true by simpa using a2]
        exact specCands_stop _ _ _ _ _ _ _ _
    · have c : ¬ (difS S b).2.2 = true := by
        unfold difS minusS
        rw [if_neg (fun z => a1 z.1)]
        decide
      rw [if_neg c]
      exact ev_neg a1 (specCands_stop _ _ _ _ _ _ _ _)
theorem specCands_l0 (hists : List (List S87)) (least : Int) (hl : hists.length ≤ 1048576) (hh : ∀ h ∈ hists, SOk h) :
    ∀ (d f : Nat) (acc : List S91), f + d = hists.length → acc.length + ((hists.drop f).map List.length).sum ≤ 1048576 → Ev (fun k => spec_CandsOf.l0 k hists least acc (f : Int)) (candsGo least (hists.drop f) f acc) := by
  intro d
  induction d with
  | zero =>
    intro f acc hf ha
    have e0 : hists.drop f = [] := List.drop_eq_nil_of_le (by omega)
    rw [e0]
    refine ev_succ ?_
    simp only [spec_CandsOf.l0, candsGo]
    exact ev_neg (by omega) (Ev.now _)
  | succ d ih =>
    intro f acc hf ha
    have hx : hists[f]? = some hists[f] := List.getElem?_eq_getElem (by omega)
    have d1 : hists.drop f = hists[f] :: hists.drop (f + 1) := List.drop_eq_getElem_cons (by omega)
    have hg : hists.getD f [] = hists[f] := by rw [List.getD_eq_getElem?_getD, hx]; rfl
    have g1 : hists[f].length + ((hists.drop (f + 1)).map List.length).sum = ((hists.drop f).map List.length).sum := by rw [d1, List.map_cons, List.sum_cons]
    have pI := specPrefix hists[f] (by omega) (hh _ (List.mem_of_getElem? hx))
    clear hh
    rw [d1]
    refine ev_succ ?_
    simp only [spec_CandsOf.l0, rdLS, hg, candsGo]
    refine ev_pos (by omega) (ev_pos (by omega) (Ev.bind pI ?_))
    by_cases c : (prefixS hists[f]).2 = true
    · refine ev_pos c ?_
      rw [if_pos c]
      have len := (prefixS_length hists[f]).1
      exact specCands_l1 hists least f (prefixS hists[f]).1 (by omega) (prefS_ok _) (fun a => candsGo least (hists.drop (f + 1)) (f + 1) a) (1048576 - ((hists.drop (f + 1)).map List.length).sum) (by omega) (fun a h => by
        rw [w64 (x := (f : Int) + 1) (by omega) (by omega)]
        exact ih (f + 1) a (by omega) (by omega)) ((prefixS hists[f]).1.length - 1) 0 acc (by omega) (by omega)
    · refine ev_neg c (ev_of ?_)
      rw [if_neg c]
theorem specCandsOf_all (hists : List (List S87)) (least : Int) (hl : hists.length ≤ 1048576) (ht : (hists.map List.length).sum ≤ 1048576) (hh : ∀ h ∈ hists, SOk h) : Ev (fun k => spec_CandsOf.f k hists least) (candsGo least hists 0 []) :=
  specCands_l0 hists least hl hh hists.length 0 [] (by omega) (by rw [List.drop_zero]; simpa using ht)
theorem specCandsOf (hists : List (List S87)) (least : Int) (hl : hists.length ≤ 16) (hh : ∀ h ∈ hists, h.length ≤ 16 ∧ SOk h) : Ev (fun k => spec_CandsOf.f k hists least) (candsGo least hists 0 []) :=
  specCandsOf_all hists least (by omega) (by have := sum_len16 (fun h hm => (hh h hm).1); omega) (fun h hm => (hh h hm).2)

theorem wl_map (l : List (List S108)) : wl (l.map (List.map toS)) = wl l := by
  unfold wl
  rw [List.map_map]
  congr 1
  exact List.map_congr_left (fun x _ => List.length_map _)
theorem FnExactCandsOf (l0 : List (List (S108))) (a1 : Int)
    (w0 : l0.length ≤ maxLen ∧ ∀ x ∈ l0, x.length ≤ maxLen ∧ ∀ y ∈ x, ((Lit.int .i64 y.f0).wf = true) ∧ ((Lit.int .i64 y.f1).wf = true)) (w1 : (Lit.int .i64 a1).wf = true) : ∃ k, laws_FnExactCandsOf.f k l0 a1 = some true := by
  refine Ev.rounds ?_
  unfold laws_FnExactCandsOf.f
  refine Ev.bind (szSlotSS l0 1048576 (by omega) (by omega) w0.1 (fun x hx => (w0.2 x hx).1)) ?_
  by_cases b0 : (1048576 : Int) < l0.length + wl l0
  · rw [if_pos b0]
    exact ev_pos (by omega) (Ev.now _)
  rw [if_neg b0]
  refine ev_neg (by omega) ?_
  have t0 := toSlotSS l0 (by omega) (by omega)
  have hw : wl (l0.map (List.map toS)) ≤ 1048576 := by rw [wl_map]; omega
  have hl : (l0.map (List.map toS)).length ≤ 1048576 := by rw [List.length_map]; omega
  have ho : ∀ h ∈ l0.map (List.map toS), SOk h := by
    intro h hm
    obtain ⟨x, hx, rfl⟩ := List.mem_map.1 hm
    exact SOk_of (w0.2 x hx).2
  generalize l0.map (List.map toS) = X at *
  have sp := specCandsOf_all X a1 hl hw ho
  have im := implCandsOf_all X a1 hl hw ho
  have hc : (candsGo a1 X 0 []).length ≤ 1048576 := by
    have := candsGo_length a1 X 0 []
    unfold wl at hw
    simp only [List.length_nil] at this
    omega
  obtain ⟨v, r, mk, hv⟩ := markSlotSS X hl hw
  generalize candsGo a1 X 0 [] = C at *
  have eqc := eqCandS C (by omega)
  refine Ev.bind t0 (Ev.bind sp (Ev.bind t0 (Ev.bind im (Ev.bind eqc (ev_pos rfl (Ev.bind t0 (Ev.bind (eqSlotSS X hl hw) (ev_pos rfl (Ev.bind mk (ev_neg (by dsimp only; omega) (Ev.bind eqc (ev_succ ?_))))))))))))
  simp only [laws_FnExactCandsOf.j0]
  have hm := markCandS C 1 (by omega) (by omega)
  have hh := heldCandS 1 C.length (by omega) (by omega)
  exact ev_neg (by simp) (Ev.bind hm (Ev.bind hh (ev_neg (by omega) (ev_pos rfl (Ev.bind t0 (Ev.bind im (Ev.bind eqc (ev_pos rfl (Ev.bind hh (ev_neg (by omega) (ev_pos rfl (Ev.now _))))))))))))

end Go.Proofs.Ytiacoiiapmfaeaa.Pure
