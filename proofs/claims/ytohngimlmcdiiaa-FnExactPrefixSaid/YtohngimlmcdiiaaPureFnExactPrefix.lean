/- impl.Prefix returns what spec.Prefix returns, new memory, and leaves its slice as it was, for all arguments. Conditions: none but the row's own.
-/
import Derived.Test.YtohngimlmcdiiaaQx10
set_option linter.unusedVariables false
set_option linter.unusedSimpArgs false
namespace Go.Proofs.Ytohngimlmcdiiaa.Pure
open Go.RowKit Go.Proofs.Ytohngimlmcdiiaa.Q Go.Proofs.YtohngimlmcdiiaaW.PrintWords Go.Proofs.YtohngimlmcdiiaaW.PrintLast Go.Proofs.YtohngimlmcdiiaaW.PrintMore

theorem w64 {x : Int} (h1 : -9223372036854775808 ≤ x) (h2 : x ≤ 9223372036854775807) : wrap64 x = x := by unfold wrap64; omega
theorem i64_wf {x : Int} (h : (Lit.int .i64 x).wf = true) : -9223372036854775808 ≤ x ∧ x ≤ 9223372036854775807 := by
  simpa [Lit.wf, IntKind.min, IntKind.max, IntKind.signed, IntKind.bits] using h
theorem u8_wf {x : Int} (h : (Lit.int .u8 x).wf = true) : 0 ≤ x ∧ x ≤ 255 := by
  simpa [Lit.wf, IntKind.min, IntKind.max, IntKind.signed, IntKind.bits] using h
theorem rd_eq {xs : List Int} {i : Int} (h0 : 0 ≤ i) (h : i < (xs.length : Int)) : xs[i.toNat]? = some (rd xs i) := by
  unfold rd
  rw [List.getD_eq_getElem?_getD, List.getElem?_eq_getElem (by omega)]
  rfl
theorem rd_mem {xs : List Int} {i : Int} (h0 : 0 ≤ i) (h : i < (xs.length : Int)) : rd xs i ∈ xs := List.mem_of_getElem? (rd_eq h0 h)
theorem rd_of {xs : List Int} {n : Nat} {v : Int} (h : xs[n]? = some v) : rd xs (n : Int) = v := by
  unfold rd
  rw [List.getD_eq_getElem?_getD, Int.toNat_natCast, h]
  rfl
theorem ev_of {α : Type} {r : α} {p : Option α} (h : p = some r) : Ev (fun _ => p) r := ⟨0, fun _ _ => h⟩
theorem ev_end {α : Type} {g : Nat → Option α} {r : α} (h : ∀ k, g (k + 1) = some r) : Ev g r := Ev.step (f := fun _ => some r) h (Ev.now r)
theorem ev_pos {α : Type} {c : Prop} [Decidable c] {f g : Nat → Option α} {r : α} (hc : c) (h : Ev f r) : Ev (fun k => if c then f k else g k) r := Ev.congr (fun _ => if_pos hc) h
theorem ev_neg {α : Type} {c : Prop} [Decidable c] {f g : Nat → Option α} {r : α} (hc : ¬ c) (h : Ev g r) : Ev (fun k => if c then f k else g k) r := Ev.congr (fun _ => if_neg hc) h
theorem rd_drop {xs : List Int} {n : Nat} (h : n < xs.length) : xs.drop n = rd xs (n : Int) :: xs.drop (n + 1) := by
  rw [List.drop_eq_getElem_cons h]
  congr 1
  unfold rd
  rw [List.getD_eq_getElem?_getD, Int.toNat_natCast, List.getElem?_eq_getElem h]
  rfl
noncomputable def dec (p : Prop) : Bool := @decide p (Classical.propDecidable p)
theorem dec_true {p : Prop} (h : p) : dec p = true := @decide_eq_true p (Classical.propDecidable p) h
theorem dec_false {p : Prop} (h : ¬ p) : dec p = false := @decide_eq_false p (Classical.propDecidable p) h
theorem dec_iff {p : Prop} : dec p = true ↔ p := @decide_eq_true_iff p (Classical.propDecidable p)
theorem dec_congr {p q : Prop} (h : p ↔ q) : dec p = dec q := by rw [propext h]
theorem dec_eq {p : Prop} [Decidable p] : dec p = decide p := by
  by_cases h : p
  · rw [dec_true h, decide_eq_true h]
  · rw [dec_false h, decide_eq_false h]
theorem ev_succ {α : Type} {g : Nat → Option α} {r : α} (h : Ev (fun k => g (k + 1)) r) : Ev g r := by
  obtain ⟨K, h⟩ := h
  refine ⟨K + 1, fun n hn => ?_⟩
  obtain ⟨m, rfl⟩ : ∃ m, n = m + 1 := ⟨n - 1, by omega⟩
  exact h m (by omega)
theorem ev_eq {α : Type} {g : Nat → Option α} {r r' : α} (h : Ev g r) (e : r = r') : Ev g r' := e ▸ h
theorem gd_eq {α : Type} (z : α) {xs : List α} {i : Int} (h0 : 0 ≤ i) (h : i < (xs.length : Int)) : xs[i.toNat]? = some (xs.getD i.toNat z) := by
  rw [List.getD_eq_getElem?_getD, List.getElem?_eq_getElem (by omega)]
  rfl
theorem gd_nat {α : Type} (z : α) {xs : List α} {n : Nat} {v : α} (h : xs[n]? = some v) : xs.getD ((n : Int)).toNat z = v := by
  rw [List.getD_eq_getElem?_getD, Int.toNat_natCast, h]
  rfl
theorem gd_drop {α : Type} (z : α) {xs : List α} {n : Nat} (h : n < xs.length) : xs.drop n = xs.getD ((n : Int)).toNat z :: xs.drop (n + 1) := by
  rw [List.drop_eq_getElem_cons h]
  congr 1
  exact (gd_nat z (List.getElem?_eq_getElem h)).symm
/-- A loop that copies: place after place is set. -/
theorem copy_loop {α β : Type} (F : Nat → List β → Int → Option (List β)) (l : List α) (g : α → β)
    (hend : ∀ acc : List β, acc.length = l.length → Ev (fun k => F k acc (l.length : Int)) acc)
    (hstep : ∀ (acc : List β) (n : Nat) (x : α) (r : List β), n < l.length → acc.length = l.length → l[n]? = some x → Ev (fun k => F k (acc.set n (g x)) ((n + 1 : Nat) : Int)) r → Ev (fun k => F k acc (n : Int)) r) :
    ∀ (d n : Nat) (acc : List β), n + d = l.length → acc.length = l.length → (∀ j, j < n → acc[j]? = (l.map g)[j]?) → Ev (fun k => F k acc (n : Int)) (l.map g) := by
  intro d
  induction d with
  | zero =>
    intro n acc hn ha hp
    obtain rfl : n = l.length := by omega
    refine ev_eq (hend acc ha) (List.ext_getElem? fun j => ?_)
    by_cases h : j < l.length
    · exact hp j h
    · rw [List.getElem?_eq_none (by omega), List.getElem?_eq_none (by simp; omega)]
  | succ d ih =>
    intro n acc hn ha hp
    have hx : l[n]? = some l[n] := List.getElem?_eq_getElem (by omega)
    refine hstep acc n l[n] _ (by omega) ha hx (ih (n + 1) _ (by omega) (by simpa using ha) ?_)
    intro j hj
    rw [List.getElem?_set]
    by_cases h : n = j
    · subst h
      rw [if_pos rfl, if_pos (by omega), List.getElem?_map, hx]
      rfl
    · rw [if_neg h]
      exact hp j (by omega)
/-- A loop that tests place after place. -/
theorem all_loop (F : Nat → Int → Option Bool) (L : Nat) (p : Nat → Prop) (hend : Ev (fun k => F k (L : Int)) true)
    (hyes : ∀ (n : Nat) (r : Bool), n < L → p n → Ev (fun k => F k ((n + 1 : Nat) : Int)) r → Ev (fun k => F k (n : Int)) r)
    (hno : ∀ n : Nat, n < L → ¬ p n → Ev (fun k => F k (n : Int)) false) :
    ∀ (d n : Nat), n + d = L → Ev (fun k => F k (n : Int)) (dec (∀ j, n ≤ j → j < L → p j)) := by
  intro d
  induction d with
  | zero =>
    intro n hn
    obtain rfl : n = L := by omega
    exact ev_eq hend (dec_true (fun j h1 h2 => by omega)).symm
  | succ d ih =>
    intro n hn
    by_cases h : p n
    · refine hyes n _ (by omega) h (ev_eq (ih (n + 1) (by omega)) (dec_congr ⟨fun g j h1 h2 => ?_, fun g j h1 h2 => g j (by omega) h2⟩))
      by_cases e : j = n
      · exact e ▸ h
      · exact g j (by omega) h2
    · exact ev_eq (hno n (by omega) h) (dec_false (fun g => h (g n (Nat.le_refl _) (by omega)))).symm
/-- A loop that goes round L times over a state. -/
theorem fold_loop {σ ρ : Type} (F : Nat → σ → Int → Option ρ) (L : Nat) (S : Nat → σ) (r : ρ) (hend : Ev (fun k => F k (S L) (L : Int)) r)
    (hstep : ∀ n : Nat, n < L → Ev (fun k => F k (S (n + 1)) ((n + 1 : Nat) : Int)) r → Ev (fun k => F k (S n) (n : Int)) r) :
    ∀ (d n : Nat), n + d = L → Ev (fun k => F k (S n) (n : Int)) r := by
  intro d
  induction d with
  | zero =>
    intro n hn
    obtain rfl : n = L := by omega
    exact hend
  | succ d ih =>
    intro n hn
    exact hstep n (by omega) (ih (n + 1) (by omega))
theorem set_mid {α : Type} (a b : List α) (x v : α) {n : Nat} (h : a.length = n) : (a ++ x :: b).set n v = a ++ v :: b := by
  subst h
  rw [List.set_append_right _ _ (Nat.le_refl _), Nat.sub_self]
  rfl
theorem get_mid {α : Type} (a b : List α) (x : α) {n : Nat} (h : a.length = n) : (a ++ x :: b)[n]? = some x := by
  subst h
  rw [List.getElem?_append_right (Nat.le_refl _), Nat.sub_self]
  rfl
/-- A loop that tests place after place, and one thing more at its end. -/
theorem all_loop2 (F : Nat → Int → Option Bool) (L : Nat) (p : Nat → Prop) (E : Prop) (hend : Ev (fun k => F k (L : Int)) (dec E))
    (hyes : ∀ (n : Nat) (r : Bool), n < L → p n → Ev (fun k => F k ((n + 1 : Nat) : Int)) r → Ev (fun k => F k (n : Int)) r)
    (hno : ∀ n : Nat, n < L → ¬ p n → Ev (fun k => F k (n : Int)) false) :
    ∀ (d n : Nat), n + d = L → Ev (fun k => F k (n : Int)) (dec ((∀ j, n ≤ j → j < L → p j) ∧ E)) := by
  intro d
  induction d with
  | zero =>
    intro n hn
    obtain rfl : n = L := by omega
    exact ev_eq hend (dec_congr ⟨fun h => ⟨fun j h1 h2 => by omega, h⟩, fun h => h.2⟩)
  | succ d ih =>
    intro n hn
    by_cases h : p n
    · refine hyes n _ (by omega) h (ev_eq (ih (n + 1) (by omega)) (dec_congr ⟨fun g => ⟨fun j h1 h2 => ?_, g.2⟩, fun g => ⟨fun j h1 h2 => g.1 j (by omega) h2, g.2⟩⟩))
      by_cases e : j = n
      · exact e ▸ h
      · exact g.1 j (by omega) h2
    · exact ev_eq (hno n (by omega) h) (dec_false (fun g => h (g.1 n (Nat.le_refl _) (by omega)))).symm
theorem rdi (xs : List S41) (i : Int) : rd_T41 xs i = xs.getD i.toNat z41 := rfl
theorem rdl (xs : List S67) (i : Int) : rd_T67 xs i = xs.getD i.toNat z67 := rfl
/-- A slot of the law as one of the program. -/
def toS (x : S67) : S41 := ⟨x.f0, x.f1⟩
theorem szSlotS (l : List S67) (a : Int) (h0 : 0 ≤ a) (h1 : a ≤ 1048576) (hl : l.length ≤ maxLen) : laws_szSlotS.f l a = some (if a < l.length then -1 else a - l.length) := by
  unfold maxLen at hl
  unfold laws_szSlotS.f
  rw [w64 (by omega) (by omega)]
  by_cases h : a < l.length
  · rw [if_pos (by omega), if_pos h]
  · rw [if_neg (by omega), if_neg h]
theorem toSlotS (l : List S67) (hl : l.length ≤ 17592186044416) : Ev (fun k => laws_toSlotS.f k l) (l.map toS) := by
  unfold laws_toSlotS.f
  refine ev_pos (by omega) (ev_pos (by omega) ?_)
  refine copy_loop (fun k acc i => laws_toSlotS.l0 k l acc i) l toS ?_ ?_ l.length 0 _ (by omega) (by simp) (fun j h => by omega)
  · intro acc ha
    refine ev_succ ?_
    simp only [laws_toSlotS.l0]
    exact ev_neg (by omega) (Ev.now _)
  · intro acc n x r hn ha hx h
    refine ev_succ ?_
    simp only [laws_toSlotS.l0, laws_toSlot.f, Option.bind_some, rdl, gd_nat z67 hx]
    refine ev_pos (by omega) (ev_pos (by omega) (ev_pos (by omega) ?_))
    rw [w64 (x := (n : Int) + 1) (by omega) (by omega)]
    exact h
theorem eqSlotS (l : List S41) (hl : l.length ≤ 17592186044416) : Ev (fun k => laws_eqSlotS.f k l l) true := by
  unfold laws_eqSlotS.f
  refine ev_pos rfl ?_
  refine ev_eq (all_loop (fun k i => laws_eqSlotS.l0 k l l i) l.length (fun _ => True) ?_ ?_ ?_ l.length 0 (by omega)) (dec_true (fun _ _ _ => trivial))
  · refine ev_succ ?_
    simp only [laws_eqSlotS.l0]
    exact ev_neg (by omega) (Ev.now _)
  · intro n r hn _ h
    refine ev_succ ?_
    simp only [laws_eqSlotS.l0, laws_eqSlot.f, if_true, Option.bind_some]
    refine ev_pos (by omega) (ev_pos (by omega) (ev_pos (by omega) ?_))
    rw [w64 (x := (n : Int) + 1) (by omega) (by omega)]
    exact h
  · intro n hn h
    exact absurd trivial h
def markedS (m : Int) : Nat → List S41
  | 0 => []
  | n + 1 => ⟨m, m + 1⟩ :: markedS (m + 2) n
theorem markedS_length (m : Int) (n : Nat) : (markedS m n).length = n := by
  induction n generalizing m with
  | zero => rfl
  | succ n ih => simp [markedS, ih]
theorem markedS_get (m : Int) (n j : Nat) (h : j < n) : (markedS m n)[j]? = some ⟨m + 2 * (j : Int), m + 2 * (j : Int) + 1⟩ := by
  induction n generalizing m j with
  | zero => omega
  | succ n ih =>
    cases j with
    | zero => simp [markedS]
    | succ j =>
      simp only [markedS, List.getElem?_cons_succ]
      rw [ih (m + 2) j (by omega)]
      congr 2 <;> omega
theorem markedS_snoc (m : Int) (n : Nat) : markedS m (n + 1) = markedS m n ++ [⟨m + 2 * (n : Int), m + 2 * (n : Int) + 1⟩] := by
  induction n generalizing m with
  | zero => simp [markedS]
  | succ n ih =>
    rw [markedS, ih (m + 2)]
    simp only [markedS, List.cons_append, List.cons.injEq, true_and, List.append_cancel_left_eq, and_true, S41.mk.injEq]
    omega
theorem markSlotS (l : List S41) (m : Int) (hm : 0 ≤ m) (hl : m + 2 * l.length ≤ 35184372088832) : Ev (fun k => laws_markSlotS.f k l m) (m + 2 * (l.length : Int), markedS m l.length) := by
  unfold laws_markSlotS.f
  have key := fold_loop (fun k (s : List S41 × Int) i => laws_markSlotS.l0 k s.1 s.2 i) l.length (fun n => (markedS m n ++ l.drop n, m + 2 * (n : Int))) (m + 2 * (l.length : Int), markedS m l.length) ?_ ?_ l.length 0 (by omega)
  · simpa [markedS] using key
  · refine ev_succ ?_
    simp only [laws_markSlotS.l0]
    refine ev_neg (by simp [markedS_length]) (ev_of ?_)
    simp
  · intro n hn h
    refine ev_succ ?_
    simp only at h ⊢
    have hlen : (markedS m n ++ l.drop n).length = l.length := by simp [markedS_length]; omega
    have hx : l.drop n = l[n] :: l.drop (n + 1) := List.drop_eq_getElem_cons hn
    simp only [laws_markSlotS.l0, Option.bind_some, rdi, Int.toNat_natCast]
    refine ev_pos (by omega) (ev_pos (by omega) ?_)
    rw [hx, set_mid _ _ _ _ (markedS_length m n)]
    rw [set_mid _ _ _ _ (markedS_length m n)]
    rw [w64 (x := m + 2 * (n : Int) + 1) (by omega) (by omega), w64 (x := m + 2 * (n : Int) + 1 + 1) (by omega) (by omega), w64 (x := (n : Int) + 1) (by omega) (by omega)]
    have e1 := gd_nat z41 (get_mid (markedS m n) (l.drop (n + 1)) (⟨m + 2 * (n : Int), ((markedS m n ++ l[n] :: l.drop (n + 1)).getD n z41).f1⟩ : S41) (markedS_length m n))
    simp only [Int.toNat_natCast] at e1
    rw [e1]
    simp only
    have e2 : markedS m n ++ (⟨m + 2 * (n : Int), m + 2 * (n : Int) + 1⟩ : S41) :: l.drop (n + 1) = markedS m (n + 1) ++ l.drop (n + 1) := by rw [markedS_snoc]; simp
    have e3 : m + 2 * (n : Int) + 1 + 1 = m + 2 * ((n + 1 : Nat) : Int) := by omega
    rw [e2, e3]
    exact h
theorem heldSlotS (m : Int) (N : Nat) (hm : 0 ≤ m) (hl : m + 2 * N ≤ 35184372088832) : Ev (fun k => laws_heldSlotS.f k (markedS m N) m) (m + 2 * (N : Int)) := by
  unfold laws_heldSlotS.f
  have key := fold_loop (fun k (s : Int) i => laws_heldSlotS.l0 k (markedS m N) s i) N (fun n => m + 2 * (n : Int)) (m + 2 * (N : Int)) ?_ ?_ N 0 (by omega)
  · simpa using key
  · refine ev_succ ?_
    simp only [laws_heldSlotS.l0]
    exact ev_neg (by rw [markedS_length]; omega) (Ev.now _)
  · intro n hn h
    refine ev_succ ?_
    simp only [laws_heldSlotS.l0, rdi, gd_nat z41 (markedS_get m N n hn)]
    rw [w64 (x := m + 2 * (n : Int) + 1) (by omega) (by omega), w64 (x := m + 2 * (n : Int) + 1 + 1) (by omega) (by omega), w64 (x := (n : Int) + 1) (by omega) (by omega)]
    refine ev_pos (by rw [markedS_length]; omega) (ev_pos (by omega) (ev_pos trivial (ev_pos rfl ?_)))
    have e3 : m + 2 * (n : Int) + 1 + 1 = m + 2 * ((n + 1 : Nat) : Int) := by omega
    rw [e3]
    exact h
/-- The sum and true; 0 and false where it has no room. -/
def addI (a b : Int) : Int × Bool := if -9223372036854775808 ≤ a + b ∧ a + b ≤ 9223372036854775807 then (a + b, true) else (0, false)
def subI (a b : Int) : Int × Bool := if -9223372036854775808 ≤ a - b ∧ a - b ≤ 9223372036854775807 then (a - b, true) else (0, false)
def I64 (a : Int) : Prop := -9223372036854775808 ≤ a ∧ a ≤ 9223372036854775807
theorem addI_i64 (a b : Int) : I64 (addI a b).1 := by
  unfold addI I64
  split
  · assumption
  · exact ⟨by decide, by decide⟩
theorem subI_i64 (a b : Int) : I64 (subI a b).1 := by
  unfold subI I64
  split
  · assumption
  · exact ⟨by decide, by decide⟩
theorem wrap_over {x : Int} (h1 : 9223372036854775807 < x) (h2 : x < 27670116110564327424) : wrap64 x = x - 18446744073709551616 := by unfold wrap64; omega
theorem wrap_under {x : Int} (h1 : x < -9223372036854775808) (h2 : -27670116110564327424 ≤ x) : wrap64 x = x + 18446744073709551616 := by unfold wrap64; omega
/-- Slots of whole numbers. -/
def SOk (l : List S41) : Prop := ∀ x ∈ l, I64 x.f0 ∧ I64 x.f1
theorem SOk.at {l : List S41} (h : SOk l) {n : Nat} {x : S41} (e : l[n]? = some x) : I64 x.f0 ∧ I64 x.f1 := h x (List.mem_of_getElem? e)
/-- Two slots together. -/
def plusS (n g n' g' : Int) : Int × Int × Bool := if (addI n n').2 = true ∧ (addI g g').2 = true then ((addI n n').1, (addI g g').1, true) else (0, 0, false)
theorem plusS_i64 (n g n' g' : Int) : I64 (plusS n g n' g').1 ∧ I64 (plusS n g n' g').2.1 := by
  unfold plusS
  split
  · exact ⟨addI_i64 _ _, addI_i64 _ _⟩
  · exact ⟨⟨by decide, by decide⟩, ⟨by decide, by decide⟩⟩
/-- The sums of all beginnings, behind what is there; none where one has no room. -/
def preS : List S41 → Int → Int → List S41 → List S41 × Bool
  | [], _, _, acc => (acc, true)
  | x :: l, n, g, acc => if (plusS n g x.f0 x.f1).2.2 = true then preS l (plusS n g x.f0 x.f1).1 (plusS n g x.f0 x.f1).2.1 (acc ++ [⟨(plusS n g x.f0 x.f1).1, (plusS n g x.f0 x.f1).2.1⟩]) else ([], false)
def prefixS (l : List S41) : List S41 × Bool := preS l 0 0 []
theorem preS_length (l : List S41) (n g : Int) (acc : List S41) : (preS l n g acc).1.length ≤ acc.length + l.length ∧ ((preS l n g acc).2 = true → (preS l n g acc).1.length = acc.length + l.length) := by
  induction l generalizing n g acc with
  | nil => simp [preS]
  | cons x l ih =>
    simp only [preS]
    split
    · have := ih (plusS n g x.f0 x.f1).1 (plusS n g x.f0 x.f1).2.1 (acc ++ [⟨(plusS n g x.f0 x.f1).1, (plusS n g x.f0 x.f1).2.1⟩])
      simp at this ⊢
      exact ⟨by omega, fun h => by have := this.2 h; omega⟩
    · simp
theorem prefixS_length (l : List S41) : (prefixS l).1.length ≤ l.length ∧ ((prefixS l).2 = true → (prefixS l).1.length = l.length) := by
  have := preS_length l 0 0 []
  simpa [prefixS] using this
/-- Plain sums. -/
def sums : Int → Int → List S41 → List S41
  | _, _, [] => []
  | n, g, x :: l => ⟨n + x.f0, g + x.f1⟩ :: sums (n + x.f0) (g + x.f1) l
theorem plusS_true {n g n' g' : Int} (h : (plusS n g n' g').2.2 = true) : plusS n g n' g' = (n + n', g + g', true) ∧ I64 (n + n') ∧ I64 (g + g') := by
  unfold plusS at *
  by_cases c : (addI n n').2 = true ∧ (addI g g').2 = true
  · rw [if_pos c]
    obtain ⟨c1, c2⟩ := c
    unfold addI at *
    split at c1
    · rename_i r1
      split at c2
      · rename_i r2
        rw [if_pos r1, if_pos r2]
        exact ⟨rfl, r1, r2⟩
      · simp at c2
    · simp at c1
  · rw [if_neg c] at h
    simp at h
theorem preS_sums (l : List S41) (n g : Int) (acc : List S41) (h : (preS l n g acc).2 = true) : (preS l n g acc).1 = acc ++ sums n g l ∧ SOk (sums n g l) := by
  induction l generalizing n g acc with
  | nil => exact ⟨by simp [preS, sums], fun x hx => by simp [sums] at hx⟩
  | cons x l ih =>
    simp only [preS] at h ⊢
    split at h
    · rename_i c
      rw [if_pos c]
      obtain ⟨e, r1, r2⟩ := plusS_true c
      rw [e] at h ⊢
      simp only at h ⊢
      obtain ⟨h1, h2⟩ := ih _ _ _ h
      refine ⟨by rw [h1]; simp [sums], fun y hy => ?_⟩
      simp only [sums, List.mem_cons] at hy
      rcases hy with rfl | hy
      · exact ⟨r1, r2⟩
      · exact h2 y hy
    · simp at h
theorem prefixS_sums {l : List S41} (h : (prefixS l).2 = true) : (prefixS l).1 = sums 0 0 l ∧ SOk (sums 0 0 l) := by
  have := preS_sums l 0 0 [] h
  simpa [prefixS] using this
theorem prefixS_false {l : List S41} (h : (prefixS l).2 ≠ true) : (prefixS l).1 = [] := by
  have key : ∀ (l : List S41) (n g : Int) (a : List S41), (preS l n g a).2 ≠ true → (preS l n g a).1 = [] := by
    intro l
    induction l with
    | nil => intro n g a h; simp [preS] at h
    | cons x l ih =>
      intro n g a h
      simp only [preS] at h ⊢
      split at h
      · rename_i c; rw [if_pos c]; exact ih _ _ _ h
      · rename_i c; rw [if_neg c]
  exact key l 0 0 [] h
theorem sums_length (n g : Int) (l : List S41) : (sums n g l).length = l.length := by
  induction l generalizing n g with
  | nil => rfl
  | cons x l ih => simp [sums, ih]
theorem sums_next (l : List S41) (n g : Int) (j : Nat) (x p : S41) (hx : l[j + 1]? = some x) (hp : (sums n g l)[j]? = some p) : (sums n g l)[j + 1]? = some ⟨p.f0 + x.f0, p.f1 + x.f1⟩ := by
  induction l generalizing n g j with
  | nil => simp at hx
  | cons y l ih =>
    simp only [sums] at hp ⊢
    cases j with
    | zero =>
      simp only [List.getElem?_cons_zero, Option.some.injEq] at hp
      subst hp
      cases l with
      | nil => simp at hx
      | cons z l =>
        simp only [List.getElem?_cons_succ, List.getElem?_cons_zero, Option.some.injEq] at hx
        subst hx
        simp [sums]
    | succ j =>
      simp only [List.getElem?_cons_succ] at hp hx ⊢
      exact ih _ _ j hx hp
theorem implAddInt {a b : Int} (ha : I64 a) (hb : I64 b) : impl_AddInt.f a b = some (addI a b) := by
  unfold I64 at ha hb
  unfold impl_AddInt.f addI
  by_cases h : -9223372036854775808 ≤ a + b ∧ a + b ≤ 9223372036854775807
  · rw [if_pos h, w64 h.1 h.2]
    split
    · rename_i h1
      rw [if_neg]
      simp only [beq_iff_eq, decide_eq_decide] at h1
      simp only [bne_iff_ne, ne_eq, decide_eq_decide, Decidable.not_not]
      omega
    · rfl
  · rw [if_neg h]
    have h2 : a + b < -9223372036854775808 ∨ 9223372036854775807 < a + b := by omega
    rw [if_pos (by simp only [beq_iff_eq, decide_eq_decide]; omega)]
    rcases h2 with h2 | h2
    · rw [wrap_under h2 (by omega), if_pos]
      simp only [bne_iff_ne, ne_eq, decide_eq_decide]
      omega
    · rw [wrap_over h2 (by omega), if_pos]
      simp only [bne_iff_ne, ne_eq, decide_eq_decide]
      omega
theorem implPlus {n g n' g' : Int} (h1 : I64 n) (h2 : I64 g) (h3 : I64 n') (h4 : I64 g') : impl_Slot_plus.f n g n' g' = some (plusS n g n' g') := by
  unfold impl_Slot_plus.f plusS
  simp only [implAddInt h1 h3, implAddInt h2 h4, Option.bind_some]
  by_cases a : (addI n n').2 = true
  · by_cases b : (addI g g').2 = true
    · rw [if_pos a, if_pos b, if_pos ⟨a, b⟩]
    · rw [if_pos a, if_neg b, if_neg (fun z => b z.2)]
  · rw [if_neg a, if_neg (fun z => a z.1)]
theorem implPrefix_l0 (l : List S41) (hl : l.length ≤ 1048576) (hx : SOk l) : ∀ (d n : Nat) (acc : List S41) (a b : Int), n + d = l.length → acc.length = n → I64 a → I64 b →
    Ev (fun k => impl_Prefix.l0 k acc l (l.length : Int) (n : Int) a b) (preS (l.drop n) a b acc) := by
  intro d
  induction d with
  | zero =>
    intro n acc a b hn ha h1 h2
    obtain rfl : n = l.length := by omega
    refine ev_succ ?_
    simp only [impl_Prefix.l0]
    refine ev_neg (by omega) (ev_of ?_)
    rw [List.drop_length]
    rfl
  | succ d ih =>
    intro n acc a b hn ha h1 h2
    refine ev_succ ?_
    have e1 : l[n]? = some l[n] := List.getElem?_eq_getElem (by omega)
    have d1 : l.drop n = l[n] :: l.drop (n + 1) := List.drop_eq_getElem_cons (by omega)
    simp only [impl_Prefix.l0, rdi, gd_nat z41 e1, implPlus h1 h2 (hx.at e1).1 (hx.at e1).2, Option.bind_some]
    refine ev_pos (by omega) (ev_pos (by omega) (ev_pos (by omega) ?_))
    rw [d1]
    simp only [preS]
    by_cases c1 : (plusS a b l[n].f0 l[n].f1).2.2 = true
    · rw [if_pos c1]
      refine ev_pos c1 (ev_pos (by omega) ?_)
      rw [w64 (x := (n : Int) + 1) (by omega) (by omega)]
      exact ih (n + 1) _ _ _ (by omega) (by simp [ha]) (plusS_i64 _ _ _ _).1 (plusS_i64 _ _ _ _).2
    · rw [if_neg c1]
      exact ev_neg c1 (Ev.now _)
theorem implPrefix (l : List S41) (hl : l.length ≤ 1048576) (hx : SOk l) : Ev (fun k => impl_Prefix.f k l) (prefixS l) :=
  implPrefix_l0 l hl hx l.length 0 [] 0 0 (by omega) rfl ⟨by decide, by decide⟩ ⟨by decide, by decide⟩
theorem specAddInt {a b : Int} (ha : I64 a) (hb : I64 b) : spec_AddInt.f a b = some (addI a b) := by
  unfold I64 at ha hb
  unfold spec_AddInt.f addI
  by_cases h1 : b > 0
  · rw [if_pos h1, w64 (x := 9223372036854775807 - b) (by omega) (by omega)]
    by_cases h2 : a > 9223372036854775807 - b
    · rw [if_pos h2, if_neg (by omega)]
    · rw [if_neg h2, if_neg (by omega), if_pos (by omega), w64 (by omega) (by omega)]
  · rw [if_neg h1]
    by_cases h2 : b < 0
    · rw [if_pos h2, w64 (x := -9223372036854775808 - b) (by omega) (by omega)]
      by_cases h3 : a < -9223372036854775808 - b
      · rw [if_pos h3, if_neg (by omega)]
      · rw [if_neg h3, if_pos (by omega), w64 (by omega) (by omega)]
    · rw [if_neg h2, if_pos (by omega), w64 (by omega) (by omega)]
theorem specAdd13 {n g n' g' : Int} (h1 : I64 n) (h2 : I64 g) (h3 : I64 n') (h4 : I64 g') : spec_l13Add.f n g n' g' = some (plusS n g n' g') := by
  unfold spec_l13Add.f plusS
  simp only [specAddInt h1 h3, specAddInt h2 h4, Option.bind_some]
  by_cases a : (addI n n').2 = true
  · by_cases b : (addI g g').2 = true
    · rw [if_pos a, if_pos b, if_pos ⟨a, b⟩]
    · rw [if_pos a, if_neg b, if_neg (fun z => b z.2)]
  · rw [if_neg a, if_neg (fun z => a z.1)]
theorem specPrefix_l0 (l : List S41) (hl : l.length ≤ 1048576) (hx : SOk l) : ∀ (d n : Nat) (acc : List S41) (a b : Int), n + d = l.length → acc.length = n → I64 a → I64 b →
    Ev (fun k => spec_Prefix.l0 k l acc (n : Int) a b) (preS (l.drop n) a b acc) := by
  intro d
  induction d with
  | zero =>
    intro n acc a b hn ha h1 h2
    obtain rfl : n = l.length := by omega
    refine ev_succ ?_
    simp only [spec_Prefix.l0]
    refine ev_neg (by omega) (ev_of ?_)
    rw [List.drop_length]
    rfl
  | succ d ih =>
    intro n acc a b hn ha h1 h2
    refine ev_succ ?_
    have e1 : l[n]? = some l[n] := List.getElem?_eq_getElem (by omega)
    have d1 : l.drop n = l[n] :: l.drop (n + 1) := List.drop_eq_getElem_cons (by omega)
    simp only [spec_Prefix.l0, rdi, gd_nat z41 e1, specAdd13 h1 h2 (hx.at e1).1 (hx.at e1).2, Option.bind_some]
    refine ev_pos (by omega) (ev_pos (by omega) ?_)
    rw [d1]
    simp only [preS]
    by_cases c1 : (plusS a b l[n].f0 l[n].f1).2.2 = true
    · rw [if_pos c1]
      refine ev_pos c1 (ev_pos (by omega) ?_)
      rw [w64 (x := (n : Int) + 1) (by omega) (by omega)]
      exact ih (n + 1) _ _ _ (by omega) (by simp [ha]) (plusS_i64 _ _ _ _).1 (plusS_i64 _ _ _ _).2
    · rw [if_neg c1]
      exact ev_neg c1 (Ev.now _)
theorem specPrefix (l : List S41) (hl : l.length ≤ 1048576) (hx : SOk l) : Ev (fun k => spec_Prefix.f k l) (prefixS l) :=
  specPrefix_l0 l hl hx l.length 0 [] 0 0 (by omega) rfl ⟨by decide, by decide⟩ ⟨by decide, by decide⟩
theorem SOk_of {l : List S67} (h : ∀ x ∈ l, ((Lit.int .i64 x.f0).wf = true) ∧ ((Lit.int .i64 x.f1).wf = true)) : SOk (l.map toS) := by
  intro y hy
  obtain ⟨x, hx, rfl⟩ := List.mem_map.1 hy
  exact ⟨i64_wf (h x hx).1, i64_wf (h x hx).2⟩

theorem prefix_j2 (N : Nat) (hN : N ≤ 1048576) : Ev (fun k => laws_FnExactPrefix.j2 k (markedS 1 N) (1 + 2 * (N : Int)) false) true := by
  refine ev_succ ?_
  simp only [laws_FnExactPrefix.j2]
  exact ev_neg (by decide) (Ev.bind (heldSlotS 1 N (by omega) (by omega)) (ev_neg (by omega) (ev_pos rfl (Ev.now _))))
theorem FnExactPrefix (l0 : List (S67))
    (w0 : l0.length ≤ maxLen ∧ ∀ x ∈ l0, ((Lit.int .i64 x.f0).wf = true) ∧ ((Lit.int .i64 x.f1).wf = true)) : ∃ k, laws_FnExactPrefix.f k l0 = some true := by
  refine Ev.rounds ?_
  unfold laws_FnExactPrefix.f
  rw [szSlotS l0 1048576 (by omega) (by omega) w0.1]
  simp only [Option.bind_some]
  by_cases b0 : (1048576 : Int) < l0.length
  · rw [if_pos b0]
    exact ev_pos (by omega) (Ev.now _)
  rw [if_neg b0]
  refine ev_neg (by omega) ?_
  have t0 := toSlotS l0 (by omega)
  have o0 := SOk_of w0.2
  have n0 : (l0.map toS).length ≤ 1048576 := by simp; omega
  have eS := specPrefix _ n0 o0
  have eI := implPrefix _ n0 o0
  have hl := Nat.le_trans (prefixS_length (l0.map toS)).1 n0
  generalize l0.map toS = p at *
  generalize prefixS p = R at *
  refine Ev.bind t0 (Ev.bind eS (Ev.bind t0 (Ev.bind eI (Ev.bind (eqSlotS _ (by omega)) (ev_pos rfl ?_)))))
  refine ev_succ ?_
  simp only [laws_FnExactPrefix.j0]
  refine ev_neg (by simp) (Ev.bind t0 (Ev.bind (eqSlotS _ (by omega)) (ev_pos rfl ?_)))
  refine Ev.bind (markSlotS p 1 (by omega) (by omega)) (ev_neg (by omega) (Ev.bind (eqSlotS _ (by omega)) (ev_pos rfl ?_)))
  refine ev_succ ?_
  simp only [laws_FnExactPrefix.j1]
  refine ev_neg (by simp) (Ev.bind (markSlotS R.1 1 (by omega) (by omega)) (Ev.bind (heldSlotS 1 _ (by omega) (by omega)) (ev_neg (by omega) (ev_pos rfl ?_))))
  refine Ev.bind t0 (Ev.bind eI (Ev.bind (eqSlotS _ (by omega)) (ev_pos rfl ?_)))
  simp only [bne_self_eq_false]
  exact prefix_j2 _ hl

end Go.Proofs.Ytohngimlmcdiiaa.Pure
