/- impl.SideValues returns what spec.SideValues returns and leaves its arguments as they were, for all arguments. Conditions: none but the row's own.
-/
import Derived.Test.YtohngimlmcdiiaaQx40
set_option linter.unusedVariables false
set_option linter.unusedSimpArgs false
namespace Go.Proofs.Ytohngimlmcdiiaa.Pure
open Go.RowKit Go.Proofs.Ytohngimlmcdiiaa.Q Go.Proofs.YtohngimlmcdiiaaW.PrintWords Go.Proofs.YtohngimlmcdiiaaW.PrintLast Go.Proofs.YtohngimlmcdiiaaW.PrintMore

theorem w64 {x : Int} (h1 : -9223372036854775808 ≤ x) (h2 : x ≤ 9223372036854775807) : wrap64 x = x := by unfold wrap64; omega
theorem i64_wf {x : Int} (h : (Lit.int .i64 x).wf = true) : -9223372036854775808 ≤ x ∧ x ≤ 9223372036854775807 := by
  simpa [Lit.wf, IntKind.min, IntKind.max, IntKind.signed, IntKind.bits] using h
theorem u8_wf {x : Int} (h : (Lit.int .u8 x).wf = true) : 0 ≤ x ∧ x ≤ 255 := by
  simpa [Lit.wf, IntKind.min, IntKind.max, IntKind.signed, IntKind.bits] using h
theorem rd_eq {xs : List Int} {i : Int} (h0 : 0 ≤ i) (h : i < (xs.length : Int)) : xs[i.toNat]? = some (rd xs i) := by
  unfold rd
  rw [List.getD_eq_getElem?_getD, List.getElem?_eq_getElem (by omega)]
  rfl
theorem rd_mem {xs : List Int} {i : Int} (h0 : 0 ≤ i) (h : i < (xs.length : Int)) : rd xs i ∈ xs := List.mem_of_getElem? (rd_eq h0 h)
theorem rd_of {xs : List Int} {n : Nat} {v : Int} (h : xs[n]? = some v) : rd xs (n : Int) = v := by
  unfold rd
  rw [List.getD_eq_getElem?_getD, Int.toNat_natCast, h]
  rfl
theorem ev_of {α : Type} {r : α} {p : Option α} (h : p = some r) : Ev (fun _ => p) r := ⟨0, fun _ _ => h⟩
theorem ev_end {α : Type} {g : Nat → Option α} {r : α} (h : ∀ k, g (k + 1) = some r) : Ev g r := Ev.step (f := fun _ => some r) h (Ev.now r)
theorem ev_pos {α : Type} {c : Prop} [Decidable c] {f g : Nat → Option α} {r : α} (hc : c) (h : Ev f r) : Ev (fun k => if c then f k else g k) r := Ev.congr (fun _ => if_pos hc) h
theorem ev_neg {α : Type} {c : Prop} [Decidable c] {f g : Nat → Option α} {r : α} (hc : ¬ c) (h : Ev g r) : Ev (fun k => if c then f k else g k) r := Ev.congr (fun _ => if_neg hc) h
theorem rd_drop {xs : List Int} {n : Nat} (h : n < xs.length) : xs.drop n = rd xs (n : Int) :: xs.drop (n + 1) := by
  rw [List.drop_eq_getElem_cons h]
  congr 1
  unfold rd
  rw [List.getD_eq_getElem?_getD, Int.toNat_natCast, List.getElem?_eq_getElem h]
  rfl
noncomputable def dec (p : Prop) : Bool := @decide p (Classical.propDecidable p)
theorem dec_true {p : Prop} (h : p) : dec p = true := @decide_eq_true p (Classical.propDecidable p) h
theorem dec_false {p : Prop} (h : ¬ p) : dec p = false := @decide_eq_false p (Classical.propDecidable p) h
theorem dec_iff {p : Prop} : dec p = true ↔ p := @decide_eq_true_iff p (Classical.propDecidable p)
theorem dec_congr {p q : Prop} (h : p ↔ q) : dec p = dec q := by rw [propext h]
theorem dec_eq {p : Prop} [Decidable p] : dec p = decide p := by
  by_cases h : p
  · rw [dec_true h, decide_eq_true h]
  · rw [dec_false h, decide_eq_false h]
theorem ev_succ {α : Type} {g : Nat → Option α} {r : α} (h : Ev (fun k => g (k + 1)) r) : Ev g r := by
  obtain ⟨K, h⟩ := h
  refine ⟨K + 1, fun n hn => ?_⟩
  obtain ⟨m, rfl⟩ : ∃ m, n = m + 1 := ⟨n - 1, by omega⟩
  exact h m (by omega)
theorem ev_eq {α : Type} {g : Nat → Option α} {r r' : α} (h : Ev g r) (e : r = r') : Ev g r' := e ▸ h
theorem gd_eq {α : Type} (z : α) {xs : List α} {i : Int} (h0 : 0 ≤ i) (h : i < (xs.length : Int)) : xs[i.toNat]? = some (xs.getD i.toNat z) := by
  rw [List.getD_eq_getElem?_getD, List.getElem?_eq_getElem (by omega)]
  rfl
theorem gd_nat {α : Type} (z : α) {xs : List α} {n : Nat} {v : α} (h : xs[n]? = some v) : xs.getD ((n : Int)).toNat z = v := by
  rw [List.getD_eq_getElem?_getD, Int.toNat_natCast, h]
  rfl
theorem gd_drop {α : Type} (z : α) {xs : List α} {n : Nat} (h : n < xs.length) : xs.drop n = xs.getD ((n : Int)).toNat z :: xs.drop (n + 1) := by
  rw [List.drop_eq_getElem_cons h]
  congr 1
  exact (gd_nat z (List.getElem?_eq_getElem h)).symm
/-- A loop that copies: place after place is set. -/
theorem copy_loop {α β : Type} (F : Nat → List β → Int → Option (List β)) (l : List α) (g : α → β)
    (hend : ∀ acc : List β, acc.length = l.length → Ev (fun k => F k acc (l.length : Int)) acc)
    (hstep : ∀ (acc : List β) (n : Nat) (x : α) (r : List β), n < l.length → acc.length = l.length → l[n]? = some x → Ev (fun k => F k (acc.set n (g x)) ((n + 1 : Nat) : Int)) r → Ev (fun k => F k acc (n : Int)) r) :
    ∀ (d n : Nat) (acc : List β), n + d = l.length → acc.length = l.length → (∀ j, j < n → acc[j]? = (l.map g)[j]?) → Ev (fun k => F k acc (n : Int)) (l.map g) := by
  intro d
  induction d with
  | zero =>
    intro n acc hn ha hp
    obtain rfl : n = l.length := by omega
    refine ev_eq (hend acc ha) (List.ext_getElem? fun j => ?_)
    by_cases h : j < l.length
    · exact hp j h
    · rw [List.getElem?_eq_none (by omega), List.getElem?_eq_none (by simp; omega)]
  | succ d ih =>
    intro n acc hn ha hp
    have hx : l[n]? = some l[n] := List.getElem?_eq_getElem (by omega)
    refine hstep acc n l[n] _ (by omega) ha hx (ih (n + 1) _ (by omega) (by simpa using ha) ?_)
    intro j hj
    rw [List.getElem?_set]
    by_cases h : n = j
    · subst h
      rw [if_pos rfl, if_pos (by omega), List.getElem?_map, hx]
      rfl
    · rw [if_neg h]
      exact hp j (by omega)
/-- A loop that tests place after place. -/
theorem all_loop (F : Nat → Int → Option Bool) (L : Nat) (p : Nat → Prop) (hend : Ev (fun k => F k (L : Int)) true)
    (hyes : ∀ (n : Nat) (r : Bool), n < L → p n → Ev (fun k => F k ((n + 1 : Nat) : Int)) r → Ev (fun k => F k (n : Int)) r)
    (hno : ∀ n : Nat, n < L → ¬ p n → Ev (fun k => F k (n : Int)) false) :
    ∀ (d n : Nat), n + d = L → Ev (fun k => F k (n : Int)) (dec (∀ j, n ≤ j → j < L → p j)) := by
  intro d
  induction d with
  | zero =>
    intro n hn
    obtain rfl : n = L := by omega
    exact ev_eq hend (dec_true (fun j h1 h2 => by omega)).symm
  | succ d ih =>
    intro n hn
    by_cases h : p n
    · refine hyes n _ (by omega) h (ev_eq (ih (n + 1) (by omega)) (dec_congr ⟨fun g j h1 h2 => ?_, fun g j h1 h2 => g j (by omega) h2⟩))
      by_cases e : j = n
      · exact e ▸ h
      · exact g j (by omega) h2
    · exact ev_eq (hno n (by omega) h) (dec_false (fun g => h (g n (Nat.le_refl _) (by omega)))).symm
/-- A loop that goes round L times over a state. -/
theorem fold_loop {σ ρ : Type} (F : Nat → σ → Int → Option ρ) (L : Nat) (S : Nat → σ) (r : ρ) (hend : Ev (fun k => F k (S L) (L : Int)) r)
    (hstep : ∀ n : Nat, n < L → Ev (fun k => F k (S (n + 1)) ((n + 1 : Nat) : Int)) r → Ev (fun k => F k (S n) (n : Int)) r) :
    ∀ (d n : Nat), n + d = L → Ev (fun k => F k (S n) (n : Int)) r := by
  intro d
  induction d with
  | zero =>
    intro n hn
    obtain rfl : n = L := by omega
    exact hend
  | succ d ih =>
    intro n hn
    exact hstep n (by omega) (ih (n + 1) (by omega))
theorem set_mid {α : Type} (a b : List α) (x v : α) {n : Nat} (h : a.length = n) : (a ++ x :: b).set n v = a ++ v :: b := by
  subst h
  rw [List.set_append_right _ _ (Nat.le_refl _), Nat.sub_self]
  rfl
theorem get_mid {α : Type} (a b : List α) (x : α) {n : Nat} (h : a.length = n) : (a ++ x :: b)[n]? = some x := by
  subst h
  rw [List.getElem?_append_right (Nat.le_refl _), Nat.sub_self]
  rfl
/-- A loop that tests place after place, and one thing more at its end. -/
theorem all_loop2 (F : Nat → Int → Option Bool) (L : Nat) (p : Nat → Prop) (E : Prop) (hend : Ev (fun k => F k (L : Int)) (dec E))
    (hyes : ∀ (n : Nat) (r : Bool), n < L → p n → Ev (fun k => F k ((n + 1 : Nat) : Int)) r → Ev (fun k => F k (n : Int)) r)
    (hno : ∀ n : Nat, n < L → ¬ p n → Ev (fun k => F k (n : Int)) false) :
    ∀ (d n : Nat), n + d = L → Ev (fun k => F k (n : Int)) (dec ((∀ j, n ≤ j → j < L → p j) ∧ E)) := by
  intro d
  induction d with
  | zero =>
    intro n hn
    obtain rfl : n = L := by omega
    exact ev_eq hend (dec_congr ⟨fun h => ⟨fun j h1 h2 => by omega, h⟩, fun h => h.2⟩)
  | succ d ih =>
    intro n hn
    by_cases h : p n
    · refine hyes n _ (by omega) h (ev_eq (ih (n + 1) (by omega)) (dec_congr ⟨fun g => ⟨fun j h1 h2 => ?_, g.2⟩, fun g => ⟨fun j h1 h2 => g.1 j (by omega) h2, g.2⟩⟩))
      by_cases e : j = n
      · exact e ▸ h
      · exact g.1 j (by omega) h2
    · exact ev_eq (hno n (by omega) h) (dec_false (fun g => h (g.1 n (Nat.le_refl _) (by omega)))).symm
theorem rdL (xs : List (List Int)) (i : Int) : rd_L4 xs i = xs.getD i.toNat [] := rfl
/-- How much a list of lists holds. -/
def wt (l : List (List Int)) : Nat := l.length + (l.map List.length).sum
theorem wt_mem {l : List (List Int)} {x : List Int} (h : x ∈ l) : x.length ≤ wt l := by
  unfold wt
  induction l with
  | nil => simp at h
  | cons y l ih =>
    simp only [List.mem_cons] at h
    simp only [List.map_cons, List.sum_cons, List.length_cons]
    rcases h with rfl | h
    · omega
    · have := ih h; omega
theorem szIntS (l : List Int) (a : Int) (h0 : 0 ≤ a) (h1 : a ≤ 1048576) (hl : l.length ≤ maxLen) : laws_szIntS.f l a = some (if a < l.length then -1 else a - l.length) := by
  unfold maxLen at hl
  unfold laws_szIntS.f
  rw [w64 (by omega) (by omega)]
  by_cases h : a < l.length
  · rw [if_pos (by omega), if_pos h]
  · rw [if_neg (by omega), if_neg h]
theorem szIntSS_l0 (l : List (List Int)) (hl : l.length ≤ 1048576) (hm : ∀ x ∈ l, x.length ≤ maxLen) : ∀ (d n : Nat) (a : Int), n + d = l.length → 0 ≤ a → a ≤ 1048576 →
    Ev (fun k => laws_szIntSS.l0 k l a (n : Int)) (if a < ((l.drop n).map List.length).sum then -1 else a - ((l.drop n).map List.length).sum) := by
  intro d
  induction d with
  | zero =>
    intro n a hn h0 h1
    obtain rfl : n = l.length := by omega
    refine ev_succ ?_
    simp only [laws_szIntSS.l0]
    refine ev_neg (by omega) (ev_of ?_)
    rw [List.drop_length, if_neg (by simp; omega)]
    simp
  | succ d ih =>
    intro n a hn h0 h1
    refine ev_succ ?_
    have hx : l[n]? = some l[n] := List.getElem?_eq_getElem (by omega)
    have d1 : l.drop n = l[n] :: l.drop (n + 1) := List.drop_eq_getElem_cons (by omega)
    have hmx := hm _ (List.mem_of_getElem? hx)
    simp only [laws_szIntSS.l0, rdL, gd_nat [] hx, szIntS l[n] a h0 h1 hmx, Option.bind_some]
    refine ev_pos (by omega) (ev_pos (by omega) ?_)
    rw [d1, List.map_cons, List.sum_cons, w64 (x := (n : Int) + 1) (by omega) (by omega)]
    by_cases h : a < l[n].length
    · rw [if_pos h]
      refine ev_pos (by omega) (ev_of ?_)
      rw [if_pos (by omega)]
    · rw [if_neg h]
      refine ev_neg (by omega) (ev_eq (ih (n + 1) (a - l[n].length) (by omega) (by omega) (by omega)) ?_)
      by_cases g : a - (l[n].length : Int) < ((l.drop (n + 1)).map List.length).sum
      · rw [if_pos g, if_pos (by omega)]
      · rw [if_neg g, if_neg (by omega)]
        omega
theorem szIntSS (l : List (List Int)) (a : Int) (h0 : 0 ≤ a) (h1 : a ≤ 1048576) (hl : l.length ≤ maxLen) (hm : ∀ x ∈ l, x.length ≤ maxLen) : Ev (fun k => laws_szIntSS.f k l a) (if a < wt l then -1 else a - wt l) := by
  unfold maxLen at hl
  unfold laws_szIntSS.f wt
  rw [w64 (by omega) (by omega)]
  by_cases h : a < l.length
  · refine ev_pos (by omega) (ev_of ?_)
    rw [if_pos (by omega)]
  · refine ev_neg (by omega) (ev_eq (szIntSS_l0 l (by omega) hm l.length 0 _ (by omega) (by omega) (by omega)) ?_)
    rw [List.drop_zero]
    by_cases g : a - (l.length : Int) < (l.map List.length).sum
    · rw [if_pos g, if_pos (by omega)]
    · rw [if_neg g, if_neg (by omega)]
      omega
theorem toIntS_l0 (l : List Int) (hl : l.length ≤ 35184372088832) : ∀ (d n : Nat) (acc : List Int), n + d = l.length → acc.length = l.length → (∀ j, j < n → acc[j]? = l[j]?) → Ev (fun k => laws_toIntS.l0 k l acc (n : Int)) l := by
  intro d
  induction d with
  | zero =>
    intro n acc hn ha hp
    refine ev_end fun k => ?_
    simp only [laws_toIntS.l0]
    rw [if_neg (by omega)]
    congr 1
    exact List.ext_getElem? fun j => by
      by_cases h : j < n
      · exact hp j h
      · rw [List.getElem?_eq_none (by omega), List.getElem?_eq_none (by omega)]
  | succ d ih =>
    intro n acc hn ha hp
    refine Ev.step (fun k => ?_) (ih (n + 1) (acc.set n (rd l n)) (by omega) (by simpa using ha) ?_)
    · simp only [laws_toIntS.l0]
      rw [if_pos (by omega), if_pos (by omega), if_pos (by omega), w64 (by omega) (by omega)]
      rfl
    intro j hj
    rw [List.getElem?_set]
    by_cases h : j = n
    · subst h
      rw [if_pos (by omega), if_pos (by omega), ← rd_eq (by omega) (by omega)]
      simp
    · rw [if_neg (by omega)]
      exact hp j (by omega)
theorem toIntS (l : List Int) (hl : l.length ≤ 35184372088832) : Ev (fun k => laws_toIntS.f k l) l := by
  refine Ev.congr (fun k => ?_) (toIntS_l0 l hl l.length 0 (List.replicate l.length 0) (by omega) (by simp) (fun j h => by omega))
  unfold laws_toIntS.f
  rw [if_pos (by omega), if_pos (by omega)]
  rfl
theorem eqIntS_l0 (l : List Int) (hl : l.length ≤ 35184372088832) : ∀ (d n : Nat), n + d = l.length → Ev (fun k => laws_eqIntS.l0 k l l (n : Int)) true := by
  intro d
  induction d with
  | zero =>
    intro n hn
    refine ev_end fun k => ?_
    simp only [laws_eqIntS.l0]
    rw [if_neg (by omega)]
  | succ d ih =>
    intro n hn
    refine Ev.step (fun k => ?_) (ih (n + 1) (by omega))
    simp only [laws_eqIntS.l0]
    rw [if_pos (by omega), if_pos (by omega), if_pos (by omega), if_pos trivial, w64 (by omega) (by omega)]
    rfl
theorem eqIntS (l : List Int) (hl : l.length ≤ 35184372088832) : Ev (fun k => laws_eqIntS.f k l l) true := by
  refine Ev.congr (fun k => ?_) (eqIntS_l0 l hl l.length 0 (by omega))
  unfold laws_eqIntS.f
  rw [if_pos rfl]
  rfl
theorem szConfig (a b c d e f g : Int) (l : List Int) (n : Int) (h0 : 0 ≤ n) (h1 : n ≤ 1048576) (hl : l.length ≤ maxLen) : laws_szConfig.f a b c d e f g l n = some (if n < l.length then -1 else n - l.length) := by
  unfold laws_szConfig.f
  rw [szIntS l n h0 h1 hl]
  simp only [Option.bind_some]
  by_cases h : n < l.length
  · rw [if_pos h, if_pos (by omega)]
  · rw [if_neg h, if_neg (by omega)]
theorem toConfig (a b c d e f g : Int) (l : List Int) (hl : l.length ≤ 1048576) : Ev (fun k => laws_toConfig.f k a b c d e f g l) (a, b, c, d, e, f, g, l) := by
  unfold laws_toConfig.f
  exact Ev.bind (toIntS l (by omega)) (Ev.now _)
theorem eqConfig (a b c d e f g : Int) (l : List Int) (hl : l.length ≤ 1048576) : Ev (fun k => laws_eqConfig.f k a b c d e f g l a b c d e f g l) true := by
  unfold laws_eqConfig.f
  exact ev_pos rfl (ev_pos rfl (ev_pos rfl (ev_pos rfl (ev_pos rfl (ev_pos rfl (ev_pos rfl (Ev.bind (eqIntS l (by omega)) (ev_pos rfl (Ev.now _)))))))))
open Classical in
/-- A quotient rounded down, and true; 0 and false where there is none. -/
noncomputable def floorV (a b : Int) : Int × Bool :=
  if b = 0 ∨ b = -1 ∧ a = -9223372036854775808 then (0, false) else if Int.tmod a b = 0 then (wrap64 (Int.tdiv a b), true) else if ((decide (a < 0)) != (decide (b < 0))) = true then (wrap64 (wrap64 (Int.tdiv a b) - 1), true) else (wrap64 (Int.tdiv a b), true)
def brought (x a b : Int) : Int := if x < a then a else if x > b then b else x
def BndOk (a b : Int) : Prop := a ≤ b ∧ (-1099511627776 ≤ a ∧ a ≤ 1099511627776) ∧ (-1099511627776 ≤ b ∧ b ≤ 1099511627776)
def LeafOk (n lam lo hi : Int) : Prop := (0 ≤ n ∧ n ≤ 40) ∧ (1 ≤ lam ∧ lam ≤ 100) ∧ BndOk lo hi
open Classical in
/-- The value of a leaf, and true; 0 and false where there is none. -/
noncomputable def leafV (n g lam lo hi : Int) : Int × Bool := if LeafOk n lam lo hi then (brought (floorV g (wrap64 (n + lam))).1 lo hi, true) else (0, false)
theorem implFloor_j0 (a b : Int) (t : Bool) (h : t = true ↔ (b = 0 ∨ b = -1 ∧ a = -9223372036854775808)) : Ev (fun k => impl_FloorDiv.j0 k a b t) (floorV a b) := by
  refine ev_end fun k => ?_
  simp only [impl_FloorDiv.j0]
  unfold floorV
  by_cases h0 : b = 0 ∨ b = -1 ∧ a = -9223372036854775808
  · rw [if_pos (h.2 h0), if_pos h0]
  · rw [if_neg (fun z => h0 (h.1 z)), if_neg h0, if_neg (fun z => h0 (.inl z))]
    by_cases h1 : Int.tmod a b = 0
    · rw [if_pos h1, if_pos h1]
    · rw [if_neg h1, if_neg h1]
      split
      · rfl
      · rfl
theorem implFloor (a b : Int) : Ev (fun k => impl_FloorDiv.f k a b) (floorV a b) := by
  unfold impl_FloorDiv.f
  by_cases h0 : b = 0
  · exact ev_pos h0 (implFloor_j0 a b true (by simp [h0]))
  refine ev_neg h0 ?_
  by_cases h1 : a = -9223372036854775808
  · exact ev_pos h1 (implFloor_j0 a b _ (by simp [h0, h1]))
  · exact ev_neg h1 (implFloor_j0 a b false (by simp [h0, h1]))
theorem implBrought (x a b : Int) : impl_Brought.f x a b = some (brought x a b) := by
  unfold impl_Brought.f brought
  split
  · rfl
  · split <;> rfl
theorem implWithin (a b c : Int) : impl_within.f a b c = some (decide (b ≤ a ∧ a ≤ c)) := by
  unfold impl_within.f
  by_cases h : b ≤ a
  · rw [if_pos h]; simp [h]
  · rw [if_neg h]; simp [h]
theorem implBoundOk (a b : Int) : impl_BoundOk.f a b = some (dec (BndOk a b)) := by
  unfold impl_BoundOk.f impl_isLeafValue.f
  simp only [implWithin, Option.bind_some]
  by_cases h1 : a ≤ b
  · rw [if_pos h1]
    by_cases h2 : -1099511627776 ≤ a ∧ a ≤ 1099511627776
    · rw [if_pos (by simpa using h2), ← dec_eq]
      congr 1
      exact dec_congr ⟨fun g => ⟨h1, h2, g⟩, fun g => g.2.2⟩
    · rw [if_neg (by simpa using h2), dec_false]
      exact fun g => h2 g.2.1
  · rw [if_neg h1, dec_false]
    exact fun g => h1 g.1
theorem implCount (n lam : Int) : impl_isCount.f n lam = some (decide ((0 ≤ n ∧ n ≤ 40) ∧ (1 ≤ lam ∧ lam ≤ 100))) := by
  unfold impl_isCount.f
  simp only [implWithin, Option.bind_some]
  by_cases h1 : 0 ≤ n ∧ n ≤ 40
  · rw [if_pos (by simpa using h1)]
    simp [h1]
  · rw [if_neg (by simpa using h1)]
    simp [h1]
theorem implLeaf_j0 (n g lam lo hi : Int) (t : Bool) (h : t = false ↔ LeafOk n lam lo hi) : Ev (fun k => impl_LeafOf.j0 k lam t n g lo hi) (leafV n g lam lo hi) := by
  unfold leafV
  by_cases h0 : LeafOk n lam lo hi
  · rw [if_pos h0, h.2 h0]
    refine Ev.step (f := fun k => (impl_FloorDiv.f k g (wrap64 (n + lam))).bind fun bt => ((impl_Brought.f bt.1 lo hi).bind fun t => some (t, true))) (fun k => ?_) (Ev.bind (implFloor _ _) (ev_of ?_))
    · simp only [impl_LeafOf.j0]
      rw [if_neg (by decide)]
    · rw [implBrought]
      rfl
  · rw [if_neg h0]
    refine ev_end fun k => ?_
    simp only [impl_LeafOf.j0]
    rw [if_pos (by simpa using fun z => h0 (h.1 z))]
theorem implLeaf (n g lam lo hi : Int) : Ev (fun k => impl_LeafOf.f k n g lam lo hi) (leafV n g lam lo hi) := by
  unfold impl_LeafOf.f
  simp only [implCount, implBoundOk, Option.bind_some]
  by_cases h1 : (0 ≤ n ∧ n ≤ 40) ∧ (1 ≤ lam ∧ lam ≤ 100)
  · refine ev_pos (by simpa using h1) (implLeaf_j0 n g lam lo hi _ ?_)
    rw [Bool.not_eq_false', dec_iff]
    exact ⟨fun z => ⟨h1.1, h1.2, z⟩, fun z => z.2.2⟩
  · exact ev_neg (by simpa using h1) (implLeaf_j0 n g lam lo hi true ⟨fun z => by simp at z, fun z => absurd ⟨z.1, z.2.1⟩ h1⟩)
theorem specFloor_j0 (a b : Int) (t : Bool) (h : t = true ↔ (b = 0 ∨ b = -1 ∧ a = -9223372036854775808)) : Ev (fun k => spec_FloorDiv.j0 k a b t) (floorV a b) := by
  refine ev_end fun k => ?_
  simp only [spec_FloorDiv.j0]
  unfold floorV
  by_cases h0 : b = 0 ∨ b = -1 ∧ a = -9223372036854775808
  · rw [if_pos (h.2 h0), if_pos h0]
  · rw [if_neg (fun z => h0 (h.1 z)), if_neg h0, if_neg (fun z => h0 (.inl z))]
    by_cases h1 : Int.tmod a b = 0
    · rw [if_pos h1, if_pos h1]
    · rw [if_neg h1, if_neg h1]
      split
      · rfl
      · rfl
theorem specFloor (a b : Int) : Ev (fun k => spec_FloorDiv.f k a b) (floorV a b) := by
  unfold spec_FloorDiv.f
  by_cases h0 : b = 0
  · exact ev_pos h0 (specFloor_j0 a b true (by simp [h0]))
  refine ev_neg h0 ?_
  by_cases h1 : b = -1
  · exact ev_pos h1 (specFloor_j0 a b _ (by simp [h0, h1]))
  · exact ev_neg h1 (specFloor_j0 a b false (by simp [h0, h1]))
theorem specBrought (x a b : Int) : spec_Brought.f x a b = some (brought x a b) := by
  unfold spec_Brought.f brought
  split
  · rfl
  · split <;> rfl
theorem specIn (a b c : Int) : spec_l1In.f a b c = some (decide (b ≤ a ∧ a ≤ c)) := by
  unfold spec_l1In.f
  by_cases h : b ≤ a
  · rw [if_pos h]; simp [h]
  · rw [if_neg h]; simp [h]
theorem specBoundOk (a b : Int) : spec_BoundOk.f a b = some (dec (BndOk a b)) := by
  unfold spec_BoundOk.f spec_l14Leaf.f
  simp only [specIn, Option.bind_some]
  by_cases h1 : a ≤ b
  · rw [if_pos h1]
    by_cases h2 : -1099511627776 ≤ a ∧ a ≤ 1099511627776
    · rw [if_pos (by simpa using h2), ← dec_eq]
      congr 1
      exact dec_congr ⟨fun g => ⟨h1, h2, g⟩, fun g => g.2.2⟩
    · rw [if_neg (by simpa using h2), dec_false]
      exact fun g => h2 g.2.1
  · rw [if_neg h1, dec_false]
    exact fun g => h1 g.1
theorem specLeaf_j0 (n g lam lo hi : Int) (t : Bool) (h : t = false ↔ LeafOk n lam lo hi) : Ev (fun k => spec_LeafOf.j0 k lam t n g lo hi) (leafV n g lam lo hi) := by
  unfold leafV
  by_cases h0 : LeafOk n lam lo hi
  · rw [if_pos h0, h.2 h0]
    refine Ev.step (f := fun k => (spec_FloorDiv.f k g (wrap64 (n + lam))).bind fun bt => ((spec_Brought.f bt.1 lo hi).bind fun t => some (t, true))) (fun k => ?_) (Ev.bind (specFloor _ _) (ev_of ?_))
    · simp only [spec_LeafOf.j0]
      rw [if_neg (by decide)]
    · rw [specBrought]
      rfl
  · rw [if_neg h0]
    refine ev_end fun k => ?_
    simp only [spec_LeafOf.j0]
    rw [if_pos (by simpa using fun z => h0 (h.1 z))]
theorem specLeaf (n g lam lo hi : Int) : Ev (fun k => spec_LeafOf.f k n g lam lo hi) (leafV n g lam lo hi) := by
  unfold spec_LeafOf.f
  simp only [specIn, specBoundOk, Option.bind_some]
  by_cases h1 : 0 ≤ n ∧ n ≤ 40
  · refine ev_pos (by simpa using h1) ?_
    by_cases h2 : 1 ≤ lam ∧ lam ≤ 100
    · refine ev_pos (by simpa using h2) (specLeaf_j0 n g lam lo hi _ ?_)
      rw [Bool.not_eq_false', dec_iff]
      exact ⟨fun z => ⟨h1, h2, z⟩, fun z => z.2.2⟩
    · exact ev_neg (by simpa using h2) (specLeaf_j0 n g lam lo hi true ⟨fun z => by simp at z, fun z => absurd z.2.1 h2⟩)
  · exact ev_neg (by simpa using h1) (specLeaf_j0 n g lam lo hi true ⟨fun z => by simp at z, fun z => absurd z.1 h1⟩)
/-- Both sides' values, and true; zeros and false where one of them is none. -/
noncomputable def sideV (lam lo hi n g n' g' : Int) : Int × Int × Bool := if (leafV n g lam lo hi).2 = true then (if (leafV n' g' lam lo hi).2 = true then ((leafV n g lam lo hi).1, (leafV n' g' lam lo hi).1, true) else (0, 0, false)) else (0, 0, false)
theorem specSideValues (a b c d e f g : Int) (l : List Int) (lo hi p q n s n' s' : Int) : Ev (fun k => spec_SideValues.f k a b c d e f g l lo hi p q n s n' s') (sideV d lo hi n s n' s') := by
  unfold spec_SideValues.f sideV
  refine Ev.bind (specLeaf _ _ _ _ _) (Ev.bind (specLeaf _ _ _ _ _) ?_)
  by_cases h1 : (leafV n s d lo hi).2 = true
  · refine ev_pos h1 ?_
    rw [if_pos h1]
    by_cases h2 : (leafV n' s' d lo hi).2 = true
    · refine ev_pos h2 (ev_of ?_)
      rw [if_pos h2]
    · refine ev_neg h2 (ev_of ?_)
      rw [if_neg h2]
  · refine ev_neg h1 (ev_of ?_)
    rw [if_neg h1]
theorem implSideValues (a b c d e f g : Int) (l : List Int) (lo hi p q n s n' s' : Int) : Ev (fun k => impl_SideValues.f k a b c d e f g l lo hi p q n s n' s') (sideV d lo hi n s n' s') := by
  unfold impl_SideValues.f sideV
  refine Ev.bind (implLeaf _ _ _ _ _) (Ev.bind (implLeaf _ _ _ _ _) ?_)
  by_cases h1 : (leafV n s d lo hi).2 = true
  · refine ev_pos h1 ?_
    rw [if_pos h1]
    by_cases h2 : (leafV n' s' d lo hi).2 = true
    · refine ev_pos h2 (ev_of ?_)
      rw [if_pos h2]
    · refine ev_neg h2 (ev_of ?_)
      rw [if_neg h2]
  · refine ev_neg h1 (ev_of ?_)
    rw [if_neg h1]
theorem leafV_in {n g lam lo hi : Int} (h : (leafV n g lam lo hi).2 = true) : lo ≤ (leafV n g lam lo hi).1 ∧ (leafV n g lam lo hi).1 ≤ hi := by
  unfold leafV at h ⊢
  by_cases c : LeafOk n lam lo hi
  · rw [if_pos c]
    have := c.2.2.1
    simp only
    unfold brought
    split
    · omega
    · split <;> omega
  · rw [if_neg c] at h; simp at h

theorem FnExactSideValues (a0_0 : Int) (a0_1 : Int) (a0_2 : Int) (a0_3 : Int) (a0_4 : Int) (a0_5 : Int) (a0_6 : Int) (l0_7 : List Int) (a1_0 : Int) (a1_1 : Int) (a2_0 : Int) (a2_1 : Int) (a2_2 : Int) (a2_3 : Int) (a2_4 : Int) (a2_5 : Int)
    (w0_0 : (Lit.int .i64 a0_0).wf = true) (w0_1 : (Lit.int .i64 a0_1).wf = true) (w0_2 : (Lit.int .i64 a0_2).wf = true) (w0_3 : (Lit.int .i64 a0_3).wf = true) (w0_4 : (Lit.int .i64 a0_4).wf = true) (w0_5 : (Lit.int .i64 a0_5).wf = true) (w0_6 : (Lit.int .i64 a0_6).wf = true) (w0_7 : l0_7.length ≤ maxLen ∧ ∀ x ∈ l0_7, (Lit.int .i64 x).wf = true) (w1_0 : (Lit.int .i64 a1_0).wf = true) (w1_1 : (Lit.int .i64 a1_1).wf = true) (w2_0 : (Lit.int .i64 a2_0).wf = true) (w2_1 : (Lit.int .i64 a2_1).wf = true) (w2_2 : (Lit.int .i64 a2_2).wf = true) (w2_3 : (Lit.int .i64 a2_3).wf = true) (w2_4 : (Lit.int .i64 a2_4).wf = true) (w2_5 : (Lit.int .i64 a2_5).wf = true) : ∃ k, laws_FnExactSideValues.f k a0_0 a0_1 a0_2 a0_3 a0_4 a0_5 a0_6 l0_7 a1_0 a1_1 a2_0 a2_1 a2_2 a2_3 a2_4 a2_5 = some true := by
  refine Ev.rounds ?_
  unfold laws_FnExactSideValues.f
  rw [szConfig _ _ _ _ _ _ _ l0_7 1048576 (by omega) (by omega) w0_7.1]
  simp only [Option.bind_some]
  by_cases b0 : (1048576 : Int) < l0_7.length
  · rw [if_pos b0]
    exact ev_pos (by omega) (Ev.now _)
  rw [if_neg b0]
  have t0 := toConfig a0_0 a0_1 a0_2 a0_3 a0_4 a0_5 a0_6 l0_7 (by omega)
  refine ev_neg (by omega) (Ev.bind t0 ?_)
  simp only [laws_toBound.f, laws_toCand.f, laws_toSlot.f, Option.bind_some]
  refine Ev.bind (specSideValues _ _ _ _ _ _ _ _ _ _ _ _ _ _ _ _) (Ev.bind t0 (Ev.bind (implSideValues _ _ _ _ _ _ _ _ _ _ _ _ _ _ _ _) (ev_pos rfl (ev_pos rfl ?_))))
  refine ev_succ ?_
  simp only [laws_FnExactSideValues.j0]
  exact ev_neg (by simp) (Ev.bind t0 (Ev.bind (eqConfig _ _ _ _ _ _ _ _ (by omega)) (ev_pos rfl (Ev.now _))))

end Go.Proofs.Ytohngimlmcdiiaa.Pure
