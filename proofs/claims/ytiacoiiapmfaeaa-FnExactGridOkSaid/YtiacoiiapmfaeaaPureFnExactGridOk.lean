/- impl.GridOk returns what spec.GridOk returns and leaves its grid as it was, for all grids. Conditions: none but the row's own.
-/
import Derived.Test.YtiacoiiapmfaeaaQFnExactGridOkx5
set_option linter.unusedVariables false
set_option linter.unusedSimpArgs false
namespace Go.Proofs.Ytiacoiiapmfaeaa.Pure
open Go.RowKit Go.Proofs.Ytiacoiiapmfaeaa.QFnExactGridOk Go.Proofs.YtiacoiiapmfaeaaW.PrintWords Go.Proofs.YtiacoiiapmfaeaaW.PrintLast Go.Proofs.YtiacoiiapmfaeaaW.PrintMore

theorem w64 {x : Int} (h1 : -9223372036854775808 ≤ x) (h2 : x ≤ 9223372036854775807) : wrap64 x = x := by unfold wrap64; omega
theorem i64_wf {x : Int} (h : (Lit.int .i64 x).wf = true) : -9223372036854775808 ≤ x ∧ x ≤ 9223372036854775807 := by
  simpa [Lit.wf, IntKind.min, IntKind.max, IntKind.signed, IntKind.bits] using h
theorem u8_wf {x : Int} (h : (Lit.int .u8 x).wf = true) : 0 ≤ x ∧ x ≤ 255 := by
  simpa [Lit.wf, IntKind.min, IntKind.max, IntKind.signed, IntKind.bits] using h
theorem rd_eq {xs : List Int} {i : Int} (h0 : 0 ≤ i) (h : i < (xs.length : Int)) : xs[i.toNat]? = some (rd xs i) := by
  unfold rd
  rw [List.getD_eq_getElem?_getD, List.getElem?_eq_getElem (by omega)]
  rfl
theorem rd_mem {xs : List Int} {i : Int} (h0 : 0 ≤ i) (h : i < (xs.length : Int)) : rd xs i ∈ xs := List.mem_of_getElem? (rd_eq h0 h)
theorem rd_of {xs : List Int} {n : Nat} {v : Int} (h : xs[n]? = some v) : rd xs (n : Int) = v := by
  unfold rd
  rw [List.getD_eq_getElem?_getD, Int.toNat_natCast, h]
  rfl
theorem ev_of {α : Type} {r : α} {p : Option α} (h : p = some r) : Ev (fun _ => p) r := ⟨0, fun _ _ => h⟩
theorem ev_end {α : Type} {g : Nat → Option α} {r : α} (h : ∀ k, g (k + 1) = some r) : Ev g r := Ev.step (f := fun _ => some r) h (Ev.now r)
theorem ev_pos {α : Type} {c : Prop} [Decidable c] {f g : Nat → Option α} {r : α} (hc : c) (h : Ev f r) : Ev (fun k => if c then f k else g k) r := Ev.congr (fun _ => if_pos hc) h
theorem ev_neg {α : Type} {c : Prop} [Decidable c] {f g : Nat → Option α} {r : α} (hc : ¬ c) (h : Ev g r) : Ev (fun k => if c then f k else g k) r := Ev.congr (fun _ => if_neg hc) h
theorem rd_drop {xs : List Int} {n : Nat} (h : n < xs.length) : xs.drop n = rd xs (n : Int) :: xs.drop (n + 1) := by
  rw [List.drop_eq_getElem_cons h]
  congr 1
  unfold rd
  rw [List.getD_eq_getElem?_getD, Int.toNat_natCast, List.getElem?_eq_getElem h]
  rfl
noncomputable def dec (p : Prop) : Bool := @decide p (Classical.propDecidable p)
theorem dec_true {p : Prop} (h : p) : dec p = true := @decide_eq_true p (Classical.propDecidable p) h
theorem dec_false {p : Prop} (h : ¬ p) : dec p = false := @decide_eq_false p (Classical.propDecidable p) h
theorem dec_iff {p : Prop} : dec p = true ↔ p := @decide_eq_true_iff p (Classical.propDecidable p)
theorem dec_congr {p q : Prop} (h : p ↔ q) : dec p = dec q := by rw [propext h]
theorem dec_eq {p : Prop} [Decidable p] : dec p = decide p := by
  by_cases h : p
  · rw [dec_true h, decide_eq_true h]
  · rw [dec_false h, decide_eq_false h]
theorem ev_succ {α : Type} {g : Nat → Option α} {r : α} (h : Ev (fun k => g (k + 1)) r) : Ev g r := by
  obtain ⟨K, h⟩ := h
  refine ⟨K + 1, fun n hn => ?_⟩
  obtain ⟨m, rfl⟩ : ∃ m, n = m + 1 := ⟨n - 1, by omega⟩
  exact h m (by omega)
theorem ev_eq {α : Type} {g : Nat → Option α} {r r' : α} (h : Ev g r) (e : r = r') : Ev g r' := e ▸ h
theorem gd_eq {α : Type} (z : α) {xs : List α} {i : Int} (h0 : 0 ≤ i) (h : i < (xs.length : Int)) : xs[i.toNat]? = some (xs.getD i.toNat z) := by
  rw [List.getD_eq_getElem?_getD, List.getElem?_eq_getElem (by omega)]
  rfl
theorem gd_nat {α : Type} (z : α) {xs : List α} {n : Nat} {v : α} (h : xs[n]? = some v) : xs.getD ((n : Int)).toNat z = v := by
  rw [List.getD_eq_getElem?_getD, Int.toNat_natCast, h]
  rfl
theorem gd_drop {α : Type} (z : α) {xs : List α} {n : Nat} (h : n < xs.length) : xs.drop n = xs.getD ((n : Int)).toNat z :: xs.drop (n + 1) := by
  rw [List.drop_eq_getElem_cons h]
  congr 1
  exact (gd_nat z (List.getElem?_eq_getElem h)).symm
/-- A loop that copies: place after place is set. -/
theorem copy_loop {α β : Type} (F : Nat → List β → Int → Option (List β)) (l : List α) (g : α → β)
    (hend : ∀ acc : List β, acc.length = l.length → Ev (fun k => F k acc (l.length : Int)) acc)
    (hstep : ∀ (acc : List β) (n : Nat) (x : α) (r : List β), n < l.length → acc.length = l.length → l[n]? = some x → Ev (fun k => F k (acc.set n (g x)) ((n + 1 : Nat) : Int)) r → Ev (fun k => F k acc (n : Int)) r) :
    ∀ (d n : Nat) (acc : List β), n + d = l.length → acc.length = l.length → (∀ j, j < n → acc[j]? = (l.map g)[j]?) → Ev (fun k => F k acc (n : Int)) (l.map g) := by
  intro d
  induction d with
  | zero =>
    intro n acc hn ha hp
    obtain rfl : n = l.length := by omega
    refine ev_eq (hend acc ha) (List.ext_getElem? fun j => ?_)
    by_cases h : j < l.length
    · exact hp j h
    · rw [List.getElem?_eq_none (by omega), List.getElem?_eq_none (by simp; omega)]
  | succ d ih =>
    intro n acc hn ha hp
    have hx : l[n]? = some l[n] := List.getElem?_eq_getElem (by omega)
    refine hstep acc n l[n] _ (by omega) ha hx (ih (n + 1) _ (by omega) (by simpa using ha) ?_)
    intro j hj
    rw [List.getElem?_set]
    by_cases h : n = j
    · subst h
      rw [if_pos rfl, if_pos (by omega), List.getElem?_map, hx]
      rfl
    · rw [if_neg h]
      exact hp j (by omega)
/-- A loop that tests place after place. -/
theorem all_loop (F : Nat → Int → Option Bool) (L : Nat) (p : Nat → Prop) (hend : Ev (fun k => F k (L : Int)) true)
    (hyes : ∀ (n : Nat) (r : Bool), n < L → p n → Ev (fun k => F k ((n + 1 : Nat) : Int)) r → Ev (fun k => F k (n : Int)) r)
    (hno : ∀ n : Nat, n < L → ¬ p n → Ev (fun k => F k (n : Int)) false) :
    ∀ (d n : Nat), n + d = L → Ev (fun k => F k (n : Int)) (dec (∀ j, n ≤ j → j < L → p j)) := by
  intro d
  induction d with
  | zero =>
    intro n hn
    obtain rfl : n = L := by omega
    exact ev_eq hend (dec_true (fun j h1 h2 => by omega)).symm
  | succ d ih =>
    intro n hn
    by_cases h : p n
    · refine hyes n _ (by omega) h (ev_eq (ih (n + 1) (by omega)) (dec_congr ⟨fun g j h1 h2 => ?_, fun g j h1 h2 => g j (by omega) h2⟩))
      by_cases e : j = n
      · exact e ▸ h
      · exact g j (by omega) h2
    · exact ev_eq (hno n (by omega) h) (dec_false (fun g => h (g n (Nat.le_refl _) (by omega)))).symm
/-- A loop that goes round L times over a state. -/
theorem fold_loop {σ ρ : Type} (F : Nat → σ → Int → Option ρ) (L : Nat) (S : Nat → σ) (r : ρ) (hend : Ev (fun k => F k (S L) (L : Int)) r)
    (hstep : ∀ n : Nat, n < L → Ev (fun k => F k (S (n + 1)) ((n + 1 : Nat) : Int)) r → Ev (fun k => F k (S n) (n : Int)) r) :
    ∀ (d n : Nat), n + d = L → Ev (fun k => F k (S n) (n : Int)) r := by
  intro d
  induction d with
  | zero =>
    intro n hn
    obtain rfl : n = L := by omega
    exact hend
  | succ d ih =>
    intro n hn
    exact hstep n (by omega) (ih (n + 1) (by omega))
theorem set_mid {α : Type} (a b : List α) (x v : α) {n : Nat} (h : a.length = n) : (a ++ x :: b).set n v = a ++ v :: b := by
  subst h
  rw [List.set_append_right _ _ (Nat.le_refl _), Nat.sub_self]
  rfl
theorem get_mid {α : Type} (a b : List α) (x : α) {n : Nat} (h : a.length = n) : (a ++ x :: b)[n]? = some x := by
  subst h
  rw [List.getElem?_append_right (Nat.le_refl _), Nat.sub_self]
  rfl
/-- A loop that tests place after place, and one thing more at its end. -/
theorem all_loop2 (F : Nat → Int → Option Bool) (L : Nat) (p : Nat → Prop) (E : Prop) (hend : Ev (fun k => F k (L : Int)) (dec E))
    (hyes : ∀ (n : Nat) (r : Bool), n < L → p n → Ev (fun k => F k ((n + 1 : Nat) : Int)) r → Ev (fun k => F k (n : Int)) r)
    (hno : ∀ n : Nat, n < L → ¬ p n → Ev (fun k => F k (n : Int)) false) :
    ∀ (d n : Nat), n + d = L → Ev (fun k => F k (n : Int)) (dec ((∀ j, n ≤ j → j < L → p j) ∧ E)) := by
  intro d
  induction d with
  | zero =>
    intro n hn
    obtain rfl : n = L := by omega
    exact ev_eq hend (dec_congr ⟨fun h => ⟨fun j h1 h2 => by omega, h⟩, fun h => h.2⟩)
  | succ d ih =>
    intro n hn
    by_cases h : p n
    · refine hyes n _ (by omega) h (ev_eq (ih (n + 1) (by omega)) (dec_congr ⟨fun g => ⟨fun j h1 h2 => ?_, g.2⟩, fun g => ⟨fun j h1 h2 => g.1 j (by omega) h2, g.2⟩⟩))
      by_cases e : j = n
      · exact e ▸ h
      · exact g.1 j (by omega) h2
    · exact ev_eq (hno n (by omega) h) (dec_false (fun g => h (g.1 n (Nat.le_refl _) (by omega)))).symm
theorem rdL (xs : List (List Int)) (i : Int) : rd_L1 xs i = xs.getD i.toNat [] := rfl
/-- How much a list of lists holds. -/
def wt (l : List (List Int)) : Nat := l.length + (l.map List.length).sum
theorem wt_mem {l : List (List Int)} {x : List Int} (h : x ∈ l) : x.length ≤ wt l := by
  unfold wt
  induction l with
  | nil => simp at h
  | cons y l ih =>
    simp only [List.mem_cons] at h
    simp only [List.map_cons, List.sum_cons, List.length_cons]
    rcases h with rfl | h
    · omega
    · have := ih h; omega
theorem toIntS_l0 (l : List Int) (hl : l.length ≤ 35184372088832) : ∀ (d n : Nat) (acc : List Int), n + d = l.length → acc.length = l.length → (∀ j, j < n → acc[j]? = l[j]?) → Ev (fun k => laws_toIntS.l0 k l acc (n : Int)) l := by
  intro d
  induction d with
  | zero =>
    intro n acc hn ha hp
    refine ev_end fun k => ?_
    simp only [laws_toIntS.l0]
    rw [if_neg (by omega)]
    congr 1
    exact List.ext_getElem? fun j => by
      by_cases h : j < n
      · exact hp j h
      · rw [List.getElem?_eq_none (by omega), List.getElem?_eq_none (by omega)]
  | succ d ih =>
    intro n acc hn ha hp
    refine Ev.step (fun k => ?_) (ih (n + 1) (acc.set n (rd l n)) (by omega) (by simpa using ha) ?_)
    · simp only [laws_toIntS.l0]
      rw [if_pos (by omega), if_pos (by omega), if_pos (by omega), w64 (by omega) (by omega)]
      rfl
    intro j hj
    rw [List.getElem?_set]
    by_cases h : j = n
    · subst h
      rw [if_pos (by omega), if_pos (by omega), ← rd_eq (by omega) (by omega)]
      simp
    · rw [if_neg (by omega)]
      exact hp j (by omega)
theorem toIntS (l : List Int) (hl : l.length ≤ 35184372088832) : Ev (fun k => laws_toIntS.f k l) l := by
  refine Ev.congr (fun k => ?_) (toIntS_l0 l hl l.length 0 (List.replicate l.length 0) (by omega) (by simp) (fun j h => by omega))
  unfold laws_toIntS.f
  rw [if_pos (by omega), if_pos (by omega)]
  rfl
theorem toIntSS (l : List (List Int)) (hl : wt l ≤ 1048576) : Ev (fun k => laws_toIntSS.f k l) l := by
  have h1 : l.length ≤ wt l := by unfold wt; omega
  unfold laws_toIntSS.f
  refine ev_pos (by omega) (ev_pos (by omega) ?_)
  have key := copy_loop (fun k acc i => laws_toIntSS.l0 k l acc i) l (fun x => x) ?_ ?_ l.length 0 (List.replicate (l.length : Int).toNat []) (by omega) (by simp) (fun j h => by omega)
  · simpa using key
  · intro acc ha
    refine ev_succ ?_
    simp only [laws_toIntSS.l0]
    exact ev_neg (by omega) (Ev.now _)
  · intro acc n x r hn ha hx h
    refine ev_succ ?_
    have hm := wt_mem (List.mem_of_getElem? hx)
    simp only [laws_toIntSS.l0, rdL, gd_nat [] hx, Option.bind_some]
    refine ev_pos (by omega) (ev_pos (by omega) (Ev.bind (toIntS x (by omega)) (ev_pos (by omega) ?_)))
    rw [w64 (x := (n : Int) + 1) (by omega) (by omega)]
    exact h
theorem eqIntS_l0 (l : List Int) (hl : l.length ≤ 35184372088832) : ∀ (d n : Nat), n + d = l.length → Ev (fun k => laws_eqIntS.l0 k l l (n : Int)) true := by
  intro d
  induction d with
  | zero =>
    intro n hn
    refine ev_end fun k => ?_
    simp only [laws_eqIntS.l0]
    rw [if_neg (by omega)]
  | succ d ih =>
    intro n hn
    refine Ev.step (fun k => ?_) (ih (n + 1) (by omega))
    simp only [laws_eqIntS.l0]
    rw [if_pos (by omega), if_pos (by omega), if_pos (by omega), if_pos trivial, w64 (by omega) (by omega)]
    rfl
theorem eqIntS (l : List Int) (hl : l.length ≤ 35184372088832) : Ev (fun k => laws_eqIntS.f k l l) true := by
  refine Ev.congr (fun k => ?_) (eqIntS_l0 l hl l.length 0 (by omega))
  unfold laws_eqIntS.f
  rw [if_pos rfl]
  rfl
theorem eqIntSS (l : List (List Int)) (hl : wt l ≤ 1048576) : Ev (fun k => laws_eqIntSS.f k l l) true := by
  have h1 : l.length ≤ wt l := by unfold wt; omega
  unfold laws_eqIntSS.f
  refine ev_pos rfl ?_
  refine ev_eq (all_loop (fun k i => laws_eqIntSS.l0 k l l i) l.length (fun _ => True) ?_ ?_ ?_ l.length 0 (by omega)) (dec_true (fun _ _ _ => trivial))
  · refine ev_succ ?_
    simp only [laws_eqIntSS.l0]
    exact ev_neg (by omega) (Ev.now _)
  · intro n r hn _ h
    refine ev_succ ?_
    have hx : l[n]? = some l[n] := List.getElem?_eq_getElem hn
    have hm := wt_mem (List.mem_of_getElem? hx)
    simp only [laws_eqIntSS.l0, rdL, gd_nat [] hx]
    refine ev_pos (by omega) (ev_pos (by omega) (ev_pos (by omega) (Ev.bind (eqIntS _ (by omega)) (ev_pos rfl ?_))))
    rw [w64 (x := (n : Int) + 1) (by omega) (by omega)]
    exact h
  · intro n hn h
    exact absurd trivial h
theorem szIntS (l : List Int) (a : Int) (h0 : 0 ≤ a) (h1 : a ≤ 1048576) (hl : l.length ≤ maxLen) : laws_szIntS.f l a = some (if a < l.length then -1 else a - l.length) := by
  unfold maxLen at hl
  unfold laws_szIntS.f
  rw [w64 (by omega) (by omega)]
  by_cases h : a < l.length
  · rw [if_pos (by omega), if_pos h]
  · rw [if_neg (by omega), if_neg h]
theorem szIntSS_l0 (l : List (List Int)) (hl : l.length ≤ 1048576) (hm : ∀ x ∈ l, x.length ≤ maxLen) : ∀ (d n : Nat) (a : Int), n + d = l.length → 0 ≤ a → a ≤ 1048576 →
    Ev (fun k => laws_szIntSS.l0 k l a (n : Int)) (if a < ((l.drop n).map List.length).sum then -1 else a - ((l.drop n).map List.length).sum) := by
  intro d
  induction d with
  | zero =>
    intro n a hn h0 h1
    obtain rfl : n = l.length := by omega
    refine ev_succ ?_
    simp only [laws_szIntSS.l0]
    refine ev_neg (by omega) (ev_of ?_)
    rw [List.drop_length, if_neg (by simp; omega)]
    simp
  | succ d ih =>
    intro n a hn h0 h1
    refine ev_succ ?_
    have hx : l[n]? = some l[n] := List.getElem?_eq_getElem (by omega)
    have d1 : l.drop n = l[n] :: l.drop (n + 1) := List.drop_eq_getElem_cons (by omega)
    have hmx := hm _ (List.mem_of_getElem? hx)
    simp only [laws_szIntSS.l0, rdL, gd_nat [] hx, szIntS l[n] a h0 h1 hmx, Option.bind_some]
    refine ev_pos (by omega) (ev_pos (by omega) ?_)
    rw [d1, List.map_cons, List.sum_cons, w64 (x := (n : Int) + 1) (by omega) (by omega)]
    by_cases h : a < l[n].length
    · rw [if_pos h]
      refine ev_pos (by omega) (ev_of ?_)
      rw [if_pos (by omega)]
    · rw [if_neg h]
      refine ev_neg (by omega) (ev_eq (ih (n + 1) (a - l[n].length) (by omega) (by omega) (by omega)) ?_)
      by_cases g : a - (l[n].length : Int) < ((l.drop (n + 1)).map List.length).sum
      · rw [if_pos g, if_pos (by omega)]
      · rw [if_neg g, if_neg (by omega)]
        omega
theorem szIntSS (l : List (List Int)) (a : Int) (h0 : 0 ≤ a) (h1 : a ≤ 1048576) (hl : l.length ≤ maxLen) (hm : ∀ x ∈ l, x.length ≤ maxLen) : Ev (fun k => laws_szIntSS.f k l a) (if a < wt l then -1 else a - wt l) := by
  unfold maxLen at hl
  unfold laws_szIntSS.f wt
  rw [w64 (by omega) (by omega)]
  by_cases h : a < l.length
  · refine ev_pos (by omega) (ev_of ?_)
    rw [if_pos (by omega)]
  · refine ev_neg (by omega) (ev_eq (szIntSS_l0 l (by omega) hm l.length 0 _ (by omega) (by omega) (by omega)) ?_)
    rw [List.drop_zero]
    by_cases g : a - (l.length : Int) < (l.map List.length).sum
    · rw [if_pos g, if_pos (by omega)]
    · rw [if_neg g, if_neg (by omega)]
      omega
theorem szGrid (c b : List (List Int)) (a : Int) (h0 : 0 ≤ a) (h1 : a ≤ 1048576) (hc : c.length ≤ maxLen) (hcm : ∀ x ∈ c, x.length ≤ maxLen) (hb : b.length ≤ maxLen) (hbm : ∀ x ∈ b, x.length ≤ maxLen) :
    Ev (fun k => laws_szGrid.f k c b a) (if a < wt c + wt b then -1 else a - wt c - wt b) := by
  unfold laws_szGrid.f
  refine Ev.bind (szIntSS c a h0 h1 hc hcm) ?_
  by_cases h : a < wt c
  · rw [if_pos h]
    refine ev_pos (by omega) (ev_of ?_)
    rw [if_pos (by omega)]
  · rw [if_neg h]
    refine ev_neg (by omega) (Ev.bind (szIntSS b _ (by omega) (by omega) hb hbm) ?_)
    by_cases g : a - (wt c : Int) < wt b
    · rw [if_pos g]
      refine ev_pos (by omega) (ev_of ?_)
      rw [if_pos (by omega)]
    · rw [if_neg g]
      refine ev_neg (by omega) (ev_of ?_)
      rw [if_neg (by omega)]
theorem toGrid (c b : List (List Int)) (hc : wt c ≤ 1048576) (hb : wt b ≤ 1048576) : Ev (fun k => laws_toGrid.f k c b) (c, b) := by
  unfold laws_toGrid.f
  exact Ev.bind (toIntSS c hc) (Ev.bind (toIntSS b hb) (Ev.now _))
theorem eqGrid (c b : List (List Int)) (hc : wt c ≤ 1048576) (hb : wt b ≤ 1048576) : Ev (fun k => laws_eqGrid.f k c b c b) true := by
  unfold laws_eqGrid.f
  exact Ev.bind (eqIntSS c hc) (ev_pos rfl (Ev.bind (eqIntSS b hb) (ev_pos rfl (Ev.now _))))
def Deci (x : Int) : Prop := -2147483647 ≤ x ∧ x ≤ 2147483647
/-- Cut points that are valid. -/
def CutsP (c : List Int) : Prop := (∀ j : Nat, 0 ≤ j → j < c.length → Deci (rd c (j : Int)) ∧ (0 < j → rd c ((j : Int) - 1) < rd c (j : Int))) ∧ c.length ≤ 7
theorem implWithin (a b c : Int) : impl_within.f a b c = some (decide (b ≤ a ∧ a ≤ c)) := by
  unfold impl_within.f
  by_cases h : b ≤ a
  · rw [if_pos h]; simp [h]
  · rw [if_neg h]; simp [h]
theorem implDec (x : Int) : impl_isDecimal.f x = some (decide (-2147483647 ≤ x ∧ x ≤ 2147483647)) := by
  unfold impl_isDecimal.f
  rw [implWithin]; rfl
theorem index_dec (l : List Int) (hl : l.length ≤ 1048576) : ∀ (d n : Nat), n + d = l.length → ∃ r : Int, Ev (fun k => slices_IndexFunc_int_int.l0 k l (l.length : Int) (n : Int)) r ∧ (0 ≤ r ↔ ∃ j, n ≤ j ∧ j < l.length ∧ ¬ Deci (rd l (j : Int))) := by
  intro d
  induction d with
  | zero =>
    intro n hn
    refine ⟨-1, ev_succ ?_, ⟨fun h => by omega, fun ⟨j, h1, h2, _⟩ => by omega⟩⟩
    simp only [slices_IndexFunc_int_int.l0]
    exact ev_neg (by omega) (Ev.now _)
  | succ d ih =>
    intro n hn
    have hw : wrap64 ((n : Int) + 1) = ((n + 1 : Nat) : Int) := w64 (by omega) (by omega)
    by_cases h : Deci (rd l (n : Int))
    · obtain ⟨r, e, hr⟩ := ih (n + 1) (by omega)
      refine ⟨r, ev_succ ?_, hr.trans ⟨fun ⟨j, h1, h2, h3⟩ => ⟨j, by omega, h2, h3⟩, fun ⟨j, h1, h2, h3⟩ => ⟨j, ?_, h2, h3⟩⟩⟩
      · simp only [slices_IndexFunc_int_int.l0, impl_areDecimals_1.f, implDec, Option.bind_some, hw]
        exact ev_pos (by omega) (ev_pos (by omega) (ev_pos (by omega) (ev_neg (by simpa [Deci] using h) e)))
      · by_cases c : j = n
        · subst c; exact absurd h h3
        · omega
    · refine ⟨(n : Int), ev_succ ?_, ⟨fun _ => ⟨n, by omega, by omega, h⟩, fun _ => by omega⟩⟩
      simp only [slices_IndexFunc_int_int.l0, impl_areDecimals_1.f, implDec, Option.bind_some]
      exact ev_pos (by omega) (ev_pos (by omega) (ev_pos (by omega) (ev_pos (by unfold Deci at h; simp; omega) (Ev.now _))))
theorem implAreDec (l : List Int) (hl : l.length ≤ 1048576) : Ev (fun k => impl_areDecimals.f k l) (dec (∀ j : Nat, j < l.length → Deci (rd l (j : Int)))) := by
  unfold impl_areDecimals.f slices_ContainsFunc_int_int.f slices_IndexFunc_int_int.f
  obtain ⟨r, e, hr⟩ := index_dec l hl l.length 0 (by omega)
  refine Ev.bind (Ev.bind e (Ev.now _)) (ev_of ?_)
  congr 1
  by_cases h : ∀ j : Nat, j < l.length → Deci (rd l (j : Int))
  · rw [dec_true h]
    have : ¬ 0 ≤ r := fun z => by obtain ⟨j, _, h2, h3⟩ := hr.1 z; exact h3 (h j h2)
    simp; omega
  · rw [dec_false h]
    have : 0 ≤ r := hr.2 (Classical.byContradiction fun z => h fun j hj => Classical.byContradiction fun y => z ⟨j, by omega, hj, y⟩)
    simp; omega
theorem implCutsOk (c : List Int) (hl : c.length ≤ 1048576) : Ev (fun k => impl_CutsOk.f k c) (dec (CutsP c)) := by
  unfold impl_CutsOk.f
  have key := all_loop2 (fun k i => impl_CutsOk.l0 k c (i + 1)) (c.length - 1) (fun j => rd c (j : Int) < rd c ((j : Int) + 1)) (c.length ≤ 7 ∧ ∀ j : Nat, j < c.length → Deci (rd c (j : Int))) ?_ ?_ ?_ (c.length - 1) 0 (by omega)
  · refine ev_eq key (dec_congr ⟨fun ⟨h1, h2, h3⟩ => ⟨fun j _ hj => ⟨h3 j hj, fun h0 => ?_⟩, h2⟩, fun ⟨h1, h2⟩ => ⟨fun j _ hj => ?_, h2, fun j hj => (h1 j (by omega) hj).1⟩⟩)
    · have := h1 (j - 1) (by omega) (by omega)
      have e1 : ((j - 1 : Nat) : Int) = (j : Int) - 1 := by omega
      rw [e1] at this
      have e2 : (j : Int) - 1 + 1 = (j : Int) := by omega
      rwa [e2] at this
    · have := (h1 (j + 1) (by omega) (by omega)).2 (by omega)
      have e1 : ((j + 1 : Nat) : Int) - 1 = (j : Int) := by omega
      rw [e1] at this
      exact this
  · refine ev_succ ?_
    simp only [impl_CutsOk.l0]
    refine ev_neg (by omega) ?_
    by_cases h : c.length ≤ 7
    · refine ev_pos (by omega) (Ev.bind (implAreDec c hl) (ev_of ?_))
      congr 1
      exact dec_congr ⟨fun g => ⟨h, g⟩, fun g => g.2⟩
    · refine ev_neg (by omega) (ev_of ?_)
      rw [dec_false (fun g => h g.1)]
  · intro n r hn hp h
    refine ev_succ ?_
    simp only [impl_CutsOk.l0]
    have e1 : (n : Int) + 1 - 1 = (n : Int) := by omega
    have e2 : ((n + 1 : Nat) : Int) + 1 = (n : Int) + 1 + 1 := by omega
    rw [e1, w64 (x := (n : Int)) (by omega) (by omega), w64 (x := (n : Int) + 1 + 1) (by omega) (by omega)]
    rw [e2] at h
    exact ev_pos (by omega) (ev_pos (by omega) (ev_pos (by omega) (ev_pos (by omega) (ev_neg (by omega) h))))
  · intro n hn hp
    refine ev_succ ?_
    simp only [impl_CutsOk.l0]
    have e1 : (n : Int) + 1 - 1 = (n : Int) := by omega
    rw [e1, w64 (x := (n : Int)) (by omega) (by omega)]
    exact ev_pos (by omega) (ev_pos (by omega) (ev_pos (by omega) (ev_pos (by omega) (ev_pos (by omega) (Ev.now _)))))
theorem specIn (a b c : Int) : spec_l1In.f a b c = some (decide (b ≤ a ∧ a ≤ c)) := by
  unfold spec_l1In.f
  by_cases h : b ≤ a
  · rw [if_pos h]; simp [h]
  · rw [if_neg h]; simp [h]
theorem spec6 (x : Int) : spec_l6Value.f x = some (decide (-2147483647 ≤ x ∧ x ≤ 2147483647)) := by
  unfold spec_l6Value.f
  rw [specIn]; rfl
theorem specCutsOk (c : List Int) (hl : c.length ≤ 1048576) : Ev (fun k => spec_CutsOk.f k c) (dec (CutsP c)) := by
  unfold spec_CutsOk.f CutsP
  refine all_loop2 (fun k i => spec_CutsOk.l0 k c i) c.length (fun j => Deci (rd c (j : Int)) ∧ (0 < j → rd c ((j : Int) - 1) < rd c (j : Int))) (c.length ≤ 7) ?_ ?_ ?_ c.length 0 (by omega)
  · refine ev_succ ?_
    simp only [spec_CutsOk.l0]
    refine ev_neg (by omega) (ev_of ?_)
    rw [← dec_eq]
    congr 1
    exact dec_congr (by omega)
  · intro n r hn hp h
    refine ev_succ ?_
    have hw : wrap64 ((n : Int) + 1) = ((n + 1 : Nat) : Int) := w64 (by omega) (by omega)
    have h6 : (decide (-2147483647 ≤ rd c (n : Int) ∧ rd c (n : Int) ≤ 2147483647)) = true := by simpa [Deci] using hp.1
    simp only [spec_CutsOk.l0, spec6, Option.bind_some, hw, h6]
    refine ev_pos (by omega) (ev_pos (by omega) (ev_pos trivial ?_))
    by_cases h0 : 0 < n
    · rw [w64 (x := (n : Int) - 1) (by omega) (by omega)]
      exact ev_pos (by omega) (ev_pos (by omega) (ev_pos (by omega) (ev_neg (by have := hp.2 h0; omega) h)))
    · exact ev_neg (by omega) h
  · intro n hn hp
    refine ev_succ ?_
    simp only [spec_CutsOk.l0, spec6, Option.bind_some]
    refine ev_pos (by omega) (ev_pos (by omega) ?_)
    by_cases h6 : Deci (rd c (n : Int))
    · refine ev_pos (by simpa [Deci] using h6) ?_
      by_cases h0 : 0 < n
      · rw [w64 (x := (n : Int) - 1) (by omega) (by omega)]
        exact ev_pos (by omega) (ev_pos (by omega) (ev_pos (by omega) (ev_pos (by have : ¬ rd c ((n : Int) - 1) < rd c (n : Int) := fun z => hp ⟨h6, fun _ => z⟩; omega) (Ev.now _))))
      · exact absurd ⟨h6, fun z => absurd z h0⟩ hp
    · exact ev_neg (by simpa [Deci] using h6) (Ev.now _)

def rowsIn (b : List (List Int)) : Int := if (b.length : Int) = 0 then 0 else ((b.getD 0 []).length : Int)
theorem specRowsIn (c b : List (List Int)) : spec_RowsIn.f c b = some (rowsIn b) := by
  unfold spec_RowsIn.f rowsIn
  by_cases h : (b.length : Int) = 0
  · rw [if_pos h, if_pos h]
  · rw [if_neg h, if_neg h, if_pos (by omega)]
    rfl
theorem implRowsIn (c b : List (List Int)) : impl_RowsIn.f c b = some (rowsIn b) := specRowsIn c b
def RowP (cuts row : List Int) : Prop := ∀ j : Nat, j < row.length → 0 ≤ rd row (j : Int) ∧ rd row (j : Int) ≤ (cuts.length : Int)
def ColP (c b : List (List Int)) (f : Nat) : Prop := CutsP (c.getD f []) ∧ ((b.getD f []).length : Int) = rowsIn b ∧ RowP (c.getD f []) (b.getD f [])
def GridP (c b : List (List Int)) : Prop := (1 ≤ (c.length : Int) ∧ (c.length : Int) ≤ 4) ∧ (b.length : Int) = c.length ∧ (1 ≤ rowsIn b ∧ rowsIn b ≤ 40) ∧ ∀ f : Nat, 0 ≤ f → f < c.length → ColP c b f
theorem cond_loop (F : Nat → Int → Option Bool) (L : Nat) (p : Nat → Prop) (r : Bool) (hend : Ev (fun k => F k (L : Int)) r)
    (hyes : ∀ (n : Nat) (s : Bool), n < L → p n → Ev (fun k => F k ((n + 1 : Nat) : Int)) s → Ev (fun k => F k (n : Int)) s)
    (hno : ∀ n : Nat, n < L → ¬ p n → Ev (fun k => F k (n : Int)) false) :
    ∀ (d n : Nat), n + d = L → Ev (fun k => F k (n : Int)) (dec (∀ j, n ≤ j → j < L → p j) && r) := by
  intro d
  induction d with
  | zero =>
    intro n hn
    obtain rfl : n = L := by omega
    rw [dec_true (fun j h1 h2 => by omega)]
    simpa using hend
  | succ d ih =>
    intro n hn
    by_cases h : p n
    · refine hyes n _ (by omega) h (ev_eq (ih (n + 1) (by omega)) ?_)
      congr 1
      refine dec_congr ⟨fun g j h1 h2 => ?_, fun g j h1 h2 => g j (by omega) h2⟩
      by_cases e : j = n
      · exact e ▸ h
      · exact g j (by omega) h2
    · refine ev_eq (hno n (by omega) h) ?_
      rw [dec_false (fun g => h (g n (Nat.le_refl _) (by omega)))]
      rfl
theorem colP_step {c b : List (List Int)} {n : Nat} (hn : n < c.length) : (∀ j, n ≤ j → j < c.length → ColP c b j) ↔ ColP c b n ∧ ∀ j, n + 1 ≤ j → j < c.length → ColP c b j := by
  constructor
  · exact fun h => ⟨h n (Nat.le_refl _) hn, fun j h1 h2 => h j (by omega) h2⟩
  · intro ⟨h0, h⟩ j h1 h2
    by_cases e : j = n
    · exact e ▸ h0
    · exact h j (by omega) h2
theorem getD_wt {l : List (List Int)} (h : wt l ≤ 1048576) (n : Nat) : (l.getD n []).length ≤ 1048576 := by
  rw [List.getD_eq_getElem?_getD]
  by_cases hn : n < l.length
  · rw [List.getElem?_eq_getElem hn]
    have := wt_mem (l := l) (x := l[n]) (List.getElem_mem hn)
    simp only [Option.getD_some]
    omega
  · rw [List.getElem?_eq_none (by omega)]
    simp
theorem specGrid_l0 (c b : List (List Int)) (hc : wt c ≤ 1048576) (hb : wt b ≤ 1048576) (he : b.length = c.length) : ∀ (d n : Nat), n + d = c.length → Ev (fun k => spec_GridOk.l0 k (n : Int) c b) (dec (∀ j, n ≤ j → j < c.length → ColP c b j)) := by
  have hlc : c.length ≤ 1048576 := by unfold wt at hc; omega
  intro d
  induction d with
  | zero =>
    intro n hn
    refine ev_succ ?_
    simp only [spec_GridOk.l0]
    refine ev_neg (by omega) (ev_eq (Ev.now _) (dec_true (fun j h1 h2 => by omega)).symm)
  | succ d ih =>
    intro n hn
    have go := ih (n + 1) (by omega)
    have g1 := getD_wt hc n
    have g2 := getD_wt hb n
    refine ev_succ ?_
    simp only [spec_GridOk.l0, rdL, Int.toNat_natCast]
    refine ev_pos (by omega) (ev_pos (by omega) (Ev.bind (specCutsOk _ g1) ?_))
    by_cases k1 : CutsP (c.getD n [])
    case neg =>
      rw [dec_false k1]
      refine ev_neg (by simp) (ev_succ ?_)
      simp only [spec_GridOk.j2]
      exact ev_pos trivial (ev_eq (Ev.now _) (dec_false (fun h => k1 (h n (Nat.le_refl _) (by omega)).1)).symm)
    rw [dec_true k1]
    refine ev_pos rfl (ev_pos (by omega) ?_)
    rw [specRowsIn]
    simp only [Option.bind_some]
    refine ev_succ ?_
    simp only [spec_GridOk.j2]
    by_cases k2 : ((b.getD n []).length : Int) = rowsIn b
    case neg => exact ev_pos (bne_iff_ne.2 k2) (ev_eq (Ev.now _) (dec_false (fun h => k2 (h n (Nat.le_refl _) (by omega)).2.1)).symm)
    refine ev_neg (by rw [k2]; simp) ?_
    refine ev_eq (cond_loop (fun k i => spec_GridOk.l1 k (n : Int) i c b) (b.getD n []).length (fun j => 0 ≤ rd (b.getD n []) (j : Int) ∧ rd (b.getD n []) (j : Int) ≤ ((c.getD n []).length : Int)) (dec (∀ j, n + 1 ≤ j → j < c.length → ColP c b j)) ?_ ?_ ?_ (b.getD n []).length 0 (by omega)) ?_
    · refine ev_succ ?_
      simp only [spec_GridOk.l1, rdL, Int.toNat_natCast]
      rw [w64 (x := (n : Int) + 1) (by omega) (by omega)]
      exact ev_pos (by omega) (ev_pos (by omega) (ev_neg (by omega) go))
    · intro m s hm hp h
      refine ev_succ ?_
      simp only [spec_GridOk.l1, rdL, Int.toNat_natCast, specIn, Option.bind_some]
      refine ev_pos (by omega) (ev_pos (by omega) (ev_pos (by omega) (ev_pos (by omega) (ev_pos (by omega) (ev_pos (decide_eq_true hp) ?_)))))
      rw [w64 (x := (m : Int) + 1) (by omega) (by omega)]
      exact h
    · intro m hm hp
      refine ev_succ ?_
      simp only [spec_GridOk.l1, rdL, Int.toNat_natCast, specIn, Option.bind_some]
      exact ev_pos (by omega) (ev_pos (by omega) (ev_pos (by omega) (ev_pos (by omega) (ev_pos (by omega) (ev_neg (by simpa using hp) (Ev.now _))))))
    · rw [dec_congr (colP_step (c := c) (b := b) (n := n) (by omega))]
      by_cases k3 : RowP (c.getD n []) (b.getD n [])
      · rw [dec_true (fun j _ hj => k3 j hj), Bool.true_and]
        exact dec_congr ⟨fun h => ⟨⟨k1, k2, k3⟩, h⟩, fun h => h.2⟩
      · rw [dec_false (fun h => k3 (fun j hj => h j (by omega) hj)), Bool.false_and]
        exact (dec_false (fun h => k3 h.1.2.2)).symm
theorem implAny (cuts row : List Int) : impl_GridOk_1.f row cuts = some (!dec (RowP cuts row)) := by
  unfold impl_GridOk_1.f
  congr 1
  by_cases h : RowP cuts row
  · rw [dec_true h]
    simp only [Bool.not_true, List.any_eq_false]
    intro x hx
    obtain ⟨j, hj, rfl⟩ := List.getElem_of_mem hx
    have := h j hj
    rw [rd_of (List.getElem?_eq_getElem hj)] at this
    simpa using this
  · rw [dec_false h]
    simp only [Bool.not_false, List.any_eq_true]
    refine Classical.byContradiction fun g => h fun j hj => Classical.byContradiction fun y => g ⟨row[j], List.getElem_mem hj, ?_⟩
    rw [rd_of (List.getElem?_eq_getElem hj)] at y
    rw [decide_eq_false y]
    rfl
theorem implGrid_l0 (c b : List (List Int)) (hc : wt c ≤ 1048576) (hb : wt b ≤ 1048576) (he : b.length = c.length) : ∀ (d n : Nat), n + d = c.length → Ev (fun k => impl_GridOk.l0 k c (c.length : Int) (n : Int) c b) (dec (∀ j, n ≤ j → j < c.length → ColP c b j)) := by
  have hlc : c.length ≤ 1048576 := by unfold wt at hc; omega
  intro d
  induction d with
  | zero =>
    intro n hn
    refine ev_succ ?_
    simp only [impl_GridOk.l0]
    refine ev_neg (by omega) (ev_eq (Ev.now _) (dec_true (fun j h1 h2 => by omega)).symm)
  | succ d ih =>
    intro n hn
    have go := ih (n + 1) (by omega)
    have g1 := getD_wt hc n
    have g2 := getD_wt hb n
    refine ev_succ ?_
    simp only [impl_GridOk.l0, rdL, Int.toNat_natCast, implRowsIn, implAny, Option.bind_some]
    rw [dec_congr (colP_step (c := c) (b := b) (n := n) (by omega))]
    refine ev_pos (by omega) (ev_pos (by omega) (ev_pos (by omega) (Ev.bind (implCutsOk _ g1) ?_)))
    by_cases k1 : CutsP (c.getD n [])
    case neg =>
      rw [dec_false k1]
      exact ev_neg (by simp) (ev_eq (Ev.now _) (dec_false (fun h => k1 h.1.1)).symm)
    rw [dec_true k1]
    refine ev_pos rfl (ev_pos (by omega) ?_)
    by_cases k2 : ((b.getD n []).length : Int) = rowsIn b
    case neg => exact ev_neg k2 (ev_eq (Ev.now _) (dec_false (fun h => k2 h.1.2.1)).symm)
    refine ev_pos k2 ?_
    by_cases k3 : RowP (c.getD n []) (b.getD n [])
    · refine ev_neg (by rw [dec_true k3]; simp) ?_
      rw [w64 (x := (n : Int) + 1) (by omega) (by omega)]
      exact ev_eq go (dec_congr ⟨fun h => ⟨⟨k1, k2, k3⟩, h⟩, fun h => h.2⟩)
    · exact ev_pos (by rw [dec_false k3]; rfl) (ev_eq (Ev.now _) (dec_false (fun h => k3 h.1.2.2)).symm)
theorem specGridOk (c b : List (List Int)) (hc : wt c ≤ 1048576) (hb : wt b ≤ 1048576) : Ev (fun k => spec_GridOk.f k c b) (dec (GridP c b)) := by
  unfold spec_GridOk.f GridP
  simp only [specIn, specRowsIn, Option.bind_some]
  have stop : ∀ r : Bool, r = false → Ev (fun k => spec_GridOk.j0 k true c b) r := by
    rintro _ rfl
    refine ev_succ ?_
    simp only [spec_GridOk.j0]
    exact ev_pos trivial (Ev.now _)
  by_cases k1 : 1 ≤ (c.length : Int) ∧ (c.length : Int) ≤ 4
  case neg => exact ev_neg (by simpa using k1) (stop _ (dec_false (fun h => k1 h.1)))
  refine ev_pos (decide_eq_true k1) ?_
  by_cases k2 : (b.length : Int) = c.length
  case neg => exact ev_neg k2 (stop _ (dec_false (fun h => k2 h.2.1)))
  refine ev_pos k2 ?_
  by_cases k3 : 1 ≤ rowsIn b ∧ rowsIn b ≤ 40
  case neg =>
    rw [decide_eq_false k3]
    exact stop _ (dec_false (fun h => k3 h.2.2.1))
  rw [decide_eq_true k3]
  refine ev_succ ?_
  simp only [spec_GridOk.j0]
  exact ev_neg (by simp) (ev_eq (specGrid_l0 c b hc hb (by omega) c.length 0 (by omega)) (dec_congr ⟨fun h => ⟨k1, k2, k3, h⟩, fun h => h.2.2.2⟩))
theorem implGridOk (c b : List (List Int)) (hc : wt c ≤ 1048576) (hb : wt b ≤ 1048576) : Ev (fun k => impl_GridOk.f k c b) (dec (GridP c b)) := by
  unfold impl_GridOk.f GridP
  simp only [implWithin, implRowsIn, Option.bind_some]
  have stop : ∀ r : Bool, r = false → Ev (fun k => impl_GridOk.j0 k true c b) r := by
    rintro _ rfl
    refine ev_succ ?_
    simp only [impl_GridOk.j0]
    exact ev_pos trivial (Ev.now _)
  by_cases k1 : 1 ≤ (c.length : Int) ∧ (c.length : Int) ≤ 4
  case neg => exact ev_neg (by simpa using k1) (stop _ (dec_false (fun h => k1 h.1)))
  refine ev_pos (decide_eq_true k1) ?_
  by_cases k2 : (b.length : Int) = c.length
  case neg => exact ev_neg k2 (stop _ (dec_false (fun h => k2 h.2.1)))
  refine ev_pos k2 ?_
  by_cases k3 : 1 ≤ rowsIn b ∧ rowsIn b ≤ 40
  case neg =>
    rw [decide_eq_false k3]
    exact stop _ (dec_false (fun h => k3 h.2.2.1))
  rw [decide_eq_true k3]
  refine ev_succ ?_
  simp only [impl_GridOk.j0]
  exact ev_neg (by simp) (ev_eq (implGrid_l0 c b hc hb (by omega) c.length 0 (by omega)) (dec_congr ⟨fun h => ⟨k1, k2, k3, h⟩, fun h => h.2.2.2⟩))
theorem FnExactGridOk (l0_0 : List (List Int)) (l0_1 : List (List Int))
    (w0_0 : l0_0.length ≤ maxLen ∧ ∀ x ∈ l0_0, x.length ≤ maxLen ∧ ∀ y ∈ x, (Lit.int .i64 y).wf = true) (w0_1 : l0_1.length ≤ maxLen ∧ ∀ x ∈ l0_1, x.length ≤ maxLen ∧ ∀ y ∈ x, (Lit.int .i64 y).wf = true) : ∃ k, laws_FnExactGridOk.f k l0_0 l0_1 = some true := by
  refine Ev.rounds ?_
  unfold laws_FnExactGridOk.f
  refine Ev.bind (szGrid l0_0 l0_1 1048576 (by omega) (by omega) w0_0.1 (fun x h => (w0_0.2 x h).1) w0_1.1 (fun x h => (w0_1.2 x h).1)) ?_
  by_cases b0 : (1048576 : Int) < wt l0_0 + wt l0_1
  · rw [if_pos b0]
    exact ev_pos (by omega) (Ev.now _)
  rw [if_neg b0]
  refine ev_neg (by omega) ?_
  have t := toGrid l0_0 l0_1 (by omega) (by omega)
  refine Ev.bind t (Ev.bind (specGridOk l0_0 l0_1 (by omega) (by omega)) (Ev.bind t (Ev.bind (implGridOk l0_0 l0_1 (by omega) (by omega)) (ev_neg (by simp) ?_))))
  exact Ev.bind t (Ev.bind (eqGrid l0_0 l0_1 (by omega) (by omega)) (ev_pos rfl (Ev.now _)))

end Go.Proofs.Ytiacoiiapmfaeaa.Pure
