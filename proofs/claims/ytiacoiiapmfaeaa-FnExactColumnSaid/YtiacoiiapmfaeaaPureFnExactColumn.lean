/- impl.Column returns what spec.Column returns, new memory each time, and leaves its table as it was, for all tables and every int. Conditions: none but the row's own.
-/
import Derived.Test.YtiacoiiapmfaeaaQFnExactColumnx4
set_option linter.unusedVariables false
set_option linter.unusedSimpArgs false
namespace Go.Proofs.Ytiacoiiapmfaeaa.Pure
open Go.RowKit Go.Proofs.Ytiacoiiapmfaeaa.QFnExactColumn Go.Proofs.YtiacoiiapmfaeaaW.PrintWords Go.Proofs.YtiacoiiapmfaeaaW.PrintLast Go.Proofs.YtiacoiiapmfaeaaW.PrintMore

theorem w64 {x : Int} (h1 : -9223372036854775808 ≤ x) (h2 : x ≤ 9223372036854775807) : wrap64 x = x := by unfold wrap64; omega
theorem i64_wf {x : Int} (h : (Lit.int .i64 x).wf = true) : -9223372036854775808 ≤ x ∧ x ≤ 9223372036854775807 := by
  simpa [Lit.wf, IntKind.min, IntKind.max, IntKind.signed, IntKind.bits] using h
theorem u8_wf {x : Int} (h : (Lit.int .u8 x).wf = true) : 0 ≤ x ∧ x ≤ 255 := by
  simpa [Lit.wf, IntKind.min, IntKind.max, IntKind.signed, IntKind.bits] using h
theorem rd_eq {xs : List Int} {i : Int} (h0 : 0 ≤ i) (h : i < (xs.length : Int)) : xs[i.toNat]? = some (rd xs i) := by
  unfold rd
  rw [List.getD_eq_getElem?_getD, List.getElem?_eq_getElem (by omega)]
  rfl
theorem rd_mem {xs : List Int} {i : Int} (h0 : 0 ≤ i) (h : i < (xs.length : Int)) : rd xs i ∈ xs := List.mem_of_getElem? (rd_eq h0 h)
theorem rd_of {xs : List Int} {n : Nat} {v : Int} (h : xs[n]? = some v) : rd xs (n : Int) = v := by
  unfold rd
  rw [List.getD_eq_getElem?_getD, Int.toNat_natCast, h]
  rfl
theorem ev_of {α : Type} {r : α} {p : Option α} (h : p = some r) : Ev (fun _ => p) r := ⟨0, fun _ _ => h⟩
theorem ev_end {α : Type} {g : Nat → Option α} {r : α} (h : ∀ k, g (k + 1) = some r) : Ev g r := Ev.step (f := fun _ => some r) h (Ev.now r)
theorem ev_pos {α : Type} {c : Prop} [Decidable c] {f g : Nat → Option α} {r : α} (hc : c) (h : Ev f r) : Ev (fun k => if c then f k else g k) r := Ev.congr (fun _ => if_pos hc) h
theorem ev_neg {α : Type} {c : Prop} [Decidable c] {f g : Nat → Option α} {r : α} (hc : ¬ c) (h : Ev g r) : Ev (fun k => if c then f k else g k) r := Ev.congr (fun _ => if_neg hc) h
theorem rd_drop {xs : List Int} {n : Nat} (h : n < xs.length) : xs.drop n = rd xs (n : Int) :: xs.drop (n + 1) := by
  rw [List.drop_eq_getElem_cons h]
  congr 1
  unfold rd
  rw [List.getD_eq_getElem?_getD, Int.toNat_natCast, List.getElem?_eq_getElem h]
  rfl
noncomputable def dec (p : Prop) : Bool := @decide p (Classical.propDecidable p)
theorem dec_true {p : Prop} (h : p) : dec p = true := @decide_eq_true p (Classical.propDecidable p) h
theorem dec_false {p : Prop} (h : ¬ p) : dec p = false := @decide_eq_false p (Classical.propDecidable p) h
theorem dec_iff {p : Prop} : dec p = true ↔ p := @decide_eq_true_iff p (Classical.propDecidable p)
theorem dec_congr {p q : Prop} (h : p ↔ q) : dec p = dec q := by rw [propext h]
theorem dec_eq {p : Prop} [Decidable p] : dec p = decide p := by
  by_cases h : p
  · rw [dec_true h, decide_eq_true h]
  · rw [dec_false h, decide_eq_false h]
theorem ev_succ {α : Type} {g : Nat → Option α} {r : α} (h : Ev (fun k => g (k + 1)) r) : Ev g r := by
  obtain ⟨K, h⟩ := h
  refine ⟨K + 1, fun n hn => ?_⟩
  obtain ⟨m, rfl⟩ : ∃ m, n = m + 1 := ⟨n - 1, by omega⟩
  exact h m (by omega)
theorem ev_eq {α : Type} {g : Nat → Option α} {r r' : α} (h : Ev g r) (e : r = r') : Ev g r' := e ▸ h
theorem gd_eq {α : Type} (z : α) {xs : List α} {i : Int} (h0 : 0 ≤ i) (h : i < (xs.length : Int)) : xs[i.toNat]? = some (xs.getD i.toNat z) := by
  rw [List.getD_eq_getElem?_getD, List.getElem?_eq_getElem (by omega)]
  rfl
theorem gd_nat {α : Type} (z : α) {xs : List α} {n : Nat} {v : α} (h : xs[n]? = some v) : xs.getD ((n : Int)).toNat z = v := by
  rw [List.getD_eq_getElem?_getD, Int.toNat_natCast, h]
  rfl
theorem gd_drop {α : Type} (z : α) {xs : List α} {n : Nat} (h : n < xs.length) : xs.drop n = xs.getD ((n : Int)).toNat z :: xs.drop (n + 1) := by
  rw [List.drop_eq_getElem_cons h]
  congr 1
  exact (gd_nat z (List.getElem?_eq_getElem h)).symm
/-- A loop that copies: place after place is set. -/
theorem copy_loop {α β : Type} (F : Nat → List β → Int → Option (List β)) (l : List α) (g : α → β)
    (hend : ∀ acc : List β, acc.length = l.length → Ev (fun k => F k acc (l.length : Int)) acc)
    (hstep : ∀ (acc : List β) (n : Nat) (x : α) (r : List β), n < l.length → acc.length = l.length → l[n]? = some x → Ev (fun k => F k (acc.set n (g x)) ((n + 1 : Nat) : Int)) r → Ev (fun k => F k acc (n : Int)) r) :
    ∀ (d n : Nat) (acc : List β), n + d = l.length → acc.length = l.length → (∀ j, j < n → acc[j]? = (l.map g)[j]?) → Ev (fun k => F k acc (n : Int)) (l.map g) := by
  intro d
  induction d with
  | zero =>
    intro n acc hn ha hp
    obtain rfl : n = l.length := by omega
    refine ev_eq (hend acc ha) (List.ext_getElem? fun j => ?_)
    by_cases h : j < l.length
    · exact hp j h
    · rw [List.getElem?_eq_none (by omega), List.getElem?_eq_none (by simp; omega)]
  | succ d ih =>
    intro n acc hn ha hp
    have hx : l[n]? = some l[n] := List.getElem?_eq_getElem (by omega)
    refine hstep acc n l[n] _ (by omega) ha hx (ih (n + 1) _ (by omega) (by simpa using ha) ?_)
    intro j hj
    rw [List.getElem?_set]
    by_cases h : n = j
    · subst h
      rw [if_pos rfl, if_pos (by omega), List.getElem?_map, hx]
      rfl
    · rw [if_neg h]
      exact hp j (by omega)
/-- A loop that tests place after place. -/
theorem all_loop (F : Nat → Int → Option Bool) (L : Nat) (p : Nat → Prop) (hend : Ev (fun k => F k (L : Int)) true)
    (hyes : ∀ (n : Nat) (r : Bool), n < L → p n → Ev (fun k => F k ((n + 1 : Nat) : Int)) r → Ev (fun k => F k (n : Int)) r)
    (hno : ∀ n : Nat, n < L → ¬ p n → Ev (fun k => F k (n : Int)) false) :
    ∀ (d n : Nat), n + d = L → Ev (fun k => F k (n : Int)) (dec (∀ j, n ≤ j → j < L → p j)) := by
  intro d
  induction d with
  | zero =>
    intro n hn
    obtain rfl : n = L := by omega
    exact ev_eq hend (dec_true (fun j h1 h2 => by omega)).symm
  | succ d ih =>
    intro n hn
    by_cases h : p n
    · refine hyes n _ (by omega) h (ev_eq (ih (n + 1) (by omega)) (dec_congr ⟨fun g j h1 h2 => ?_, fun g j h1 h2 => g j (by omega) h2⟩))
      by_cases e : j = n
      · exact e ▸ h
      · exact g j (by omega) h2
    · exact ev_eq (hno n (by omega) h) (dec_false (fun g => h (g n (Nat.le_refl _) (by omega)))).symm
/-- A loop that goes round L times over a state. -/
theorem fold_loop {σ ρ : Type} (F : Nat → σ → Int → Option ρ) (L : Nat) (S : Nat → σ) (r : ρ) (hend : Ev (fun k => F k (S L) (L : Int)) r)
    (hstep : ∀ n : Nat, n < L → Ev (fun k => F k (S (n + 1)) ((n + 1 : Nat) : Int)) r → Ev (fun k => F k (S n) (n : Int)) r) :
    ∀ (d n : Nat), n + d = L → Ev (fun k => F k (S n) (n : Int)) r := by
  intro d
  induction d with
  | zero =>
    intro n hn
    obtain rfl : n = L := by omega
    exact hend
  | succ d ih =>
    intro n hn
    exact hstep n (by omega) (ih (n + 1) (by omega))
theorem set_mid {α : Type} (a b : List α) (x v : α) {n : Nat} (h : a.length = n) : (a ++ x :: b).set n v = a ++ v :: b := by
  subst h
  rw [List.set_append_right _ _ (Nat.le_refl _), Nat.sub_self]
  rfl
theorem get_mid {α : Type} (a b : List α) (x : α) {n : Nat} (h : a.length = n) : (a ++ x :: b)[n]? = some x := by
  subst h
  rw [List.getElem?_append_right (Nat.le_refl _), Nat.sub_self]
  rfl
/-- A loop that tests place after place, and one thing more at its end. -/
theorem all_loop2 (F : Nat → Int → Option Bool) (L : Nat) (p : Nat → Prop) (E : Prop) (hend : Ev (fun k => F k (L : Int)) (dec E))
    (hyes : ∀ (n : Nat) (r : Bool), n < L → p n → Ev (fun k => F k ((n + 1 : Nat) : Int)) r → Ev (fun k => F k (n : Int)) r)
    (hno : ∀ n : Nat, n < L → ¬ p n → Ev (fun k => F k (n : Int)) false) :
    ∀ (d n : Nat), n + d = L → Ev (fun k => F k (n : Int)) (dec ((∀ j, n ≤ j → j < L → p j) ∧ E)) := by
  intro d
  induction d with
  | zero =>
    intro n hn
    obtain rfl : n = L := by omega
    exact ev_eq hend (dec_congr ⟨fun h => ⟨fun j h1 h2 => by omega, h⟩, fun h => h.2⟩)
  | succ d ih =>
    intro n hn
    by_cases h : p n
    · refine hyes n _ (by omega) h (ev_eq (ih (n + 1) (by omega)) (dec_congr ⟨fun g => ⟨fun j h1 h2 => ?_, g.2⟩, fun g => ⟨fun j h1 h2 => g.1 j (by omega) h2, g.2⟩⟩))
      by_cases e : j = n
      · exact e ▸ h
      · exact g.1 j (by omega) h2
    · exact ev_eq (hno n (by omega) h) (dec_false (fun g => h (g.1 n (Nat.le_refl _) (by omega)))).symm
/-- Lists of one length whose places stand in R to each other. -/
def SameR {α : Type} (z : α) (R : α → α → Prop) (l m : List α) : Prop := l.length = m.length ∧ ∀ j : Nat, 0 ≤ j → j < l.length → R (l.getD j z) (m.getD j z)
theorem same_ev {α : Type} (z : α) (R : α → α → Prop) (l m : List α) (h0 : l.length = m.length) (F : Nat → Int → Option Bool) (hend : Ev (fun k => F k (l.length : Int)) true)
    (hyes : ∀ (n : Nat) (r : Bool), n < l.length → R (l.getD n z) (m.getD n z) → Ev (fun k => F k ((n + 1 : Nat) : Int)) r → Ev (fun k => F k (n : Int)) r)
    (hno : ∀ n : Nat, n < l.length → ¬ R (l.getD n z) (m.getD n z) → Ev (fun k => F k (n : Int)) false) : Ev (fun k => F k 0) (dec (SameR z R l m)) :=
  ev_eq (all_loop F l.length (fun j => R (l.getD j z) (m.getD j z)) hend hyes hno l.length 0 (by omega)) (dec_congr ⟨fun h => ⟨h0, h⟩, fun h => h.2⟩)
theorem rdn (xs : List Int) (n : Nat) : rd xs (n : Int) = xs.getD n 0 := rfl
theorem rdOfn {α : Type} (z : α) (xs : List α) (n : Nat) : rdOf z xs (n : Int) = xs.getD n z := rfl
/-- How much a list of texts holds. -/
def ws (l : List ByteArray) : Nat := l.length + (l.map ByteArray.size).sum
theorem ws_mem {l : List ByteArray} {x : ByteArray} (h : x ∈ l) : x.size ≤ ws l := by
  unfold ws
  induction l with
  | nil => simp at h
  | cons y l ih =>
    simp only [List.mem_cons] at h
    simp only [List.map_cons, List.sum_cons, List.length_cons]
    rcases h with rfl | h
    · omega
    · have := ih h; omega
theorem szStringS_l0 (l : List ByteArray) (hl : l.length ≤ 1048576) (hm : ∀ x ∈ l, x.size ≤ maxLen) : ∀ (d n : Nat) (a : Int), n + d = l.length → 0 ≤ a → a ≤ 1048576 →
    Ev (fun k => laws_szStringS.l0 k l a (n : Int)) (if a < ((l.drop n).map ByteArray.size).sum then -1 else a - ((l.drop n).map ByteArray.size).sum) := by
  intro d
  induction d with
  | zero =>
    intro n a hn h0 h1
    obtain rfl : n = l.length := by omega
    refine ev_succ ?_
    simp only [laws_szStringS.l0]
    refine ev_neg (by omega) (ev_of ?_)
    rw [List.drop_length, if_neg (by simp; omega)]
    simp
  | succ d ih =>
    intro n a hn h0 h1
    refine ev_succ ?_
    have hx : l[n]? = some l[n] := List.getElem?_eq_getElem (by omega)
    have d1 : l.drop n = l[n] :: l.drop (n + 1) := List.drop_eq_getElem_cons (by omega)
    have hmx := hm _ (List.mem_of_getElem? hx)
    unfold maxLen at hmx
    simp only [laws_szStringS.l0, rdOf, gd_nat ByteArray.empty hx]
    refine ev_pos (by omega) (ev_pos (by omega) ?_)
    rw [d1, List.map_cons, List.sum_cons, w64 (x := (n : Int) + 1) (by omega) (by omega), w64 (x := a - (l[n].size : Int)) (by omega) (by omega)]
    by_cases h : a < l[n].size
    · refine ev_pos (by omega) (ev_of ?_)
      rw [if_pos (by omega)]
    · refine ev_neg (by omega) (ev_eq (ih (n + 1) (a - l[n].size) (by omega) (by omega) (by omega)) ?_)
      by_cases g : a - (l[n].size : Int) < ((l.drop (n + 1)).map ByteArray.size).sum
      · rw [if_pos g, if_pos (by omega)]
      · rw [if_neg g, if_neg (by omega)]
        omega
theorem szStringS (l : List ByteArray) (a : Int) (h0 : 0 ≤ a) (h1 : a ≤ 1048576) (hl : l.length ≤ maxLen) (hm : ∀ x ∈ l, x.size ≤ maxLen) : Ev (fun k => laws_szStringS.f k l a) (if a < ws l then -1 else a - ws l) := by
  unfold maxLen at hl
  unfold laws_szStringS.f ws
  rw [w64 (by omega) (by omega)]
  by_cases h : a < l.length
  · refine ev_pos (by omega) (ev_of ?_)
    rw [if_pos (by omega)]
  · refine ev_neg (by omega) (ev_eq (szStringS_l0 l (by omega) hm l.length 0 _ (by omega) (by omega) (by omega)) ?_)
    rw [List.drop_zero]
    by_cases g : a - (l.length : Int) < (l.map ByteArray.size).sum
    · rw [if_pos g, if_pos (by omega)]
    · rw [if_neg g, if_neg (by omega)]
      omega
theorem toStringS (l : List ByteArray) (hl : l.length ≤ 17592186044416) : Ev (fun k => laws_toStringS.f k l) l := by
  unfold laws_toStringS.f
  refine ev_pos (by omega) (ev_pos (by omega) ?_)
  refine ev_eq (copy_loop (fun k acc i => laws_toStringS.l0 k l acc i) l id ?_ ?_ l.length 0 _ (by omega) (by simp) (fun j h => by omega)) (by simp)
  · intro acc ha
    refine ev_succ ?_
    simp only [laws_toStringS.l0]
    exact ev_neg (by omega) (Ev.now _)
  · intro acc n x r hn ha hx h
    refine ev_succ ?_
    simp only [laws_toStringS.l0, rdOf, gd_nat ByteArray.empty hx]
    refine ev_pos (by omega) (ev_pos (by omega) (ev_pos (by omega) ?_))
    rw [w64 (x := (n : Int) + 1) (by omega) (by omega)]
    exact h
theorem eqStringS (l : List ByteArray) (hl : l.length ≤ 17592186044416) : Ev (fun k => laws_eqStringS.f k l l) true := by
  unfold laws_eqStringS.f
  refine ev_pos rfl ?_
  refine ev_eq (all_loop (fun k i => laws_eqStringS.l0 k l l i) l.length (fun _ => True) ?_ ?_ ?_ l.length 0 (by omega)) (dec_true (fun _ _ _ => trivial))
  · refine ev_succ ?_
    simp only [laws_eqStringS.l0]
    exact ev_neg (by omega) (Ev.now _)
  · intro n r hn _ h
    refine ev_succ ?_
    simp only [laws_eqStringS.l0]
    refine ev_pos (by omega) (ev_pos (by omega) (ev_pos (by omega) (ev_pos trivial ?_)))
    rw [w64 (x := (n : Int) + 1) (by omega) (by omega)]
    exact h
  · intro n hn h
    exact absurd trivial h
theorem rdL (xs : List (List Int)) (i : Int) : rd_L1 xs i = xs.getD i.toNat [] := rfl
/-- How much a list of lists holds. -/
def wt (l : List (List Int)) : Nat := l.length + (l.map List.length).sum
theorem wt_mem {l : List (List Int)} {x : List Int} (h : x ∈ l) : x.length ≤ wt l := by
  unfold wt
  induction l with
  | nil => simp at h
  | cons y l ih =>
    simp only [List.mem_cons] at h
    simp only [List.map_cons, List.sum_cons, List.length_cons]
    rcases h with rfl | h
    · omega
    · have := ih h; omega
theorem toIntS_l0 (l : List Int) (hl : l.length ≤ 35184372088832) : ∀ (d n : Nat) (acc : List Int), n + d = l.length → acc.length = l.length → (∀ j, j < n → acc[j]? = l[j]?) → Ev (fun k => laws_toIntS.l0 k l acc (n : Int)) l := by
  intro d
  induction d with
  | zero =>
    intro n acc hn ha hp
    refine ev_end fun k => ?_
    simp only [laws_toIntS.l0]
    rw [if_neg (by omega)]
    congr 1
    exact List.ext_getElem? fun j => by
      by_cases h : j < n
      · exact hp j h
      · rw [List.getElem?_eq_none (by omega), List.getElem?_eq_none (by omega)]
  | succ d ih =>
    intro n acc hn ha hp
    refine Ev.step (fun k => ?_) (ih (n + 1) (acc.set n (rd l n)) (by omega) (by simpa using ha) ?_)
    · simp only [laws_toIntS.l0]
      rw [if_pos (by omega), if_pos (by omega), if_pos (by omega), w64 (by omega) (by omega)]
      rfl
    intro j hj
    rw [List.getElem?_set]
    by_cases h : j = n
    · subst h
      rw [if_pos (by omega), if_pos (by omega), ← rd_eq (by omega) (by omega)]
      simp
    · rw [if_neg (by omega)]
      exact hp j (by omega)
theorem toIntS (l : List Int) (hl : l.length ≤ 35184372088832) : Ev (fun k => laws_toIntS.f k l) l := by
  refine Ev.congr (fun k => ?_) (toIntS_l0 l hl l.length 0 (List.replicate l.length 0) (by omega) (by simp) (fun j h => by omega))
  unfold laws_toIntS.f
  rw [if_pos (by omega), if_pos (by omega)]
  rfl
theorem toIntSS (l : List (List Int)) (hl : wt l ≤ 1048576) : Ev (fun k => laws_toIntSS.f k l) l := by
  have h1 : l.length ≤ wt l := by unfold wt; omega
  unfold laws_toIntSS.f
  refine ev_pos (by omega) (ev_pos (by omega) ?_)
  have key := copy_loop (fun k acc i => laws_toIntSS.l0 k l acc i) l (fun x => x) ?_ ?_ l.length 0 (List.replicate (l.length : Int).toNat []) (by omega) (by simp) (fun j h => by omega)
  · simpa using key
  · intro acc ha
    refine ev_succ ?_
    simp only [laws_toIntSS.l0]
    exact ev_neg (by omega) (Ev.now _)
  · intro acc n x r hn ha hx h
    refine ev_succ ?_
    have hm := wt_mem (List.mem_of_getElem? hx)
    simp only [laws_toIntSS.l0, rdL, gd_nat [] hx, Option.bind_some]
    refine ev_pos (by omega) (ev_pos (by omega) (Ev.bind (toIntS x (by omega)) (ev_pos (by omega) ?_)))
    rw [w64 (x := (n : Int) + 1) (by omega) (by omega)]
    exact h
theorem eqIntS_l0 (l : List Int) (hl : l.length ≤ 35184372088832) : ∀ (d n : Nat), n + d = l.length → Ev (fun k => laws_eqIntS.l0 k l l (n : Int)) true := by
  intro d
  induction d with
  | zero =>
    intro n hn
    refine ev_end fun k => ?_
    simp only [laws_eqIntS.l0]
    rw [if_neg (by omega)]
  | succ d ih =>
    intro n hn
    refine Ev.step (fun k => ?_) (ih (n + 1) (by omega))
    simp only [laws_eqIntS.l0]
    rw [if_pos (by omega), if_pos (by omega), if_pos (by omega), if_pos trivial, w64 (by omega) (by omega)]
    rfl
theorem eqIntS (l : List Int) (hl : l.length ≤ 35184372088832) : Ev (fun k => laws_eqIntS.f k l l) true := by
  refine Ev.congr (fun k => ?_) (eqIntS_l0 l hl l.length 0 (by omega))
  unfold laws_eqIntS.f
  rw [if_pos rfl]
  rfl
theorem eqIntSS (l : List (List Int)) (hl : wt l ≤ 1048576) : Ev (fun k => laws_eqIntSS.f k l l) true := by
  have h1 : l.length ≤ wt l := by unfold wt; omega
  unfold laws_eqIntSS.f
  refine ev_pos rfl ?_
  refine ev_eq (all_loop (fun k i => laws_eqIntSS.l0 k l l i) l.length (fun _ => True) ?_ ?_ ?_ l.length 0 (by omega)) (dec_true (fun _ _ _ => trivial))
  · refine ev_succ ?_
    simp only [laws_eqIntSS.l0]
    exact ev_neg (by omega) (Ev.now _)
  · intro n r hn _ h
    refine ev_succ ?_
    have hx : l[n]? = some l[n] := List.getElem?_eq_getElem hn
    have hm := wt_mem (List.mem_of_getElem? hx)
    simp only [laws_eqIntSS.l0, rdL, gd_nat [] hx]
    refine ev_pos (by omega) (ev_pos (by omega) (ev_pos (by omega) (Ev.bind (eqIntS _ (by omega)) (ev_pos rfl ?_))))
    rw [w64 (x := (n : Int) + 1) (by omega) (by omega)]
    exact h
  · intro n hn h
    exact absurd trivial h
theorem szIntS (l : List Int) (a : Int) (h0 : 0 ≤ a) (h1 : a ≤ 1048576) (hl : l.length ≤ maxLen) : laws_szIntS.f l a = some (if a < l.length then -1 else a - l.length) := by
  unfold maxLen at hl
  unfold laws_szIntS.f
  rw [w64 (by omega) (by omega)]
  by_cases h : a < l.length
  · rw [if_pos (by omega), if_pos h]
  · rw [if_neg (by omega), if_neg h]
theorem szIntSS_l0 (l : List (List Int)) (hl : l.length ≤ 1048576) (hm : ∀ x ∈ l, x.length ≤ maxLen) : ∀ (d n : Nat) (a : Int), n + d = l.length → 0 ≤ a → a ≤ 1048576 →
    Ev (fun k => laws_szIntSS.l0 k l a (n : Int)) (if a < ((l.drop n).map List.length).sum then -1 else a - ((l.drop n).map List.length).sum) := by
  intro d
  induction d with
  | zero =>
    intro n a hn h0 h1
    obtain rfl : n = l.length := by omega
    refine ev_succ ?_
    simp only [laws_szIntSS.l0]
    refine ev_neg (by omega) (ev_of ?_)
    rw [List.drop_length, if_neg (by simp; omega)]
    simp
  | succ d ih =>
    intro n a hn h0 h1
    refine ev_succ ?_
    have hx : l[n]? = some l[n] := List.getElem?_eq_getElem (by omega)
    have d1 : l.drop n = l[n] :: l.drop (n + 1) := List.drop_eq_getElem_cons (by omega)
    have hmx := hm _ (List.mem_of_getElem? hx)
    simp only [laws_szIntSS.l0, rdL, gd_nat [] hx, szIntS l[n] a h0 h1 hmx, Option.bind_some]
    refine ev_pos (by omega) (ev_pos (by omega) ?_)
    rw [d1, List.map_cons, List.sum_cons, w64 (x := (n : Int) + 1) (by omega) (by omega)]
    by_cases h : a < l[n].length
    · rw [if_pos h]
      refine ev_pos (by omega) (ev_of ?_)
      rw [if_pos (by omega)]
    · rw [if_neg h]
      refine ev_neg (by omega) (ev_eq (ih (n + 1) (a - l[n].length) (by omega) (by omega) (by omega)) ?_)
      by_cases g : a - (l[n].length : Int) < ((l.drop (n + 1)).map List.length).sum
      · rw [if_pos g, if_pos (by omega)]
      · rw [if_neg g, if_neg (by omega)]
        omega
theorem szIntSS (l : List (List Int)) (a : Int) (h0 : 0 ≤ a) (h1 : a ≤ 1048576) (hl : l.length ≤ maxLen) (hm : ∀ x ∈ l, x.length ≤ maxLen) : Ev (fun k => laws_szIntSS.f k l a) (if a < wt l then -1 else a - wt l) := by
  unfold maxLen at hl
  unfold laws_szIntSS.f wt
  rw [w64 (by omega) (by omega)]
  by_cases h : a < l.length
  · refine ev_pos (by omega) (ev_of ?_)
    rw [if_pos (by omega)]
  · refine ev_neg (by omega) (ev_eq (szIntSS_l0 l (by omega) hm l.length 0 _ (by omega) (by omega) (by omega)) ?_)
    rw [List.drop_zero]
    by_cases g : a - (l.length : Int) < (l.map List.length).sum
    · rw [if_pos g, if_pos (by omega)]
    · rw [if_neg g, if_neg (by omega)]
      omega
theorem szTable (a : List ByteArray) (t : ByteArray) (b : List (List Int)) (c : List Int) (n : Int) (h0 : 0 ≤ n) (h1 : n ≤ 1048576) (ha : a.length ≤ maxLen) (ham : ∀ x ∈ a, x.size ≤ maxLen) (ht : t.size ≤ maxLen) (hb : b.length ≤ maxLen) (hbm : ∀ x ∈ b, x.length ≤ maxLen) (hc : c.length ≤ maxLen) :
    Ev (fun k => laws_szTable.f k a t b c n) (if n < ws a + t.size + wt b + c.length then -1 else n - ws a - t.size - wt b - c.length) := by
  unfold laws_szTable.f
  refine Ev.bind (szStringS a n h0 h1 ha ham) ?_
  unfold maxLen at ht
  by_cases h : n < ws a
  · rw [if_pos h]
    refine ev_pos (by omega) (ev_of ?_)
    rw [if_pos (by omega)]
  rw [if_neg h, w64 (x := n - (ws a : Int) - (t.size : Int)) (by omega) (by omega)]
  refine ev_neg (by omega) ?_
  by_cases g : n - (ws a : Int) < t.size
  · refine ev_pos (by omega) (ev_of ?_)
    rw [if_pos (by omega)]
  refine ev_neg (by omega) (Ev.bind (szIntSS b _ (by omega) (by omega) hb hbm) ?_)
  by_cases g2 : n - (ws a : Int) - (t.size : Int) < wt b
  · rw [if_pos g2]
    refine ev_pos (by omega) (ev_of ?_)
    rw [if_pos (by omega)]
  rw [if_neg g2, szIntS c _ (by omega) (by omega) hc]
  simp only [Option.bind_some]
  refine ev_neg (by omega) ?_
  by_cases g3 : n - (ws a : Int) - (t.size : Int) - (wt b : Int) < c.length
  · rw [if_pos g3]
    refine ev_pos (by omega) (ev_of ?_)
    rw [if_pos (by omega)]
  · rw [if_neg g3]
    refine ev_neg (by omega) (ev_of ?_)
    rw [if_neg (by omega)]
theorem toTable (a : List ByteArray) (t : ByteArray) (b : List (List Int)) (c : List Int) (ha : a.length ≤ 1048576) (hb : wt b ≤ 1048576) (hc : c.length ≤ 1048576) : Ev (fun k => laws_toTable.f k a t b c) (a, t, b, c) := by
  unfold laws_toTable.f
  exact Ev.bind (toStringS a (by omega)) (Ev.bind (toIntSS b hb) (Ev.bind (toIntS c (by omega)) (Ev.now _)))
theorem eqTable (a : List ByteArray) (t : ByteArray) (b : List (List Int)) (c : List Int) (ha : a.length ≤ 1048576) (hb : wt b ≤ 1048576) (hc : c.length ≤ 1048576) : Ev (fun k => laws_eqTable.f k a t b c a t b c) true := by
  unfold laws_eqTable.f
  exact Ev.bind (eqStringS a (by omega)) (ev_pos rfl (ev_pos rfl (Ev.bind (eqIntSS b hb) (ev_pos rfl (Ev.bind (eqIntS c (by omega)) (ev_pos rfl (Ev.now _)))))))
/-- The numbers from m on, n of them. -/
def marked (m : Int) : Nat → List Int
  | 0 => []
  | n + 1 => m :: marked (m + 1) n
theorem marked_length (m : Int) (n : Nat) : (marked m n).length = n := by
  induction n generalizing m with
  | zero => rfl
  | succ n ih => simp [marked, ih]
theorem marked_get (m : Int) (n j : Nat) (h : j < n) : (marked m n)[j]? = some (m + (j : Int)) := by
  induction n generalizing m j with
  | zero => omega
  | succ n ih =>
    cases j with
    | zero => simp [marked]
    | succ j =>
      simp only [marked, List.getElem?_cons_succ]
      rw [ih (m + 1) j (by omega)]
      congr 1
      omega
theorem marked_snoc (m : Int) (n : Nat) : marked m (n + 1) = marked m n ++ [m + (n : Int)] := by
  induction n generalizing m with
  | zero => simp [marked]
  | succ n ih =>
    rw [marked, ih (m + 1)]
    simp only [marked, List.cons_append, List.cons.injEq, true_and, List.append_cancel_left_eq, and_true]
    omega
theorem rd_marked {m : Int} {n : Nat} {j : Int} (h0 : 0 ≤ j) (h : j < (n : Int)) : rd (marked m n) j = m + j := by
  obtain ⟨i, rfl⟩ := Int.eq_ofNat_of_zero_le h0
  exact rd_of (marked_get m n i (by omega))
theorem markIntS_l0 (m : Int) (hm : 0 ≤ m) : ∀ (d n : Nat) (x : List Int), n + d = x.length → m + x.length ≤ 35184372088832 → (∀ j : Nat, j < n → x[j]? = some (m + (j : Int))) →
    Ev (fun k => laws_markIntS.l0 k x (m + (n : Int)) (n : Int)) (m + (x.length : Int), marked m x.length) := by
  intro d
  induction d with
  | zero =>
    intro n x hn hl hp
    refine ev_end fun k => ?_
    simp only [laws_markIntS.l0]
    rw [if_neg (by omega)]
    obtain rfl : n = x.length := by omega
    congr 2
    exact List.ext_getElem? fun j => by
      by_cases h : j < x.length
      · rw [hp j h, marked_get _ _ _ h]
      · rw [List.getElem?_eq_none (by omega), List.getElem?_eq_none (by rw [marked_length]; omega)]
  | succ d ih =>
    intro n x hn hl hp
    have hlen : (x.set n (m + (n : Int))).length = x.length := by simp
    have := ih (n + 1) (x.set n (m + (n : Int))) (by rw [hlen]; omega) (by rw [hlen]; omega) (by
      intro j hj
      rw [List.getElem?_set]
      by_cases h : j = n
      · subst h
        rw [if_pos (by omega), if_pos (by omega)]
      · rw [if_neg (by omega)]
        exact hp j (by omega))
    rw [hlen] at this
    refine Ev.step (fun k => ?_) this
    simp only [laws_markIntS.l0]
    rw [if_pos (by omega), if_pos (by omega), w64 (x := (n : Int) + 1) (by omega) (by omega), w64 (by omega) (by omega)]
    have e : m + (n : Int) + 1 = m + ((n + 1 : Nat) : Int) := by omega
    rw [e]
    rfl
theorem markIntS (l : List Int) (m : Int) (hm : 0 ≤ m) (hl : m + l.length ≤ 35184372088832) : Ev (fun k => laws_markIntS.f k l m) (m + (l.length : Int), marked m l.length) := by
  have := markIntS_l0 m hm l.length 0 l (by omega) hl (fun j h => by omega)
  exact Ev.congr (fun k => by unfold laws_markIntS.f; simp) this
theorem heldIntS_l0 (m : Int) (N : Nat) (hm : 0 ≤ m) (hN : m + N ≤ 35184372088832) : ∀ (d n : Nat), n + d = N → Ev (fun k => laws_heldIntS.l0 k (marked m N) (m + (n : Int)) (n : Int)) (m + (N : Int)) := by
  intro d
  induction d with
  | zero =>
    intro n hn
    refine ev_end fun k => ?_
    simp only [laws_heldIntS.l0]
    rw [if_neg (by rw [marked_length]; omega)]
    congr 1; omega
  | succ d ih =>
    intro n hn
    refine Ev.step (fun k => ?_) (ih (n + 1) (by omega))
    simp only [laws_heldIntS.l0]
    rw [if_pos (by rw [marked_length]; omega), if_pos (by omega), if_pos (rd_marked (by omega) (by omega)), w64 (x := (n : Int) + 1) (by omega) (by omega), w64 (by omega) (by omega)]
    have e : m + (n : Int) + 1 = m + ((n + 1 : Nat) : Int) := by omega
    rw [e]
    rfl
theorem heldIntS (N : Nat) (m : Int) (hm : 0 ≤ m) (hN : m + N ≤ 35184372088832) : Ev (fun k => laws_heldIntS.f k (marked m N) m) (m + (N : Int)) := by
  have := heldIntS_l0 m N hm hN N 0 (by omega)
  exact Ev.congr (fun k => by unfold laws_heldIntS.f; simp) this
theorem markText_l0 : ∀ (n : Nat) (x : ByteArray), n ≤ 4194304 → x.size + n ≤ 8388608 → ∃ s, Ev (fun k => laws_markText.l0 k (n : Int) x) s := by
  intro n
  induction n using Nat.strongRecOn with
  | _ n ih =>
    intro x hn hx
    by_cases h : (n : Int) > 0
    · have e : wrap64 (Int.tdiv (n : Int) 10) = ((n / 10 : Nat) : Int) := by
        show wrap64 (Int.tdiv (n : Int) ((10 : Nat) : Int)) = _
        rw [← Int.ofNat_tdiv]
        exact w64 (by omega) (by omega)
      have hs : ∀ d : Int, (strOfNums [d]).size = 1 := fun d => strOfNums_size [d]
      obtain ⟨s, es⟩ := ih (n / 10) (by omega) ((strOfNums [(wrap64 (48 + (Int.tmod (n : Int) 10))) % 256]) ++ x) (by omega) (by rw [ByteArray.size_append, hs]; omega)
      refine ⟨s, ev_succ ?_⟩
      simp only [laws_markText.l0, Option.bind_some, e]
      exact ev_pos h (ev_pos (by rw [hs]; omega) es)
    · refine ⟨(⟨#[109]⟩ : ByteArray) ++ x, ev_succ ?_⟩
      simp only [laws_markText.l0]
      exact ev_neg h (ev_pos (by omega) (Ev.now _))
theorem markText (a : Int) (h0 : 0 ≤ a) (h : a ≤ 4194304) : ∃ s, Ev (fun k => laws_markText.f k a) s := by
  unfold laws_markText.f
  by_cases g : a ≤ 0
  · exact ⟨_, ev_pos g (Ev.now _)⟩
  · obtain ⟨n, rfl⟩ := Int.eq_ofNat_of_zero_le h0
    obtain ⟨s, e⟩ := markText_l0 n (⟨#[]⟩ : ByteArray) (by omega) (by show 0 + n ≤ _; omega)
    exact ⟨s, ev_neg g e⟩
theorem markStringS_l0 : ∀ (d n : Nat) (x : List ByteArray) (m : Int), n + d = x.length → 0 ≤ m → m + d ≤ 4194304 → x.length ≤ 1048576 → ∃ r, Ev (fun k => laws_markStringS.l0 k x m (n : Int)) (m + (d : Int), r) := by
  intro d
  induction d with
  | zero =>
    intro n x m hn h0 hm hl
    refine ⟨x, ev_succ ?_⟩
    simp only [laws_markStringS.l0]
    exact ev_neg (by omega) (ev_eq (Ev.now _) (by simp))
  | succ d ih =>
    intro n x m hn h0 hm hl
    obtain ⟨s, es⟩ := markText m h0 (by omega)
    obtain ⟨r, er⟩ := ih (n + 1) (x.set n s) (m + 1) (by rw [List.length_set]; omega) (by omega) (by omega) (by rw [List.length_set]; exact hl)
    refine ⟨r, ev_succ ?_⟩
    simp only [laws_markStringS.l0]
    rw [w64 (x := m + 1) (by omega) (by omega), w64 (x := (n : Int) + 1) (by omega) (by omega)]
    exact ev_pos (by omega) (Ev.bind es (ev_pos (by omega) (ev_eq er (by congr 1; omega))))
theorem markIntSS_l0 : ∀ (d n : Nat) (x : List (List Int)) (m : Int), n + d = x.length → 0 ≤ m → m + (((x.drop n).map List.length).sum : Nat) ≤ 4194304 → x.length ≤ 1048576 → ∃ v r, Ev (fun k => laws_markIntSS.l0 k x m (n : Int)) (v, r) ∧ m ≤ v ∧ v ≤ m + (((x.drop n).map List.length).sum : Nat) := by
  intro d
  induction d with
  | zero =>
    intro n x m hn h0 hm hl
    refine ⟨m, x, ev_succ ?_, by omega, by omega⟩
    simp only [laws_markIntSS.l0]
    exact ev_neg (by omega) (Ev.now _)
  | succ d ih =>
    intro n x m hn h0 hm hl
    have hx : n < x.length := by omega
    have er : laws_markIntSS.row x (n : Int) = x[n] := by
      show x.getD n [] = _
      rw [List.getD_eq_getElem?_getD, List.getElem?_eq_getElem hx]
      rfl
    have ed : ((x.drop n).map List.length).sum = x[n].length + ((x.drop (n + 1)).map List.length).sum := by
      rw [List.drop_eq_getElem_cons hx, List.map_cons, List.sum_cons]
    have es : (x.set n (marked m x[n].length)).drop (n + 1) = x.drop (n + 1) := List.drop_set_of_lt (by omega)
    obtain ⟨v, r, e, v1, v2⟩ := ih (n + 1) (x.set n (marked m x[n].length)) (m + (x[n].length : Int)) (by rw [List.length_set]; omega) (by omega) (by rw [es]; omega) (by rw [List.length_set]; exact hl)
    rw [es] at v2
    refine ⟨v, r, ev_succ ?_, by omega, by omega⟩
    simp only [laws_markIntSS.l0, er]
    refine ev_pos (by omega) (ev_pos (by omega) (Ev.bind (markIntS x[n] m h0 (by omega)) ?_))
    rw [w64 (x := (n : Int) + 1) (by omega) (by omega)]
    exact e
theorem markTable (a : List ByteArray) (t : ByteArray) (b : List (List Int)) (c : List Int) (h : a.length + wt b + c.length ≤ 1048576) : ∃ v r2 r3 r4, Ev (fun k => laws_markTable.f k a t b c 1) (v, r2, r3, r4) ∧ 0 ≤ v := by
  have hb : b.length + (b.map List.length).sum = wt b := rfl
  obtain ⟨r2, e2⟩ := markStringS_l0 a.length 0 a 1 (by omega) (by omega) (by omega) (by omega)
  obtain ⟨v, r3, e3, v1, v2⟩ := markIntSS_l0 b.length 0 b (1 + (a.length : Int)) (by omega) (by omega) (by rw [List.drop_zero]; omega) (by omega)
  rw [List.drop_zero] at v2
  have e4 := markIntS c v (by omega) (by omega)
  refine ⟨_, r2, r3, _, Ev.bind (a := (1 + (a.length : Int), r2)) e2 (Ev.bind (a := (v, r3)) e3 (Ev.bind e4 (Ev.now _))), by dsimp only; omega⟩
/-- What a row has at this place. -/
def cell (f : Int) (r : List Int) : Int := if f < (r.length : Int) then rd r f else 0
def col (f : Int) (R : List (List Int)) : List Int := R.map (cell f)
def colOf (L : List ByteArray) (R : List (List Int)) (f : Int) : List Int := if 0 ≤ f ∧ f ≤ (L.length : Int) - 1 then col f R else []
theorem col_succ (f : Int) {R : List (List Int)} {n : Nat} (h : n < R.length) : col f (R.take (n + 1)) = col f (R.take n) ++ [cell f (R.getD n [])] := by
  have e : R.getD n [] = R[n] := by
    rw [List.getD_eq_getElem?_getD, List.getElem?_eq_getElem h]
    rfl
  rw [e]
  unfold col
  rw [List.take_add_one, List.getElem?_eq_getElem h, List.map_append]
  rfl
theorem col_all (f : Int) (R : List (List Int)) : col f (R.take R.length) = col f R := by rw [List.take_length]
theorem col_length (f : Int) (R : List (List Int)) : (col f R).length = R.length := List.length_map _
theorem col_take_length (f : Int) (R : List (List Int)) (n : Nat) : (col f (R.take n)).length ≤ R.length := by
  rw [col_length, List.length_take]; omega
theorem rd_col (f : Int) {R : List (List Int)} {n : Nat} (h : n < R.length) : rd (col f R) (n : Int) = cell f (R.getD n []) := by
  refine rd_of ?_
  unfold col
  rw [List.getElem?_map, List.getD_eq_getElem?_getD, List.getElem?_eq_getElem h]
  rfl
theorem implWithin (a b c : Int) : impl_within.f a b c = some (decide (b ≤ a ∧ a ≤ c)) := by
  unfold impl_within.f
  by_cases h : b ≤ a
  · rw [if_pos h]; simp [h]
  · rw [if_neg h]; simp [h]
theorem implColumn (L : List ByteArray) (t : ByteArray) (R : List (List Int)) (Y : List Int) (f : Int) (hL : L.length ≤ 1048576) (hR : R.length ≤ 1048576) : Ev (fun k => impl_Column.f k L t R Y f) (colOf L R f) := by
  unfold impl_Column.f
  simp only [Option.bind_some, implWithin]
  rw [w64 (x := (L.length : Int) - 1) (by omega) (by omega)]
  unfold colOf
  by_cases g : 0 ≤ f ∧ f ≤ (L.length : Int) - 1
  · rw [if_pos g]
    refine ev_pos (decide_eq_true g) (fold_loop (fun k (s : List Int) i => impl_Column.l0 k f s R (R.length : Int) i) R.length (fun n => col f (R.take n)) _ ?_ ?_ R.length 0 (by omega))
    · refine ev_succ ?_
      simp only [impl_Column.l0, col_all]
      exact ev_neg (by omega) (Ev.now _)
    · intro n hn h
      have hc := col_take_length f R n
      rw [col_succ f hn] at h
      refine ev_succ ?_
      simp only [impl_Column.l0, rdL, Int.toNat_natCast]
      rw [w64 (x := (n : Int) + 1) (by omega) (by omega)]
      refine ev_pos (by omega) (ev_pos (by omega) (ev_pos (by omega) ?_))
      by_cases c : f < ((R.getD n []).length : Int)
      · rw [cell, if_pos c] at h
        exact ev_pos c (ev_pos g.1 (ev_pos (by omega) h))
      · rw [cell, if_neg c] at h
        exact ev_neg c (ev_pos (by omega) h)
  · rw [if_neg g]
    exact ev_neg (by rw [decide_eq_false g]; decide) (Ev.now _)
theorem specIn (a b c : Int) : spec_l1In.f a b c = some (decide (b ≤ a ∧ a ≤ c)) := by
  unfold spec_l1In.f
  by_cases h : b ≤ a
  · rw [if_pos h]; simp [h]
  · rw [if_neg h]; simp [h]
theorem specColumn (L : List ByteArray) (t : ByteArray) (R : List (List Int)) (Y : List Int) (f : Int) (hL : L.length ≤ 1048576) (hR : R.length ≤ 1048576) : Ev (fun k => spec_Column.f k L t R Y f) (colOf L R f) := by
  unfold spec_Column.f
  have hw : wrap64 ((L.length : Int) - 1) = (L.length : Int) - 1 := w64 (by omega) (by omega)
  have stop : ∀ (s : List Int) (n : Int), Ev (fun k => spec_Column.j1 k f s n false L t R Y) s := by
    intro s n
    refine ev_succ ?_
    simp only [spec_Column.j1]
    exact ev_neg (by decide) (Ev.now _)
  unfold colOf
  by_cases g : 0 ≤ f ∧ f ≤ (L.length : Int) - 1
  · rw [if_pos g]
    refine fold_loop (fun k (s : List Int) i => spec_Column.l0 k f s i L t R Y) R.length (fun n => col f (R.take n)) _ ?_ ?_ R.length 0 (by omega)
    · refine ev_succ ?_
      simp only [spec_Column.l0, col_all]
      exact ev_neg (by omega) (stop _ _)
    · intro n hn h
      have hc := col_take_length f R n
      rw [col_succ f hn] at h
      refine ev_succ ?_
      simp only [spec_Column.l0, specIn, Option.bind_some, hw]
      rw [decide_eq_true g]
      refine ev_pos (by omega) (ev_succ ?_)
      simp only [spec_Column.j1, rdL, Int.toNat_natCast]
      rw [w64 (x := (n : Int) + 1) (by omega) (by omega)]
      refine ev_pos trivial (ev_pos (by omega) (ev_pos (by omega) ?_))
      by_cases c : f < ((R.getD n []).length : Int)
      · rw [cell, if_pos c] at h
        exact ev_pos c (ev_pos g.1 (ev_pos (by omega) h))
      · rw [cell, if_neg c] at h
        exact ev_neg c (ev_pos (by omega) h)
  · rw [if_neg g]
    refine ev_succ ?_
    simp only [spec_Column.l0, specIn, Option.bind_some, hw]
    rw [decide_eq_false g]
    by_cases c : (0 : Int) < (R.length : Int)
    · exact ev_pos c (stop _ _)
    · exact ev_neg c (stop _ _)

theorem FnExactColumn (l0_0 : List ByteArray) (a0_1 : ByteArray) (l0_2 : List (List Int)) (l0_3 : List Int) (a1 : Int)
    (w0_0 : l0_0.length ≤ maxLen ∧ ∀ x ∈ l0_0, x.size ≤ maxLen) (w0_1 : a0_1.size ≤ maxLen) (w0_2 : l0_2.length ≤ maxLen ∧ ∀ x ∈ l0_2, x.length ≤ maxLen ∧ ∀ y ∈ x, (Lit.int .i64 y).wf = true) (w0_3 : l0_3.length ≤ maxLen ∧ ∀ x ∈ l0_3, (Lit.int .i64 x).wf = true) (w1 : (Lit.int .i64 a1).wf = true) : ∃ k, laws_FnExactColumn.f k l0_0 a0_1 l0_2 l0_3 a1 = some true := by
  refine Ev.rounds ?_
  unfold laws_FnExactColumn.f
  have f0 : l0_0.length ≤ ws l0_0 := by unfold ws; omega
  have f2 : l0_2.length ≤ wt l0_2 := by unfold wt; omega
  refine Ev.bind (szTable l0_0 a0_1 l0_2 l0_3 1048576 (by omega) (by omega) w0_0.1 w0_0.2 w0_1 w0_2.1 (fun x hx => (w0_2.2 x hx).1) w0_3.1) ?_
  by_cases b0 : (1048576 : Int) < ws l0_0 + a0_1.size + wt l0_2 + l0_3.length
  · rw [if_pos b0]
    exact ev_pos (by omega) (Ev.now _)
  rw [if_neg b0]
  refine ev_neg (by omega) ?_
  have t0 := toTable l0_0 a0_1 l0_2 l0_3 (by omega) (by omega) (by omega)
  have sp := specColumn l0_0 a0_1 l0_2 l0_3 a1 (by omega) (by omega)
  have im := implColumn l0_0 a0_1 l0_2 l0_3 a1 (by omega) (by omega)
  have hc : (colOf l0_0 l0_2 a1).length ≤ 1048576 := by
    unfold colOf
    split
    · rw [col_length]; omega
    · simp
  obtain ⟨v, r2, r3, r4, mk, hv⟩ := markTable l0_0 a0_1 l0_2 l0_3 (by omega)
  have eqc := eqIntS (colOf l0_0 l0_2 a1) (by omega)
  refine Ev.bind t0 (Ev.bind sp (Ev.bind t0 (Ev.bind im (Ev.bind eqc (ev_pos rfl (Ev.bind t0 (Ev.bind (eqTable l0_0 a0_1 l0_2 l0_3 (by omega) (by omega) (by omega)) (ev_pos rfl (Ev.bind mk (ev_neg (by dsimp only; omega) (Ev.bind eqc (ev_succ ?_))))))))))))
  simp only [laws_FnExactColumn.j0]
  have hm := markIntS (colOf l0_0 l0_2 a1) 1 (by omega) (by omega)
  have hh := heldIntS (colOf l0_0 l0_2 a1).length 1 (by omega) (by omega)
  exact ev_neg (by simp) (Ev.bind hm (Ev.bind hh (ev_neg (by omega) (ev_pos rfl (Ev.bind t0 (Ev.bind im (Ev.bind eqc (ev_pos rfl (Ev.bind hh (ev_neg (by omega) (ev_pos rfl (Ev.now _))))))))))))

end Go.Proofs.Ytiacoiiapmfaeaa.Pure
