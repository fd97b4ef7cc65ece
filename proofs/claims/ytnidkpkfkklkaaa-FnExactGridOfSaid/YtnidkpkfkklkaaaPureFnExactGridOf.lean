/- impl.GridOf returns what spec.GridOf returns, new memory each time, and leaves its table as it was, for all tables and every int. Conditions: none but the row's own.
-/
import Derived.Test.YtnidkpkfkklkaaaQFnExactGridOfx14
set_option linter.unusedVariables false
set_option linter.unusedSimpArgs false
namespace Go.Proofs.Ytnidkpkfkklkaaa.Pure
open Go.RowKit Go.Proofs.Ytnidkpkfkklkaaa.QFnExactGridOf Go.Proofs.YtnidkpkfkklkaaaW.PrintWords Go.Proofs.YtnidkpkfkklkaaaW.PrintLast Go.Proofs.YtnidkpkfkklkaaaW.PrintMore

theorem w64 {x : Int} (h1 : -9223372036854775808 ≤ x) (h2 : x ≤ 9223372036854775807) : wrap64 x = x := by unfold wrap64; omega
theorem i64_wf {x : Int} (h : (Lit.int .i64 x).wf = true) : -9223372036854775808 ≤ x ∧ x ≤ 9223372036854775807 := by
  simpa [Lit.wf, IntKind.min, IntKind.max, IntKind.signed, IntKind.bits] using h
theorem u8_wf {x : Int} (h : (Lit.int .u8 x).wf = true) : 0 ≤ x ∧ x ≤ 255 := by
  simpa [Lit.wf, IntKind.min, IntKind.max, IntKind.signed, IntKind.bits] using h
theorem rd_eq {xs : List Int} {i : Int} (h0 : 0 ≤ i) (h : i < (xs.length : Int)) : xs[i.toNat]? = some (rd xs i) := by
  unfold rd
  rw [List.getD_eq_getElem?_getD, List.getElem?_eq_getElem (by omega)]
  rfl
theorem rd_mem {xs : List Int} {i : Int} (h0 : 0 ≤ i) (h : i < (xs.length : Int)) : rd xs i ∈ xs := List.mem_of_getElem? (rd_eq h0 h)
theorem rd_of {xs : List Int} {n : Nat} {v : Int} (h : xs[n]? = some v) : rd xs (n : Int) = v := by
  unfold rd
  rw [List.getD_eq_getElem?_getD, Int.toNat_natCast, h]
  rfl
theorem ev_of {α : Type} {r : α} {p : Option α} (h : p = some r) : Ev (fun _ => p) r := ⟨0, fun _ _ => h⟩
theorem ev_end {α : Type} {g : Nat → Option α} {r : α} (h : ∀ k, g (k + 1) = some r) : Ev g r := Ev.step (f := fun _ => some r) h (Ev.now r)
theorem ev_pos {α : Type} {c : Prop} [Decidable c] {f g : Nat → Option α} {r : α} (hc : c) (h : Ev f r) : Ev (fun k => if c then f k else g k) r := Ev.congr (fun _ => if_pos hc) h
theorem ev_neg {α : Type} {c : Prop} [Decidable c] {f g : Nat → Option α} {r : α} (hc : ¬ c) (h : Ev g r) : Ev (fun k => if c then f k else g k) r := Ev.congr (fun _ => if_neg hc) h
theorem rd_drop {xs : List Int} {n : Nat} (h : n < xs.length) : xs.drop n = rd xs (n : Int) :: xs.drop (n + 1) := by
  rw [List.drop_eq_getElem_cons h]
  congr 1
  unfold rd
  rw [List.getD_eq_getElem?_getD, Int.toNat_natCast, List.getElem?_eq_getElem h]
  rfl
noncomputable def dec (p : Prop) : Bool := @decide p (Classical.propDecidable p)
theorem dec_true {p : Prop} (h : p) : dec p = true := @decide_eq_true p (Classical.propDecidable p) h
theorem dec_false {p : Prop} (h : ¬ p) : dec p = false := @decide_eq_false p (Classical.propDecidable p) h
theorem dec_iff {p : Prop} : dec p = true ↔ p := @decide_eq_true_iff p (Classical.propDecidable p)
theorem dec_congr {p q : Prop} (h : p ↔ q) : dec p = dec q := by rw [propext h]
theorem dec_eq {p : Prop} [Decidable p] : dec p = decide p := by
  by_cases h : p
  · rw [dec_true h, decide_eq_true h]
  · rw [dec_false h, decide_eq_false h]
theorem ev_succ {α : Type} {g : Nat → Option α} {r : α} (h : Ev (fun k => g (k + 1)) r) : Ev g r := by
  obtain ⟨K, h⟩ := h
  refine ⟨K + 1, fun n hn => ?_⟩
  obtain ⟨m, rfl⟩ : ∃ m, n = m + 1 := ⟨n - 1, by omega⟩
  exact h m (by omega)
theorem ev_eq {α : Type} {g : Nat → Option α} {r r' : α} (h : Ev g r) (e : r = r') : Ev g r' := e ▸ h
theorem gd_eq {α : Type} (z : α) {xs : List α} {i : Int} (h0 : 0 ≤ i) (h : i < (xs.length : Int)) : xs[i.toNat]? = some (xs.getD i.toNat z) := by
  rw [List.getD_eq_getElem?_getD, List.getElem?_eq_getElem (by omega)]
  rfl
theorem gd_nat {α : Type} (z : α) {xs : List α} {n : Nat} {v : α} (h : xs[n]? = some v) : xs.getD ((n : Int)).toNat z = v := by
  rw [List.getD_eq_getElem?_getD, Int.toNat_natCast, h]
  rfl
theorem gd_drop {α : Type} (z : α) {xs : List α} {n : Nat} (h : n < xs.length) : xs.drop n = xs.getD ((n : Int)).toNat z :: xs.drop (n + 1) := by
  rw [List.drop_eq_getElem_cons h]
  congr 1
  exact (gd_nat z (List.getElem?_eq_getElem h)).symm
/-- A loop that copies: place after place is set. -/
theorem copy_loop {α β : Type} (F : Nat → List β → Int → Option (List β)) (l : List α) (g : α → β)
    (hend : ∀ acc : List β, acc.length = l.length → Ev (fun k => F k acc (l.length : Int)) acc)
    (hstep : ∀ (acc : List β) (n : Nat) (x : α) (r : List β), n < l.length → acc.length = l.length → l[n]? = some x → Ev (fun k => F k (acc.set n (g x)) ((n + 1 : Nat) : Int)) r → Ev (fun k => F k acc (n : Int)) r) :
    ∀ (d n : Nat) (acc : List β), n + d = l.length → acc.length = l.length → (∀ j, j < n → acc[j]? = (l.map g)[j]?) → Ev (fun k => F k acc (n : Int)) (l.map g) := by
  intro d
  induction d with
  | zero =>
    intro n acc hn ha hp
    obtain rfl : n = l.length := by omega
    refine ev_eq (hend acc ha) (List.ext_getElem? fun j => ?_)
    by_cases h : j < l.length
    · exact hp j h
    · rw [List.getElem?_eq_none (by omega), List.getElem?_eq_none (by simp; omega)]
  | succ d ih =>
    intro n acc hn ha hp
    have hx : l[n]? = some l[n] := List.getElem?_eq_getElem (by omega)
    refine hstep acc n l[n] _ (by omega) ha hx (ih (n + 1) _ (by omega) (by simpa using ha) ?_)
    intro j hj
    rw [List.getElem?_set]
    by_cases h : n = j
    · subst h
      rw [if_pos rfl, if_pos (by omega), List.getElem?_map, hx]
      rfl
    · rw [if_neg h]
      exact hp j (by omega)
/-- A loop that tests place after place. -/
theorem all_loop (F : Nat → Int → Option Bool) (L : Nat) (p : Nat → Prop) (hend : Ev (fun k => F k (L : Int)) true)
    (hyes : ∀ (n : Nat) (r : Bool), n < L → p n → Ev (fun k => F k ((n + 1 : Nat) : Int)) r → Ev (fun k => F k (n : Int)) r)
    (hno : ∀ n : Nat, n < L → ¬ p n → Ev (fun k => F k (n : Int)) false) :
    ∀ (d n : Nat), n + d = L → Ev (fun k => F k (n : Int)) (dec (∀ j, n ≤ j → j < L → p j)) := by
  intro d
  induction d with
  | zero =>
    intro n hn
    obtain rfl : n = L := by omega
    exact ev_eq hend (dec_true (fun j h1 h2 => by omega)).symm
  | succ d ih =>
    intro n hn
    by_cases h : p n
    · refine hyes n _ (by omega) h (ev_eq (ih (n + 1) (by omega)) (dec_congr ⟨fun g j h1 h2 => ?_, fun g j h1 h2 => g j (by omega) h2⟩))
      by_cases e : j = n
      · exact e ▸ h
      · exact g j (by omega) h2
    · exact ev_eq (hno n (by omega) h) (dec_false (fun g => h (g n (Nat.le_refl _) (by omega)))).symm
/-- A loop that goes round L times over a state. -/
theorem fold_loop {σ ρ : Type} (F : Nat → σ → Int → Option ρ) (L : Nat) (S : Nat → σ) (r : ρ) (hend : Ev (fun k => F k (S L) (L : Int)) r)
    (hstep : ∀ n : Nat, n < L → Ev (fun k => F k (S (n + 1)) ((n + 1 : Nat) : Int)) r → Ev (fun k => F k (S n) (n : Int)) r) :
    ∀ (d n : Nat), n + d = L → Ev (fun k => F k (S n) (n : Int)) r := by
  intro d
  induction d with
  | zero =>
    intro n hn
    obtain rfl : n = L := by omega
    exact hend
  | succ d ih =>
    intro n hn
    exact hstep n (by omega) (ih (n + 1) (by omega))
theorem set_mid {α : Type} (a b : List α) (x v : α) {n : Nat} (h : a.length = n) : (a ++ x :: b).set n v = a ++ v :: b := by
  subst h
  rw [List.set_append_right _ _ (Nat.le_refl _), Nat.sub_self]
  rfl
theorem get_mid {α : Type} (a b : List α) (x : α) {n : Nat} (h : a.length = n) : (a ++ x :: b)[n]? = some x := by
  subst h
  rw [List.getElem?_append_right (Nat.le_refl _), Nat.sub_self]
  rfl
/-- A loop that tests place after place, and one thing more at its end. -/
theorem all_loop2 (F : Nat → Int → Option Bool) (L : Nat) (p : Nat → Prop) (E : Prop) (hend : Ev (fun k => F k (L : Int)) (dec E))
    (hyes : ∀ (n : Nat) (r : Bool), n < L → p n → Ev (fun k => F k ((n + 1 : Nat) : Int)) r → Ev (fun k => F k (n : Int)) r)
    (hno : ∀ n : Nat, n < L → ¬ p n → Ev (fun k => F k (n : Int)) false) :
    ∀ (d n : Nat), n + d = L → Ev (fun k => F k (n : Int)) (dec ((∀ j, n ≤ j → j < L → p j) ∧ E)) := by
  intro d
  induction d with
  | zero =>
    intro n hn
    obtain rfl : n = L := by omega
    exact ev_eq hend (dec_congr ⟨fun h => ⟨fun j h1 h2 => by omega, h⟩, fun h => h.2⟩)
  | succ d ih =>
    intro n hn
    by_cases h : p n
    · refine hyes n _ (by omega) h (ev_eq (ih (n + 1) (by omega)) (dec_congr ⟨fun g => ⟨fun j h1 h2 => ?_, g.2⟩, fun g => ⟨fun j h1 h2 => g.1 j (by omega) h2, g.2⟩⟩))
      by_cases e : j = n
      · exact e ▸ h
      · exact g.1 j (by omega) h2
    · exact ev_eq (hno n (by omega) h) (dec_false (fun g => h (g.1 n (Nat.le_refl _) (by omega)))).symm
/-- Lists of one length whose places stand in R to each other. -/
def SameR {α : Type} (z : α) (R : α → α → Prop) (l m : List α) : Prop := l.length = m.length ∧ ∀ j : Nat, 0 ≤ j → j < l.length → R (l.getD j z) (m.getD j z)
theorem same_ev {α : Type} (z : α) (R : α → α → Prop) (l m : List α) (h0 : l.length = m.length) (F : Nat → Int → Option Bool) (hend : Ev (fun k => F k (l.length : Int)) true)
    (hyes : ∀ (n : Nat) (r : Bool), n < l.length → R (l.getD n z) (m.getD n z) → Ev (fun k => F k ((n + 1 : Nat) : Int)) r → Ev (fun k => F k (n : Int)) r)
    (hno : ∀ n : Nat, n < l.length → ¬ R (l.getD n z) (m.getD n z) → Ev (fun k => F k (n : Int)) false) : Ev (fun k => F k 0) (dec (SameR z R l m)) :=
  ev_eq (all_loop F l.length (fun j => R (l.getD j z) (m.getD j z)) hend hyes hno l.length 0 (by omega)) (dec_congr ⟨fun h => ⟨h0, h⟩, fun h => h.2⟩)
theorem rdn (xs : List Int) (n : Nat) : rd xs (n : Int) = xs.getD n 0 := rfl
theorem rdOfn {α : Type} (z : α) (xs : List α) (n : Nat) : rdOf z xs (n : Int) = xs.getD n z := rfl
/-- How much a list of texts holds. -/
def ws (l : List ByteArray) : Nat := l.length + (l.map ByteArray.size).sum
theorem ws_mem {l : List ByteArray} {x : ByteArray} (h : x ∈ l) : x.size ≤ ws l := by
  unfold ws
  induction l with
  | nil => simp at h
  | cons y l ih =>
    simp only [List.mem_cons] at h
    simp only [List.map_cons, List.sum_cons, List.length_cons]
    rcases h with rfl | h
    · omega
    · have := ih h; omega
theorem szStringS_l0 (l : List ByteArray) (hl : l.length ≤ 1048576) (hm : ∀ x ∈ l, x.size ≤ maxLen) : ∀ (d n : Nat) (a : Int), n + d = l.length → 0 ≤ a → a ≤ 1048576 →
    Ev (fun k => laws_szStringS.l0 k l a (n : Int)) (if a < ((l.drop n).map ByteArray.size).sum then -1 else a - ((l.drop n).map ByteArray.size).sum) := by
  intro d
  induction d with
  | zero =>
    intro n a hn h0 h1
    obtain rfl : n = l.length := by omega
    refine ev_succ ?_
    simp only [laws_szStringS.l0]
    refine ev_neg (by omega) (ev_of ?_)
    rw [List.drop_length, if_neg (by simp; omega)]
    simp
  | succ d ih =>
    intro n a hn h0 h1
    refine ev_succ ?_
    have hx : l[n]? = some l[n] := List.getElem?_eq_getElem (by omega)
    have d1 : l.drop n = l[n] :: l.drop (n + 1) := List.drop_eq_getElem_cons (by omega)
    have hmx := hm _ (List.mem_of_getElem? hx)
    unfold maxLen at hmx
    simp only [laws_szStringS.l0, rdOf, gd_nat ByteArray.empty hx]
    refine ev_pos (by omega) (ev_pos (by omega) ?_)
    rw [d1, List.map_cons, List.sum_cons, w64 (x := (n : Int) + 1) (by omega) (by omega), w64 (x := a - (l[n].size : Int)) (by omega) (by omega)]
    by_cases h : a < l[n].size
    · refine ev_pos (by omega) (ev_of ?_)
      rw [if_pos (by omega)]
    · refine ev_neg (by omega) (ev_eq (ih (n + 1) (a - l[n].size) (by omega) (by omega) (by omega)) ?_)
      by_cases g : a - (l[n].size : Int) < ((l.drop (n + 1)).map ByteArray.size).sum
      · rw [if_pos g, if_pos (by omega)]
      · rw [if_neg g, if_neg (by omega)]
        omega
theorem szStringS (l : List ByteArray) (a : Int) (h0 : 0 ≤ a) (h1 : a ≤ 1048576) (hl : l.length ≤ maxLen) (hm : ∀ x ∈ l, x.size ≤ maxLen) : Ev (fun k => laws_szStringS.f k l a) (if a < ws l then -1 else a - ws l) := by
  unfold maxLen at hl
  unfold laws_szStringS.f ws
  rw [w64 (by omega) (by omega)]
  by_cases h : a < l.length
  · refine ev_pos (by omega) (ev_of ?_)
    rw [if_pos (by omega)]
  · refine ev_neg (by omega) (ev_eq (szStringS_l0 l (by omega) hm l.length 0 _ (by omega) (by omega) (by omega)) ?_)
    rw [List.drop_zero]
    by_cases g : a - (l.length : Int) < (l.map ByteArray.size).sum
    · rw [if_pos g, if_pos (by omega)]
    · rw [if_neg g, if_neg (by omega)]
      omega
theorem toStringS (l : List ByteArray) (hl : l.length ≤ 17592186044416) : Ev (fun k => laws_toStringS.f k l) l := by
  unfold laws_toStringS.f
  refine ev_pos (by omega) (ev_pos (by omega) ?_)
  refine ev_eq (copy_loop (fun k acc i => laws_toStringS.l0 k l acc i) l id ?_ ?_ l.length 0 _ (by omega) (by simp) (fun j h => by omega)) (by simp)
  · intro acc ha
    refine ev_succ ?_
    simp only [laws_toStringS.l0]
    exact ev_neg (by omega) (Ev.now _)
  · intro acc n x r hn ha hx h
    refine ev_succ ?_
    simp only [laws_toStringS.l0, rdOf, gd_nat ByteArray.empty hx]
    refine ev_pos (by omega) (ev_pos (by omega) (ev_pos (by omega) ?_))
    rw [w64 (x := (n : Int) + 1) (by omega) (by omega)]
    exact h
theorem eqStringS (l : List ByteArray) (hl : l.length ≤ 17592186044416) : Ev (fun k => laws_eqStringS.f k l l) true := by
  unfold laws_eqStringS.f
  refine ev_pos rfl ?_
  refine ev_eq (all_loop (fun k i => laws_eqStringS.l0 k l l i) l.length (fun _ => True) ?_ ?_ ?_ l.length 0 (by omega)) (dec_true (fun _ _ _ => trivial))
  · refine ev_succ ?_
    simp only [laws_eqStringS.l0]
    exact ev_neg (by omega) (Ev.now _)
  · intro n r hn _ h
    refine ev_succ ?_
    simp only [laws_eqStringS.l0]
    refine ev_pos (by omega) (ev_pos (by omega) (ev_pos (by omega) (ev_pos trivial ?_)))
    rw [w64 (x := (n : Int) + 1) (by omega) (by omega)]
    exact h
  · intro n hn h
    exact absurd trivial h
theorem rdL (xs : List (List Int)) (i : Int) : rd_L2 xs i = xs.getD i.toNat [] := rfl
/-- How much a list of lists holds. -/
def wt (l : List (List Int)) : Nat := l.length + (l.map List.length).sum
theorem wt_mem {l : List (List Int)} {x : List Int} (h : x ∈ l) : x.length ≤ wt l := by
  unfold wt
  induction l with
  | nil => simp at h
  | cons y l ih =>
    simp only [List.mem_cons] at h
    simp only [List.map_cons, List.sum_cons, List.length_cons]
    rcases h with rfl | h
    · omega
    · have := ih h; omega
theorem toIntS_l0 (l : List Int) (hl : l.length ≤ 35184372088832) : ∀ (d n : Nat) (acc : List Int), n + d = l.length → acc.length = l.length → (∀ j, j < n → acc[j]? = l[j]?) → Ev (fun k => laws_toIntS.l0 k l acc (n : Int)) l := by
  intro d
  induction d with
  | zero =>
    intro n acc hn ha hp
    refine ev_end fun k => ?_
    simp only [laws_toIntS.l0]
    rw [if_neg (by omega)]
    congr 1
    exact List.ext_getElem? fun j => by
      by_cases h : j < n
      · exact hp j h
      · rw [List.getElem?_eq_none (by omega), List.getElem?_eq_none (by omega)]
  | succ d ih =>
    intro n acc hn ha hp
    refine Ev.step (fun k => ?_) (ih (n + 1) (acc.set n (rd l n)) (by omega) (by simpa using ha) ?_)
    · simp only [laws_toIntS.l0]
      rw [if_pos (by omega), if_pos (by omega), if_pos (by omega), w64 (by omega) (by omega)]
      rfl
    intro j hj
    rw [List.getElem?_set]
    by_cases h : j = n
    · subst h
      rw [if_pos (by omega), if_pos (by omega), ← rd_eq (by omega) (by omega)]
      simp
    · rw [if_neg (by omega)]
      exact hp j (by omega)
theorem toIntS (l : List Int) (hl : l.length ≤ 35184372088832) : Ev (fun k => laws_toIntS.f k l) l := by
  refine Ev.congr (fun k => ?_) (toIntS_l0 l hl l.length 0 (List.replicate l.length 0) (by omega) (by simp) (fun j h => by omega))
  unfold laws_toIntS.f
  rw [if_pos (by omega), if_pos (by omega)]
  rfl
theorem toIntSS (l : List (List Int)) (hl : wt l ≤ 1048576) : Ev (fun k => laws_toIntSS.f k l) l := by
  have h1 : l.length ≤ wt l := by unfold wt; omega
  unfold laws_toIntSS.f
  refine ev_pos (by omega) (ev_pos (by omega) ?_)
  have key := copy_loop (fun k acc i => laws_toIntSS.l0 k l acc i) l (fun x => x) ?_ ?_ l.length 0 (List.replicate (l.length : Int).toNat []) (by omega) (by simp) (fun j h => by omega)
  · simpa using key
  · intro acc ha
    refine ev_succ ?_
    simp only [laws_toIntSS.l0]
    exact ev_neg (by omega) (Ev.now _)
  · intro acc n x r hn ha hx h
    refine ev_succ ?_
    have hm := wt_mem (List.mem_of_getElem? hx)
    simp only [laws_toIntSS.l0, rdL, gd_nat [] hx, Option.bind_some]
    refine ev_pos (by omega) (ev_pos (by omega) (Ev.bind (toIntS x (by omega)) (ev_pos (by omega) ?_)))
    rw [w64 (x := (n : Int) + 1) (by omega) (by omega)]
    exact h
theorem eqIntS_l0 (l : List Int) (hl : l.length ≤ 35184372088832) : ∀ (d n : Nat), n + d = l.length → Ev (fun k => laws_eqIntS.l0 k l l (n : Int)) true := by
  intro d
  induction d with
  | zero =>
    intro n hn
    refine ev_end fun k => ?_
    simp only [laws_eqIntS.l0]
    rw [if_neg (by omega)]
  | succ d ih =>
    intro n hn
    refine Ev.step (fun k => ?_) (ih (n + 1) (by omega))
    simp only [laws_eqIntS.l0]
    rw [if_pos (by omega), if_pos (by omega), if_pos (by omega), if_pos trivial, w64 (by omega) (by omega)]
    rfl
theorem eqIntS (l : List Int) (hl : l.length ≤ 35184372088832) : Ev (fun k => laws_eqIntS.f k l l) true := by
  refine Ev.congr (fun k => ?_) (eqIntS_l0 l hl l.length 0 (by omega))
  unfold laws_eqIntS.f
  rw [if_pos rfl]
  rfl
theorem eqIntSS (l : List (List Int)) (hl : wt l ≤ 1048576) : Ev (fun k => laws_eqIntSS.f k l l) true := by
  have h1 : l.length ≤ wt l := by unfold wt; omega
  unfold laws_eqIntSS.f
  refine ev_pos rfl ?_
  refine ev_eq (all_loop (fun k i => laws_eqIntSS.l0 k l l i) l.length (fun _ => True) ?_ ?_ ?_ l.length 0 (by omega)) (dec_true (fun _ _ _ => trivial))
  · refine ev_succ ?_
    simp only [laws_eqIntSS.l0]
    exact ev_neg (by omega) (Ev.now _)
  · intro n r hn _ h
    refine ev_succ ?_
    have hx : l[n]? = some l[n] := List.getElem?_eq_getElem hn
    have hm := wt_mem (List.mem_of_getElem? hx)
    simp only [laws_eqIntSS.l0, rdL, gd_nat [] hx]
    refine ev_pos (by omega) (ev_pos (by omega) (ev_pos (by omega) (Ev.bind (eqIntS _ (by omega)) (ev_pos rfl ?_))))
    rw [w64 (x := (n : Int) + 1) (by omega) (by omega)]
    exact h
  · intro n hn h
    exact absurd trivial h
theorem szIntS (l : List Int) (a : Int) (h0 : 0 ≤ a) (h1 : a ≤ 1048576) (hl : l.length ≤ maxLen) : laws_szIntS.f l a = some (if a < l.length then -1 else a - l.length) := by
  unfold maxLen at hl
  unfold laws_szIntS.f
  rw [w64 (by omega) (by omega)]
  by_cases h : a < l.length
  · rw [if_pos (by omega), if_pos h]
  · rw [if_neg (by omega), if_neg h]
theorem szIntSS_l0 (l : List (List Int)) (hl : l.length ≤ 1048576) (hm : ∀ x ∈ l, x.length ≤ maxLen) : ∀ (d n : Nat) (a : Int), n + d = l.length → 0 ≤ a → a ≤ 1048576 →
    Ev (fun k => laws_szIntSS.l0 k l a (n : Int)) (if a < ((l.drop n).map List.length).sum then -1 else a - ((l.drop n).map List.length).sum) := by
  intro d
  induction d with
  | zero =>
    intro n a hn h0 h1
    obtain rfl : n = l.length := by omega
    refine ev_succ ?_
    simp only [laws_szIntSS.l0]
    refine ev_neg (by omega) (ev_of ?_)
    rw [List.drop_length, if_neg (by simp; omega)]
    simp
  | succ d ih =>
    intro n a hn h0 h1
    refine ev_succ ?_
    have hx : l[n]? = some l[n] := List.getElem?_eq_getElem (by omega)
    have d1 : l.drop n = l[n] :: l.drop (n + 1) := List.drop_eq_getElem_cons (by omega)
    have hmx := hm _ (List.mem_of_getElem? hx)
    simp only [laws_szIntSS.l0, rdL, gd_nat [] hx, szIntS l[n] a h0 h1 hmx, Option.bind_some]
    refine ev_pos (by omega) (ev_pos (by omega) ?_)
    rw [d1, List.map_cons, List.sum_cons, w64 (x := (n : Int) + 1) (by omega) (by omega)]
    by_cases h : a < l[n].length
    · rw [if_pos h]
      refine ev_pos (by omega) (ev_of ?_)
      rw [if_pos (by omega)]
    · rw [if_neg h]
      refine ev_neg (by omega) (ev_eq (ih (n + 1) (a - l[n].length) (by omega) (by omega) (by omega)) ?_)
      by_cases g : a - (l[n].length : Int) < ((l.drop (n + 1)).map List.length).sum
      · rw [if_pos g, if_pos (by omega)]
      · rw [if_neg g, if_neg (by omega)]
        omega
theorem szIntSS (l : List (List Int)) (a : Int) (h0 : 0 ≤ a) (h1 : a ≤ 1048576) (hl : l.length ≤ maxLen) (hm : ∀ x ∈ l, x.length ≤ maxLen) : Ev (fun k => laws_szIntSS.f k l a) (if a < wt l then -1 else a - wt l) := by
  unfold maxLen at hl
  unfold laws_szIntSS.f wt
  rw [w64 (by omega) (by omega)]
  by_cases h : a < l.length
  · refine ev_pos (by omega) (ev_of ?_)
    rw [if_pos (by omega)]
  · refine ev_neg (by omega) (ev_eq (szIntSS_l0 l (by omega) hm l.length 0 _ (by omega) (by omega) (by omega)) ?_)
    rw [List.drop_zero]
    by_cases g : a - (l.length : Int) < (l.map List.length).sum
    · rw [if_pos g, if_pos (by omega)]
    · rw [if_neg g, if_neg (by omega)]
      omega
theorem szTable (a : List ByteArray) (t : ByteArray) (b : List (List Int)) (c : List Int) (n : Int) (h0 : 0 ≤ n) (h1 : n ≤ 1048576) (ha : a.length ≤ maxLen) (ham : ∀ x ∈ a, x.size ≤ maxLen) (ht : t.size ≤ maxLen) (hb : b.length ≤ maxLen) (hbm : ∀ x ∈ b, x.length ≤ maxLen) (hc : c.length ≤ maxLen) :
    Ev (fun k => laws_szTable.f k a t b c n) (if n < ws a + t.size + wt b + c.length then -1 else n - ws a - t.size - wt b - c.length) := by
  unfold laws_szTable.f
  refine Ev.bind (szStringS a n h0 h1 ha ham) ?_
  unfold maxLen at ht
  by_cases h : n < ws a
  · rw [if_pos h]
    refine ev_pos (by omega) (ev_of ?_)
    rw [if_pos (by omega)]
  rw [if_neg h, w64 (x := n - (ws a : Int) - (t.size : Int)) (by omega) (by omega)]
  refine ev_neg (by omega) ?_
  by_cases g : n - (ws a : Int) < t.size
  · refine ev_pos (by omega) (ev_of ?_)
    rw [if_pos (by omega)]
  refine ev_neg (by omega) (Ev.bind (szIntSS b _ (by omega) (by omega) hb hbm) ?_)
  by_cases g2 : n - (ws a : Int) - (t.size : Int) < wt b
  · rw [if_pos g2]
    refine ev_pos (by omega) (ev_of ?_)
    rw [if_pos (by omega)]
  rw [if_neg g2, szIntS c _ (by omega) (by omega) hc]
  simp only [Option.bind_some]
  refine ev_neg (by omega) ?_
  by_cases g3 : n - (ws a : Int) - (t.size : Int) - (wt b : Int) < c.length
  · rw [if_pos g3]
    refine ev_pos (by omega) (ev_of ?_)
    rw [if_pos (by omega)]
  · rw [if_neg g3]
    refine ev_neg (by omega) (ev_of ?_)
    rw [if_neg (by omega)]
theorem toTable (a : List ByteArray) (t : ByteArray) (b : List (List Int)) (c : List Int) (ha : a.length ≤ 1048576) (hb : wt b ≤ 1048576) (hc : c.length ≤ 1048576) : Ev (fun k => laws_toTable.f k a t b c) (a, t, b, c) := by
  unfold laws_toTable.f
  exact Ev.bind (toStringS a (by omega)) (Ev.bind (toIntSS b hb) (Ev.bind (toIntS c (by omega)) (Ev.now _)))
theorem eqTable (a : List ByteArray) (t : ByteArray) (b : List (List Int)) (c : List Int) (ha : a.length ≤ 1048576) (hb : wt b ≤ 1048576) (hc : c.length ≤ 1048576) : Ev (fun k => laws_eqTable.f k a t b c a t b c) true := by
  unfold laws_eqTable.f
  exact Ev.bind (eqStringS a (by omega)) (ev_pos rfl (ev_pos rfl (Ev.bind (eqIntSS b hb) (ev_pos rfl (Ev.bind (eqIntS c (by omega)) (ev_pos rfl (Ev.now _)))))))
/-- The numbers from m on, n of them. -/
def marked (m : Int) : Nat → List Int
  | 0 => []
  | n + 1 => m :: marked (m + 1) n
theorem marked_length (m : Int) (n : Nat) : (marked m n).length = n := by
  induction n generalizing m with
  | zero => rfl
  | succ n ih => simp [marked, ih]
theorem marked_get (m : Int) (n j : Nat) (h : j < n) : (marked m n)[j]? = some (m + (j : Int)) := by
  induction n generalizing m j with
  | zero => omega
  | succ n ih =>
    cases j with
    | zero => simp [marked]
    | succ j =>
      simp only [marked, List.getElem?_cons_succ]
      rw [ih (m + 1) j (by omega)]
      congr 1
      omega
theorem marked_snoc (m : Int) (n : Nat) : marked m (n + 1) = marked m n ++ [m + (n : Int)] := by
  induction n generalizing m with
  | zero => simp [marked]
  | succ n ih =>
    rw [marked, ih (m + 1)]
    simp only [marked, List.cons_append, List.cons.injEq, true_and, List.append_cancel_left_eq, and_true]
    omega
theorem rd_marked {m : Int} {n : Nat} {j : Int} (h0 : 0 ≤ j) (h : j < (n : Int)) : rd (marked m n) j = m + j := by
  obtain ⟨i, rfl⟩ := Int.eq_ofNat_of_zero_le h0
  exact rd_of (marked_get m n i (by omega))
theorem markIntS_l0 (m : Int) (hm : 0 ≤ m) : ∀ (d n : Nat) (x : List Int), n + d = x.length → m + x.length ≤ 35184372088832 → (∀ j : Nat, j < n → x[j]? = some (m + (j : Int))) →
    Ev (fun k => laws_markIntS.l0 k x (m + (n : Int)) (n : Int)) (m + (x.length : Int), marked m x.length) := by
  intro d
  induction d with
  | zero =>
    intro n x hn hl hp
    refine ev_end fun k => ?_
    simp only [laws_markIntS.l0]
    rw [if_neg (by omega)]
    obtain rfl : n = x.length := by omega
    congr 2
    exact List.ext_getElem? fun j => by
      by_cases h : j < x.length
      · rw [hp j h, marked_get _ _ _ h]
      · rw [List.getElem?_eq_none (by omega), List.getElem?_eq_none (by rw [marked_length]; omega)]
  | succ d ih =>
    intro n x hn hl hp
    have hlen : (x.set n (m + (n : Int))).length = x.length := by simp
    have := ih (n + 1) (x.set n (m + (n : Int))) (by rw [hlen]; omega) (by rw [hlen]; omega) (by
      intro j hj
      rw [List.getElem?_set]
      by_cases h : j = n
      · subst h
        rw [if_pos (by omega), if_pos (by omega)]
      · rw [if_neg (by omega)]
        exact hp j (by omega))
    rw [hlen] at this
    refine Ev.step (fun k => ?_) this
    simp only [laws_markIntS.l0]
    rw [if_pos (by omega), if_pos (by omega), w64 (x := (n : Int) + 1) (by omega) (by omega), w64 (by omega) (by omega)]
    have e : m + (n : Int) + 1 = m + ((n + 1 : Nat) : Int) := by omega
    rw [e]
    rfl
theorem markIntS (l : List Int) (m : Int) (hm : 0 ≤ m) (hl : m + l.length ≤ 35184372088832) : Ev (fun k => laws_markIntS.f k l m) (m + (l.length : Int), marked m l.length) := by
  have := markIntS_l0 m hm l.length 0 l (by omega) hl (fun j h => by omega)
  exact Ev.congr (fun k => by unfold laws_markIntS.f; simp) this
theorem markText_l0 : ∀ (n : Nat) (x : ByteArray), n ≤ 4194304 → x.size + n ≤ 8388608 → ∃ s, Ev (fun k => laws_markText.l0 k (n : Int) x) s := by
  intro n
  induction n using Nat.strongRecOn with
  | _ n ih =>
    intro x hn hx
    by_cases h : (n : Int) > 0
    · have e : wrap64 (Int.tdiv (n : Int) 10) = ((n / 10 : Nat) : Int) := by
        show wrap64 (Int.tdiv (n : Int) ((10 : Nat) : Int)) = _
        rw [← Int.ofNat_tdiv]
        exact w64 (by omega) (by omega)
      have hs : ∀ d : Int, (strOfNums [d]).size = 1 := fun d => strOfNums_size [d]
      obtain ⟨s, es⟩ := ih (n / 10) (by omega) ((strOfNums [(wrap64 (48 + (Int.tmod (n : Int) 10))) % 256]) ++ x) (by omega) (by rw [ByteArray.size_append, hs]; omega)
      refine ⟨s, ev_succ ?_⟩
      simp only [laws_markText.l0, Option.bind_some, e]
      exact ev_pos h (ev_pos (by rw [hs]; omega) es)
    · refine ⟨(⟨#[109]⟩ : ByteArray) ++ x, ev_succ ?_⟩
      simp only [laws_markText.l0]
      exact ev_neg h (ev_pos (by omega) (Ev.now _))
theorem markText (a : Int) (h0 : 0 ≤ a) (h : a ≤ 4194304) : ∃ s, Ev (fun k => laws_markText.f k a) s := by
  unfold laws_markText.f
  by_cases g : a ≤ 0
  · exact ⟨_, ev_pos g (Ev.now _)⟩
  · obtain ⟨n, rfl⟩ := Int.eq_ofNat_of_zero_le h0
    obtain ⟨s, e⟩ := markText_l0 n (⟨#[]⟩ : ByteArray) (by omega) (by show 0 + n ≤ _; omega)
    exact ⟨s, ev_neg g e⟩
theorem markStringS_l0 : ∀ (d n : Nat) (x : List ByteArray) (m : Int), n + d = x.length → 0 ≤ m → m + d ≤ 4194304 → x.length ≤ 1048576 → ∃ r, Ev (fun k => laws_markStringS.l0 k x m (n : Int)) (m + (d : Int), r) := by
  intro d
  induction d with
  | zero =>
    intro n x m hn h0 hm hl
    refine ⟨x, ev_succ ?_⟩
    simp only [laws_markStringS.l0]
    exact ev_neg (by omega) (ev_eq (Ev.now _) (by simp))
  | succ d ih =>
    intro n x m hn h0 hm hl
    obtain ⟨s, es⟩ := markText m h0 (by omega)
    obtain ⟨r, er⟩ := ih (n + 1) (x.set n s) (m + 1) (by rw [List.length_set]; omega) (by omega) (by omega) (by rw [List.length_set]; exact hl)
    refine ⟨r, ev_succ ?_⟩
    simp only [laws_markStringS.l0]
    rw [w64 (x := m + 1) (by omega) (by omega), w64 (x := (n : Int) + 1) (by omega) (by omega)]
    exact ev_pos (by omega) (Ev.bind es (ev_pos (by omega) (ev_eq er (by congr 1; omega))))
theorem markIntSS_l0 : ∀ (d n : Nat) (x : List (List Int)) (m : Int), n + d = x.length → 0 ≤ m → m + (((x.drop n).map List.length).sum : Nat) ≤ 4194304 → x.length ≤ 1048576 → ∃ v r, Ev (fun k => laws_markIntSS.l0 k x m (n : Int)) (v, r) ∧ m ≤ v ∧ v ≤ m + (((x.drop n).map List.length).sum : Nat) := by
  intro d
  induction d with
  | zero =>
    intro n x m hn h0 hm hl
    refine ⟨m, x, ev_succ ?_, by omega, by omega⟩
    simp only [laws_markIntSS.l0]
    exact ev_neg (by omega) (Ev.now _)
  | succ d ih =>
    intro n x m hn h0 hm hl
    have hx : n < x.length := by omega
    have er : laws_markIntSS.row x (n : Int) = x[n] := by
      show x.getD n [] = _
      rw [List.getD_eq_getElem?_getD, List.getElem?_eq_getElem hx]
      rfl
    have ed : ((x.drop n).map List.length).sum = x[n].length + ((x.drop (n + 1)).map List.length).sum := by
      rw [List.drop_eq_getElem_cons hx, List.map_cons, List.sum_cons]
    have es : (x.set n (marked m x[n].length)).drop (n + 1) = x.drop (n + 1) := List.drop_set_of_lt (by omega)
    obtain ⟨v, r, e, v1, v2⟩ := ih (n + 1) (x.set n (marked m x[n].length)) (m + (x[n].length : Int)) (by rw [List.length_set]; omega) (by omega) (by rw [es]; omega) (by rw [List.length_set]; exact hl)
    rw [es] at v2
    refine ⟨v, r, ev_succ ?_, by omega, by omega⟩
    simp only [laws_markIntSS.l0, er]
    refine ev_pos (by omega) (ev_pos (by omega) (Ev.bind (markIntS x[n] m h0 (by omega)) ?_))
    rw [w64 (x := (n : Int) + 1) (by omega) (by omega)]
    exact e
theorem markTable (a : List ByteArray) (t : ByteArray) (b : List (List Int)) (c : List Int) (h : a.length + wt b + c.length ≤ 1048576) : ∃ v r2 r3 r4, Ev (fun k => laws_markTable.f k a t b c 1) (v, r2, r3, r4) ∧ 0 ≤ v := by
  have hb : b.length + (b.map List.length).sum = wt b := rfl
  obtain ⟨r2, e2⟩ := markStringS_l0 a.length 0 a 1 (by omega) (by omega) (by omega) (by omega)
  obtain ⟨v, r3, e3, v1, v2⟩ := markIntSS_l0 b.length 0 b (1 + (a.length : Int)) (by omega) (by omega) (by rw [List.drop_zero]; omega) (by omega)
  rw [List.drop_zero] at v2
  have e4 := markIntS c v (by omega) (by omega)
  refine ⟨_, r2, r3, _, Ev.bind (a := (1 + (a.length : Int), r2)) e2 (Ev.bind (a := (v, r3)) e3 (Ev.bind e4 (Ev.now _))), by dsimp only; omega⟩
theorem eqGrid (c b : List (List Int)) (hc : wt c ≤ 1048576) (hb : wt b ≤ 1048576) : Ev (fun k => laws_eqGrid.f k c b c b) true := by
  unfold laws_eqGrid.f
  exact Ev.bind (eqIntSS c hc) (ev_pos rfl (Ev.bind (eqIntSS b hb) (ev_pos rfl (Ev.now _))))
theorem heldIntS_l0 (m : Int) (N : Nat) (hm : 0 ≤ m) (hN : m + N ≤ 35184372088832) : ∀ (d n : Nat), n + d = N → Ev (fun k => laws_heldIntS.l0 k (marked m N) (m + (n : Int)) (n : Int)) (m + (N : Int)) := by
  intro d
  induction d with
  | zero =>
    intro n hn
    refine ev_end fun k => ?_
    simp only [laws_heldIntS.l0]
    rw [if_neg (by rw [marked_length]; omega)]
    congr 1; omega
  | succ d ih =>
    intro n hn
    refine Ev.step (fun k => ?_) (ih (n + 1) (by omega))
    simp only [laws_heldIntS.l0]
    rw [if_pos (by rw [marked_length]; omega), if_pos (by omega), if_pos (rd_marked (by omega) (by omega)), w64 (x := (n : Int) + 1) (by omega) (by omega), w64 (by omega) (by omega)]
    have e : m + (n : Int) + 1 = m + ((n + 1 : Nat) : Int) := by omega
    rw [e]
    rfl
theorem heldIntS (N : Nat) (m : Int) (hm : 0 ≤ m) (hN : m + N ≤ 35184372088832) : Ev (fun k => laws_heldIntS.f k (marked m N) m) (m + (N : Int)) := by
  have := heldIntS_l0 m N hm hN N 0 (by omega)
  exact Ev.congr (fun k => by unfold laws_heldIntS.f; simp) this
def tot (l : List (List Int)) : Nat := (l.map List.length).sum
def markedL (m : Int) : List (List Int) → List (List Int)
  | [] => []
  | x :: xs => marked m x.length :: markedL (m + (x.length : Int)) xs
theorem markedL_length (m : Int) (l : List (List Int)) : (markedL m l).length = l.length := by
  induction l generalizing m with
  | nil => rfl
  | cons x l ih => simp [markedL, ih]
theorem tot_le_wt (l : List (List Int)) : l.length + tot l = wt l := rfl
theorem tot_cons (x : List Int) (l : List (List Int)) : tot (x :: l) = x.length + tot l := by unfold tot; simp
theorem row_at (p xs : List (List Int)) (x : List Int) : (p ++ x :: xs).getD p.length [] = x := by simp
theorem row_set (p xs : List (List Int)) (x y : List Int) : (p ++ x :: xs).set p.length y = (p ++ [y]) ++ xs := by simp
theorem markIntSS_at (l : List (List Int)) : ∀ (p : List (List Int)) (m : Int), 0 ≤ m → m + (tot l : Int) ≤ 4194304 → p.length + l.length ≤ 1048576 → Ev (fun k => laws_markIntSS.l0 k (p ++ l) m (p.length : Int)) (m + (tot l : Int), p ++ markedL m l) := by
  induction l with
  | nil =>
    intro p m h0 hm hl
    refine ev_succ ?_
    simp only [laws_markIntSS.l0, List.append_nil]
    exact ev_neg (by omega) (ev_eq (Ev.now _) (by simp [tot, markedL]))
  | cons x l ih =>
    intro p m h0 hm hl
    rw [tot_cons] at hm ⊢
    simp only [List.length_cons] at hl
    have h := ih (p ++ [marked m x.length]) (m + (x.length : Int)) (by omega) (by omega) (by simp only [List.length_append, List.length_cons, List.length_nil]; omega)
    have e1 : ((p ++ [marked m x.length]).length : Int) = (p.length : Int) + 1 := by simp
    rw [e1] at h
    refine ev_succ ?_
    have er : laws_markIntSS.row (p ++ x :: l) (p.length : Int) = x := by
      show (p ++ x :: l).getD (Int.toNat (p.length : Int)) [] = x
      rw [Int.toNat_natCast]
      exact row_at p l x
    simp only [laws_markIntSS.l0, er, Int.toNat_natCast, row_set, List.length_append, List.length_cons]
    rw [w64 (x := (p.length : Int) + 1) (by omega) (by omega)]
    refine ev_pos (by omega) (ev_pos (by omega) (Ev.bind (markIntS x m h0 (by omega)) ?_))
    simp only [row_set]
    refine ev_eq h ?_
    rw [show m + (x.length : Int) + (tot l : Int) = m + ((x.length + tot l : Nat) : Int) by omega]
    simp [markedL]
theorem markIntSS (l : List (List Int)) (m : Int) (h0 : 0 ≤ m) (hm : m + (tot l : Int) ≤ 4194304) (hl : l.length ≤ 1048576) : Ev (fun k => laws_markIntSS.f k l m) (m + (tot l : Int), markedL m l) := by
  unfold laws_markIntSS.f
  have h := markIntSS_at l [] m h0 hm (by simp only [List.length_nil]; omega)
  simpa using h
theorem heldIntSS_at (l : List (List Int)) : ∀ (p : List (List Int)) (m : Int), 0 ≤ m → m + (tot l : Int) ≤ 4194304 → p.length + l.length ≤ 1048576 → Ev (fun k => laws_heldIntSS.l0 k (p ++ markedL m l) m (p.length : Int)) (m + (tot l : Int)) := by
  induction l with
  | nil =>
    intro p m h0 hm hl
    refine ev_succ ?_
    simp only [laws_heldIntSS.l0, markedL, List.append_nil]
    exact ev_neg (by omega) (ev_eq (Ev.now _) (by simp [tot]))
  | cons x l ih =>
    intro p m h0 hm hl
    rw [tot_cons] at hm ⊢
    simp only [List.length_cons] at hl
    have h := ih (p ++ [marked m x.length]) (m + (x.length : Int)) (by omega) (by omega) (by simp only [List.length_append, List.length_cons, List.length_nil]; omega)
    have e1 : ((p ++ [marked m x.length]).length : Int) = (p.length : Int) + 1 := by simp
    rw [e1] at h
    refine ev_succ ?_
    simp only [markedL]
    have er : rd_L2 (p ++ marked m x.length :: markedL (m + (x.length : Int)) l) (p.length : Int) = marked m x.length := by
      rw [rdL, Int.toNat_natCast]
      exact row_at p _ _
    simp only [laws_heldIntSS.l0, er, List.length_append, List.length_cons]
    rw [w64 (x := (p.length : Int) + 1) (by omega) (by omega)]
    refine ev_pos (by omega) (ev_pos (by omega) (Ev.bind (heldIntS x.length m h0 (by omega)) (ev_neg (by omega) ?_)))
    rw [show p ++ marked m x.length :: markedL (m + (x.length : Int)) l = (p ++ [marked m x.length]) ++ markedL (m + (x.length : Int)) l by simp]
    refine ev_eq h ?_
    omega
theorem heldIntSS (l : List (List Int)) (m : Int) (h0 : 0 ≤ m) (hm : m + (tot l : Int) ≤ 4194304) (hl : l.length ≤ 1048576) : Ev (fun k => laws_heldIntSS.f k (markedL m l) m) (m + (tot l : Int)) := by
  unfold laws_heldIntSS.f
  have h := heldIntSS_at l [] m h0 hm (by simp only [List.length_nil]; omega)
  simpa using h
theorem markGrid (c b : List (List Int)) (hc : wt c ≤ 1048576) (hb : wt b ≤ 1048576) : Ev (fun k => laws_markGrid.f k c b 1) (1 + (tot c : Int) + (tot b : Int), markedL 1 c, markedL (1 + (tot c : Int)) b) := by
  have h1 := tot_le_wt c
  have h2 := tot_le_wt b
  unfold laws_markGrid.f
  exact Ev.bind (markIntSS c 1 (by omega) (by omega) (by omega)) (Ev.bind (markIntSS b _ (by omega) (by dsimp only; omega) (by omega)) (Ev.now _))
theorem heldGrid (c b : List (List Int)) (hc : wt c ≤ 1048576) (hb : wt b ≤ 1048576) : Ev (fun k => laws_heldGrid.f k (markedL 1 c) (markedL (1 + (tot c : Int)) b) 1) (1 + (tot c : Int) + (tot b : Int)) := by
  have h1 := tot_le_wt c
  have h2 := tot_le_wt b
  unfold laws_heldGrid.f
  exact Ev.bind (heldIntSS c 1 (by omega) (by omega) (by omega)) (ev_neg (by omega) (Ev.bind (heldIntSS b _ (by omega) (by omega) (by omega)) (ev_neg (by omega) (Ev.now _))))
/-- What a row has at this place. -/
def cell (f : Int) (r : List Int) : Int := if f < (r.length : Int) then rd r f else 0
def col (f : Int) (R : List (List Int)) : List Int := R.map (cell f)
def colOf (L : List ByteArray) (R : List (List Int)) (f : Int) : List Int := if 0 ≤ f ∧ f ≤ (L.length : Int) - 1 then col f R else []
theorem col_succ (f : Int) {R : List (List Int)} {n : Nat} (h : n < R.length) : col f (R.take (n + 1)) = col f (R.take n) ++ [cell f (R.getD n [])] := by
  have e : R.getD n [] = R[n] := by
    rw [List.getD_eq_getElem?_getD, List.getElem?_eq_getElem h]
    rfl
  rw [e]
  unfold col
  rw [List.take_add_one, List.getElem?_eq_getElem h, List.map_append]
  rfl
theorem col_all (f : Int) (R : List (List Int)) : col f (R.take R.length) = col f R := by rw [List.take_length]
theorem col_length (f : Int) (R : List (List Int)) : (col f R).length = R.length := List.length_map _
theorem col_take_length (f : Int) (R : List (List Int)) (n : Nat) : (col f (R.take n)).length ≤ R.length := by
  rw [col_length, List.length_take]; omega
theorem rd_col (f : Int) {R : List (List Int)} {n : Nat} (h : n < R.length) : rd (col f R) (n : Int) = cell f (R.getD n []) := by
  refine rd_of ?_
  unfold col
  rw [List.getElem?_map, List.getD_eq_getElem?_getD, List.getElem?_eq_getElem h]
  rfl
/-- x put among sorted numbers, behind those that are not greater. -/
def ins (l : List Int) (x : Int) : List Int := l.filter (fun y => decide (y ≤ x)) ++ x :: l.filter (fun y => decide (x < y))
def Asc (l : List Int) : Prop := l.Pairwise (· ≤ ·)
theorem ins_perm (l : List Int) (x : Int) : (ins l x).Perm (x :: l) := by
  unfold ins
  refine List.perm_middle.trans (List.Perm.cons _ ?_)
  have e : l.filter (fun y => decide (x < y)) = l.filter (fun y => !decide (y ≤ x)) := List.filter_congr fun y _ => by
    by_cases h : y ≤ x
    · simp [h]
    · simp [h]; omega
  rw [e]
  exact List.filter_append_perm _ l
theorem ins_length (l : List Int) (x : Int) : (ins l x).length = l.length + 1 := by
  have := (ins_perm l x).length_eq
  simpa using this
theorem ins_asc {l : List Int} (h : Asc l) (x : Int) : Asc (ins l x) := by
  unfold Asc ins at *
  rw [List.pairwise_append]
  refine ⟨h.filter _, ?_, ?_⟩
  · rw [List.pairwise_cons]
    refine ⟨fun y hy => ?_, h.filter _⟩
    have := (List.mem_filter.1 hy).2
    simp at this; omega
  · intro a ha b hb
    have h1 := (List.mem_filter.1 ha).2
    simp at h1
    rcases List.mem_cons.1 hb with rfl | hb
    · exact h1
    · have h2 := (List.mem_filter.1 hb).2
      simp at h2; omega
/-- The numbers in ascending order. -/
def isort (l : List Int) : List Int := l.foldl ins []
theorem isort_aux (l acc : List Int) (h : Asc acc) : Asc (l.foldl ins acc) ∧ (l.foldl ins acc).Perm (acc ++ l) := by
  induction l generalizing acc with
  | nil => exact ⟨h, by simp⟩
  | cons x l ih =>
    obtain ⟨h1, h2⟩ := ih (ins acc x) (ins_asc h x)
    refine ⟨h1, h2.trans ?_⟩
    refine ((ins_perm acc x).append_right l).trans ?_
    exact (List.perm_middle (a := x) (l₁ := acc) (l₂ := l)).symm
theorem isort_asc (l : List Int) : Asc (isort l) := (isort_aux l [] List.Pairwise.nil).1
theorem isort_perm (l : List Int) : (isort l).Perm l := by simpa [isort] using (isort_aux l [] List.Pairwise.nil).2
theorem isort_length (l : List Int) : (isort l).length = l.length := (isort_perm l).length_eq
theorem parts_at {out : List Int} (h : Asc out) {x : Int} {p : Nat} (hp : p ≤ out.length) (hb : ∀ y ∈ out.drop p, x < y) (ha : ∀ y ∈ out.take p, y ≤ x) : ins out x = out.take p ++ x :: out.drop p := by
  have a1 : (out.take p).filter (fun y => decide (y ≤ x)) = out.take p := List.filter_eq_self.2 fun y hy => by simpa using ha y hy
  have a2 : (out.drop p).filter (fun y => decide (y ≤ x)) = [] := List.filter_eq_nil_iff.2 fun y hy => by have := hb y hy; simp; omega
  have b1 : (out.take p).filter (fun y => decide (x < y)) = [] := List.filter_eq_nil_iff.2 fun y hy => by have := ha y hy; simp; omega
  have b2 : (out.drop p).filter (fun y => decide (x < y)) = out.drop p := List.filter_eq_self.2 fun y hy => by simpa using hb y hy
  have e1 : out.filter (fun y => decide (y ≤ x)) = out.take p := by
    conv => lhs; rw [← List.take_append_drop p out]
    rw [List.filter_append, a1, a2, List.append_nil]
  have e2 : out.filter (fun y => decide (x < y)) = out.drop p := by
    conv => lhs; rw [← List.take_append_drop p out]
    rw [List.filter_append, b1, b2, List.nil_append]
  unfold ins
  rw [e1, e2]
/-- Each number but those that are the one before. -/
def ddFrom : Int → List Int → List Int
  | _, [] => []
  | p, y :: l => if y = p then ddFrom p l else y :: ddFrom y l
def dd : List Int → List Int
  | [] => []
  | x :: l => x :: ddFrom x l
def Strict (l : List Int) : Prop := l.Pairwise (· < ·)
theorem ddFrom_sub (p : Int) (l : List Int) : (ddFrom p l).Sublist l := by
  induction l generalizing p with
  | nil => exact List.Sublist.slnil
  | cons y l ih =>
    simp only [ddFrom]
    split
    · exact (ih p).cons y
    · exact (ih y).cons_cons y
theorem dd_sub (l : List Int) : (dd l).Sublist l := by
  cases l with
  | nil => exact List.Sublist.slnil
  | cons x l => exact (ddFrom_sub x l).cons_cons x
theorem dd_length (l : List Int) : (dd l).length ≤ l.length := (dd_sub l).length_le
theorem ddFrom_strict (p : Int) (l : List Int) (h : Asc (p :: l)) : Strict (p :: ddFrom p l) := by
  induction l generalizing p with
  | nil => simp [ddFrom, Strict]
  | cons y l ih =>
    unfold Asc at *
    rw [List.pairwise_cons, List.pairwise_cons] at h
    obtain ⟨h1, h2, h3⟩ := h
    have hy := h1 y (by simp)
    simp only [ddFrom]
    split
    · rename_i e
      subst e
      exact ih y (by rw [List.pairwise_cons]; exact ⟨h2, h3⟩)
    · rename_i e
      have := ih y (by rw [List.pairwise_cons]; exact ⟨h2, h3⟩)
      unfold Strict at *
      rw [List.pairwise_cons]
      refine ⟨fun z hz => ?_, this⟩
      rcases List.mem_cons.1 hz with rfl | hz
      · omega
      · have := h2 z ((ddFrom_sub y l).subset hz)
        omega
theorem dd_strict {l : List Int} (h : Asc l) : Strict (dd l) := by
  cases l with
  | nil => exact List.Pairwise.nil
  | cons x l => exact ddFrom_strict x l h
theorem ddFrom_mem (p : Int) (l : List Int) {x : Int} (h : x ∈ l) : x = p ∨ x ∈ ddFrom p l := by
  induction l generalizing p with
  | nil => simp at h
  | cons y l ih =>
    simp only [ddFrom]
    rcases List.mem_cons.1 h with rfl | h
    · split
      · rename_i e; exact .inl e
      · exact .inr (by simp)
    · split
      · exact ih p h
      · rcases ih y h with rfl | g
        · exact .inr (by simp)
        · exact .inr (by simp [g])
theorem dd_mem {l : List Int} {x : Int} : x ∈ dd l ↔ x ∈ l := by
  refine ⟨fun h => (dd_sub l).subset h, fun h => ?_⟩
  cases l with
  | nil => simp at h
  | cons y l =>
    simp only [dd, List.mem_cons] at h ⊢
    rcases h with rfl | h
    · exact .inl rfl
    · exact ddFrom_mem y l h
theorem isort_of_asc {l : List Int} (h : Asc l) : isort l = l :=
  List.Perm.eq_of_pairwise (le := fun a b => a ≤ b) (fun a b _ _ h1 h2 => Int.le_antisymm h1 h2) (isort_asc l) h (isort_perm l)
/-- The place of the k-th of b borders among n. -/
def bord (n b k : Nat) : Nat := n * k / b
theorem bord_le {n b k : Nat} (hb : 0 < b) (hk : k ≤ b) : bord n b k ≤ n := by
  unfold bord
  exact Nat.le_trans (Nat.div_le_div_right (Nat.mul_le_mul_left n hk)) (by rw [Nat.mul_div_cancel _ hb]; exact Nat.le_refl _)
theorem bord_mono {n b j k : Nat} (h : j ≤ k) : bord n b j ≤ bord n b k := Nat.div_le_div_right (Nat.mul_le_mul_left n h)
/-- What the k-th of b borders gives. -/
def pick (all : List Int) (b k : Nat) : List Int :=
  if 1 ≤ bord all.length b k ∧ rd all ((bord all.length b k - 1 : Nat) : Int) < rd all ((all.length - 1 : Nat) : Int) then [rd all ((bord all.length b k - 1 : Nat) : Int)] else []
def raw (all : List Int) (b : Nat) : Nat → List Int
  | 0 => []
  | m + 1 => raw all b m ++ pick all b (m + 1)
theorem raw_length (all : List Int) (b m : Nat) : (raw all b m).length ≤ m := by
  induction m with
  | zero => simp [raw]
  | succ m ih =>
    simp only [raw, List.length_append]
    have : (pick all b (m + 1)).length ≤ 1 := by unfold pick; split <;> simp
    omega
theorem raw_mem {all : List Int} {b m : Nat} {x : Int} (h : x ∈ raw all b m) : ∃ k, 1 ≤ k ∧ k ≤ m ∧ 1 ≤ bord all.length b k ∧ x = rd all ((bord all.length b k - 1 : Nat) : Int) ∧ x < rd all ((all.length - 1 : Nat) : Int) := by
  induction m with
  | zero => simp [raw] at h
  | succ m ih =>
    simp only [raw, List.mem_append] at h
    rcases h with h | h
    · obtain ⟨k, h1, h2, h3⟩ := ih h
      exact ⟨k, h1, by omega, h3⟩
    · unfold pick at h
      split at h
      · rename_i c
        have hx := List.mem_singleton.1 h
        exact ⟨m + 1, by omega, by omega, c.1, hx, hx ▸ c.2⟩
      · simp at h
theorem raw_has {all : List Int} {b m k : Nat} (h1 : 1 ≤ k) (h2 : k ≤ m) (h3 : 1 ≤ bord all.length b k) (h4 : rd all ((bord all.length b k - 1 : Nat) : Int) < rd all ((all.length - 1 : Nat) : Int)) : rd all ((bord all.length b k - 1 : Nat) : Int) ∈ raw all b m := by
  induction m with
  | zero => omega
  | succ m ih =>
    simp only [raw, List.mem_append]
    by_cases e : k = m + 1
    · subst e
      right
      unfold pick
      rw [if_pos ⟨h3, h4⟩]
      simp
    · exact .inl (ih (by omega))
theorem asc_rd {all : List Int} (hs : Asc all) {i j : Nat} (h : i ≤ j) (hj : j < all.length) : rd all (i : Int) ≤ rd all (j : Int) := by
  rw [rd_of (List.getElem?_eq_getElem (show i < all.length by omega)), rd_of (List.getElem?_eq_getElem hj)]
  by_cases e : i = j
  · subst e; omega
  · exact List.pairwise_iff_getElem.1 hs i j (by omega) hj (by omega)
theorem raw_asc {all : List Int} (hs : Asc all) {b : Nat} (hb : 0 < b) : ∀ m, m ≤ b → Asc (raw all b m) := by
  intro m
  induction m with
  | zero => intro _; exact List.Pairwise.nil
  | succ m ih =>
    intro hm
    unfold Asc at *
    simp only [raw]
    rw [List.pairwise_append]
    refine ⟨ih (by omega), ?_, ?_⟩
    · unfold pick; split <;> simp
    · intro x hx y hy
      obtain ⟨k, h1, h2, h3, h4, _⟩ := raw_mem hx
      unfold pick at hy
      split at hy
      · rename_i c
        have hy := List.mem_singleton.1 hy
        rw [h4, hy]
        have b1 := bord_mono (n := all.length) (b := b) (show k ≤ m + 1 by omega)
        have b2 := bord_le (n := all.length) hb hm
        exact asc_rd hs (by omega) (by omega)
      · simp at hy
/-- The cut points. -/
def cutsOf (l : List Int) (b : Int) : List Int := if (2 ≤ b ∧ b ≤ 8) ∧ (1 ≤ l.length ∧ l.length ≤ 40) then dd (raw (isort l) b.toNat (b.toNat - 1)) else []
theorem cutsOf_length (l : List Int) (b : Int) : (cutsOf l b).length ≤ 7 := by
  unfold cutsOf
  split
  · have h1 := dd_length (raw (isort l) b.toNat (b.toNat - 1))
    have h2 := raw_length (isort l) b.toNat (b.toNat - 1)
    omega
  · simp
theorem bord_int {n b m : Nat} (hn : n ≤ 40) (hb : 0 < b) (hb8 : b ≤ 8) (hm : m ≤ b) : wrap64 (Int.tdiv (wrap64 ((n : Int) * (m : Int))) (b : Int)) = ((bord n b m : Nat) : Int) := by
  have h1 : n * m ≤ 40 * 8 := Nat.mul_le_mul hn (by omega)
  have h2 := bord_le (n := n) hb hm
  have e1 : (n : Int) * (m : Int) = ((n * m : Nat) : Int) := (Int.natCast_mul n m).symm
  rw [e1, w64 (x := ((n * m : Nat) : Int)) (by omega) (by omega), ← Int.ofNat_tdiv]
  show wrap64 ((bord n b m : Nat) : Int) = _
  exact w64 (by omega) (by omega)
/-- How many of the numbers are less than v. -/
def less (l : List Int) (v : Int) : Nat := l.countP (fun x => decide (x < v))
theorem less_cons (x : Int) (l : List Int) (v : Int) : less (x :: l) v = less l v + if x < v then 1 else 0 := by
  unfold less
  rw [List.countP_cons]
  simp
theorem less_le (l : List Int) (v : Int) : less l v ≤ l.length := List.countP_le_length
def Letter (c : Int) : Prop := 97 ≤ c ∧ c ≤ 122
def Figure (c : Int) : Prop := 48 ≤ c ∧ c ≤ 57
/-- From place n on each byte is a letter or a figure. -/
def NameFrom (s : ByteArray) (n : Nat) : Prop := ∀ j : Nat, n ≤ j → j < s.size → Letter (bt s (j : Int)) ∨ Figure (bt s (j : Int))
def IsName (s : ByteArray) : Prop := 1 ≤ s.size ∧ s.size ≤ 12 ∧ Letter (bt s 0) ∧ NameFrom s 0
theorem NameFrom.step {s : ByteArray} {n : Nat} (h : n < s.size) : NameFrom s n ↔ (Letter (bt s (n : Int)) ∨ Figure (bt s (n : Int))) ∧ NameFrom s (n + 1) := by
  constructor
  · exact fun g => ⟨g n (Nat.le_refl _) h, fun j hj => g j (by omega)⟩
  · intro ⟨g0, g⟩ j hj hlt
    by_cases e : j = n
    · subst e; exact g0
    · exact g j (by omega) hlt
theorem NameFrom.stop {s : ByteArray} : NameFrom s s.size := fun j h1 h2 => by omega
theorem specIn (a b c : Int) : spec_l1In.f a b c = some (decide (b ≤ a ∧ a ≤ c)) := by
  unfold spec_l1In.f
  by_cases h : b ≤ a
  · rw [if_pos h]; simp [h]
  · rw [if_neg h]; simp [h]
theorem specNameOk_l0 (s : ByteArray) (hl : s.size ≤ 140737488351232) : ∀ (d n : Nat), n + d = s.size → Ev (fun k => spec_NameOk.l0 k s (n : Int)) (dec (NameFrom s n)) := by
  intro d
  induction d with
  | zero =>
    intro n hn
    refine ev_end fun k => ?_
    simp only [spec_NameOk.l0]
    obtain rfl : n = s.size := by omega
    rw [if_neg (by omega), dec_true NameFrom.stop]
  | succ d ih =>
    intro n hn
    have hs := NameFrom.step (s := s) (n := n) (by omega)
    have hb := bt_range s (n : Int)
    by_cases h1 : Letter (bt s (n : Int))
    · have e : dec (NameFrom s n) = dec (NameFrom s (n + 1)) := dec_congr (by rw [hs]; exact ⟨fun g => g.2, fun g => ⟨.inl h1, g⟩⟩)
      rw [e]
      refine Ev.step (fun k => ?_) (ih (n + 1) (by omega))
      simp only [spec_NameOk.l0, specIn, Option.bind_some]
      unfold Letter at h1
      rw [if_pos (by omega), if_pos (by omega), w64 (x := bt s (n : Int)) (by omega) (by omega), if_pos (by simpa using h1), w64 (by omega) (by omega)]
      rfl
    · by_cases h2 : Figure (bt s (n : Int))
      · have e : dec (NameFrom s n) = dec (NameFrom s (n + 1)) := dec_congr (by rw [hs]; exact ⟨fun g => g.2, fun g => ⟨.inr h2, g⟩⟩)
        rw [e]
        refine Ev.step (fun k => ?_) (ih (n + 1) (by omega))
        simp only [spec_NameOk.l0, specIn, Option.bind_some]
        unfold Letter at h1
        unfold Figure at h2
        rw [if_pos (by omega), if_pos (by omega), w64 (x := bt s (n : Int)) (by omega) (by omega), if_neg (by simpa using h1), if_pos (by simpa using h2), w64 (by omega) (by omega)]
        rfl
      · refine ev_end fun k => ?_
        simp only [spec_NameOk.l0, specIn, Option.bind_some]
        have e : dec (NameFrom s n) = false := dec_false (by rw [hs]; exact fun g => g.1.elim h1 h2)
        unfold Letter at h1
        unfold Figure at h2
        rw [if_pos (by omega), if_pos (by omega), w64 (x := bt s (n : Int)) (by omega) (by omega), if_neg (by simpa using h1), if_neg (by simpa using h2), e]
theorem specNameOk (s : ByteArray) (hl : s.size ≤ 140737488351232) : Ev (fun k => spec_NameOk.f k s) (dec (IsName s)) := by
  unfold spec_NameOk.f
  simp only [specIn, Option.bind_some]
  have hb := bt_range s 0
  by_cases h1 : 1 ≤ s.size ∧ s.size ≤ 12
  · refine ev_pos (by simp; omega) (ev_pos (by omega) ?_)
    by_cases h2 : bt s 0 < 97
    · refine ev_end fun k => ?_
      simp only [spec_NameOk.j0]
      rw [if_pos (by simpa using h2), dec_false]
      intro g; have := g.2.2.1; unfold Letter at this; omega
    · have e : dec (IsName s) = dec (NameFrom s 0) := dec_congr ⟨fun g => g.2.2.2, fun g => ⟨h1.1, h1.2, (g 0 (by omega) (by omega)).elim (fun z => z) (fun z => by unfold Figure at z; simp only [Int.natCast_zero] at z; omega), g⟩⟩
      rw [e]
      refine Ev.step (fun k => ?_) (specNameOk_l0 s hl s.size 0 (by omega))
      simp only [spec_NameOk.j0]
      rw [if_neg (by simpa using h2)]
      rfl
  · refine ev_neg (by simp; omega) (ev_end fun k => ?_)
    simp only [spec_NameOk.j0]
    rw [if_pos trivial, dec_false]
    intro g; exact h1 ⟨g.1, g.2.1⟩
def Deci (x : Int) : Prop := -2147483647 ≤ x ∧ x ≤ 2147483647
/-- Cut points that are valid. -/
def CutsP (c : List Int) : Prop := (∀ j : Nat, 0 ≤ j → j < c.length → Deci (rd c (j : Int)) ∧ (0 < j → rd c ((j : Int) - 1) < rd c (j : Int))) ∧ c.length ≤ 7
def sAt (l : List ByteArray) (j : Nat) : ByteArray := rdOf ByteArray.empty l (j : Int)
theorem sAt_size {l : List ByteArray} {m : Nat} (h : ∀ x ∈ l, x.size ≤ m) (j : Nat) : (sAt l j).size ≤ m := by
  unfold sAt
  rw [rdOfn, List.getD_eq_getElem?_getD]
  by_cases hj : j < l.length
  · rw [List.getElem?_eq_getElem hj]
    exact h _ (List.getElem_mem hj)
  · rw [List.getElem?_eq_none (by omega)]
    exact Nat.zero_le _
theorem sAt_take (l : List ByteArray) {n j : Nat} (h : j < n) : sAt (l.take n) j = sAt l j := by
  unfold sAt
  rw [rdOfn, rdOfn, List.getD_eq_getElem?_getD, List.getD_eq_getElem?_getD, List.getElem?_take, if_pos h]
theorem sAt_app_lt (l : List ByteArray) (t : ByteArray) {j : Nat} (h : j < l.length) : sAt (l ++ [t]) j = sAt l j := by
  unfold sAt
  rw [rdOfn, rdOfn, List.getD_eq_getElem?_getD, List.getD_eq_getElem?_getD, List.getElem?_append_left h]
theorem sAt_app_eq (l : List ByteArray) (t : ByteArray) : sAt (l ++ [t]) l.length = t := by
  unfold sAt
  rw [rdOfn, List.getD_eq_getElem?_getD, List.getElem?_append_right (Nat.le_refl _), Nat.sub_self]
  rfl
def HasP (l : List ByteArray) (n : Nat) (s : ByteArray) : Prop := ∃ j, j < n ∧ (sAt l j).toList = s.toList
theorem hasP_take (l : List ByteArray) {n : Nat} (h : n ≤ l.length) (s : ByteArray) : HasP (l.take n) (l.take n).length s ↔ HasP l n s := by
  have e : (l.take n).length = n := by rw [List.length_take]; omega
  unfold HasP
  rw [e]
  exact ⟨fun ⟨j, a, b⟩ => ⟨j, a, by rw [sAt_take l a] at b; exact b⟩, fun ⟨j, a, b⟩ => ⟨j, a, by rw [sAt_take l a]; exact b⟩⟩
theorem specHas_l0 (l : List ByteArray) (s : ByteArray) (hl : l.length ≤ 1048576) : ∀ (d n : Nat), n + d = l.length → Ev (fun k => spec_l9Has.l0 k l s (n : Int)) (dec (∃ j, n ≤ j ∧ j < l.length ∧ (sAt l j).toList = s.toList)) := by
  intro d
  induction d with
  | zero =>
    intro n hn
    refine ev_succ ?_
    simp only [spec_l9Has.l0]
    exact ev_neg (by omega) (ev_eq (Ev.now _) (dec_false (fun ⟨j, a, b, _⟩ => by omega)).symm)
  | succ d ih =>
    intro n hn
    refine ev_succ ?_
    simp only [spec_l9Has.l0]
    refine ev_pos (by omega) (ev_pos (by omega) ?_)
    by_cases h : (sAt l n).toList = s.toList
    · exact ev_pos h (ev_eq (Ev.now _) (dec_true ⟨n, Nat.le_refl _, by omega, h⟩).symm)
    · refine ev_neg h ?_
      rw [w64 (x := (n : Int) + 1) (by omega) (by omega)]
      refine ev_eq (ih (n + 1) (by omega)) (dec_congr ⟨fun ⟨j, a, b, c⟩ => ⟨j, by omega, b, c⟩, fun ⟨j, a, b, c⟩ => ⟨j, ?_, b, c⟩⟩)
      by_cases e : j = n
      · exact absurd (e ▸ c) h
      · omega
theorem specHas (l : List ByteArray) (s : ByteArray) (hl : l.length ≤ 1048576) : Ev (fun k => spec_l9Has.f k l s) (dec (HasP l l.length s)) := by
  unfold spec_l9Has.f
  exact ev_eq (specHas_l0 l s hl l.length 0 (by omega)) (dec_congr ⟨fun ⟨j, _, b, c⟩ => ⟨j, b, c⟩, fun ⟨j, b, c⟩ => ⟨j, Nat.zero_le _, b, c⟩⟩)
def NameAt (l : List ByteArray) (j : Nat) : Prop := IsName (sAt l j) ∧ ¬ HasP l j (sAt l j)
theorem specVal (x : Int) : spec_l6Value.f x = some (decide (-2147483647 ≤ x ∧ x ≤ 2147483647)) := by
  unfold spec_l6Value.f
  rw [specIn]; rfl
theorem deciT {x : Int} (h : Deci x) : decide (-2147483647 ≤ x ∧ x ≤ 2147483647) = true := decide_eq_true h
theorem deciF {x : Int} (h : ¬ Deci x) : decide (-2147483647 ≤ x ∧ x ≤ 2147483647) = false := decide_eq_false h
def RowT (m : Nat) (R : List (List Int)) (Y : List Int) (j : Nat) : Prop := ((R.getD j []).length : Int) = (m : Int) ∧ Deci (rd Y (j : Int)) ∧ ∀ i : Nat, 0 ≤ i → i < m → Deci (rd (R.getD j []) (i : Int))
theorem specRows (L : List ByteArray) (t : ByteArray) (R : List (List Int)) (Y : List Int) (m : Nat) (hm : m ≤ 1048576) (hR : R.length ≤ 1048576) (hY : Y.length = R.length) : ∀ (d n : Nat), n + d = R.length → Ev (fun k => spec_TableOk.l1 k (m : Int) (n : Int) L t R Y) (dec (∀ j, n ≤ j → j < R.length → RowT m R Y j)) := by
  intro d
  induction d with
  | zero =>
    intro n hn
    refine ev_succ ?_
    simp only [spec_TableOk.l1]
    exact ev_neg (by omega) (ev_eq (Ev.now _) (dec_true (fun j h1 h2 => by omega)).symm)
  | succ d ih =>
    intro n hn
    have go := ih (n + 1) (by omega)
    have st : (∀ j, n ≤ j → j < R.length → RowT m R Y j) ↔ RowT m R Y n ∧ ∀ j, n + 1 ≤ j → j < R.length → RowT m R Y j := by
      constructor
      · exact fun h => ⟨h n (Nat.le_refl _) (by omega), fun j h1 h2 => h j (by omega) h2⟩
      · intro ⟨h0, h⟩ j h1 h2
        by_cases e : j = n
        · exact e ▸ h0
        · exact h j (by omega) h2
    rw [dec_congr st]
    refine ev_succ ?_
    simp only [spec_TableOk.l1, rdL, Int.toNat_natCast, specVal, Option.bind_some]
    refine ev_pos (by omega) (ev_pos (by omega) ?_)
    by_cases k1 : ((R.getD n []).length : Int) = (m : Int)
    case neg =>
      refine ev_neg k1 (ev_succ ?_)
      simp only [spec_TableOk.j3]
      exact ev_pos trivial (ev_eq (Ev.now _) (dec_false (fun h => k1 h.1.1)).symm)
    refine ev_pos k1 (ev_pos (by omega) (ev_succ ?_))
    simp only [spec_TableOk.j3]
    by_cases k2 : Deci (rd Y (n : Int))
    case neg =>
      refine ev_pos ?_ (ev_eq (Ev.now _) (dec_false (fun h => k2 h.1.2.1)).symm)
      rw [deciF k2]; rfl
    refine ev_neg (by rw [deciT k2]; decide) ?_
    refine ev_eq (all_loop2 (fun k i => spec_TableOk.l2 k (m : Int) (n : Int) i L t R Y) m (fun i => Deci (rd (R.getD n []) (i : Int))) (∀ j, n + 1 ≤ j → j < R.length → RowT m R Y j) ?_ ?_ ?_ m 0 (by omega)) (dec_congr ⟨fun h => ⟨⟨k1, k2, h.1⟩, h.2⟩, fun h => ⟨h.1.2.2, h.2⟩⟩)
    · refine ev_succ ?_
      simp only [spec_TableOk.l2]
      refine ev_neg (by omega) ?_
      rw [w64 (x := (n : Int) + 1) (by omega) (by omega)]
      exact go
    · intro i r hi hp h
      refine ev_succ ?_
      simp only [spec_TableOk.l2, rdL, Int.toNat_natCast, specVal, Option.bind_some]
      refine ev_pos (by omega) (ev_pos (by omega) (ev_pos (by omega) (ev_pos (by omega) (ev_pos (by omega) (ev_pos (decide_eq_true hp) ?_)))))
      rw [w64 (x := (i : Int) + 1) (by omega) (by omega)]
      exact h
    · intro i hi hp
      refine ev_succ ?_
      simp only [spec_TableOk.l2, rdL, Int.toNat_natCast, specVal, Option.bind_some]
      exact ev_pos (by omega) (ev_pos (by omega) (ev_pos (by omega) (ev_pos (by omega) (ev_pos (by omega) (ev_neg (by rw [deciF hp]; decide) (Ev.now _))))))
def NamesT (L : List ByteArray) : Prop := ∀ j, 0 ≤ j → j < L.length → NameAt L j
def RowsT (L : List ByteArray) (R : List (List Int)) (Y : List Int) : Prop := ∀ j, 0 ≤ j → j < R.length → RowT L.length R Y j
def TableP (L : List ByteArray) (t : ByteArray) (R : List (List Int)) (Y : List Int) : Prop :=
  (1 ≤ (L.length : Int) ∧ (L.length : Int) ≤ 4) ∧ IsName t ∧ ¬ HasP L L.length t ∧ (1 ≤ (R.length : Int) ∧ (R.length : Int) ≤ 40) ∧ (Y.length : Int) = (R.length : Int) ∧ NamesT L ∧ RowsT L R Y
theorem specTableOk (L : List ByteArray) (t : ByteArray) (R : List (List Int)) (Y : List Int) (hL : L.length ≤ 1048576) (hs : ∀ x ∈ L, x.size ≤ 1048576) (ht : t.size ≤ 1048576) (hR : R.length ≤ 1048576) : Ev (fun k => spec_TableOk.f k L t R Y) (dec (TableP L t R Y)) := by
  unfold spec_TableOk.f
  simp only [specIn, Option.bind_some]
  have stop : ∀ r : Bool, r = false → Ev (fun k => spec_TableOk.j0 k (L.length : Int) true L t R Y) r := by
    rintro _ rfl
    refine ev_succ ?_
    simp only [spec_TableOk.j0]
    exact ev_pos trivial (Ev.now _)
  unfold TableP
  by_cases k1 : 1 ≤ (L.length : Int) ∧ (L.length : Int) ≤ 4
  case neg => exact ev_neg (by rw [decide_eq_false k1]; decide) (stop _ (dec_false (fun h => k1 h.1)))
  refine ev_pos (decide_eq_true k1) (Ev.bind (specNameOk t (by omega)) ?_)
  by_cases k2 : IsName t
  case neg => exact ev_neg (by rw [dec_false k2]; decide) (stop _ (dec_false (fun h => k2 h.2.1)))
  refine ev_pos (dec_true k2) (Ev.bind (specHas L t hL) ?_)
  by_cases k3 : HasP L L.length t
  · exact ev_pos (dec_true k3) (stop _ (dec_false (fun h => h.2.2.1 k3)))
  refine ev_neg (by rw [dec_false k3]; decide) ?_
  by_cases k4 : 1 ≤ (R.length : Int) ∧ (R.length : Int) ≤ 40
  case neg => exact ev_neg (by rw [decide_eq_false k4]; decide) (stop _ (dec_false (fun h => k4 h.2.2.2.1)))
  refine ev_pos (decide_eq_true k4) ?_
  by_cases k5 : (Y.length : Int) = (R.length : Int)
  case neg =>
    rw [bne_iff_ne.2 k5]
    exact stop _ (dec_false (fun h => k5 h.2.2.2.2.1))
  rw [k5, bne_self_eq_false]
  refine ev_succ ?_
  simp only [spec_TableOk.j0]
  refine ev_neg (by decide) ?_
  refine ev_eq (all_loop2 (fun k i => spec_TableOk.l0 k (L.length : Int) i L t R Y) L.length (NameAt L) (RowsT L R Y) ?_ ?_ ?_ L.length 0 (by omega)) (dec_congr ⟨fun h => ⟨k1, k2, k3, k4, trivial, h.1, h.2⟩, fun h => ⟨h.2.2.2.2.2.1, h.2.2.2.2.2.2⟩⟩)
  · refine ev_succ ?_
    simp only [spec_TableOk.l0]
    exact ev_neg (by omega) (specRows L t R Y L.length hL hR (by omega) R.length 0 (by omega))
  · intro n r hn hp h
    have g := sAt_size hs n
    refine ev_succ ?_
    simp only [spec_TableOk.l0, Int.toNat_natCast]
    refine ev_pos (by omega) (ev_pos (by omega) (ev_pos (by omega) (Ev.bind (specNameOk (sAt L n) (by omega)) (ev_pos (dec_true hp.1) (ev_pos (by omega) (Ev.bind (specHas (L.take n) (sAt L n) (by rw [List.length_take]; omega)) (ev_neg ?_ ?_)))))))
    · rw [dec_congr (hasP_take L (by omega) _), dec_false hp.2]; decide
    · rw [w64 (x := (n : Int) + 1) (by omega) (by omega)]
      exact h
  · intro n hn hp
    have g := sAt_size hs n
    refine ev_succ ?_
    simp only [spec_TableOk.l0, Int.toNat_natCast]
    refine ev_pos (by omega) (ev_pos (by omega) (ev_pos (by omega) (Ev.bind (specNameOk (sAt L n) (by omega)) ?_)))
    by_cases a : IsName (sAt L n)
    · refine ev_pos (dec_true a) (ev_pos (by omega) (Ev.bind (specHas (L.take n) (sAt L n) (by rw [List.length_take]; omega)) (ev_pos ?_ (Ev.now _))))
      rw [dec_congr (hasP_take L (by omega) _)]
      exact dec_true (Classical.byContradiction fun z => hp ⟨a, z⟩)
    · exact ev_neg (by rw [dec_false a]; decide) (Ev.now _)
/-- The bins of a column. -/
def binsOf (c col : List Int) : List Int := col.map (fun v => (less c v : Int))
def gridC (R : List (List Int)) (b : Int) (n : Nat) : List (List Int) := (List.range n).map (fun f : Nat => cutsOf (col (f : Int) R) b)
def gridB (R : List (List Int)) (b : Int) (n : Nat) : List (List Int) := (List.range n).map (fun f : Nat => binsOf (cutsOf (col (f : Int) R) b) (col (f : Int) R))
def GridIn (L : List ByteArray) (t : ByteArray) (R : List (List Int)) (Y : List Int) (b : Int) : Prop := TableP L t R Y ∧ (2 ≤ b ∧ b ≤ 8)
theorem gridC_succ (R : List (List Int)) (b : Int) (n : Nat) : gridC R b (n + 1) = gridC R b n ++ [cutsOf (col (n : Int) R) b] := by
  unfold gridC; rw [List.range_succ, List.map_append]; rfl
theorem gridB_succ (R : List (List Int)) (b : Int) (n : Nat) : gridB R b (n + 1) = gridB R b n ++ [binsOf (cutsOf (col (n : Int) R) b) (col (n : Int) R)] := by
  unfold gridB; rw [List.range_succ, List.map_append]; rfl
theorem gridC_length (R : List (List Int)) (b : Int) (n : Nat) : (gridC R b n).length = n := by unfold gridC; simp
theorem gridB_length (R : List (List Int)) (b : Int) (n : Nat) : (gridB R b n).length = n := by unfold gridB; simp
theorem gridC_at {R : List (List Int)} {b : Int} {n f : Nat} (h : f < n) : (gridC R b n).getD f [] = cutsOf (col (f : Int) R) b := by
  unfold gridC
  rw [List.getD_eq_getElem?_getD, List.getElem?_map, List.getElem?_range h]
  rfl
theorem gridB_at {R : List (List Int)} {b : Int} {n f : Nat} (h : f < n) : (gridB R b n).getD f [] = binsOf (cutsOf (col (f : Int) R) b) (col (f : Int) R) := by
  unfold gridB
  rw [List.getD_eq_getElem?_getD, List.getElem?_map, List.getElem?_range h]
  rfl
theorem binsOf_length (c l : List Int) : (binsOf c l).length = l.length := List.length_map _
theorem binsOf_succ (c : List Int) {l : List Int} {n : Nat} (h : n < l.length) : binsOf c (l.take (n + 1)) = binsOf c (l.take n) ++ [(less c (rd l (n : Int)) : Int)] := by
  unfold binsOf
  rw [List.take_add_one, List.getElem?_eq_getElem h, List.map_append, rd_of (List.getElem?_eq_getElem h)]
  rfl
theorem wt_le {l : List (List Int)} {m : Nat} (h : ∀ x ∈ l, x.length ≤ m) : wt l ≤ l.length + l.length * m := by
  unfold wt
  induction l with
  | nil => simp
  | cons x l ih =>
    have h1 := h x (List.mem_cons_self ..)
    have h2 := ih (fun y hy => h y (List.mem_cons_of_mem _ hy))
    simp only [List.map_cons, List.sum_cons, List.length_cons]
    rw [Nat.succ_mul]
    omega
theorem gridC_wt (R : List (List Int)) (b : Int) {n : Nat} (h : n ≤ 4) : wt (gridC R b n) ≤ 1000 := by
  have h1 : wt (gridC R b n) ≤ (gridC R b n).length + (gridC R b n).length * 7 := wt_le (fun x hx => by
    unfold gridC at hx
    obtain ⟨f, _, rfl⟩ := List.mem_map.1 hx
    exact cutsOf_length _ _)
  rw [gridC_length] at h1
  omega
theorem gridB_wt (R : List (List Int)) (b : Int) {n : Nat} (h : n ≤ 4) (hR : R.length ≤ 42) : wt (gridB R b n) ≤ 1000 := by
  have h1 : wt (gridB R b n) ≤ (gridB R b n).length + (gridB R b n).length * 42 := wt_le (fun x hx => by
    unfold gridB at hx
    obtain ⟨f, _, rfl⟩ := List.mem_map.1 hx
    rw [binsOf_length, col_length]; exact hR)
  rw [gridB_length] at h1
  omega
open Classical in
noncomputable def gridOf (L : List ByteArray) (t : ByteArray) (R : List (List Int)) (Y : List Int) (b : Int) : List (List Int) × List (List Int) := if GridIn L t R Y b then (gridC R b L.length, gridB R b L.length) else ([], [])
theorem implWithin (a b c : Int) : impl_within.f a b c = some (decide (b ≤ a ∧ a ≤ c)) := by
  unfold impl_within.f
  by_cases h : b ≤ a
  · rw [if_pos h]; simp [h]
  · rw [if_neg h]; simp [h]
theorem implNameOk_l0 (s : ByteArray) (hl : s.size ≤ 140737488351232) : ∀ (d n : Nat), n + d = s.size → Ev (fun k => impl_NameOk.l0 k s (s.size : Int) (n : Int)) (dec (NameFrom s n ∧ (n = 0 → 0 < s.size → Letter (bt s 0)) ∧ 1 ≤ s.size ∧ s.size ≤ 12)) := by
  intro d
  induction d with
  | zero =>
    intro n hn
    refine ev_end fun k => ?_
    simp only [impl_NameOk.l0, implWithin, Option.bind_some]
    obtain rfl : n = s.size := by omega
    rw [if_neg (by omega), ← dec_eq]
    congr 1
    refine dec_congr ⟨fun g => ⟨NameFrom.stop, fun h => by omega, by omega, by omega⟩, fun g => by omega⟩
  | succ d ih =>
    intro n hn
    have hs := NameFrom.step (s := s) (n := n) (by omega)
    have hb := bt_range s (n : Int)
    by_cases h1 : Letter (bt s (n : Int))
    · have e : dec (NameFrom s n ∧ (n = 0 → 0 < s.size → Letter (bt s 0)) ∧ 1 ≤ s.size ∧ s.size ≤ 12) = dec (NameFrom s (n + 1) ∧ (n + 1 = 0 → 0 < s.size → Letter (bt s 0)) ∧ 1 ≤ s.size ∧ s.size ≤ 12) :=
        dec_congr (by rw [hs]; exact ⟨fun g => ⟨g.1.2, fun h => by omega, g.2.2⟩, fun g => ⟨⟨.inl h1, g.1⟩, fun h _ => by subst h; exact h1, g.2.2⟩⟩)
      rw [e]
      refine Ev.step (fun k => ?_) (ih (n + 1) (by omega))
      simp only [impl_NameOk.l0]
      unfold Letter at h1
      rw [if_pos (by omega), if_pos (by omega), if_pos (by omega), if_pos (by omega), if_pos (by omega), w64 (by omega) (by omega)]
      rfl
    · by_cases h2 : Figure (bt s (n : Int)) ∧ n ≠ 0
      · have e : dec (NameFrom s n ∧ (n = 0 → 0 < s.size → Letter (bt s 0)) ∧ 1 ≤ s.size ∧ s.size ≤ 12) = dec (NameFrom s (n + 1) ∧ (n + 1 = 0 → 0 < s.size → Letter (bt s 0)) ∧ 1 ≤ s.size ∧ s.size ≤ 12) :=
          dec_congr (by rw [hs]; exact ⟨fun g => ⟨g.1.2, fun h => by omega, g.2.2⟩, fun g => ⟨⟨.inr h2.1, g.1⟩, fun h => absurd h h2.2, g.2.2⟩⟩)
        rw [e]
        refine Ev.step (fun k => ?_) (ih (n + 1) (by omega))
        simp only [impl_NameOk.l0]
        unfold Letter at h1
        unfold Figure at h2
        rw [if_pos (by omega), if_pos (by omega), if_pos (by omega)]
        by_cases h3 : bt s (n : Int) ≥ 97
        · rw [if_pos h3, if_neg (by omega), if_neg (by omega), if_neg (by omega), if_neg (by omega), w64 (by omega) (by omega)]
          rfl
        · rw [if_neg h3, if_neg (by omega), if_neg (by omega), if_neg (by omega), w64 (by omega) (by omega)]
          rfl
      · refine ev_end fun k => ?_
        have e : dec (NameFrom s n ∧ (n = 0 → 0 < s.size → Letter (bt s 0)) ∧ 1 ≤ s.size ∧ s.size ≤ 12) = false := dec_false (by
          rw [hs]
          intro ⟨⟨g1, _⟩, g2, _⟩
          by_cases z : n = 0
          · subst z; exact h1 (g2 rfl (by omega))
          · exact g1.elim h1 (fun y => h2 ⟨y, z⟩))
        rw [e]
        simp only [impl_NameOk.l0]
        unfold Letter at h1
        unfold Figure at h2
        rw [if_pos (by omega), if_pos (by omega), if_pos (by omega)]
        by_cases z : n = 0
        · by_cases h3 : bt s (n : Int) ≥ 97
          · rw [if_pos h3, if_neg (by omega), if_pos (by omega)]
          · rw [if_neg h3, if_pos (by omega)]
        · have h4 : bt s (n : Int) < 48 ∨ bt s (n : Int) > 57 := by omega
          by_cases h3 : bt s (n : Int) ≥ 97
          · rw [if_pos h3, if_neg (by omega), if_neg (by omega), if_neg (by omega), if_pos (by omega)]
          · rw [if_neg h3, if_neg (by omega)]
            by_cases h5 : bt s (n : Int) < 48
            · rw [if_pos h5]
            · rw [if_neg h5, if_pos (by omega)]
theorem implNameOk (s : ByteArray) (hl : s.size ≤ 140737488351232) : Ev (fun k => impl_NameOk.f k s) (dec (IsName s)) := by
  have h := implNameOk_l0 s hl s.size 0 (by omega)
  have e : dec (NameFrom s 0 ∧ ((0 : Nat) = 0 → 0 < s.size → Letter (bt s 0)) ∧ 1 ≤ s.size ∧ s.size ≤ 12) = dec (IsName s) :=
    dec_congr ⟨fun g => ⟨g.2.2.1, g.2.2.2, g.2.1 rfl (by omega), g.1⟩, fun g => ⟨g.2.2.2, fun _ _ => g.2.2.1, g.1, g.2.1⟩⟩
  rw [e] at h
  exact h
theorem implDec (x : Int) : impl_isDecimal.f x = some (decide (-2147483647 ≤ x ∧ x ≤ 2147483647)) := by
  unfold impl_isDecimal.f
  rw [implWithin]; rfl
theorem index_dec (l : List Int) (hl : l.length ≤ 1048576) : ∀ (d n : Nat), n + d = l.length → ∃ r : Int, Ev (fun k => slices_IndexFunc_int_int_59.l0 k l (l.length : Int) (n : Int)) r ∧ (0 ≤ r ↔ ∃ j, n ≤ j ∧ j < l.length ∧ ¬ Deci (rd l (j : Int))) := by
  intro d
  induction d with
  | zero =>
    intro n hn
    refine ⟨-1, ev_succ ?_, ⟨fun h => by omega, fun ⟨j, h1, h2, _⟩ => by omega⟩⟩
    simp only [slices_IndexFunc_int_int_59.l0]
    exact ev_neg (by omega) (Ev.now _)
  | succ d ih =>
    intro n hn
    have hw : wrap64 ((n : Int) + 1) = ((n + 1 : Nat) : Int) := w64 (by omega) (by omega)
    by_cases h : Deci (rd l (n : Int))
    · obtain ⟨r, e, hr⟩ := ih (n + 1) (by omega)
      refine ⟨r, ev_succ ?_, hr.trans ⟨fun ⟨j, h1, h2, h3⟩ => ⟨j, by omega, h2, h3⟩, fun ⟨j, h1, h2, h3⟩ => ⟨j, ?_, h2, h3⟩⟩⟩
      · simp only [slices_IndexFunc_int_int_59.l0, impl_areDecimals_1.f, implDec, Option.bind_some, hw]
        exact ev_pos (by omega) (ev_pos (by omega) (ev_pos (by omega) (ev_neg (by simpa [Deci] using h) e)))
      · by_cases c : j = n
        · subst c; exact absurd h h3
        · omega
    · refine ⟨(n : Int), ev_succ ?_, ⟨fun _ => ⟨n, by omega, by omega, h⟩, fun _ => by omega⟩⟩
      simp only [slices_IndexFunc_int_int_59.l0, impl_areDecimals_1.f, implDec, Option.bind_some]
      exact ev_pos (by omega) (ev_pos (by omega) (ev_pos (by omega) (ev_pos (by unfold Deci at h; simp; omega) (Ev.now _))))
theorem implAreDec (l : List Int) (hl : l.length ≤ 1048576) : Ev (fun k => impl_areDecimals.f k l) (dec (∀ j : Nat, j < l.length → Deci (rd l (j : Int)))) := by
  unfold impl_areDecimals.f slices_ContainsFunc_int_int_52.f slices_IndexFunc_int_int_59.f
  obtain ⟨r, e, hr⟩ := index_dec l hl l.length 0 (by omega)
  refine Ev.bind (Ev.bind e (Ev.now _)) (ev_of ?_)
  congr 1
  by_cases h : ∀ j : Nat, j < l.length → Deci (rd l (j : Int))
  · rw [dec_true h]
    have : ¬ 0 ≤ r := fun z => by obtain ⟨j, _, h2, h3⟩ := hr.1 z; exact h3 (h j h2)
    simp; omega
  · rw [dec_false h]
    have : 0 ≤ r := hr.2 (Classical.byContradiction fun z => h fun j hj => Classical.byContradiction fun y => z ⟨j, by omega, hj, y⟩)
    simp; omega
theorem implIndexS_l0 (l : List ByteArray) (s : ByteArray) (hl : l.length ≤ 1048576) : ∀ (d n : Nat), n + d = l.length → ∃ r : Int, Ev (fun k => slices_Index_string_string.l0 k l s (l.length : Int) (n : Int)) r ∧ (0 ≤ r ↔ ∃ j, n ≤ j ∧ j < l.length ∧ (sAt l j).toList = s.toList) := by
  intro d
  induction d with
  | zero =>
    intro n hn
    refine ⟨-1, ev_succ ?_, ⟨fun h => by omega, fun ⟨j, h1, h2, _⟩ => by omega⟩⟩
    simp only [slices_Index_string_string.l0]
    exact ev_neg (by omega) (Ev.now _)
  | succ d ih =>
    intro n hn
    by_cases h : (sAt l n).toList = s.toList
    · refine ⟨(n : Int), ev_succ ?_, ⟨fun _ => ⟨n, Nat.le_refl _, by omega, h⟩, fun _ => by omega⟩⟩
      simp only [slices_Index_string_string.l0]
      exact ev_pos (by omega) (ev_pos (by omega) (ev_pos (by omega) (ev_pos h.symm (Ev.now _))))
    · obtain ⟨r, e, hr⟩ := ih (n + 1) (by omega)
      refine ⟨r, ev_succ ?_, hr.trans ⟨fun ⟨j, a, b, c⟩ => ⟨j, by omega, b, c⟩, fun ⟨j, a, b, c⟩ => ⟨j, ?_, b, c⟩⟩⟩
      · simp only [slices_Index_string_string.l0]
        refine ev_pos (by omega) (ev_pos (by omega) (ev_pos (by omega) (ev_neg (fun z => h z.symm) ?_)))
        rw [w64 (x := (n : Int) + 1) (by omega) (by omega)]
        exact e
      · by_cases e : j = n
        · exact absurd (e ▸ c) h
        · omega
theorem implHas (l : List ByteArray) (s : ByteArray) (hl : l.length ≤ 1048576) : Ev (fun k => slices_Contains_string_string.f k l s) (dec (HasP l l.length s)) := by
  unfold slices_Contains_string_string.f slices_Index_string_string.f
  obtain ⟨r, e, hr⟩ := implIndexS_l0 l s hl l.length 0 (by omega)
  refine Ev.bind e (ev_of ?_)
  congr 1
  by_cases h : HasP l l.length s
  · rw [dec_true h]
    obtain ⟨j, b, c⟩ := h
    exact decide_eq_true (hr.2 ⟨j, Nat.zero_le _, b, c⟩)
  · rw [dec_false h]
    exact decide_eq_false (fun z => h (by obtain ⟨j, _, b, c⟩ := hr.1 z; exact ⟨j, b, c⟩))
theorem implAreNames (l : List ByteArray) (hl : l.length ≤ 1048576) (hs : ∀ x ∈ l, x.size ≤ 1048576) : Ev (fun k => impl_areNames.f k l) (dec (∀ j, 0 ≤ j → j < l.length → NameAt l j)) := by
  unfold impl_areNames.f
  refine ev_eq (all_loop2 (fun k i => impl_areNames.l0 k l l (l.length : Int) i) l.length (NameAt l) True ?_ ?_ ?_ l.length 0 (by omega)) (dec_congr ⟨fun h => h.1, fun h => ⟨h, trivial⟩⟩)
  · refine ev_succ ?_
    simp only [impl_areNames.l0]
    exact ev_neg (by omega) (ev_eq (Ev.now _) (dec_true trivial).symm)
  · intro n r hn hp h
    have g := sAt_size hs n
    refine ev_succ ?_
    simp only [impl_areNames.l0, Int.toNat_natCast]
    refine ev_pos (by omega) (ev_pos (by omega) (ev_pos (by omega) (Ev.bind (implNameOk (sAt l n) (by omega)) (ev_pos (dec_true hp.1) (ev_pos (by omega) (Ev.bind (implHas (l.take n) (sAt l n) (by rw [List.length_take]; omega)) (ev_neg ?_ ?_)))))))
    · rw [dec_congr (hasP_take l (by omega) _), dec_false hp.2]; decide
    · rw [w64 (x := (n : Int) + 1) (by omega) (by omega)]
      exact h
  · intro n hn hp
    have g := sAt_size hs n
    refine ev_succ ?_
    simp only [impl_areNames.l0, Int.toNat_natCast]
    refine ev_pos (by omega) (ev_pos (by omega) (ev_pos (by omega) (Ev.bind (implNameOk (sAt l n) (by omega)) ?_)))
    by_cases a : IsName (sAt l n)
    · refine ev_pos (dec_true a) (ev_pos (by omega) (Ev.bind (implHas (l.take n) (sAt l n) (by rw [List.length_take]; omega)) (ev_pos ?_ (Ev.now _))))
      rw [dec_congr (hasP_take l (by omega) _)]
      exact dec_true (Classical.byContradiction fun z => hp ⟨a, z⟩)
    · exact ev_neg (by rw [dec_false a]; decide) (Ev.now _)
theorem names_app (L : List ByteArray) (t : ByteArray) : (∀ j, 0 ≤ j → j < (L ++ [t]).length → NameAt (L ++ [t]) j) ↔ NamesT L ∧ IsName t ∧ ¬ HasP L L.length t := by
  have hh : ∀ (n : Nat) (s : ByteArray), n ≤ L.length → (HasP (L ++ [t]) n s ↔ HasP L n s) := by
    intro n s hn
    unfold HasP
    exact ⟨fun ⟨j, a, b⟩ => ⟨j, a, by rw [sAt_app_lt L t (by omega)] at b; exact b⟩, fun ⟨j, a, b⟩ => ⟨j, a, by rw [sAt_app_lt L t (by omega)]; exact b⟩⟩
  have hlen : (L ++ [t]).length = L.length + 1 := by simp
  unfold NamesT NameAt
  rw [hlen]
  constructor
  · intro h
    refine ⟨fun j h1 h2 => ?_, ?_⟩
    · have := h j h1 (by omega)
      rw [sAt_app_lt L t h2, hh j _ (by omega)] at this
      exact this
    · have := h L.length (Nat.zero_le _) (by omega)
      rw [sAt_app_eq, hh _ _ (Nat.le_refl _)] at this
      exact this
  · intro ⟨h, h2⟩ j hj1 hj2
    by_cases e : j < L.length
    · rw [sAt_app_lt L t e, hh j _ (by omega)]
      exact h j hj1 e
    · obtain rfl : j = L.length := by omega
      rw [sAt_app_eq, hh _ _ (Nat.le_refl _)]
      exact h2
theorem badP (n : Nat) (row : List Int) : impl_TableOk_1.bad n row = false ↔ ((row.length : Int) = (n : Int) ∧ ∀ i : Nat, 0 ≤ i → i < n → Deci (rd row (i : Int))) := by
  by_cases e : (row.length : Int) = (n : Int)
  · have nn : ((!(row.all impl_TableOk_1.dc)) = false) ↔ row.all impl_TableOk_1.dc = true := by cases row.all impl_TableOk_1.dc <;> simp
    rw [impl_TableOk_1.bad_eq e, nn, List.all_eq_true]
    constructor
    · intro h
      refine ⟨e, fun i _ hi => ?_⟩
      have := h _ (rd_mem (xs := row) (i := (i : Int)) (by omega) (by omega))
      unfold impl_TableOk_1.dc at this
      have q := of_decide_eq_true this
      exact q
    · intro h x hx
      obtain ⟨i, hi, rfl⟩ := List.getElem_of_mem hx
      have := h.2 i (Nat.zero_le _) (by omega)
      rw [rd_of (List.getElem?_eq_getElem hi)] at this
      exact decide_eq_true this
  · rw [impl_TableOk_1.bad_ne e]
    constructor
    · intro h
      cases h
    · exact fun h => absurd h.1 e
theorem anyBad (n : Nat) (R : List (List Int)) : R.any (impl_TableOk_1.bad n) = !dec (∀ j : Nat, 0 ≤ j → j < R.length → impl_TableOk_1.bad n (R.getD j []) = false) := by
  by_cases h : ∀ j : Nat, 0 ≤ j → j < R.length → impl_TableOk_1.bad n (R.getD j []) = false
  · rw [dec_true h, Bool.not_true, List.any_eq_false]
    intro x hx
    obtain ⟨j, hj, rfl⟩ := List.getElem_of_mem hx
    have := h j (Nat.zero_le _) hj
    rw [List.getD_eq_getElem?_getD, List.getElem?_eq_getElem hj] at this
    simpa using this
  · rw [dec_false h, Bool.not_false, List.any_eq_true]
    refine Classical.byContradiction fun g => h fun j _ hj => Classical.byContradiction fun y => g ⟨R[j], List.getElem_mem hj, ?_⟩
    rw [List.getD_eq_getElem?_getD, List.getElem?_eq_getElem hj] at y
    simpa using y
theorem implTableOk (L : List ByteArray) (t : ByteArray) (R : List (List Int)) (Y : List Int) (hL : L.length ≤ 1048576) (hs : ∀ x ∈ L, x.size ≤ 1048576) (ht : t.size ≤ 1048576) (hR : R.length ≤ 1048576) (hY : Y.length ≤ 1048576) : Ev (fun k => impl_TableOk.f k L t R Y) (dec (TableP L t R Y)) := by
  unfold impl_TableOk.f TableP
  have cl : slices_Clone_string_string.f L = some L := by
    unfold slices_Clone_string_string.f
    exact if_pos (by omega)
  simp only [implWithin, cl, Option.bind_some, impl_TableOk_1.f]
  by_cases k1 : 1 ≤ (L.length : Int) ∧ (L.length : Int) ≤ 4
  case neg => exact ev_neg (by rw [decide_eq_false k1]; decide) (ev_eq (Ev.now _) (dec_false (fun h => k1 h.1)).symm)
  have hlen : (L ++ [t]).length = L.length + 1 := by simp
  refine ev_pos (decide_eq_true k1) (ev_pos (by rw [List.length_singleton]; omega) (Ev.bind (implAreNames (L ++ [t]) (by omega) ?_) ?_))
  · intro x hx
    rcases List.mem_append.1 hx with h | h
    · exact hs x h
    · obtain rfl := List.mem_singleton.1 h
      exact ht
  rw [dec_congr (names_app L t)]
  by_cases k2 : NamesT L ∧ IsName t ∧ ¬ HasP L L.length t
  case neg => exact ev_neg (by rw [dec_false k2]; decide) (ev_eq (Ev.now _) (dec_false (fun h => k2 ⟨h.2.2.2.2.2.1, h.2.1, h.2.2.1⟩)).symm)
  refine ev_pos (dec_true k2) ?_
  by_cases k4 : 1 ≤ (R.length : Int) ∧ (R.length : Int) ≤ 40
  case neg => exact ev_neg (by rw [decide_eq_false k4]; decide) (ev_eq (Ev.now _) (dec_false (fun h => k4 h.2.2.2.1)).symm)
  refine ev_pos (decide_eq_true k4) ?_
  by_cases k5 : (Y.length : Int) = (R.length : Int)
  case neg => exact ev_neg k5 (ev_eq (Ev.now _) (dec_false (fun h => k5 h.2.2.2.2.1)).symm)
  refine ev_pos k5 (Ev.bind (implAreDec Y hY) ?_)
  by_cases k6 : ∀ j : Nat, j < Y.length → Deci (rd Y (j : Int))
  case neg => exact ev_neg (by rw [dec_false k6]; decide) (ev_eq (Ev.now _) (dec_false (fun h => k6 (fun j hj => (h.2.2.2.2.2.2 j (Nat.zero_le _) (by omega)).2.1))).symm)
  refine ev_pos (dec_true k6) (ev_of ?_)
  congr 1
  rw [anyBad, Bool.not_not]
  refine dec_congr ⟨fun h => ⟨k1, k2.2.1, k2.2.2, k4, k5, k2.1, fun j h1 h2 => ?_⟩, fun h j h1 h2 => ?_⟩
  · have := (badP _ _).1 (h j h1 h2)
    exact ⟨this.1, k6 j (by omega), this.2⟩
  · have := h.2.2.2.2.2.2 j h1 h2
    exact (badP _ _).2 ⟨this.1, this.2.2⟩
theorem implColumn (L : List ByteArray) (t : ByteArray) (R : List (List Int)) (Y : List Int) (f : Int) (hL : L.length ≤ 1048576) (hR : R.length ≤ 1048576) : Ev (fun k => impl_Column.f k L t R Y f) (colOf L R f) := by
  unfold impl_Column.f
  simp only [Option.bind_some, implWithin]
  rw [w64 (x := (L.length : Int) - 1) (by omega) (by omega)]
  unfold colOf
  by_cases g : 0 ≤ f ∧ f ≤ (L.length : Int) - 1
  · rw [if_pos g]
    refine ev_pos (decide_eq_true g) (fold_loop (fun k (s : List Int) i => impl_Column.l0 k f s R (R.length : Int) i) R.length (fun n => col f (R.take n)) _ ?_ ?_ R.length 0 (by omega))
    · refine ev_succ ?_
      simp only [impl_Column.l0, col_all]
      exact ev_neg (by omega) (Ev.now _)
    · intro n hn h
      have hc := col_take_length f R n
      rw [col_succ f hn] at h
      refine ev_succ ?_
      simp only [impl_Column.l0, rdL, Int.toNat_natCast]
      rw [w64 (x := (n : Int) + 1) (by omega) (by omega)]
      refine ev_pos (by omega) (ev_pos (by omega) (ev_pos (by omega) ?_))
      by_cases c : f < ((R.getD n []).length : Int)
      · rw [cell, if_pos c] at h
        exact ev_pos c (ev_pos g.1 (ev_pos (by omega) h))
      · rw [cell, if_neg c] at h
        exact ev_neg c (ev_pos (by omega) h)
  · rw [if_neg g]
    exact ev_neg (by rw [decide_eq_false g]; decide) (Ev.now _)
theorem ddFrom_snoc (p : Int) (l : List Int) (x : Int) : ddFrom p (l ++ [x]) = ddFrom p l ++ (if x = (l.getLast?).getD p then [] else [x]) := by
  induction l generalizing p with
  | nil =>
    by_cases h : x = p <;> simp [ddFrom, h]
  | cons y l ih =>
    have e : ((y :: l).getLast?).getD p = (l.getLast?).getD y := by
      rw [List.getLast?_cons]
      rfl
    simp only [List.cons_append, ddFrom]
    rw [e]
    by_cases h : y = p
    · subst h
      rw [if_pos rfl, if_pos rfl, ih]
    · rw [if_neg h, if_neg h, ih, List.cons_append]
theorem compactUpTo_dd (l : List Int) : ∀ m, m ≤ l.length → Lib.compactUpTo l.toArray m = dd (l.take m) := by
  intro m
  induction m with
  | zero => intro _; simp [Lib.compactUpTo, dd]
  | succ m ih =>
    intro h
    rw [Lib.compactUpTo_succ, ih (by omega), List.take_succ_eq_append_getElem (by omega)]
    have em : (l.toArray)[m]! = l[m] := by simp [getElem!_pos, show m < l.length by omega]
    rw [em]
    cases m with
    | zero => simp [dd, Lib.keeps, ddFrom]
    | succ k =>
      have ek : (l.toArray)[k + 1 - 1]! = l[k] := by simp [getElem!_pos, show k < l.length by omega]
      obtain ⟨y, ys, hy⟩ : ∃ y ys, l.take (k + 1) = y :: ys := by
        cases hl : l.take (k + 1) with
        | nil => have := congrArg List.length hl; simp at this; subst this; simp at h
        | cons y ys => exact ⟨y, ys, rfl⟩
      have hlast : (ys.getLast?).getD y = l[k] := by
        have : (l.take (k + 1)).getLast? = some l[k] := by
          rw [List.take_succ_eq_append_getElem (by omega), List.getLast?_concat]
        rw [hy, List.getLast?_cons] at this
        simpa using this
      rw [hy]
      simp only [List.cons_append, dd]
      rw [ddFrom_snoc, hlast]
      congr 2
      by_cases c : l[k + 1] = l[k]
      · rw [if_pos c, Lib.keeps_neg (by omega) (by rw [em, ek, c])]
        rfl
      · rw [if_neg c, Lib.keeps_pos (by rw [em, ek]; exact c)]
        rfl
theorem compact_eq (l : List Int) : Lib.compact l = dd l := by
  unfold Lib.compact
  rw [compactUpTo_dd l _ (Nat.le_refl _), List.take_length]
theorem implCompact (l : List Int) (hl : l.length ≤ 1048576) : slices_Compact_int_int.f l = some (dd l) := by
  unfold slices_Compact_int_int.f
  rw [if_pos (by omega), compact_eq]
theorem msort_eq (l : List Int) : l.mergeSort (fun x y => decide (x ≤ y)) = isort l := by
  refine List.Perm.eq_of_pairwise (le := fun a b => a ≤ b) (fun a b _ _ h1 h2 => Int.le_antisymm h1 h2) ?_ (isort_asc l) ((List.mergeSort_perm l _).trans (isort_perm l).symm)
  refine (List.pairwise_mergeSort (le := fun x y : Int => decide (x ≤ y)) (fun a b c h1 h2 => ?_) (fun a b => ?_) l).imp (fun h => by simpa using h)
  · simp only [decide_eq_true_eq] at *; omega
  · simp only [Bool.or_eq_true, decide_eq_true_eq]; omega
theorem implSortB (l : List Int) (hl : l.length ≤ 4194304) : impl_SortInts.f l = some (isort l) := by
  unfold impl_SortInts.f slices_Clone_int_int.f slices_Sort_int_int.f
  rw [if_pos (by omega)]
  simp only [Option.bind_some]
  rw [if_pos (by omega), msort_eq]
  rfl
theorem implSort (l : List Int) (hl : l.length ≤ 1048576) : impl_SortInts.f l = some (isort l) := implSortB l (by omega)
theorem implCuts_l0 (l all : List Int) (b : Nat) (hl : l.length = all.length) (h1 : 1 ≤ all.length) (h2 : all.length ≤ 40) (hb : 2 ≤ b) (hb8 : b ≤ 8) (hs : Asc all) : ∀ d m : Nat, m + 1 + d = b →
    Ev (fun k => impl_CutsOf.l0 k l (b : Int) (raw all b m) all ((m + 1 : Nat) : Int)) (dd (raw all b (b - 1))) := by
  intro d
  induction d with
  | zero =>
    intro m hm
    obtain rfl : b = m + 1 := by omega
    refine ev_succ ?_
    simp only [impl_CutsOf.l0]
    have hlen := raw_length all (m + 1) m
    refine ev_neg (by omega) ?_
    rw [implCompact _ (by omega)]
    exact Ev.now _
  | succ d ih =>
    intro m hm
    have go := ih (m + 1) (by omega)
    have E := bord_int (n := all.length) (b := b) (m := m + 1) h2 (by omega) hb8 (by omega)
    rw [← hl] at E
    have hle := bord_le (n := all.length) (b := b) (k := m + 1) (by omega) (by omega)
    have hlen := raw_length all b m
    have ew : wrap64 (((m + 1 : Nat) : Int) + 1) = ((m + 1 + 1 : Nat) : Int) := w64 (by omega) (by omega)
    have er : raw all b (m + 1) = raw all b m ++ pick all b (m + 1) := rfl
    rw [er] at go
    unfold pick at go
    rw [hl] at E
    generalize hi : bord all.length b (m + 1) = i at *
    rw [← hl] at E
    refine ev_succ ?_
    simp only [impl_CutsOf.l0, E, ew]
    refine ev_pos (by omega) (ev_neg (by omega) ?_)
    by_cases g1 : 1 ≤ i
    · have E2 : wrap64 ((i : Int) - 1) = ((i - 1 : Nat) : Int) := by rw [w64 (by omega) (by omega)]; omega
      have E3 : wrap64 ((all.length : Int) - 1) = ((all.length - 1 : Nat) : Int) := by rw [w64 (by omega) (by omega)]; omega
      have hmax : rd all ((i - 1 : Nat) : Int) ≤ rd all ((all.length - 1 : Nat) : Int) := asc_rd hs (by omega) (by omega)
      simp only [E2, E3]
      refine ev_pos (by omega) (ev_pos (by omega) (ev_pos (by omega) (ev_pos (by omega) (ev_pos (by omega) ?_))))
      by_cases g2 : rd all ((i - 1 : Nat) : Int) < rd all ((all.length - 1 : Nat) : Int)
      · rw [if_pos ⟨g1, g2⟩] at go
        exact ev_neg (by omega) (ev_pos (by omega) go)
      · rw [if_neg (fun h => g2 h.2), List.append_nil] at go
        exact ev_pos (by omega) go
    · rw [if_neg (fun h => g1 h.1), List.append_nil] at go
      exact ev_neg (by omega) go
theorem implCuts (l : List Int) (b : Int) (hl : l.length ≤ 1048576) : Ev (fun k => impl_CutsOf.f k l b) (cutsOf l b) := by
  unfold impl_CutsOf.f cutsOf
  rw [implWithin]
  simp only [Option.bind_some]
  by_cases hb : 2 ≤ b ∧ b ≤ 8
  · refine ev_pos (decide_eq_true hb) ?_
    rw [implWithin]
    simp only [Option.bind_some]
    refine ev_succ ?_
    simp only [impl_CutsOf.j0]
    by_cases hn : 1 ≤ l.length ∧ l.length ≤ 40
    · rw [if_pos ⟨hb, hn⟩]
      refine ev_neg (by simp; omega) ?_
      have hs := isort_length l
      rw [implSort l hl]
      simp only [Option.bind_some]
      have := implCuts_l0 l (isort l) b.toNat hs.symm (by omega) (by omega) (by omega) (by omega) (isort_asc l) (b.toNat - 1) 0 (by omega)
      rw [Int.toNat_of_nonneg (by omega)] at this
      exact this
    · rw [if_neg (fun h => hn h.2)]
      exact ev_pos (by simp; omega) (Ev.now _)
  · rw [if_neg (fun h => hb h.1)]
    refine ev_neg (by simpa using hb) (ev_succ ?_)
    simp only [impl_CutsOf.j0]
    exact ev_pos trivial (Ev.now _)
theorem implBinOf_l0 (l : List Int) (v : Int) (hl : l.length ≤ 35184372088832) : ∀ (d n c : Nat), n + d = l.length → c ≤ n → Ev (fun k => impl_BinOf.l0 k v (c : Int) l (l.length : Int) (n : Int)) ((c + less (l.drop n) v : Nat) : Int) := by
  intro d
  induction d with
  | zero =>
    intro n c hn hc
    refine ev_end fun k => ?_
    simp only [impl_BinOf.l0]
    obtain rfl : n = l.length := by omega
    rw [if_neg (by omega), List.drop_length]
    simp [less]
  | succ d ih =>
    intro n c hn hc
    rw [rd_drop (by omega), less_cons]
    by_cases h : rd l (n : Int) < v
    · have := ih (n + 1) (c + 1) (by omega) (by omega)
      rw [if_pos h, show c + (less (l.drop (n + 1)) v + 1) = c + 1 + less (l.drop (n + 1)) v from by omega]
      refine Ev.step (fun k => ?_) this
      simp only [impl_BinOf.l0]
      rw [if_pos (by omega), if_pos (by omega), if_pos (by omega), if_pos h, w64 (by omega) (by omega), w64 (by omega) (by omega)]
      rfl
    · have := ih (n + 1) c (by omega) (by omega)
      rw [if_neg h]
      refine Ev.step (fun k => ?_) this
      simp only [impl_BinOf.l0]
      rw [if_pos (by omega), if_pos (by omega), if_pos (by omega), if_neg h, w64 (by omega) (by omega)]
      rfl
theorem implBinOf (l : List Int) (v : Int) (hl : l.length ≤ 35184372088832) : Ev (fun k => impl_BinOf.f k l v) (less l v : Int) := by
  have := implBinOf_l0 l v hl l.length 0 0 (by omega) (by omega)
  rw [Nat.zero_add] at this
  exact this
theorem implGrid_l1 (L : List ByteArray) (t : ByteArray) (R : List (List Int)) (Y : List Int) (b : Int) (c x : List Int) (f : Nat) (C B : List (List Int)) (hc : c.length ≤ 7) (hx : x.length ≤ 1048576) (hf : f ≤ 4) (hC : C.length ≤ 4) (hB : B.length ≤ 4) {r : List (List Int) × List (List Int)}
    (next : Ev (fun k => impl_GridOf.l0 k b (L.length : Int) ((f + 1 : Nat) : Int) L t R Y (C ++ [c]) (B ++ [binsOf c x])) r) : Ev (fun k => impl_GridOf.l1 k b [] c (L.length : Int) (f : Int) x (x.length : Int) 0 L t R Y C B) r := by
  refine fold_loop (fun k (s : List Int) i => impl_GridOf.l1 k b s c (L.length : Int) (f : Int) x (x.length : Int) i L t R Y C B) x.length (fun n => binsOf c (x.take n)) r ?_ ?_ x.length 0 (by omega)
  · refine ev_succ ?_
    simp only [impl_GridOf.l1, List.take_length, Option.bind_some, List.length_cons, List.length_nil]
    rw [w64 (x := (f : Int) + 1) (by omega) (by omega)]
    exact ev_neg (by omega) (ev_pos (by omega) (ev_pos (by omega) next))
  · intro n hn h
    have hl : (binsOf c (x.take n)).length ≤ 1048576 := by rw [binsOf_length, List.length_take]; omega
    rw [binsOf_succ c hn] at h
    refine ev_succ ?_
    simp only [impl_GridOf.l1]
    rw [w64 (x := (n : Int) + 1) (by omega) (by omega)]
    refine ev_pos (by omega) (ev_pos (by omega) (ev_pos (by omega) (Ev.bind (implBinOf c _ (by omega)) ?_)))
    simp only [Option.bind_some, List.length_cons, List.length_nil]
    exact ev_pos (by omega) h
theorem implGridOf (L : List ByteArray) (t : ByteArray) (R : List (List Int)) (Y : List Int) (b : Int) (hL : L.length ≤ 1048576) (hs : ∀ x ∈ L, x.size ≤ 1048576) (ht : t.size ≤ 1048576) (hRl : R.length ≤ 1048576) (hY : Y.length ≤ 1048576) : Ev (fun k => impl_GridOf.f k L t R Y b) (gridOf L t R Y b) := by
  have stop : ∀ r, r = ([], []) → Ev (fun k => impl_GridOf.j0 k b true L t R Y) r := by
    rintro _ rfl
    refine ev_succ ?_
    simp only [impl_GridOf.j0]
    exact ev_pos trivial (Ev.now _)
  unfold impl_GridOf.f gridOf
  refine Ev.bind (implTableOk L t R Y hL hs ht hRl hY) ?_
  by_cases k1 : TableP L t R Y
  case neg => exact ev_neg (by rw [dec_false k1]; decide) (stop _ (if_neg (fun h => k1 h.1)))
  refine ev_pos (dec_true k1) ?_
  simp only [implWithin, Option.bind_some]
  by_cases k2 : 2 ≤ b ∧ b ≤ 8
  case neg => rw [decide_eq_false k2]; exact stop _ (if_neg (fun h => k2 h.2))
  rw [decide_eq_true k2, if_pos ⟨k1, k2⟩]
  have hn := k1.1
  refine ev_succ ?_
  simp only [impl_GridOf.j0]
  refine ev_neg (by decide) ?_
  refine fold_loop (fun k (s : List (List Int) × List (List Int)) i => impl_GridOf.l0 k b (L.length : Int) i L t R Y s.1 s.2) L.length (fun n => (gridC R b n, gridB R b n)) _ ?_ ?_ L.length 0 (by omega)
  · refine ev_succ ?_
    simp only [impl_GridOf.l0]
    exact ev_neg (by omega) (Ev.now _)
  · intro n hn' h
    have e : colOf L R (n : Int) = col (n : Int) R := if_pos ⟨by omega, by omega⟩
    simp only [gridC_succ, gridB_succ] at h
    refine ev_succ ?_
    simp only [impl_GridOf.l0]
    refine ev_pos (by omega) (Ev.bind (ev_eq (implColumn L t R Y (n : Int) hL hRl) e) (Ev.bind (implCuts _ b (by rw [col_length]; exact hRl)) ?_))
    exact implGrid_l1 L t R Y b _ _ n _ _ (cutsOf_length _ _) (by rw [col_length]; exact hRl) (by omega) (by rw [gridC_length]; omega) (by rw [gridB_length]; omega) h
theorem specColumn (L : List ByteArray) (t : ByteArray) (R : List (List Int)) (Y : List Int) (f : Int) (hL : L.length ≤ 1048576) (hR : R.length ≤ 1048576) : Ev (fun k => spec_Column.f k L t R Y f) (colOf L R f) := by
  unfold spec_Column.f
  have hw : wrap64 ((L.length : Int) - 1) = (L.length : Int) - 1 := w64 (by omega) (by omega)
  have stop : ∀ (s : List Int) (n : Int), Ev (fun k => spec_Column.j1 k f s n false L t R Y) s := by
    intro s n
    refine ev_succ ?_
    simp only [spec_Column.j1]
    exact ev_neg (by decide) (Ev.now _)
  unfold colOf
  by_cases g : 0 ≤ f ∧ f ≤ (L.length : Int) - 1
  · rw [if_pos g]
    refine fold_loop (fun k (s : List Int) i => spec_Column.l0 k f s i L t R Y) R.length (fun n => col f (R.take n)) _ ?_ ?_ R.length 0 (by omega)
    · refine ev_succ ?_
      simp only [spec_Column.l0, col_all]
      exact ev_neg (by omega) (stop _ _)
    · intro n hn h
      have hc := col_take_length f R n
      rw [col_succ f hn] at h
      refine ev_succ ?_
      simp only [spec_Column.l0, specIn, Option.bind_some, hw]
      rw [decide_eq_true g]
      refine ev_pos (by omega) (ev_succ ?_)
      simp only [spec_Column.j1, rdL, Int.toNat_natCast]
      rw [w64 (x := (n : Int) + 1) (by omega) (by omega)]
      refine ev_pos trivial (ev_pos (by omega) (ev_pos (by omega) ?_))
      by_cases c : f < ((R.getD n []).length : Int)
      · rw [cell, if_pos c] at h
        exact ev_pos c (ev_pos g.1 (ev_pos (by omega) h))
      · rw [cell, if_neg c] at h
        exact ev_neg c (ev_pos (by omega) h)
  · rw [if_neg g]
    refine ev_succ ?_
    simp only [spec_Column.l0, specIn, Option.bind_some, hw]
    rw [decide_eq_false g]
    by_cases c : (0 : Int) < (R.length : Int)
    · exact ev_pos c (stop _ _)
    · exact ev_neg c (stop _ _)
theorem specSort_l1 (l : List Int) (hl : l.length ≤ 4194304) (n : Nat) (hn : n < l.length) (out : List Int) (ho : out.length = n) (hs : Asc out) (r : List Int)
    (go : Ev (fun k => spec_SortInts.l0 k l (ins out (rd l (n : Int))) ((n + 1 : Nat) : Int)) r) : ∀ p : Nat, p ≤ out.length → (∀ y ∈ out.drop p, rd l (n : Int) < y) →
    Ev (fun k => spec_SortInts.l1 k l out (n : Int) (p : Int)) r := by
  have hw : wrap64 ((n : Int) + 1) = ((n + 1 : Nat) : Int) := w64 (by omega) (by omega)
  intro p
  induction p with
  | zero =>
    intro hp hb
    refine ev_succ ?_
    have e := parts_at hs hp hb (fun y hy => by simp at hy)
    simp only [spec_SortInts.l1, Option.bind_some, hw]
    rw [e] at go
    refine ev_neg (by omega) (ev_pos (by omega) (ev_pos (by omega) (ev_pos (by simp <;> omega) (ev_pos (by omega) (ev_pos (by omega) (ev_pos (by simp <;> omega) (ev_pos (by simp <;> omega) ?_)))))))
    simpa using go
  | succ p ih =>
    intro hp hb
    refine ev_succ ?_
    have em : (((p + 1 : Nat) : Int) - 1) = (p : Int) := by omega
    have hx : out[p]? = some out[p] := List.getElem?_eq_getElem (by omega)
    have d1 : out.drop p = out[p] :: out.drop (p + 1) := List.drop_eq_getElem_cons (by omega)
    have hwp : wrap64 ((p : Int)) = (p : Int) := w64 (by omega) (by omega)
    simp only [spec_SortInts.l1, Option.bind_some, hw, em, hwp, rd_of hx]
    refine ev_pos (by omega) (ev_pos (by omega) (ev_pos (by omega) (ev_pos (by omega) (ev_pos (by omega) ?_))))
    by_cases g : out[p] > rd l (n : Int)
    · refine ev_pos g (ih (by omega) ?_)
      intro y hy
      rw [d1, List.mem_cons] at hy
      rcases hy with rfl | hy
      · exact g
      · exact hb y hy
    · have e := parts_at hs hp hb (fun y hy => by
        obtain ⟨i, hi, rfl⟩ := List.getElem_of_mem hy
        simp only [List.length_take] at hi
        rw [List.getElem_take]
        by_cases c : i = p
        · subst c; omega
        · have := List.pairwise_iff_getElem.1 hs i p (by omega) (by omega) (by omega)
          omega)
      rw [e] at go
      refine ev_neg g (ev_pos (by omega) (ev_pos (by omega) (ev_pos (by simp <;> omega) (ev_pos (by simp <;> omega) (ev_pos (by simp <;> omega) ?_)))))
      have et : (((p + 1 : Nat) : Int)).toNat = p + 1 := by omega
      simp only [et]
      simpa using go
theorem specSort_l0 (l : List Int) (hl : l.length ≤ 4194304) : ∀ (d n : Nat) (out : List Int), n + d = l.length → out.length = n → Asc out → Ev (fun k => spec_SortInts.l0 k l out (n : Int)) ((l.drop n).foldl ins out) := by
  intro d
  induction d with
  | zero =>
    intro n out hn ho hs
    obtain rfl : n = l.length := by omega
    refine ev_succ ?_
    simp only [spec_SortInts.l0]
    refine ev_neg (by omega) (ev_of ?_)
    rw [List.drop_length]
    rfl
  | succ d ih =>
    intro n out hn ho hs
    refine ev_succ ?_
    simp only [spec_SortInts.l0]
    refine ev_pos (by omega) ?_
    rw [rd_drop (by omega), List.foldl_cons]
    exact specSort_l1 l hl n (by omega) out ho hs _ (ih (n + 1) _ (by omega) (by rw [ins_length, ho]) (ins_asc hs _)) out.length (Nat.le_refl _) (by simp)
theorem specSortB (l : List Int) (hl : l.length ≤ 4194304) : Ev (fun k => spec_SortInts.f k l) (isort l) :=
  specSort_l0 l hl l.length 0 [] (by omega) rfl List.Pairwise.nil
theorem specSort (l : List Int) (hl : l.length ≤ 1048576) : Ev (fun k => spec_SortInts.f k l) (isort l) := specSortB l (by omega)
theorem specDistinct_l0 (all : List Int) (hl : all.length ≤ 1048576) : ∀ (d n : Nat) (out : List Int), n + 1 + d = all.length → out.length ≤ n + 1 → Ev (fun k => spec_Distinct.l0 k out all ((n + 1 : Nat) : Int)) (out ++ ddFrom (rd all (n : Int)) (all.drop (n + 1))) := by
  intro d
  induction d with
  | zero =>
    intro n out hn ho
    refine ev_succ ?_
    simp only [spec_Distinct.l0]
    refine ev_neg (by omega) (ev_of ?_)
    rw [show n + 1 = all.length from by omega, List.drop_length]
    simp [ddFrom]
  | succ d ih =>
    intro n out hn ho
    refine ev_succ ?_
    have em : (((n + 1 : Nat) : Int) - 1) = (n : Int) := by omega
    have hwn : wrap64 ((n : Int)) = (n : Int) := w64 (by omega) (by omega)
    have hw : wrap64 (((n + 1 : Nat) : Int) + 1) = ((n + 1 + 1 : Nat) : Int) := w64 (by omega) (by omega)
    simp only [spec_Distinct.l0, em, hwn, hw]
    refine ev_pos (by omega) (ev_neg (by omega) (ev_pos (by omega) (ev_pos (by omega) (ev_pos (by omega) ?_))))
    rw [rd_drop (show n + 1 < all.length from by omega)]
    simp only [ddFrom]
    by_cases e : rd all ((n + 1 : Nat) : Int) = rd all (n : Int)
    · refine ev_pos e (ev_eq (ih (n + 1) out (by omega) (by omega)) ?_)
      rw [if_pos e, e]
    · refine ev_neg e (ev_pos (by omega) (ev_eq (ih (n + 1) _ (by omega) (by simp; omega)) ?_))
      rw [if_neg e]
      simp
theorem specDistinct (l : List Int) (hl : l.length ≤ 1048576) : Ev (fun k => spec_Distinct.f k l) (dd (isort l)) := by
  unfold spec_Distinct.f
  refine Ev.bind (specSort l hl) ?_
  have hlen := isort_length l
  generalize isort l = all at *
  cases all with
  | nil =>
    refine ev_succ ?_
    simp only [spec_Distinct.l0]
    exact ev_neg (by simp) (Ev.now _)
  | cons x all =>
    refine ev_succ ?_
    simp only [spec_Distinct.l0]
    refine ev_pos (by simp <;> omega) (ev_pos trivial (ev_pos (by omega) (ev_pos (by simp) ?_)))
    simp only [List.length_cons] at hlen
    have hw : wrap64 (0 + 1) = ((0 + 1 : Nat) : Int) := w64 (by omega) (by omega)
    rw [hw]
    refine ev_eq (specDistinct_l0 (x :: all) (by simp <;> omega) all.length 0 ([] ++ [rd (x :: all) 0]) (by simp <;> omega) (by simp)) ?_
    simp [dd, rd]
theorem specCuts_l0 (all : List Int) (b : Nat) (h1 : 1 ≤ all.length) (h2 : all.length ≤ 40) (hb : 2 ≤ b) (hb8 : b ≤ 8) (hs : Asc all) : ∀ d m : Nat, m + 1 + d = b →
    Ev (fun k => spec_CutsOf.l0 k (b : Int) (all.length : Int) all (raw all b m) ((m + 1 : Nat) : Int)) (dd (raw all b (b - 1))) := by
  intro d
  induction d with
  | zero =>
    intro m hm
    obtain rfl : b = m + 1 := by omega
    refine ev_succ ?_
    simp only [spec_CutsOf.l0]
    have hlen := raw_length all (m + 1) m
    have ha := raw_asc hs (show 0 < m + 1 by omega) m (by omega)
    refine ev_neg (by omega) (Ev.bind (specDistinct _ (by omega)) ?_)
    rw [isort_of_asc ha]
    exact Ev.now _
  | succ d ih =>
    intro m hm
    have go := ih (m + 1) (by omega)
    have E := bord_int (n := all.length) (b := b) (m := m + 1) h2 (by omega) hb8 (by omega)
    have hle := bord_le (n := all.length) (b := b) (k := m + 1) (by omega) (by omega)
    have hlen := raw_length all b m
    have ew : wrap64 (((m + 1 : Nat) : Int) + 1) = ((m + 1 + 1 : Nat) : Int) := w64 (by omega) (by omega)
    have er : raw all b (m + 1) = raw all b m ++ pick all b (m + 1) := rfl
    rw [er] at go
    unfold pick at go
    generalize bord all.length b (m + 1) = i at *
    refine ev_succ ?_
    simp only [spec_CutsOf.l0, E, ew]
    refine ev_pos (by omega) (ev_neg (by omega) ?_)
    by_cases g1 : 1 ≤ i
    · have E2 : wrap64 ((i : Int) - 1) = ((i - 1 : Nat) : Int) := by rw [w64 (by omega) (by omega)]; omega
      have E3 : wrap64 ((all.length : Int) - 1) = ((all.length - 1 : Nat) : Int) := by rw [w64 (by omega) (by omega)]; omega
      simp only [E2, E3]
      refine ev_pos (by omega) (ev_pos (by omega) (ev_pos (by omega) (ev_pos (by omega) (ev_pos (by omega) ?_))))
      by_cases g2 : rd all ((i - 1 : Nat) : Int) < rd all ((all.length - 1 : Nat) : Int)
      · rw [if_pos ⟨g1, g2⟩] at go
        exact ev_pos g2 (ev_pos (by omega) go)
      · rw [if_neg (fun h => g2 h.2), List.append_nil] at go
        exact ev_neg g2 go
    · rw [if_neg (fun h => g1 h.1), List.append_nil] at go
      exact ev_neg (by omega) go
theorem specCuts (l : List Int) (b : Int) (hl : l.length ≤ 1048576) : Ev (fun k => spec_CutsOf.f k l b) (cutsOf l b) := by
  unfold spec_CutsOf.f cutsOf
  rw [specIn]
  simp only [Option.bind_some]
  by_cases hb : 2 ≤ b ∧ b ≤ 8
  · refine ev_pos (decide_eq_true hb) ?_
    rw [specIn]
    simp only [Option.bind_some]
    refine ev_succ ?_
    simp only [spec_CutsOf.j0]
    by_cases hn : 1 ≤ l.length ∧ l.length ≤ 40
    · rw [if_pos ⟨hb, hn⟩]
      refine ev_neg (by simp; omega) (Ev.bind (specSort l hl) ?_)
      have hs := isort_length l
      have := specCuts_l0 (isort l) b.toNat (by omega) (by omega) (by omega) (by omega) (isort_asc l) (b.toNat - 1) 0 (by omega)
      rw [hs, Int.toNat_of_nonneg (by omega)] at this
      exact this
    · rw [if_neg (fun h => hn h.2)]
      exact ev_pos (by simp; omega) (Ev.now _)
  · rw [if_neg (fun h => hb h.1)]
    refine ev_neg (by simpa using hb) (ev_succ ?_)
    simp only [spec_CutsOf.j0]
    exact ev_pos trivial (Ev.now _)
theorem specBinOf_l0 (l : List Int) (v : Int) (hl : l.length ≤ 35184372088832) : ∀ (d n c : Nat), n + d = l.length → c ≤ n → Ev (fun k => spec_BinOf.l0 k l v (c : Int) (n : Int)) ((c + less (l.drop n) v : Nat) : Int) := by
  intro d
  induction d with
  | zero =>
    intro n c hn hc
    refine ev_end fun k => ?_
    simp only [spec_BinOf.l0]
    obtain rfl : n = l.length := by omega
    rw [if_neg (by omega), List.drop_length]
    simp [less]
  | succ d ih =>
    intro n c hn hc
    rw [rd_drop (by omega), less_cons]
    by_cases h : rd l (n : Int) < v
    · have := ih (n + 1) (c + 1) (by omega) (by omega)
      rw [if_pos h, show c + (less (l.drop (n + 1)) v + 1) = c + 1 + less (l.drop (n + 1)) v from by omega]
      refine Ev.step (fun k => ?_) this
      simp only [spec_BinOf.l0]
      rw [if_pos (by omega), if_pos (by omega), if_pos h, w64 (by omega) (by omega), w64 (by omega) (by omega)]
      rfl
    · have := ih (n + 1) c (by omega) (by omega)
      rw [if_neg h]
      refine Ev.step (fun k => ?_) this
      simp only [spec_BinOf.l0]
      rw [if_pos (by omega), if_pos (by omega), if_neg h, w64 (by omega) (by omega)]
      rfl
theorem specBinOf (l : List Int) (v : Int) (hl : l.length ≤ 35184372088832) : Ev (fun k => spec_BinOf.f k l v) (less l v : Int) := by
  have := specBinOf_l0 l v hl l.length 0 0 (by omega) (by omega)
  rw [Nat.zero_add] at this
  exact this
theorem specGrid_l1 (L : List ByteArray) (t : ByteArray) (R : List (List Int)) (Y : List Int) (b : Int) (c x : List Int) (f : Nat) (C B : List (List Int)) (hc : c.length ≤ 7) (hx : x.length ≤ 1048576) (hf : f ≤ 4) (hC : C.length ≤ 4) (hB : B.length ≤ 4) {r : List (List Int) × List (List Int)}
    (next : Ev (fun k => spec_GridOf.l0 k b ((f + 1 : Nat) : Int) L t R Y (C ++ [c]) (B ++ [binsOf c x])) r) : Ev (fun k => spec_GridOf.l1 k b (f : Int) x c [] 0 L t R Y C B) r := by
  refine fold_loop (fun k (s : List Int) i => spec_GridOf.l1 k b (f : Int) x c s i L t R Y C B) x.length (fun n => binsOf c (x.take n)) r ?_ ?_ x.length 0 (by omega)
  · refine ev_succ ?_
    simp only [spec_GridOf.l1, List.take_length]
    rw [w64 (x := (f : Int) + 1) (by omega) (by omega)]
    exact ev_neg (by omega) (ev_pos (by omega) (ev_pos (by omega) next))
  · intro n hn h
    have hl : (binsOf c (x.take n)).length ≤ 1048576 := by rw [binsOf_length, List.length_take]; omega
    rw [binsOf_succ c hn] at h
    refine ev_succ ?_
    simp only [spec_GridOf.l1]
    rw [w64 (x := (n : Int) + 1) (by omega) (by omega)]
    exact ev_pos (by omega) (ev_pos (by omega) (Ev.bind (specBinOf c _ (by omega)) (ev_pos (by omega) h)))
theorem specGridOf (L : List ByteArray) (t : ByteArray) (R : List (List Int)) (Y : List Int) (b : Int) (hL : L.length ≤ 1048576) (hs : ∀ x ∈ L, x.size ≤ 1048576) (ht : t.size ≤ 1048576) (hRl : R.length ≤ 1048576) : Ev (fun k => spec_GridOf.f k L t R Y b) (gridOf L t R Y b) := by
  have stop : ∀ r, r = ([], []) → Ev (fun k => spec_GridOf.j0 k b true L t R Y) r := by
    rintro _ rfl
    refine ev_succ ?_
    simp only [spec_GridOf.j0]
    exact ev_pos trivial (Ev.now _)
  unfold spec_GridOf.f gridOf
  refine Ev.bind (specTableOk L t R Y hL hs ht hRl) ?_
  by_cases k1 : TableP L t R Y
  case neg => exact ev_neg (by rw [dec_false k1]; decide) (stop _ (if_neg (fun h => k1 h.1)))
  refine ev_pos (dec_true k1) ?_
  simp only [specIn, Option.bind_some]
  by_cases k2 : 2 ≤ b ∧ b ≤ 8
  case neg => rw [decide_eq_false k2]; exact stop _ (if_neg (fun h => k2 h.2))
  rw [decide_eq_true k2, if_pos ⟨k1, k2⟩]
  have hn := k1.1
  refine ev_succ ?_
  simp only [spec_GridOf.j0]
  refine ev_neg (by decide) ?_
  refine fold_loop (fun k (s : List (List Int) × List (List Int)) i => spec_GridOf.l0 k b i L t R Y s.1 s.2) L.length (fun n => (gridC R b n, gridB R b n)) _ ?_ ?_ L.length 0 (by omega)
  · refine ev_succ ?_
    simp only [spec_GridOf.l0]
    exact ev_neg (by omega) (Ev.now _)
  · intro n hn' h
    have e : colOf L R (n : Int) = col (n : Int) R := if_pos ⟨by omega, by omega⟩
    simp only [gridC_succ, gridB_succ] at h
    refine ev_succ ?_
    simp only [spec_GridOf.l0]
    refine ev_pos (by omega) (Ev.bind (ev_eq (specColumn L t R Y (n : Int) hL hRl) e) (Ev.bind (specCuts _ b (by rw [col_length]; exact hRl)) ?_))
    exact specGrid_l1 L t R Y b _ _ n _ _ (cutsOf_length _ _) (by rw [col_length]; exact hRl) (by omega) (by rw [gridC_length]; omega) (by rw [gridB_length]; omega) h

theorem FnExactGridOf (l0_0 : List ByteArray) (a0_1 : ByteArray) (l0_2 : List (List Int)) (l0_3 : List Int) (a1 : Int)
    (w0_0 : l0_0.length ≤ maxLen ∧ ∀ x ∈ l0_0, x.size ≤ maxLen) (w0_1 : a0_1.size ≤ maxLen) (w0_2 : l0_2.length ≤ maxLen ∧ ∀ x ∈ l0_2, x.length ≤ maxLen ∧ ∀ y ∈ x, (Lit.int .i64 y).wf = true) (w0_3 : l0_3.length ≤ maxLen ∧ ∀ x ∈ l0_3, (Lit.int .i64 x).wf = true) (w1 : (Lit.int .i64 a1).wf = true) : ∃ k, laws_FnExactGridOf.f k l0_0 a0_1 l0_2 l0_3 a1 = some true := by
  refine Ev.rounds ?_
  unfold laws_FnExactGridOf.f
  have f0 : l0_0.length ≤ ws l0_0 := by unfold ws; omega
  have f2 : l0_2.length ≤ wt l0_2 := by unfold wt; omega
  refine Ev.bind (szTable l0_0 a0_1 l0_2 l0_3 1048576 (by omega) (by omega) w0_0.1 w0_0.2 w0_1 w0_2.1 (fun x hx => (w0_2.2 x hx).1) w0_3.1) ?_
  by_cases b0 : (1048576 : Int) < ws l0_0 + a0_1.size + wt l0_2 + l0_3.length
  · rw [if_pos b0]
    exact ev_pos (by omega) (Ev.now _)
  rw [if_neg b0]
  refine ev_neg (by omega) ?_
  have hs : ∀ x ∈ l0_0, x.size ≤ 1048576 := fun x hx => by have := ws_mem hx; omega
  have t0 := toTable l0_0 a0_1 l0_2 l0_3 (by omega) (by omega) (by omega)
  have sp := specGridOf l0_0 a0_1 l0_2 l0_3 a1 (by omega) hs (by omega) (by omega)
  have im := implGridOf l0_0 a0_1 l0_2 l0_3 a1 (by omega) hs (by omega) (by omega) (by omega)
  have hC : wt (gridOf l0_0 a0_1 l0_2 l0_3 a1).1 ≤ 1000 := by
    unfold gridOf
    split
    · rename_i h
      exact gridC_wt l0_2 a1 (by have := h.1.1.2; omega)
    · exact Nat.zero_le _
  have hB : wt (gridOf l0_0 a0_1 l0_2 l0_3 a1).2 ≤ 1000 := by
    unfold gridOf
    split
    · rename_i h
      exact gridB_wt l0_2 a1 (by have := h.1.1.2; omega) (by have := h.1.2.2.2.1.2; omega)
    · exact Nat.zero_le _
  obtain ⟨v, r2, r3, r4, mk, hv⟩ := markTable l0_0 a0_1 l0_2 l0_3 (by omega)
  have eqg := eqGrid (gridOf l0_0 a0_1 l0_2 l0_3 a1).1 (gridOf l0_0 a0_1 l0_2 l0_3 a1).2 (by omega) (by omega)
  refine Ev.bind t0 (Ev.bind sp (Ev.bind t0 (Ev.bind im (Ev.bind eqg (ev_pos rfl (Ev.bind t0 (Ev.bind (eqTable l0_0 a0_1 l0_2 l0_3 (by omega) (by omega) (by omega)) (ev_pos rfl (Ev.bind mk (ev_neg (by dsimp only; omega) (Ev.bind eqg (ev_succ ?_))))))))))))
  simp only [laws_FnExactGridOf.j0]
  have hm := markGrid (gridOf l0_0 a0_1 l0_2 l0_3 a1).1 (gridOf l0_0 a0_1 l0_2 l0_3 a1).2 (by omega) (by omega)
  have hh := heldGrid (gridOf l0_0 a0_1 l0_2 l0_3 a1).1 (gridOf l0_0 a0_1 l0_2 l0_3 a1).2 (by omega) (by omega)
  exact ev_neg (by simp) (Ev.bind hm (Ev.bind hh (ev_neg (by omega) (ev_pos rfl (Ev.bind t0 (Ev.bind im (Ev.bind eqg (ev_pos rfl (Ev.bind hh (ev_neg (by omega) (ev_pos rfl (Ev.now _))))))))))))

end Go.Proofs.Ytnidkpkfkklkaaa.Pure
