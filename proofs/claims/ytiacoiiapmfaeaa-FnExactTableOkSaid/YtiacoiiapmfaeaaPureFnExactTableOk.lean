/- impl.TableOk returns what spec.TableOk returns and leaves its table as it was, for all tables. Conditions: none but the row's own.
-/
import Derived.Test.YtiacoiiapmfaeaaQFnExactTableOkx8
set_option linter.unusedVariables false
set_option linter.unusedSimpArgs false
namespace Go.Proofs.Ytiacoiiapmfaeaa.Pure
open Go.RowKit Go.Proofs.Ytiacoiiapmfaeaa.QFnExactTableOk Go.Proofs.YtiacoiiapmfaeaaW.PrintWords Go.Proofs.YtiacoiiapmfaeaaW.PrintLast Go.Proofs.YtiacoiiapmfaeaaW.PrintMore

theorem w64 {x : Int} (h1 : -9223372036854775808 ≤ x) (h2 : x ≤ 9223372036854775807) : wrap64 x = x := by unfold wrap64; omega
theorem i64_wf {x : Int} (h : (Lit.int .i64 x).wf = true) : -9223372036854775808 ≤ x ∧ x ≤ 9223372036854775807 := by
  simpa [Lit.wf, IntKind.min, IntKind.max, IntKind.signed, IntKind.bits] using h
theorem u8_wf {x : Int} (h : (Lit.int .u8 x).wf = true) : 0 ≤ x ∧ x ≤ 255 := by
  simpa [Lit.wf, IntKind.min, IntKind.max, IntKind.signed, IntKind.bits] using h
theorem rd_eq {xs : List Int} {i : Int} (h0 : 0 ≤ i) (h : i < (xs.length : Int)) : xs[i.toNat]? = some (rd xs i) := by
  unfold rd
  rw [List.getD_eq_getElem?_getD, List.getElem?_eq_getElem (by omega)]
  rfl
theorem rd_mem {xs : List Int} {i : Int} (h0 : 0 ≤ i) (h : i < (xs.length : Int)) : rd xs i ∈ xs := List.mem_of_getElem? (rd_eq h0 h)
theorem rd_of {xs : List Int} {n : Nat} {v : Int} (h : xs[n]? = some v) : rd xs (n : Int) = v := by
  unfold rd
  rw [List.getD_eq_getElem?_getD, Int.toNat_natCast, h]
  rfl
theorem ev_of {α : Type} {r : α} {p : Option α} (h : p = some r) : Ev (fun _ => p) r := ⟨0, fun _ _ => h⟩
theorem ev_end {α : Type} {g : Nat → Option α} {r : α} (h : ∀ k, g (k + 1) = some r) : Ev g r := Ev.step (f := fun _ => some r) h (Ev.now r)
theorem ev_pos {α : Type} {c : Prop} [Decidable c] {f g : Nat → Option α} {r : α} (hc : c) (h : Ev f r) : Ev (fun k => if c then f k else g k) r := Ev.congr (fun _ => if_pos hc) h
theorem ev_neg {α : Type} {c : Prop} [Decidable c] {f g : Nat → Option α} {r : α} (hc : ¬ c) (h : Ev g r) : Ev (fun k => if c then f k else g k) r := Ev.congr (fun _ => if_neg hc) h
theorem rd_drop {xs : List Int} {n : Nat} (h : n < xs.length) : xs.drop n = rd xs (n : Int) :: xs.drop (n + 1) := by
  rw [List.drop_eq_getElem_cons h]
  congr 1
  unfold rd
  rw [List.getD_eq_getElem?_getD, Int.toNat_natCast, List.getElem?_eq_getElem h]
  rfl
noncomputable def dec (p : Prop) : Bool := @decide p (Classical.propDecidable p)
theorem dec_true {p : Prop} (h : p) : dec p = true := @decide_eq_true p (Classical.propDecidable p) h
theorem dec_false {p : Prop} (h : ¬ p) : dec p = false := @decide_eq_false p (Classical.propDecidable p) h
theorem dec_iff {p : Prop} : dec p = true ↔ p := @decide_eq_true_iff p (Classical.propDecidable p)
theorem dec_congr {p q : Prop} (h : p ↔ q) : dec p = dec q := by rw [propext h]
theorem dec_eq {p : Prop} [Decidable p] : dec p = decide p := by
  by_cases h : p
  · rw [dec_true h, decide_eq_true h]
  · rw [dec_false h, decide_eq_false h]
theorem ev_succ {α : Type} {g : Nat → Option α} {r : α} (h : Ev (fun k => g (k + 1)) r) : Ev g r := by
  obtain ⟨K, h⟩ := h
  refine ⟨K + 1, fun n hn => ?_⟩
  obtain ⟨m, rfl⟩ : ∃ m, n = m + 1 := ⟨n - 1, by omega⟩
  exact h m (by omega)
theorem ev_eq {α : Type} {g : Nat → Option α} {r r' : α} (h : Ev g r) (e : r = r') : Ev g r' := e ▸ h
theorem gd_eq {α : Type} (z : α) {xs : List α} {i : Int} (h0 : 0 ≤ i) (h : i < (xs.length : Int)) : xs[i.toNat]? = some (xs.getD i.toNat z) := by
  rw [List.getD_eq_getElem?_getD, List.getElem?_eq_getElem (by omega)]
  rfl
theorem gd_nat {α : Type} (z : α) {xs : List α} {n : Nat} {v : α} (h : xs[n]? = some v) : xs.getD ((n : Int)).toNat z = v := by
  rw [List.getD_eq_getElem?_getD, Int.toNat_natCast, h]
  rfl
theorem gd_drop {α : Type} (z : α) {xs : List α} {n : Nat} (h : n < xs.length) : xs.drop n = xs.getD ((n : Int)).toNat z :: xs.drop (n + 1) := by
  rw [List.drop_eq_getElem_cons h]
  congr 1
  exact (gd_nat z (List.getElem?_eq_getElem h)).symm
/-- A loop that copies: place after place is set. -/
theorem copy_loop {α β : Type} (F : Nat → List β → Int → Option (List β)) (l : List α) (g : α → β)
    (hend : ∀ acc : List β, acc.length = l.length → Ev (fun k => F k acc (l.length : Int)) acc)
    (hstep : ∀ (acc : List β) (n : Nat) (x : α) (r : List β), n < l.length → acc.length = l.length → l[n]? = some x → Ev (fun k => F k (acc.set n (g x)) ((n + 1 : Nat) : Int)) r → Ev (fun k => F k acc (n : Int)) r) :
    ∀ (d n : Nat) (acc : List β), n + d = l.length → acc.length = l.length → (∀ j, j < n → acc[j]? = (l.map g)[j]?) → Ev (fun k => F k acc (n : Int)) (l.map g) := by
  intro d
  induction d with
  | zero =>
    intro n acc hn ha hp
    obtain rfl : n = l.length := by omega
    refine ev_eq (hend acc ha) (List.ext_getElem? fun j => ?_)
    by_cases h : j < l.length
    · exact hp j h
    · rw [List.getElem?_eq_none (by omega), List.getElem?_eq_none (by simp; omega)]
  | succ d ih =>
    intro n acc hn ha hp
    have hx : l[n]? = some l[n] := List.getElem?_eq_getElem (by omega)
    refine hstep acc n l[n] _ (by omega) ha hx (ih (n + 1) _ (by omega) (by simpa using ha) ?_)
    intro j hj
    rw [List.getElem?_set]
    by_cases h : n = j
    · subst h
      rw [if_pos rfl, if_pos (by omega), List.getElem?_map, hx]
      rfl
    · rw [if_neg h]
      exact hp j (by omega)
/-- A loop that tests place after place. -/
theorem all_loop (F : Nat → Int → Option Bool) (L : Nat) (p : Nat → Prop) (hend : Ev (fun k => F k (L : Int)) true)
    (hyes : ∀ (n : Nat) (r : Bool), n < L → p n → Ev (fun k => F k ((n + 1 : Nat) : Int)) r → Ev (fun k => F k (n : Int)) r)
    (hno : ∀ n : Nat, n < L → ¬ p n → Ev (fun k => F k (n : Int)) false) :
    ∀ (d n : Nat), n + d = L → Ev (fun k => F k (n : Int)) (dec (∀ j, n ≤ j → j < L → p j)) := by
  intro d
  induction d with
  | zero =>
    intro n hn
    obtain rfl : n = L := by omega
    exact ev_eq hend (dec_true (fun j h1 h2 => by omega)).symm
  | succ d ih =>
    intro n hn
    by_cases h : p n
    · refine hyes n _ (by omega) h (ev_eq (ih (n + 1) (by omega)) (dec_congr ⟨fun g j h1 h2 => ?_, fun g j h1 h2 => g j (by omega) h2⟩))
      by_cases e : j = n
      · exact e ▸ h
      · exact g j (by omega) h2
    · exact ev_eq (hno n (by omega) h) (dec_false (fun g => h (g n (Nat.le_refl _) (by omega)))).symm
/-- A loop that goes round L times over a state. -/
theorem fold_loop {σ ρ : Type} (F : Nat → σ → Int → Option ρ) (L : Nat) (S : Nat → σ) (r : ρ) (hend : Ev (fun k => F k (S L) (L : Int)) r)
    (hstep : ∀ n : Nat, n < L → Ev (fun k => F k (S (n + 1)) ((n + 1 : Nat) : Int)) r → Ev (fun k => F k (S n) (n : Int)) r) :
    ∀ (d n : Nat), n + d = L → Ev (fun k => F k (S n) (n : Int)) r := by
  intro d
  induction d with
  | zero =>
    intro n hn
    obtain rfl : n = L := by omega
    exact hend
  | succ d ih =>
    intro n hn
    exact hstep n (by omega) (ih (n + 1) (by omega))
theorem set_mid {α : Type} (a b : List α) (x v : α) {n : Nat} (h : a.length = n) : (a ++ x :: b).set n v = a ++ v :: b := by
  subst h
  rw [List.set_append_right _ _ (Nat.le_refl _), Nat.sub_self]
  rfl
theorem get_mid {α : Type} (a b : List α) (x : α) {n : Nat} (h : a.length = n) : (a ++ x :: b)[n]? = some x := by
  subst h
  rw [List.getElem?_append_right (Nat.le_refl _), Nat.sub_self]
  rfl
/-- A loop that tests place after place, and one thing more at its end. -/
theorem all_loop2 (F : Nat → Int → Option Bool) (L : Nat) (p : Nat → Prop) (E : Prop) (hend : Ev (fun k => F k (L : Int)) (dec E))
    (hyes : ∀ (n : Nat) (r : Bool), n < L → p n → Ev (fun k => F k ((n + 1 : Nat) : Int)) r → Ev (fun k => F k (n : Int)) r)
    (hno : ∀ n : Nat, n < L → ¬ p n → Ev (fun k => F k (n : Int)) false) :
    ∀ (d n : Nat), n + d = L → Ev (fun k => F k (n : Int)) (dec ((∀ j, n ≤ j → j < L → p j) ∧ E)) := by
  intro d
  induction d with
  | zero =>
    intro n hn
    obtain rfl : n = L := by omega
    exact ev_eq hend (dec_congr ⟨fun h => ⟨fun j h1 h2 => by omega, h⟩, fun h => h.2⟩)
  | succ d ih =>
    intro n hn
    by_cases h : p n
    · refine hyes n _ (by omega) h (ev_eq (ih (n + 1) (by omega)) (dec_congr ⟨fun g => ⟨fun j h1 h2 => ?_, g.2⟩, fun g => ⟨fun j h1 h2 => g.1 j (by omega) h2, g.2⟩⟩))
      by_cases e : j = n
      · exact e ▸ h
      · exact g.1 j (by omega) h2
    · exact ev_eq (hno n (by omega) h) (dec_false (fun g => h (g.1 n (Nat.le_refl _) (by omega)))).symm
/-- Lists of one length whose places stand in R to each other. -/
def SameR {α : Type} (z : α) (R : α → α → Prop) (l m : List α) : Prop := l.length = m.length ∧ ∀ j : Nat, 0 ≤ j → j < l.length → R (l.getD j z) (m.getD j z)
theorem same_ev {α : Type} (z : α) (R : α → α → Prop) (l m : List α) (h0 : l.length = m.length) (F : Nat → Int → Option Bool) (hend : Ev (fun k => F k (l.length : Int)) true)
    (hyes : ∀ (n : Nat) (r : Bool), n < l.length → R (l.getD n z) (m.getD n z) → Ev (fun k => F k ((n + 1 : Nat) : Int)) r → Ev (fun k => F k (n : Int)) r)
    (hno : ∀ n : Nat, n < l.length → ¬ R (l.getD n z) (m.getD n z) → Ev (fun k => F k (n : Int)) false) : Ev (fun k => F k 0) (dec (SameR z R l m)) :=
  ev_eq (all_loop F l.length (fun j => R (l.getD j z) (m.getD j z)) hend hyes hno l.length 0 (by omega)) (dec_congr ⟨fun h => ⟨h0, h⟩, fun h => h.2⟩)
theorem rdn (xs : List Int) (n : Nat) : rd xs (n : Int) = xs.getD n 0 := rfl
theorem rdOfn {α : Type} (z : α) (xs : List α) (n : Nat) : rdOf z xs (n : Int) = xs.getD n z := rfl
/-- How much a list of texts holds. -/
def ws (l : List ByteArray) : Nat := l.length + (l.map ByteArray.size).sum
theorem szStringS_l0 (l : List ByteArray) (hl : l.length ≤ 1048576) (hm : ∀ x ∈ l, x.size ≤ maxLen) : ∀ (d n : Nat) (a : Int), n + d = l.length → 0 ≤ a → a ≤ 1048576 →
    Ev (fun k => laws_szStringS.l0 k l a (n : Int)) (if a < ((l.drop n).map ByteArray.size).sum then -1 else a - ((l.drop n).map ByteArray.size).sum) := by
  intro d
  induction d with
  | zero =>
    intro n a hn h0 h1
    obtain rfl : n = l.length := by omega
    refine ev_succ ?_
    simp only [laws_szStringS.l0]
    refine ev_neg (by omega) (ev_of ?_)
    rw [List.drop_length, if_neg (by simp; omega)]
    simp
  | succ d ih =>
    intro n a hn h0 h1
    refine ev_succ ?_
    have hx : l[n]? = some l[n] := List.getElem?_eq_getElem (by omega)
    have d1 : l.drop n = l[n] :: l.drop (n + 1) := List.drop_eq_getElem_cons (by omega)
    have hmx := hm _ (List.mem_of_getElem? hx)
    unfold maxLen at hmx
    simp only [laws_szStringS.l0, rdOf, gd_nat ByteArray.empty hx]
    refine ev_pos (by omega) (ev_pos (by omega) ?_)
    rw [d1, List.map_cons, List.sum_cons, w64 (x := (n : Int) + 1) (by omega) (by omega), w64 (x := a - (l[n].size : Int)) (by omega) (by omega)]
    by_cases h : a < l[n].size
    · refine ev_pos (by omega) (ev_of ?_)
      rw [if_pos (by omega)]
    · refine ev_neg (by omega) (ev_eq (ih (n + 1) (a - l[n].size) (by omega) (by omega) (by omega)) ?_)
      by_cases g : a - (l[n].size : Int) < ((l.drop (n + 1)).map ByteArray.size).sum
      · rw [if_pos g, if_pos (by omega)]
      · rw [if_neg g, if_neg (by omega)]
        omega
theorem szStringS (l : List ByteArray) (a : Int) (h0 : 0 ≤ a) (h1 : a ≤ 1048576) (hl : l.length ≤ maxLen) (hm : ∀ x ∈ l, x.size ≤ maxLen) : Ev (fun k => laws_szStringS.f k l a) (if a < ws l then -1 else a - ws l) := by
  unfold maxLen at hl
  unfold laws_szStringS.f ws
  rw [w64 (by omega) (by omega)]
  by_cases h : a < l.length
  · refine ev_pos (by omega) (ev_of ?_)
    rw [if_pos (by omega)]
  · refine ev_neg (by omega) (ev_eq (szStringS_l0 l (by omega) hm l.length 0 _ (by omega) (by omega) (by omega)) ?_)
    rw [List.drop_zero]
    by_cases g : a - (l.length : Int) < (l.map ByteArray.size).sum
    · rw [if_pos g, if_pos (by omega)]
    · rw [if_neg g, if_neg (by omega)]
      omega
theorem toStringS (l : List ByteArray) (hl : l.length ≤ 17592186044416) : Ev (fun k => laws_toStringS.f k l) l := by
  unfold laws_toStringS.f
  refine ev_pos (by omega) (ev_pos (by omega) ?_)
  refine ev_eq (copy_loop (fun k acc i => laws_toStringS.l0 k l acc i) l id ?_ ?_ l.length 0 _ (by omega) (by simp) (fun j h => by omega)) (by simp)
  · intro acc ha
    refine ev_succ ?_
    simp only [laws_toStringS.l0]
    exact ev_neg (by omega) (Ev.now _)
  · intro acc n x r hn ha hx h
    refine ev_succ ?_
    simp only [laws_toStringS.l0, rdOf, gd_nat ByteArray.empty hx]
    refine ev_pos (by omega) (ev_pos (by omega) (ev_pos (by omega) ?_))
    rw [w64 (x := (n : Int) + 1) (by omega) (by omega)]
    exact h
theorem eqStringS (l : List ByteArray) (hl : l.length ≤ 17592186044416) : Ev (fun k => laws_eqStringS.f k l l) true := by
  unfold laws_eqStringS.f
  refine ev_pos rfl ?_
  refine ev_eq (all_loop (fun k i => laws_eqStringS.l0 k l l i) l.length (fun _ => True) ?_ ?_ ?_ l.length 0 (by omega)) (dec_true (fun _ _ _ => trivial))
  · refine ev_succ ?_
    simp only [laws_eqStringS.l0]
    exact ev_neg (by omega) (Ev.now _)
  · intro n r hn _ h
    refine ev_succ ?_
    simp only [laws_eqStringS.l0]
    refine ev_pos (by omega) (ev_pos (by omega) (ev_pos (by omega) (ev_pos trivial ?_)))
    rw [w64 (x := (n : Int) + 1) (by omega) (by omega)]
    exact h
  · intro n hn h
    exact absurd trivial h
theorem rdL (xs : List (List Int)) (i : Int) : rd_L2 xs i = xs.getD i.toNat [] := rfl
/-- How much a list of lists holds. -/
def wt (l : List (List Int)) : Nat := l.length + (l.map List.length).sum
theorem wt_mem {l : List (List Int)} {x : List Int} (h : x ∈ l) : x.length ≤ wt l := by
  unfold wt
  induction l with
  | nil => simp at h
  | cons y l ih =>
    simp only [List.mem_cons] at h
    simp only [List.map_cons, List.sum_cons, List.length_cons]
    rcases h with rfl | h
    · omega
    · have := ih h; omega
theorem toIntS_l0 (l : List Int) (hl : l.length ≤ 35184372088832) : ∀ (d n : Nat) (acc : List Int), n + d = l.length → acc.length = l.length → (∀ j, j < n → acc[j]? = l[j]?) → Ev (fun k => laws_toIntS.l0 k l acc (n : Int)) l := by
  intro d
  induction d with
  | zero =>
    intro n acc hn ha hp
    refine ev_end fun k => ?_
    simp only [laws_toIntS.l0]
    rw [if_neg (by omega)]
    congr 1
    exact List.ext_getElem? fun j => by
      by_cases h : j < n
      · exact hp j h
      · rw [List.getElem?_eq_none (by omega), List.getElem?_eq_none (by omega)]
  | succ d ih =>
    intro n acc hn ha hp
    refine Ev.step (fun k => ?_) (ih (n + 1) (acc.set n (rd l n)) (by omega) (by simpa using ha) ?_)
    · simp only [laws_toIntS.l0]
      rw [if_pos (by omega), if_pos (by omega), if_pos (by omega), w64 (by omega) (by omega)]
      rfl
    intro j hj
    rw [List.getElem?_set]
    by_cases h : j = n
    · subst h
      rw [if_pos (by omega), if_pos (by omega), ← rd_eq (by omega) (by omega)]
      simp
    · rw [if_neg (by omega)]
      exact hp j (by omega)
theorem toIntS (l : List Int) (hl : l.length ≤ 35184372088832) : Ev (fun k => laws_toIntS.f k l) l := by
  refine Ev.congr (fun k => ?_) (toIntS_l0 l hl l.length 0 (List.replicate l.length 0) (by omega) (by simp) (fun j h => by omega))
  unfold laws_toIntS.f
  rw [if_pos (by omega), if_pos (by omega)]
  rfl
theorem toIntSS (l : List (List Int)) (hl : wt l ≤ 1048576) : Ev (fun k => laws_toIntSS.f k l) l := by
  have h1 : l.length ≤ wt l := by unfold wt; omega
  unfold laws_toIntSS.f
  refine ev_pos (by omega) (ev_pos (by omega) ?_)
  have key := copy_loop (fun k acc i => laws_toIntSS.l0 k l acc i) l (fun x => x) ?_ ?_ l.length 0 (List.replicate (l.length : Int).toNat []) (by omega) (by simp) (fun j h => by omega)
  · simpa using key
  · intro acc ha
    refine ev_succ ?_
    simp only [laws_toIntSS.l0]
    exact ev_neg (by omega) (Ev.now _)
  · intro acc n x r hn ha hx h
    refine ev_succ ?_
    have hm := wt_mem (List.mem_of_getElem? hx)
    simp only [laws_toIntSS.l0, rdL, gd_nat [] hx, Option.bind_some]
    refine ev_pos (by omega) (ev_pos (by omega) (Ev.bind (toIntS x (by omega)) (ev_pos (by omega) ?_)))
    rw [w64 (x := (n : Int) + 1) (by omega) (by omega)]
    exact h
theorem eqIntS_l0 (l : List Int) (hl : l.length ≤ 35184372088832) : ∀ (d n : Nat), n + d = l.length → Ev (fun k => laws_eqIntS.l0 k l l (n : Int)) true := by
  intro d
  induction d with
  | zero =>
    intro n hn
    refine ev_end fun k => ?_
    simp only [laws_eqIntS.l0]
    rw [if_neg (by omega)]
  | succ d ih =>
    intro n hn
    refine Ev.step (fun k => ?_) (ih (n + 1) (by omega))
    simp only [laws_eqIntS.l0]
    rw [if_pos (by omega), if_pos (by omega), if_pos (by omega), if_pos trivial, w64 (by omega) (by omega)]
    rfl
theorem eqIntS (l : List Int) (hl : l.length ≤ 35184372088832) : Ev (fun k => laws_eqIntS.f k l l) true := by
  refine Ev.congr (fun k => ?_) (eqIntS_l0 l hl l.length 0 (by omega))
  unfold laws_eqIntS.f
  rw [if_pos rfl]
  rfl
theorem eqIntSS (l : List (List Int)) (hl : wt l ≤ 1048576) : Ev (fun k => laws_eqIntSS.f k l l) true := by
  have h1 : l.length ≤ wt l := by unfold wt; omega
  unfold laws_eqIntSS.f
  refine ev_pos rfl ?_
  refine ev_eq (all_loop (fun k i => laws_eqIntSS.l0 k l l i) l.length (fun _ => True) ?_ ?_ ?_ l.length 0 (by omega)) (dec_true (fun _ _ _ => trivial))
  · refine ev_succ ?_
    simp only [laws_eqIntSS.l0]
    exact ev_neg (by omega) (Ev.now _)
  · intro n r hn _ h
    refine ev_succ ?_
    have hx : l[n]? = some l[n] := List.getElem?_eq_getElem hn
    have hm := wt_mem (List.mem_of_getElem? hx)
    simp only [laws_eqIntSS.l0, rdL, gd_nat [] hx]
    refine ev_pos (by omega) (ev_pos (by omega) (ev_pos (by omega) (Ev.bind (eqIntS _ (by omega)) (ev_pos rfl ?_))))
    rw [w64 (x := (n : Int) + 1) (by omega) (by omega)]
    exact h
  · intro n hn h
    exact absurd trivial h
theorem szIntS (l : List Int) (a : Int) (h0 : 0 ≤ a) (h1 : a ≤ 1048576) (hl : l.length ≤ maxLen) : laws_szIntS.f l a = some (if a < l.length then -1 else a - l.length) := by
  unfold maxLen at hl
  unfold laws_szIntS.f
  rw [w64 (by omega) (by omega)]
  by_cases h : a < l.length
  · rw [if_pos (by omega), if_pos h]
  · rw [if_neg (by omega), if_neg h]
theorem szIntSS_l0 (l : List (List Int)) (hl : l.length ≤ 1048576) (hm : ∀ x ∈ l, x.length ≤ maxLen) : ∀ (d n : Nat) (a : Int), n + d = l.length → 0 ≤ a → a ≤ 1048576 →
    Ev (fun k => laws_szIntSS.l0 k l a (n : Int)) (if a < ((l.drop n).map List.length).sum then -1 else a - ((l.drop n).map List.length).sum) := by
  intro d
  induction d with
  | zero =>
    intro n a hn h0 h1
    obtain rfl : n = l.length := by omega
    refine ev_succ ?_
    simp only [laws_szIntSS.l0]
    refine ev_neg (by omega) (ev_of ?_)
    rw [List.drop_length, if_neg (by simp; omega)]
    simp
  | succ d ih =>
    intro n a hn h0 h1
    refine ev_succ ?_
    have hx : l[n]? = some l[n] := List.getElem?_eq_getElem (by omega)
    have d1 : l.drop n = l[n] :: l.drop (n + 1) := List.drop_eq_getElem_cons (by omega)
    have hmx := hm _ (List.mem_of_getElem? hx)
    simp only [laws_szIntSS.l0, rdL, gd_nat [] hx, szIntS l[n] a h0 h1 hmx, Option.bind_some]
    refine ev_pos (by omega) (ev_pos (by omega) ?_)
    rw [d1, List.map_cons, List.sum_cons, w64 (x := (n : Int) + 1) (by omega) (by omega)]
    by_cases h : a < l[n].length
    · rw [if_pos h]
      refine ev_pos (by omega) (ev_of ?_)
      rw [if_pos (by omega)]
    · rw [if_neg h]
      refine ev_neg (by omega) (ev_eq (ih (n + 1) (a - l[n].length) (by omega) (by omega) (by omega)) ?_)
      by_cases g : a - (l[n].length : Int) < ((l.drop (n + 1)).map List.length).sum
      · rw [if_pos g, if_pos (by omega)]
      · rw [if_neg g, if_neg (by omega)]
        omega
theorem szIntSS (l : List (List Int)) (a : Int) (h0 : 0 ≤ a) (h1 : a ≤ 1048576) (hl : l.length ≤ maxLen) (hm : ∀ x ∈ l, x.length ≤ maxLen) : Ev (fun k => laws_szIntSS.f k l a) (if a < wt l then -1 else a - wt l) := by
  unfold maxLen at hl
  unfold laws_szIntSS.f wt
  rw [w64 (by omega) (by omega)]
  by_cases h : a < l.length
  · refine ev_pos (by omega) (ev_of ?_)
    rw [if_pos (by omega)]
  · refine ev_neg (by omega) (ev_eq (szIntSS_l0 l (by omega) hm l.length 0 _ (by omega) (by omega) (by omega)) ?_)
    rw [List.drop_zero]
    by_cases g : a - (l.length : Int) < (l.map List.length).sum
    · rw [if_pos g, if_pos (by omega)]
    · rw [if_neg g, if_neg (by omega)]
      omega
theorem szTable (a : List ByteArray) (t : ByteArray) (b : List (List Int)) (c : List Int) (n : Int) (h0 : 0 ≤ n) (h1 : n ≤ 1048576) (ha : a.length ≤ maxLen) (ham : ∀ x ∈ a, x.size ≤ maxLen) (ht : t.size ≤ maxLen) (hb : b.length ≤ maxLen) (hbm : ∀ x ∈ b, x.length ≤ maxLen) (hc : c.length ≤ maxLen) :
    Ev (fun k => laws_szTable.f k a t b c n) (if n < ws a + t.size + wt b + c.length then -1 else n - ws a - t.size - wt b - c.length) := by
  unfold laws_szTable.f
  refine Ev.bind (szStringS a n h0 h1 ha ham) ?_
  unfold maxLen at ht
  by_cases h : n < ws a
  · rw [if_pos h]
    refine ev_pos (by omega) (ev_of ?_)
    rw [if_pos (by omega)]
  rw [if_neg h, w64 (x := n - (ws a : Int) - (t.size : Int)) (by omega) (by omega)]
  refine ev_neg (by omega) ?_
  by_cases g : n - (ws a : Int) < t.size
  · refine ev_pos (by omega) (ev_of ?_)
    rw [if_pos (by omega)]
  refine ev_neg (by omega) (Ev.bind (szIntSS b _ (by omega) (by omega) hb hbm) ?_)
  by_cases g2 : n - (ws a : Int) - (t.size : Int) < wt b
  · rw [if_pos g2]
    refine ev_pos (by omega) (ev_of ?_)
    rw [if_pos (by omega)]
  rw [if_neg g2, szIntS c _ (by omega) (by omega) hc]
  simp only [Option.bind_some]
  refine ev_neg (by omega) ?_
  by_cases g3 : n - (ws a : Int) - (t.size : Int) - (wt b : Int) < c.length
  · rw [if_pos g3]
    refine ev_pos (by omega) (ev_of ?_)
    rw [if_pos (by omega)]
  · rw [if_neg g3]
    refine ev_neg (by omega) (ev_of ?_)
    rw [if_neg (by omega)]
theorem toTable (a : List ByteArray) (t : ByteArray) (b : List (List Int)) (c : List Int) (ha : a.length ≤ 1048576) (hb : wt b ≤ 1048576) (hc : c.length ≤ 1048576) : Ev (fun k => laws_toTable.f k a t b c) (a, t, b, c) := by
  unfold laws_toTable.f
  exact Ev.bind (toStringS a (by omega)) (Ev.bind (toIntSS b hb) (Ev.bind (toIntS c (by omega)) (Ev.now _)))
theorem eqTable (a : List ByteArray) (t : ByteArray) (b : List (List Int)) (c : List Int) (ha : a.length ≤ 1048576) (hb : wt b ≤ 1048576) (hc : c.length ≤ 1048576) : Ev (fun k => laws_eqTable.f k a t b c a t b c) true := by
  unfold laws_eqTable.f
  exact Ev.bind (eqStringS a (by omega)) (ev_pos rfl (ev_pos rfl (Ev.bind (eqIntSS b hb) (ev_pos rfl (Ev.bind (eqIntS c (by omega)) (ev_pos rfl (Ev.now _)))))))
def Letter (c : Int) : Prop := 97 ≤ c ∧ c ≤ 122
def Figure (c : Int) : Prop := 48 ≤ c ∧ c ≤ 57
/-- From place n on each byte is a letter or a figure. -/
def NameFrom (s : ByteArray) (n : Nat) : Prop := ∀ j : Nat, n ≤ j → j < s.size → Letter (bt s (j : Int)) ∨ Figure (bt s (j : Int))
def IsName (s : ByteArray) : Prop := 1 ≤ s.size ∧ s.size ≤ 12 ∧ Letter (bt s 0) ∧ NameFrom s 0
theorem NameFrom.step {s : ByteArray} {n : Nat} (h : n < s.size) : NameFrom s n ↔ (Letter (bt s (n : Int)) ∨ Figure (bt s (n : Int))) ∧ NameFrom s (n + 1) := by
  constructor
  · exact fun g => ⟨g n (Nat.le_refl _) h, fun j hj => g j (by omega)⟩
  · intro ⟨g0, g⟩ j hj hlt
    by_cases e : j = n
    · subst e; exact g0
    · exact g j (by omega) hlt
theorem NameFrom.stop {s : ByteArray} : NameFrom s s.size := fun j h1 h2 => by omega
theorem implWithin (a b c : Int) : impl_within.f a b c = some (decide (b ≤ a ∧ a ≤ c)) := by
  unfold impl_within.f
  by_cases h : b ≤ a
  · rw [if_pos h]; simp [h]
  · rw [if_neg h]; simp [h]
theorem implNameOk_l0 (s : ByteArray) (hl : s.size ≤ 140737488351232) : ∀ (d n : Nat), n + d = s.size → Ev (fun k => impl_NameOk.l0 k s (s.size : Int) (n : Int)) (dec (NameFrom s n ∧ (n = 0 → 0 < s.size → Letter (bt s 0)) ∧ 1 ≤ s.size ∧ s.size ≤ 12)) := by
  intro d
  induction d with
  | zero =>
    intro n hn
    refine ev_end fun k => ?_
    simp only [impl_NameOk.l0, implWithin, Option.bind_some]
    obtain rfl : n = s.size := by omega
    rw [if_neg (by omega), ← dec_eq]
    congr 1
    refine dec_congr ⟨fun g => ⟨NameFrom.stop, fun h => by omega, by omega, by omega⟩, fun g => by omega⟩
  | succ d ih =>
    intro n hn
    have hs := NameFrom.step (s := s) (n := n) (by omega)
    have hb := bt_range s (n : Int)
    by_cases h1 : Letter (bt s (n : Int))
    · have e : dec (NameFrom s n ∧ (n = 0 → 0 < s.size → Letter (bt s 0)) ∧ 1 ≤ s.size ∧ s.size ≤ 12) = dec (NameFrom s (n + 1) ∧ (n + 1 = 0 → 0 < s.size → Letter (bt s 0)) ∧ 1 ≤ s.size ∧ s.size ≤ 12) :=
        dec_congr (by rw [hs]; exact ⟨fun g => ⟨g.1.2, fun h => by omega, g.2.2⟩, fun g => ⟨⟨.inl h1, g.1⟩, fun h _ => by subst h; exact h1, g.2.2⟩⟩)
      rw [e]
      refine Ev.step (fun k => ?_) (ih (n + 1) (by omega))
      simp only [impl_NameOk.l0]
      unfold Letter at h1
      rw [if_pos (by omega), if_pos (by omega), if_pos (by omega), if_pos (by omega), if_pos (by omega), w64 (by omega) (by omega)]
      rfl
    · by_cases h2 : Figure (bt s (n : Int)) ∧ n ≠ 0
      · have e : dec (NameFrom s n ∧ (n = 0 → 0 < s.size → Letter (bt s 0)) ∧ 1 ≤ s.size ∧ s.size ≤ 12) = dec (NameFrom s (n + 1) ∧ (n + 1 = 0 → 0 < s.size → Letter (bt s 0)) ∧ 1 ≤ s.size ∧ s.size ≤ 12) :=
          dec_congr (by rw [hs]; exact ⟨fun g => ⟨g.1.2, fun h => by omega, g.2.2⟩, fun g => ⟨⟨.inr h2.1, g.1⟩, fun h => absurd h h2.2, g.2.2⟩⟩)
        rw [e]
        refine Ev.step (fun k => ?_) (ih (n + 1) (by omega))
        simp only [impl_NameOk.l0]
        unfold Letter at h1
        unfold Figure at h2
        rw [if_pos (by omega), if_pos (by omega), if_pos (by omega)]
        by_cases h3 : bt s (n : Int) ≥ 97
        · rw [if_pos h3, if_neg (by omega), if_neg (by omega), if_neg (by omega), if_neg (by omega), w64 (by omega) (by omega)]
          rfl
        · rw [if_neg h3, if_neg (by omega), if_neg (by omega), if_neg (by omega), w64 (by omega) (by omega)]
          rfl
      · refine ev_end fun k => ?_
        have e : dec (NameFrom s n ∧ (n = 0 → 0 < s.size → Letter (bt s 0)) ∧ 1 ≤ s.size ∧ s.size ≤ 12) = false := dec_false (by
          rw [hs]
          intro ⟨⟨g1, _⟩, g2, _⟩
          by_cases z : n = 0
          · subst z; exact h1 (g2 rfl (by omega))
          · exact g1.elim h1 (fun y => h2 ⟨y, z⟩))
        rw [e]
        simp only [impl_NameOk.l0]
        unfold Letter at h1
        unfold Figure at h2
        rw [if_pos (by omega), if_pos (by omega), if_pos (by omega)]
        by_cases z : n = 0
        · by_cases h3 : bt s (n : Int) ≥ 97
          · rw [if_pos h3, if_neg (by omega), if_pos (by omega)]
          · rw [if_neg h3, if_pos (by omega)]
        · have h4 : bt s (n : Int) < 48 ∨ bt s (n : Int) > 57 := by omega
          by_cases h3 : bt s (n : Int) ≥ 97
          · rw [if_pos h3, if_neg (by omega), if_neg (by omega), if_neg (by omega), if_pos (by omega)]
          · rw [if_neg h3, if_neg (by omega)]
            by_cases h5 : bt s (n : Int) < 48
            · rw [if_pos h5]
            · rw [if_neg h5, if_pos (by omega)]
theorem implNameOk (s : ByteArray) (hl : s.size ≤ 140737488351232) : Ev (fun k => impl_NameOk.f k s) (dec (IsName s)) := by
  have h := implNameOk_l0 s hl s.size 0 (by omega)
  have e : dec (NameFrom s 0 ∧ ((0 : Nat) = 0 → 0 < s.size → Letter (bt s 0)) ∧ 1 ≤ s.size ∧ s.size ≤ 12) = dec (IsName s) :=
    dec_congr ⟨fun g => ⟨g.2.2.1, g.2.2.2, g.2.1 rfl (by omega), g.1⟩, fun g => ⟨g.2.2.2, fun _ _ => g.2.2.1, g.1, g.2.1⟩⟩
  rw [e] at h
  exact h
theorem specIn (a b c : Int) : spec_l1In.f a b c = some (decide (b ≤ a ∧ a ≤ c)) := by
  unfold spec_l1In.f
  by_cases h : b ≤ a
  · rw [if_pos h]; simp [h]
  · rw [if_neg h]; simp [h]
theorem specNameOk_l0 (s : ByteArray) (hl : s.size ≤ 140737488351232) : ∀ (d n : Nat), n + d = s.size → Ev (fun k => spec_NameOk.l0 k s (n : Int)) (dec (NameFrom s n)) := by
  intro d
  induction d with
  | zero =>
    intro n hn
    refine ev_end fun k => ?_
    simp only [spec_NameOk.l0]
    obtain rfl : n = s.size := by omega
    rw [if_neg (by omega), dec_true NameFrom.stop]
  | succ d ih =>
    intro n hn
    have hs := NameFrom.step (s := s) (n := n) (by omega)
    have hb := bt_range s (n : Int)
    by_cases h1 : Letter (bt s (n : Int))
    · have e : dec (NameFrom s n) = dec (NameFrom s (n + 1)) := dec_congr (by rw [hs]; exact ⟨fun g => g.2, fun g => ⟨.inl h1, g⟩⟩)
      rw [e]
      refine Ev.step (fun k => ?_) (ih (n + 1) (by omega))
      simp only [spec_NameOk.l0, specIn, Option.bind_some]
      unfold Letter at h1
      rw [if_pos (by omega), if_pos (by omega), w64 (x := bt s (n : Int)) (by omega) (by omega), if_pos (by simpa using h1), w64 (by omega) (by omega)]
      rfl
    · by_cases h2 : Figure (bt s (n : Int))
      · have e : dec (NameFrom s n) = dec (NameFrom s (n + 1)) := dec_congr (by rw [hs]; exact ⟨fun g => g.2, fun g => ⟨.inr h2, g⟩⟩)
        rw [e]
        refine Ev.step (fun k => ?_) (ih (n + 1) (by omega))
        simp only [spec_NameOk.l0, specIn, Option.bind_some]
        unfold Letter at h1
        unfold Figure at h2
        rw [if_pos (by omega), if_pos (by omega), w64 (x := bt s (n : Int)) (by omega) (by omega), if_neg (by simpa using h1), if_pos (by simpa using h2), w64 (by omega) (by omega)]
        rfl
      · refine ev_end fun k => ?_
        simp only [spec_NameOk.l0, specIn, Option.bind_some]
        have e : dec (NameFrom s n) = false := dec_false (by rw [hs]; exact fun g => g.1.elim h1 h2)
        unfold Letter at h1
        unfold Figure at h2
        rw [if_pos (by omega), if_pos (by omega), w64 (x := bt s (n : Int)) (by omega) (by omega), if_neg (by simpa using h1), if_neg (by simpa using h2), e]
theorem specNameOk (s : ByteArray) (hl : s.size ≤ 140737488351232) : Ev (fun k => spec_NameOk.f k s) (dec (IsName s)) := by
  unfold spec_NameOk.f
  simp only [specIn, Option.bind_some]
  have hb := bt_range s 0
  by_cases h1 : 1 ≤ s.size ∧ s.size ≤ 12
  · refine ev_pos (by simp; omega) (ev_pos (by omega) ?_)
    by_cases h2 : bt s 0 < 97
    · refine ev_end fun k => ?_
      simp only [spec_NameOk.j0]
      rw [if_pos (by simpa using h2), dec_false]
      intro g; have := g.2.2.1; unfold Letter at this; omega
    · have e : dec (IsName s) = dec (NameFrom s 0) := dec_congr ⟨fun g => g.2.2.2, fun g => ⟨h1.1, h1.2, (g 0 (by omega) (by omega)).elim (fun z => z) (fun z => by unfold Figure at z; simp only [Int.natCast_zero] at z; omega), g⟩⟩
      rw [e]
      refine Ev.step (fun k => ?_) (specNameOk_l0 s hl s.size 0 (by omega))
      simp only [spec_NameOk.j0]
      rw [if_neg (by simpa using h2)]
      rfl
  · refine ev_neg (by simp; omega) (ev_end fun k => ?_)
    simp only [spec_NameOk.j0]
    rw [if_pos trivial, dec_false]
    intro g; exact h1 ⟨g.1, g.2.1⟩
def Deci (x : Int) : Prop := -2147483647 ≤ x ∧ x ≤ 2147483647
/-- Cut points that are valid. -/
def CutsP (c : List Int) : Prop := (∀ j : Nat, 0 ≤ j → j < c.length → Deci (rd c (j : Int)) ∧ (0 < j → rd c ((j : Int) - 1) < rd c (j : Int))) ∧ c.length ≤ 7
theorem implDec (x : Int) : impl_isDecimal.f x = some (decide (-2147483647 ≤ x ∧ x ≤ 2147483647)) := by
  unfold impl_isDecimal.f
  rw [implWithin]; rfl
theorem index_dec (l : List Int) (hl : l.length ≤ 1048576) : ∀ (d n : Nat), n + d = l.length → ∃ r : Int, Ev (fun k => slices_IndexFunc_int_int_74.l0 k l (l.length : Int) (n : Int)) r ∧ (0 ≤ r ↔ ∃ j, n ≤ j ∧ j < l.length ∧ ¬ Deci (rd l (j : Int))) := by
  intro d
  induction d with
  | zero =>
    intro n hn
    refine ⟨-1, ev_succ ?_, ⟨fun h => by omega, fun ⟨j, h1, h2, _⟩ => by omega⟩⟩
    simp only [slices_IndexFunc_int_int_74.l0]
    exact ev_neg (by omega) (Ev.now _)
  | succ d ih =>
    intro n hn
    have hw : wrap64 ((n : Int) + 1) = ((n + 1 : Nat) : Int) := w64 (by omega) (by omega)
    by_cases h : Deci (rd l (n : Int))
    · obtain ⟨r, e, hr⟩ := ih (n + 1) (by omega)
      refine ⟨r, ev_succ ?_, hr.trans ⟨fun ⟨j, h1, h2, h3⟩ => ⟨j, by omega, h2, h3⟩, fun ⟨j, h1, h2, h3⟩ => ⟨j, ?_, h2, h3⟩⟩⟩
      · simp only [slices_IndexFunc_int_int_74.l0, impl_areDecimals_1.f, implDec, Option.bind_some, hw]
        exact ev_pos (by omega) (ev_pos (by omega) (ev_pos (by omega) (ev_neg (by simpa [Deci] using h) e)))
      · by_cases c : j = n
        · subst c; exact absurd h h3
        · omega
    · refine ⟨(n : Int), ev_succ ?_, ⟨fun _ => ⟨n, by omega, by omega, h⟩, fun _ => by omega⟩⟩
      simp only [slices_IndexFunc_int_int_74.l0, impl_areDecimals_1.f, implDec, Option.bind_some]
      exact ev_pos (by omega) (ev_pos (by omega) (ev_pos (by omega) (ev_pos (by unfold Deci at h; simp; omega) (Ev.now _))))
theorem implAreDec (l : List Int) (hl : l.length ≤ 1048576) : Ev (fun k => impl_areDecimals.f k l) (dec (∀ j : Nat, j < l.length → Deci (rd l (j : Int)))) := by
  unfold impl_areDecimals.f slices_ContainsFunc_int_int_44.f slices_IndexFunc_int_int_74.f
  obtain ⟨r, e, hr⟩ := index_dec l hl l.length 0 (by omega)
  refine Ev.bind (Ev.bind e (Ev.now _)) (ev_of ?_)
  congr 1
  by_cases h : ∀ j : Nat, j < l.length → Deci (rd l (j : Int))
  · rw [dec_true h]
    have : ¬ 0 ≤ r := fun z => by obtain ⟨j, _, h2, h3⟩ := hr.1 z; exact h3 (h j h2)
    simp; omega
  · rw [dec_false h]
    have : 0 ≤ r := hr.2 (Classical.byContradiction fun z => h fun j hj => Classical.byContradiction fun y => z ⟨j, by omega, hj, y⟩)
    simp; omega

theorem ws_mem {l : List ByteArray} {x : ByteArray} (h : x ∈ l) : x.size ≤ ws l := by
  unfold ws
  induction l with
  | nil => simp at h
  | cons y l ih =>
    simp only [List.mem_cons] at h
    simp only [List.map_cons, List.sum_cons, List.length_cons]
    rcases h with rfl | h
    · omega
    · have := ih h; omega
def sAt (l : List ByteArray) (j : Nat) : ByteArray := rdOf ByteArray.empty l (j : Int)
theorem sAt_size {l : List ByteArray} {m : Nat} (h : ∀ x ∈ l, x.size ≤ m) (j : Nat) : (sAt l j).size ≤ m := by
  unfold sAt
  rw [rdOfn, List.getD_eq_getElem?_getD]
  by_cases hj : j < l.length
  · rw [List.getElem?_eq_getElem hj]
    exact h _ (List.getElem_mem hj)
  · rw [List.getElem?_eq_none (by omega)]
    exact Nat.zero_le _
theorem sAt_take (l : List ByteArray) {n j : Nat} (h : j < n) : sAt (l.take n) j = sAt l j := by
  unfold sAt
  rw [rdOfn, rdOfn, List.getD_eq_getElem?_getD, List.getD_eq_getElem?_getD, List.getElem?_take, if_pos h]
theorem sAt_app_lt (l : List ByteArray) (t : ByteArray) {j : Nat} (h : j < l.length) : sAt (l ++ [t]) j = sAt l j := by
  unfold sAt
  rw [rdOfn, rdOfn, List.getD_eq_getElem?_getD, List.getD_eq_getElem?_getD, List.getElem?_append_left h]
theorem sAt_app_eq (l : List ByteArray) (t : ByteArray) : sAt (l ++ [t]) l.length = t := by
  unfold sAt
  rw [rdOfn, List.getD_eq_getElem?_getD, List.getElem?_append_right (Nat.le_refl _), Nat.sub_self]
  rfl
def HasP (l : List ByteArray) (n : Nat) (s : ByteArray) : Prop := ∃ j, j < n ∧ (sAt l j).toList = s.toList
theorem hasP_take (l : List ByteArray) {n : Nat} (h : n ≤ l.length) (s : ByteArray) : HasP (l.take n) (l.take n).length s ↔ HasP l n s := by
  have e : (l.take n).length = n := by rw [List.length_take]; omega
  unfold HasP
  rw [e]
  exact ⟨fun ⟨j, a, b⟩ => ⟨j, a, by rw [sAt_take l a] at b; exact b⟩, fun ⟨j, a, b⟩ => ⟨j, a, by rw [sAt_take l a]; exact b⟩⟩
theorem specHas_l0 (l : List ByteArray) (s : ByteArray) (hl : l.length ≤ 1048576) : ∀ (d n : Nat), n + d = l.length → Ev (fun k => spec_l9Has.l0 k l s (n : Int)) (dec (∃ j, n ≤ j ∧ j < l.length ∧ (sAt l j).toList = s.toList)) := by
  intro d
  induction d with
  | zero =>
    intro n hn
    refine ev_succ ?_
    simp only [spec_l9Has.l0]
    exact ev_neg (by omega) (ev_eq (Ev.now _) (dec_false (fun ⟨j, a, b, _⟩ => by omega)).symm)
  | succ d ih =>
    intro n hn
    refine ev_succ ?_
    simp only [spec_l9Has.l0]
    refine ev_pos (by omega) (ev_pos (by omega) ?_)
    by_cases h : (sAt l n).toList = s.toList
    · exact ev_pos h (ev_eq (Ev.now _) (dec_true ⟨n, Nat.le_refl _, by omega, h⟩).symm)
    · refine ev_neg h ?_
      rw [w64 (x := (n : Int) + 1) (by omega) (by omega)]
      refine ev_eq (ih (n + 1) (by omega)) (dec_congr ⟨fun ⟨j, a, b, c⟩ => ⟨j, by omega, b, c⟩, fun ⟨j, a, b, c⟩ => ⟨j, ?_, b, c⟩⟩)
      by_cases e : j = n
      · exact absurd (e ▸ c) h
      · omega
theorem specHas (l : List ByteArray) (s : ByteArray) (hl : l.length ≤ 1048576) : Ev (fun k => spec_l9Has.f k l s) (dec (HasP l l.length s)) := by
  unfold spec_l9Has.f
  exact ev_eq (specHas_l0 l s hl l.length 0 (by omega)) (dec_congr ⟨fun ⟨j, _, b, c⟩ => ⟨j, b, c⟩, fun ⟨j, b, c⟩ => ⟨j, Nat.zero_le _, b, c⟩⟩)
theorem implIndexS_l0 (l : List ByteArray) (s : ByteArray) (hl : l.length ≤ 1048576) : ∀ (d n : Nat), n + d = l.length → ∃ r : Int, Ev (fun k => slices_Index_string_string.l0 k l s (l.length : Int) (n : Int)) r ∧ (0 ≤ r ↔ ∃ j, n ≤ j ∧ j < l.length ∧ (sAt l j).toList = s.toList) := by
  intro d
  induction d with
  | zero =>
    intro n hn
    refine ⟨-1, ev_succ ?_, ⟨fun h => by omega, fun ⟨j, h1, h2, _⟩ => by omega⟩⟩
    simp only [slices_Index_string_string.l0]
    exact ev_neg (by omega) (Ev.now _)
  | succ d ih =>
    intro n hn
    by_cases h : (sAt l n).toList = s.toList
    · refine ⟨(n : Int), ev_succ ?_, ⟨fun _ => ⟨n, Nat.le_refl _, by omega, h⟩, fun _ => by omega⟩⟩
      simp only [slices_Index_string_string.l0]
      exact ev_pos (by omega) (ev_pos (by omega) (ev_pos (by omega) (ev_pos h.symm (Ev.now _))))
    · obtain ⟨r, e, hr⟩ := ih (n + 1) (by omega)
      refine ⟨r, ev_succ ?_, hr.trans ⟨fun ⟨j, a, b, c⟩ => ⟨j, by omega, b, c⟩, fun ⟨j, a, b, c⟩ => ⟨j, ?_, b, c⟩⟩⟩
      · simp only [slices_Index_string_string.l0]
        refine ev_pos (by omega) (ev_pos (by omega) (ev_pos (by omega) (ev_neg (fun z => h z.symm) ?_)))
        rw [w64 (x := (n : Int) + 1) (by omega) (by omega)]
        exact e
      · by_cases e : j = n
        · exact absurd (e ▸ c) h
        · omega
theorem implHas (l : List ByteArray) (s : ByteArray) (hl : l.length ≤ 1048576) : Ev (fun k => slices_Contains_string_string.f k l s) (dec (HasP l l.length s)) := by
  unfold slices_Contains_string_string.f slices_Index_string_string.f
  obtain ⟨r, e, hr⟩ := implIndexS_l0 l s hl l.length 0 (by omega)
  refine Ev.bind e (ev_of ?_)
  congr 1
  by_cases h : HasP l l.length s
  · rw [dec_true h]
    obtain ⟨j, b, c⟩ := h
    exact decide_eq_true (hr.2 ⟨j, Nat.zero_le _, b, c⟩)
  · rw [dec_false h]
    exact decide_eq_false (fun z => h (by obtain ⟨j, _, b, c⟩ := hr.1 z; exact ⟨j, b, c⟩))
def NameAt (l : List ByteArray) (j : Nat) : Prop := IsName (sAt l j) ∧ ¬ HasP l j (sAt l j)
theorem implAreNames (l : List ByteArray) (hl : l.length ≤ 1048576) (hs : ∀ x ∈ l, x.size ≤ 1048576) : Ev (fun k => impl_areNames.f k l) (dec (∀ j, 0 ≤ j → j < l.length → NameAt l j)) := by
  unfold impl_areNames.f
  refine ev_eq (all_loop2 (fun k i => impl_areNames.l0 k l l (l.length : Int) i) l.length (NameAt l) True ?_ ?_ ?_ l.length 0 (by omega)) (dec_congr ⟨fun h => h.1, fun h => ⟨h, trivial⟩⟩)
  · refine ev_succ ?_
    simp only [impl_areNames.l0]
    exact ev_neg (by omega) (ev_eq (Ev.now _) (dec_true trivial).symm)
  · intro n r hn hp h
    have g := sAt_size hs n
    refine ev_succ ?_
    simp only [impl_areNames.l0, Int.toNat_natCast]
    refine ev_pos (by omega) (ev_pos (by omega) (ev_pos (by omega) (Ev.bind (implNameOk (sAt l n) (by omega)) (ev_pos (dec_true hp.1) (ev_pos (by omega) (Ev.bind (implHas (l.take n) (sAt l n) (by rw [List.length_take]; omega)) (ev_neg ?_ ?_)))))))
    · rw [dec_congr (hasP_take l (by omega) _), dec_false hp.2]; decide
    · rw [w64 (x := (n : Int) + 1) (by omega) (by omega)]
      exact h
  · intro n hn hp
    have g := sAt_size hs n
    refine ev_succ ?_
    simp only [impl_areNames.l0, Int.toNat_natCast]
    refine ev_pos (by omega) (ev_pos (by omega) (ev_pos (by omega) (Ev.bind (implNameOk (sAt l n) (by omega)) ?_)))
    by_cases a : IsName (sAt l n)
    · refine ev_pos (dec_true a) (ev_pos (by omega) (Ev.bind (implHas (l.take n) (sAt l n) (by rw [List.length_take]; omega)) (ev_pos ?_ (Ev.now _))))
      rw [dec_congr (hasP_take l (by omega) _)]
      exact dec_true (Classical.byContradiction fun z => hp ⟨a, z⟩)
    · exact ev_neg (by rw [dec_false a]; decide) (Ev.now _)
theorem specVal (x : Int) : spec_l6Value.f x = some (decide (-2147483647 ≤ x ∧ x ≤ 2147483647)) := by
  unfold spec_l6Value.f
  rw [specIn]; rfl
theorem deciT {x : Int} (h : Deci x) : decide (-2147483647 ≤ x ∧ x ≤ 2147483647) = true := decide_eq_true h
theorem deciF {x : Int} (h : ¬ Deci x) : decide (-2147483647 ≤ x ∧ x ≤ 2147483647) = false := decide_eq_false h
def RowT (m : Nat) (R : List (List Int)) (Y : List Int) (j : Nat) : Prop := ((R.getD j []).length : Int) = (m : Int) ∧ Deci (rd Y (j : Int)) ∧ ∀ i : Nat, 0 ≤ i → i < m → Deci (rd (R.getD j []) (i : Int))
theorem specRows (L : List ByteArray) (t : ByteArray) (R : List (List Int)) (Y : List Int) (m : Nat) (hm : m ≤ 1048576) (hR : R.length ≤ 1048576) (hY : Y.length = R.length) : ∀ (d n : Nat), n + d = R.length → Ev (fun k => spec_TableOk.l1 k (m : Int) (n : Int) L t R Y) (dec (∀ j, n ≤ j → j < R.length → RowT m R Y j)) := by
  intro d
  induction d with
  | zero =>
    intro n hn
    refine ev_succ ?_
    simp only [spec_TableOk.l1]
    exact ev_neg (by omega) (ev_eq (Ev.now _) (dec_true (fun j h1 h2 => by omega)).symm)
  | succ d ih =>
    intro n hn
    have go := ih (n + 1) (by omega)
    have st : (∀ j, n ≤ j → j < R.length → RowT m R Y j) ↔ RowT m R Y n ∧ ∀ j, n + 1 ≤ j → j < R.length → RowT m R Y j := by
      constructor
      · exact fun h => ⟨h n (Nat.le_refl _) (by omega), fun j h1 h2 => h j (by omega) h2⟩
      · intro ⟨h0, h⟩ j h1 h2
        by_cases e : j = n
        · exact e ▸ h0
        · exact h j (by omega) h2
    rw [dec_congr st]
    refine ev_succ ?_
    simp only [spec_TableOk.l1, rdL, Int.toNat_natCast, specVal, Option.bind_some]
    refine ev_pos (by omega) (ev_pos (by omega) ?_)
    by_cases k1 : ((R.getD n []).length : Int) = (m : Int)
    case neg =>
      refine ev_neg k1 (ev_succ ?_)
      simp only [spec_TableOk.j3]
      exact ev_pos trivial (ev_eq (Ev.now _) (dec_false (fun h => k1 h.1.1)).symm)
    refine ev_pos k1 (ev_pos (by omega) (ev_succ ?_))
    simp only [spec_TableOk.j3]
    by_cases k2 : Deci (rd Y (n : Int))
    case neg =>
      refine ev_pos ?_ (ev_eq (Ev.now _) (dec_false (fun h => k2 h.1.2.1)).symm)
      rw [deciF k2]; rfl
    refine ev_neg (by rw [deciT k2]; decide) ?_
    refine ev_eq (all_loop2 (fun k i => spec_TableOk.l2 k (m : Int) (n : Int) i L t R Y) m (fun i => Deci (rd (R.getD n []) (i : Int))) (∀ j, n + 1 ≤ j → j < R.length → RowT m R Y j) ?_ ?_ ?_ m 0 (by omega)) (dec_congr ⟨fun h => ⟨⟨k1, k2, h.1⟩, h.2⟩, fun h => ⟨h.1.2.2, h.2⟩⟩)
    · refine ev_succ ?_
      simp only [spec_TableOk.l2]
      refine ev_neg (by omega) ?_
      rw [w64 (x := (n : Int) + 1) (by omega) (by omega)]
      exact go
    · intro i r hi hp h
      refine ev_succ ?_
      simp only [spec_TableOk.l2, rdL, Int.toNat_natCast, specVal, Option.bind_some]
      refine ev_pos (by omega) (ev_pos (by omega) (ev_pos (by omega) (ev_pos (by omega) (ev_pos (by omega) (ev_pos (decide_eq_true hp) ?_)))))
      rw [w64 (x := (i : Int) + 1) (by omega) (by omega)]
      exact h
    · intro i hi hp
      refine ev_succ ?_
      simp only [spec_TableOk.l2, rdL, Int.toNat_natCast, specVal, Option.bind_some]
      exact ev_pos (by omega) (ev_pos (by omega) (ev_pos (by omega) (ev_pos (by omega) (ev_pos (by omega) (ev_neg (by rw [deciF hp]; decide) (Ev.now _))))))
def NamesT (L : List ByteArray) : Prop := ∀ j, 0 ≤ j → j < L.length → NameAt L j
def RowsT (L : List ByteArray) (R : List (List Int)) (Y : List Int) : Prop := ∀ j, 0 ≤ j → j < R.length → RowT L.length R Y j
def TableP (L : List ByteArray) (t : ByteArray) (R : List (List Int)) (Y : List Int) : Prop :=
  (1 ≤ (L.length : Int) ∧ (L.length : Int) ≤ 4) ∧ IsName t ∧ ¬ HasP L L.length t ∧ (1 ≤ (R.length : Int) ∧ (R.length : Int) ≤ 40) ∧ (Y.length : Int) = (R.length : Int) ∧ NamesT L ∧ RowsT L R Y
theorem specTableOk (L : List ByteArray) (t : ByteArray) (R : List (List Int)) (Y : List Int) (hL : L.length ≤ 1048576) (hs : ∀ x ∈ L, x.size ≤ 1048576) (ht : t.size ≤ 1048576) (hR : R.length ≤ 1048576) : Ev (fun k => spec_TableOk.f k L t R Y) (dec (TableP L t R Y)) := by
  unfold spec_TableOk.f
  simp only [specIn, Option.bind_some]
  have stop : ∀ r : Bool, r = false → Ev (fun k => spec_TableOk.j0 k (L.length : Int) true L t R Y) r := by
    rintro _ rfl
    refine ev_succ ?_
    simp only [spec_TableOk.j0]
    exact ev_pos trivial (Ev.now _)
  unfold TableP
  by_cases k1 : 1 ≤ (L.length : Int) ∧ (L.length : Int) ≤ 4
  case neg => exact ev_neg (by rw [decide_eq_false k1]; decide) (stop _ (dec_false (fun h => k1 h.1)))
  refine ev_pos (decide_eq_true k1) (Ev.bind (specNameOk t (by omega)) ?_)
  by_cases k2 : IsName t
  case neg => exact ev_neg (by rw [dec_false k2]; decide) (stop _ (dec_false (fun h => k2 h.2.1)))
  refine ev_pos (dec_true k2) (Ev.bind (specHas L t hL) ?_)
  by_cases k3 : HasP L L.length t
  · exact ev_pos (dec_true k3) (stop _ (dec_false (fun h => h.2.2.1 k3)))
  refine ev_neg (by rw [dec_false k3]; decide) ?_
  by_cases k4 : 1 ≤ (R.length : Int) ∧ (R.length : Int) ≤ 40
  case neg => exact ev_neg (by rw [decide_eq_false k4]; decide) (stop _ (dec_false (fun h => k4 h.2.2.2.1)))
  refine ev_pos (decide_eq_true k4) ?_
  by_cases k5 : (Y.length : Int) = (R.length : Int)
  case neg =>
    rw [bne_iff_ne.2 k5]
    exact stop _ (dec_false (fun h => k5 h.2.2.2.2.1))
  rw [k5, bne_self_eq_false]
  refine ev_succ ?_
  simp only [spec_TableOk.j0]
  refine ev_neg (by decide) ?_
  refine ev_eq (all_loop2 (fun k i => spec_TableOk.l0 k (L.length : Int) i L t R Y) L.length (NameAt L) (RowsT L R Y) ?_ ?_ ?_ L.length 0 (by omega)) (dec_congr ⟨fun h => ⟨k1, k2, k3, k4, trivial, h.1, h.2⟩, fun h => ⟨h.2.2.2.2.2.1, h.2.2.2.2.2.2⟩⟩)
  · refine ev_succ ?_
    simp only [spec_TableOk.l0]
    exact ev_neg (by omega) (specRows L t R Y L.length hL hR (by omega) R.length 0 (by omega))
  · intro n r hn hp h
    have g := sAt_size hs n
    refine ev_succ ?_
    simp only [spec_TableOk.l0, Int.toNat_natCast]
    refine ev_pos (by omega) (ev_pos (by omega) (ev_pos (by omega) (Ev.bind (specNameOk (sAt L n) (by omega)) (ev_pos (dec_true hp.1) (ev_pos (by omega) (Ev.bind (specHas (L.take n) (sAt L n) (by rw [List.length_take]; omega)) (ev_neg ?_ ?_)))))))
    · rw [dec_congr (hasP_take L (by omega) _), dec_false hp.2]; decide
    · rw [w64 (x := (n : Int) + 1) (by omega) (by omega)]
      exact h
  · intro n hn hp
    have g := sAt_size hs n
    refine ev_succ ?_
    simp only [spec_TableOk.l0, Int.toNat_natCast]
    refine ev_pos (by omega) (ev_pos (by omega) (ev_pos (by omega) (Ev.bind (specNameOk (sAt L n) (by omega)) ?_)))
    by_cases a : IsName (sAt L n)
    · refine ev_pos (dec_true a) (ev_pos (by omega) (Ev.bind (specHas (L.take n) (sAt L n) (by rw [List.length_take]; omega)) (ev_pos ?_ (Ev.now _))))
      rw [dec_congr (hasP_take L (by omega) _)]
      exact dec_true (Classical.byContradiction fun z => hp ⟨a, z⟩)
    · exact ev_neg (by rw [dec_false a]; decide) (Ev.now _)
theorem names_app (L : List ByteArray) (t : ByteArray) : (∀ j, 0 ≤ j → j < (L ++ [t]).length → NameAt (L ++ [t]) j) ↔ NamesT L ∧ IsName t ∧ ¬ HasP L L.length t := by
  have hh : ∀ (n : Nat) (s : ByteArray), n ≤ L.length → (HasP (L ++ [t]) n s ↔ HasP L n s) := by
    intro n s hn
    unfold HasP
    exact ⟨fun ⟨j, a, b⟩ => ⟨j, a, by rw [sAt_app_lt L t (by omega)] at b; exact b⟩, fun ⟨j, a, b⟩ => ⟨j, a, by rw [sAt_app_lt L t (by omega)]; exact b⟩⟩
  have hlen : (L ++ [t]).length = L.length + 1 := by simp
  unfold NamesT NameAt
  rw [hlen]
  constructor
  · intro h
    refine ⟨fun j h1 h2 => ?_, ?_⟩
    · have := h j h1 (by omega)
      rw [sAt_app_lt L t h2, hh j _ (by omega)] at this
      exact this
    · have := h L.length (Nat.zero_le _) (by omega)
      rw [sAt_app_eq, hh _ _ (Nat.le_refl _)] at this
      exact this
  · intro ⟨h, h2⟩ j hj1 hj2
    by_cases e : j < L.length
    · rw [sAt_app_lt L t e, hh j _ (by omega)]
      exact h j hj1 e
    · obtain rfl : j = L.length := by omega
      rw [sAt_app_eq, hh _ _ (Nat.le_refl _)]
      exact h2
theorem badP (n : Nat) (row : List Int) : impl_TableOk_1.bad n row = false ↔ ((row.length : Int) = (n : Int) ∧ ∀ i : Nat, 0 ≤ i → i < n → Deci (rd row (i : Int))) := by
  by_cases e : (row.length : Int) = (n : Int)
  · have nn : ((!(row.all impl_TableOk_1.dc)) = false) ↔ row.all impl_TableOk_1.dc = true := by cases row.all impl_TableOk_1.dc <;> simp
    rw [impl_TableOk_1.bad_eq e, nn, List.all_eq_true]
    constructor
    · intro h
      refine ⟨e, fun i _ hi => ?_⟩
      have := h _ (rd_mem (xs := row) (i := (i : Int)) (by omega) (by omega))
      unfold impl_TableOk_1.dc at this
      have q := of_decide_eq_true this
      exact q
    · intro h x hx
      obtain ⟨i, hi, rfl⟩ := List.getElem_of_mem hx
      have := h.2 i (Nat.zero_le _) (by omega)
      rw [rd_of (List.getElem?_eq_getElem hi)] at this
      exact decide_eq_true this
  · rw [impl_TableOk_1.bad_ne e]
    constructor
    · intro h
      cases h
    · exact fun h => absurd h.1 e
theorem anyBad (n : Nat) (R : List (List Int)) : R.any (impl_TableOk_1.bad n) = !dec (∀ j : Nat, 0 ≤ j → j < R.length → impl_TableOk_1.bad n (R.getD j []) = false) := by
  by_cases h : ∀ j : Nat, 0 ≤ j → j < R.length → impl_TableOk_1.bad n (R.getD j []) = false
  · rw [dec_true h, Bool.not_true, List.any_eq_false]
    intro x hx
    obtain ⟨j, hj, rfl⟩ := List.getElem_of_mem hx
    have := h j (Nat.zero_le _) hj
    rw [List.getD_eq_getElem?_getD, List.getElem?_eq_getElem hj] at this
    simpa using this
  · rw [dec_false h, Bool.not_false, List.any_eq_true]
    refine Classical.byContradiction fun g => h fun j _ hj => Classical.byContradiction fun y => g ⟨R[j], List.getElem_mem hj, ?_⟩
    rw [List.getD_eq_getElem?_getD, List.getElem?_eq_getElem hj] at y
    simpa using y
theorem implTableOk (L : List ByteArray) (t : ByteArray) (R : List (List Int)) (Y : List Int) (hL : L.length ≤ 1048576) (hs : ∀ x ∈ L, x.size ≤ 1048576) (ht : t.size ≤ 1048576) (hR : R.length ≤ 1048576) (hY : Y.length ≤ 1048576) : Ev (fun k => impl_TableOk.f k L t R Y) (dec (TableP L t R Y)) := by
  unfold impl_TableOk.f TableP
  have cl : slices_Clone_string_string.f L = some L := by
    unfold slices_Clone_string_string.f
    exact if_pos (by omega)
  simp only [implWithin, cl, Option.bind_some, impl_TableOk_1.f]
  by_cases k1 : 1 ≤ (L.length : Int) ∧ (L.length : Int) ≤ 4
  case neg => exact ev_neg (by rw [decide_eq_false k1]; decide) (ev_eq (Ev.now _) (dec_false (fun h => k1 h.1)).symm)
  have hlen : (L ++ [t]).length = L.length + 1 := by simp
  refine ev_pos (decide_eq_true k1) (ev_pos (by rw [List.length_singleton]; omega) (Ev.bind (implAreNames (L ++ [t]) (by omega) ?_) ?_))
  · intro x hx
    rcases List.mem_append.1 hx with h | h
    · exact hs x h
    · obtain rfl := List.mem_singleton.1 h
      exact ht
  rw [dec_congr (names_app L t)]
  by_cases k2 : NamesT L ∧ IsName t ∧ ¬ HasP L L.length t
  case neg => exact ev_neg (by rw [dec_false k2]; decide) (ev_eq (Ev.now _) (dec_false (fun h => k2 ⟨h.2.2.2.2.2.1, h.2.1, h.2.2.1⟩)).symm)
  refine ev_pos (dec_true k2) ?_
  by_cases k4 : 1 ≤ (R.length : Int) ∧ (R.length : Int) ≤ 40
  case neg => exact ev_neg (by rw [decide_eq_false k4]; decide) (ev_eq (Ev.now _) (dec_false (fun h => k4 h.2.2.2.1)).symm)
  refine ev_pos (decide_eq_true k4) ?_
  by_cases k5 : (Y.length : Int) = (R.length : Int)
  case neg => exact ev_neg k5 (ev_eq (Ev.now _) (dec_false (fun h => k5 h.2.2.2.2.1)).symm)
  refine ev_pos k5 (Ev.bind (implAreDec Y hY) ?_)
  by_cases k6 : ∀ j : Nat, j < Y.length → Deci (rd Y (j : Int))
  case neg => exact ev_neg (by rw [dec_false k6]; decide) (ev_eq (Ev.now _) (dec_false (fun h => k6 (fun j hj => (h.2.2.2.2.2.2 j (Nat.zero_le _) (by omega)).2.1))).symm)
  refine ev_pos (dec_true k6) (ev_of ?_)
  congr 1
  rw [anyBad, Bool.not_not]
  refine dec_congr ⟨fun h => ⟨k1, k2.2.1, k2.2.2, k4, k5, k2.1, fun j h1 h2 => ?_⟩, fun h j h1 h2 => ?_⟩
  · have := (badP _ _).1 (h j h1 h2)
    exact ⟨this.1, k6 j (by omega), this.2⟩
  · have := h.2.2.2.2.2.2 j h1 h2
    exact (badP _ _).2 ⟨this.1, this.2.2⟩
theorem FnExactTableOk (l0_0 : List ByteArray) (a0_1 : ByteArray) (l0_2 : List (List Int)) (l0_3 : List Int)
    (w0_0 : l0_0.length ≤ maxLen ∧ ∀ x ∈ l0_0, x.size ≤ maxLen) (w0_1 : a0_1.size ≤ maxLen) (w0_2 : l0_2.length ≤ maxLen ∧ ∀ x ∈ l0_2, x.length ≤ maxLen ∧ ∀ y ∈ x, (Lit.int .i64 y).wf = true) (w0_3 : l0_3.length ≤ maxLen ∧ ∀ x ∈ l0_3, (Lit.int .i64 x).wf = true) : ∃ k, laws_FnExactTableOk.f k l0_0 a0_1 l0_2 l0_3 = some true := by
  refine Ev.rounds ?_
  unfold laws_FnExactTableOk.f
  have f0 : l0_0.length ≤ ws l0_0 := by unfold ws; omega
  have f2 : l0_2.length ≤ wt l0_2 := by unfold wt; omega
  refine Ev.bind (szTable l0_0 a0_1 l0_2 l0_3 1048576 (by omega) (by omega) w0_0.1 w0_0.2 w0_1 w0_2.1 (fun x hx => (w0_2.2 x hx).1) w0_3.1) ?_
  by_cases b0 : (1048576 : Int) < ws l0_0 + a0_1.size + wt l0_2 + l0_3.length
  · rw [if_pos b0]
    exact ev_pos (by omega) (Ev.now _)
  rw [if_neg b0]
  refine ev_neg (by omega) ?_
  have t0 := toTable l0_0 a0_1 l0_2 l0_3 (by omega) (by omega) (by omega)
  have hs : ∀ x ∈ l0_0, x.size ≤ 1048576 := fun x hx => by have := ws_mem hx; omega
  refine Ev.bind t0 (Ev.bind (specTableOk l0_0 a0_1 l0_2 l0_3 (by omega) hs (by omega) (by omega)) (Ev.bind t0 (Ev.bind (implTableOk l0_0 a0_1 l0_2 l0_3 (by omega) hs (by omega) (by omega) (by omega)) (ev_neg (by simp) ?_))))
  exact Ev.bind t0 (Ev.bind (eqTable l0_0 a0_1 l0_2 l0_3 (by omega) (by omega) (by omega)) (ev_pos rfl (Ev.now _)))

end Go.Proofs.Ytiacoiiapmfaeaa.Pure
