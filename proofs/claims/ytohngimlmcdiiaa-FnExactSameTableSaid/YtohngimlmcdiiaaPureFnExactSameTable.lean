/- impl.SameTable returns what spec.SameTable returns and leaves its arguments as they were, for all arguments. Conditions: none but the row's own.
-/
import Derived.Test.YtohngimlmcdiiaaQx57
set_option linter.unusedVariables false
set_option linter.unusedSimpArgs false
namespace Go.Proofs.Ytohngimlmcdiiaa.Pure
open Go.RowKit Go.Proofs.Ytohngimlmcdiiaa.Q Go.Proofs.YtohngimlmcdiiaaW.PrintWords Go.Proofs.YtohngimlmcdiiaaW.PrintLast Go.Proofs.YtohngimlmcdiiaaW.PrintMore

theorem w64 {x : Int} (h1 : -9223372036854775808 ≤ x) (h2 : x ≤ 9223372036854775807) : wrap64 x = x := by unfold wrap64; omega
theorem i64_wf {x : Int} (h : (Lit.int .i64 x).wf = true) : -9223372036854775808 ≤ x ∧ x ≤ 9223372036854775807 := by
  simpa [Lit.wf, IntKind.min, IntKind.max, IntKind.signed, IntKind.bits] using h
theorem u8_wf {x : Int} (h : (Lit.int .u8 x).wf = true) : 0 ≤ x ∧ x ≤ 255 := by
  simpa [Lit.wf, IntKind.min, IntKind.max, IntKind.signed, IntKind.bits] using h
theorem rd_eq {xs : List Int} {i : Int} (h0 : 0 ≤ i) (h : i < (xs.length : Int)) : xs[i.toNat]? = some (rd xs i) := by
  unfold rd
  rw [List.getD_eq_getElem?_getD, List.getElem?_eq_getElem (by omega)]
  rfl
theorem rd_mem {xs : List Int} {i : Int} (h0 : 0 ≤ i) (h : i < (xs.length : Int)) : rd xs i ∈ xs := List.mem_of_getElem? (rd_eq h0 h)
theorem rd_of {xs : List Int} {n : Nat} {v : Int} (h : xs[n]? = some v) : rd xs (n : Int) = v := by
  unfold rd
  rw [List.getD_eq_getElem?_getD, Int.toNat_natCast, h]
  rfl
theorem ev_of {α : Type} {r : α} {p : Option α} (h : p = some r) : Ev (fun _ => p) r := ⟨0, fun _ _ => h⟩
theorem ev_end {α : Type} {g : Nat → Option α} {r : α} (h : ∀ k, g (k + 1) = some r) : Ev g r := Ev.step (f := fun _ => some r) h (Ev.now r)
theorem ev_pos {α : Type} {c : Prop} [Decidable c] {f g : Nat → Option α} {r : α} (hc : c) (h : Ev f r) : Ev (fun k => if c then f k else g k) r := Ev.congr (fun _ => if_pos hc) h
theorem ev_neg {α : Type} {c : Prop} [Decidable c] {f g : Nat → Option α} {r : α} (hc : ¬ c) (h : Ev g r) : Ev (fun k => if c then f k else g k) r := Ev.congr (fun _ => if_neg hc) h
theorem rd_drop {xs : List Int} {n : Nat} (h : n < xs.length) : xs.drop n = rd xs (n : Int) :: xs.drop (n + 1) := by
  rw [List.drop_eq_getElem_cons h]
  congr 1
  unfold rd
  rw [List.getD_eq_getElem?_getD, Int.toNat_natCast, List.getElem?_eq_getElem h]
  rfl
noncomputable def dec (p : Prop) : Bool := @decide p (Classical.propDecidable p)
theorem dec_true {p : Prop} (h : p) : dec p = true := @decide_eq_true p (Classical.propDecidable p) h
theorem dec_false {p : Prop} (h : ¬ p) : dec p = false := @decide_eq_false p (Classical.propDecidable p) h
theorem dec_iff {p : Prop} : dec p = true ↔ p := @decide_eq_true_iff p (Classical.propDecidable p)
theorem dec_congr {p q : Prop} (h : p ↔ q) : dec p = dec q := by rw [propext h]
theorem dec_eq {p : Prop} [Decidable p] : dec p = decide p := by
  by_cases h : p
  · rw [dec_true h, decide_eq_true h]
  · rw [dec_false h, decide_eq_false h]
theorem ev_succ {α : Type} {g : Nat → Option α} {r : α} (h : Ev (fun k => g (k + 1)) r) : Ev g r := by
  obtain ⟨K, h⟩ := h
  refine ⟨K + 1, fun n hn => ?_⟩
  obtain ⟨m, rfl⟩ : ∃ m, n = m + 1 := ⟨n - 1, by omega⟩
  exact h m (by omega)
theorem ev_eq {α : Type} {g : Nat → Option α} {r r' : α} (h : Ev g r) (e : r = r') : Ev g r' := e ▸ h
theorem gd_eq {α : Type} (z : α) {xs : List α} {i : Int} (h0 : 0 ≤ i) (h : i < (xs.length : Int)) : xs[i.toNat]? = some (xs.getD i.toNat z) := by
  rw [List.getD_eq_getElem?_getD, List.getElem?_eq_getElem (by omega)]
  rfl
theorem gd_nat {α : Type} (z : α) {xs : List α} {n : Nat} {v : α} (h : xs[n]? = some v) : xs.getD ((n : Int)).toNat z = v := by
  rw [List.getD_eq_getElem?_getD, Int.toNat_natCast, h]
  rfl
theorem gd_drop {α : Type} (z : α) {xs : List α} {n : Nat} (h : n < xs.length) : xs.drop n = xs.getD ((n : Int)).toNat z :: xs.drop (n + 1) := by
  rw [List.drop_eq_getElem_cons h]
  congr 1
  exact (gd_nat z (List.getElem?_eq_getElem h)).symm
/-- A loop that copies: place after place is set. -/
theorem copy_loop {α β : Type} (F : Nat → List β → Int → Option (List β)) (l : List α) (g : α → β)
    (hend : ∀ acc : List β, acc.length = l.length → Ev (fun k => F k acc (l.length : Int)) acc)
    (hstep : ∀ (acc : List β) (n : Nat) (x : α) (r : List β), n < l.length → acc.length = l.length → l[n]? = some x → Ev (fun k => F k (acc.set n (g x)) ((n + 1 : Nat) : Int)) r → Ev (fun k => F k acc (n : Int)) r) :
    ∀ (d n : Nat) (acc : List β), n + d = l.length → acc.length = l.length → (∀ j, j < n → acc[j]? = (l.map g)[j]?) → Ev (fun k => F k acc (n : Int)) (l.map g) := by
  intro d
  induction d with
  | zero =>
    intro n acc hn ha hp
    obtain rfl : n = l.length := by omega
    refine ev_eq (hend acc ha) (List.ext_getElem? fun j => ?_)
    by_cases h : j < l.length
    · exact hp j h
    · rw [List.getElem?_eq_none (by omega), List.getElem?_eq_none (by simp; omega)]
  | succ d ih =>
    intro n acc hn ha hp
    have hx : l[n]? = some l[n] := List.getElem?_eq_getElem (by omega)
    refine hstep acc n l[n] _ (by omega) ha hx (ih (n + 1) _ (by omega) (by simpa using ha) ?_)
    intro j hj
    rw [List.getElem?_set]
    by_cases h : n = j
    · subst h
      rw [if_pos rfl, if_pos (by omega), List.getElem?_map, hx]
      rfl
    · rw [if_neg h]
      exact hp j (by omega)
/-- A loop that tests place after place. -/
theorem all_loop (F : Nat → Int → Option Bool) (L : Nat) (p : Nat → Prop) (hend : Ev (fun k => F k (L : Int)) true)
    (hyes : ∀ (n : Nat) (r : Bool), n < L → p n → Ev (fun k => F k ((n + 1 : Nat) : Int)) r → Ev (fun k => F k (n : Int)) r)
    (hno : ∀ n : Nat, n < L → ¬ p n → Ev (fun k => F k (n : Int)) false) :
    ∀ (d n : Nat), n + d = L → Ev (fun k => F k (n : Int)) (dec (∀ j, n ≤ j → j < L → p j)) := by
  intro d
  induction d with
  | zero =>
    intro n hn
    obtain rfl : n = L := by omega
    exact ev_eq hend (dec_true (fun j h1 h2 => by omega)).symm
  | succ d ih =>
    intro n hn
    by_cases h : p n
    · refine hyes n _ (by omega) h (ev_eq (ih (n + 1) (by omega)) (dec_congr ⟨fun g j h1 h2 => ?_, fun g j h1 h2 => g j (by omega) h2⟩))
      by_cases e : j = n
      · exact e ▸ h
      · exact g j (by omega) h2
    · exact ev_eq (hno n (by omega) h) (dec_false (fun g => h (g n (Nat.le_refl _) (by omega)))).symm
/-- A loop that goes round L times over a state. -/
theorem fold_loop {σ ρ : Type} (F : Nat → σ → Int → Option ρ) (L : Nat) (S : Nat → σ) (r : ρ) (hend : Ev (fun k => F k (S L) (L : Int)) r)
    (hstep : ∀ n : Nat, n < L → Ev (fun k => F k (S (n + 1)) ((n + 1 : Nat) : Int)) r → Ev (fun k => F k (S n) (n : Int)) r) :
    ∀ (d n : Nat), n + d = L → Ev (fun k => F k (S n) (n : Int)) r := by
  intro d
  induction d with
  | zero =>
    intro n hn
    obtain rfl : n = L := by omega
    exact hend
  | succ d ih =>
    intro n hn
    exact hstep n (by omega) (ih (n + 1) (by omega))
theorem set_mid {α : Type} (a b : List α) (x v : α) {n : Nat} (h : a.length = n) : (a ++ x :: b).set n v = a ++ v :: b := by
  subst h
  rw [List.set_append_right _ _ (Nat.le_refl _), Nat.sub_self]
  rfl
theorem get_mid {α : Type} (a b : List α) (x : α) {n : Nat} (h : a.length = n) : (a ++ x :: b)[n]? = some x := by
  subst h
  rw [List.getElem?_append_right (Nat.le_refl _), Nat.sub_self]
  rfl
/-- A loop that tests place after place, and one thing more at its end. -/
theorem all_loop2 (F : Nat → Int → Option Bool) (L : Nat) (p : Nat → Prop) (E : Prop) (hend : Ev (fun k => F k (L : Int)) (dec E))
    (hyes : ∀ (n : Nat) (r : Bool), n < L → p n → Ev (fun k => F k ((n + 1 : Nat) : Int)) r → Ev (fun k => F k (n : Int)) r)
    (hno : ∀ n : Nat, n < L → ¬ p n → Ev (fun k => F k (n : Int)) false) :
    ∀ (d n : Nat), n + d = L → Ev (fun k => F k (n : Int)) (dec ((∀ j, n ≤ j → j < L → p j) ∧ E)) := by
  intro d
  induction d with
  | zero =>
    intro n hn
    obtain rfl : n = L := by omega
    exact ev_eq hend (dec_congr ⟨fun h => ⟨fun j h1 h2 => by omega, h⟩, fun h => h.2⟩)
  | succ d ih =>
    intro n hn
    by_cases h : p n
    · refine hyes n _ (by omega) h (ev_eq (ih (n + 1) (by omega)) (dec_congr ⟨fun g => ⟨fun j h1 h2 => ?_, g.2⟩, fun g => ⟨fun j h1 h2 => g.1 j (by omega) h2, g.2⟩⟩))
      by_cases e : j = n
      · exact e ▸ h
      · exact g.1 j (by omega) h2
    · exact ev_eq (hno n (by omega) h) (dec_false (fun g => h (g.1 n (Nat.le_refl _) (by omega)))).symm
/-- Lists of one length whose places stand in R to each other. -/
def SameR {α : Type} (z : α) (R : α → α → Prop) (l m : List α) : Prop := l.length = m.length ∧ ∀ j : Nat, 0 ≤ j → j < l.length → R (l.getD j z) (m.getD j z)
theorem same_ev {α : Type} (z : α) (R : α → α → Prop) (l m : List α) (h0 : l.length = m.length) (F : Nat → Int → Option Bool) (hend : Ev (fun k => F k (l.length : Int)) true)
    (hyes : ∀ (n : Nat) (r : Bool), n < l.length → R (l.getD n z) (m.getD n z) → Ev (fun k => F k ((n + 1 : Nat) : Int)) r → Ev (fun k => F k (n : Int)) r)
    (hno : ∀ n : Nat, n < l.length → ¬ R (l.getD n z) (m.getD n z) → Ev (fun k => F k (n : Int)) false) : Ev (fun k => F k 0) (dec (SameR z R l m)) :=
  ev_eq (all_loop F l.length (fun j => R (l.getD j z) (m.getD j z)) hend hyes hno l.length 0 (by omega)) (dec_congr ⟨fun h => ⟨h0, h⟩, fun h => h.2⟩)
theorem rdn (xs : List Int) (n : Nat) : rd xs (n : Int) = xs.getD n 0 := rfl
theorem rdOfn {α : Type} (z : α) (xs : List α) (n : Nat) : rdOf z xs (n : Int) = xs.getD n z := rfl
/-- How much a list of texts holds. -/
def ws (l : List ByteArray) : Nat := l.length + (l.map ByteArray.size).sum
theorem szStringS_l0 (l : List ByteArray) (hl : l.length ≤ 1048576) (hm : ∀ x ∈ l, x.size ≤ maxLen) : ∀ (d n : Nat) (a : Int), n + d = l.length → 0 ≤ a → a ≤ 1048576 →
    Ev (fun k => laws_szStringS.l0 k l a (n : Int)) (if a < ((l.drop n).map ByteArray.size).sum then -1 else a - ((l.drop n).map ByteArray.size).sum) := by
  intro d
  induction d with
  | zero =>
    intro n a hn h0 h1
    obtain rfl : n = l.length := by omega
    refine ev_succ ?_
    simp only [laws_szStringS.l0]
    refine ev_neg (by omega) (ev_of ?_)
    rw [List.drop_length, if_neg (by simp; omega)]
    simp
  | succ d ih =>
    intro n a hn h0 h1
    refine ev_succ ?_
    have hx : l[n]? = some l[n] := List.getElem?_eq_getElem (by omega)
    have d1 : l.drop n = l[n] :: l.drop (n + 1) := List.drop_eq_getElem_cons (by omega)
    have hmx := hm _ (List.mem_of_getElem? hx)
    unfold maxLen at hmx
    simp only [laws_szStringS.l0, rdOf, gd_nat ByteArray.empty hx]
    refine ev_pos (by omega) (ev_pos (by omega) ?_)
    rw [d1, List.map_cons, List.sum_cons, w64 (x := (n : Int) + 1) (by omega) (by omega), w64 (x := a - (l[n].size : Int)) (by omega) (by omega)]
    by_cases h : a < l[n].size
    · refine ev_pos (by omega) (ev_of ?_)
      rw [if_pos (by omega)]
    · refine ev_neg (by omega) (ev_eq (ih (n + 1) (a - l[n].size) (by omega) (by omega) (by omega)) ?_)
      by_cases g : a - (l[n].size : Int) < ((l.drop (n + 1)).map ByteArray.size).sum
      · rw [if_pos g, if_pos (by omega)]
      · rw [if_neg g, if_neg (by omega)]
        omega
theorem szStringS (l : List ByteArray) (a : Int) (h0 : 0 ≤ a) (h1 : a ≤ 1048576) (hl : l.length ≤ maxLen) (hm : ∀ x ∈ l, x.size ≤ maxLen) : Ev (fun k => laws_szStringS.f k l a) (if a < ws l then -1 else a - ws l) := by
  unfold maxLen at hl
  unfold laws_szStringS.f ws
  rw [w64 (by omega) (by omega)]
  by_cases h : a < l.length
  · refine ev_pos (by omega) (ev_of ?_)
    rw [if_pos (by omega)]
  · refine ev_neg (by omega) (ev_eq (szStringS_l0 l (by omega) hm l.length 0 _ (by omega) (by omega) (by omega)) ?_)
    rw [List.drop_zero]
    by_cases g : a - (l.length : Int) < (l.map ByteArray.size).sum
    · rw [if_pos g, if_pos (by omega)]
    · rw [if_neg g, if_neg (by omega)]
      omega
theorem toStringS (l : List ByteArray) (hl : l.length ≤ 17592186044416) : Ev (fun k => laws_toStringS.f k l) l := by
  unfold laws_toStringS.f
  refine ev_pos (by omega) (ev_pos (by omega) ?_)
  refine ev_eq (copy_loop (fun k acc i => laws_toStringS.l0 k l acc i) l id ?_ ?_ l.length 0 _ (by omega) (by simp) (fun j h => by omega)) (by simp)
  · intro acc ha
    refine ev_succ ?_
    simp only [laws_toStringS.l0]
    exact ev_neg (by omega) (Ev.now _)
  · intro acc n x r hn ha hx h
    refine ev_succ ?_
    simp only [laws_toStringS.l0, rdOf, gd_nat ByteArray.empty hx]
    refine ev_pos (by omega) (ev_pos (by omega) (ev_pos (by omega) ?_))
    rw [w64 (x := (n : Int) + 1) (by omega) (by omega)]
    exact h
theorem eqStringS (l : List ByteArray) (hl : l.length ≤ 17592186044416) : Ev (fun k => laws_eqStringS.f k l l) true := by
  unfold laws_eqStringS.f
  refine ev_pos rfl ?_
  refine ev_eq (all_loop (fun k i => laws_eqStringS.l0 k l l i) l.length (fun _ => True) ?_ ?_ ?_ l.length 0 (by omega)) (dec_true (fun _ _ _ => trivial))
  · refine ev_succ ?_
    simp only [laws_eqStringS.l0]
    exact ev_neg (by omega) (Ev.now _)
  · intro n r hn _ h
    refine ev_succ ?_
    simp only [laws_eqStringS.l0]
    refine ev_pos (by omega) (ev_pos (by omega) (ev_pos (by omega) (ev_pos trivial ?_)))
    rw [w64 (x := (n : Int) + 1) (by omega) (by omega)]
    exact h
  · intro n hn h
    exact absurd trivial h
theorem rdL (xs : List (List Int)) (i : Int) : rd_L4 xs i = xs.getD i.toNat [] := rfl
/-- How much a list of lists holds. -/
def wt (l : List (List Int)) : Nat := l.length + (l.map List.length).sum
theorem wt_mem {l : List (List Int)} {x : List Int} (h : x ∈ l) : x.length ≤ wt l := by
  unfold wt
  induction l with
  | nil => simp at h
  | cons y l ih =>
    simp only [List.mem_cons] at h
    simp only [List.map_cons, List.sum_cons, List.length_cons]
    rcases h with rfl | h
    · omega
    · have := ih h; omega
theorem toIntS_l0 (l : List Int) (hl : l.length ≤ 35184372088832) : ∀ (d n : Nat) (acc : List Int), n + d = l.length → acc.length = l.length → (∀ j, j < n → acc[j]? = l[j]?) → Ev (fun k => laws_toIntS.l0 k l acc (n : Int)) l := by
  intro d
  induction d with
  | zero =>
    intro n acc hn ha hp
    refine ev_end fun k => ?_
    simp only [laws_toIntS.l0]
    rw [if_neg (by omega)]
    congr 1
    exact List.ext_getElem? fun j => by
      by_cases h : j < n
      · exact hp j h
      · rw [List.getElem?_eq_none (by omega), List.getElem?_eq_none (by omega)]
  | succ d ih =>
    intro n acc hn ha hp
    refine Ev.step (fun k => ?_) (ih (n + 1) (acc.set n (rd l n)) (by omega) (by simpa using ha) ?_)
    · simp only [laws_toIntS.l0]
      rw [if_pos (by omega), if_pos (by omega), if_pos (by omega), w64 (by omega) (by omega)]
      rfl
    intro j hj
    rw [List.getElem?_set]
    by_cases h : j = n
    · subst h
      rw [if_pos (by omega), if_pos (by omega), ← rd_eq (by omega) (by omega)]
      simp
    · rw [if_neg (by omega)]
      exact hp j (by omega)
theorem toIntS (l : List Int) (hl : l.length ≤ 35184372088832) : Ev (fun k => laws_toIntS.f k l) l := by
  refine Ev.congr (fun k => ?_) (toIntS_l0 l hl l.length 0 (List.replicate l.length 0) (by omega) (by simp) (fun j h => by omega))
  unfold laws_toIntS.f
  rw [if_pos (by omega), if_pos (by omega)]
  rfl
theorem toIntSS (l : List (List Int)) (hl : wt l ≤ 1048576) : Ev (fun k => laws_toIntSS.f k l) l := by
  have h1 : l.length ≤ wt l := by unfold wt; omega
  unfold laws_toIntSS.f
  refine ev_pos (by omega) (ev_pos (by omega) ?_)
  have key := copy_loop (fun k acc i => laws_toIntSS.l0 k l acc i) l (fun x => x) ?_ ?_ l.length 0 (List.replicate (l.length : Int).toNat []) (by omega) (by simp) (fun j h => by omega)
  · simpa using key
  · intro acc ha
    refine ev_succ ?_
    simp only [laws_toIntSS.l0]
    exact ev_neg (by omega) (Ev.now _)
  · intro acc n x r hn ha hx h
    refine ev_succ ?_
    have hm := wt_mem (List.mem_of_getElem? hx)
    simp only [laws_toIntSS.l0, rdL, gd_nat [] hx, Option.bind_some]
    refine ev_pos (by omega) (ev_pos (by omega) (Ev.bind (toIntS x (by omega)) (ev_pos (by omega) ?_)))
    rw [w64 (x := (n : Int) + 1) (by omega) (by omega)]
    exact h
theorem eqIntS_l0 (l : List Int) (hl : l.length ≤ 35184372088832) : ∀ (d n : Nat), n + d = l.length → Ev (fun k => laws_eqIntS.l0 k l l (n : Int)) true := by
  intro d
  induction d with
  | zero =>
    intro n hn
    refine ev_end fun k => ?_
    simp only [laws_eqIntS.l0]
    rw [if_neg (by omega)]
  | succ d ih =>
    intro n hn
    refine Ev.step (fun k => ?_) (ih (n + 1) (by omega))
    simp only [laws_eqIntS.l0]
    rw [if_pos (by omega), if_pos (by omega), if_pos (by omega), if_pos trivial, w64 (by omega) (by omega)]
    rfl
theorem eqIntS (l : List Int) (hl : l.length ≤ 35184372088832) : Ev (fun k => laws_eqIntS.f k l l) true := by
  refine Ev.congr (fun k => ?_) (eqIntS_l0 l hl l.length 0 (by omega))
  unfold laws_eqIntS.f
  rw [if_pos rfl]
  rfl
theorem eqIntSS (l : List (List Int)) (hl : wt l ≤ 1048576) : Ev (fun k => laws_eqIntSS.f k l l) true := by
  have h1 : l.length ≤ wt l := by unfold wt; omega
  unfold laws_eqIntSS.f
  refine ev_pos rfl ?_
  refine ev_eq (all_loop (fun k i => laws_eqIntSS.l0 k l l i) l.length (fun _ => True) ?_ ?_ ?_ l.length 0 (by omega)) (dec_true (fun _ _ _ => trivial))
  · refine ev_succ ?_
    simp only [laws_eqIntSS.l0]
    exact ev_neg (by omega) (Ev.now _)
  · intro n r hn _ h
    refine ev_succ ?_
    have hx : l[n]? = some l[n] := List.getElem?_eq_getElem hn
    have hm := wt_mem (List.mem_of_getElem? hx)
    simp only [laws_eqIntSS.l0, rdL, gd_nat [] hx]
    refine ev_pos (by omega) (ev_pos (by omega) (ev_pos (by omega) (Ev.bind (eqIntS _ (by omega)) (ev_pos rfl ?_))))
    rw [w64 (x := (n : Int) + 1) (by omega) (by omega)]
    exact h
  · intro n hn h
    exact absurd trivial h
theorem szIntS (l : List Int) (a : Int) (h0 : 0 ≤ a) (h1 : a ≤ 1048576) (hl : l.length ≤ maxLen) : laws_szIntS.f l a = some (if a < l.length then -1 else a - l.length) := by
  unfold maxLen at hl
  unfold laws_szIntS.f
  rw [w64 (by omega) (by omega)]
  by_cases h : a < l.length
  · rw [if_pos (by omega), if_pos h]
  · rw [if_neg (by omega), if_neg h]
theorem szIntSS_l0 (l : List (List Int)) (hl : l.length ≤ 1048576) (hm : ∀ x ∈ l, x.length ≤ maxLen) : ∀ (d n : Nat) (a : Int), n + d = l.length → 0 ≤ a → a ≤ 1048576 →
    Ev (fun k => laws_szIntSS.l0 k l a (n : Int)) (if a < ((l.drop n).map List.length).sum then -1 else a - ((l.drop n).map List.length).sum) := by
  intro d
  induction d with
  | zero =>
    intro n a hn h0 h1
    obtain rfl : n = l.length := by omega
    refine ev_succ ?_
    simp only [laws_szIntSS.l0]
    refine ev_neg (by omega) (ev_of ?_)
    rw [List.drop_length, if_neg (by simp; omega)]
    simp
  | succ d ih =>
    intro n a hn h0 h1
    refine ev_succ ?_
    have hx : l[n]? = some l[n] := List.getElem?_eq_getElem (by omega)
    have d1 : l.drop n = l[n] :: l.drop (n + 1) := List.drop_eq_getElem_cons (by omega)
    have hmx := hm _ (List.mem_of_getElem? hx)
    simp only [laws_szIntSS.l0, rdL, gd_nat [] hx, szIntS l[n] a h0 h1 hmx, Option.bind_some]
    refine ev_pos (by omega) (ev_pos (by omega) ?_)
    rw [d1, List.map_cons, List.sum_cons, w64 (x := (n : Int) + 1) (by omega) (by omega)]
    by_cases h : a < l[n].length
    · rw [if_pos h]
      refine ev_pos (by omega) (ev_of ?_)
      rw [if_pos (by omega)]
    · rw [if_neg h]
      refine ev_neg (by omega) (ev_eq (ih (n + 1) (a - l[n].length) (by omega) (by omega) (by omega)) ?_)
      by_cases g : a - (l[n].length : Int) < ((l.drop (n + 1)).map List.length).sum
      · rw [if_pos g, if_pos (by omega)]
      · rw [if_neg g, if_neg (by omega)]
        omega
theorem szIntSS (l : List (List Int)) (a : Int) (h0 : 0 ≤ a) (h1 : a ≤ 1048576) (hl : l.length ≤ maxLen) (hm : ∀ x ∈ l, x.length ≤ maxLen) : Ev (fun k => laws_szIntSS.f k l a) (if a < wt l then -1 else a - wt l) := by
  unfold maxLen at hl
  unfold laws_szIntSS.f wt
  rw [w64 (by omega) (by omega)]
  by_cases h : a < l.length
  · refine ev_pos (by omega) (ev_of ?_)
    rw [if_pos (by omega)]
  · refine ev_neg (by omega) (ev_eq (szIntSS_l0 l (by omega) hm l.length 0 _ (by omega) (by omega) (by omega)) ?_)
    rw [List.drop_zero]
    by_cases g : a - (l.length : Int) < (l.map List.length).sum
    · rw [if_pos g, if_pos (by omega)]
    · rw [if_neg g, if_neg (by omega)]
      omega
theorem szTable (a : List ByteArray) (t : ByteArray) (b : List (List Int)) (c : List Int) (n : Int) (h0 : 0 ≤ n) (h1 : n ≤ 1048576) (ha : a.length ≤ maxLen) (ham : ∀ x ∈ a, x.size ≤ maxLen) (ht : t.size ≤ maxLen) (hb : b.length ≤ maxLen) (hbm : ∀ x ∈ b, x.length ≤ maxLen) (hc : c.length ≤ maxLen) :
    Ev (fun k => laws_szTable.f k a t b c n) (if n < ws a + t.size + wt b + c.length then -1 else n - ws a - t.size - wt b - c.length) := by
  unfold laws_szTable.f
  refine Ev.bind (szStringS a n h0 h1 ha ham) ?_
  unfold maxLen at ht
  by_cases h : n < ws a
  · rw [if_pos h]
    refine ev_pos (by omega) (ev_of ?_)
    rw [if_pos (by omega)]
  rw [if_neg h, w64 (x := n - (ws a : Int) - (t.size : Int)) (by omega) (by omega)]
  refine ev_neg (by omega) ?_
  by_cases g : n - (ws a : Int) < t.size
  · refine ev_pos (by omega) (ev_of ?_)
    rw [if_pos (by omega)]
  refine ev_neg (by omega) (Ev.bind (szIntSS b _ (by omega) (by omega) hb hbm) ?_)
  by_cases g2 : n - (ws a : Int) - (t.size : Int) < wt b
  · rw [if_pos g2]
    refine ev_pos (by omega) (ev_of ?_)
    rw [if_pos (by omega)]
  rw [if_neg g2, szIntS c _ (by omega) (by omega) hc]
  simp only [Option.bind_some]
  refine ev_neg (by omega) ?_
  by_cases g3 : n - (ws a : Int) - (t.size : Int) - (wt b : Int) < c.length
  · rw [if_pos g3]
    refine ev_pos (by omega) (ev_of ?_)
    rw [if_pos (by omega)]
  · rw [if_neg g3]
    refine ev_neg (by omega) (ev_of ?_)
    rw [if_neg (by omega)]
theorem toTable (a : List ByteArray) (t : ByteArray) (b : List (List Int)) (c : List Int) (ha : a.length ≤ 1048576) (hb : wt b ≤ 1048576) (hc : c.length ≤ 1048576) : Ev (fun k => laws_toTable.f k a t b c) (a, t, b, c) := by
  unfold laws_toTable.f
  exact Ev.bind (toStringS a (by omega)) (Ev.bind (toIntSS b hb) (Ev.bind (toIntS c (by omega)) (Ev.now _)))
theorem eqTable (a : List ByteArray) (t : ByteArray) (b : List (List Int)) (c : List Int) (ha : a.length ≤ 1048576) (hb : wt b ≤ 1048576) (hc : c.length ≤ 1048576) : Ev (fun k => laws_eqTable.f k a t b c a t b c) true := by
  unfold laws_eqTable.f
  exact Ev.bind (eqStringS a (by omega)) (ev_pos rfl (ev_pos rfl (Ev.bind (eqIntSS b hb) (ev_pos rfl (Ev.bind (eqIntS c (by omega)) (ev_pos rfl (Ev.now _)))))))
theorem l8Ints (l m : List Int) (hl : l.length ≤ 17592186044416) : Ev (fun k => spec_l8Ints.f k l m) (dec (SameR 0 (fun x y => x = y) l m)) := by
  unfold spec_l8Ints.f
  by_cases h0 : l.length = m.length
  · refine ev_pos (by omega) (same_ev 0 (fun x y => x = y) l m h0 (fun k i => spec_l8Ints.l0 k l m i) ?_ ?_ ?_)
    · refine ev_succ ?_
      simp only [spec_l8Ints.l0]
      exact ev_neg (by omega) (Ev.now _)
    · intro n r hn hp h
      refine ev_succ ?_
      simp only [spec_l8Ints.l0, rdn]
      refine ev_pos (by omega) (ev_pos (by omega) (ev_pos (by omega) (ev_pos hp ?_)))
      rw [w64 (x := (n : Int) + 1) (by omega) (by omega)]
      exact h
    · intro n hn hp
      refine ev_succ ?_
      simp only [spec_l8Ints.l0, rdn]
      exact ev_pos (by omega) (ev_pos (by omega) (ev_pos (by omega) (ev_neg hp (Ev.now _))))
  · refine ev_neg (by omega) (ev_of ?_)
    rw [dec_false (fun z => h0 z.1)]
theorem equalInts (l m : List Int) (hl : l.length ≤ 17592186044416) : Ev (fun k => slices_Equal_int_int.f k l m) (dec (SameR 0 (fun x y => x = y) l m)) := by
  unfold slices_Equal_int_int.f
  by_cases h0 : l.length = m.length
  · refine ev_pos (by omega) (same_ev 0 (fun x y => x = y) l m h0 (fun k i => slices_Equal_int_int.l0 k l m (l.length : Int) i) ?_ ?_ ?_)
    · refine ev_succ ?_
      simp only [slices_Equal_int_int.l0]
      exact ev_neg (by omega) (Ev.now _)
    · intro n r hn hp h
      refine ev_succ ?_
      simp only [slices_Equal_int_int.l0, rdn]
      refine ev_pos (by omega) (ev_pos (by omega) (ev_pos (by omega) (ev_pos (by omega) (ev_pos hp ?_))))
      rw [w64 (x := (n : Int) + 1) (by omega) (by omega)]
      exact h
    · intro n hn hp
      refine ev_succ ?_
      simp only [slices_Equal_int_int.l0, rdn]
      exact ev_pos (by omega) (ev_pos (by omega) (ev_pos (by omega) (ev_pos (by omega) (ev_neg hp (Ev.now _)))))
  · refine ev_neg (by omega) (ev_of ?_)
    rw [dec_false (fun z => h0 z.1)]
def SameL (l m : List (List Int)) : Prop := SameR [] (SameR 0 (fun x y => x = y)) l m
theorem rdLn (xs : List (List Int)) (n : Nat) : rd_L4 xs (n : Int) = xs.getD n [] := rfl
theorem getD_len {l : List (List Int)} (hl : wt l ≤ 1048576) (n : Nat) (hn : n < l.length) : (l.getD n []).length ≤ 1048576 := by
  have hx : l[n]? = some l[n] := List.getElem?_eq_getElem hn
  have hm := wt_mem (List.mem_of_getElem? hx)
  rw [List.getD_eq_getElem?_getD, hx]
  simp only [Option.getD_some]
  omega
theorem l9Grids (l m : List (List Int)) (hl : wt l ≤ 1048576) : Ev (fun k => spec_l9Grids.f k l m) (dec (SameL l m)) := by
  have h1 : l.length ≤ wt l := by unfold wt; omega
  unfold spec_l9Grids.f SameL
  by_cases h0 : l.length = m.length
  · refine ev_pos (by omega) (same_ev [] _ l m h0 (fun k i => spec_l9Grids.l0 k l m i) ?_ ?_ ?_)
    · refine ev_succ ?_
      simp only [spec_l9Grids.l0]
      exact ev_neg (by omega) (Ev.now _)
    · intro n r hn hp h
      refine ev_succ ?_
      have := getD_len hl n hn
      simp only [spec_l9Grids.l0, rdLn]
      refine ev_pos (by omega) (ev_pos (by omega) (ev_pos (by omega) (Ev.bind (l8Ints _ _ (by omega)) (ev_pos (dec_true hp) ?_))))
      rw [w64 (x := (n : Int) + 1) (by omega) (by omega)]
      exact h
    · intro n hn hp
      refine ev_succ ?_
      have := getD_len hl n hn
      simp only [spec_l9Grids.l0, rdLn]
      exact ev_pos (by omega) (ev_pos (by omega) (ev_pos (by omega) (Ev.bind (l8Ints _ _ (by omega)) (ev_neg (by rw [dec_false hp]; decide) (Ev.now _)))))
  · refine ev_neg (by omega) (ev_of ?_)
    rw [dec_false (fun z => h0 z.1)]
theorem sameLists (l m : List (List Int)) (hl : wt l ≤ 1048576) : Ev (fun k => impl_sameLists.f k l m) (dec (SameL l m)) := by
  have h1 : l.length ≤ wt l := by unfold wt; omega
  unfold impl_sameLists.f
  refine Ev.bind (a := dec (SameL l m)) ?_ (Ev.now _)
  unfold slices_EqualFunc_int_int_int_int.f SameL
  by_cases h0 : l.length = m.length
  · refine ev_pos (by omega) (same_ev [] _ l m h0 (fun k i => slices_EqualFunc_int_int_int_int.l0 k m l (l.length : Int) i) ?_ ?_ ?_)
    · refine ev_succ ?_
      simp only [slices_EqualFunc_int_int_int_int.l0]
      exact ev_neg (by omega) (Ev.now _)
    · intro n r hn hp h
      refine ev_succ ?_
      have := getD_len hl n hn
      simp only [slices_EqualFunc_int_int_int_int.l0, impl_sameLists_1.f, rdLn]
      refine ev_pos (by omega) (ev_pos (by omega) (ev_pos (by omega) (ev_pos (by omega) (Ev.bind (Ev.bind (equalInts _ _ (by omega)) (Ev.now _)) (ev_pos (dec_true hp) ?_)))))
      rw [w64 (x := (n : Int) + 1) (by omega) (by omega)]
      exact h
    · intro n hn hp
      refine ev_succ ?_
      have := getD_len hl n hn
      simp only [slices_EqualFunc_int_int_int_int.l0, impl_sameLists_1.f, rdLn]
      exact ev_pos (by omega) (ev_pos (by omega) (ev_pos (by omega) (ev_pos (by omega) (Ev.bind (Ev.bind (equalInts _ _ (by omega)) (Ev.now _)) (ev_neg (by rw [dec_false hp]; decide) (Ev.now _))))))
  · refine ev_neg (by omega) (ev_of ?_)
    rw [dec_false (fun z => h0 z.1)]
def SameT (l m : List ByteArray) : Prop := SameR ByteArray.empty (fun x y => x.toList = y.toList) l m
theorem equalStrings (l m : List ByteArray) (hl : l.length ≤ 17592186044416) : Ev (fun k => slices_Equal_string_string.f k l m) (dec (SameT l m)) := by
  unfold slices_Equal_string_string.f SameT
  by_cases h0 : l.length = m.length
  · refine ev_pos (by omega) (same_ev ByteArray.empty (fun x y => x.toList = y.toList) l m h0 (fun k i => slices_Equal_string_string.l0 k l m (l.length : Int) i) ?_ ?_ ?_)
    · refine ev_succ ?_
      simp only [slices_Equal_string_string.l0]
      exact ev_neg (by omega) (Ev.now _)
    · intro n r hn hp h
      refine ev_succ ?_
      simp only [slices_Equal_string_string.l0, rdOfn]
      refine ev_pos (by omega) (ev_pos (by omega) (ev_pos (by omega) (ev_pos (by omega) (ev_pos hp ?_))))
      rw [w64 (x := (n : Int) + 1) (by omega) (by omega)]
      exact h
    · intro n hn hp
      refine ev_succ ?_
      simp only [slices_Equal_string_string.l0, rdOfn]
      exact ev_pos (by omega) (ev_pos (by omega) (ev_pos (by omega) (ev_pos (by omega) (ev_neg hp (Ev.now _)))))
  · refine ev_neg (by omega) (ev_of ?_)
    rw [dec_false (fun z => h0 z.1)]
theorem rdLT (xs : List (List ByteArray)) (i : Int) : rd_L6 xs i = xs.getD i.toNat [] := rfl
theorem l9Texts (l m : List ByteArray) (hl : l.length ≤ 17592186044416) : Ev (fun k => spec_l9Texts.f k l m) (dec (SameT l m)) := by
  unfold spec_l9Texts.f
  refine Ev.bind (a := dec (SameT l m)) ?_ (Ev.now _)
  unfold spec_SameRows.f
  refine ev_pos rfl (ev_succ ?_)
  simp only [spec_SameRows.l0, rdLT, List.length_singleton]
  have e1 : ∀ x : List ByteArray, ([x] : List (List ByteArray)).getD ((0 : Int)).toNat [] = x := fun x => rfl
  simp only [e1]
  refine ev_pos (by decide) (ev_pos (by decide) (ev_pos (by decide) ?_))
  unfold SameT
  by_cases h0 : l.length = m.length
  · refine ev_pos (by omega) (same_ev ByteArray.empty (fun x y => x.toList = y.toList) l m h0 (fun k i => spec_SameRows.l1 k [l] [m] 0 i) ?_ ?_ ?_)
    · refine ev_succ ?_
      simp only [spec_SameRows.l1, rdLT, e1]
      refine ev_pos (by decide) (ev_pos (by simp) (ev_neg (by omega) ?_))
      rw [w64 (x := (0 : Int) + 1) (by decide) (by decide)]
      refine ev_succ ?_
      simp only [spec_SameRows.l0]
      exact ev_neg (by simp) (Ev.now _)
    · intro n r hn hp h
      refine ev_succ ?_
      simp only [spec_SameRows.l1, rdLT, e1, rdOfn]
      refine ev_pos (by decide) (ev_pos (by simp) (ev_pos (by omega) (ev_pos (by omega) (ev_pos (by simp) (ev_pos (by omega) (ev_pos hp ?_))))))
      rw [w64 (x := (n : Int) + 1) (by omega) (by omega)]
      exact h
    · intro n hn hp
      refine ev_succ ?_
      simp only [spec_SameRows.l1, rdLT, e1, rdOfn]
      exact ev_pos (by decide) (ev_pos (by simp) (ev_pos (by omega) (ev_pos (by omega) (ev_pos (by simp) (ev_pos (by omega) (ev_neg hp (Ev.now _)))))))
  · refine ev_neg (by omega) (ev_of ?_)
    rw [dec_false (fun z => h0 z.1)]

open Classical in
noncomputable def sameTab (a : List ByteArray) (t : ByteArray) (b : List (List Int)) (c : List Int) (a' : List ByteArray) (t' : ByteArray) (b' : List (List Int)) (c' : List Int) : Bool :=
  if SameT a a' ∧ t.toList = t'.toList ∧ SameL b b' ∧ SameR 0 (fun x y => x = y) c c' then true else false
theorem specSameTable (a : List ByteArray) (t : ByteArray) (b : List (List Int)) (c : List Int) (a' : List ByteArray) (t' : ByteArray) (b' : List (List Int)) (c' : List Int) (ha : a.length ≤ 1048576) (hb : wt b ≤ 1048576) (hc : c.length ≤ 1048576) :
    Ev (fun k => spec_SameTable.f k a t b c a' t' b' c') (sameTab a t b c a' t' b' c') := by
  unfold spec_SameTable.f sameTab
  refine Ev.bind (l9Texts a a' (by omega)) ?_
  by_cases h1 : SameT a a'
  · refine ev_pos (dec_true h1) ?_
    by_cases h2 : t.toList = t'.toList
    · refine ev_pos h2 (Ev.bind (l9Grids b b' hb) ?_)
      by_cases h3 : SameL b b'
      · refine ev_pos (dec_true h3) (Ev.bind (l8Ints c c' (by omega)) (ev_of ?_))
        by_cases h4 : SameR 0 (fun x y => x = y) c c'
        · rw [if_pos ⟨h1, h2, h3, h4⟩, dec_true h4]
        · rw [if_neg (fun z => h4 z.2.2.2), dec_false h4]
      · rw [if_neg (fun z => h3 z.2.2.1)]
        exact ev_neg (by rw [dec_false h3]; decide) (Ev.now _)
    · rw [if_neg (fun z => h2 z.2.1)]
      exact ev_neg h2 (Ev.now _)
  · rw [if_neg (fun z => h1 z.1)]
    exact ev_neg (by rw [dec_false h1]; decide) (Ev.now _)
theorem implSameTable (a : List ByteArray) (t : ByteArray) (b : List (List Int)) (c : List Int) (a' : List ByteArray) (t' : ByteArray) (b' : List (List Int)) (c' : List Int) (ha : a.length ≤ 1048576) (hb : wt b ≤ 1048576) (hc : c.length ≤ 1048576) :
    Ev (fun k => impl_SameTable.f k a t b c a' t' b' c') (sameTab a t b c a' t' b' c') := by
  unfold impl_SameTable.f sameTab
  refine Ev.bind (equalStrings a a' (by omega)) ?_
  by_cases h1 : SameT a a'
  · refine ev_pos (dec_true h1) ?_
    by_cases h2 : t.toList = t'.toList
    · refine ev_pos h2 (Ev.bind (sameLists b b' hb) ?_)
      by_cases h3 : SameL b b'
      · refine ev_pos (dec_true h3) (Ev.bind (equalInts c c' (by omega)) (ev_of ?_))
        by_cases h4 : SameR 0 (fun x y => x = y) c c'
        · rw [if_pos ⟨h1, h2, h3, h4⟩, dec_true h4]
        · rw [if_neg (fun z => h4 z.2.2.2), dec_false h4]
      · rw [if_neg (fun z => h3 z.2.2.1)]
        exact ev_neg (by rw [dec_false h3]; decide) (Ev.now _)
    · rw [if_neg (fun z => h2 z.2.1)]
      exact ev_neg h2 (Ev.now _)
  · rw [if_neg (fun z => h1 z.1)]
    exact ev_neg (by rw [dec_false h1]; decide) (Ev.now _)
theorem FnExactSameTable (l0_0 : List ByteArray) (a0_1 : ByteArray) (l0_2 : List (List Int)) (l0_3 : List Int) (l1_0 : List ByteArray) (a1_1 : ByteArray) (l1_2 : List (List Int)) (l1_3 : List Int)
    (w0_0 : l0_0.length ≤ maxLen ∧ ∀ x ∈ l0_0, x.size ≤ maxLen) (w0_1 : a0_1.size ≤ maxLen) (w0_2 : l0_2.length ≤ maxLen ∧ ∀ x ∈ l0_2, x.length ≤ maxLen ∧ ∀ y ∈ x, (Lit.int .i64 y).wf = true) (w0_3 : l0_3.length ≤ maxLen ∧ ∀ x ∈ l0_3, (Lit.int .i64 x).wf = true) (w1_0 : l1_0.length ≤ maxLen ∧ ∀ x ∈ l1_0, x.size ≤ maxLen) (w1_1 : a1_1.size ≤ maxLen) (w1_2 : l1_2.length ≤ maxLen ∧ ∀ x ∈ l1_2, x.length ≤ maxLen ∧ ∀ y ∈ x, (Lit.int .i64 y).wf = true) (w1_3 : l1_3.length ≤ maxLen ∧ ∀ x ∈ l1_3, (Lit.int .i64 x).wf = true) : ∃ k, laws_FnExactSameTable.f k l0_0 a0_1 l0_2 l0_3 l1_0 a1_1 l1_2 l1_3 = some true := by
  refine Ev.rounds ?_
  unfold laws_FnExactSameTable.f
  have f0 : l0_0.length ≤ ws l0_0 := by unfold ws; omega
  have f1 : l1_0.length ≤ ws l1_0 := by unfold ws; omega
  refine Ev.bind (szTable l0_0 a0_1 l0_2 l0_3 1048576 (by omega) (by omega) w0_0.1 w0_0.2 w0_1 w0_2.1 (fun x hx => (w0_2.2 x hx).1) w0_3.1) ?_
  by_cases b0 : (1048576 : Int) < ws l0_0 + a0_1.size + wt l0_2 + l0_3.length
  · rw [if_pos b0]
    exact ev_pos (by omega) (Ev.now _)
  rw [if_neg b0]
  refine ev_neg (by omega) (Ev.bind (szTable l1_0 a1_1 l1_2 l1_3 _ (by omega) (by omega) w1_0.1 w1_0.2 w1_1 w1_2.1 (fun x hx => (w1_2.2 x hx).1) w1_3.1) ?_)
  by_cases b1 : 1048576 - (ws l0_0 : Int) - a0_1.size - wt l0_2 - l0_3.length < ws l1_0 + a1_1.size + wt l1_2 + l1_3.length
  · rw [if_pos b1]
    exact ev_pos (by omega) (Ev.now _)
  rw [if_neg b1]
  refine ev_neg (by omega) ?_
  have t0 := toTable l0_0 a0_1 l0_2 l0_3 (by omega) (by omega) (by omega)
  have t1 := toTable l1_0 a1_1 l1_2 l1_3 (by omega) (by omega) (by omega)
  refine Ev.bind t0 (Ev.bind t1 (Ev.bind (specSameTable _ _ _ _ _ _ _ _ (by simp only; omega) (by simp only; omega) (by simp only; omega)) (Ev.bind t0 (Ev.bind t1 (Ev.bind (implSameTable _ _ _ _ _ _ _ _ (by simp only; omega) (by simp only; omega) (by simp only; omega)) (ev_neg (by simp) ?_))))))
  exact Ev.bind t0 (Ev.bind (eqTable _ _ _ _ (by simp only; omega) (by simp only; omega) (by simp only; omega)) (ev_pos rfl (Ev.bind t1 (Ev.bind (eqTable _ _ _ _ (by simp only; omega) (by simp only; omega) (by simp only; omega)) (ev_pos rfl (Ev.now _))))))

end Go.Proofs.Ytohngimlmcdiiaa.Pure
