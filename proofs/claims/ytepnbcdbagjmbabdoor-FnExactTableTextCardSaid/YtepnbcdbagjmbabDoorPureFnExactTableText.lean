/- impl.TableText returns what spec.TableText returns and leaves its table as it was, for all tables. Conditions: none but the row's own.
-/
import Derived.Test.YtepnbcdbagjmbabDoorQFnExactTableTextx12
import Derived.Lib.Atoi
import Derived.Lib.AtoiAllCases
import Derived.Lib.IndexAny
import Derived.Lib.ItoaLen
import Derived.Lib.TrimByte
set_option linter.unusedVariables false
set_option linter.unusedSimpArgs false
namespace Go.Proofs.YtepnbcdbagjmbabDoor.Pure
open Go.RowKit Go.Proofs.YtepnbcdbagjmbabDoor.QFnExactTableText Go.Proofs.YtepnbcdbagjmbabDoorW.PrintWords Go.Proofs.YtepnbcdbagjmbabDoorW.PrintLast Go.Proofs.YtepnbcdbagjmbabDoorW.PrintMore

theorem w64 {x : Int} (h1 : -9223372036854775808 ≤ x) (h2 : x ≤ 9223372036854775807) : wrap64 x = x := by unfold wrap64; omega
theorem i64_wf {x : Int} (h : (Lit.int .i64 x).wf = true) : -9223372036854775808 ≤ x ∧ x ≤ 9223372036854775807 := by
  simpa [Lit.wf, IntKind.min, IntKind.max, IntKind.signed, IntKind.bits] using h
theorem u8_wf {x : Int} (h : (Lit.int .u8 x).wf = true) : 0 ≤ x ∧ x ≤ 255 := by
  simpa [Lit.wf, IntKind.min, IntKind.max, IntKind.signed, IntKind.bits] using h
theorem rd_eq {xs : List Int} {i : Int} (h0 : 0 ≤ i) (h : i < (xs.length : Int)) : xs[i.toNat]? = some (rd xs i) := by
  unfold rd
  rw [List.getD_eq_getElem?_getD, List.getElem?_eq_getElem (by omega)]
  rfl
theorem rd_mem {xs : List Int} {i : Int} (h0 : 0 ≤ i) (h : i < (xs.length : Int)) : rd xs i ∈ xs := List.mem_of_getElem? (rd_eq h0 h)
theorem rd_of {xs : List Int} {n : Nat} {v : Int} (h : xs[n]? = some v) : rd xs (n : Int) = v := by
  unfold rd
  rw [List.getD_eq_getElem?_getD, Int.toNat_natCast, h]
  rfl
theorem ev_of {α : Type} {r : α} {p : Option α} (h : p = some r) : Ev (fun _ => p) r := ⟨0, fun _ _ => h⟩
theorem ev_end {α : Type} {g : Nat → Option α} {r : α} (h : ∀ k, g (k + 1) = some r) : Ev g r := Ev.step (f := fun _ => some r) h (Ev.now r)
theorem ev_pos {α : Type} {c : Prop} [Decidable c] {f g : Nat → Option α} {r : α} (hc : c) (h : Ev f r) : Ev (fun k => if c then f k else g k) r := Ev.congr (fun _ => if_pos hc) h
theorem ev_neg {α : Type} {c : Prop} [Decidable c] {f g : Nat → Option α} {r : α} (hc : ¬ c) (h : Ev g r) : Ev (fun k => if c then f k else g k) r := Ev.congr (fun _ => if_neg hc) h
theorem rd_drop {xs : List Int} {n : Nat} (h : n < xs.length) : xs.drop n = rd xs (n : Int) :: xs.drop (n + 1) := by
  rw [List.drop_eq_getElem_cons h]
  congr 1
  unfold rd
  rw [List.getD_eq_getElem?_getD, Int.toNat_natCast, List.getElem?_eq_getElem h]
  rfl
noncomputable def dec (p : Prop) : Bool := @decide p (Classical.propDecidable p)
theorem dec_true {p : Prop} (h : p) : dec p = true := @decide_eq_true p (Classical.propDecidable p) h
theorem dec_false {p : Prop} (h : ¬ p) : dec p = false := @decide_eq_false p (Classical.propDecidable p) h
theorem dec_iff {p : Prop} : dec p = true ↔ p := @decide_eq_true_iff p (Classical.propDecidable p)
theorem dec_congr {p q : Prop} (h : p ↔ q) : dec p = dec q := by rw [propext h]
theorem dec_eq {p : Prop} [Decidable p] : dec p = decide p := by
  by_cases h : p
  · rw [dec_true h, decide_eq_true h]
  · rw [dec_false h, decide_eq_false h]
theorem ev_succ {α : Type} {g : Nat → Option α} {r : α} (h : Ev (fun k => g (k + 1)) r) : Ev g r := by
  obtain ⟨K, h⟩ := h
  refine ⟨K + 1, fun n hn => ?_⟩
  obtain ⟨m, rfl⟩ : ∃ m, n = m + 1 := ⟨n - 1, by omega⟩
  exact h m (by omega)
theorem ev_eq {α : Type} {g : Nat → Option α} {r r' : α} (h : Ev g r) (e : r = r') : Ev g r' := e ▸ h
theorem gd_eq {α : Type} (z : α) {xs : List α} {i : Int} (h0 : 0 ≤ i) (h : i < (xs.length : Int)) : xs[i.toNat]? = some (xs.getD i.toNat z) := by
  rw [List.getD_eq_getElem?_getD, List.getElem?_eq_getElem (by omega)]
  rfl
theorem gd_nat {α : Type} (z : α) {xs : List α} {n : Nat} {v : α} (h : xs[n]? = some v) : xs.getD ((n : Int)).toNat z = v := by
  rw [List.getD_eq_getElem?_getD, Int.toNat_natCast, h]
  rfl
theorem gd_drop {α : Type} (z : α) {xs : List α} {n : Nat} (h : n < xs.length) : xs.drop n = xs.getD ((n : Int)).toNat z :: xs.drop (n + 1) := by
  rw [List.drop_eq_getElem_cons h]
  congr 1
  exact (gd_nat z (List.getElem?_eq_getElem h)).symm
/-- A loop that copies: place after place is set. -/
theorem copy_loop {α β : Type} (F : Nat → List β → Int → Option (List β)) (l : List α) (g : α → β)
    (hend : ∀ acc : List β, acc.length = l.length → Ev (fun k => F k acc (l.length : Int)) acc)
    (hstep : ∀ (acc : List β) (n : Nat) (x : α) (r : List β), n < l.length → acc.length = l.length → l[n]? = some x → Ev (fun k => F k (acc.set n (g x)) ((n + 1 : Nat) : Int)) r → Ev (fun k => F k acc (n : Int)) r) :
    ∀ (d n : Nat) (acc : List β), n + d = l.length → acc.length = l.length → (∀ j, j < n → acc[j]? = (l.map g)[j]?) → Ev (fun k => F k acc (n : Int)) (l.map g) := by
  intro d
  induction d with
  | zero =>
    intro n acc hn ha hp
    obtain rfl : n = l.length := by omega
    refine ev_eq (hend acc ha) (List.ext_getElem? fun j => ?_)
    by_cases h : j < l.length
    · exact hp j h
    · rw [List.getElem?_eq_none (by omega), List.getElem?_eq_none (by simp; omega)]
  | succ d ih =>
    intro n acc hn ha hp
    have hx : l[n]? = some l[n] := List.getElem?_eq_getElem (by omega)
    refine hstep acc n l[n] _ (by omega) ha hx (ih (n + 1) _ (by omega) (by simpa using ha) ?_)
    intro j hj
    rw [List.getElem?_set]
    by_cases h : n = j
    · subst h
      rw [if_pos rfl, if_pos (by omega), List.getElem?_map, hx]
      rfl
    · rw [if_neg h]
      exact hp j (by omega)
/-- A loop that tests place after place. -/
theorem all_loop (F : Nat → Int → Option Bool) (L : Nat) (p : Nat → Prop) (hend : Ev (fun k => F k (L : Int)) true)
    (hyes : ∀ (n : Nat) (r : Bool), n < L → p n → Ev (fun k => F k ((n + 1 : Nat) : Int)) r → Ev (fun k => F k (n : Int)) r)
    (hno : ∀ n : Nat, n < L → ¬ p n → Ev (fun k => F k (n : Int)) false) :
    ∀ (d n : Nat), n + d = L → Ev (fun k => F k (n : Int)) (dec (∀ j, n ≤ j → j < L → p j)) := by
  intro d
  induction d with
  | zero =>
    intro n hn
    obtain rfl : n = L := by omega
    exact ev_eq hend (dec_true (fun j h1 h2 => by omega)).symm
  | succ d ih =>
    intro n hn
    by_cases h : p n
    · refine hyes n _ (by omega) h (ev_eq (ih (n + 1) (by omega)) (dec_congr ⟨fun g j h1 h2 => ?_, fun g j h1 h2 => g j (by omega) h2⟩))
      by_cases e : j = n
      · exact e ▸ h
      · exact g j (by omega) h2
    · exact ev_eq (hno n (by omega) h) (dec_false (fun g => h (g n (Nat.le_refl _) (by omega)))).symm
/-- A loop that goes round L times over a state. -/
theorem fold_loop {σ ρ : Type} (F : Nat → σ → Int → Option ρ) (L : Nat) (S : Nat → σ) (r : ρ) (hend : Ev (fun k => F k (S L) (L : Int)) r)
    (hstep : ∀ n : Nat, n < L → Ev (fun k => F k (S (n + 1)) ((n + 1 : Nat) : Int)) r → Ev (fun k => F k (S n) (n : Int)) r) :
    ∀ (d n : Nat), n + d = L → Ev (fun k => F k (S n) (n : Int)) r := by
  intro d
  induction d with
  | zero =>
    intro n hn
    obtain rfl : n = L := by omega
    exact hend
  | succ d ih =>
    intro n hn
    exact hstep n (by omega) (ih (n + 1) (by omega))
theorem set_mid {α : Type} (a b : List α) (x v : α) {n : Nat} (h : a.length = n) : (a ++ x :: b).set n v = a ++ v :: b := by
  subst h
  rw [List.set_append_right _ _ (Nat.le_refl _), Nat.sub_self]
  rfl
theorem get_mid {α : Type} (a b : List α) (x : α) {n : Nat} (h : a.length = n) : (a ++ x :: b)[n]? = some x := by
  subst h
  rw [List.getElem?_append_right (Nat.le_refl _), Nat.sub_self]
  rfl
/-- A loop that tests place after place, and one thing more at its end. -/
theorem all_loop2 (F : Nat → Int → Option Bool) (L : Nat) (p : Nat → Prop) (E : Prop) (hend : Ev (fun k => F k (L : Int)) (dec E))
    (hyes : ∀ (n : Nat) (r : Bool), n < L → p n → Ev (fun k => F k ((n + 1 : Nat) : Int)) r → Ev (fun k => F k (n : Int)) r)
    (hno : ∀ n : Nat, n < L → ¬ p n → Ev (fun k => F k (n : Int)) false) :
    ∀ (d n : Nat), n + d = L → Ev (fun k => F k (n : Int)) (dec ((∀ j, n ≤ j → j < L → p j) ∧ E)) := by
  intro d
  induction d with
  | zero =>
    intro n hn
    obtain rfl : n = L := by omega
    exact ev_eq hend (dec_congr ⟨fun h => ⟨fun j h1 h2 => by omega, h⟩, fun h => h.2⟩)
  | succ d ih =>
    intro n hn
    by_cases h : p n
    · refine hyes n _ (by omega) h (ev_eq (ih (n + 1) (by omega)) (dec_congr ⟨fun g => ⟨fun j h1 h2 => ?_, g.2⟩, fun g => ⟨fun j h1 h2 => g.1 j (by omega) h2, g.2⟩⟩))
      by_cases e : j = n
      · exact e ▸ h
      · exact g.1 j (by omega) h2
    · exact ev_eq (hno n (by omega) h) (dec_false (fun g => h (g.1 n (Nat.le_refl _) (by omega)))).symm
/-- Lists of one length whose places stand in R to each other. -/
def SameR {α : Type} (z : α) (R : α → α → Prop) (l m : List α) : Prop := l.length = m.length ∧ ∀ j : Nat, 0 ≤ j → j < l.length → R (l.getD j z) (m.getD j z)
theorem same_ev {α : Type} (z : α) (R : α → α → Prop) (l m : List α) (h0 : l.length = m.length) (F : Nat → Int → Option Bool) (hend : Ev (fun k => F k (l.length : Int)) true)
    (hyes : ∀ (n : Nat) (r : Bool), n < l.length → R (l.getD n z) (m.getD n z) → Ev (fun k => F k ((n + 1 : Nat) : Int)) r → Ev (fun k => F k (n : Int)) r)
    (hno : ∀ n : Nat, n < l.length → ¬ R (l.getD n z) (m.getD n z) → Ev (fun k => F k (n : Int)) false) : Ev (fun k => F k 0) (dec (SameR z R l m)) :=
  ev_eq (all_loop F l.length (fun j => R (l.getD j z) (m.getD j z)) hend hyes hno l.length 0 (by omega)) (dec_congr ⟨fun h => ⟨h0, h⟩, fun h => h.2⟩)
theorem rdn (xs : List Int) (n : Nat) : rd xs (n : Int) = xs.getD n 0 := rfl
theorem rdOfn {α : Type} (z : α) (xs : List α) (n : Nat) : rdOf z xs (n : Int) = xs.getD n z := rfl
/-- How much a list of texts holds. -/
def ws (l : List ByteArray) : Nat := l.length + (l.map ByteArray.size).sum
theorem ws_mem {l : List ByteArray} {x : ByteArray} (h : x ∈ l) : x.size ≤ ws l := by
  unfold ws
  induction l with
  | nil => simp at h
  | cons y l ih =>
    simp only [List.mem_cons] at h
    simp only [List.map_cons, List.sum_cons, List.length_cons]
    rcases h with rfl | h
    · omega
    · have := ih h; omega
theorem szStringS_l0 (l : List ByteArray) (hl : l.length ≤ 1048576) (hm : ∀ x ∈ l, x.size ≤ maxLen) : ∀ (d n : Nat) (a : Int), n + d = l.length → 0 ≤ a → a ≤ 1048576 →
    Ev (fun k => laws_szStringS.l0 k l a (n : Int)) (if a < ((l.drop n).map ByteArray.size).sum then -1 else a - ((l.drop n).map ByteArray.size).sum) := by
  intro d
  induction d with
  | zero =>
    intro n a hn h0 h1
    obtain rfl : n = l.length := by omega
    refine ev_succ ?_
    simp only [laws_szStringS.l0]
    refine ev_neg (by omega) (ev_of ?_)
    rw [List.drop_length, if_neg (by simp; omega)]
    simp
  | succ d ih =>
    intro n a hn h0 h1
    refine ev_succ ?_
    have hx : l[n]? = some l[n] := List.getElem?_eq_getElem (by omega)
    have d1 : l.drop n = l[n] :: l.drop (n + 1) := List.drop_eq_getElem_cons (by omega)
    have hmx := hm _ (List.mem_of_getElem? hx)
    unfold maxLen at hmx
    simp only [laws_szStringS.l0, rdOf, gd_nat ByteArray.empty hx]
    refine ev_pos (by omega) (ev_pos (by omega) ?_)
    rw [d1, List.map_cons, List.sum_cons, w64 (x := (n : Int) + 1) (by omega) (by omega), w64 (x := a - (l[n].size : Int)) (by omega) (by omega)]
    by_cases h : a < l[n].size
    · refine ev_pos (by omega) (ev_of ?_)
      rw [if_pos (by omega)]
    · refine ev_neg (by omega) (ev_eq (ih (n + 1) (a - l[n].size) (by omega) (by omega) (by omega)) ?_)
      by_cases g : a - (l[n].size : Int) < ((l.drop (n + 1)).map ByteArray.size).sum
      · rw [if_pos g, if_pos (by omega)]
      · rw [if_neg g, if_neg (by omega)]
        omega
theorem szStringS (l : List ByteArray) (a : Int) (h0 : 0 ≤ a) (h1 : a ≤ 1048576) (hl : l.length ≤ maxLen) (hm : ∀ x ∈ l, x.size ≤ maxLen) : Ev (fun k => laws_szStringS.f k l a) (if a < ws l then -1 else a - ws l) := by
  unfold maxLen at hl
  unfold laws_szStringS.f ws
  rw [w64 (by omega) (by omega)]
  by_cases h : a < l.length
  · refine ev_pos (by omega) (ev_of ?_)
    rw [if_pos (by omega)]
  · refine ev_neg (by omega) (ev_eq (szStringS_l0 l (by omega) hm l.length 0 _ (by omega) (by omega) (by omega)) ?_)
    rw [List.drop_zero]
    by_cases g : a - (l.length : Int) < (l.map ByteArray.size).sum
    · rw [if_pos g, if_pos (by omega)]
    · rw [if_neg g, if_neg (by omega)]
      omega
theorem toStringS (l : List ByteArray) (hl : l.length ≤ 17592186044416) : Ev (fun k => laws_toStringS.f k l) l := by
  unfold laws_toStringS.f
  refine ev_pos (by omega) (ev_pos (by omega) ?_)
  refine ev_eq (copy_loop (fun k acc i => laws_toStringS.l0 k l acc i) l id ?_ ?_ l.length 0 _ (by omega) (by simp) (fun j h => by omega)) (by simp)
  · intro acc ha
    refine ev_succ ?_
    simp only [laws_toStringS.l0]
    exact ev_neg (by omega) (Ev.now _)
  · intro acc n x r hn ha hx h
    refine ev_succ ?_
    simp only [laws_toStringS.l0, rdOf, gd_nat ByteArray.empty hx]
    refine ev_pos (by omega) (ev_pos (by omega) (ev_pos (by omega) ?_))
    rw [w64 (x := (n : Int) + 1) (by omega) (by omega)]
    exact h
theorem eqStringS (l : List ByteArray) (hl : l.length ≤ 17592186044416) : Ev (fun k => laws_eqStringS.f k l l) true := by
  unfold laws_eqStringS.f
  refine ev_pos rfl ?_
  refine ev_eq (all_loop (fun k i => laws_eqStringS.l0 k l l i) l.length (fun _ => True) ?_ ?_ ?_ l.length 0 (by omega)) (dec_true (fun _ _ _ => trivial))
  · refine ev_succ ?_
    simp only [laws_eqStringS.l0]
    exact ev_neg (by omega) (Ev.now _)
  · intro n r hn _ h
    refine ev_succ ?_
    simp only [laws_eqStringS.l0]
    refine ev_pos (by omega) (ev_pos (by omega) (ev_pos (by omega) (ev_pos trivial ?_)))
    rw [w64 (x := (n : Int) + 1) (by omega) (by omega)]
    exact h
  · intro n hn h
    exact absurd trivial h
theorem rdL (xs : List (List Int)) (i : Int) : rd_L2 xs i = xs.getD i.toNat [] := rfl
/-- How much a list of lists holds. -/
def wt (l : List (List Int)) : Nat := l.length + (l.map List.length).sum
theorem wt_mem {l : List (List Int)} {x : List Int} (h : x ∈ l) : x.length ≤ wt l := by
  unfold wt
  induction l with
  | nil => simp at h
  | cons y l ih =>
    simp only [List.mem_cons] at h
    simp only [List.map_cons, List.sum_cons, List.length_cons]
    rcases h with rfl | h
    · omega
    · have := ih h; omega
theorem toIntS_l0 (l : List Int) (hl : l.length ≤ 35184372088832) : ∀ (d n : Nat) (acc : List Int), n + d = l.length → acc.length = l.length → (∀ j, j < n → acc[j]? = l[j]?) → Ev (fun k => laws_toIntS.l0 k l acc (n : Int)) l := by
  intro d
  induction d with
  | zero =>
    intro n acc hn ha hp
    refine ev_end fun k => ?_
    simp only [laws_toIntS.l0]
    rw [if_neg (by omega)]
    congr 1
    exact List.ext_getElem? fun j => by
      by_cases h : j < n
      · exact hp j h
      · rw [List.getElem?_eq_none (by omega), List.getElem?_eq_none (by omega)]
  | succ d ih =>
    intro n acc hn ha hp
    refine Ev.step (fun k => ?_) (ih (n + 1) (acc.set n (rd l n)) (by omega) (by simpa using ha) ?_)
    · simp only [laws_toIntS.l0]
      rw [if_pos (by omega), if_pos (by omega), if_pos (by omega), w64 (by omega) (by omega)]
      rfl
    intro j hj
    rw [List.getElem?_set]
    by_cases h : j = n
    · subst h
      rw [if_pos (by omega), if_pos (by omega), ← rd_eq (by omega) (by omega)]
      simp
    · rw [if_neg (by omega)]
      exact hp j (by omega)
theorem toIntS (l : List Int) (hl : l.length ≤ 35184372088832) : Ev (fun k => laws_toIntS.f k l) l := by
  refine Ev.congr (fun k => ?_) (toIntS_l0 l hl l.length 0 (List.replicate l.length 0) (by omega) (by simp) (fun j h => by omega))
  unfold laws_toIntS.f
  rw [if_pos (by omega), if_pos (by omega)]
  rfl
theorem toIntSS (l : List (List Int)) (hl : wt l ≤ 1048576) : Ev (fun k => laws_toIntSS.f k l) l := by
  have h1 : l.length ≤ wt l := by unfold wt; omega
  unfold laws_toIntSS.f
  refine ev_pos (by omega) (ev_pos (by omega) ?_)
  have key := copy_loop (fun k acc i => laws_toIntSS.l0 k l acc i) l (fun x => x) ?_ ?_ l.length 0 (List.replicate (l.length : Int).toNat []) (by omega) (by simp) (fun j h => by omega)
  · simpa using key
  · intro acc ha
    refine ev_succ ?_
    simp only [laws_toIntSS.l0]
    exact ev_neg (by omega) (Ev.now _)
  · intro acc n x r hn ha hx h
    refine ev_succ ?_
    have hm := wt_mem (List.mem_of_getElem? hx)
    simp only [laws_toIntSS.l0, rdL, gd_nat [] hx, Option.bind_some]
    refine ev_pos (by omega) (ev_pos (by omega) (Ev.bind (toIntS x (by omega)) (ev_pos (by omega) ?_)))
    rw [w64 (x := (n : Int) + 1) (by omega) (by omega)]
    exact h
theorem eqIntS_l0 (l : List Int) (hl : l.length ≤ 35184372088832) : ∀ (d n : Nat), n + d = l.length → Ev (fun k => laws_eqIntS.l0 k l l (n : Int)) true := by
  intro d
  induction d with
  | zero =>
    intro n hn
    refine ev_end fun k => ?_
    simp only [laws_eqIntS.l0]
    rw [if_neg (by omega)]
  | succ d ih =>
    intro n hn
    refine Ev.step (fun k => ?_) (ih (n + 1) (by omega))
    simp only [laws_eqIntS.l0]
    rw [if_pos (by omega), if_pos (by omega), if_pos (by omega), if_pos trivial, w64 (by omega) (by omega)]
    rfl
theorem eqIntS (l : List Int) (hl : l.length ≤ 35184372088832) : Ev (fun k => laws_eqIntS.f k l l) true := by
  refine Ev.congr (fun k => ?_) (eqIntS_l0 l hl l.length 0 (by omega))
  unfold laws_eqIntS.f
  rw [if_pos rfl]
  rfl
theorem eqIntSS (l : List (List Int)) (hl : wt l ≤ 1048576) : Ev (fun k => laws_eqIntSS.f k l l) true := by
  have h1 : l.length ≤ wt l := by unfold wt; omega
  unfold laws_eqIntSS.f
  refine ev_pos rfl ?_
  refine ev_eq (all_loop (fun k i => laws_eqIntSS.l0 k l l i) l.length (fun _ => True) ?_ ?_ ?_ l.length 0 (by omega)) (dec_true (fun _ _ _ => trivial))
  · refine ev_succ ?_
    simp only [laws_eqIntSS.l0]
    exact ev_neg (by omega) (Ev.now _)
  · intro n r hn _ h
    refine ev_succ ?_
    have hx : l[n]? = some l[n] := List.getElem?_eq_getElem hn
    have hm := wt_mem (List.mem_of_getElem? hx)
    simp only [laws_eqIntSS.l0, rdL, gd_nat [] hx]
    refine ev_pos (by omega) (ev_pos (by omega) (ev_pos (by omega) (Ev.bind (eqIntS _ (by omega)) (ev_pos rfl ?_))))
    rw [w64 (x := (n : Int) + 1) (by omega) (by omega)]
    exact h
  · intro n hn h
    exact absurd trivial h
theorem szIntS (l : List Int) (a : Int) (h0 : 0 ≤ a) (h1 : a ≤ 1048576) (hl : l.length ≤ maxLen) : laws_szIntS.f l a = some (if a < l.length then -1 else a - l.length) := by
  unfold maxLen at hl
  unfold laws_szIntS.f
  rw [w64 (by omega) (by omega)]
  by_cases h : a < l.length
  · rw [if_pos (by omega), if_pos h]
  · rw [if_neg (by omega), if_neg h]
theorem szIntSS_l0 (l : List (List Int)) (hl : l.length ≤ 1048576) (hm : ∀ x ∈ l, x.length ≤ maxLen) : ∀ (d n : Nat) (a : Int), n + d = l.length → 0 ≤ a → a ≤ 1048576 →
    Ev (fun k => laws_szIntSS.l0 k l a (n : Int)) (if a < ((l.drop n).map List.length).sum then -1 else a - ((l.drop n).map List.length).sum) := by
  intro d
  induction d with
  | zero =>
    intro n a hn h0 h1
    obtain rfl : n = l.length := by omega
    refine ev_succ ?_
    simp only [laws_szIntSS.l0]
    refine ev_neg (by omega) (ev_of ?_)
    rw [List.drop_length, if_neg (by simp; omega)]
    simp
  | succ d ih =>
    intro n a hn h0 h1
    refine ev_succ ?_
    have hx : l[n]? = some l[n] := List.getElem?_eq_getElem (by omega)
    have d1 : l.drop n = l[n] :: l.drop (n + 1) := List.drop_eq_getElem_cons (by omega)
    have hmx := hm _ (List.mem_of_getElem? hx)
    simp only [laws_szIntSS.l0, rdL, gd_nat [] hx, szIntS l[n] a h0 h1 hmx, Option.bind_some]
    refine ev_pos (by omega) (ev_pos (by omega) ?_)
    rw [d1, List.map_cons, List.sum_cons, w64 (x := (n : Int) + 1) (by omega) (by omega)]
    by_cases h : a < l[n].length
    · rw [if_pos h]
      refine ev_pos (by omega) (ev_of ?_)
      rw [if_pos (by omega)]
    · rw [if_neg h]
      refine ev_neg (by omega) (ev_eq (ih (n + 1) (a - l[n].length) (by omega) (by omega) (by omega)) ?_)
      by_cases g : a - (l[n].length : Int) < ((l.drop (n + 1)).map List.length).sum
      · rw [if_pos g, if_pos (by omega)]
      · rw [if_neg g, if_neg (by omega)]
        omega
theorem szIntSS (l : List (List Int)) (a : Int) (h0 : 0 ≤ a) (h1 : a ≤ 1048576) (hl : l.length ≤ maxLen) (hm : ∀ x ∈ l, x.length ≤ maxLen) : Ev (fun k => laws_szIntSS.f k l a) (if a < wt l then -1 else a - wt l) := by
  unfold maxLen at hl
  unfold laws_szIntSS.f wt
  rw [w64 (by omega) (by omega)]
  by_cases h : a < l.length
  · refine ev_pos (by omega) (ev_of ?_)
    rw [if_pos (by omega)]
  · refine ev_neg (by omega) (ev_eq (szIntSS_l0 l (by omega) hm l.length 0 _ (by omega) (by omega) (by omega)) ?_)
    rw [List.drop_zero]
    by_cases g : a - (l.length : Int) < (l.map List.length).sum
    · rw [if_pos g, if_pos (by omega)]
    · rw [if_neg g, if_neg (by omega)]
      omega
theorem szTable (a : List ByteArray) (t : ByteArray) (b : List (List Int)) (c : List Int) (n : Int) (h0 : 0 ≤ n) (h1 : n ≤ 1048576) (ha : a.length ≤ maxLen) (ham : ∀ x ∈ a, x.size ≤ maxLen) (ht : t.size ≤ maxLen) (hb : b.length ≤ maxLen) (hbm : ∀ x ∈ b, x.length ≤ maxLen) (hc : c.length ≤ maxLen) :
    Ev (fun k => laws_szTable.f k a t b c n) (if n < ws a + t.size + wt b + c.length then -1 else n - ws a - t.size - wt b - c.length) := by
  unfold laws_szTable.f
  refine Ev.bind (szStringS a n h0 h1 ha ham) ?_
  unfold maxLen at ht
  by_cases h : n < ws a
  · rw [if_pos h]
    refine ev_pos (by omega) (ev_of ?_)
    rw [if_pos (by omega)]
  rw [if_neg h, w64 (x := n - (ws a : Int) - (t.size : Int)) (by omega) (by omega)]
  refine ev_neg (by omega) ?_
  by_cases g : n - (ws a : Int) < t.size
  · refine ev_pos (by omega) (ev_of ?_)
    rw [if_pos (by omega)]
  refine ev_neg (by omega) (Ev.bind (szIntSS b _ (by omega) (by omega) hb hbm) ?_)
  by_cases g2 : n - (ws a : Int) - (t.size : Int) < wt b
  · rw [if_pos g2]
    refine ev_pos (by omega) (ev_of ?_)
    rw [if_pos (by omega)]
  rw [if_neg g2, szIntS c _ (by omega) (by omega) hc]
  simp only [Option.bind_some]
  refine ev_neg (by omega) ?_
  by_cases g3 : n - (ws a : Int) - (t.size : Int) - (wt b : Int) < c.length
  · rw [if_pos g3]
    refine ev_pos (by omega) (ev_of ?_)
    rw [if_pos (by omega)]
  · rw [if_neg g3]
    refine ev_neg (by omega) (ev_of ?_)
    rw [if_neg (by omega)]
theorem toTable (a : List ByteArray) (t : ByteArray) (b : List (List Int)) (c : List Int) (ha : a.length ≤ 1048576) (hb : wt b ≤ 1048576) (hc : c.length ≤ 1048576) : Ev (fun k => laws_toTable.f k a t b c) (a, t, b, c) := by
  unfold laws_toTable.f
  exact Ev.bind (toStringS a (by omega)) (Ev.bind (toIntSS b hb) (Ev.bind (toIntS c (by omega)) (Ev.now _)))
theorem eqTable (a : List ByteArray) (t : ByteArray) (b : List (List Int)) (c : List Int) (ha : a.length ≤ 1048576) (hb : wt b ≤ 1048576) (hc : c.length ≤ 1048576) : Ev (fun k => laws_eqTable.f k a t b c a t b c) true := by
  unfold laws_eqTable.f
  exact Ev.bind (eqStringS a (by omega)) (ev_pos rfl (ev_pos rfl (Ev.bind (eqIntSS b hb) (ev_pos rfl (Ev.bind (eqIntS c (by omega)) (ev_pos rfl (Ev.now _)))))))
def bs (l : List UInt8) : ByteArray := ⟨l.toArray⟩
theorem list_bs (l : List UInt8) : (bs l).data.toList = l := rfl
theorem bs_list (s : ByteArray) : bs s.data.toList = s := by
  obtain ⟨⟨l⟩⟩ := s
  rfl
theorem bs_size (l : List UInt8) : (bs l).size = l.length := by
  unfold bs ByteArray.size
  simp
theorem bs_inj {a b : List UInt8} (h : bs a = bs b) : a = b := by
  rw [← list_bs a, h, list_bs]
theorem ba_ext {a b : ByteArray} (h : a.data.toList = b.data.toList) : a = b := by rw [← bs_list a, h, bs_list]
theorem ba_append (a b : ByteArray) : (a ++ b).data.toList = a.data.toList ++ b.data.toList := by
  rw [ByteArray.data_append, Array.toList_append]
theorem bs_append (a b : List UInt8) : bs a ++ bs b = bs (a ++ b) := ba_ext (by rw [ba_append]; rfl)
theorem strOfNums_bs (xs : List Int) : strOfNums xs = bs (xs.map fun n => UInt8.ofNat n.toNat) := rfl
def nm (l : List UInt8) : List Int := l.map fun b => (b.toNat : Int)
theorem bytesOf_nm (s : ByteArray) : bytesOf s = nm s.data.toList := rfl
theorem nm_append (a b : List UInt8) : nm (a ++ b) = nm a ++ nm b := List.map_append
theorem nm_length (a : List UInt8) : (nm a).length = a.length := List.length_map ..
theorem strOfNums_nm (l : List UInt8) : strOfNums (nm l) = bs l := by
  rw [strOfNums_bs]
  congr 1
  unfold nm
  rw [List.map_map]
  conv => rhs; rw [← List.map_id l]
  refine List.map_congr_left fun b _ => ?_
  simp
theorem bt_list (s : ByteArray) (n : Nat) : bt s (n : Int) = ((s.data.toList.getD n 0).toNat : Int) := by
  unfold bt
  rw [List.getD_eq_getElem?_getD]
  by_cases h : n < s.size
  · rw [dif_pos (by rw [Int.toNat_natCast]; exact h)]
    have h' : n < s.data.toList.length := by rw [data_length]; exact h
    rw [List.getElem?_eq_getElem h']
    simp
    rfl
  · rw [dif_neg (by rw [Int.toNat_natCast]; exact h)]
    have h' : s.data.toList.length ≤ n := by rw [data_length]; omega
    rw [List.getElem?_eq_none h']
    rfl
theorem bt_get {s : ByteArray} {n : Nat} {b : UInt8} (h : s.data.toList[n]? = some b) : bt s (n : Int) = (b.toNat : Int) := by
  rw [bt_list, List.getD_eq_getElem?_getD, h]
  rfl
theorem u8_eq {b : UInt8} {n : Nat} (h : n < 256) : ((b.toNat : Int) = (n : Int)) ↔ b = UInt8.ofNat n := by
  constructor
  · intro e
    apply UInt8.toNat_inj.1
    rw [UInt8.toNat_ofNat']
    omega
  · rintro rfl
    rw [UInt8.toNat_ofNat']
    omega
/-- A byte that ends a plain field. -/
def csvSp (b : UInt8) : Bool := b == 44 || b == 34 || b == 10 || b == 13
/-- Behind a field's opening quote: the field, and what stands behind its closing quote. -/
def csvQ : List UInt8 → Option (List UInt8 × List UInt8)
  | [] => none
  | b :: r => if b = 34 then (match r with
      | [] => some ([], [])
      | c :: r' => if c = 34 then (csvQ r').map (fun p => (34 :: p.1, p.2)) else some ([], c :: r'))
    else (csvQ r).map (fun p => (b :: p.1, p.2))
def csvPlain (l : List UInt8) : List UInt8 × List UInt8 := (l.takeWhile (fun b => !csvSp b), l.dropWhile (fun b => !csvSp b))
def csvField : List UInt8 → Option (List UInt8 × List UInt8)
  | [] => some ([], [])
  | b :: r => if b = 34 then csvQ r else some (csvPlain (b :: r))
/-- Behind a field: is the row at its end, and what stands behind; none: that may not stand there. -/
def csvAfter : List UInt8 → Option (Bool × List UInt8)
  | [] => some (true, [])
  | b :: r => if b = 44 then some (false, r) else if b = 10 then some (true, r) else if b = 13 then (match r with
      | [] => none
      | c :: r' => if c = 10 then some (true, r') else none)
    else none
def csvGo : Nat → List UInt8 → List (List ByteArray) → List ByteArray → List (List ByteArray) × Int × Int × Int
  | 0, _, rows, _ => (rows, 0, 0, 0)
  | k + 1, l, rows, row => if l = [] ∧ row = [] then (rows, 0, 0, 0) else
    match csvField l with
    | none => ([], 2, rows.length, row.length)
    | some (f, l1) => match csvAfter l1 with
      | none => ([], 2, rows.length, row.length)
      | some (false, l2) => csvGo k l2 rows (row ++ [⟨f.toArray⟩])
      | some (true, l2) => csvGo k l2 (rows ++ [row ++ [⟨f.toArray⟩]]) []
noncomputable def readCsv (s : ByteArray) : List (List ByteArray) × Int × Int × Int := if s.size > 4000 then ([], 1, 0, 0) else csvGo (2 * s.size + 2) s.data.toList [] []
theorem csvQ_length : ∀ (n : Nat) (l f r : List UInt8), l.length ≤ n → csvQ l = some (f, r) → f.length + r.length < l.length := by
  intro n
  induction n with
  | zero =>
    intro l f r hl h
    obtain rfl := List.length_eq_zero_iff.mp (Nat.le_zero.mp hl)
    cases h
  | succ n ih =>
    intro l f r hl h
    cases l with
    | nil => cases h
    | cons b l =>
      rw [List.length_cons] at hl
      unfold csvQ at h
      by_cases hb : b = 34
      · rw [if_pos hb] at h
        cases l with
        | nil =>
          obtain ⟨rfl, rfl⟩ := Prod.mk.inj (Option.some.inj h)
          simp
        | cons c l =>
          rw [List.length_cons] at hl
          simp only at h
          by_cases hc : c = 34
          · rw [if_pos hc] at h
            cases e : csvQ l with
            | none => rw [e] at h; cases h
            | some p =>
              rw [e] at h
              obtain ⟨rfl, rfl⟩ := Prod.mk.inj (Option.some.inj h)
              have := ih l p.1 p.2 (by omega) (by rw [e])
              simp only [List.length_cons]
              omega
          · rw [if_neg hc] at h
            obtain ⟨rfl, rfl⟩ := Prod.mk.inj (Option.some.inj h)
            simp only [List.length_cons, List.length_nil]
            omega
      · rw [if_neg hb] at h
        cases e : csvQ l with
        | none => rw [e] at h; cases h
        | some p =>
          rw [e] at h
          obtain ⟨rfl, rfl⟩ := Prod.mk.inj (Option.some.inj h)
          have := ih l p.1 p.2 (by omega) (by rw [e])
          simp only [List.length_cons]
          omega
theorem csvPlain_length (l : List UInt8) : (csvPlain l).1.length + (csvPlain l).2.length = l.length := by
  unfold csvPlain
  rw [← List.length_append, List.takeWhile_append_dropWhile]
theorem csvField_length {l f r : List UInt8} (h : csvField l = some (f, r)) : f.length + r.length ≤ l.length := by
  cases l with
  | nil =>
    obtain ⟨rfl, rfl⟩ := Prod.mk.inj (Option.some.inj h)
    simp
  | cons b l =>
    unfold csvField at h
    simp only at h
    by_cases hb : b = 34
    · rw [if_pos hb] at h
      have := csvQ_length l.length l f r (Nat.le_refl _) h
      rw [List.length_cons]
      omega
    · rw [if_neg hb] at h
      have e := csvPlain_length (b :: l)
      rw [Option.some.inj h] at e
      exact Nat.le_of_eq e
theorem csvAfter_length {l r : List UInt8} {z : Bool} (h : csvAfter l = some (z, r)) : r.length ≤ l.length ∧ (l ≠ [] → r.length < l.length) ∧ (z = false → r.length < l.length) := by
  cases l with
  | nil =>
    obtain ⟨rfl, rfl⟩ := Prod.mk.inj (Option.some.inj h)
    simp
  | cons b l =>
    unfold csvAfter at h
    simp only at h
    have key : r.length < (b :: l).length := by
      by_cases h1 : b = 44
      · rw [if_pos h1] at h
        obtain ⟨rfl, rfl⟩ := Prod.mk.inj (Option.some.inj h)
        simp
      rw [if_neg h1] at h
      by_cases h2 : b = 10
      · rw [if_pos h2] at h
        obtain ⟨rfl, rfl⟩ := Prod.mk.inj (Option.some.inj h)
        simp
      rw [if_neg h2] at h
      by_cases h3 : b = 13
      · rw [if_pos h3] at h
        cases l with
        | nil => cases h
        | cons c l =>
          simp only at h
          by_cases h4 : c = 10
          · rw [if_pos h4] at h
            obtain ⟨rfl, rfl⟩ := Prod.mk.inj (Option.some.inj h)
            simp only [List.length_cons]
            omega
          · rw [if_neg h4] at h; cases h
      · rw [if_neg h3] at h; cases h
    exact ⟨Nat.le_of_lt key, fun _ => key, fun _ => key⟩
theorem csvField_cons {l f : List UInt8} (h : csvField l = some (f, l)) (hl : l ≠ []) : f = [] ∧ ∃ b r, l = b :: r ∧ csvSp b = true := by
  cases l with
  | nil => exact absurd rfl hl
  | cons b l =>
    unfold csvField at h
    simp only at h
    by_cases hb : b = 34
    · rw [if_pos hb] at h
      have := csvQ_length l.length l f _ (Nat.le_refl _) h
      rw [List.length_cons] at this
      omega
    · rw [if_neg hb] at h
      have h := Option.some.inj h
      unfold csvPlain at h
      by_cases hs : csvSp b = true
      · rw [List.takeWhile_cons_of_neg (by simp [hs])] at h
        exact ⟨(Prod.mk.inj h).1.symm, b, l, rfl, hs⟩
      · rw [List.takeWhile_cons_of_pos (by simp [hs]), List.dropWhile_cons_of_pos (by simp [hs])] at h
        have e := congrArg List.length (Prod.mk.inj h).2
        have := (List.dropWhile_sublist (l := l) (fun b => !csvSp b)).length_le
        rw [List.length_cons] at e
        omega
/-- What is left of a reading. -/
def csvLeft (l : List UInt8) (row : List ByteArray) : Nat := 2 * l.length + if row = [] then 0 else 1
theorem csvLeft_more {l f l1 l2 : List UInt8} {row : List ByteArray} {x : ByteArray} (hf : csvField l = some (f, l1)) (ha : csvAfter l1 = some (false, l2)) : csvLeft l2 (row ++ [x]) < csvLeft l row := by
  have a := csvField_length hf
  have b := (csvAfter_length ha).2.2 rfl
  unfold csvLeft
  rw [if_neg (by simp)]
  split <;> omega
theorem csvLeft_end {l f l1 l2 : List UInt8} {row : List ByteArray} (hr : ¬ (l = [] ∧ row = [])) (hf : csvField l = some (f, l1)) (ha : csvAfter l1 = some (true, l2)) : csvLeft l2 [] < csvLeft l row := by
  have a := csvField_length hf
  have b := csvAfter_length ha
  unfold csvLeft
  rw [if_pos rfl]
  by_cases hl : l = []
  · subst hl
    rw [List.length_nil] at a
    have : l1 = [] := List.length_eq_zero_iff.mp (by omega)
    subst this
    rw [if_neg (fun h => hr ⟨rfl, h⟩)]
    have b1 := b.1
    rw [List.length_nil] at b1 ⊢
    omega
  · have h0 : 0 < l.length := List.length_pos_iff.mpr hl
    by_cases h1 : l1 = []
    · subst h1
      have b1 := b.1
      rw [List.length_nil] at b1
      split <;> omega
    · have := b.2.1 h1
      split <;> omega
/-- A text that stands in a row as it is. -/
def PlainF (s : ByteArray) : Prop := ∀ b ∈ s.data.toList, csvSp b = false ∧ b.toNat < 128
theorem PlainF.at {s : ByteArray} (h : PlainF s) {n : Nat} {b : UInt8} (hb : s.data.toList[n]? = some b) : b ≠ 44 ∧ b ≠ 34 ∧ b ≠ 10 ∧ b ≠ 13 ∧ b.toNat < 128 := by
  obtain ⟨h1, h2⟩ := h b (List.mem_of_getElem? hb)
  unfold csvSp at h1
  simp only [Bool.or_eq_false_iff, beq_eq_false_iff_ne] at h1
  exact ⟨h1.1.1.1, h1.1.1.2, h1.1.2, h1.2, h2⟩
/-- The fields of a row, a comma between; z: is it the first. -/
def joinF : Bool → List ByteArray → List UInt8
  | _, [] => []
  | z, f :: r => (if z = true then [] else [44]) ++ f.data.toList ++ joinF false r
def rowText (row : List ByteArray) : List UInt8 := joinF true row ++ [10]
def csvText (rows : List (List ByteArray)) : List UInt8 := (rows.map rowText).flatten
theorem ofNat_toNat {n : Nat} (h : n < 256) : (UInt8.ofNat n).toNat = n := by
  rw [UInt8.toNat_ofNat']; omega
theorem digitVal_dg {d : Nat} (h : d < 10) : Lib.digitVal (UInt8.ofNat (48 + d)) = some d := by
  unfold Lib.digitVal
  rw [ofNat_toNat (by omega), if_pos (by omega)]
  congr 1
  omega
theorem digitVal_some {b : UInt8} {d : Nat} (h : Lib.digitVal b = some d) : b = UInt8.ofNat (48 + d) ∧ d < 10 ∧ b.toNat = 48 + d := by
  unfold Lib.digitVal at h
  split at h
  · rename_i g
    have e : b.toNat - 48 = d := Option.some.inj h
    refine ⟨?_, by omega, by omega⟩
    apply UInt8.toNat_inj.1
    rw [ofNat_toNat (by omega)]
    omega
  · cases h
theorem decFrom_append (b : List UInt8) : ∀ (a : List UInt8) (acc : Nat), Lib.decFrom acc (a ++ b) = (Lib.decFrom acc a).bind fun n => Lib.decFrom n b
  | [], acc => rfl
  | x :: a, acc => by
    rw [List.cons_append]
    simp only [Lib.decFrom]
    cases Lib.digitVal x with
    | none => rfl
    | some d => exact decFrom_append b a _
theorem decFrom_one (acc d : Nat) (h : d < 10) : Lib.decFrom acc [UInt8.ofNat (48 + d)] = some (acc * 10 + d) := by
  simp only [Lib.decFrom, digitVal_dg h]
theorem decDigits_big {u : Nat} (h : ¬ u < 10) : Lib.decDigits u = Lib.decDigits (u / 10) ++ [UInt8.ofNat (48 + u % 10)] := by
  rw [Lib.decDigits, dif_neg h]
theorem decFrom_decDigits (u : Nat) : Lib.decFrom 0 (Lib.decDigits u) = some u := by
  induction u using Nat.strongRecOn with
  | _ u ih =>
    by_cases h : u < 10
    · rw [Lib.decDigits_one h, decFrom_one 0 u h]
      congr 1
      omega
    · rw [decDigits_big h, decFrom_append, ih (u / 10) (by omega)]
      show Lib.decFrom (u / 10) _ = _
      rw [decFrom_one _ _ (by omega)]
      congr 1
      omega
theorem decDigits_ne (u : Nat) : Lib.decDigits u ≠ [] := by
  intro h
  have := Lib.decDigits_length u
  have := Lib.nDigits_pos u
  rw [h] at *
  simp only [List.length_nil] at *
  omega
theorem decFrom_mono : ∀ (l : List UInt8) (acc n : Nat), Lib.decFrom acc l = some n → acc ≤ n
  | [], acc, n, h => by
    have := Option.some.inj h
    omega
  | b :: l, acc, n, h => by
    simp only [Lib.decFrom] at h
    cases e : Lib.digitVal b with
    | none => rw [e] at h; cases h
    | some d =>
      rw [e] at h
      have := decFrom_mono l _ n h
      omega
/-- Digits with no zero ahead are those of their number. -/
theorem decDigits_of : ∀ (k : Nat) (l : List UInt8) (u : Nat), l.length = k → Lib.decFrom 0 l = some u → l ≠ [] → (2 ≤ l.length → l.head? ≠ some 48) → Lib.decDigits u = l := by
  intro k
  induction k with
  | zero => intro l u hk _ hne _; exact absurd (List.length_eq_zero_iff.mp hk) hne
  | succ k ih =>
    intro l u hk h hne h0
    obtain ⟨a, c, rfl⟩ : ∃ a c, l = a ++ [c] := ⟨l.dropLast, l.getLast hne, (List.dropLast_concat_getLast hne).symm⟩
    rw [List.length_append, List.length_singleton] at hk
    rw [decFrom_append] at h
    cases e : Lib.decFrom 0 a with
    | none => rw [e] at h; cases h
    | some v =>
      rw [e] at h
      have h : Lib.decFrom v [c] = some u := h
      simp only [Lib.decFrom] at h
      cases ec : Lib.digitVal c with
      | none => rw [ec] at h; cases h
      | some d =>
        rw [ec] at h
        have hu : v * 10 + d = u := Option.some.inj h
        obtain ⟨hc, hd, _⟩ := digitVal_some ec
        by_cases ha : a = []
        · subst ha
          have hv : 0 = v := Option.some.inj e
          rw [List.nil_append, hc, Lib.decDigits_one (by omega)]
          congr 2
          omega
        · have hlen : 1 ≤ a.length := List.length_pos_iff.mpr ha
          have hh : (a ++ [c]).head? = a.head? := by cases a with
            | nil => exact absurd rfl ha
            | cons _ _ => rfl
          rw [hh, List.length_append, List.length_singleton] at h0
          have h0 := h0 (by omega)
          have ea := ih a v (by omega) e ha (fun _ => h0)
          have hv : 1 ≤ v := by
            cases a with
            | nil => exact absurd rfl ha
            | cons x a =>
              simp only [Lib.decFrom] at e
              cases ex : Lib.digitVal x with
              | none => rw [ex] at e; cases e
              | some y =>
                rw [ex] at e
                have m := decFrom_mono a _ v e
                obtain ⟨hx, _, _⟩ := digitVal_some ex
                by_cases y0 : y = 0
                · subst y0
                  exact absurd (by rw [hx]; rfl) h0
                · omega
          rw [decDigits_big (by omega), hc]
          have e1 : u / 10 = v := by omega
          have e2 : u % 10 = d := by omega
          rw [e1, e2, ea]
theorem decDigits_head (u : Nat) (h : 10 ≤ u) : (Lib.decDigits u).head? ≠ some 48 := by
  induction u using Nat.strongRecOn with
  | _ u ih =>
    rw [decDigits_big (by omega)]
    by_cases h1 : u / 10 < 10
    · rw [Lib.decDigits_one h1]
      intro e
      have e : UInt8.ofNat (48 + u / 10) = 48 := Option.some.inj e
      have e := congrArg UInt8.toNat e
      rw [ofNat_toNat (by omega)] at e
      have e : 48 + u / 10 = 48 := e
      omega
    · have := ih (u / 10) (by omega) (by omega)
      cases hd : Lib.decDigits (u / 10) with
      | nil => exact absurd hd (decDigits_ne _)
      | cons x y => rw [hd] at this; exact this
theorem decDigits_digit {u : Nat} {b : UInt8} (h : b ∈ Lib.decDigits u) : 48 ≤ b.toNat ∧ b.toNat ≤ 57 := by
  obtain ⟨k, hk⟩ := List.mem_iff_getElem?.mp h
  obtain ⟨d, hd⟩ := Lib.digit_of_decFrom _ _ _ (decFrom_decDigits u) k b hk
  have := digitVal_some hd
  omega
theorem itoa_nat (u : Nat) : Lib.itoa (u : Int) = Lib.decDigits u := by
  unfold Lib.itoa
  rw [if_neg (by omega), Int.toNat_natCast]
theorem itoa_inj {a b : Int} (h : Lib.itoa a = Lib.itoa b) : a = b := by
  have d45 : ∀ u, ∀ r, Lib.decDigits u ≠ 45 :: r := fun u r e => by
    have := decDigits_digit (u := u) (b := 45) (by rw [e]; exact List.mem_cons_self ..)
    have : (45 : UInt8).toNat = 45 := rfl
    omega
  unfold Lib.itoa at h
  by_cases ha : a < 0
  · rw [if_pos ha] at h
    by_cases hb : b < 0
    · rw [if_pos hb] at h
      have e := congrArg (Lib.decFrom 0) (List.cons.inj h).2
      rw [decFrom_decDigits, decFrom_decDigits] at e
      have := Option.some.inj e
      omega
    · rw [if_neg hb] at h
      exact absurd h.symm (d45 _ _)
  · rw [if_neg ha] at h
    by_cases hb : b < 0
    · rw [if_pos hb] at h
      exact absurd h (d45 _ _)
    · rw [if_neg hb] at h
      have e := congrArg (Lib.decFrom 0) h
      rw [decFrom_decDigits, decFrom_decDigits] at e
      have := Option.some.inj e
      omega
/-- What the library's Atoi makes of a number's own text. -/
theorem parseUint10_dec : ∀ (l : List UInt8) (acc n : Nat), Lib.decFrom acc l = some n → n < 18446744073709551616 → Lib.parseUint10 acc l = .ok n
  | [], acc, n, h, _ => by
    have := Option.some.inj h
    subst this
    rfl
  | b :: l, acc, n, h, hn => by
    simp only [Lib.decFrom] at h
    cases e : Lib.digitVal b with
    | none => rw [e] at h; cases h
    | some d =>
      rw [e] at h
      have m := decFrom_mono l _ n h
      obtain ⟨_, hd, ht⟩ := digitVal_some e
      simp only [Lib.parseUint10]
      have ed : b.toNat - 48 = d := by omega
      rw [if_pos (by omega), if_neg (by omega), if_neg (by omega), ed]
      exact parseUint10_dec l _ n h hn
theorem atoiAll_itoa {n : Int} (h0 : -9223372036854775808 ≤ n) (h1 : n ≤ 9223372036854775807) : Lib.atoiAll (Lib.itoa n) = .ok n := by
  unfold Lib.itoa
  by_cases h : n < 0
  · rw [if_pos h, Lib.atoiAll_minus]
    unfold Lib.parseMag
    rw [if_neg (decDigits_ne _), parseUint10_dec _ _ _ (decFrom_decDigits _) (by omega)]
    show (if 9223372036854775808 < n.natAbs then Lib.NumEnd.range else .ok (-(n.natAbs : Int))) = _
    rw [if_neg (by omega)]
    congr 1
    omega
  · rw [if_neg h]
    cases hd : Lib.decDigits n.toNat with
    | nil => exact absurd hd (decDigits_ne _)
    | cons c r =>
      have hc := decDigits_digit (u := n.toNat) (b := c) (by rw [hd]; exact List.mem_cons_self ..)
      rw [Lib.atoiAll_plain c r (by omega) (by omega), ← hd]
      unfold Lib.parseMag
      rw [if_neg (decDigits_ne _), parseUint10_dec _ _ _ (decFrom_decDigits _) (by omega)]
      show (if 9223372036854775808 ≤ n.toNat then Lib.NumEnd.range else .ok (n.toNat : Int)) = _
      rw [if_neg (by omega)]
      congr 1
      omega
def Deci (x : Int) : Prop := -2147483647 ≤ x ∧ x ≤ 2147483647
/-- Cut points that are valid. -/
def CutsP (c : List Int) : Prop := (∀ j : Nat, 0 ≤ j → j < c.length → Deci (rd c (j : Int)) ∧ (0 < j → rd c ((j : Int) - 1) < rd c (j : Int))) ∧ c.length ≤ 7
/-- The three digits behind the point. -/
def three (r : Nat) : List UInt8 := [UInt8.ofNat (48 + r / 100), UInt8.ofNat (48 + r / 10 % 10), UInt8.ofNat (48 + r % 10)]
/-- A decimal's text. -/
def fixT (n : Int) : List UInt8 := (if n < 0 then [45] else []) ++ Lib.decDigits (n.natAbs / 1000) ++ (if n.natAbs % 1000 = 0 then [] else 46 :: Lib.trimRightB (three (n.natAbs % 1000)) 48)
theorem trim_snoc (a : List UInt8) (c : UInt8) : Lib.trimRightB (a ++ [c]) 48 = if c = 48 then Lib.trimRightB a 48 else a ++ [c] := by
  unfold Lib.trimRightB
  rw [List.reverse_append, List.reverse_singleton, List.singleton_append]
  by_cases h : c = 48
  · rw [if_pos h, List.dropWhile_cons_of_pos (by simp [h])]
  · rw [if_neg h, List.dropWhile_cons_of_neg (by simp [h]), List.reverse_cons, List.reverse_reverse]
theorem trim_len (a : List UInt8) : (Lib.trimRightB a 48).length ≤ a.length := by
  unfold Lib.trimRightB
  rw [List.length_reverse]
  have := (List.dropWhile_sublist (l := a.reverse) (fun x => x == 48)).length_le
  rwa [List.length_reverse] at this
theorem fixT_length {n : Int} (h : Deci n) : (fixT n).length ≤ 40 := by
  unfold Deci at h
  have h1 : (if n < 0 then ([45] : List UInt8) else []).length ≤ 1 := by split <;> simp
  have h2 : (Lib.decDigits (n.natAbs / 1000)).length ≤ 20 := by rw [Lib.decDigits_length]; exact Lib.nDigits_le20 _ (by omega)
  have h3 : (if n.natAbs % 1000 = 0 then ([] : List UInt8) else 46 :: Lib.trimRightB (three (n.natAbs % 1000)) 48).length ≤ 4 := by
    split
    · simp
    · have := trim_len (three (n.natAbs % 1000))
      have e : (three (n.natAbs % 1000)).length = 3 := rfl
      rw [List.length_cons]
      omega
  unfold fixT
  rw [List.length_append, List.length_append]
  omega
theorem three_thousand {r : Nat} (h : r < 1000) : Lib.decDigits (1000 + r) = 49 :: three r := by
  rw [decDigits_big (by omega), decDigits_big (by omega), decDigits_big (by omega), Lib.decDigits_one (by omega)]
  unfold three
  have e1 : (1000 + r) / 10 / 10 / 10 = 1 := by omega
  have e2 : (1000 + r) / 10 / 10 % 10 = r / 100 := by omega
  have e3 : (1000 + r) / 10 % 10 = r / 10 % 10 := by omega
  have e4 : (1000 + r) % 10 = r % 10 := by omega
  rw [e1, e2, e3, e4]
  rfl
def Letter (c : Int) : Prop := 97 ≤ c ∧ c ≤ 122
def Figure (c : Int) : Prop := 48 ≤ c ∧ c ≤ 57
/-- From place n on each byte is a letter or a figure. -/
def NameFrom (s : ByteArray) (n : Nat) : Prop := ∀ j : Nat, n ≤ j → j < s.size → Letter (bt s (j : Int)) ∨ Figure (bt s (j : Int))
def IsName (s : ByteArray) : Prop := 1 ≤ s.size ∧ s.size ≤ 12 ∧ Letter (bt s 0) ∧ NameFrom s 0
theorem NameFrom.step {s : ByteArray} {n : Nat} (h : n < s.size) : NameFrom s n ↔ (Letter (bt s (n : Int)) ∨ Figure (bt s (n : Int))) ∧ NameFrom s (n + 1) := by
  constructor
  · exact fun g => ⟨g n (Nat.le_refl _) h, fun j hj => g j (by omega)⟩
  · intro ⟨g0, g⟩ j hj hlt
    by_cases e : j = n
    · subst e; exact g0
    · exact g j (by omega) hlt
theorem NameFrom.stop {s : ByteArray} : NameFrom s s.size := fun j h1 h2 => by omega
theorem specIn (a b c : Int) : spec_l1In.f a b c = some (decide (b ≤ a ∧ a ≤ c)) := by
  unfold spec_l1In.f
  by_cases h : b ≤ a
  · rw [if_pos h]; simp [h]
  · rw [if_neg h]; simp [h]
theorem specNameOk_l0 (s : ByteArray) (hl : s.size ≤ 140737488351232) : ∀ (d n : Nat), n + d = s.size → Ev (fun k => spec_NameOk.l0 k s (n : Int)) (dec (NameFrom s n)) := by
  intro d
  induction d with
  | zero =>
    intro n hn
    refine ev_end fun k => ?_
    simp only [spec_NameOk.l0]
    obtain rfl : n = s.size := by omega
    rw [if_neg (by omega), dec_true NameFrom.stop]
  | succ d ih =>
    intro n hn
    have hs := NameFrom.step (s := s) (n := n) (by omega)
    have hb := bt_range s (n : Int)
    by_cases h1 : Letter (bt s (n : Int))
    · have e : dec (NameFrom s n) = dec (NameFrom s (n + 1)) := dec_congr (by rw [hs]; exact ⟨fun g => g.2, fun g => ⟨.inl h1, g⟩⟩)
      rw [e]
      refine Ev.step (fun k => ?_) (ih (n + 1) (by omega))
      simp only [spec_NameOk.l0, specIn, Option.bind_some]
      unfold Letter at h1
      rw [if_pos (by omega), if_pos (by omega), w64 (x := bt s (n : Int)) (by omega) (by omega), if_pos (by simpa using h1), w64 (by omega) (by omega)]
      rfl
    · by_cases h2 : Figure (bt s (n : Int))
      · have e : dec (NameFrom s n) = dec (NameFrom s (n + 1)) := dec_congr (by rw [hs]; exact ⟨fun g => g.2, fun g => ⟨.inr h2, g⟩⟩)
        rw [e]
        refine Ev.step (fun k => ?_) (ih (n + 1) (by omega))
        simp only [spec_NameOk.l0, specIn, Option.bind_some]
        unfold Letter at h1
        unfold Figure at h2
        rw [if_pos (by omega), if_pos (by omega), w64 (x := bt s (n : Int)) (by omega) (by omega), if_neg (by simpa using h1), if_pos (by simpa using h2), w64 (by omega) (by omega)]
        rfl
      · refine ev_end fun k => ?_
        simp only [spec_NameOk.l0, specIn, Option.bind_some]
        have e : dec (NameFrom s n) = false := dec_false (by rw [hs]; exact fun g => g.1.elim h1 h2)
        unfold Letter at h1
        unfold Figure at h2
        rw [if_pos (by omega), if_pos (by omega), w64 (x := bt s (n : Int)) (by omega) (by omega), if_neg (by simpa using h1), if_neg (by simpa using h2), e]
theorem specNameOk (s : ByteArray) (hl : s.size ≤ 140737488351232) : Ev (fun k => spec_NameOk.f k s) (dec (IsName s)) := by
  unfold spec_NameOk.f
  simp only [specIn, Option.bind_some]
  have hb := bt_range s 0
  by_cases h1 : 1 ≤ s.size ∧ s.size ≤ 12
  · refine ev_pos (by simp; omega) (ev_pos (by omega) ?_)
    by_cases h2 : bt s 0 < 97
    · refine ev_end fun k => ?_
      simp only [spec_NameOk.j0]
      rw [if_pos (by simpa using h2), dec_false]
      intro g; have := g.2.2.1; unfold Letter at this; omega
    · have e : dec (IsName s) = dec (NameFrom s 0) := dec_congr ⟨fun g => g.2.2.2, fun g => ⟨h1.1, h1.2, (g 0 (by omega) (by omega)).elim (fun z => z) (fun z => by unfold Figure at z; simp only [Int.natCast_zero] at z; omega), g⟩⟩
      rw [e]
      refine Ev.step (fun k => ?_) (specNameOk_l0 s hl s.size 0 (by omega))
      simp only [spec_NameOk.j0]
      rw [if_neg (by simpa using h2)]
      rfl
  · refine ev_neg (by simp; omega) (ev_end fun k => ?_)
    simp only [spec_NameOk.j0]
    rw [if_pos trivial, dec_false]
    intro g; exact h1 ⟨g.1, g.2.1⟩
def sAt (l : List ByteArray) (j : Nat) : ByteArray := rdOf ByteArray.empty l (j : Int)
theorem sAt_size {l : List ByteArray} {m : Nat} (h : ∀ x ∈ l, x.size ≤ m) (j : Nat) : (sAt l j).size ≤ m := by
  unfold sAt
  rw [rdOfn, List.getD_eq_getElem?_getD]
  by_cases hj : j < l.length
  · rw [List.getElem?_eq_getElem hj]
    exact h _ (List.getElem_mem hj)
  · rw [List.getElem?_eq_none (by omega)]
    exact Nat.zero_le _
theorem sAt_take (l : List ByteArray) {n j : Nat} (h : j < n) : sAt (l.take n) j = sAt l j := by
  unfold sAt
  rw [rdOfn, rdOfn, List.getD_eq_getElem?_getD, List.getD_eq_getElem?_getD, List.getElem?_take, if_pos h]
theorem sAt_app_lt (l : List ByteArray) (t : ByteArray) {j : Nat} (h : j < l.length) : sAt (l ++ [t]) j = sAt l j := by
  unfold sAt
  rw [rdOfn, rdOfn, List.getD_eq_getElem?_getD, List.getD_eq_getElem?_getD, List.getElem?_append_left h]
theorem sAt_app_eq (l : List ByteArray) (t : ByteArray) : sAt (l ++ [t]) l.length = t := by
  unfold sAt
  rw [rdOfn, List.getD_eq_getElem?_getD, List.getElem?_append_right (Nat.le_refl _), Nat.sub_self]
  rfl
def HasP (l : List ByteArray) (n : Nat) (s : ByteArray) : Prop := ∃ j, j < n ∧ (sAt l j).toList = s.toList
theorem hasP_take (l : List ByteArray) {n : Nat} (h : n ≤ l.length) (s : ByteArray) : HasP (l.take n) (l.take n).length s ↔ HasP l n s := by
  have e : (l.take n).length = n := by rw [List.length_take]; omega
  unfold HasP
  rw [e]
  exact ⟨fun ⟨j, a, b⟩ => ⟨j, a, by rw [sAt_take l a] at b; exact b⟩, fun ⟨j, a, b⟩ => ⟨j, a, by rw [sAt_take l a]; exact b⟩⟩
theorem specHas_l0 (l : List ByteArray) (s : ByteArray) (hl : l.length ≤ 1048576) : ∀ (d n : Nat), n + d = l.length → Ev (fun k => spec_l9Has.l0 k l s (n : Int)) (dec (∃ j, n ≤ j ∧ j < l.length ∧ (sAt l j).toList = s.toList)) := by
  intro d
  induction d with
  | zero =>
    intro n hn
    refine ev_succ ?_
    simp only [spec_l9Has.l0]
    exact ev_neg (by omega) (ev_eq (Ev.now _) (dec_false (fun ⟨j, a, b, _⟩ => by omega)).symm)
  | succ d ih =>
    intro n hn
    refine ev_succ ?_
    simp only [spec_l9Has.l0]
    refine ev_pos (by omega) (ev_pos (by omega) ?_)
    by_cases h : (sAt l n).toList = s.toList
    · exact ev_pos h (ev_eq (Ev.now _) (dec_true ⟨n, Nat.le_refl _, by omega, h⟩).symm)
    · refine ev_neg h ?_
      rw [w64 (x := (n : Int) + 1) (by omega) (by omega)]
      refine ev_eq (ih (n + 1) (by omega)) (dec_congr ⟨fun ⟨j, a, b, c⟩ => ⟨j, by omega, b, c⟩, fun ⟨j, a, b, c⟩ => ⟨j, ?_, b, c⟩⟩)
      by_cases e : j = n
      · exact absurd (e ▸ c) h
      · omega
theorem specHas (l : List ByteArray) (s : ByteArray) (hl : l.length ≤ 1048576) : Ev (fun k => spec_l9Has.f k l s) (dec (HasP l l.length s)) := by
  unfold spec_l9Has.f
  exact ev_eq (specHas_l0 l s hl l.length 0 (by omega)) (dec_congr ⟨fun ⟨j, _, b, c⟩ => ⟨j, b, c⟩, fun ⟨j, b, c⟩ => ⟨j, Nat.zero_le _, b, c⟩⟩)
def NameAt (l : List ByteArray) (j : Nat) : Prop := IsName (sAt l j) ∧ ¬ HasP l j (sAt l j)
theorem specVal (x : Int) : spec_l6Value.f x = some (decide (-2147483647 ≤ x ∧ x ≤ 2147483647)) := by
  unfold spec_l6Value.f
  rw [specIn]; rfl
theorem deciT {x : Int} (h : Deci x) : decide (-2147483647 ≤ x ∧ x ≤ 2147483647) = true := decide_eq_true h
theorem deciF {x : Int} (h : ¬ Deci x) : decide (-2147483647 ≤ x ∧ x ≤ 2147483647) = false := decide_eq_false h
def RowT (m : Nat) (R : List (List Int)) (Y : List Int) (j : Nat) : Prop := ((R.getD j []).length : Int) = (m : Int) ∧ Deci (rd Y (j : Int)) ∧ ∀ i : Nat, 0 ≤ i → i < m → Deci (rd (R.getD j []) (i : Int))
theorem specRows (L : List ByteArray) (t : ByteArray) (R : List (List Int)) (Y : List Int) (m : Nat) (hm : m ≤ 1048576) (hR : R.length ≤ 1048576) (hY : Y.length = R.length) : ∀ (d n : Nat), n + d = R.length → Ev (fun k => spec_TableOk.l1 k (m : Int) (n : Int) L t R Y) (dec (∀ j, n ≤ j → j < R.length → RowT m R Y j)) := by
  intro d
  induction d with
  | zero =>
    intro n hn
    refine ev_succ ?_
    simp only [spec_TableOk.l1]
    exact ev_neg (by omega) (ev_eq (Ev.now _) (dec_true (fun j h1 h2 => by omega)).symm)
  | succ d ih =>
    intro n hn
    have go := ih (n + 1) (by omega)
    have st : (∀ j, n ≤ j → j < R.length → RowT m R Y j) ↔ RowT m R Y n ∧ ∀ j, n + 1 ≤ j → j < R.length → RowT m R Y j := by
      constructor
      · exact fun h => ⟨h n (Nat.le_refl _) (by omega), fun j h1 h2 => h j (by omega) h2⟩
      · intro ⟨h0, h⟩ j h1 h2
        by_cases e : j = n
        · exact e ▸ h0
        · exact h j (by omega) h2
    rw [dec_congr st]
    refine ev_succ ?_
    simp only [spec_TableOk.l1, rdL, Int.toNat_natCast, specVal, Option.bind_some]
    refine ev_pos (by omega) (ev_pos (by omega) ?_)
    by_cases k1 : ((R.getD n []).length : Int) = (m : Int)
    case neg =>
      refine ev_neg k1 (ev_succ ?_)
      simp only [spec_TableOk.j3]
      exact ev_pos trivial (ev_eq (Ev.now _) (dec_false (fun h => k1 h.1.1)).symm)
    refine ev_pos k1 (ev_pos (by omega) (ev_succ ?_))
    simp only [spec_TableOk.j3]
    by_cases k2 : Deci (rd Y (n : Int))
    case neg =>
      refine ev_pos ?_ (ev_eq (Ev.now _) (dec_false (fun h => k2 h.1.2.1)).symm)
      rw [deciF k2]; rfl
    refine ev_neg (by rw [deciT k2]; decide) ?_
    refine ev_eq (all_loop2 (fun k i => spec_TableOk.l2 k (m : Int) (n : Int) i L t R Y) m (fun i => Deci (rd (R.getD n []) (i : Int))) (∀ j, n + 1 ≤ j → j < R.length → RowT m R Y j) ?_ ?_ ?_ m 0 (by omega)) (dec_congr ⟨fun h => ⟨⟨k1, k2, h.1⟩, h.2⟩, fun h => ⟨h.1.2.2, h.2⟩⟩)
    · refine ev_succ ?_
      simp only [spec_TableOk.l2]
      refine ev_neg (by omega) ?_
      rw [w64 (x := (n : Int) + 1) (by omega) (by omega)]
      exact go
    · intro i r hi hp h
      refine ev_succ ?_
      simp only [spec_TableOk.l2, rdL, Int.toNat_natCast, specVal, Option.bind_some]
      refine ev_pos (by omega) (ev_pos (by omega) (ev_pos (by omega) (ev_pos (by omega) (ev_pos (by omega) (ev_pos (decide_eq_true hp) ?_)))))
      rw [w64 (x := (i : Int) + 1) (by omega) (by omega)]
      exact h
    · intro i hi hp
      refine ev_succ ?_
      simp only [spec_TableOk.l2, rdL, Int.toNat_natCast, specVal, Option.bind_some]
      exact ev_pos (by omega) (ev_pos (by omega) (ev_pos (by omega) (ev_pos (by omega) (ev_pos (by omega) (ev_neg (by rw [deciF hp]; decide) (Ev.now _))))))
def NamesT (L : List ByteArray) : Prop := ∀ j, 0 ≤ j → j < L.length → NameAt L j
def RowsT (L : List ByteArray) (R : List (List Int)) (Y : List Int) : Prop := ∀ j, 0 ≤ j → j < R.length → RowT L.length R Y j
def TableP (L : List ByteArray) (t : ByteArray) (R : List (List Int)) (Y : List Int) : Prop :=
  (1 ≤ (L.length : Int) ∧ (L.length : Int) ≤ 4) ∧ IsName t ∧ ¬ HasP L L.length t ∧ (1 ≤ (R.length : Int) ∧ (R.length : Int) ≤ 40) ∧ (Y.length : Int) = (R.length : Int) ∧ NamesT L ∧ RowsT L R Y
theorem specTableOk (L : List ByteArray) (t : ByteArray) (R : List (List Int)) (Y : List Int) (hL : L.length ≤ 1048576) (hs : ∀ x ∈ L, x.size ≤ 1048576) (ht : t.size ≤ 1048576) (hR : R.length ≤ 1048576) : Ev (fun k => spec_TableOk.f k L t R Y) (dec (TableP L t R Y)) := by
  unfold spec_TableOk.f
  simp only [specIn, Option.bind_some]
  have stop : ∀ r : Bool, r = false → Ev (fun k => spec_TableOk.j0 k (L.length : Int) true L t R Y) r := by
    rintro _ rfl
    refine ev_succ ?_
    simp only [spec_TableOk.j0]
    exact ev_pos trivial (Ev.now _)
  unfold TableP
  by_cases k1 : 1 ≤ (L.length : Int) ∧ (L.length : Int) ≤ 4
  case neg => exact ev_neg (by rw [decide_eq_false k1]; decide) (stop _ (dec_false (fun h => k1 h.1)))
  refine ev_pos (decide_eq_true k1) (Ev.bind (specNameOk t (by omega)) ?_)
  by_cases k2 : IsName t
  case neg => exact ev_neg (by rw [dec_false k2]; decide) (stop _ (dec_false (fun h => k2 h.2.1)))
  refine ev_pos (dec_true k2) (Ev.bind (specHas L t hL) ?_)
  by_cases k3 : HasP L L.length t
  · exact ev_pos (dec_true k3) (stop _ (dec_false (fun h => h.2.2.1 k3)))
  refine ev_neg (by rw [dec_false k3]; decide) ?_
  by_cases k4 : 1 ≤ (R.length : Int) ∧ (R.length : Int) ≤ 40
  case neg => exact ev_neg (by rw [decide_eq_false k4]; decide) (stop _ (dec_false (fun h => k4 h.2.2.2.1)))
  refine ev_pos (decide_eq_true k4) ?_
  by_cases k5 : (Y.length : Int) = (R.length : Int)
  case neg =>
    rw [bne_iff_ne.2 k5]
    exact stop _ (dec_false (fun h => k5 h.2.2.2.2.1))
  rw [k5, bne_self_eq_false]
  refine ev_succ ?_
  simp only [spec_TableOk.j0]
  refine ev_neg (by decide) ?_
  refine ev_eq (all_loop2 (fun k i => spec_TableOk.l0 k (L.length : Int) i L t R Y) L.length (NameAt L) (RowsT L R Y) ?_ ?_ ?_ L.length 0 (by omega)) (dec_congr ⟨fun h => ⟨k1, k2, k3, k4, trivial, h.1, h.2⟩, fun h => ⟨h.2.2.2.2.2.1, h.2.2.2.2.2.2⟩⟩)
  · refine ev_succ ?_
    simp only [spec_TableOk.l0]
    exact ev_neg (by omega) (specRows L t R Y L.length hL hR (by omega) R.length 0 (by omega))
  · intro n r hn hp h
    have g := sAt_size hs n
    refine ev_succ ?_
    simp only [spec_TableOk.l0, Int.toNat_natCast]
    refine ev_pos (by omega) (ev_pos (by omega) (ev_pos (by omega) (Ev.bind (specNameOk (sAt L n) (by omega)) (ev_pos (dec_true hp.1) (ev_pos (by omega) (Ev.bind (specHas (L.take n) (sAt L n) (by rw [List.length_take]; omega)) (ev_neg ?_ ?_)))))))
    · rw [dec_congr (hasP_take L (by omega) _), dec_false hp.2]; decide
    · rw [w64 (x := (n : Int) + 1) (by omega) (by omega)]
      exact h
  · intro n hn hp
    have g := sAt_size hs n
    refine ev_succ ?_
    simp only [spec_TableOk.l0, Int.toNat_natCast]
    refine ev_pos (by omega) (ev_pos (by omega) (ev_pos (by omega) (Ev.bind (specNameOk (sAt L n) (by omega)) ?_)))
    by_cases a : IsName (sAt L n)
    · refine ev_pos (dec_true a) (ev_pos (by omega) (Ev.bind (specHas (L.take n) (sAt L n) (by rw [List.length_take]; omega)) (ev_pos ?_ (Ev.now _))))
      rw [dec_congr (hasP_take L (by omega) _)]
      exact dec_true (Classical.byContradiction fun z => hp ⟨a, z⟩)
    · exact ev_neg (by rw [dec_false a]; decide) (Ev.now _)
def trow (R : List (List Int)) (Y : List Int) (i : Nat) : List ByteArray := (R.getD i []).map (fun n => bs (fixT n)) ++ [bs (fixT (rd Y (i : Int)))]
def trows (R : List (List Int)) (Y : List Int) (n : Nat) : List (List ByteArray) := (List.range n).map (trow R Y)
/-- A table's rows of texts, its names ahead. -/
def tableRows (L : List ByteArray) (t : ByteArray) (R : List (List Int)) (Y : List Int) : List (List ByteArray) := (L ++ [t]) :: trows R Y R.length
theorem trows_succ (R : List (List Int)) (Y : List Int) (n : Nat) : trows R Y (n + 1) = trows R Y n ++ [trow R Y n] := by
  unfold trows
  rw [List.range_succ, List.map_append]
  rfl
theorem plain_name {s : ByteArray} (h : IsName s) : PlainF s := by
  intro b hb
  obtain ⟨n, hn⟩ := List.mem_iff_getElem?.mp hb
  have hlt : n < s.size := by
    rw [← data_length]
    exact (List.getElem?_eq_some_iff.mp hn).1
  have e := bt_get hn
  have hl := h.2.2.2 n (Nat.zero_le _) hlt
  unfold Letter Figure at hl
  have hr : (48 ≤ b.toNat ∧ b.toNat ≤ 57) ∨ (97 ≤ b.toNat ∧ b.toNat ≤ 122) := by omega
  refine ⟨?_, by omega⟩
  unfold csvSp
  have ne : ∀ m : Nat, m < 48 → b ≠ UInt8.ofNat m := by
    rintro m hm rfl
    rw [UInt8.toNat_ofNat'] at hr
    omega
  have h1 := ne 44 (by omega)
  have h2 := ne 34 (by omega)
  have h3 := ne 10 (by omega)
  have h4 := ne 13 (by omega)
  have g1 : (b == 44) = false := beq_eq_false_iff_ne.2 h1
  have g2 : (b == 34) = false := beq_eq_false_iff_ne.2 h2
  have g3 : (b == 10) = false := beq_eq_false_iff_ne.2 h3
  have g4 : (b == 13) = false := beq_eq_false_iff_ne.2 h4
  rw [g1, g2, g3, g4]
  rfl
theorem fixT_byte {n : Int} {b : UInt8} (h : b ∈ fixT n) : b.toNat = 45 ∨ b.toNat = 46 ∨ (48 ≤ b.toNat ∧ b.toNat ≤ 57) := by
  unfold fixT at h
  rcases List.mem_append.1 h with h | h
  · rcases List.mem_append.1 h with h | h
    · split at h
      · rw [List.mem_singleton] at h
        subst h
        exact .inl rfl
      · cases h
    · exact .inr (.inr (decDigits_digit h))
  · split at h
    · cases h
    · rcases List.mem_cons.1 h with h | h
      · subst h
        exact .inr (.inl rfl)
      · have h : b ∈ three (n.natAbs % 1000) := by
          unfold Lib.trimRightB at h
          rw [List.mem_reverse] at h
          have := (List.dropWhile_sublist (l := (three (n.natAbs % 1000)).reverse) (fun x => x == 48)).subset h
          exact List.mem_reverse.1 this
        unfold three at h
        simp only [List.mem_cons, List.not_mem_nil, or_false] at h
        rcases h with h | h | h
        · rw [h, ofNat_toNat (by omega)]; omega
        · rw [h, ofNat_toNat (by omega)]; omega
        · rw [h, ofNat_toNat (by omega)]; omega
theorem plain_fix (n : Int) : PlainF (bs (fixT n)) := by
  intro b hb
  rw [list_bs] at hb
  have hr := fixT_byte hb
  refine ⟨?_, by omega⟩
  unfold csvSp
  have ne : ∀ m : Nat, m < 45 → b ≠ UInt8.ofNat m := by
    rintro m hm rfl
    rw [UInt8.toNat_ofNat'] at hr
    omega
  have g1 : (b == 44) = false := beq_eq_false_iff_ne.2 (ne 44 (by omega))
  have g2 : (b == 34) = false := beq_eq_false_iff_ne.2 (ne 34 (by omega))
  have g3 : (b == 10) = false := beq_eq_false_iff_ne.2 (ne 10 (by omega))
  have g4 : (b == 13) = false := beq_eq_false_iff_ne.2 (ne 13 (by omega))
  rw [g1, g2, g3, g4]
  rfl
theorem joinF_length (m : Nat) : ∀ (row : List ByteArray) (z : Bool), (∀ f ∈ row, f.size ≤ m) → (joinF z row).length ≤ row.length * (m + 1)
  | [], z, _ => by unfold joinF; simp
  | f :: r, z, h => by
    unfold joinF
    have := joinF_length m r false (fun g hg => h g (List.mem_cons_of_mem _ hg))
    have h0 := h f (List.mem_cons_self ..)
    rw [← data_length] at h0
    have h1 : (if z = true then ([] : List UInt8) else [44]).length ≤ 1 := by split <;> simp
    rw [List.length_append, List.length_append, List.length_cons, Nat.add_one_mul]
    omega
theorem csvText_length (m c : Nat) : ∀ (rows : List (List ByteArray)), (∀ row ∈ rows, row.length ≤ c ∧ ∀ f ∈ row, f.size ≤ m) → (csvText rows).length ≤ rows.length * (c * (m + 1) + 1)
  | [], _ => by unfold csvText; simp
  | row :: rows, h => by
    have := csvText_length m c rows (fun g hg => h g (List.mem_cons_of_mem _ hg))
    obtain ⟨h1, h2⟩ := h row (List.mem_cons_self ..)
    have h3 := joinF_length m row true h2
    have h4 : row.length * (m + 1) ≤ c * (m + 1) := Nat.mul_le_mul_right _ h1
    unfold csvText at this ⊢
    rw [List.map_cons, List.flatten_cons, List.length_append, List.length_cons, Nat.add_one_mul]
    unfold rowText at *
    rw [List.length_append, List.length_singleton]
    omega
theorem nameAt_mem {L : List ByteArray} (h : NamesT L) {s : ByteArray} (hs : s ∈ L) : IsName s := by
  obtain ⟨j, hj, rfl⟩ := List.getElem_of_mem hs
  have := (h j (Nat.zero_le _) hj).1
  unfold sAt at this
  rw [rdOfn, List.getD_eq_getElem?_getD, List.getElem?_eq_getElem hj] at this
  exact this
theorem row_deci {m : Nat} {R : List (List Int)} {Y : List Int} {j : Nat} (h : RowT m R Y j) {x : Int} (hx : x ∈ R.getD j []) : Deci x := by
  obtain ⟨i, hi, rfl⟩ := List.getElem_of_mem hx
  have h1 := h.1
  have := h.2.2 i (Nat.zero_le _) (by omega)
  rw [rd_of (List.getElem?_eq_getElem hi)] at this
  exact this
theorem tableRows_ok {L : List ByteArray} {t : ByteArray} {R : List (List Int)} {Y : List Int} (h : TableP L t R Y) : ∀ row ∈ tableRows L t R Y, row.length ≤ 5 ∧ ∀ f ∈ row, f.size ≤ 40 ∧ PlainF f := by
  obtain ⟨hL, ht, _, hR, hY, hN, hT⟩ := h
  intro row hrow
  have nm_ : ∀ s, IsName s → s.size ≤ 40 ∧ PlainF s := fun s g => ⟨by have := g.2.1; omega, plain_name g⟩
  have fx_ : ∀ n, Deci n → (bs (fixT n)).size ≤ 40 ∧ PlainF (bs (fixT n)) := fun n g => ⟨by rw [bs_size]; exact fixT_length g, plain_fix n⟩
  unfold tableRows at hrow
  rcases List.mem_cons.1 hrow with rfl | hrow
  · refine ⟨by rw [List.length_append, List.length_singleton]; omega, fun f hf => ?_⟩
    rcases List.mem_append.1 hf with hf | hf
    · exact nm_ f (nameAt_mem hN hf)
    · rw [List.mem_singleton.1 hf]; exact nm_ t ht
  · unfold trows at hrow
    obtain ⟨i, hi, rfl⟩ := List.mem_map.1 hrow
    have g := hT i (Nat.zero_le _) (List.mem_range.1 hi)
    unfold trow
    refine ⟨by rw [List.length_append, List.length_map, List.length_singleton]; have := g.1; omega, fun f hf => ?_⟩
    rcases List.mem_append.1 hf with hf | hf
    · obtain ⟨x, hx, rfl⟩ := List.mem_map.1 hf
      exact fx_ x (row_deci g hx)
    · rw [List.mem_singleton.1 hf]; exact fx_ _ g.2.1
theorem tableRows_length {L : List ByteArray} {t : ByteArray} {R : List (List Int)} {Y : List Int} (h : TableP L t R Y) : (tableRows L t R Y).length ≤ 41 ∧ (csvText (tableRows L t R Y)).length ≤ 10000 := by
  have h1 : (tableRows L t R Y).length ≤ 41 := by
    have := h.2.2.2.1.2
    unfold tableRows trows
    rw [List.length_cons, List.length_map, List.length_range]
    omega
  refine ⟨h1, ?_⟩
  have := csvText_length 40 5 (tableRows L t R Y) (fun row hr => ⟨(tableRows_ok h row hr).1, fun f hf => ((tableRows_ok h row hr).2 f hf).1⟩)
  have := Nat.mul_le_mul_right (5 * (40 + 1) + 1) h1
  omega
/-- The table's text; of a table that is not valid the empty one. -/
noncomputable def tableText (L : List ByteArray) (t : ByteArray) (R : List (List Int)) (Y : List Int) : List UInt8 := if dec (TableP L t R Y) = true then csvText (tableRows L t R Y) else []
/-- The digits of a number; of zero none. -/
def digs (u : Nat) : List UInt8 := if u = 0 then [] else Lib.decDigits u
theorem digs_step {u : Nat} (h : u ≠ 0) : digs u = digs (u / 10) ++ [UInt8.ofNat (48 + u % 10)] := by
  unfold digs
  rw [if_neg h]
  by_cases h1 : u < 10
  · rw [if_pos (by omega), Lib.decDigits_one h1, Nat.mod_eq_of_lt h1]
    rfl
  · rw [if_neg (by omega), decDigits_big h1]
theorem digit_num (u : Nat) : strOfNums [wrap64 (48 + ((u % 10 : Nat) : Int)) % 256] = bs [UInt8.ofNat (48 + u % 10)] := by
  rw [strOfNums_bs, w64 (by omega) (by omega)]
  congr 2
  show UInt8.ofNat ((48 + ((u % 10 : Nat) : Int)) % 256).toNat :: [] = _
  congr 2
  omega
theorem specDigits_l0 (neg : Bool) : ∀ (u : Nat) (n : Int) (t : List UInt8), n.natAbs = u → n ≤ 9223372036854775807 → -9223372036854775808 ≤ n → t.length + (digs u).length ≤ 100 →
    Ev (fun k => spec_Digits.l0 k n neg (bs t)) (bs ((if neg = true then [45] else []) ++ (digs u ++ t))) := by
  intro u
  induction u using Nat.strongRecOn with
  | _ u ih =>
    intro n t hu h1 h0 ht
    refine ev_succ ?_
    simp only [spec_Digits.l0, Option.bind_some]
    by_cases hz : n = 0
    · subst hz
      obtain rfl : (0 : Nat) = u := hu
      refine ev_pos rfl ?_
      cases neg with
      | true =>
        refine ev_pos rfl (ev_pos (by rw [bs_size]; omega) (ev_eq (Ev.now _) ?_))
        exact bs_append [45] t
      | false => exact ev_neg (by decide) (Ev.now _)
    · have hr : n = -(u : Int) ∨ n = (u : Int) := by omega
      have hu0 : u ≠ 0 := by omega
      have et : wrap64 (Int.tdiv n 10) = Int.tdiv n 10 := by
        rcases hr with e | e <;> rw [e]
        · rw [Int.neg_tdiv]
          show wrap64 (-Int.tdiv (u : Int) ((10 : Nat) : Int)) = _
          rw [← Int.ofNat_tdiv]; exact w64 (by omega) (by omega)
        · show wrap64 (Int.tdiv (u : Int) ((10 : Nat) : Int)) = _
          rw [← Int.ofNat_tdiv]; exact w64 (by omega) (by omega)
      have en : (Int.tdiv n 10).natAbs = u / 10 := by
        rw [Int.natAbs_tdiv, hu]; rfl
      have hl := congrArg List.length (digs_step hu0)
      rw [List.length_append, List.length_singleton] at hl
      have go : Ev (fun k => spec_Digits.l0 k (wrap64 (Int.tdiv n 10)) neg (bs ([UInt8.ofNat (48 + u % 10)] ++ t))) (bs ((if neg = true then [45] else []) ++ (digs u ++ t))) := by
        rw [et]
        refine ev_eq (ih (u / 10) (by omega) _ _ en ?_ ?_ ?_) (by rw [digs_step hu0, List.append_assoc])
        · omega
        · omega
        · rw [List.length_append, List.length_singleton]
          omega
      have hm : Int.tmod n 10 = -((u % 10 : Nat) : Int) ∨ Int.tmod n 10 = ((u % 10 : Nat) : Int) := by
        rcases hr with e | e <;> rw [e]
        · left
          rw [Int.neg_tmod]
          show -Int.tmod (u : Int) ((10 : Nat) : Int) = _
          rw [← Int.ofNat_tmod]
        · right
          show Int.tmod (u : Int) ((10 : Nat) : Int) = _
          rw [← Int.ofNat_tmod]
      refine ev_neg hz ?_
      by_cases hb : Int.tmod n 10 < 0
      · refine ev_pos hb ?_
        have e1 : wrap64 (-(Int.tmod n 10)) = ((u % 10 : Nat) : Int) := by
          rw [w64 (by omega) (by omega)]; omega
        rw [e1, digit_num, bs_append]
        exact ev_pos (by rw [bs_size, bs_size, List.length_singleton]; omega) go
      · refine ev_neg hb ?_
        have e1 : Int.tmod n 10 = ((u % 10 : Nat) : Int) := by omega
        rw [e1, digit_num, bs_append]
        exact ev_pos (by rw [bs_size, bs_size, List.length_singleton]; omega) go
theorem specDigits (n : Int) (h0 : -9223372036854775808 ≤ n) (h1 : n ≤ 9223372036854775807) : Ev (fun k => spec_Digits.f k n) (bs (Lib.itoa n)) := by
  unfold spec_Digits.f
  by_cases hz : n = 0
  · subst hz
    exact ev_pos rfl (ev_eq (Ev.now _) (by rw [show Lib.itoa 0 = Lib.decDigits 0 from itoa_nat 0, Lib.decDigits_one (by omega)]; rfl))
  · have hd : digs n.natAbs = Lib.decDigits n.natAbs := by unfold digs; rw [if_neg (by omega)]
    refine ev_neg hz (ev_eq (specDigits_l0 _ n.natAbs n [] rfl h1 h0 (by have := Lib.nDigits_le20 n.natAbs (by omega); rw [hd, Lib.decDigits_length, List.length_nil]; omega)) ?_)
    congr 1
    rw [hd, List.append_nil]
    unfold Lib.itoa
    by_cases h : n < 0
    · rw [if_pos h, if_pos (decide_eq_true h)]
      rfl
    · rw [if_neg h, if_neg (by simpa using h)]
      have : n.natAbs = n.toNat := by omega
      rw [this]
      rfl
theorem itoa_size (n : Int) (h0 : -9223372036854775808 ≤ n) (h1 : n ≤ 9223372036854775807) : (bs (Lib.itoa n)).size ≤ 21 := by
  rw [bs_size]
  exact Lib.itoa_length_le n h0 h1
theorem specFix_l0 (x : ByteArray) (hx : x.size ≤ 1000) : ∀ (k : Nat) (l : List UInt8), l.length = k → k ≤ 1000 → (∃ b ∈ l, b ≠ 48) →
    Ev (fun k => spec_FixText.l0 k x (nm l)) (x ++ bs (46 :: Lib.trimRightB l 48)) := by
  intro k
  induction k with
  | zero =>
    intro l hl _ ⟨b, hb, _⟩
    rw [List.length_eq_zero_iff.mp hl] at hb
    cases hb
  | succ k ih =>
    intro l hl hk hne
    obtain ⟨a, c, rfl⟩ : ∃ a c, l = a ++ [c] := by
      have h : l ≠ [] := by intro h; rw [h] at hl; cases hl
      exact ⟨l.dropLast, l.getLast h, (List.dropLast_concat_getLast h).symm⟩
    rw [List.length_append, List.length_singleton] at hl
    have en : (nm (a ++ [c])).length = k + 1 := by rw [nm_length, List.length_append, List.length_singleton]; omega
    have ew : wrap64 (((nm (a ++ [c])).length : Int) - 1) = (k : Int) := by rw [en, w64 (by omega) (by omega)]; omega
    have er : rd (nm (a ++ [c])) (k : Int) = (c.toNat : Int) := by
      refine rd_of ?_
      rw [nm_append, List.getElem?_append_right (by rw [nm_length]; omega), nm_length]
      have : k - a.length = 0 := by omega
      rw [this]
      rfl
    refine ev_succ ?_
    simp only [spec_FixText.l0]
    rw [ew, er]
    rw [trim_snoc]
    refine ev_pos (by omega) (ev_pos (by rw [en]; omega) ?_)
    by_cases h : c = 48
    · subst h
      rw [if_pos rfl]
      refine ev_pos rfl (ev_pos (by rw [en]; omega) ?_)
      have et : (nm (a ++ [48])).take ((k : Int)).toNat = nm a := by
        rw [Int.toNat_natCast, nm_append]
        have : k = (nm a).length := by rw [nm_length]; omega
        rw [this]
        exact List.take_left
      rw [et]
      refine ih a (by omega) (by omega) ?_
      obtain ⟨b, hb, hn⟩ := hne
      rcases List.mem_append.1 hb with h | h
      · exact ⟨b, h, hn⟩
      · exact absurd (List.mem_singleton.1 h) hn
    · rw [if_neg h]
      have s1 : (⟨#[46]⟩ : ByteArray) = bs [46] := rfl
      have s2 : (x ++ bs [46]).size = x.size + 1 := by rw [ByteArray.size_append, bs_size]; rfl
      refine ev_neg (fun e => h ?_) (ev_pos (by omega) (ev_pos ?_ (ev_eq (Ev.now _) ?_)))
      · exact (u8_eq (n := 48) (by omega)).1 e
      · rw [s1, s2, strOfNums_nm, bs_size, List.length_append, List.length_singleton]; omega
      · rw [s1, strOfNums_nm, ByteArray.append_assoc, bs_append]
        rfl
theorem three_nm {u : Nat} : ([(wrap64 (48 + (wrap64 (Int.tdiv ((u % 1000 : Nat) : Int) 100)))) % 256, (wrap64 (48 + (Int.tmod (wrap64 (Int.tdiv ((u % 1000 : Nat) : Int) 10)) 10))) % 256, (wrap64 (48 + (Int.tmod ((u % 1000 : Nat) : Int) 10))) % 256] : List Int) = nm (three (u % 1000)) := by
  have a1 : Int.tdiv ((u % 1000 : Nat) : Int) 100 = ((u % 1000 / 100 : Nat) : Int) := (Int.ofNat_tdiv _ 100).symm
  have a2 : Int.tdiv ((u % 1000 : Nat) : Int) 10 = ((u % 1000 / 10 : Nat) : Int) := (Int.ofNat_tdiv _ 10).symm
  have a3 : Int.tmod ((u % 1000 / 10 : Nat) : Int) 10 = ((u % 1000 / 10 % 10 : Nat) : Int) := (Int.ofNat_tmod _ 10).symm
  have a4 : Int.tmod ((u % 1000 : Nat) : Int) 10 = ((u % 1000 % 10 : Nat) : Int) := (Int.ofNat_tmod _ 10).symm
  rw [a1, a2, w64 (x := ((u % 1000 / 100 : Nat) : Int)) (by omega) (by omega), w64 (x := ((u % 1000 / 10 : Nat) : Int)) (by omega) (by omega), a3, a4]
  rw [w64 (by omega) (by omega), w64 (by omega) (by omega), w64 (by omega) (by omega)]
  unfold nm three
  simp only [List.map_cons, List.map_nil]
  rw [ofNat_toNat (by omega), ofNat_toNat (by omega), ofNat_toNat (by omega)]
  congr 1
  · omega
  congr 1
  · omega
  congr 1
  omega
theorem three_ne {u : Nat} (h : u % 1000 ≠ 0) : ∃ b ∈ three (u % 1000), b ≠ 48 := by
  have key : ∀ d : Nat, d < 10 → d ≠ 0 → UInt8.ofNat (48 + d) ≠ 48 := by
    intro d h1 h2 e
    have e := congrArg UInt8.toNat e
    rw [ofNat_toNat (by omega)] at e
    have e : 48 + d = 48 := e
    omega
  unfold three
  by_cases h1 : u % 1000 / 100 = 0
  · by_cases h2 : u % 1000 / 10 % 10 = 0
    · exact ⟨_, List.mem_cons_of_mem _ (List.mem_cons_of_mem _ (List.mem_cons_self ..)), key _ (by omega) (by omega)⟩
    · exact ⟨_, List.mem_cons_of_mem _ (List.mem_cons_self ..), key _ (by omega) h2⟩
  · exact ⟨_, List.mem_cons_self .., key _ (by omega) h1⟩
theorem specFix_j0 (u : Nat) (g : List UInt8) (hu : u ≤ 2147483647) (hg : g.length ≤ 1) : Ev (fun k => spec_FixText.j0 k (u : Int) (bs g)) (bs (g ++ Lib.decDigits (u / 1000) ++ (if u % 1000 = 0 then [] else 46 :: Lib.trimRightB (three (u % 1000)) 48))) := by
  refine ev_succ ?_
  simp only [spec_FixText.j0]
  have a1 : Int.tdiv (u : Int) 1000 = ((u / 1000 : Nat) : Int) := (Int.ofNat_tdiv _ 1000).symm
  have a2 : Int.tmod (u : Int) 1000 = ((u % 1000 : Nat) : Int) := (Int.ofNat_tmod _ 1000).symm
  rw [a1, a2, w64 (x := ((u / 1000 : Nat) : Int)) (by omega) (by omega)]
  have d := specDigits ((u / 1000 : Nat) : Int) (by omega) (by omega)
  have ds := itoa_size ((u / 1000 : Nat) : Int) (by omega) (by omega)
  rw [itoa_nat] at d ds
  refine Ev.bind d (ev_pos (by rw [bs_size]; omega) ?_)
  by_cases h : u % 1000 = 0
  · rw [if_pos h, List.append_nil]
    exact ev_pos (by omega) (ev_eq (Ev.now _) (bs_append _ _))
  · rw [if_neg h, three_nm]
    refine ev_neg (by omega) ?_
    rw [← bs_append, ← bs_append]
    refine specFix_l0 (bs g ++ bs (Lib.decDigits (u / 1000))) ?_ 3 _ rfl (by omega) (three_ne h)
    rw [ByteArray.size_append, bs_size]
    omega
theorem specFixText (n : Int) (h : Deci n) : Ev (fun k => spec_FixText.f k n) (bs (fixT n)) := by
  unfold spec_FixText.f
  simp only [specVal, Option.bind_some]
  refine ev_pos (deciT h) ?_
  unfold Deci at h
  unfold fixT
  by_cases hn : n < 0
  · rw [if_pos hn]
    refine ev_pos hn ?_
    have e : wrap64 (-n) = ((n.natAbs : Nat) : Int) := by rw [w64 (by omega) (by omega)]; omega
    rw [e]
    exact specFix_j0 n.natAbs [45] (by omega) (by decide)
  · rw [if_neg hn]
    refine ev_neg hn ?_
    have e : n = ((n.natAbs : Nat) : Int) := by omega
    conv => rw [e]
    exact specFix_j0 n.natAbs [] (by omega) (by decide)
theorem rdLF (xs : List (List ByteArray)) (i : Int) : rd_L4 xs i = xs.getD i.toNat [] := rfl
theorem specCsvField_l0 (s : ByteArray) (hs : PlainF s) (hl : s.size ≤ 1048576) : ∀ (d n : Nat) (acc : List Int), n + d = s.size → acc.length = n + 1 → Ev (fun k => spec_CsvField.l0 k s false acc (n : Int)) s := by
  intro d
  induction d with
  | zero =>
    intro n acc hn ha
    refine ev_succ ?_
    simp only [spec_CsvField.l0]
    exact ev_neg (by omega) (ev_neg (by decide) (Ev.now _))
  | succ d ih =>
    intro n acc hn ha
    have hlen : s.data.toList.length = s.size := data_length s
    obtain ⟨b, hb⟩ : ∃ b, s.data.toList[n]? = some b := ⟨_, List.getElem?_eq_getElem (by omega)⟩
    obtain ⟨h1, h2, h3, h4, _⟩ := hs.at hb
    have eb := bt_get hb
    have ne : ∀ m : Nat, m < 256 → b ≠ UInt8.ofNat m → ¬ bt s (n : Int) = (m : Int) := fun m hm hn e => hn ((u8_eq hm).1 (eb ▸ e))
    refine ev_succ ?_
    simp only [spec_CsvField.l0]
    have e13 : (bt s (n : Int) == 13) = false := beq_eq_false_iff_ne.2 (ne 13 (by omega) h4)
    rw [e13, w64 (x := (n : Int) + 1) (by omega) (by omega)]
    exact ev_pos (by omega) (ev_neg (by decide) (ev_pos (by omega) (ev_neg (ne 44 (by omega) h1) (ev_neg (ne 34 (by omega) h2) (ev_neg (ne 10 (by omega) h3) (ev_pos (by omega) (ih (n + 1) _ (by omega) (by rw [List.length_append, List.length_singleton]; omega))))))))
theorem specCsvField (s : ByteArray) (hs : PlainF s) (hl : s.size ≤ 1048576) : Ev (fun k => spec_CsvField.f k s) s := by
  unfold spec_CsvField.f
  exact specCsvField_l0 s hs hl s.size 0 _ (by omega) rfl
theorem csvText_drop {rows : List (List ByteArray)} {n : Nat} (h : n < rows.length) : csvText (rows.drop n) = rowText rows[n] ++ csvText (rows.drop (n + 1)) := by
  unfold csvText
  rw [List.drop_eq_getElem_cons h, List.map_cons, List.flatten_cons]
theorem joinF_drop {row : List ByteArray} {n : Nat} (z : Bool) (h : n < row.length) : joinF z (row.drop n) = (if z = true then [] else [44]) ++ row[n].data.toList ++ joinF false (row.drop (n + 1)) := by
  rw [List.drop_eq_getElem_cons h, joinF]
theorem specCsv_l1 (rows : List (List ByteArray)) (n : Nat) (hn : n < rows.length) (hrl : rows.length ≤ 1048576) (hp : ∀ f ∈ rows[n], PlainF f) (r : ByteArray) (B : List UInt8) (hB : B.length ≤ 1000000) (hcl : rows[n].length ≤ 1048576)
    (next : Ev (fun k => spec_CsvText.l0 k rows (nm (B ++ [10])) ((n + 1 : Nat) : Int)) r) :
    ∀ (d i : Nat) (acc : List UInt8), i + d = rows[n].length → acc ++ joinF (i == 0) (rows[n].drop i) = B → Ev (fun k => spec_CsvText.l1 k rows (nm acc) (n : Int) (i : Int)) r := by
  have er : rows.getD n [] = rows[n] := by rw [List.getD_eq_getElem?_getD, List.getElem?_eq_getElem hn]; rfl
  intro d
  induction d with
  | zero =>
    intro i acc hi ha
    refine ev_succ ?_
    simp only [spec_CsvText.l1, rdLF, Int.toNat_natCast, er]
    rw [List.drop_of_length_le (by omega)] at ha
    have ha : acc = B := by rw [← ha]; unfold joinF; rw [List.append_nil]
    subst ha
    rw [w64 (x := (n : Int) + 1) (by omega) (by omega)]
    refine ev_pos (by omega) (ev_pos (by omega) (ev_neg (by omega) (ev_pos (by rw [nm_length]; omega) ?_)))
    have e : nm acc ++ [10] = nm (acc ++ [10]) := by rw [nm_append]; rfl
    rw [e]
    exact next
  | succ d ih =>
    intro i acc hi ha
    have hx : rows[n][i]? = some rows[n][i] := List.getElem?_eq_getElem (by omega)
    have hf := hp _ (List.mem_of_getElem? hx)
    rw [joinF_drop _ (by omega)] at ha
    have hlen := congrArg List.length ha
    rw [List.length_append, List.length_append, List.length_append] at hlen
    have hsz : rows[n][i].data.toList.length = rows[n][i].size := data_length _
    have go : ∀ a2 : List UInt8, a2 = acc ++ (if (i == 0) = true then [] else [44]) → Ev (fun k => (spec_CsvField.f k rows[n][i]).bind fun t => if (nm a2).length + t.size < 140737488355328 then spec_CsvText.l1 k rows (nm a2 ++ bytesOf t) (n : Int) (wrap64 ((i : Int) + 1)) else none) r := by
      intro a2 h2
      have hl2 := congrArg List.length h2
      rw [List.length_append] at hl2
      refine Ev.bind (specCsvField _ hf (by omega)) (ev_pos (by rw [nm_length]; omega) ?_)
      rw [bytesOf_nm, ← nm_append, w64 (x := (i : Int) + 1) (by omega) (by omega)]
      refine ih (i + 1) _ (by omega) ?_
      rw [← ha, h2]
      have e : ((i + 1 : Nat) == 0) = false := by simp
      rw [e, List.append_assoc, List.append_assoc, List.append_assoc]
    have ef : rows[n].getD i ByteArray.empty = rows[n][i] := by rw [List.getD_eq_getElem?_getD, hx]; rfl
    refine ev_succ ?_
    simp only [spec_CsvText.l1, rdLF, Int.toNat_natCast, er, rdOf, ef, Option.bind_some]
    refine ev_pos (by omega) (ev_pos (by omega) (ev_pos (by omega) ?_))
    by_cases h0 : i = 0
    · subst h0
      exact ev_neg (by omega) (ev_pos (by omega) (go acc (by simp)))
    · refine ev_pos (by omega) (ev_pos (by rw [nm_length]; omega) (ev_pos (by omega) ?_))
      have e : nm acc ++ [44] = nm (acc ++ [44]) := by rw [nm_append]; rfl
      rw [e]
      exact go _ (by rw [if_neg (by simpa using h0)])
theorem specCsv_l0 (rows : List (List ByteArray)) (hrl : rows.length ≤ 1048576) (hp : ∀ row ∈ rows, row.length ≤ 1048576 ∧ ∀ f ∈ row, PlainF f) (ht : (csvText rows).length ≤ 1000000) : ∀ (d n : Nat) (acc : List UInt8), n + d = rows.length → acc ++ csvText (rows.drop n) = csvText rows →
    Ev (fun k => spec_CsvText.l0 k rows (nm acc) (n : Int)) (bs (csvText rows)) := by
  intro d
  induction d with
  | zero =>
    intro n acc hn ha
    refine ev_succ ?_
    simp only [spec_CsvText.l0]
    rw [List.drop_of_length_le (by omega)] at ha
    have ha : acc = csvText rows := by rw [← ha]; unfold csvText; simp
    exact ev_neg (by omega) (ev_eq (Ev.now _) (by rw [strOfNums_nm, ha]))
  | succ d ih =>
    intro n acc hn ha
    have hx : n < rows.length := by omega
    obtain ⟨hcl, hpf⟩ := hp _ (List.getElem_mem hx)
    rw [csvText_drop hx] at ha
    have hl := congrArg List.length ha
    rw [List.length_append, List.length_append] at hl
    have hr : (rowText rows[n]).length = (joinF true rows[n]).length + 1 := by unfold rowText; rw [List.length_append]; rfl
    refine ev_succ ?_
    simp only [spec_CsvText.l0]
    refine ev_pos (by omega) ?_
    refine specCsv_l1 rows n hx hrl hpf _ (acc ++ joinF true rows[n]) (by rw [List.length_append]; omega) hcl ?_ rows[n].length 0 acc (by omega) rfl
    refine ih (n + 1) _ (by omega) ?_
    rw [← ha]
    unfold rowText
    rw [List.append_assoc, List.append_assoc, List.append_assoc]
theorem specCsvText (rows : List (List ByteArray)) (hrl : rows.length ≤ 1048576) (hp : ∀ row ∈ rows, row.length ≤ 1048576 ∧ ∀ f ∈ row, PlainF f) (ht : (csvText rows).length ≤ 1000000) : Ev (fun k => spec_CsvText.f k rows) (bs (csvText rows)) := by
  unfold spec_CsvText.f
  exact specCsv_l0 rows hrl hp ht rows.length 0 [] (by omega) rfl
theorem specTT_l1 (L : List ByteArray) (t : ByteArray) (R : List (List Int)) (Y : List Int) (h : TableP L t R Y) (n : Nat) (hn : n < R.length) (r : ByteArray) (acc : List (List ByteArray)) (hacc : acc.length ≤ 1000)
    (next : Ev (fun k => spec_TableText.l0 k (acc ++ [trow R Y n]) ((n + 1 : Nat) : Int) L t R Y) r) :
    ∀ (d i : Nat), i + d = (R.getD n []).length → Ev (fun k => spec_TableText.l1 k acc (n : Int) (((R.getD n []).take i).map (fun x => bs (fixT x))) (i : Int) L t R Y) r := by
  have g := h.2.2.2.2.2.2 n (Nat.zero_le _) hn
  have hL := h.1
  have hR := h.2.2.2.1
  have hY := h.2.2.2.2.1
  have gl := g.1
  intro d
  induction d with
  | zero =>
    intro i hi
    refine ev_succ ?_
    simp only [spec_TableText.l1, rdL, Int.toNat_natCast, Option.bind_some]
    rw [List.take_of_length_le (by omega)]
    refine ev_pos (by omega) (ev_pos (by omega) (ev_neg (by omega) (ev_pos (by omega) (Ev.bind (specFixText _ g.2.1) (ev_pos ?_ (ev_pos ?_ ?_))))))
    · rw [List.length_map, List.length_singleton]; omega
    · rw [List.length_singleton]; omega
    · rw [w64 (x := (n : Int) + 1) (by omega) (by omega)]
      exact next
  | succ d ih =>
    intro i hi
    have hx : (R.getD n [])[i]? = some (R.getD n [])[i] := List.getElem?_eq_getElem (by omega)
    have er : rd (R.getD n []) (i : Int) = (R.getD n [])[i] := rd_of hx
    refine ev_succ ?_
    simp only [spec_TableText.l1, rdL, Int.toNat_natCast, er, Option.bind_some]
    refine ev_pos (by omega) (ev_pos (by omega) (ev_pos (by omega) (ev_pos (by omega) (Ev.bind (specFixText _ (row_deci g (List.getElem_mem (by omega)))) (ev_pos ?_ ?_)))))
    · rw [List.length_map, List.length_singleton, List.length_take]; omega
    · rw [w64 (x := (i : Int) + 1) (by omega) (by omega)]
      have e : ((R.getD n []).take i).map (fun x => bs (fixT x)) ++ [bs (fixT (R.getD n [])[i])] = ((R.getD n []).take (i + 1)).map (fun x => bs (fixT x)) := by
        rw [List.take_succ_eq_append_getElem (by omega), List.map_append]; rfl
      rw [e]
      exact ih (i + 1) (by omega)
theorem specTableText (L : List ByteArray) (t : ByteArray) (R : List (List Int)) (Y : List Int) (hL : L.length ≤ 1048576) (hs : ∀ x ∈ L, x.size ≤ 1048576) (ht : t.size ≤ 1048576) (hR : R.length ≤ 1048576) : Ev (fun k => spec_TableText.f k L t R Y) (bs (tableText L t R Y)) := by
  unfold spec_TableText.f tableText
  simp only [Option.bind_some, List.nil_append]
  refine Ev.bind (specTableOk L t R Y hL hs ht hR) ?_
  by_cases h : TableP L t R Y
  case neg =>
    rw [dec_false h]
    exact ev_neg (by decide) (Ev.now _)
  rw [if_pos (dec_true h)]
  have hLl := h.1
  have hRl := h.2.2.2.1
  refine ev_pos (dec_true h) (ev_pos (by rw [List.length_nil]; omega) (ev_pos (by rw [List.length_singleton]; omega) ?_))
  refine fold_loop (fun k (S : List (List ByteArray)) i => spec_TableText.l0 k S i L t R Y) R.length (fun n => (L ++ [t]) :: trows R Y n) _ ?_ ?_ R.length 0 (by omega)
  · refine ev_succ ?_
    simp only [spec_TableText.l0]
    have k1 := tableRows_length h
    exact ev_neg (by omega) (Ev.bind (specCsvText (tableRows L t R Y) (by omega) (fun row hr => ⟨by have := (tableRows_ok h row hr).1; omega, fun f hf => ((tableRows_ok h row hr).2 f hf).2⟩) (by omega)) (Ev.now _))
  · intro n hn next
    refine ev_succ ?_
    simp only [spec_TableText.l0]
    refine ev_pos (by omega) ?_
    refine specTT_l1 L t R Y h n hn _ ((L ++ [t]) :: trows R Y n) ?_ ?_ (R.getD n []).length 0 (by omega)
    · unfold trows; rw [List.length_cons, List.length_map, List.length_range]; omega
    · rw [trows_succ, ← List.cons_append] at next
      exact next
theorem implWithin (a b c : Int) : impl_within.f a b c = some (decide (b ≤ a ∧ a ≤ c)) := by
  unfold impl_within.f
  by_cases h : b ≤ a
  · rw [if_pos h]; simp [h]
  · rw [if_neg h]; simp [h]
theorem implDec (x : Int) : impl_isDecimal.f x = some (decide (-2147483647 ≤ x ∧ x ≤ 2147483647)) := by
  unfold impl_isDecimal.f
  rw [implWithin]; rfl
theorem index_dec (l : List Int) (hl : l.length ≤ 1048576) : ∀ (d n : Nat), n + d = l.length → ∃ r : Int, Ev (fun k => slices_IndexFunc_int_int_54.l0 k l (l.length : Int) (n : Int)) r ∧ (0 ≤ r ↔ ∃ j, n ≤ j ∧ j < l.length ∧ ¬ Deci (rd l (j : Int))) := by
  intro d
  induction d with
  | zero =>
    intro n hn
    refine ⟨-1, ev_succ ?_, ⟨fun h => by omega, fun ⟨j, h1, h2, _⟩ => by omega⟩⟩
    simp only [slices_IndexFunc_int_int_54.l0]
    exact ev_neg (by omega) (Ev.now _)
  | succ d ih =>
    intro n hn
    have hw : wrap64 ((n : Int) + 1) = ((n + 1 : Nat) : Int) := w64 (by omega) (by omega)
    by_cases h : Deci (rd l (n : Int))
    · obtain ⟨r, e, hr⟩ := ih (n + 1) (by omega)
      refine ⟨r, ev_succ ?_, hr.trans ⟨fun ⟨j, h1, h2, h3⟩ => ⟨j, by omega, h2, h3⟩, fun ⟨j, h1, h2, h3⟩ => ⟨j, ?_, h2, h3⟩⟩⟩
      · simp only [slices_IndexFunc_int_int_54.l0, impl_areDecimals_1.f, implDec, Option.bind_some, hw]
        exact ev_pos (by omega) (ev_pos (by omega) (ev_pos (by omega) (ev_neg (by simpa [Deci] using h) e)))
      · by_cases c : j = n
        · subst c; exact absurd h h3
        · omega
    · refine ⟨(n : Int), ev_succ ?_, ⟨fun _ => ⟨n, by omega, by omega, h⟩, fun _ => by omega⟩⟩
      simp only [slices_IndexFunc_int_int_54.l0, impl_areDecimals_1.f, implDec, Option.bind_some]
      exact ev_pos (by omega) (ev_pos (by omega) (ev_pos (by omega) (ev_pos (by unfold Deci at h; simp; omega) (Ev.now _))))
theorem implAreDec (l : List Int) (hl : l.length ≤ 1048576) : Ev (fun k => impl_areDecimals.f k l) (dec (∀ j : Nat, j < l.length → Deci (rd l (j : Int)))) := by
  unfold impl_areDecimals.f slices_ContainsFunc_int_int_43.f slices_IndexFunc_int_int_54.f
  obtain ⟨r, e, hr⟩ := index_dec l hl l.length 0 (by omega)
  refine Ev.bind (Ev.bind e (Ev.now _)) (ev_of ?_)
  congr 1
  by_cases h : ∀ j : Nat, j < l.length → Deci (rd l (j : Int))
  · rw [dec_true h]
    have : ¬ 0 ≤ r := fun z => by obtain ⟨j, _, h2, h3⟩ := hr.1 z; exact h3 (h j h2)
    simp; omega
  · rw [dec_false h]
    have : 0 ≤ r := hr.2 (Classical.byContradiction fun z => h fun j hj => Classical.byContradiction fun y => z ⟨j, by omega, hj, y⟩)
    simp; omega
theorem implDigits (n : Int) (h0 : -9223372036854775808 ≤ n) (h1 : n ≤ 9223372036854775807) : impl_Digits.f n = some (bs (Lib.itoa n)) := by
  unfold impl_Digits.f strconv_Itoa.f
  rw [if_pos ⟨h0, h1⟩]
  rfl
theorem extract_one (c : UInt8) (l : List UInt8) : (bs (c :: l)).extract 1 (bs (c :: l)).size = bs l := by
  rw [Lib.extract_from]
  rfl
theorem implTrim (l : List UInt8) (h : l.length ≤ 1000) : strings_TrimRight.f (bs l) (⟨#[48]⟩ : ByteArray) = some (bs (Lib.trimRightB l 48)) := by
  unfold strings_TrimRight.f
  rw [if_pos ⟨by rw [bs_size]; omega, rfl⟩]
  rfl
theorem implFix_j0 (u : Nat) (g : List UInt8) (hu : u ≤ 2147483647) (hg : g.length ≤ 1) : Ev (fun k => impl_FixText.j0 k (u : Int) (bs g)) (bs (g ++ Lib.decDigits (u / 1000) ++ (if u % 1000 = 0 then [] else 46 :: Lib.trimRightB (three (u % 1000)) 48))) := by
  refine ev_succ ?_
  simp only [impl_FixText.j0]
  have a1 : Int.tdiv (u : Int) 1000 = ((u / 1000 : Nat) : Int) := (Int.ofNat_tdiv _ 1000).symm
  have a2 : Int.tmod (u : Int) 1000 = ((u % 1000 : Nat) : Int) := (Int.ofNat_tmod _ 1000).symm
  have ds : (bs (Lib.decDigits (u / 1000))).size ≤ 20 := by rw [bs_size, Lib.decDigits_length]; exact Lib.nDigits_le20 _ (by omega)
  rw [a1, a2, w64 (x := ((u / 1000 : Nat) : Int)) (by omega) (by omega), implDigits _ (by omega) (by omega), itoa_nat]
  simp only [Option.bind_some]
  refine ev_pos (by rw [bs_size]; omega) ?_
  by_cases h : u % 1000 = 0
  · rw [if_pos h, List.append_nil]
    exact ev_pos (by omega) (ev_eq (Ev.now _) (bs_append _ _))
  · rw [if_neg h]
    refine ev_neg (by omega) ?_
    have e : wrap64 (1000 + ((u % 1000 : Nat) : Int)) = ((1000 + u % 1000 : Nat) : Int) := by rw [w64 (by omega) (by omega)]; omega
    have e3 : (three (u % 1000)).length = 3 := rfl
    rw [e, implDigits _ (by omega) (by omega), itoa_nat, three_thousand (by omega)]
    simp only [Option.bind_some]
    rw [extract_one, implTrim _ (by omega)]
    simp only [Option.bind_some]
    have ht := trim_len (three (u % 1000))
    have s1 : (⟨#[46]⟩ : ByteArray) = bs [46] := rfl
    rw [s1]
    refine ev_pos (by rw [bs_size, List.length_cons]; omega) (ev_pos (by rw [bs_size]; omega) (ev_pos ?_ (ev_eq (Ev.now _) ?_)))
    · rw [ByteArray.size_append, ByteArray.size_append, bs_size, bs_size [46], bs_size (Lib.trimRightB _ _), List.length_singleton]
      omega
    · rw [bs_append, bs_append, bs_append]
      rfl
theorem implFixText (n : Int) (h : Deci n) : Ev (fun k => impl_FixText.f k n) (bs (fixT n)) := by
  unfold impl_FixText.f
  rw [implDec]
  simp only [Option.bind_some]
  unfold Deci at h
  refine ev_pos (decide_eq_true h) ?_
  unfold fixT
  by_cases hn : n < 0
  · rw [if_pos hn]
    refine ev_pos hn ?_
    have e : wrap64 (-n) = ((n.natAbs : Nat) : Int) := by rw [w64 (by omega) (by omega)]; omega
    rw [e]
    exact implFix_j0 n.natAbs [45] (by omega) (by decide)
  · rw [if_neg hn]
    refine ev_neg hn ?_
    have e : n = ((n.natAbs : Nat) : Int) := by omega
    conv => rw [e]
    exact implFix_j0 n.natAbs [] (by omega) (by decide)
theorem indexAny_plain {l c : List UInt8} (h : ∀ b ∈ l, c.contains b = false) : Lib.indexAny l c = -1 :=
  Lib.indexAny_none (fun _ b _ hb => h b (List.mem_of_getElem? hb))
theorem implCsvField (s : ByteArray) (hs : PlainF s) (hl : s.size ≤ 1048576) : impl_CsvField.f s = some s := by
  have hc : ∀ b ∈ s.data.toList, ([44, 34, 10, 13] : List UInt8).contains b = false := by
    intro b hb
    obtain ⟨n, hn⟩ := List.mem_iff_getElem?.mp hb
    obtain ⟨h1, h2, h3, h4, _⟩ := hs.at hn
    simp [h1, h2, h3, h4]
  have e : strings_ContainsAny.f s (⟨#[44,34,10,13]⟩ : ByteArray) = some false := by
    unfold strings_ContainsAny.f strings_IndexAny.f
    rw [if_pos ⟨by omega, by decide, List.all_eq_true.2 (fun b hb => decide_eq_true (hs b hb).2), by decide⟩]
    simp only [Option.bind_some]
    rw [indexAny_plain hc]
    rfl
  unfold impl_CsvField.f
  rw [e]
  rfl
theorem implCsv_l1 (rows : List (List ByteArray)) (n : Nat) (hn : n < rows.length) (hrl : rows.length ≤ 1048576) (hp : ∀ f ∈ rows[n], PlainF f) (r : ByteArray) (B : List UInt8) (hB : B.length ≤ 1000000) (hcl : rows[n].length ≤ 1048576)
    (next : Ev (fun k => impl_CsvText.l0 k (nm (B ++ [10])) rows (rows.length : Int) ((n + 1 : Nat) : Int)) r) :
    ∀ (d i : Nat) (acc : List UInt8), i + d = rows[n].length → acc ++ joinF (i == 0) (rows[n].drop i) = B → Ev (fun k => impl_CsvText.l1 k (nm acc) rows (rows.length : Int) (n : Int) rows[n] (rows[n].length : Int) (i : Int)) r := by
  have er : rows.getD n [] = rows[n] := by rw [List.getD_eq_getElem?_getD, List.getElem?_eq_getElem hn]; rfl
  intro d
  induction d with
  | zero =>
    intro i acc hi ha
    refine ev_succ ?_
    simp only [impl_CsvText.l1]
    rw [List.drop_of_length_le (by omega)] at ha
    have ha : acc = B := by rw [← ha]; unfold joinF; rw [List.append_nil]
    subst ha
    rw [w64 (x := (n : Int) + 1) (by omega) (by omega)]
    refine ev_neg (by omega) (ev_pos (by rw [nm_length]; omega) ?_)
    have e : nm acc ++ [10] = nm (acc ++ [10]) := by rw [nm_append]; rfl
    rw [e]
    exact next
  | succ d ih =>
    intro i acc hi ha
    have hx : rows[n][i]? = some rows[n][i] := List.getElem?_eq_getElem (by omega)
    have hf := hp _ (List.mem_of_getElem? hx)
    rw [joinF_drop _ (by omega)] at ha
    have hlen := congrArg List.length ha
    rw [List.length_append, List.length_append, List.length_append] at hlen
    have hsz : rows[n][i].data.toList.length = rows[n][i].size := data_length _
    have go : ∀ a2 : List UInt8, a2 = acc ++ (if (i == 0) = true then [] else [44]) → Ev (fun k => (impl_CsvField.f rows[n][i]).bind fun t => if (nm a2).length + t.size < 140737488355328 then impl_CsvText.l1 k (nm a2 ++ bytesOf t) rows (rows.length : Int) (n : Int) rows[n] (rows[n].length : Int) (wrap64 ((i : Int) + 1)) else none) r := by
      intro a2 h2
      have hl2 := congrArg List.length h2
      rw [List.length_append] at hl2
      rw [implCsvField _ hf (by omega)]
      simp only [Option.bind_some]
      refine ev_pos (by rw [nm_length]; omega) ?_
      rw [bytesOf_nm, ← nm_append, w64 (x := (i : Int) + 1) (by omega) (by omega)]
      refine ih (i + 1) _ (by omega) ?_
      rw [← ha, h2]
      have e : ((i + 1 : Nat) == 0) = false := by simp
      rw [e, List.append_assoc, List.append_assoc, List.append_assoc]
    have ef : rows[n].getD i ByteArray.empty = rows[n][i] := by rw [List.getD_eq_getElem?_getD, hx]; rfl
    refine ev_succ ?_
    simp only [impl_CsvText.l1, Int.toNat_natCast, rdOf, ef, Option.bind_some]
    refine ev_pos (by omega) (ev_pos (by omega) (ev_pos (by omega) ?_))
    by_cases h0 : i = 0
    · subst h0
      exact ev_neg (by omega) (go acc (by simp))
    · refine ev_pos (by omega) (ev_pos (by rw [nm_length]; omega) ?_)
      have e : nm acc ++ [44] = nm (acc ++ [44]) := by rw [nm_append]; rfl
      rw [e]
      exact go _ (by rw [if_neg (by simpa using h0)])
theorem implCsv_l0 (rows : List (List ByteArray)) (hrl : rows.length ≤ 1048576) (hp : ∀ row ∈ rows, row.length ≤ 1048576 ∧ ∀ f ∈ row, PlainF f) (ht : (csvText rows).length ≤ 1000000) : ∀ (d n : Nat) (acc : List UInt8), n + d = rows.length → acc ++ csvText (rows.drop n) = csvText rows →
    Ev (fun k => impl_CsvText.l0 k (nm acc) rows (rows.length : Int) (n : Int)) (bs (csvText rows)) := by
  intro d
  induction d with
  | zero =>
    intro n acc hn ha
    refine ev_succ ?_
    simp only [impl_CsvText.l0]
    rw [List.drop_of_length_le (by omega)] at ha
    have ha : acc = csvText rows := by rw [← ha]; unfold csvText; simp
    exact ev_neg (by omega) (ev_eq (Ev.now _) (by rw [strOfNums_nm, ha]))
  | succ d ih =>
    intro n acc hn ha
    have hx : n < rows.length := by omega
    obtain ⟨hcl, hpf⟩ := hp _ (List.getElem_mem hx)
    rw [csvText_drop hx] at ha
    have hl := congrArg List.length ha
    rw [List.length_append, List.length_append] at hl
    have hr : (rowText rows[n]).length = (joinF true rows[n]).length + 1 := by unfold rowText; rw [List.length_append]; rfl
    refine ev_succ ?_
    simp only [impl_CsvText.l0, rdLF, Int.toNat_natCast]
    have er : rows.getD n [] = rows[n] := by rw [List.getD_eq_getElem?_getD, List.getElem?_eq_getElem hx]; rfl
    rw [er]
    refine ev_pos (by omega) (ev_pos (by omega) (ev_pos (by omega) ?_))
    refine implCsv_l1 rows n hx hrl hpf _ (acc ++ joinF true rows[n]) (by rw [List.length_append]; omega) hcl ?_ rows[n].length 0 acc (by omega) rfl
    refine ih (n + 1) _ (by omega) ?_
    rw [← ha]
    unfold rowText
    rw [List.append_assoc, List.append_assoc, List.append_assoc]
theorem implCsvText (rows : List (List ByteArray)) (hrl : rows.length ≤ 1048576) (hp : ∀ row ∈ rows, row.length ≤ 1048576 ∧ ∀ f ∈ row, PlainF f) (ht : (csvText rows).length ≤ 1000000) : Ev (fun k => impl_CsvText.f k rows) (bs (csvText rows)) := by
  unfold impl_CsvText.f
  exact implCsv_l0 rows hrl hp ht rows.length 0 [] (by omega) rfl
theorem implNameOk_l0 (s : ByteArray) (hl : s.size ≤ 140737488351232) : ∀ (d n : Nat), n + d = s.size → Ev (fun k => impl_NameOk.l0 k s (s.size : Int) (n : Int)) (dec (NameFrom s n ∧ (n = 0 → 0 < s.size → Letter (bt s 0)) ∧ 1 ≤ s.size ∧ s.size ≤ 12)) := by
  intro d
  induction d with
  | zero =>
    intro n hn
    refine ev_end fun k => ?_
    simp only [impl_NameOk.l0, implWithin, Option.bind_some]
    obtain rfl : n = s.size := by omega
    rw [if_neg (by omega), ← dec_eq]
    congr 1
    refine dec_congr ⟨fun g => ⟨NameFrom.stop, fun h => by omega, by omega, by omega⟩, fun g => by omega⟩
  | succ d ih =>
    intro n hn
    have hs := NameFrom.step (s := s) (n := n) (by omega)
    have hb := bt_range s (n : Int)
    by_cases h1 : Letter (bt s (n : Int))
    · have e : dec (NameFrom s n ∧ (n = 0 → 0 < s.size → Letter (bt s 0)) ∧ 1 ≤ s.size ∧ s.size ≤ 12) = dec (NameFrom s (n + 1) ∧ (n + 1 = 0 → 0 < s.size → Letter (bt s 0)) ∧ 1 ≤ s.size ∧ s.size ≤ 12) :=
        dec_congr (by rw [hs]; exact ⟨fun g => ⟨g.1.2, fun h => by omega, g.2.2⟩, fun g => ⟨⟨.inl h1, g.1⟩, fun h _ => by subst h; exact h1, g.2.2⟩⟩)
      rw [e]
      refine Ev.step (fun k => ?_) (ih (n + 1) (by omega))
      simp only [impl_NameOk.l0]
      unfold Letter at h1
      rw [if_pos (by omega), if_pos (by omega), if_pos (by omega), if_pos (by omega), if_pos (by omega), w64 (by omega) (by omega)]
      rfl
    · by_cases h2 : Figure (bt s (n : Int)) ∧ n ≠ 0
      · have e : dec (NameFrom s n ∧ (n = 0 → 0 < s.size → Letter (bt s 0)) ∧ 1 ≤ s.size ∧ s.size ≤ 12) = dec (NameFrom s (n + 1) ∧ (n + 1 = 0 → 0 < s.size → Letter (bt s 0)) ∧ 1 ≤ s.size ∧ s.size ≤ 12) :=
          dec_congr (by rw [hs]; exact ⟨fun g => ⟨g.1.2, fun h => by omega, g.2.2⟩, fun g => ⟨⟨.inr h2.1, g.1⟩, fun h => absurd h h2.2, g.2.2⟩⟩)
        rw [e]
        refine Ev.step (fun k => ?_) (ih (n + 1) (by omega))
        simp only [impl_NameOk.l0]
        unfold Letter at h1
        unfold Figure at h2
        rw [if_pos (by omega), if_pos (by omega), if_pos (by omega)]
        by_cases h3 : bt s (n : Int) ≥ 97
        · rw [if_pos h3, if_neg (by omega), if_neg (by omega), if_neg (by omega), if_neg (by omega), w64 (by omega) (by omega)]
          rfl
        · rw [if_neg h3, if_neg (by omega), if_neg (by omega), if_neg (by omega), w64 (by omega) (by omega)]
          rfl
      · refine ev_end fun k => ?_
        have e : dec (NameFrom s n ∧ (n = 0 → 0 < s.size → Letter (bt s 0)) ∧ 1 ≤ s.size ∧ s.size ≤ 12) = false := dec_false (by
          rw [hs]
          intro ⟨⟨g1, _⟩, g2, _⟩
          by_cases z : n = 0
          · subst z; exact h1 (g2 rfl (by omega))
          · exact g1.elim h1 (fun y => h2 ⟨y, z⟩))
        rw [e]
        simp only [impl_NameOk.l0]
        unfold Letter at h1
        unfold Figure at h2
        rw [if_pos (by omega), if_pos (by omega), if_pos (by omega)]
        by_cases z : n = 0
        · by_cases h3 : bt s (n : Int) ≥ 97
          · rw [if_pos h3, if_neg (by omega), if_pos (by omega)]
          · rw [if_neg h3, if_pos (by omega)]
        · have h4 : bt s (n : Int) < 48 ∨ bt s (n : Int) > 57 := by omega
          by_cases h3 : bt s (n : Int) ≥ 97
          · rw [if_pos h3, if_neg (by omega), if_neg (by omega), if_neg (by omega), if_pos (by omega)]
          · rw [if_neg h3, if_neg (by omega)]
            by_cases h5 : bt s (n : Int) < 48
            · rw [if_pos h5]
            · rw [if_neg h5, if_pos (by omega)]
theorem implNameOk (s : ByteArray) (hl : s.size ≤ 140737488351232) : Ev (fun k => impl_NameOk.f k s) (dec (IsName s)) := by
  have h := implNameOk_l0 s hl s.size 0 (by omega)
  have e : dec (NameFrom s 0 ∧ ((0 : Nat) = 0 → 0 < s.size → Letter (bt s 0)) ∧ 1 ≤ s.size ∧ s.size ≤ 12) = dec (IsName s) :=
    dec_congr ⟨fun g => ⟨g.2.2.1, g.2.2.2, g.2.1 rfl (by omega), g.1⟩, fun g => ⟨g.2.2.2, fun _ _ => g.2.2.1, g.1, g.2.1⟩⟩
  rw [e] at h
  exact h
theorem implIndexS_l0 (l : List ByteArray) (s : ByteArray) (hl : l.length ≤ 1048576) : ∀ (d n : Nat), n + d = l.length → ∃ r : Int, Ev (fun k => slices_Index_string_string.l0 k l s (l.length : Int) (n : Int)) r ∧ (0 ≤ r ↔ ∃ j, n ≤ j ∧ j < l.length ∧ (sAt l j).toList = s.toList) := by
  intro d
  induction d with
  | zero =>
    intro n hn
    refine ⟨-1, ev_succ ?_, ⟨fun h => by omega, fun ⟨j, h1, h2, _⟩ => by omega⟩⟩
    simp only [slices_Index_string_string.l0]
    exact ev_neg (by omega) (Ev.now _)
  | succ d ih =>
    intro n hn
    by_cases h : (sAt l n).toList = s.toList
    · refine ⟨(n : Int), ev_succ ?_, ⟨fun _ => ⟨n, Nat.le_refl _, by omega, h⟩, fun _ => by omega⟩⟩
      simp only [slices_Index_string_string.l0]
      exact ev_pos (by omega) (ev_pos (by omega) (ev_pos (by omega) (ev_pos h.symm (Ev.now _))))
    · obtain ⟨r, e, hr⟩ := ih (n + 1) (by omega)
      refine ⟨r, ev_succ ?_, hr.trans ⟨fun ⟨j, a, b, c⟩ => ⟨j, by omega, b, c⟩, fun ⟨j, a, b, c⟩ => ⟨j, ?_, b, c⟩⟩⟩
      · simp only [slices_Index_string_string.l0]
        refine ev_pos (by omega) (ev_pos (by omega) (ev_pos (by omega) (ev_neg (fun z => h z.symm) ?_)))
        rw [w64 (x := (n : Int) + 1) (by omega) (by omega)]
        exact e
      · by_cases e : j = n
        · exact absurd (e ▸ c) h
        · omega
theorem implHas (l : List ByteArray) (s : ByteArray) (hl : l.length ≤ 1048576) : Ev (fun k => slices_Contains_string_string.f k l s) (dec (HasP l l.length s)) := by
  unfold slices_Contains_string_string.f slices_Index_string_string.f
  obtain ⟨r, e, hr⟩ := implIndexS_l0 l s hl l.length 0 (by omega)
  refine Ev.bind e (ev_of ?_)
  congr 1
  by_cases h : HasP l l.length s
  · rw [dec_true h]
    obtain ⟨j, b, c⟩ := h
    exact decide_eq_true (hr.2 ⟨j, Nat.zero_le _, b, c⟩)
  · rw [dec_false h]
    exact decide_eq_false (fun z => h (by obtain ⟨j, _, b, c⟩ := hr.1 z; exact ⟨j, b, c⟩))
theorem implAreNames (l : List ByteArray) (hl : l.length ≤ 1048576) (hs : ∀ x ∈ l, x.size ≤ 1048576) : Ev (fun k => impl_areNames.f k l) (dec (∀ j, 0 ≤ j → j < l.length → NameAt l j)) := by
  unfold impl_areNames.f
  refine ev_eq (all_loop2 (fun k i => impl_areNames.l0 k l l (l.length : Int) i) l.length (NameAt l) True ?_ ?_ ?_ l.length 0 (by omega)) (dec_congr ⟨fun h => h.1, fun h => ⟨h, trivial⟩⟩)
  · refine ev_succ ?_
    simp only [impl_areNames.l0]
    exact ev_neg (by omega) (ev_eq (Ev.now _) (dec_true trivial).symm)
  · intro n r hn hp h
    have g := sAt_size hs n
    refine ev_succ ?_
    simp only [impl_areNames.l0, Int.toNat_natCast]
    refine ev_pos (by omega) (ev_pos (by omega) (ev_pos (by omega) (Ev.bind (implNameOk (sAt l n) (by omega)) (ev_pos (dec_true hp.1) (ev_pos (by omega) (Ev.bind (implHas (l.take n) (sAt l n) (by rw [List.length_take]; omega)) (ev_neg ?_ ?_)))))))
    · rw [dec_congr (hasP_take l (by omega) _), dec_false hp.2]; decide
    · rw [w64 (x := (n : Int) + 1) (by omega) (by omega)]
      exact h
  · intro n hn hp
    have g := sAt_size hs n
    refine ev_succ ?_
    simp only [impl_areNames.l0, Int.toNat_natCast]
    refine ev_pos (by omega) (ev_pos (by omega) (ev_pos (by omega) (Ev.bind (implNameOk (sAt l n) (by omega)) ?_)))
    by_cases a : IsName (sAt l n)
    · refine ev_pos (dec_true a) (ev_pos (by omega) (Ev.bind (implHas (l.take n) (sAt l n) (by rw [List.length_take]; omega)) (ev_pos ?_ (Ev.now _))))
      rw [dec_congr (hasP_take l (by omega) _)]
      exact dec_true (Classical.byContradiction fun z => hp ⟨a, z⟩)
    · exact ev_neg (by rw [dec_false a]; decide) (Ev.now _)
theorem names_app (L : List ByteArray) (t : ByteArray) : (∀ j, 0 ≤ j → j < (L ++ [t]).length → NameAt (L ++ [t]) j) ↔ NamesT L ∧ IsName t ∧ ¬ HasP L L.length t := by
  have hh : ∀ (n : Nat) (s : ByteArray), n ≤ L.length → (HasP (L ++ [t]) n s ↔ HasP L n s) := by
    intro n s hn
    unfold HasP
    exact ⟨fun ⟨j, a, b⟩ => ⟨j, a, by rw [sAt_app_lt L t (by omega)] at b; exact b⟩, fun ⟨j, a, b⟩ => ⟨j, a, by rw [sAt_app_lt L t (by omega)]; exact b⟩⟩
  have hlen : (L ++ [t]).length = L.length + 1 := by simp
  unfold NamesT NameAt
  rw [hlen]
  constructor
  · intro h
    refine ⟨fun j h1 h2 => ?_, ?_⟩
    · have := h j h1 (by omega)
      rw [sAt_app_lt L t h2, hh j _ (by omega)] at this
      exact this
    · have := h L.length (Nat.zero_le _) (by omega)
      rw [sAt_app_eq, hh _ _ (Nat.le_refl _)] at this
      exact this
  · intro ⟨h, h2⟩ j hj1 hj2
    by_cases e : j < L.length
    · rw [sAt_app_lt L t e, hh j _ (by omega)]
      exact h j hj1 e
    · obtain rfl : j = L.length := by omega
      rw [sAt_app_eq, hh _ _ (Nat.le_refl _)]
      exact h2
theorem badP (n : Nat) (row : List Int) : impl_TableOk_1.bad n row = false ↔ ((row.length : Int) = (n : Int) ∧ ∀ i : Nat, 0 ≤ i → i < n → Deci (rd row (i : Int))) := by
  by_cases e : (row.length : Int) = (n : Int)
  · have nn : ((!(row.all impl_TableOk_1.dc)) = false) ↔ row.all impl_TableOk_1.dc = true := by cases row.all impl_TableOk_1.dc <;> simp
    rw [impl_TableOk_1.bad_eq e, nn, List.all_eq_true]
    constructor
    · intro h
      refine ⟨e, fun i _ hi => ?_⟩
      have := h _ (rd_mem (xs := row) (i := (i : Int)) (by omega) (by omega))
      unfold impl_TableOk_1.dc at this
      have q := of_decide_eq_true this
      exact q
    · intro h x hx
      obtain ⟨i, hi, rfl⟩ := List.getElem_of_mem hx
      have := h.2 i (Nat.zero_le _) (by omega)
      rw [rd_of (List.getElem?_eq_getElem hi)] at this
      exact decide_eq_true this
  · rw [impl_TableOk_1.bad_ne e]
    constructor
    · intro h
      cases h
    · exact fun h => absurd h.1 e
theorem anyBad (n : Nat) (R : List (List Int)) : R.any (impl_TableOk_1.bad n) = !dec (∀ j : Nat, 0 ≤ j → j < R.length → impl_TableOk_1.bad n (R.getD j []) = false) := by
  by_cases h : ∀ j : Nat, 0 ≤ j → j < R.length → impl_TableOk_1.bad n (R.getD j []) = false
  · rw [dec_true h, Bool.not_true, List.any_eq_false]
    intro x hx
    obtain ⟨j, hj, rfl⟩ := List.getElem_of_mem hx
    have := h j (Nat.zero_le _) hj
    rw [List.getD_eq_getElem?_getD, List.getElem?_eq_getElem hj] at this
    simpa using this
  · rw [dec_false h, Bool.not_false, List.any_eq_true]
    refine Classical.byContradiction fun g => h fun j _ hj => Classical.byContradiction fun y => g ⟨R[j], List.getElem_mem hj, ?_⟩
    rw [List.getD_eq_getElem?_getD, List.getElem?_eq_getElem hj] at y
    simpa using y
theorem implTableOk (L : List ByteArray) (t : ByteArray) (R : List (List Int)) (Y : List Int) (hL : L.length ≤ 1048576) (hs : ∀ x ∈ L, x.size ≤ 1048576) (ht : t.size ≤ 1048576) (hR : R.length ≤ 1048576) (hY : Y.length ≤ 1048576) : Ev (fun k => impl_TableOk.f k L t R Y) (dec (TableP L t R Y)) := by
  unfold impl_TableOk.f TableP
  have cl : slices_Clone_string_string.f L = some L := by
    unfold slices_Clone_string_string.f
    exact if_pos (by omega)
  simp only [implWithin, cl, Option.bind_some, impl_TableOk_1.f]
  by_cases k1 : 1 ≤ (L.length : Int) ∧ (L.length : Int) ≤ 4
  case neg => exact ev_neg (by rw [decide_eq_false k1]; decide) (ev_eq (Ev.now _) (dec_false (fun h => k1 h.1)).symm)
  have hlen : (L ++ [t]).length = L.length + 1 := by simp
  refine ev_pos (decide_eq_true k1) (ev_pos (by rw [List.length_singleton]; omega) (Ev.bind (implAreNames (L ++ [t]) (by omega) ?_) ?_))
  · intro x hx
    rcases List.mem_append.1 hx with h | h
    · exact hs x h
    · obtain rfl := List.mem_singleton.1 h
      exact ht
  rw [dec_congr (names_app L t)]
  by_cases k2 : NamesT L ∧ IsName t ∧ ¬ HasP L L.length t
  case neg => exact ev_neg (by rw [dec_false k2]; decide) (ev_eq (Ev.now _) (dec_false (fun h => k2 ⟨h.2.2.2.2.2.1, h.2.1, h.2.2.1⟩)).symm)
  refine ev_pos (dec_true k2) ?_
  by_cases k4 : 1 ≤ (R.length : Int) ∧ (R.length : Int) ≤ 40
  case neg => exact ev_neg (by rw [decide_eq_false k4]; decide) (ev_eq (Ev.now _) (dec_false (fun h => k4 h.2.2.2.1)).symm)
  refine ev_pos (decide_eq_true k4) ?_
  by_cases k5 : (Y.length : Int) = (R.length : Int)
  case neg => exact ev_neg k5 (ev_eq (Ev.now _) (dec_false (fun h => k5 h.2.2.2.2.1)).symm)
  refine ev_pos k5 (Ev.bind (implAreDec Y hY) ?_)
  by_cases k6 : ∀ j : Nat, j < Y.length → Deci (rd Y (j : Int))
  case neg => exact ev_neg (by rw [dec_false k6]; decide) (ev_eq (Ev.now _) (dec_false (fun h => k6 (fun j hj => (h.2.2.2.2.2.2 j (Nat.zero_le _) (by omega)).2.1))).symm)
  refine ev_pos (dec_true k6) (ev_of ?_)
  congr 1
  rw [anyBad, Bool.not_not]
  refine dec_congr ⟨fun h => ⟨k1, k2.2.1, k2.2.2, k4, k5, k2.1, fun j h1 h2 => ?_⟩, fun h j h1 h2 => ?_⟩
  · have := (badP _ _).1 (h j h1 h2)
    exact ⟨this.1, k6 j (by omega), this.2⟩
  · have := h.2.2.2.2.2.2 j h1 h2
    exact (badP _ _).2 ⟨this.1, this.2.2⟩
theorem implFixTexts (row : List Int) (h : ∀ x ∈ row, Deci x) (hl : row.length ≤ 1000) : Ev (fun k => impl_fixTexts.f k row) (row.map (fun x => bs (fixT x))) := by
  unfold impl_fixTexts.f
  refine ev_eq (fold_loop (fun k (S : List ByteArray) i => impl_fixTexts.l0 k S row (row.length : Int) i) row.length (fun n => (row.take n).map (fun x => bs (fixT x))) (row.map (fun x => bs (fixT x))) ?_ ?_ row.length 0 (by omega)) rfl
  · refine ev_succ ?_
    simp only [impl_fixTexts.l0]
    exact ev_neg (by omega) (ev_eq (Ev.now _) (by rw [List.take_of_length_le (Nat.le_refl _)]))
  · intro n hn next
    have hx : row[n]? = some row[n] := List.getElem?_eq_getElem hn
    refine ev_succ ?_
    simp only [impl_fixTexts.l0, rd_of hx]
    refine ev_pos (by omega) (ev_pos (by omega) (ev_pos (by omega) (Ev.bind (implFixText _ (h _ (List.getElem_mem hn))) (ev_pos ?_ ?_))))
    · rw [List.length_map, List.length_take]; omega
    · rw [w64 (x := (n : Int) + 1) (by omega) (by omega)]
      have e : (row.take n).map (fun x => bs (fixT x)) ++ [bs (fixT row[n])] = (row.take (n + 1)).map (fun x => bs (fixT x)) := by
        rw [List.take_succ_eq_append_getElem hn, List.map_append]; rfl
      rw [e]
      exact next
theorem implTableText (L : List ByteArray) (t : ByteArray) (R : List (List Int)) (Y : List Int) (hL : L.length ≤ 1048576) (hs : ∀ x ∈ L, x.size ≤ 1048576) (ht : t.size ≤ 1048576) (hR : R.length ≤ 1048576) (hYl : Y.length ≤ 1048576) : Ev (fun k => impl_TableText.f k L t R Y) (bs (tableText L t R Y)) := by
  have cl : slices_Clone_string_string.f L = some L := by
    unfold slices_Clone_string_string.f
    exact if_pos (by omega)
  unfold impl_TableText.f tableText
  simp only [cl, Option.bind_some]
  refine Ev.bind (implTableOk L t R Y hL hs ht hR hYl) ?_
  by_cases h : TableP L t R Y
  case neg =>
    rw [dec_false h]
    exact ev_neg (by decide) (Ev.now _)
  rw [if_pos (dec_true h)]
  have hLl := h.1
  have hRl := h.2.2.2.1
  have hY := h.2.2.2.2.1
  refine ev_pos (dec_true h) (ev_pos (by rw [List.length_singleton]; omega) ?_)
  refine fold_loop (fun k (S : List (List ByteArray)) i => impl_TableText.l0 k S R (R.length : Int) i L t R Y) R.length (fun n => (L ++ [t]) :: trows R Y n) _ ?_ ?_ R.length 0 (by omega)
  · refine ev_succ ?_
    simp only [impl_TableText.l0]
    have k1 := tableRows_length h
    exact ev_neg (by omega) (Ev.bind (implCsvText (tableRows L t R Y) (by omega) (fun row hr => ⟨by have := (tableRows_ok h row hr).1; omega, fun f hf => ((tableRows_ok h row hr).2 f hf).2⟩) (by omega)) (Ev.now _))
  · intro n hn next
    have g := h.2.2.2.2.2.2 n (Nat.zero_le _) hn
    have gl := g.1
    refine ev_succ ?_
    simp only [impl_TableText.l0, rdL, Int.toNat_natCast, Option.bind_some]
    refine ev_pos (by omega) (ev_pos (by omega) (ev_pos (by omega) (Ev.bind (implFixTexts _ (fun x hx => row_deci g hx) (by omega)) (ev_pos (by omega) (Ev.bind (implFixText _ g.2.1) (ev_pos ?_ (ev_pos ?_ ?_)))))))
    · rw [List.length_map, List.length_singleton]; omega
    · rw [List.length_cons, List.length_singleton]; unfold trows; rw [List.length_map, List.length_range]; omega
    · rw [w64 (x := (n : Int) + 1) (by omega) (by omega)]
      rw [trows_succ, ← List.cons_append] at next
      exact next

theorem FnExactTableText (l0_0 : List ByteArray) (a0_1 : ByteArray) (l0_2 : List (List Int)) (l0_3 : List Int)
    (w0_0 : l0_0.length ≤ maxLen ∧ ∀ x ∈ l0_0, x.size ≤ maxLen) (w0_1 : a0_1.size ≤ maxLen) (w0_2 : l0_2.length ≤ maxLen ∧ ∀ x ∈ l0_2, x.length ≤ maxLen ∧ ∀ y ∈ x, (Lit.int .i64 y).wf = true) (w0_3 : l0_3.length ≤ maxLen ∧ ∀ x ∈ l0_3, (Lit.int .i64 x).wf = true) : ∃ k, laws_FnExactTableText.f k l0_0 a0_1 l0_2 l0_3 = some true := by
  refine Ev.rounds ?_
  unfold laws_FnExactTableText.f
  have f0 : l0_0.length ≤ ws l0_0 := by unfold ws; omega
  have f2 : l0_2.length ≤ wt l0_2 := by unfold wt; omega
  refine Ev.bind (szTable l0_0 a0_1 l0_2 l0_3 1048576 (by omega) (by omega) w0_0.1 w0_0.2 w0_1 w0_2.1 (fun x hx => (w0_2.2 x hx).1) w0_3.1) ?_
  by_cases b0 : (1048576 : Int) < ws l0_0 + a0_1.size + wt l0_2 + l0_3.length
  · rw [if_pos b0]
    exact ev_pos (by omega) (Ev.now _)
  rw [if_neg b0]
  refine ev_neg (by omega) ?_
  have t0 := toTable l0_0 a0_1 l0_2 l0_3 (by omega) (by omega) (by omega)
  have hs : ∀ x ∈ l0_0, x.size ≤ 1048576 := fun x hx => by have := ws_mem hx; omega
  refine Ev.bind t0 (Ev.bind (specTableText l0_0 a0_1 l0_2 l0_3 (by omega) hs (by omega) (by omega)) (Ev.bind t0 (Ev.bind (implTableText l0_0 a0_1 l0_2 l0_3 (by omega) hs (by omega) (by omega) (by omega)) (ev_pos rfl ?_))))
  exact Ev.bind t0 (Ev.bind (eqTable l0_0 a0_1 l0_2 l0_3 (by omega) (by omega) (by omega)) (ev_pos rfl (Ev.now _)))

end Go.Proofs.YtepnbcdbagjmbabDoor.Pure
