/- a split partitions the rows and preserves their order. Conditions: none but the row's own.
-/
import Derived.Test.YtadgobfcchhgfaaQFnSplitx3
set_option linter.unusedVariables false
set_option linter.unusedSimpArgs false
namespace Go.Proofs.Ytadgobfcchhgfaa.Pure
open Go.RowKit Go.Proofs.Ytadgobfcchhgfaa.QFnSplit Go.Proofs.YtadgobfcchhgfaaW.PrintWords Go.Proofs.YtadgobfcchhgfaaW.PrintLast Go.Proofs.YtadgobfcchhgfaaW.PrintMore

theorem w64 {x : Int} (h1 : -9223372036854775808 ≤ x) (h2 : x ≤ 9223372036854775807) : wrap64 x = x := by unfold wrap64; omega
theorem i64_wf {x : Int} (h : (Lit.int .i64 x).wf = true) : -9223372036854775808 ≤ x ∧ x ≤ 9223372036854775807 := by
  simpa [Lit.wf, IntKind.min, IntKind.max, IntKind.signed, IntKind.bits] using h
theorem u8_wf {x : Int} (h : (Lit.int .u8 x).wf = true) : 0 ≤ x ∧ x ≤ 255 := by
  simpa [Lit.wf, IntKind.min, IntKind.max, IntKind.signed, IntKind.bits] using h
theorem rd_eq {xs : List Int} {i : Int} (h0 : 0 ≤ i) (h : i < (xs.length : Int)) : xs[i.toNat]? = some (rd xs i) := by
  unfold rd
  rw [List.getD_eq_getElem?_getD, List.getElem?_eq_getElem (by omega)]
  rfl
theorem rd_mem {xs : List Int} {i : Int} (h0 : 0 ≤ i) (h : i < (xs.length : Int)) : rd xs i ∈ xs := List.mem_of_getElem? (rd_eq h0 h)
theorem rd_of {xs : List Int} {n : Nat} {v : Int} (h : xs[n]? = some v) : rd xs (n : Int) = v := by
  unfold rd
  rw [List.getD_eq_getElem?_getD, Int.toNat_natCast, h]
  rfl
theorem ev_of {α : Type} {r : α} {p : Option α} (h : p = some r) : Ev (fun _ => p) r := ⟨0, fun _ _ => h⟩
theorem ev_end {α : Type} {g : Nat → Option α} {r : α} (h : ∀ k, g (k + 1) = some r) : Ev g r := Ev.step (f := fun _ => some r) h (Ev.now r)
theorem ev_pos {α : Type} {c : Prop} [Decidable c] {f g : Nat → Option α} {r : α} (hc : c) (h : Ev f r) : Ev (fun k => if c then f k else g k) r := Ev.congr (fun _ => if_pos hc) h
theorem ev_neg {α : Type} {c : Prop} [Decidable c] {f g : Nat → Option α} {r : α} (hc : ¬ c) (h : Ev g r) : Ev (fun k => if c then f k else g k) r := Ev.congr (fun _ => if_neg hc) h
theorem rd_drop {xs : List Int} {n : Nat} (h : n < xs.length) : xs.drop n = rd xs (n : Int) :: xs.drop (n + 1) := by
  rw [List.drop_eq_getElem_cons h]
  congr 1
  unfold rd
  rw [List.getD_eq_getElem?_getD, Int.toNat_natCast, List.getElem?_eq_getElem h]
  rfl
noncomputable def dec (p : Prop) : Bool := @decide p (Classical.propDecidable p)
theorem dec_true {p : Prop} (h : p) : dec p = true := @decide_eq_true p (Classical.propDecidable p) h
theorem dec_false {p : Prop} (h : ¬ p) : dec p = false := @decide_eq_false p (Classical.propDecidable p) h
theorem dec_iff {p : Prop} : dec p = true ↔ p := @decide_eq_true_iff p (Classical.propDecidable p)
theorem dec_congr {p q : Prop} (h : p ↔ q) : dec p = dec q := by rw [propext h]
theorem dec_eq {p : Prop} [Decidable p] : dec p = decide p := by
  by_cases h : p
  · rw [dec_true h, decide_eq_true h]
  · rw [dec_false h, decide_eq_false h]
theorem ev_succ {α : Type} {g : Nat → Option α} {r : α} (h : Ev (fun k => g (k + 1)) r) : Ev g r := by
  obtain ⟨K, h⟩ := h
  refine ⟨K + 1, fun n hn => ?_⟩
  obtain ⟨m, rfl⟩ : ∃ m, n = m + 1 := ⟨n - 1, by omega⟩
  exact h m (by omega)
theorem ev_eq {α : Type} {g : Nat → Option α} {r r' : α} (h : Ev g r) (e : r = r') : Ev g r' := e ▸ h
theorem gd_eq {α : Type} (z : α) {xs : List α} {i : Int} (h0 : 0 ≤ i) (h : i < (xs.length : Int)) : xs[i.toNat]? = some (xs.getD i.toNat z) := by
  rw [List.getD_eq_getElem?_getD, List.getElem?_eq_getElem (by omega)]
  rfl
theorem gd_nat {α : Type} (z : α) {xs : List α} {n : Nat} {v : α} (h : xs[n]? = some v) : xs.getD ((n : Int)).toNat z = v := by
  rw [List.getD_eq_getElem?_getD, Int.toNat_natCast, h]
  rfl
theorem gd_drop {α : Type} (z : α) {xs : List α} {n : Nat} (h : n < xs.length) : xs.drop n = xs.getD ((n : Int)).toNat z :: xs.drop (n + 1) := by
  rw [List.drop_eq_getElem_cons h]
  congr 1
  exact (gd_nat z (List.getElem?_eq_getElem h)).symm
/-- A loop that copies: place after place is set. -/
theorem copy_loop {α β : Type} (F : Nat → List β → Int → Option (List β)) (l : List α) (g : α → β)
    (hend : ∀ acc : List β, acc.length = l.length → Ev (fun k => F k acc (l.length : Int)) acc)
    (hstep : ∀ (acc : List β) (n : Nat) (x : α) (r : List β), n < l.length → acc.length = l.length → l[n]? = some x → Ev (fun k => F k (acc.set n (g x)) ((n + 1 : Nat) : Int)) r → Ev (fun k => F k acc (n : Int)) r) :
    ∀ (d n : Nat) (acc : List β), n + d = l.length → acc.length = l.length → (∀ j, j < n → acc[j]? = (l.map g)[j]?) → Ev (fun k => F k acc (n : Int)) (l.map g) := by
  intro d
  induction d with
  | zero =>
    intro n acc hn ha hp
    obtain rfl : n = l.length := by omega
    refine ev_eq (hend acc ha) (List.ext_getElem? fun j => ?_)
    by_cases h : j < l.length
    · exact hp j h
    · rw [List.getElem?_eq_none (by omega), List.getElem?_eq_none (by simp; omega)]
  | succ d ih =>
    intro n acc hn ha hp
    have hx : l[n]? = some l[n] := List.getElem?_eq_getElem (by omega)
    refine hstep acc n l[n] _ (by omega) ha hx (ih (n + 1) _ (by omega) (by simpa using ha) ?_)
    intro j hj
    rw [List.getElem?_set]
    by_cases h : n = j
    · subst h
      rw [if_pos rfl, if_pos (by omega), List.getElem?_map, hx]
      rfl
    · rw [if_neg h]
      exact hp j (by omega)
/-- A loop that tests place after place. -/
theorem all_loop (F : Nat → Int → Option Bool) (L : Nat) (p : Nat → Prop) (hend : Ev (fun k => F k (L : Int)) true)
    (hyes : ∀ (n : Nat) (r : Bool), n < L → p n → Ev (fun k => F k ((n + 1 : Nat) : Int)) r → Ev (fun k => F k (n : Int)) r)
    (hno : ∀ n : Nat, n < L → ¬ p n → Ev (fun k => F k (n : Int)) false) :
    ∀ (d n : Nat), n + d = L → Ev (fun k => F k (n : Int)) (dec (∀ j, n ≤ j → j < L → p j)) := by
  intro d
  induction d with
  | zero =>
    intro n hn
    obtain rfl : n = L := by omega
    exact ev_eq hend (dec_true (fun j h1 h2 => by omega)).symm
  | succ d ih =>
    intro n hn
    by_cases h : p n
    · refine hyes n _ (by omega) h (ev_eq (ih (n + 1) (by omega)) (dec_congr ⟨fun g j h1 h2 => ?_, fun g j h1 h2 => g j (by omega) h2⟩))
      by_cases e : j = n
      · exact e ▸ h
      · exact g j (by omega) h2
    · exact ev_eq (hno n (by omega) h) (dec_false (fun g => h (g n (Nat.le_refl _) (by omega)))).symm
/-- A loop that goes round L times over a state. -/
theorem fold_loop {σ ρ : Type} (F : Nat → σ → Int → Option ρ) (L : Nat) (S : Nat → σ) (r : ρ) (hend : Ev (fun k => F k (S L) (L : Int)) r)
    (hstep : ∀ n : Nat, n < L → Ev (fun k => F k (S (n + 1)) ((n + 1 : Nat) : Int)) r → Ev (fun k => F k (S n) (n : Int)) r) :
    ∀ (d n : Nat), n + d = L → Ev (fun k => F k (S n) (n : Int)) r := by
  intro d
  induction d with
  | zero =>
    intro n hn
    obtain rfl : n = L := by omega
    exact hend
  | succ d ih =>
    intro n hn
    exact hstep n (by omega) (ih (n + 1) (by omega))
theorem set_mid {α : Type} (a b : List α) (x v : α) {n : Nat} (h : a.length = n) : (a ++ x :: b).set n v = a ++ v :: b := by
  subst h
  rw [List.set_append_right _ _ (Nat.le_refl _), Nat.sub_self]
  rfl
theorem get_mid {α : Type} (a b : List α) (x : α) {n : Nat} (h : a.length = n) : (a ++ x :: b)[n]? = some x := by
  subst h
  rw [List.getElem?_append_right (Nat.le_refl _), Nat.sub_self]
  rfl
/-- A loop that tests place after place, and one thing more at its end. -/
theorem all_loop2 (F : Nat → Int → Option Bool) (L : Nat) (p : Nat → Prop) (E : Prop) (hend : Ev (fun k => F k (L : Int)) (dec E))
    (hyes : ∀ (n : Nat) (r : Bool), n < L → p n → Ev (fun k => F k ((n + 1 : Nat) : Int)) r → Ev (fun k => F k (n : Int)) r)
    (hno : ∀ n : Nat, n < L → ¬ p n → Ev (fun k => F k (n : Int)) false) :
    ∀ (d n : Nat), n + d = L → Ev (fun k => F k (n : Int)) (dec ((∀ j, n ≤ j → j < L → p j) ∧ E)) := by
  intro d
  induction d with
  | zero =>
    intro n hn
    obtain rfl : n = L := by omega
    exact ev_eq hend (dec_congr ⟨fun h => ⟨fun j h1 h2 => by omega, h⟩, fun h => h.2⟩)
  | succ d ih =>
    intro n hn
    by_cases h : p n
    · refine hyes n _ (by omega) h (ev_eq (ih (n + 1) (by omega)) (dec_congr ⟨fun g => ⟨fun j h1 h2 => ?_, g.2⟩, fun g => ⟨fun j h1 h2 => g.1 j (by omega) h2, g.2⟩⟩))
      by_cases e : j = n
      · exact e ▸ h
      · exact g.1 j (by omega) h2
    · exact ev_eq (hno n (by omega) h) (dec_false (fun g => h (g.1 n (Nat.le_refl _) (by omega)))).symm
theorem lawsBig (l : List Int) : laws_big.f l = some (decide ((l.length : Int) > 1048576)) := rfl
theorem and255 (x : Int) : 0 ≤ Go.bits .and .i64 x 255 ∧ Go.bits .and .i64 x 255 ≤ 255 := by
  simp only [Go.bits]
  have h : (BitVec.ofInt IntKind.i64.bits x &&& BitVec.ofInt IntKind.i64.bits 255).toNat ≤ 255 := by
    rw [BitVec.toNat_and]
    exact Nat.le_trans Nat.and_le_right (by decide)
  rw [IntKind.wrap_i64]
  omega
theorem l1New_l0 (l : List Int) (hl : l.length ≤ 35184372088832) : ∀ (d n : Nat) (x : Int), n + d = l.length → ∃ h, Ev (fun k => spec_l1New.l0 k l x (n : Int)) (l, 0, h) := by
  intro d
  induction d with
  | zero =>
    intro n x hn
    refine ⟨x, ev_end fun k => ?_⟩
    simp only [spec_l1New.l0]
    rw [if_neg (by omega)]
  | succ d ih =>
    intro n x hn
    by_cases h4 : (n : Int) < 4000
    · obtain ⟨h, e⟩ := ih (n + 1) (Go.bits .and .i64 (wrap64 ((wrap64 ((wrap64 (x * 131)) + (wrap64 (rd l n)))) + 7)) 1073741823) (by omega)
      refine ⟨h, Ev.step (fun k => ?_) e⟩
      simp only [spec_l1New.l0]
      rw [if_pos (by omega), if_pos h4, if_pos (by omega), w64 (x := (n : Int) + 1) (by omega) (by omega)]
      rfl
    · refine ⟨x, ev_end fun k => ?_⟩
      simp only [spec_l1New.l0]
      rw [if_pos (by omega), if_neg h4]
theorem l1New (l : List Int) (hl : l.length ≤ 35184372088832) : ∃ h, Ev (fun k => spec_l1New.f k l) (l, 0, h) := l1New_l0 l hl l.length 0 _ (by omega)
/-- A cursor's place is within its bytes. -/
def Cur (l : List Int) (i : Int) : Prop := 0 ≤ i ∧ i ≤ l.length ∧ l.length ≤ 35184372088832
theorem cur0 (l : List Int) (hl : l.length ≤ 35184372088832) : Cur l 0 := ⟨by omega, by omega, hl⟩
theorem l1Byte {l : List Int} {i : Int} (h : Int) (hc : Cur l i) : ∃ r i' h', spec_l1Byte.f l i h = some (r, i', h') ∧ Cur l i' ∧ 0 ≤ r ∧ r ≤ 255 := by
  unfold Cur at *
  unfold spec_l1Byte.f
  by_cases h1 : i < (l.length : Int)
  · rw [if_pos h1, if_pos hc.1, w64 (x := i + 1) (by omega) (by omega)]
    exact ⟨_, _, _, rfl, by omega, and255 _⟩
  · rw [if_neg h1]
    exact ⟨_, _, _, rfl, by omega, and255 _⟩
theorem l1Below {l : List Int} {i : Int} (h : Int) (n : Int) (hc : Cur l i) : ∃ r i' h', spec_l1Below.f l i h n = some (r, i', h') ∧ Cur l i' ∧ 0 ≤ r ∧ (0 < n → r < n) ∧ (n ≤ 0 → r = 0) := by
  unfold spec_l1Below.f
  by_cases h1 : n ≤ 0
  · rw [if_pos h1]
    exact ⟨0, _, _, rfl, hc, by omega, by omega, fun _ => rfl⟩
  rw [if_neg h1]
  by_cases h2 : n ≤ 256
  · rw [if_pos h2]
    obtain ⟨r, i', h', e, hc', h3, h4⟩ := l1Byte h hc
    rw [e]
    simp only [Option.bind_some]
    rw [if_neg (by omega)]
    refine ⟨_, _, _, rfl, hc', ?_, ?_, by omega⟩
    · rw [Int.tmod_eq_emod_of_nonneg h3]; exact Int.emod_nonneg _ (by omega)
    · intro _; rw [Int.tmod_eq_emod_of_nonneg h3]; exact Int.emod_lt_of_pos _ (by omega)
  · rw [if_neg h2]
    obtain ⟨x, i1, h1, e1, hc1, x1, x2⟩ := l1Byte h hc
    obtain ⟨y, i2, h2, e2, hc2, y1, y2⟩ := l1Byte h1 hc1
    obtain ⟨z, i3, h3, e3, hc3, z1, z2⟩ := l1Byte h2 hc2
    obtain ⟨w, i4, h4, e4, hc4, w1, w2⟩ := l1Byte h3 hc3
    simp only [e1, e2, e3, e4, Option.bind_some]
    rw [if_neg (by omega), w64 (x := x * 16777216) (by omega) (by omega), w64 (x := y * 65536) (by omega) (by omega), w64 (x := x * 16777216 + y * 65536) (by omega) (by omega), w64 (x := z * 256) (by omega) (by omega), w64 (x := x * 16777216 + y * 65536 + z * 256) (by omega) (by omega), w64 (x := x * 16777216 + y * 65536 + z * 256 + w) (by omega) (by omega)]
    have h5 : 0 ≤ x * 16777216 + y * 65536 + z * 256 + w := by omega
    refine ⟨_, _, _, rfl, hc4, ?_, ?_, by omega⟩
    · rw [Int.tmod_eq_emod_of_nonneg h5]; exact Int.emod_nonneg _ (by omega)
    · intro _; rw [Int.tmod_eq_emod_of_nonneg h5]; exact Int.emod_lt_of_pos _ (by omega)
theorem l1Once {l : List Int} {i : Int} (h : Int) (n : Int) (hc : Cur l i) : ∃ r i' h', spec_l1Once.f l i h n = some (r, i', h') ∧ Cur l i' := by
  unfold spec_l1Once.f
  obtain ⟨a, i1, h1, e1, c1, _⟩ := l1Below h n hc
  rw [e1]
  exact ⟨_, _, _, rfl, c1⟩
theorem l1PickInt {l : List Int} {i : Int} (h : Int) (xs : List Int) (hc : Cur l i) (hx : 0 < xs.length) : ∃ r i' h', spec_l1PickInt.f l i h xs = some (r, i', h') ∧ Cur l i' ∧ r ∈ xs := by
  unfold spec_l1PickInt.f
  obtain ⟨r, i', h', e, hc', h1, h2, _⟩ := l1Below h (xs.length : Int) hc
  rw [e]
  simp only [Option.bind_some]
  have h3 := h2 (by omega)
  rw [if_pos h1, if_pos h3]
  exact ⟨_, _, _, rfl, hc', rd_mem h1 h3⟩
theorem l12Rows_l0 {l : List Int} (N : Nat) (hN : N ≤ 1024) : ∀ (d n : Nat) (xs : List Int) (i h : Int), n + d = N → xs.length ≤ n → Cur l i →
    ∃ ys i' h', Ev (fun k => spec_l12Rows.l0 k (N : Int) xs (n : Int) l i h) (ys, i', h') ∧ Cur l i' ∧ ys.length ≤ N + 1 := by
  intro d
  induction d with
  | zero =>
    intro n xs i h hn hl hc
    obtain ⟨b, i1, h1, e1, c1⟩ := l1Once h 10 hc
    by_cases g : b = true
    · obtain ⟨a, i2, h2, e2, c2, _⟩ := l1PickInt h1 ([0, (N : Int), (-1), 9223372036854775807] : List Int) c1 (by simp)
      refine ⟨xs ++ [a], i2, h2, ev_succ ?_, c2, by simp; omega⟩
      simp only [spec_l12Rows.l0, e1, e2, Option.bind_some]
      exact ev_neg (by omega) (ev_pos g (ev_pos (by omega) (Ev.now _)))
    · refine ⟨xs, i1, h1, ev_succ ?_, c1, by omega⟩
      simp only [spec_l12Rows.l0, e1, Option.bind_some]
      exact ev_neg (by omega) (ev_neg g (Ev.now _))
  | succ d ih =>
    intro n xs i h hn hl hc
    obtain ⟨b, i1, h1, e1, c1⟩ := l1Once h 3 hc
    have hw : wrap64 ((n : Int) + 1) = ((n + 1 : Nat) : Int) := w64 (by omega) (by omega)
    by_cases g : b = true
    · obtain ⟨ys, i3, h3, e3, c3, hl'⟩ := ih (n + 1) xs i1 h1 (by omega) (by omega) c1
      refine ⟨ys, i3, h3, ev_succ ?_, c3, hl'⟩
      simp only [spec_l12Rows.l0, e1, Option.bind_some, hw]
      exact ev_pos (by omega) (ev_pos g e3)
    · obtain ⟨ys, i3, h3, e3, c3, hl'⟩ := ih (n + 1) (xs ++ [(n : Int)]) i1 h1 (by omega) (by simp; omega) c1
      refine ⟨ys, i3, h3, ev_succ ?_, c3, hl'⟩
      simp only [spec_l12Rows.l0, e1, Option.bind_some, hw]
      exact ev_pos (by omega) (ev_neg g (ev_pos (by omega) e3))
theorem drawSplit_l0 {l : List Int} (N : Nat) (hN : N ≤ 1024) : ∀ (d n : Nat) (xs : List Int) (i h : Int), n + d = N → xs.length = n → Cur l i →
    ∃ ys rows b, Ev (fun k => spec_DrawSplitRows.l0 k xs (N : Int) (n : Int) l i h) (ys, rows, b) ∧ ys.length = N ∧ rows.length ≤ N + 1 := by
  intro d
  induction d with
  | zero =>
    intro n xs i h hn hl hc
    obtain ⟨rows, i1, h1, e1, c1, hr⟩ := l12Rows_l0 (l := l) N hN N 0 [] i h (by omega) (by simp) hc
    obtain ⟨b, i2, h2, e2, c2, _⟩ := l1PickInt h1 ([0, 1, 2, 3, (-1), 9223372036854775807] : List Int) c1 (by simp)
    refine ⟨xs, rows, b, ev_succ ?_, by omega, hr⟩
    simp only [spec_DrawSplitRows.l0]
    refine ev_neg (by omega) (Ev.bind (show Ev (fun k => spec_l12Rows.f k l i h (N : Int)) (rows, i1, h1) from e1) ?_)
    simp only [e2, Option.bind_some]
    exact Ev.now _
  | succ d ih =>
    intro n xs i h hn hl hc
    have hw : wrap64 ((n : Int) + 1) = ((n + 1 : Nat) : Int) := w64 (by omega) (by omega)
    obtain ⟨a, i2, h2, e2, c2, _⟩ := l1Below h 4 hc
    obtain ⟨ys, rows, b, e3, hl', hr⟩ := ih (n + 1) (xs ++ [a]) i2 h2 (by omega) (by simp [hl]) c2
    refine ⟨ys, rows, b, ev_succ ?_, hl', hr⟩
    simp only [spec_DrawSplitRows.l0, e2, Option.bind_some, hw]
    exact ev_pos (by omega) (ev_pos (by omega) e3)
theorem drawSplitRows (l : List Int) (hl : l.length ≤ 35184372088832) : ∃ bins rows b, Ev (fun k => spec_DrawSplitRows.f k l) (bins, rows, b) ∧ bins.length ≤ 8 ∧ rows.length ≤ 9 := by
  unfold spec_DrawSplitRows.f
  obtain ⟨h, e1⟩ := l1New l hl
  obtain ⟨a, i1, h1, e2, c1, a1, a2, _⟩ := l1Below h 9 (cur0 l hl)
  have a3 := a2 (by omega)
  obtain ⟨ys, rows, b, e3, hl', hr⟩ := drawSplit_l0 (l := l) a.toNat (by omega) a.toNat 0 [] i1 h1 (by omega) rfl c1
  refine ⟨ys, rows, b, Ev.bind e1 ?_, by omega, by omega⟩
  simp only [e2, Option.bind_some]
  rw [Int.toNat_of_nonneg a1] at e3
  exact e3
theorem lawsSameInts_l0 (l : List Int) (hl : l.length ≤ 35184372088832) : ∀ (d n : Nat), n + d = l.length → Ev (fun k => laws_sameInts.l0 k l l (n : Int)) true := by
  intro d
  induction d with
  | zero =>
    intro n hn
    refine ev_end fun k => ?_
    simp only [laws_sameInts.l0]
    rw [if_neg (by omega)]
  | succ d ih =>
    intro n hn
    refine Ev.step (fun k => ?_) (ih (n + 1) (by omega))
    simp only [laws_sameInts.l0]
    rw [if_pos (by omega), if_pos (by omega), if_pos (by omega), if_pos trivial, w64 (by omega) (by omega)]
    rfl
theorem lawsSameInts (l : List Int) (hl : l.length ≤ 35184372088832) : Ev (fun k => laws_sameInts.f k l l) true := by
  unfold laws_sameInts.f
  exact ev_pos rfl (lawsSameInts_l0 l hl l.length 0 (by omega))
/-- The sum and true; 0 and false where it has no room. -/
def addI (a b : Int) : Int × Bool := if -9223372036854775808 ≤ a + b ∧ a + b ≤ 9223372036854775807 then (a + b, true) else (0, false)
def subI (a b : Int) : Int × Bool := if -9223372036854775808 ≤ a - b ∧ a - b ≤ 9223372036854775807 then (a - b, true) else (0, false)
def I64 (a : Int) : Prop := -9223372036854775808 ≤ a ∧ a ≤ 9223372036854775807
theorem addI_i64 (a b : Int) : I64 (addI a b).1 := by
  unfold addI I64
  split
  · assumption
  · exact ⟨by decide, by decide⟩
theorem subI_i64 (a b : Int) : I64 (subI a b).1 := by
  unfold subI I64
  split
  · assumption
  · exact ⟨by decide, by decide⟩
theorem wrap_over {x : Int} (h1 : 9223372036854775807 < x) (h2 : x < 27670116110564327424) : wrap64 x = x - 18446744073709551616 := by unfold wrap64; omega
theorem wrap_under {x : Int} (h1 : x < -9223372036854775808) (h2 : -27670116110564327424 ≤ x) : wrap64 x = x + 18446744073709551616 := by unfold wrap64; omega
/-- Is r an index of bins? -/
def inB (bins : List Int) (r : Int) : Bool := decide (0 ≤ r ∧ r ≤ (bins.length : Int) - 1)
def leftOf (bins : List Int) (b : Int) (rows : List Int) : List Int := rows.filter (fun r => inB bins r && decide (rd bins r ≤ b))
def rightOf (bins : List Int) (b : Int) (rows : List Int) : List Int := rows.filter (fun r => inB bins r && !decide (rd bins r ≤ b))
theorem leftOf_length (bins : List Int) (b : Int) (rows : List Int) : (leftOf bins b rows).length ≤ rows.length := List.length_filter_le _ _
theorem rightOf_length (bins : List Int) (b : Int) (rows : List Int) : (rightOf bins b rows).length ≤ rows.length := List.length_filter_le _ _
theorem split_cons (bins : List Int) (b : Int) (r : Int) (rows : List Int) :
    (inB bins r = false → leftOf bins b (r :: rows) = leftOf bins b rows ∧ rightOf bins b (r :: rows) = rightOf bins b rows) ∧
    (inB bins r = true → rd bins r ≤ b → leftOf bins b (r :: rows) = r :: leftOf bins b rows ∧ rightOf bins b (r :: rows) = rightOf bins b rows) ∧
    (inB bins r = true → ¬ rd bins r ≤ b → leftOf bins b (r :: rows) = leftOf bins b rows ∧ rightOf bins b (r :: rows) = r :: rightOf bins b rows) := by
  unfold leftOf rightOf
  refine ⟨fun h => ?_, fun h h1 => ?_, fun h h1 => ?_⟩
  · simp [List.filter_cons, h]
  · simp [List.filter_cons, h, h1]
  · simp [List.filter_cons, h, h1]
theorem implWithin (a b c : Int) : impl_within.f a b c = some (decide (b ≤ a ∧ a ≤ c)) := by
  unfold impl_within.f
  by_cases h : b ≤ a
  · rw [if_pos h]; simp [h]
  · rw [if_neg h]; simp [h]
theorem implSplit_l0 (bins rows : List Int) (b : Int) (hb : bins.length ≤ 1048576) (hr : rows.length ≤ 1048576) : ∀ (d n : Nat) (L R : List Int), n + d = rows.length → L.length ≤ n → R.length ≤ n →
    Ev (fun k => impl_SplitRows.l0 k bins b L R rows (rows.length : Int) (n : Int)) (L ++ leftOf bins b (rows.drop n), R ++ rightOf bins b (rows.drop n)) := by
  intro d
  induction d with
  | zero =>
    intro n L R hn hL hR
    obtain rfl : n = rows.length := by omega
    refine ev_succ ?_
    simp only [impl_SplitRows.l0]
    refine ev_neg (by omega) (ev_of ?_)
    rw [List.drop_length]
    simp [leftOf, rightOf]
  | succ d ih =>
    intro n L R hn hL hR
    refine ev_succ ?_
    obtain ⟨c0, c1, c2⟩ := split_cons bins b (rd rows (n : Int)) (rows.drop (n + 1))
    rw [rd_drop (by omega)]
    simp only [impl_SplitRows.l0, implWithin, Option.bind_some]
    rw [w64 (x := (n : Int) + 1) (by omega) (by omega), w64 (x := (bins.length : Int) - 1) (by omega) (by omega)]
    refine ev_pos (by omega) (ev_pos (by omega) (ev_pos (by omega) ?_))
    by_cases h : inB bins (rd rows (n : Int)) = true
    · have h' : 0 ≤ rd rows (n : Int) ∧ rd rows (n : Int) ≤ (bins.length : Int) - 1 := by simpa [inB] using h
      refine ev_pos (by simpa using h') (ev_pos (by omega) (ev_pos (by omega) ?_))
      by_cases g : rd bins (rd rows (n : Int)) ≤ b
      · rw [(c1 h g).1, (c1 h g).2]
        refine ev_pos g (ev_pos (by omega) (ev_eq (ih (n + 1) (L ++ [rd rows (n : Int)]) R (by omega) (by simp; omega) (by omega)) ?_))
        simp
      · rw [(c2 h g).1, (c2 h g).2]
        refine ev_neg g (ev_pos (by omega) (ev_eq (ih (n + 1) L (R ++ [rd rows (n : Int)]) (by omega) (by omega) (by simp; omega)) ?_))
        simp
    · simp only [Bool.not_eq_true] at h
      rw [(c0 h).1, (c0 h).2]
      exact ev_neg (by simpa [inB] using h) (ih (n + 1) L R (by omega) (by omega) (by omega))
theorem implSplit (bins rows : List Int) (b : Int) (hb : bins.length ≤ 1048576) (hr : rows.length ≤ 1048576) : Ev (fun k => impl_SplitRows.f k bins rows b) (leftOf bins b rows, rightOf bins b rows) :=
  implSplit_l0 bins rows b hb hr rows.length 0 [] [] (by omega) (by simp) (by simp)
theorem specIn (a b c : Int) : spec_l1In.f a b c = some (decide (b ≤ a ∧ a ≤ c)) := by
  unfold spec_l1In.f
  by_cases h : b ≤ a
  · rw [if_pos h]; simp [h]
  · rw [if_neg h]; simp [h]
theorem specSplit_l0 (bins rows : List Int) (b : Int) (hb : bins.length ≤ 1048576) (hr : rows.length ≤ 1048576) : ∀ (d n : Nat) (L R : List Int), n + d = rows.length → L.length ≤ n → R.length ≤ n →
    Ev (fun k => spec_SplitRows.l0 k bins rows b L R (n : Int)) (L ++ leftOf bins b (rows.drop n), R ++ rightOf bins b (rows.drop n)) := by
  intro d
  induction d with
  | zero =>
    intro n L R hn hL hR
    obtain rfl : n = rows.length := by omega
    refine ev_succ ?_
    simp only [spec_SplitRows.l0]
    refine ev_neg (by omega) (ev_of ?_)
    rw [List.drop_length]
    simp [leftOf, rightOf]
  | succ d ih =>
    intro n L R hn hL hR
    refine ev_succ ?_
    obtain ⟨c0, c1, c2⟩ := split_cons bins b (rd rows (n : Int)) (rows.drop (n + 1))
    rw [rd_drop (by omega)]
    simp only [spec_SplitRows.l0, specIn, Option.bind_some]
    rw [w64 (x := (n : Int) + 1) (by omega) (by omega), w64 (x := (bins.length : Int) - 1) (by omega) (by omega)]
    refine ev_pos (by omega) (ev_pos (by omega) ?_)
    by_cases h : inB bins (rd rows (n : Int)) = true
    · have h' : 0 ≤ rd rows (n : Int) ∧ rd rows (n : Int) ≤ (bins.length : Int) - 1 := by simpa [inB] using h
      refine ev_pos (by simpa using h') (ev_pos (by omega) (ev_pos (by omega) ?_))
      by_cases g : rd bins (rd rows (n : Int)) ≤ b
      · rw [(c1 h g).1, (c1 h g).2]
        refine ev_pos g (ev_pos (by omega) (ev_eq (ih (n + 1) (L ++ [rd rows (n : Int)]) R (by omega) (by simp; omega) (by omega)) ?_))
        simp
      · rw [(c2 h g).1, (c2 h g).2]
        refine ev_neg g (ev_pos (by omega) (ev_eq (ih (n + 1) L (R ++ [rd rows (n : Int)]) (by omega) (by omega) (by simp; omega)) ?_))
        simp
    · simp only [Bool.not_eq_true] at h
      rw [(c0 h).1, (c0 h).2]
      exact ev_neg (by simpa [inB] using h) (ih (n + 1) L R (by omega) (by omega) (by omega))
theorem specSplit (bins rows : List Int) (b : Int) (hb : bins.length ≤ 1048576) (hr : rows.length ≤ 1048576) : Ev (fun k => spec_SplitRows.f k bins rows b) (leftOf bins b rows, rightOf bins b rows) :=
  specSplit_l0 bins rows b hb hr rows.length 0 [] [] (by omega) (by simp) (by simp)
/-- From place n on the rows are right. -/
def RowsFrom (l : List Int) (a : Int) (n : Nat) : Prop := ∀ j : Nat, n ≤ j → j < l.length → 0 ≤ rd l (j : Int) ∧ rd l (j : Int) < a ∧ (0 < j → rd l ((j : Int) - 1) < rd l (j : Int))
theorem RowsFrom.step {l : List Int} {a : Int} {n : Nat} (h : n < l.length) : RowsFrom l a n ↔ (0 ≤ rd l (n : Int) ∧ rd l (n : Int) < a ∧ (0 < n → rd l ((n : Int) - 1) < rd l (n : Int))) ∧ RowsFrom l a (n + 1) := by
  constructor
  · exact fun g => ⟨g n (Nat.le_refl _) h, fun j hj => g j (by omega)⟩
  · intro ⟨g0, g⟩ j hj hlt
    by_cases e : j = n
    · subst e; exact g0
    · exact g j (by omega) hlt
theorem RowsFrom.stop {l : List Int} {a : Int} : RowsFrom l a l.length := fun j h1 h2 => by omega
theorem implRowsOk_l0 (l : List Int) (a : Int) (hl : l.length ≤ 35184372088832) : ∀ (d n : Nat), n + d = l.length → Ev (fun k => impl_RowsOk.l0 k l a l (l.length : Int) (n : Int)) (dec (RowsFrom l a n)) := by
  intro d
  induction d with
  | zero =>
    intro n hn
    refine ev_end fun k => ?_
    simp only [impl_RowsOk.l0]
    obtain rfl : n = l.length := by omega
    rw [if_neg (by omega), dec_true RowsFrom.stop]
  | succ d ih =>
    intro n hn
    have hs := RowsFrom.step (l := l) (a := a) (n := n) (by omega)
    by_cases h1 : rd l (n : Int) < 0
    · refine ev_end fun k => ?_
      simp only [impl_RowsOk.l0]
      rw [if_pos (by omega), if_pos (by omega), if_pos (by omega), if_pos h1, dec_false]
      rw [hs]; omega
    by_cases h2 : rd l (n : Int) ≥ a
    · refine ev_end fun k => ?_
      simp only [impl_RowsOk.l0]
      rw [if_pos (by omega), if_pos (by omega), if_pos (by omega), if_neg h1, if_pos h2, dec_false]
      rw [hs]; omega
    by_cases h3 : 0 < n → rd l ((n : Int) - 1) < rd l (n : Int)
    · have e : dec (RowsFrom l a n) = dec (RowsFrom l a (n + 1)) := dec_congr (by rw [hs]; exact ⟨fun g => g.2, fun g => ⟨⟨by omega, by omega, h3⟩, g⟩⟩)
      rw [e]
      refine Ev.step (fun k => ?_) (ih (n + 1) (by omega))
      simp only [impl_RowsOk.l0]
      rw [if_pos (by omega), if_pos (by omega), if_pos (by omega), if_neg h1, if_neg h2, w64 (x := (n : Int) + 1) (by omega) (by omega)]
      by_cases h4 : 0 < n
      · rw [if_pos (by omega), w64 (by omega) (by omega), if_pos (by omega), if_pos (by omega), if_neg (by have := h3 h4; omega)]
        rfl
      · rw [if_neg (by omega)]
        rfl
    · refine ev_end fun k => ?_
      simp only [impl_RowsOk.l0]
      rw [if_pos (by omega), if_pos (by omega), if_pos (by omega), if_neg h1, if_neg h2, if_pos (by omega), w64 (by omega) (by omega), if_pos (by omega), if_pos (by omega), if_pos (by omega), dec_false]
      rw [hs]; exact fun g => h3 g.1.2.2
theorem implRowsOk (l : List Int) (a : Int) (hl : l.length ≤ 35184372088832) : Ev (fun k => impl_RowsOk.f k l a) (dec (RowsFrom l a 0)) :=
  implRowsOk_l0 l a hl l.length 0 (by omega)
theorem specRowsOk_l0 (l : List Int) (a : Int) (ha : -9223372036854775808 ≤ a ∧ a ≤ 9223372036854775807) (hl : l.length ≤ 35184372088832) : ∀ (d n : Nat), n + d = l.length → Ev (fun k => spec_RowsOk.l0 k l a (n : Int)) (dec (RowsFrom l a n)) := by
  intro d
  induction d with
  | zero =>
    intro n hn
    refine ev_end fun k => ?_
    simp only [spec_RowsOk.l0]
    obtain rfl : n = l.length := by omega
    rw [if_neg (by omega), dec_true RowsFrom.stop]
  | succ d ih =>
    intro n hn
    have hs := RowsFrom.step (l := l) (a := a) (n := n) (by omega)
    by_cases h1 : a < 1
    · refine ev_end fun k => ?_
      simp only [spec_RowsOk.l0]
      rw [if_pos (by omega), if_pos h1, dec_false]
      rw [hs]; omega
    by_cases h2 : 0 ≤ rd l (n : Int) ∧ rd l (n : Int) < a
    · by_cases h3 : 0 < n → rd l ((n : Int) - 1) < rd l (n : Int)
      · have e : dec (RowsFrom l a n) = dec (RowsFrom l a (n + 1)) := dec_congr (by rw [hs]; exact ⟨fun g => g.2, fun g => ⟨⟨h2.1, h2.2, h3⟩, g⟩⟩)
        rw [e]
        refine Ev.step (fun k => ?_) (ih (n + 1) (by omega))
        simp only [spec_RowsOk.l0, specIn, Option.bind_some]
        rw [if_pos (by omega), if_neg h1, if_pos (by omega), w64 (x := a - 1) (by omega) (by omega), if_pos (by simp; omega), w64 (x := (n : Int) + 1) (by omega) (by omega)]
        by_cases h4 : 0 < n
        · rw [if_pos (by omega), w64 (by omega) (by omega), if_pos (by omega), if_pos (by omega), if_neg (by have := h3 h4; omega)]
          rfl
        · rw [if_neg (by omega)]
          rfl
      · refine ev_end fun k => ?_
        simp only [spec_RowsOk.l0, specIn, Option.bind_some]
        rw [if_pos (by omega), if_neg h1, if_pos (by omega), w64 (x := a - 1) (by omega) (by omega), if_pos (by simp; omega), if_pos (by omega), w64 (by omega) (by omega), if_pos (by omega), if_pos (by omega), if_pos (by omega), dec_false]
        rw [hs]; exact fun g => h3 g.1.2.2
    · refine ev_end fun k => ?_
      simp only [spec_RowsOk.l0, specIn, Option.bind_some]
      rw [if_pos (by omega), if_neg h1, if_pos (by omega), w64 (x := a - 1) (by omega) (by omega), if_neg (by simp; omega), dec_false]
      rw [hs]; exact fun g => h2 ⟨g.1.1, g.1.2.1⟩
theorem specRowsOk (l : List Int) (a : Int) (ha : -9223372036854775808 ≤ a ∧ a ≤ 9223372036854775807) (hl : l.length ≤ 35184372088832) : Ev (fun k => spec_RowsOk.f k l a) (dec (RowsFrom l a 0)) :=
  specRowsOk_l0 l a ha hl l.length 0 (by omega)
/-- x put among sorted numbers, behind those that are not greater. -/
def ins (l : List Int) (x : Int) : List Int := l.filter (fun y => decide (y ≤ x)) ++ x :: l.filter (fun y => decide (x < y))
def Asc (l : List Int) : Prop := l.Pairwise (· ≤ ·)
theorem ins_perm (l : List Int) (x : Int) : (ins l x).Perm (x :: l) := by
  unfold ins
  refine List.perm_middle.trans (List.Perm.cons _ ?_)
  have e : l.filter (fun y => decide (x < y)) = l.filter (fun y => !decide (y ≤ x)) := List.filter_congr fun y _ => by
    by_cases h : y ≤ x
    · simp [h]
    · simp [h]; omega
  rw [e]
  exact List.filter_append_perm _ l
theorem ins_length (l : List Int) (x : Int) : (ins l x).length = l.length + 1 := by
  have := (ins_perm l x).length_eq
  simpa using this
theorem ins_asc {l : List Int} (h : Asc l) (x : Int) : Asc (ins l x) := by
  unfold Asc ins at *
  rw [List.pairwise_append]
  refine ⟨h.filter _, ?_, ?_⟩
  · rw [List.pairwise_cons]
    refine ⟨fun y hy => ?_, h.filter _⟩
    have := (List.mem_filter.1 hy).2
    simp at this; omega
  · intro a ha b hb
    have h1 := (List.mem_filter.1 ha).2
    simp at h1
    rcases List.mem_cons.1 hb with rfl | hb
    · exact h1
    · have h2 := (List.mem_filter.1 hb).2
      simp at h2; omega
/-- The numbers in ascending order. -/
def isort (l : List Int) : List Int := l.foldl ins []
theorem isort_aux (l acc : List Int) (h : Asc acc) : Asc (l.foldl ins acc) ∧ (l.foldl ins acc).Perm (acc ++ l) := by
  induction l generalizing acc with
  | nil => exact ⟨h, by simp⟩
  | cons x l ih =>
    obtain ⟨h1, h2⟩ := ih (ins acc x) (ins_asc h x)
    refine ⟨h1, h2.trans ?_⟩
    refine ((ins_perm acc x).append_right l).trans ?_
    exact (List.perm_middle (a := x) (l₁ := acc) (l₂ := l)).symm
theorem isort_asc (l : List Int) : Asc (isort l) := (isort_aux l [] List.Pairwise.nil).1
theorem isort_perm (l : List Int) : (isort l).Perm l := by simpa [isort] using (isort_aux l [] List.Pairwise.nil).2
theorem isort_length (l : List Int) : (isort l).length = l.length := (isort_perm l).length_eq
theorem parts_at {out : List Int} (h : Asc out) {x : Int} {p : Nat} (hp : p ≤ out.length) (hb : ∀ y ∈ out.drop p, x < y) (ha : ∀ y ∈ out.take p, y ≤ x) : ins out x = out.take p ++ x :: out.drop p := by
  have a1 : (out.take p).filter (fun y => decide (y ≤ x)) = out.take p := List.filter_eq_self.2 fun y hy => by simpa using ha y hy
  have a2 : (out.drop p).filter (fun y => decide (y ≤ x)) = [] := List.filter_eq_nil_iff.2 fun y hy => by have := hb y hy; simp; omega
  have b1 : (out.take p).filter (fun y => decide (x < y)) = [] := List.filter_eq_nil_iff.2 fun y hy => by have := ha y hy; simp; omega
  have b2 : (out.drop p).filter (fun y => decide (x < y)) = out.drop p := List.filter_eq_self.2 fun y hy => by simpa using hb y hy
  have e1 : out.filter (fun y => decide (y ≤ x)) = out.take p := by
    conv => lhs; rw [← List.take_append_drop p out]
    rw [List.filter_append, a1, a2, List.append_nil]
  have e2 : out.filter (fun y => decide (x < y)) = out.drop p := by
    conv => lhs; rw [← List.take_append_drop p out]
    rw [List.filter_append, b1, b2, List.nil_append]
  unfold ins
  rw [e1, e2]
theorem msort_eq (l : List Int) : l.mergeSort (fun x y => decide (x ≤ y)) = isort l := by
  refine List.Perm.eq_of_pairwise (le := fun a b => a ≤ b) (fun a b _ _ h1 h2 => Int.le_antisymm h1 h2) ?_ (isort_asc l) ((List.mergeSort_perm l _).trans (isort_perm l).symm)
  refine (List.pairwise_mergeSort (le := fun x y : Int => decide (x ≤ y)) (fun a b c h1 h2 => ?_) (fun a b => ?_) l).imp (fun h => by simpa using h)
  · simp only [decide_eq_true_eq] at *; omega
  · simp only [Bool.or_eq_true, decide_eq_true_eq]; omega
theorem implSortB (l : List Int) (hl : l.length ≤ 4194304) : impl_SortInts.f l = some (isort l) := by
  unfold impl_SortInts.f slices_Clone_int_int.f slices_Sort_int_int.f
  rw [if_pos (by omega)]
  simp only [Option.bind_some]
  rw [if_pos (by omega), msort_eq]
  rfl
theorem implSort (l : List Int) (hl : l.length ≤ 1048576) : impl_SortInts.f l = some (isort l) := implSortB l (by omega)
theorem rdL1 (xs : List (List Int)) (i : Int) : rd_L1 xs i = xs.getD i.toNat [] := rfl
theorem implConcat (a b : List Int) (ha : a.length ≤ 1048576) (hb : b.length ≤ 1048576) : Ev (fun k => slices_Concat_int_int.f k [a, b]) (a ++ b) := by
  unfold slices_Concat_int_int.f
  have e0 : rd_L1 [a, b] 0 = a := rfl
  have e1 : rd_L1 [a, b] 1 = b := rfl
  have w1 : wrap64 (0 + 1) = 1 := w64 (by omega) (by omega)
  have w2 : wrap64 (1 + 1) = 2 := w64 (by omega) (by omega)
  have wa : wrap64 (0 + (a.length : Int)) = (a.length : Int) := by rw [w64 (by omega) (by omega)]; omega
  have wb : wrap64 ((a.length : Int) + (b.length : Int)) = ((a.length + b.length : Nat) : Int) := by rw [w64 (by omega) (by omega)]; omega
  refine ev_succ ?_
  simp only [slices_Concat_int_int.l0, e0, w1, wa]
  refine ev_pos (by simp) (ev_pos (by omega) (ev_pos (by simp) (ev_neg (by omega) (ev_succ ?_))))
  simp only [slices_Concat_int_int.l0, e1, w2, wb]
  refine ev_pos (by simp) (ev_pos (by omega) (ev_pos (by simp) (ev_neg (by omega) (ev_succ ?_))))
  simp only [slices_Concat_int_int.l0]
  refine ev_neg (by simp) ?_
  have hg : slices_Grow_int_int.f ([] : List Int) ((a.length + b.length : Nat) : Int) = some [] := by
    unfold slices_Grow_int_int.f
    rw [if_pos ⟨by omega, by simp; omega⟩]
  rw [hg]
  simp only [Option.bind_some]
  refine ev_succ ?_
  simp only [slices_Concat_int_int.l1, e0, w1]
  refine ev_pos (by simp) (ev_pos (by omega) (ev_pos (by simp) (ev_pos (by simp; omega) (ev_succ ?_))))
  simp only [slices_Concat_int_int.l1, e1, w2]
  refine ev_pos (by simp) (ev_pos (by omega) (ev_pos (by simp) (ev_pos (by simp; omega) (ev_succ ?_))))
  simp only [slices_Concat_int_int.l1]
  exact ev_neg (by simp) (ev_of (by simp))
theorem implMerged (a b : List Int) (ha : a.length ≤ 1048576) (hb : b.length ≤ 1048576) : Ev (fun k => impl_MergedRows.f k a b) (isort (a ++ b)) := by
  unfold impl_MergedRows.f
  refine Ev.bind (implConcat a b ha hb) ?_
  rw [implSortB _ (by simp; omega)]
  exact Ev.now _

theorem rowsFrom_iff {l : List Int} {a : Int} : RowsFrom l a 0 ↔ (∀ x ∈ l, 0 ≤ x ∧ x < a) ∧ l.Pairwise (fun x y => x < y) := by
  constructor
  · intro h
    refine ⟨fun x hx => ?_, List.pairwise_iff_getElem.2 fun i j hi hj hij => ?_⟩
    · obtain ⟨j, hj, rfl⟩ := List.getElem_of_mem hx
      have := h j (by omega) hj
      rw [rd_of (List.getElem?_eq_getElem hj)] at this
      exact ⟨this.1, this.2.1⟩
    · induction j with
      | zero => omega
      | succ j ih =>
        have h1 := (h (j + 1) (by omega) hj).2.2 (by omega)
        rw [show ((j + 1 : Nat) : Int) - 1 = (j : Int) from by omega, rd_of (List.getElem?_eq_getElem (show j < l.length by omega)), rd_of (List.getElem?_eq_getElem hj)] at h1
        by_cases e : i = j
        · subst e; exact h1
        · exact Int.lt_trans (ih (by omega) (by omega)) h1
  · intro ⟨h1, h2⟩ j _ hj
    rw [rd_of (List.getElem?_eq_getElem hj)]
    have := h1 _ (List.getElem_mem hj)
    refine ⟨this.1, this.2, fun h0 => ?_⟩
    rw [show (j : Int) - 1 = ((j - 1 : Nat) : Int) from by omega, rd_of (List.getElem?_eq_getElem (show j - 1 < l.length by omega))]
    exact List.pairwise_iff_getElem.1 h2 (j - 1) j (by omega) hj (by omega)
theorem rowsFrom_filter {l : List Int} {a : Int} (p : Int → Bool) (h : RowsFrom l a 0) : RowsFrom (l.filter p) a 0 := by
  rw [rowsFrom_iff] at *
  exact ⟨fun x hx => h.1 x (List.mem_filter.1 hx).1, h.2.filter p⟩
theorem split_perm (bins : List Int) (b : Int) (rows : List Int) (h : ∀ x ∈ rows, 0 ≤ x ∧ x < (bins.length : Int)) : (leftOf bins b rows ++ rightOf bins b rows).Perm rows := by
  unfold leftOf rightOf
  have e1 : rows.filter (fun r => inB bins r && decide (rd bins r ≤ b)) = rows.filter (fun r => decide (rd bins r ≤ b)) := List.filter_congr fun x hx => by
    have := h x hx
    rw [show inB bins x = true from decide_eq_true (by omega), Bool.true_and]
  have e2 : rows.filter (fun r => inB bins r && !decide (rd bins r ≤ b)) = rows.filter (fun r => !decide (rd bins r ≤ b)) := List.filter_congr fun x hx => by
    have := h x hx
    rw [show inB bins x = true from decide_eq_true (by omega), Bool.true_and]
  rw [e1, e2]
  exact List.filter_append_perm _ rows
theorem split_merged {bins : List Int} {b : Int} {rows : List Int} (h : RowsFrom rows (bins.length : Int) 0) : isort (leftOf bins b rows ++ rightOf bins b rows) = rows := by
  rw [rowsFrom_iff] at h
  exact List.Perm.eq_of_pairwise (le := fun a b => a ≤ b) (fun a b _ _ h1 h2 => Int.le_antisymm h1 h2) (isort_asc _) (h.2.imp fun h => Int.le_of_lt h) ((isort_perm _).trans (split_perm bins b rows h.1))
theorem FnSplit : laws_FnSplit.Pure := by
  intro l hm hl hw
  refine Ev.rounds ?_
  unfold laws_FnSplit.f
  rw [lawsBig]
  simp only [Option.bind_some]
  by_cases hb : (l.length : Int) > 1048576
  · exact ev_pos (by simpa using hb) (Ev.now _)
  refine ev_neg (by simpa using hb) ?_
  obtain ⟨bins, rows, b, e1, h8, h9⟩ := drawSplitRows l (by omega)
  have hL := leftOf_length bins b rows
  have hR := rightOf_length bins b rows
  refine Ev.bind e1 (Ev.bind (implSplit bins rows b (by omega) (by omega)) (Ev.bind (specSplit bins rows b (by omega) (by omega)) (Ev.bind (lawsSameInts _ (by simp only; omega)) (ev_pos rfl (Ev.bind (lawsSameInts _ (by simp only; omega)) (ev_succ ?_))))))
  simp only [laws_FnSplit.j0]
  refine ev_neg (by simp) (Ev.bind (specRowsOk rows _ (by omega) (by omega)) ?_)
  by_cases g : RowsFrom rows (bins.length : Int) 0
  · rw [dec_true g]
    refine ev_pos rfl (Ev.bind (implMerged _ _ (by omega) (by omega)) ?_)
    rw [split_merged g]
    refine Ev.bind (lawsSameInts _ (by omega)) (ev_pos rfl (Ev.bind (implRowsOk _ _ (by omega)) ?_))
    rw [dec_true (show RowsFrom (leftOf bins b rows) (bins.length : Int) 0 from rowsFrom_filter _ g)]
    refine ev_pos rfl (Ev.bind (implRowsOk _ _ (by omega)) ?_)
    rw [dec_true (show RowsFrom (rightOf bins b rows) (bins.length : Int) 0 from rowsFrom_filter _ g)]
    refine ev_pos rfl (Ev.bind (implRowsOk _ _ (by omega)) ?_)
    rw [dec_true g]
    exact Ev.now _
  · rw [dec_false g]
    exact ev_neg (by simp) (Ev.now _)

end Go.Proofs.Ytadgobfcchhgfaa.Pure
