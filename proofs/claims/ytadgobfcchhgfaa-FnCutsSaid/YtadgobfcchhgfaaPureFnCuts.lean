/- cut points are those of the reference, rise, are among the values, and there are values on both sides of each. Conditions: none but the row's own.
-/
import Derived.Test.YtadgobfcchhgfaaQx24
set_option linter.unusedVariables false
set_option linter.unusedSimpArgs false
namespace Go.Proofs.Ytadgobfcchhgfaa.Pure
open Go.RowKit Go.Proofs.Ytadgobfcchhgfaa.Q Go.Proofs.YtadgobfcchhgfaaW.PrintWords Go.Proofs.YtadgobfcchhgfaaW.PrintLast Go.Proofs.YtadgobfcchhgfaaW.PrintMore

theorem w64 {x : Int} (h1 : -9223372036854775808 ≤ x) (h2 : x ≤ 9223372036854775807) : wrap64 x = x := by unfold wrap64; omega
theorem i64_wf {x : Int} (h : (Lit.int .i64 x).wf = true) : -9223372036854775808 ≤ x ∧ x ≤ 9223372036854775807 := by
  simpa [Lit.wf, IntKind.min, IntKind.max, IntKind.signed, IntKind.bits] using h
theorem u8_wf {x : Int} (h : (Lit.int .u8 x).wf = true) : 0 ≤ x ∧ x ≤ 255 := by
  simpa [Lit.wf, IntKind.min, IntKind.max, IntKind.signed, IntKind.bits] using h
theorem rd_eq {xs : List Int} {i : Int} (h0 : 0 ≤ i) (h : i < (xs.length : Int)) : xs[i.toNat]? = some (rd xs i) := by
  unfold rd
  rw [List.getD_eq_getElem?_getD, List.getElem?_eq_getElem (by omega)]
  rfl
theorem rd_mem {xs : List Int} {i : Int} (h0 : 0 ≤ i) (h : i < (xs.length : Int)) : rd xs i ∈ xs := List.mem_of_getElem? (rd_eq h0 h)
theorem rd_of {xs : List Int} {n : Nat} {v : Int} (h : xs[n]? = some v) : rd xs (n : Int) = v := by
  unfold rd
  rw [List.getD_eq_getElem?_getD, Int.toNat_natCast, h]
  rfl
theorem ev_of {α : Type} {r : α} {p : Option α} (h : p = some r) : Ev (fun _ => p) r := ⟨0, fun _ _ => h⟩
theorem ev_end {α : Type} {g : Nat → Option α} {r : α} (h : ∀ k, g (k + 1) = some r) : Ev g r := Ev.step (f := fun _ => some r) h (Ev.now r)
theorem ev_pos {α : Type} {c : Prop} [Decidable c] {f g : Nat → Option α} {r : α} (hc : c) (h : Ev f r) : Ev (fun k => if c then f k else g k) r := Ev.congr (fun _ => if_pos hc) h
theorem ev_neg {α : Type} {c : Prop} [Decidable c] {f g : Nat → Option α} {r : α} (hc : ¬ c) (h : Ev g r) : Ev (fun k => if c then f k else g k) r := Ev.congr (fun _ => if_neg hc) h
theorem rd_drop {xs : List Int} {n : Nat} (h : n < xs.length) : xs.drop n = rd xs (n : Int) :: xs.drop (n + 1) := by
  rw [List.drop_eq_getElem_cons h]
  congr 1
  unfold rd
  rw [List.getD_eq_getElem?_getD, Int.toNat_natCast, List.getElem?_eq_getElem h]
  rfl
noncomputable def dec (p : Prop) : Bool := @decide p (Classical.propDecidable p)
theorem dec_true {p : Prop} (h : p) : dec p = true := @decide_eq_true p (Classical.propDecidable p) h
theorem dec_false {p : Prop} (h : ¬ p) : dec p = false := @decide_eq_false p (Classical.propDecidable p) h
theorem dec_iff {p : Prop} : dec p = true ↔ p := @decide_eq_true_iff p (Classical.propDecidable p)
theorem dec_congr {p q : Prop} (h : p ↔ q) : dec p = dec q := by rw [propext h]
theorem dec_eq {p : Prop} [Decidable p] : dec p = decide p := by
  by_cases h : p
  · rw [dec_true h, decide_eq_true h]
  · rw [dec_false h, decide_eq_false h]
theorem ev_succ {α : Type} {g : Nat → Option α} {r : α} (h : Ev (fun k => g (k + 1)) r) : Ev g r := by
  obtain ⟨K, h⟩ := h
  refine ⟨K + 1, fun n hn => ?_⟩
  obtain ⟨m, rfl⟩ : ∃ m, n = m + 1 := ⟨n - 1, by omega⟩
  exact h m (by omega)
theorem ev_eq {α : Type} {g : Nat → Option α} {r r' : α} (h : Ev g r) (e : r = r') : Ev g r' := e ▸ h
theorem gd_eq {α : Type} (z : α) {xs : List α} {i : Int} (h0 : 0 ≤ i) (h : i < (xs.length : Int)) : xs[i.toNat]? = some (xs.getD i.toNat z) := by
  rw [List.getD_eq_getElem?_getD, List.getElem?_eq_getElem (by omega)]
  rfl
theorem gd_nat {α : Type} (z : α) {xs : List α} {n : Nat} {v : α} (h : xs[n]? = some v) : xs.getD ((n : Int)).toNat z = v := by
  rw [List.getD_eq_getElem?_getD, Int.toNat_natCast, h]
  rfl
theorem gd_drop {α : Type} (z : α) {xs : List α} {n : Nat} (h : n < xs.length) : xs.drop n = xs.getD ((n : Int)).toNat z :: xs.drop (n + 1) := by
  rw [List.drop_eq_getElem_cons h]
  congr 1
  exact (gd_nat z (List.getElem?_eq_getElem h)).symm
/-- A loop that copies: place after place is set. -/
theorem copy_loop {α β : Type} (F : Nat → List β → Int → Option (List β)) (l : List α) (g : α → β)
    (hend : ∀ acc : List β, acc.length = l.length → Ev (fun k => F k acc (l.length : Int)) acc)
    (hstep : ∀ (acc : List β) (n : Nat) (x : α) (r : List β), n < l.length → acc.length = l.length → l[n]? = some x → Ev (fun k => F k (acc.set n (g x)) ((n + 1 : Nat) : Int)) r → Ev (fun k => F k acc (n : Int)) r) :
    ∀ (d n : Nat) (acc : List β), n + d = l.length → acc.length = l.length → (∀ j, j < n → acc[j]? = (l.map g)[j]?) → Ev (fun k => F k acc (n : Int)) (l.map g) := by
  intro d
  induction d with
  | zero =>
    intro n acc hn ha hp
    obtain rfl : n = l.length := by omega
    refine ev_eq (hend acc ha) (List.ext_getElem? fun j => ?_)
    by_cases h : j < l.length
    · exact hp j h
    · rw [List.getElem?_eq_none (by omega), List.getElem?_eq_none (by simp; omega)]
  | succ d ih =>
    intro n acc hn ha hp
    have hx : l[n]? = some l[n] := List.getElem?_eq_getElem (by omega)
    refine hstep acc n l[n] _ (by omega) ha hx (ih (n + 1) _ (by omega) (by simpa using ha) ?_)
    intro j hj
    rw [List.getElem?_set]
    by_cases h : n = j
    · subst h
      rw [if_pos rfl, if_pos (by omega), List.getElem?_map, hx]
      rfl
    · rw [if_neg h]
      exact hp j (by omega)
/-- A loop that tests place after place. -/
theorem all_loop (F : Nat → Int → Option Bool) (L : Nat) (p : Nat → Prop) (hend : Ev (fun k => F k (L : Int)) true)
    (hyes : ∀ (n : Nat) (r : Bool), n < L → p n → Ev (fun k => F k ((n + 1 : Nat) : Int)) r → Ev (fun k => F k (n : Int)) r)
    (hno : ∀ n : Nat, n < L → ¬ p n → Ev (fun k => F k (n : Int)) false) :
    ∀ (d n : Nat), n + d = L → Ev (fun k => F k (n : Int)) (dec (∀ j, n ≤ j → j < L → p j)) := by
  intro d
  induction d with
  | zero =>
    intro n hn
    obtain rfl : n = L := by omega
    exact ev_eq hend (dec_true (fun j h1 h2 => by omega)).symm
  | succ d ih =>
    intro n hn
    by_cases h : p n
    · refine hyes n _ (by omega) h (ev_eq (ih (n + 1) (by omega)) (dec_congr ⟨fun g j h1 h2 => ?_, fun g j h1 h2 => g j (by omega) h2⟩))
      by_cases e : j = n
      · exact e ▸ h
      · exact g j (by omega) h2
    · exact ev_eq (hno n (by omega) h) (dec_false (fun g => h (g n (Nat.le_refl _) (by omega)))).symm
/-- A loop that goes round L times over a state. -/
theorem fold_loop {σ ρ : Type} (F : Nat → σ → Int → Option ρ) (L : Nat) (S : Nat → σ) (r : ρ) (hend : Ev (fun k => F k (S L) (L : Int)) r)
    (hstep : ∀ n : Nat, n < L → Ev (fun k => F k (S (n + 1)) ((n + 1 : Nat) : Int)) r → Ev (fun k => F k (S n) (n : Int)) r) :
    ∀ (d n : Nat), n + d = L → Ev (fun k => F k (S n) (n : Int)) r := by
  intro d
  induction d with
  | zero =>
    intro n hn
    obtain rfl : n = L := by omega
    exact hend
  | succ d ih =>
    intro n hn
    exact hstep n (by omega) (ih (n + 1) (by omega))
theorem set_mid {α : Type} (a b : List α) (x v : α) {n : Nat} (h : a.length = n) : (a ++ x :: b).set n v = a ++ v :: b := by
  subst h
  rw [List.set_append_right _ _ (Nat.le_refl _), Nat.sub_self]
  rfl
theorem get_mid {α : Type} (a b : List α) (x : α) {n : Nat} (h : a.length = n) : (a ++ x :: b)[n]? = some x := by
  subst h
  rw [List.getElem?_append_right (Nat.le_refl _), Nat.sub_self]
  rfl
/-- A loop that tests place after place, and one thing more at its end. -/
theorem all_loop2 (F : Nat → Int → Option Bool) (L : Nat) (p : Nat → Prop) (E : Prop) (hend : Ev (fun k => F k (L : Int)) (dec E))
    (hyes : ∀ (n : Nat) (r : Bool), n < L → p n → Ev (fun k => F k ((n + 1 : Nat) : Int)) r → Ev (fun k => F k (n : Int)) r)
    (hno : ∀ n : Nat, n < L → ¬ p n → Ev (fun k => F k (n : Int)) false) :
    ∀ (d n : Nat), n + d = L → Ev (fun k => F k (n : Int)) (dec ((∀ j, n ≤ j → j < L → p j) ∧ E)) := by
  intro d
  induction d with
  | zero =>
    intro n hn
    obtain rfl : n = L := by omega
    exact ev_eq hend (dec_congr ⟨fun h => ⟨fun j h1 h2 => by omega, h⟩, fun h => h.2⟩)
  | succ d ih =>
    intro n hn
    by_cases h : p n
    · refine hyes n _ (by omega) h (ev_eq (ih (n + 1) (by omega)) (dec_congr ⟨fun g => ⟨fun j h1 h2 => ?_, g.2⟩, fun g => ⟨fun j h1 h2 => g.1 j (by omega) h2, g.2⟩⟩))
      by_cases e : j = n
      · exact e ▸ h
      · exact g.1 j (by omega) h2
    · exact ev_eq (hno n (by omega) h) (dec_false (fun g => h (g.1 n (Nat.le_refl _) (by omega)))).symm
theorem lawsBig (l : List Int) : laws_big.f l = some (decide ((l.length : Int) > 1048576)) := rfl
theorem and255 (x : Int) : 0 ≤ Go.bits .and .i64 x 255 ∧ Go.bits .and .i64 x 255 ≤ 255 := by
  simp only [Go.bits]
  have h : (BitVec.ofInt IntKind.i64.bits x &&& BitVec.ofInt IntKind.i64.bits 255).toNat ≤ 255 := by
    rw [BitVec.toNat_and]
    exact Nat.le_trans Nat.and_le_right (by decide)
  rw [IntKind.wrap_i64]
  omega
theorem l1New_l0 (l : List Int) (hl : l.length ≤ 35184372088832) : ∀ (d n : Nat) (x : Int), n + d = l.length → ∃ h, Ev (fun k => spec_l1New.l0 k l x (n : Int)) (l, 0, h) := by
  intro d
  induction d with
  | zero =>
    intro n x hn
    refine ⟨x, ev_end fun k => ?_⟩
    simp only [spec_l1New.l0]
    rw [if_neg (by omega)]
  | succ d ih =>
    intro n x hn
    by_cases h4 : (n : Int) < 4000
    · obtain ⟨h, e⟩ := ih (n + 1) (Go.bits .and .i64 (wrap64 ((wrap64 ((wrap64 (x * 131)) + (wrap64 (rd l n)))) + 7)) 1073741823) (by omega)
      refine ⟨h, Ev.step (fun k => ?_) e⟩
      simp only [spec_l1New.l0]
      rw [if_pos (by omega), if_pos h4, if_pos (by omega), w64 (x := (n : Int) + 1) (by omega) (by omega)]
      rfl
    · refine ⟨x, ev_end fun k => ?_⟩
      simp only [spec_l1New.l0]
      rw [if_pos (by omega), if_neg h4]
theorem l1New (l : List Int) (hl : l.length ≤ 35184372088832) : ∃ h, Ev (fun k => spec_l1New.f k l) (l, 0, h) := l1New_l0 l hl l.length 0 _ (by omega)
/-- A cursor's place is within its bytes. -/
def Cur (l : List Int) (i : Int) : Prop := 0 ≤ i ∧ i ≤ l.length ∧ l.length ≤ 35184372088832
theorem cur0 (l : List Int) (hl : l.length ≤ 35184372088832) : Cur l 0 := ⟨by omega, by omega, hl⟩
theorem l1Byte {l : List Int} {i : Int} (h : Int) (hc : Cur l i) : ∃ r i' h', spec_l1Byte.f l i h = some (r, i', h') ∧ Cur l i' ∧ 0 ≤ r ∧ r ≤ 255 := by
  unfold Cur at *
  unfold spec_l1Byte.f
  by_cases h1 : i < (l.length : Int)
  · rw [if_pos h1, if_pos hc.1, w64 (x := i + 1) (by omega) (by omega)]
    exact ⟨_, _, _, rfl, by omega, and255 _⟩
  · rw [if_neg h1]
    exact ⟨_, _, _, rfl, by omega, and255 _⟩
theorem l1Below {l : List Int} {i : Int} (h : Int) (n : Int) (hc : Cur l i) : ∃ r i' h', spec_l1Below.f l i h n = some (r, i', h') ∧ Cur l i' ∧ 0 ≤ r ∧ (0 < n → r < n) ∧ (n ≤ 0 → r = 0) := by
  unfold spec_l1Below.f
  by_cases h1 : n ≤ 0
  · rw [if_pos h1]
    exact ⟨0, _, _, rfl, hc, by omega, by omega, fun _ => rfl⟩
  rw [if_neg h1]
  by_cases h2 : n ≤ 256
  · rw [if_pos h2]
    obtain ⟨r, i', h', e, hc', h3, h4⟩ := l1Byte h hc
    rw [e]
    simp only [Option.bind_some]
    rw [if_neg (by omega)]
    refine ⟨_, _, _, rfl, hc', ?_, ?_, by omega⟩
    · rw [Int.tmod_eq_emod_of_nonneg h3]; exact Int.emod_nonneg _ (by omega)
    · intro _; rw [Int.tmod_eq_emod_of_nonneg h3]; exact Int.emod_lt_of_pos _ (by omega)
  · rw [if_neg h2]
    obtain ⟨x, i1, h1, e1, hc1, x1, x2⟩ := l1Byte h hc
    obtain ⟨y, i2, h2, e2, hc2, y1, y2⟩ := l1Byte h1 hc1
    obtain ⟨z, i3, h3, e3, hc3, z1, z2⟩ := l1Byte h2 hc2
    obtain ⟨w, i4, h4, e4, hc4, w1, w2⟩ := l1Byte h3 hc3
    simp only [e1, e2, e3, e4, Option.bind_some]
    rw [if_neg (by omega), w64 (x := x * 16777216) (by omega) (by omega), w64 (x := y * 65536) (by omega) (by omega), w64 (x := x * 16777216 + y * 65536) (by omega) (by omega), w64 (x := z * 256) (by omega) (by omega), w64 (x := x * 16777216 + y * 65536 + z * 256) (by omega) (by omega), w64 (x := x * 16777216 + y * 65536 + z * 256 + w) (by omega) (by omega)]
    have h5 : 0 ≤ x * 16777216 + y * 65536 + z * 256 + w := by omega
    refine ⟨_, _, _, rfl, hc4, ?_, ?_, by omega⟩
    · rw [Int.tmod_eq_emod_of_nonneg h5]; exact Int.emod_nonneg _ (by omega)
    · intro _; rw [Int.tmod_eq_emod_of_nonneg h5]; exact Int.emod_lt_of_pos _ (by omega)
theorem l1PickInt {l : List Int} {i : Int} (h : Int) (xs : List Int) (hc : Cur l i) (hx : 0 < xs.length) : ∃ r i' h', spec_l1PickInt.f l i h xs = some (r, i', h') ∧ Cur l i' ∧ r ∈ xs := by
  unfold spec_l1PickInt.f
  obtain ⟨r, i', h', e, hc', h1, h2, _⟩ := l1Below h (xs.length : Int) hc
  rw [e]
  simp only [Option.bind_some]
  have h3 := h2 (by omega)
  rw [if_pos h1, if_pos h3]
  exact ⟨_, _, _, rfl, hc', rd_mem h1 h3⟩
/-- The sum and true; 0 and false where it has no room. -/
def addI (a b : Int) : Int × Bool := if -9223372036854775808 ≤ a + b ∧ a + b ≤ 9223372036854775807 then (a + b, true) else (0, false)
def subI (a b : Int) : Int × Bool := if -9223372036854775808 ≤ a - b ∧ a - b ≤ 9223372036854775807 then (a - b, true) else (0, false)
def I64 (a : Int) : Prop := -9223372036854775808 ≤ a ∧ a ≤ 9223372036854775807
theorem addI_i64 (a b : Int) : I64 (addI a b).1 := by
  unfold addI I64
  split
  · assumption
  · exact ⟨by decide, by decide⟩
theorem subI_i64 (a b : Int) : I64 (subI a b).1 := by
  unfold subI I64
  split
  · assumption
  · exact ⟨by decide, by decide⟩
theorem wrap_over {x : Int} (h1 : 9223372036854775807 < x) (h2 : x < 27670116110564327424) : wrap64 x = x - 18446744073709551616 := by unfold wrap64; omega
theorem wrap_under {x : Int} (h1 : x < -9223372036854775808) (h2 : -27670116110564327424 ≤ x) : wrap64 x = x + 18446744073709551616 := by unfold wrap64; omega
theorem wrap_i64_range (x : Int) : I64 (wrap64 x) := by unfold I64 wrap64; omega
theorem l1Whole_l0 {l : List Int} : ∀ (d n : Nat) (x i h : Int), n + d = 8 → I64 x → Cur l i → ∃ r i' h', Ev (fun k => spec_l1Whole.l0 k x (n : Int) l i h) (r, i', h') ∧ Cur l i' ∧ I64 r := by
  intro d
  induction d with
  | zero =>
    intro n x i h hn hx hc
    refine ⟨x, i, h, ev_end fun k => ?_, hc, hx⟩
    simp only [spec_l1Whole.l0]
    rw [if_neg (by omega)]
  | succ d ih =>
    intro n x i h hn hx hc
    obtain ⟨b, i1, h1, e1, hc1, _⟩ := l1Byte h hc
    obtain ⟨r, i2, h2, e2, hc2, hr⟩ := ih (n + 1) (wrap64 ((wrap64 (x * 256)) + b)) i1 h1 (by omega) (wrap_i64_range _) hc1
    refine ⟨r, i2, h2, Ev.step (fun k => ?_) e2, hc2, hr⟩
    simp only [spec_l1Whole.l0, e1, Option.bind_some]
    rw [if_pos (by omega), w64 (x := (n : Int) + 1) (by omega) (by omega)]
    rfl
theorem l1Whole {l : List Int} {i : Int} (h : Int) (hc : Cur l i) : ∃ r i' h', Ev (fun k => spec_l1Whole.f k l i h) (r, i', h') ∧ Cur l i' ∧ I64 r := by
  unfold spec_l1Whole.f
  obtain ⟨a, i1, h1, e1, hc1, a1, a2, _⟩ := l1Below h 4 hc
  rw [e1]
  simp only [Option.bind_some]
  by_cases c0 : a = 0
  · obtain ⟨r, i2, h2, e2, hc2, hr⟩ := l1PickInt h1 ([0, 1, (-1), 9, 10, 999, 1000, 2147483647, (-2147483648), 3037000499, 3037000500, 9223372036854775807, (-9223372036854775807), (-9223372036854775808)] : List Int) hc1 (by simp)
    refine ⟨r, i2, h2, ev_pos c0 ?_, hc2, ?_⟩
    · rw [e2]; exact Ev.now _
    · simp only [List.mem_cons, List.not_mem_nil, or_false] at hr
      unfold I64; omega
  by_cases c1 : a = 1
  · obtain ⟨r, i2, h2, e2, hc2, hr⟩ := l1Whole_l0 8 0 0 i1 h1 (by omega) ⟨by decide, by decide⟩ hc1
    exact ⟨r, i2, h2, ev_neg c0 (ev_pos c1 e2), hc2, hr⟩
  by_cases c2 : a = 2
  · obtain ⟨r, i2, h2, e2, hc2, _⟩ := l1Below h1 1000000 hc1
    refine ⟨wrap64 (r - 500000), i2, h2, ev_neg c0 (ev_neg c1 (ev_pos c2 ?_)), hc2, wrap_i64_range _⟩
    rw [e2]; exact Ev.now _
  · obtain ⟨r, i2, h2, e2, hc2, _⟩ := l1Below h1 41 hc1
    refine ⟨wrap64 (r - 20), i2, h2, ev_neg c0 (ev_neg c1 (ev_neg c2 ?_)), hc2, wrap_i64_range _⟩
    rw [e2]; exact Ev.now _
theorem l1Once {l : List Int} {i : Int} (h : Int) (n : Int) (hc : Cur l i) : ∃ r i' h', spec_l1Once.f l i h n = some (r, i', h') ∧ Cur l i' := by
  unfold spec_l1Once.f
  obtain ⟨a, i1, h1, e1, c1, _⟩ := l1Below h n hc
  rw [e1]
  exact ⟨_, _, _, rfl, c1⟩
def IOk (l : List Int) : Prop := ∀ x ∈ l, I64 x
theorem IOk.snoc {l : List Int} (h : IOk l) {x : Int} (hx : I64 x) : IOk (l ++ [x]) := by
  intro y hy
  rcases List.mem_append.1 hy with hy | hy
  · exact h y hy
  · simp only [List.mem_singleton] at hy
    subst hy; exact hx
theorem l10List_l0 {l : List Int} (N : Nat) (hN : N ≤ 42) : ∀ (d n : Nat) (xs : List Int) (i h : Int), n + d = N → xs.length = n → IOk xs → Cur l i →
    ∃ ys i' h', Ev (fun k => spec_l10List.l0 k xs (N : Int) (n : Int) l i h) (ys, i', h') ∧ Cur l i' ∧ IOk ys ∧ ys.length = N := by
  intro d
  induction d with
  | zero =>
    intro n xs i h hn hl hx hc
    refine ⟨xs, i, h, ev_succ ?_, hc, hx, by omega⟩
    simp only [spec_l10List.l0]
    exact ev_neg (by omega) (Ev.now _)
  | succ d ih =>
    intro n xs i h hn hl hx hc
    obtain ⟨b, i1, h1, e1, c1⟩ := l1Once h 12 hc
    have hw : wrap64 ((n : Int) + 1) = ((n + 1 : Nat) : Int) := w64 (by omega) (by omega)
    by_cases g : b = true
    · obtain ⟨a, i2, h2, e2, c2, ha⟩ := l1Whole h1 c1
      obtain ⟨ys, i3, h3, e3, c3, hy, hl'⟩ := ih (n + 1) (xs ++ [a]) i2 h2 (by omega) (by simp [hl]) (hx.snoc ha) c2
      refine ⟨ys, i3, h3, ev_succ ?_, c3, hy, hl'⟩
      simp only [spec_l10List.l0, e1, Option.bind_some, hw]
      exact ev_pos (by omega) (ev_pos g (Ev.bind e2 (ev_pos (by omega) e3)))
    · obtain ⟨a, i2, h2, e2, c2, _⟩ := l1Below h1 9 c1
      obtain ⟨ys, i3, h3, e3, c3, hy, hl'⟩ := ih (n + 1) (xs ++ [wrap64 (500 * (wrap64 (a - 4)))]) i2 h2 (by omega) (by simp [hl]) (hx.snoc (wrap_i64_range _)) c2
      refine ⟨ys, i3, h3, ev_succ ?_, c3, hy, hl'⟩
      simp only [spec_l10List.l0, e1, Option.bind_some, hw]
      refine ev_pos (by omega) (ev_neg g ?_)
      simp only [e2, Option.bind_some]
      exact ev_pos (by omega) e3
theorem l10List {l : List Int} {i : Int} (h : Int) (hc : Cur l i) : ∃ ys i' h', Ev (fun k => spec_l10List.f k l i h) (ys, i', h') ∧ Cur l i' ∧ IOk ys ∧ ys.length ≤ 42 := by
  unfold spec_l10List.f
  obtain ⟨a, i1, h1, e1, c1, a1, a2, _⟩ := l1Below h 10 hc
  obtain ⟨b, i2, h2, e2, c2⟩ := l1Once h1 12 c1
  have a3 := a2 (by omega)
  simp only [Option.bind_some, e1, e2]
  by_cases g : b = true
  · obtain ⟨c, i3, h3, e3, c3, d1, d2, _⟩ := l1Below h2 5 c2
    have d3 := d2 (by omega)
    obtain ⟨ys, i4, h4, e4, c4, hy, hl⟩ := l10List_l0 (l := l) (38 + c.toNat) (by omega) (38 + c.toNat) 0 [] i3 h3 (by omega) rfl (fun x hx => by simp at hx) c3
    refine ⟨ys, i4, h4, ev_pos g ?_, c4, hy, by omega⟩
    simp only [e3, Option.bind_some]
    refine ev_succ ?_
    simp only [spec_l10List.j0]
    rw [w64 (by omega) (by omega)]
    have : (38 + c : Int) = ((38 + c.toNat : Nat) : Int) := by omega
    rw [this]
    exact e4
  · obtain ⟨ys, i4, h4, e4, c4, hy, hl⟩ := l10List_l0 (l := l) a.toNat (by omega) a.toNat 0 [] i2 h2 (by omega) rfl (fun x hx => by simp at hx) c2
    refine ⟨ys, i4, h4, ev_neg g ?_, c4, hy, by omega⟩
    refine ev_succ ?_
    simp only [spec_l10List.j0]
    rw [Int.toNat_of_nonneg a1] at e4
    exact e4
theorem lawsTimes_l0 (l : List Int) (v : Int) (hl : l.length ≤ 35184372088832) : ∀ (d n c : Nat), n + d = l.length → c ≤ n → Ev (fun k => laws_times.l0 k l v (c : Int) (n : Int)) ((c + (l.drop n).count v : Nat) : Int) := by
  intro d
  induction d with
  | zero =>
    intro n c hn hc
    refine ev_end fun k => ?_
    simp only [laws_times.l0]
    obtain rfl : n = l.length := by omega
    rw [if_neg (by omega), List.drop_length]
    simp
  | succ d ih =>
    intro n c hn hc
    rw [rd_drop (by omega), List.count_cons]
    by_cases h : rd l (n : Int) = v
    · have := ih (n + 1) (c + 1) (by omega) (by omega)
      rw [show ((rd l (n : Int)) == v) = true from beq_iff_eq.2 h, if_pos rfl, show c + ((l.drop (n + 1)).count v + 1) = c + 1 + (l.drop (n + 1)).count v from by omega]
      refine Ev.step (fun k => ?_) this
      simp only [laws_times.l0]
      rw [if_pos (by omega), if_pos (by omega), if_pos h, w64 (by omega) (by omega), w64 (by omega) (by omega)]
      rfl
    · have := ih (n + 1) c (by omega) (by omega)
      rw [show ((rd l (n : Int)) == v) = false from beq_eq_false_iff_ne.2 h, if_neg (by simp)]
      refine Ev.step (fun k => ?_) this
      simp only [laws_times.l0]
      rw [if_pos (by omega), if_pos (by omega), if_neg h, w64 (by omega) (by omega)]
      rfl
theorem lawsTimes (l : List Int) (v : Int) (hl : l.length ≤ 35184372088832) : Ev (fun k => laws_times.f k l v) ((l.count v : Nat) : Int) := by
  have := lawsTimes_l0 l v hl l.length 0 0 (by omega) (by omega)
  rw [Nat.zero_add] at this
  exact this
theorem lawsSameInts_l0 (l : List Int) (hl : l.length ≤ 35184372088832) : ∀ (d n : Nat), n + d = l.length → Ev (fun k => laws_sameInts.l0 k l l (n : Int)) true := by
  intro d
  induction d with
  | zero =>
    intro n hn
    refine ev_end fun k => ?_
    simp only [laws_sameInts.l0]
    rw [if_neg (by omega)]
  | succ d ih =>
    intro n hn
    refine Ev.step (fun k => ?_) (ih (n + 1) (by omega))
    simp only [laws_sameInts.l0]
    rw [if_pos (by omega), if_pos (by omega), if_pos (by omega), if_pos trivial, w64 (by omega) (by omega)]
    rfl
theorem lawsSameInts (l : List Int) (hl : l.length ≤ 35184372088832) : Ev (fun k => laws_sameInts.f k l l) true := by
  unfold laws_sameInts.f
  exact ev_pos rfl (lawsSameInts_l0 l hl l.length 0 (by omega))
/-- x put among sorted numbers, behind those that are not greater. -/
def ins (l : List Int) (x : Int) : List Int := l.filter (fun y => decide (y ≤ x)) ++ x :: l.filter (fun y => decide (x < y))
def Asc (l : List Int) : Prop := l.Pairwise (· ≤ ·)
theorem ins_perm (l : List Int) (x : Int) : (ins l x).Perm (x :: l) := by
  unfold ins
  refine List.perm_middle.trans (List.Perm.cons _ ?_)
  have e : l.filter (fun y => decide (x < y)) = l.filter (fun y => !decide (y ≤ x)) := List.filter_congr fun y _ => by
    by_cases h : y ≤ x
    · simp [h]
    · simp [h]; omega
  rw [e]
  exact List.filter_append_perm _ l
theorem ins_length (l : List Int) (x : Int) : (ins l x).length = l.length + 1 := by
  have := (ins_perm l x).length_eq
  simpa using this
theorem ins_asc {l : List Int} (h : Asc l) (x : Int) : Asc (ins l x) := by
  unfold Asc ins at *
  rw [List.pairwise_append]
  refine ⟨h.filter _, ?_, ?_⟩
  · rw [List.pairwise_cons]
    refine ⟨fun y hy => ?_, h.filter _⟩
    have := (List.mem_filter.1 hy).2
    simp at this; omega
  · intro a ha b hb
    have h1 := (List.mem_filter.1 ha).2
    simp at h1
    rcases List.mem_cons.1 hb with rfl | hb
    · exact h1
    · have h2 := (List.mem_filter.1 hb).2
      simp at h2; omega
/-- The numbers in ascending order. -/
def isort (l : List Int) : List Int := l.foldl ins []
theorem isort_aux (l acc : List Int) (h : Asc acc) : Asc (l.foldl ins acc) ∧ (l.foldl ins acc).Perm (acc ++ l) := by
  induction l generalizing acc with
  | nil => exact ⟨h, by simp⟩
  | cons x l ih =>
    obtain ⟨h1, h2⟩ := ih (ins acc x) (ins_asc h x)
    refine ⟨h1, h2.trans ?_⟩
    refine ((ins_perm acc x).append_right l).trans ?_
    exact (List.perm_middle (a := x) (l₁ := acc) (l₂ := l)).symm
theorem isort_asc (l : List Int) : Asc (isort l) := (isort_aux l [] List.Pairwise.nil).1
theorem isort_perm (l : List Int) : (isort l).Perm l := by simpa [isort] using (isort_aux l [] List.Pairwise.nil).2
theorem isort_length (l : List Int) : (isort l).length = l.length := (isort_perm l).length_eq
theorem parts_at {out : List Int} (h : Asc out) {x : Int} {p : Nat} (hp : p ≤ out.length) (hb : ∀ y ∈ out.drop p, x < y) (ha : ∀ y ∈ out.take p, y ≤ x) : ins out x = out.take p ++ x :: out.drop p := by
  have a1 : (out.take p).filter (fun y => decide (y ≤ x)) = out.take p := List.filter_eq_self.2 fun y hy => by simpa using ha y hy
  have a2 : (out.drop p).filter (fun y => decide (y ≤ x)) = [] := List.filter_eq_nil_iff.2 fun y hy => by have := hb y hy; simp; omega
  have b1 : (out.take p).filter (fun y => decide (x < y)) = [] := List.filter_eq_nil_iff.2 fun y hy => by have := ha y hy; simp; omega
  have b2 : (out.drop p).filter (fun y => decide (x < y)) = out.drop p := List.filter_eq_self.2 fun y hy => by simpa using hb y hy
  have e1 : out.filter (fun y => decide (y ≤ x)) = out.take p := by
    conv => lhs; rw [← List.take_append_drop p out]
    rw [List.filter_append, a1, a2, List.append_nil]
  have e2 : out.filter (fun y => decide (x < y)) = out.drop p := by
    conv => lhs; rw [← List.take_append_drop p out]
    rw [List.filter_append, b1, b2, List.nil_append]
  unfold ins
  rw [e1, e2]
/-- Each number but those that are the one before. -/
def ddFrom : Int → List Int → List Int
  | _, [] => []
  | p, y :: l => if y = p then ddFrom p l else y :: ddFrom y l
def dd : List Int → List Int
  | [] => []
  | x :: l => x :: ddFrom x l
def Strict (l : List Int) : Prop := l.Pairwise (· < ·)
theorem ddFrom_sub (p : Int) (l : List Int) : (ddFrom p l).Sublist l := by
  induction l generalizing p with
  | nil => exact List.Sublist.slnil
  | cons y l ih =>
    simp only [ddFrom]
    split
    · exact (ih p).cons y
    · exact (ih y).cons_cons y
theorem dd_sub (l : List Int) : (dd l).Sublist l := by
  cases l with
  | nil => exact List.Sublist.slnil
  | cons x l => exact (ddFrom_sub x l).cons_cons x
theorem dd_length (l : List Int) : (dd l).length ≤ l.length := (dd_sub l).length_le
theorem ddFrom_strict (p : Int) (l : List Int) (h : Asc (p :: l)) : Strict (p :: ddFrom p l) := by
  induction l generalizing p with
  | nil => simp [ddFrom, Strict]
  | cons y l ih =>
    unfold Asc at *
    rw [List.pairwise_cons, List.pairwise_cons] at h
    obtain ⟨h1, h2, h3⟩ := h
    have hy := h1 y (by simp)
    simp only [ddFrom]
    split
    · rename_i e
      subst e
      exact ih y (by rw [List.pairwise_cons]; exact ⟨h2, h3⟩)
    · rename_i e
      have := ih y (by rw [List.pairwise_cons]; exact ⟨h2, h3⟩)
      unfold Strict at *
      rw [List.pairwise_cons]
      refine ⟨fun z hz => ?_, this⟩
      rcases List.mem_cons.1 hz with rfl | hz
      · omega
      · have := h2 z ((ddFrom_sub y l).subset hz)
        omega
theorem dd_strict {l : List Int} (h : Asc l) : Strict (dd l) := by
  cases l with
  | nil => exact List.Pairwise.nil
  | cons x l => exact ddFrom_strict x l h
theorem ddFrom_mem (p : Int) (l : List Int) {x : Int} (h : x ∈ l) : x = p ∨ x ∈ ddFrom p l := by
  induction l generalizing p with
  | nil => simp at h
  | cons y l ih =>
    simp only [ddFrom]
    rcases List.mem_cons.1 h with rfl | h
    · split
      · rename_i e; exact .inl e
      · exact .inr (by simp)
    · split
      · exact ih p h
      · rcases ih y h with rfl | g
        · exact .inr (by simp)
        · exact .inr (by simp [g])
theorem dd_mem {l : List Int} {x : Int} : x ∈ dd l ↔ x ∈ l := by
  refine ⟨fun h => (dd_sub l).subset h, fun h => ?_⟩
  cases l with
  | nil => simp at h
  | cons y l =>
    simp only [dd, List.mem_cons] at h ⊢
    rcases h with rfl | h
    · exact .inl rfl
    · exact ddFrom_mem y l h
theorem isort_of_asc {l : List Int} (h : Asc l) : isort l = l :=
  List.Perm.eq_of_pairwise (le := fun a b => a ≤ b) (fun a b _ _ h1 h2 => Int.le_antisymm h1 h2) (isort_asc l) h (isort_perm l)
/-- The place of the k-th of b borders among n. -/
def bord (n b k : Nat) : Nat := n * k / b
theorem bord_le {n b k : Nat} (hb : 0 < b) (hk : k ≤ b) : bord n b k ≤ n := by
  unfold bord
  exact Nat.le_trans (Nat.div_le_div_right (Nat.mul_le_mul_left n hk)) (by rw [Nat.mul_div_cancel _ hb]; exact Nat.le_refl _)
theorem bord_mono {n b j k : Nat} (h : j ≤ k) : bord n b j ≤ bord n b k := Nat.div_le_div_right (Nat.mul_le_mul_left n h)
/-- What the k-th of b borders gives. -/
def pick (all : List Int) (b k : Nat) : List Int :=
  if 1 ≤ bord all.length b k ∧ rd all ((bord all.length b k - 1 : Nat) : Int) < rd all ((all.length - 1 : Nat) : Int) then [rd all ((bord all.length b k - 1 : Nat) : Int)] else []
def raw (all : List Int) (b : Nat) : Nat → List Int
  | 0 => []
  | m + 1 => raw all b m ++ pick all b (m + 1)
theorem raw_length (all : List Int) (b m : Nat) : (raw all b m).length ≤ m := by
  induction m with
  | zero => simp [raw]
  | succ m ih =>
    simp only [raw, List.length_append]
    have : (pick all b (m + 1)).length ≤ 1 := by unfold pick; split <;> simp
    omega
theorem raw_mem {all : List Int} {b m : Nat} {x : Int} (h : x ∈ raw all b m) : ∃ k, 1 ≤ k ∧ k ≤ m ∧ 1 ≤ bord all.length b k ∧ x = rd all ((bord all.length b k - 1 : Nat) : Int) ∧ x < rd all ((all.length - 1 : Nat) : Int) := by
  induction m with
  | zero => simp [raw] at h
  | succ m ih =>
    simp only [raw, List.mem_append] at h
    rcases h with h | h
    · obtain ⟨k, h1, h2, h3⟩ := ih h
      exact ⟨k, h1, by omega, h3⟩
    · unfold pick at h
      split at h
      · rename_i c
        have hx := List.mem_singleton.1 h
        exact ⟨m + 1, by omega, by omega, c.1, hx, hx ▸ c.2⟩
      · simp at h
theorem raw_has {all : List Int} {b m k : Nat} (h1 : 1 ≤ k) (h2 : k ≤ m) (h3 : 1 ≤ bord all.length b k) (h4 : rd all ((bord all.length b k - 1 : Nat) : Int) < rd all ((all.length - 1 : Nat) : Int)) : rd all ((bord all.length b k - 1 : Nat) : Int) ∈ raw all b m := by
  induction m with
  | zero => omega
  | succ m ih =>
    simp only [raw, List.mem_append]
    by_cases e : k = m + 1
    · subst e
      right
      unfold pick
      rw [if_pos ⟨h3, h4⟩]
      simp
    · exact .inl (ih (by omega))
theorem asc_rd {all : List Int} (hs : Asc all) {i j : Nat} (h : i ≤ j) (hj : j < all.length) : rd all (i : Int) ≤ rd all (j : Int) := by
  rw [rd_of (List.getElem?_eq_getElem (show i < all.length by omega)), rd_of (List.getElem?_eq_getElem hj)]
  by_cases e : i = j
  · subst e; omega
  · exact List.pairwise_iff_getElem.1 hs i j (by omega) hj (by omega)
theorem raw_asc {all : List Int} (hs : Asc all) {b : Nat} (hb : 0 < b) : ∀ m, m ≤ b → Asc (raw all b m) := by
  intro m
  induction m with
  | zero => intro _; exact List.Pairwise.nil
  | succ m ih =>
    intro hm
    unfold Asc at *
    simp only [raw]
    rw [List.pairwise_append]
    refine ⟨ih (by omega), ?_, ?_⟩
    · unfold pick; split <;> simp
    · intro x hx y hy
      obtain ⟨k, h1, h2, h3, h4, _⟩ := raw_mem hx
      unfold pick at hy
      split at hy
      · rename_i c
        have hy := List.mem_singleton.1 hy
        rw [h4, hy]
        have b1 := bord_mono (n := all.length) (b := b) (show k ≤ m + 1 by omega)
        have b2 := bord_le (n := all.length) hb hm
        exact asc_rd hs (by omega) (by omega)
      · simp at hy
/-- The cut points. -/
def cutsOf (l : List Int) (b : Int) : List Int := if (2 ≤ b ∧ b ≤ 8) ∧ (1 ≤ l.length ∧ l.length ≤ 40) then dd (raw (isort l) b.toNat (b.toNat - 1)) else []
theorem cutsOf_length (l : List Int) (b : Int) : (cutsOf l b).length ≤ 7 := by
  unfold cutsOf
  split
  · have h1 := dd_length (raw (isort l) b.toNat (b.toNat - 1))
    have h2 := raw_length (isort l) b.toNat (b.toNat - 1)
    omega
  · simp
theorem bord_int {n b m : Nat} (hn : n ≤ 40) (hb : 0 < b) (hb8 : b ≤ 8) (hm : m ≤ b) : wrap64 (Int.tdiv (wrap64 ((n : Int) * (m : Int))) (b : Int)) = ((bord n b m : Nat) : Int) := by
  have h1 : n * m ≤ 40 * 8 := Nat.mul_le_mul hn (by omega)
  have h2 := bord_le (n := n) hb hm
  have e1 : (n : Int) * (m : Int) = ((n * m : Nat) : Int) := (Int.natCast_mul n m).symm
  rw [e1, w64 (x := ((n * m : Nat) : Int)) (by omega) (by omega), ← Int.ofNat_tdiv]
  show wrap64 ((bord n b m : Nat) : Int) = _
  exact w64 (by omega) (by omega)
theorem specSort_l1 (l : List Int) (hl : l.length ≤ 1048576) (n : Nat) (hn : n < l.length) (out : List Int) (ho : out.length = n) (hs : Asc out) (r : List Int)
    (go : Ev (fun k => spec_SortInts.l0 k l (ins out (rd l (n : Int))) ((n + 1 : Nat) : Int)) r) : ∀ p : Nat, p ≤ out.length → (∀ y ∈ out.drop p, rd l (n : Int) < y) →
    Ev (fun k => spec_SortInts.l1 k l out (n : Int) (p : Int)) r := by
  have hw : wrap64 ((n : Int) + 1) = ((n + 1 : Nat) : Int) := w64 (by omega) (by omega)
  intro p
  induction p with
  | zero =>
    intro hp hb
    refine ev_succ ?_
    have e := parts_at hs hp hb (fun y hy => by simp at hy)
    simp only [spec_SortInts.l1, Option.bind_some, hw]
    rw [e] at go
    refine ev_neg (by omega) (ev_pos (by omega) (ev_pos (by omega) (ev_pos (by simp <;> omega) (ev_pos (by omega) (ev_pos (by omega) (ev_pos (by simp <;> omega) (ev_pos (by simp <;> omega) ?_)))))))
    simpa using go
  | succ p ih =>
    intro hp hb
    refine ev_succ ?_
    have em : (((p + 1 : Nat) : Int) - 1) = (p : Int) := by omega
    have hx : out[p]? = some out[p] := List.getElem?_eq_getElem (by omega)
    have d1 : out.drop p = out[p] :: out.drop (p + 1) := List.drop_eq_getElem_cons (by omega)
    have hwp : wrap64 ((p : Int)) = (p : Int) := w64 (by omega) (by omega)
    simp only [spec_SortInts.l1, Option.bind_some, hw, em, hwp, rd_of hx]
    refine ev_pos (by omega) (ev_pos (by omega) (ev_pos (by omega) (ev_pos (by omega) (ev_pos (by omega) ?_))))
    by_cases g : out[p] > rd l (n : Int)
    · refine ev_pos g (ih (by omega) ?_)
      intro y hy
      rw [d1, List.mem_cons] at hy
      rcases hy with rfl | hy
      · exact g
      · exact hb y hy
    · have e := parts_at hs hp hb (fun y hy => by
        obtain ⟨i, hi, rfl⟩ := List.getElem_of_mem hy
        simp only [List.length_take] at hi
        rw [List.getElem_take]
        by_cases c : i = p
        · subst c; omega
        · have := List.pairwise_iff_getElem.1 hs i p (by omega) (by omega) (by omega)
          omega)
      rw [e] at go
      refine ev_neg g (ev_pos (by omega) (ev_pos (by omega) (ev_pos (by simp <;> omega) (ev_pos (by simp <;> omega) (ev_pos (by simp <;> omega) ?_)))))
      have et : (((p + 1 : Nat) : Int)).toNat = p + 1 := by omega
      simp only [et]
      simpa using go
theorem specSort_l0 (l : List Int) (hl : l.length ≤ 1048576) : ∀ (d n : Nat) (out : List Int), n + d = l.length → out.length = n → Asc out → Ev (fun k => spec_SortInts.l0 k l out (n : Int)) ((l.drop n).foldl ins out) := by
  intro d
  induction d with
  | zero =>
    intro n out hn ho hs
    obtain rfl : n = l.length := by omega
    refine ev_succ ?_
    simp only [spec_SortInts.l0]
    refine ev_neg (by omega) (ev_of ?_)
    rw [List.drop_length]
    rfl
  | succ d ih =>
    intro n out hn ho hs
    refine ev_succ ?_
    simp only [spec_SortInts.l0]
    refine ev_pos (by omega) ?_
    rw [rd_drop (by omega), List.foldl_cons]
    exact specSort_l1 l hl n (by omega) out ho hs _ (ih (n + 1) _ (by omega) (by rw [ins_length, ho]) (ins_asc hs _)) out.length (Nat.le_refl _) (by simp)
theorem specSort (l : List Int) (hl : l.length ≤ 1048576) : Ev (fun k => spec_SortInts.f k l) (isort l) :=
  specSort_l0 l hl l.length 0 [] (by omega) rfl List.Pairwise.nil
theorem specDistinct_l0 (all : List Int) (hl : all.length ≤ 1048576) : ∀ (d n : Nat) (out : List Int), n + 1 + d = all.length → out.length ≤ n + 1 → Ev (fun k => spec_Distinct.l0 k out all ((n + 1 : Nat) : Int)) (out ++ ddFrom (rd all (n : Int)) (all.drop (n + 1))) := by
  intro d
  induction d with
  | zero =>
    intro n out hn ho
    refine ev_succ ?_
    simp only [spec_Distinct.l0]
    refine ev_neg (by omega) (ev_of ?_)
    rw [show n + 1 = all.length from by omega, List.drop_length]
    simp [ddFrom]
  | succ d ih =>
    intro n out hn ho
    refine ev_succ ?_
    have em : (((n + 1 : Nat) : Int) - 1) = (n : Int) := by omega
    have hwn : wrap64 ((n : Int)) = (n : Int) := w64 (by omega) (by omega)
    have hw : wrap64 (((n + 1 : Nat) : Int) + 1) = ((n + 1 + 1 : Nat) : Int) := w64 (by omega) (by omega)
    simp only [spec_Distinct.l0, em, hwn, hw]
    refine ev_pos (by omega) (ev_neg (by omega) (ev_pos (by omega) (ev_pos (by omega) (ev_pos (by omega) ?_))))
    rw [rd_drop (show n + 1 < all.length from by omega)]
    simp only [ddFrom]
    by_cases e : rd all ((n + 1 : Nat) : Int) = rd all (n : Int)
    · refine ev_pos e (ev_eq (ih (n + 1) out (by omega) (by omega)) ?_)
      rw [if_pos e, e]
    · refine ev_neg e (ev_pos (by omega) (ev_eq (ih (n + 1) _ (by omega) (by simp; omega)) ?_))
      rw [if_neg e]
      simp
theorem specDistinct (l : List Int) (hl : l.length ≤ 1048576) : Ev (fun k => spec_Distinct.f k l) (dd (isort l)) := by
  unfold spec_Distinct.f
  refine Ev.bind (specSort l hl) ?_
  have hlen := isort_length l
  generalize isort l = all at *
  cases all with
  | nil =>
    refine ev_succ ?_
    simp only [spec_Distinct.l0]
    exact ev_neg (by simp) (Ev.now _)
  | cons x all =>
    refine ev_succ ?_
    simp only [spec_Distinct.l0]
    refine ev_pos (by simp <;> omega) (ev_pos trivial (ev_pos (by omega) (ev_pos (by simp) ?_)))
    simp only [List.length_cons] at hlen
    have hw : wrap64 (0 + 1) = ((0 + 1 : Nat) : Int) := w64 (by omega) (by omega)
    rw [hw]
    refine ev_eq (specDistinct_l0 (x :: all) (by simp <;> omega) all.length 0 ([] ++ [rd (x :: all) 0]) (by simp <;> omega) (by simp)) ?_
    simp [dd, rd]
theorem specIn (a b c : Int) : spec_l1In.f a b c = some (decide (b ≤ a ∧ a ≤ c)) := by
  unfold spec_l1In.f
  by_cases h : b ≤ a
  · rw [if_pos h]; simp [h]
  · rw [if_neg h]; simp [h]
theorem specCuts_l0 (all : List Int) (b : Nat) (h1 : 1 ≤ all.length) (h2 : all.length ≤ 40) (hb : 2 ≤ b) (hb8 : b ≤ 8) (hs : Asc all) : ∀ d m : Nat, m + 1 + d = b →
    Ev (fun k => spec_CutsOf.l0 k (b : Int) (all.length : Int) all (raw all b m) ((m + 1 : Nat) : Int)) (dd (raw all b (b - 1))) := by
  intro d
  induction d with
  | zero =>
    intro m hm
    obtain rfl : b = m + 1 := by omega
    refine ev_succ ?_
    simp only [spec_CutsOf.l0]
    have hlen := raw_length all (m + 1) m
    have ha := raw_asc hs (show 0 < m + 1 by omega) m (by omega)
    refine ev_neg (by omega) (Ev.bind (specDistinct _ (by omega)) ?_)
    rw [isort_of_asc ha]
    exact Ev.now _
  | succ d ih =>
    intro m hm
    have go := ih (m + 1) (by omega)
    have E := bord_int (n := all.length) (b := b) (m := m + 1) h2 (by omega) hb8 (by omega)
    have hle := bord_le (n := all.length) (b := b) (k := m + 1) (by omega) (by omega)
    have hlen := raw_length all b m
    have ew : wrap64 (((m + 1 : Nat) : Int) + 1) = ((m + 1 + 1 : Nat) : Int) := w64 (by omega) (by omega)
    have er : raw all b (m + 1) = raw all b m ++ pick all b (m + 1) := rfl
    rw [er] at go
    unfold pick at go
    generalize bord all.length b (m + 1) = i at *
    refine ev_succ ?_
    simp only [spec_CutsOf.l0, E, ew]
    refine ev_pos (by omega) (ev_neg (by omega) ?_)
    by_cases g1 : 1 ≤ i
    · have E2 : wrap64 ((i : Int) - 1) = ((i - 1 : Nat) : Int) := by rw [w64 (by omega) (by omega)]; omega
      have E3 : wrap64 ((all.length : Int) - 1) = ((all.length - 1 : Nat) : Int) := by rw [w64 (by omega) (by omega)]; omega
      simp only [E2, E3]
      refine ev_pos (by omega) (ev_pos (by omega) (ev_pos (by omega) (ev_pos (by omega) (ev_pos (by omega) ?_))))
      by_cases g2 : rd all ((i - 1 : Nat) : Int) < rd all ((all.length - 1 : Nat) : Int)
      · rw [if_pos ⟨g1, g2⟩] at go
        exact ev_pos g2 (ev_pos (by omega) go)
      · rw [if_neg (fun h => g2 h.2), List.append_nil] at go
        exact ev_neg g2 go
    · rw [if_neg (fun h => g1 h.1), List.append_nil] at go
      exact ev_neg (by omega) go
theorem specCuts (l : List Int) (b : Int) (hl : l.length ≤ 1048576) : Ev (fun k => spec_CutsOf.f k l b) (cutsOf l b) := by
  unfold spec_CutsOf.f cutsOf
  rw [specIn]
  simp only [Option.bind_some]
  by_cases hb : 2 ≤ b ∧ b ≤ 8
  · refine ev_pos (decide_eq_true hb) ?_
    rw [specIn]
    simp only [Option.bind_some]
    refine ev_succ ?_
    simp only [spec_CutsOf.j0]
    by_cases hn : 1 ≤ l.length ∧ l.length ≤ 40
    · rw [if_pos ⟨hb, hn⟩]
      refine ev_neg (by simp; omega) (Ev.bind (specSort l hl) ?_)
      have hs := isort_length l
      have := specCuts_l0 (isort l) b.toNat (by omega) (by omega) (by omega) (by omega) (isort_asc l) (b.toNat - 1) 0 (by omega)
      rw [hs, Int.toNat_of_nonneg (by omega)] at this
      exact this
    · rw [if_neg (fun h => hn h.2)]
      exact ev_pos (by simp; omega) (Ev.now _)
  · rw [if_neg (fun h => hb h.1)]
    refine ev_neg (by simpa using hb) (ev_succ ?_)
    simp only [spec_CutsOf.j0]
    exact ev_pos trivial (Ev.now _)
theorem ddFrom_snoc (p : Int) (l : List Int) (x : Int) : ddFrom p (l ++ [x]) = ddFrom p l ++ (if x = (l.getLast?).getD p then [] else [x]) := by
  induction l generalizing p with
  | nil =>
    by_cases h : x = p <;> simp [ddFrom, h]
  | cons y l ih =>
    have e : ((y :: l).getLast?).getD p = (l.getLast?).getD y := by
      rw [List.getLast?_cons]
      rfl
    simp only [List.cons_append, ddFrom]
    rw [e]
    by_cases h : y = p
    · subst h
      rw [if_pos rfl, if_pos rfl, ih]
    · rw [if_neg h, if_neg h, ih, List.cons_append]
theorem compactUpTo_dd (l : List Int) : ∀ m, m ≤ l.length → Lib.compactUpTo l.toArray m = dd (l.take m) := by
  intro m
  induction m with
  | zero => intro _; simp [Lib.compactUpTo, dd]
  | succ m ih =>
    intro h
    rw [Lib.compactUpTo_succ, ih (by omega), List.take_succ_eq_append_getElem (by omega)]
    have em : (l.toArray)[m]! = l[m] := by simp [getElem!_pos, show m < l.length by omega]
    rw [em]
    cases m with
    | zero => simp [dd, Lib.keeps, ddFrom]
    | succ k =>
      have ek : (l.toArray)[k + 1 - 1]! = l[k] := by simp [getElem!_pos, show k < l.length by omega]
      obtain ⟨y, ys, hy⟩ : ∃ y ys, l.take (k + 1) = y :: ys := by
        cases hl : l.take (k + 1) with
        | nil => have := congrArg List.length hl; simp at this; subst this; simp at h
        | cons y ys => exact ⟨y, ys, rfl⟩
      have hlast : (ys.getLast?).getD y = l[k] := by
        have : (l.take (k + 1)).getLast? = some l[k] := by
          rw [List.take_succ_eq_append_getElem (by omega), List.getLast?_concat]
        rw [hy, List.getLast?_cons] at this
        simpa using this
      rw [hy]
      simp only [List.cons_append, dd]
      rw [ddFrom_snoc, hlast]
      congr 2
      by_cases c : l[k + 1] = l[k]
      · rw [if_pos c, Lib.keeps_neg (by omega) (by rw [em, ek, c])]
        rfl
      · rw [if_neg c, Lib.keeps_pos (by rw [em, ek]; exact c)]
        rfl
theorem compact_eq (l : List Int) : Lib.compact l = dd l := by
  unfold Lib.compact
  rw [compactUpTo_dd l _ (Nat.le_refl _), List.take_length]
theorem implCompact (l : List Int) (hl : l.length ≤ 1048576) : slices_Compact_int_int.f l = some (dd l) := by
  unfold slices_Compact_int_int.f
  rw [if_pos (by omega), compact_eq]
theorem msort_eq (l : List Int) : l.mergeSort (fun x y => decide (x ≤ y)) = isort l := by
  refine List.Perm.eq_of_pairwise (le := fun a b => a ≤ b) (fun a b _ _ h1 h2 => Int.le_antisymm h1 h2) ?_ (isort_asc l) ((List.mergeSort_perm l _).trans (isort_perm l).symm)
  refine (List.pairwise_mergeSort (le := fun x y : Int => decide (x ≤ y)) (fun a b c h1 h2 => ?_) (fun a b => ?_) l).imp (fun h => by simpa using h)
  · simp only [decide_eq_true_eq] at *; omega
  · simp only [Bool.or_eq_true, decide_eq_true_eq]; omega
theorem implSort (l : List Int) (hl : l.length ≤ 1048576) : impl_SortInts.f l = some (isort l) := by
  unfold impl_SortInts.f slices_Clone_int_int.f slices_Sort_int_int.f
  rw [if_pos (by omega)]
  simp only [Option.bind_some]
  rw [if_pos (by omega), msort_eq]
  rfl
theorem implWithin (a b c : Int) : impl_within.f a b c = some (decide (b ≤ a ∧ a ≤ c)) := by
  unfold impl_within.f
  by_cases h : b ≤ a
  · rw [if_pos h]; simp [h]
  · rw [if_neg h]; simp [h]
theorem implCuts_l0 (l all : List Int) (b : Nat) (hl : l.length = all.length) (h1 : 1 ≤ all.length) (h2 : all.length ≤ 40) (hb : 2 ≤ b) (hb8 : b ≤ 8) (hs : Asc all) : ∀ d m : Nat, m + 1 + d = b →
    Ev (fun k => impl_CutsOf.l0 k l (b : Int) (raw all b m) all ((m + 1 : Nat) : Int)) (dd (raw all b (b - 1))) := by
  intro d
  induction d with
  | zero =>
    intro m hm
    obtain rfl : b = m + 1 := by omega
    refine ev_succ ?_
    simp only [impl_CutsOf.l0]
    have hlen := raw_length all (m + 1) m
    refine ev_neg (by omega) ?_
    rw [implCompact _ (by omega)]
    exact Ev.now _
  | succ d ih =>
    intro m hm
    have go := ih (m + 1) (by omega)
    have E := bord_int (n := all.length) (b := b) (m := m + 1) h2 (by omega) hb8 (by omega)
    rw [← hl] at E
    have hle := bord_le (n := all.length) (b := b) (k := m + 1) (by omega) (by omega)
    have hlen := raw_length all b m
    have ew : wrap64 (((m + 1 : Nat) : Int) + 1) = ((m + 1 + 1 : Nat) : Int) := w64 (by omega) (by omega)
    have er : raw all b (m + 1) = raw all b m ++ pick all b (m + 1) := rfl
    rw [er] at go
    unfold pick at go
    rw [hl] at E
    generalize hi : bord all.length b (m + 1) = i at *
    rw [← hl] at E
    refine ev_succ ?_
    simp only [impl_CutsOf.l0, E, ew]
    refine ev_pos (by omega) (ev_neg (by omega) ?_)
    by_cases g1 : 1 ≤ i
    · have E2 : wrap64 ((i : Int) - 1) = ((i - 1 : Nat) : Int) := by rw [w64 (by omega) (by omega)]; omega
      have E3 : wrap64 ((all.length : Int) - 1) = ((all.length - 1 : Nat) : Int) := by rw [w64 (by omega) (by omega)]; omega
      have hmax : rd all ((i - 1 : Nat) : Int) ≤ rd all ((all.length - 1 : Nat) : Int) := asc_rd hs (by omega) (by omega)
      simp only [E2, E3]
      refine ev_pos (by omega) (ev_pos (by omega) (ev_pos (by omega) (ev_pos (by omega) (ev_pos (by omega) ?_))))
      by_cases g2 : rd all ((i - 1 : Nat) : Int) < rd all ((all.length - 1 : Nat) : Int)
      · rw [if_pos ⟨g1, g2⟩] at go
        exact ev_neg (by omega) (ev_pos (by omega) go)
      · rw [if_neg (fun h => g2 h.2), List.append_nil] at go
        exact ev_pos (by omega) go
    · rw [if_neg (fun h => g1 h.1), List.append_nil] at go
      exact ev_neg (by omega) go
theorem implCuts (l : List Int) (b : Int) (hl : l.length ≤ 1048576) : Ev (fun k => impl_CutsOf.f k l b) (cutsOf l b) := by
  unfold impl_CutsOf.f cutsOf
  rw [implWithin]
  simp only [Option.bind_some]
  by_cases hb : 2 ≤ b ∧ b ≤ 8
  · refine ev_pos (decide_eq_true hb) ?_
    rw [implWithin]
    simp only [Option.bind_some]
    refine ev_succ ?_
    simp only [impl_CutsOf.j0]
    by_cases hn : 1 ≤ l.length ∧ l.length ≤ 40
    · rw [if_pos ⟨hb, hn⟩]
      refine ev_neg (by simp; omega) ?_
      have hs := isort_length l
      rw [implSort l hl]
      simp only [Option.bind_some]
      have := implCuts_l0 l (isort l) b.toNat hs.symm (by omega) (by omega) (by omega) (by omega) (isort_asc l) (b.toNat - 1) 0 (by omega)
      rw [Int.toNat_of_nonneg (by omega)] at this
      exact this
    · rw [if_neg (fun h => hn h.2)]
      exact ev_pos (by simp; omega) (Ev.now _)
  · rw [if_neg (fun h => hb h.1)]
    refine ev_neg (by simpa using hb) (ev_succ ?_)
    simp only [impl_CutsOf.j0]
    exact ev_pos trivial (Ev.now _)
theorem cutsOf_strict (l : List Int) (b : Int) : Strict (cutsOf l b) := by
  unfold cutsOf
  split
  · exact dd_strict (raw_asc (isort_asc l) (by omega) _ (by omega))
  · exact List.Pairwise.nil
theorem cutsOf_mem {l : List Int} {b : Int} {c : Int} (h : c ∈ cutsOf l b) : c ∈ l ∧ ∃ z, z ∈ l ∧ c < z := by
  unfold cutsOf at h
  split at h
  · rename_i g
    rw [dd_mem] at h
    obtain ⟨k, h1, h2, h3, h4, h5⟩ := raw_mem h
    have hs := isort_length l
    have hle := bord_le (n := (isort l).length) (b := b.toNat) (k := k) (by omega) (by omega)
    have m1 : rd (isort l) ((bord (isort l).length b.toNat k - 1 : Nat) : Int) ∈ isort l := rd_mem (by omega) (by omega)
    have m2 : rd (isort l) (((isort l).length - 1 : Nat) : Int) ∈ isort l := rd_mem (by omega) (by omega)
    exact ⟨by rw [h4]; exact (isort_perm l).mem_iff.1 m1, _, (isort_perm l).mem_iff.1 m2, h5⟩
  · simp at h
theorem cutsOf_few (l : List Int) (b : Int) : cutsOf l b = [] ∨ ((cutsOf l b).length : Int) < b := by
  unfold cutsOf
  split
  · rename_i g
    have h1 := dd_length (raw (isort l) b.toNat (b.toNat - 1))
    have h2 := raw_length (isort l) b.toNat (b.toNat - 1)
    right
    omega
  · exact .inl rfl

/-- How many of the numbers are at most v. -/
def leq (l : List Int) (v : Int) : Nat := l.countP (fun y => decide (y ≤ v))
theorem leq_cons (x : Int) (l : List Int) (v : Int) : leq (x :: l) v = leq l v + if x ≤ v then 1 else 0 := by
  unfold leq
  rw [List.countP_cons]
  by_cases h : x ≤ v <;> simp [h]
theorem w64s {n : Nat} (h : n ≤ 1048576) : wrap64 ((n : Int) + 1) = ((n + 1 : Nat) : Int) := w64 (by omega) (by omega)
theorem cuts_l1 (xs C : List Int) (b : Int) (hx : xs.length ≤ 1048576) (hC : C.length ≤ 7) (i : Nat) (hi : i < C.length) (r : Bool) (T : Nat) (hT : T ≠ 0) (hT2 : T ≠ xs.length) (hcnt : 0 < xs.count (rd C (i : Int))) (hlt : 0 < i → rd C ((i - 1 : Nat) : Int) < rd C (i : Int))
    (go : Ev (fun k => laws_FnCuts.l0 k xs b C ((i + 1 : Nat) : Int)) r) : ∀ (d n c : Nat), n + d = xs.length → c ≤ n → c + leq (xs.drop n) (rd C (i : Int)) = T →
    Ev (fun k => laws_FnCuts.l1 k xs b C (i : Int) (c : Int) (n : Int)) r := by
  intro d
  induction d with
  | zero =>
    intro n c hn hc ht
    obtain rfl : n = xs.length := by omega
    rw [List.drop_length] at ht
    have h0 : leq [] (rd C (i : Int)) = 0 := rfl
    have e1 : wrap64 ((i : Int) + 1) = ((i + 1 : Nat) : Int) := w64s (by omega)
    have hcT : c = T := by omega
    clear ht h0
    refine ev_succ ?_
    simp only [laws_FnCuts.l1, e1]
    refine ev_neg (by omega) (ev_neg (by omega) (ev_neg (by omega) (ev_pos (by omega) (ev_pos (by omega) ?_))))
    unfold laws_has.f
    refine Ev.bind (Ev.bind (lawsTimes xs _ (by omega)) (Ev.now _)) (ev_pos (decide_eq_true (by omega)) ?_)
    by_cases h0 : 0 < i
    · have e2 : wrap64 ((i : Int) - 1) = ((i - 1 : Nat) : Int) := by rw [w64 (by omega) (by omega)]; omega
      simp only [e2]
      have := hlt h0
      exact ev_pos (by omega) (ev_pos (by omega) (ev_pos (by omega) (ev_neg (by omega) go)))
    · exact ev_neg (by omega) go
  | succ d ih =>
    intro n c hn hc ht
    rw [rd_drop (by omega)] at ht
    have i1 := ih (n + 1) (c + 1) (by omega) (by omega)
    have i2 := ih (n + 1) c (by omega) (by omega)
    have hn1 : n ≤ 1048576 := by omega
    have hc1 : c ≤ 1048576 := by omega
    refine ev_succ ?_
    simp only [laws_FnCuts.l1, w64s hn1, w64s hc1]
    refine ev_pos (by omega) (ev_pos (by omega) (ev_pos (by omega) (ev_pos (by omega) ?_)))
    by_cases g : rd xs (n : Int) ≤ rd C (i : Int)
    · rw [leq_cons, if_pos g] at ht
      exact ev_pos g (i1 (by omega))
    · rw [leq_cons, if_neg g] at ht
      exact ev_neg g (i2 (by omega))
theorem cuts_l0 (xs : List Int) (b : Int) (hx : xs.length ≤ 1048576) : Ev (fun k => laws_FnCuts.l0 k xs b (cutsOf xs b) 0) true := by
  have hC := cutsOf_length xs b
  have hs := cutsOf_strict xs b
  have hm : ∀ c ∈ cutsOf xs b, c ∈ xs ∧ ∃ z, z ∈ xs ∧ c < z := fun c hc => cutsOf_mem hc
  have hf := cutsOf_few xs b
  generalize cutsOf xs b = C at *
  refine ev_eq (all_loop (fun k i => laws_FnCuts.l0 k xs b C i) C.length (fun _ => True) ?_ ?_ ?_ C.length 0 (by omega)) (dec_true (fun _ _ _ => trivial))
  · refine ev_succ ?_
    simp only [laws_FnCuts.l0]
    refine ev_neg (by omega) ?_
    rcases hf with rfl | hf
    · exact ev_pos (by simp) (Ev.now _)
    · by_cases h0 : (C.length : Int) = 0
      · exact ev_pos h0 (Ev.now _)
      · exact ev_neg h0 (ev_eq (Ev.now _) (decide_eq_true hf))
  · intro n r hn _ h
    refine ev_succ ?_
    simp only [laws_FnCuts.l0]
    refine ev_pos (by omega) ?_
    have hin := rd_mem (xs := C) (i := (n : Int)) (by omega) (by omega)
    obtain ⟨hin1, z, hz1, hz2⟩ := hm _ hin
    have hT : leq xs (rd C (n : Int)) ≠ 0 := Nat.pos_iff_ne_zero.1 (List.countP_pos_iff.2 ⟨_, hin1, by simp⟩)
    have hT2 : leq xs (rd C (n : Int)) ≠ xs.length := by
      intro e
      have := List.countP_eq_length.1 e z hz1
      simp at this
      omega
    refine cuts_l1 xs C b hx hC n hn r _ hT hT2 (List.count_pos_iff.2 hin1) (fun h0 => ?_) h xs.length 0 0 (by omega) (by omega) (by simp)
    rw [rd_of (List.getElem?_eq_getElem (show n - 1 < C.length by omega)), rd_of (List.getElem?_eq_getElem hn)]
    exact List.pairwise_iff_getElem.1 hs (n - 1) n (by omega) hn (by omega)
  · intro n hn h
    exact absurd trivial h
theorem FnCuts : laws_FnCuts.Pure := by
  intro l hm hl hw
  refine Ev.rounds ?_
  unfold laws_FnCuts.f
  rw [lawsBig]
  simp only [Option.bind_some]
  by_cases hb : (l.length : Int) > 1048576
  · exact ev_pos (by simpa using hb) (Ev.now _)
  refine ev_neg (by simpa using hb) ?_
  obtain ⟨h, e1⟩ := l1New l (by omega)
  obtain ⟨xs, i1, h1, e2, c1, hx, hlen⟩ := l10List h (cur0 l (by omega))
  obtain ⟨v, i3, h3, e4, c3, hv⟩ := l1PickInt h1 ([2, 3, 4, 5, 8, 8, 1, 9, (-1), 9223372036854775807] : List Int) c1 (by simp)
  have e5 : Ev (fun k => spec_DrawCutsOf.f k l) (xs, v) := by
    unfold spec_DrawCutsOf.f
    refine Ev.bind e1 (Ev.bind e2 ?_)
    simp only [e4, Option.bind_some]
    exact Ev.now _
  have hC := cutsOf_length xs v
  refine Ev.bind e5 (Ev.bind (implCuts xs v (by omega)) (Ev.bind (specCuts xs v (by omega)) (Ev.bind (lawsSameInts _ (by omega)) (ev_pos rfl (cuts_l0 xs v (by omega))))))

end Go.Proofs.Ytadgobfcchhgfaa.Pure
