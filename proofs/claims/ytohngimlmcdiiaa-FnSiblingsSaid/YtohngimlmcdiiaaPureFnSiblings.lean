/- the histogram of one side is the whole's less the other side's. Conditions: none but the row's own.
-/
import Derived.Test.YtohngimlmcdiiaaQx64
set_option linter.unusedVariables false
set_option linter.unusedSimpArgs false
namespace Go.Proofs.Ytohngimlmcdiiaa.Pure
open Go.RowKit Go.Proofs.Ytohngimlmcdiiaa.Q Go.Proofs.YtohngimlmcdiiaaW.PrintWords Go.Proofs.YtohngimlmcdiiaaW.PrintLast Go.Proofs.YtohngimlmcdiiaaW.PrintMore

theorem w64 {x : Int} (h1 : -9223372036854775808 ≤ x) (h2 : x ≤ 9223372036854775807) : wrap64 x = x := by unfold wrap64; omega
theorem i64_wf {x : Int} (h : (Lit.int .i64 x).wf = true) : -9223372036854775808 ≤ x ∧ x ≤ 9223372036854775807 := by
  simpa [Lit.wf, IntKind.min, IntKind.max, IntKind.signed, IntKind.bits] using h
theorem u8_wf {x : Int} (h : (Lit.int .u8 x).wf = true) : 0 ≤ x ∧ x ≤ 255 := by
  simpa [Lit.wf, IntKind.min, IntKind.max, IntKind.signed, IntKind.bits] using h
theorem rd_eq {xs : List Int} {i : Int} (h0 : 0 ≤ i) (h : i < (xs.length : Int)) : xs[i.toNat]? = some (rd xs i) := by
  unfold rd
  rw [List.getD_eq_getElem?_getD, List.getElem?_eq_getElem (by omega)]
  rfl
theorem rd_mem {xs : List Int} {i : Int} (h0 : 0 ≤ i) (h : i < (xs.length : Int)) : rd xs i ∈ xs := List.mem_of_getElem? (rd_eq h0 h)
theorem rd_of {xs : List Int} {n : Nat} {v : Int} (h : xs[n]? = some v) : rd xs (n : Int) = v := by
  unfold rd
  rw [List.getD_eq_getElem?_getD, Int.toNat_natCast, h]
  rfl
theorem ev_of {α : Type} {r : α} {p : Option α} (h : p = some r) : Ev (fun _ => p) r := ⟨0, fun _ _ => h⟩
theorem ev_end {α : Type} {g : Nat → Option α} {r : α} (h : ∀ k, g (k + 1) = some r) : Ev g r := Ev.step (f := fun _ => some r) h (Ev.now r)
theorem ev_pos {α : Type} {c : Prop} [Decidable c] {f g : Nat → Option α} {r : α} (hc : c) (h : Ev f r) : Ev (fun k => if c then f k else g k) r := Ev.congr (fun _ => if_pos hc) h
theorem ev_neg {α : Type} {c : Prop} [Decidable c] {f g : Nat → Option α} {r : α} (hc : ¬ c) (h : Ev g r) : Ev (fun k => if c then f k else g k) r := Ev.congr (fun _ => if_neg hc) h
theorem rd_drop {xs : List Int} {n : Nat} (h : n < xs.length) : xs.drop n = rd xs (n : Int) :: xs.drop (n + 1) := by
  rw [List.drop_eq_getElem_cons h]
  congr 1
  unfold rd
  rw [List.getD_eq_getElem?_getD, Int.toNat_natCast, List.getElem?_eq_getElem h]
  rfl
noncomputable def dec (p : Prop) : Bool := @decide p (Classical.propDecidable p)
theorem dec_true {p : Prop} (h : p) : dec p = true := @decide_eq_true p (Classical.propDecidable p) h
theorem dec_false {p : Prop} (h : ¬ p) : dec p = false := @decide_eq_false p (Classical.propDecidable p) h
theorem dec_iff {p : Prop} : dec p = true ↔ p := @decide_eq_true_iff p (Classical.propDecidable p)
theorem dec_congr {p q : Prop} (h : p ↔ q) : dec p = dec q := by rw [propext h]
theorem dec_eq {p : Prop} [Decidable p] : dec p = decide p := by
  by_cases h : p
  · rw [dec_true h, decide_eq_true h]
  · rw [dec_false h, decide_eq_false h]
theorem ev_succ {α : Type} {g : Nat → Option α} {r : α} (h : Ev (fun k => g (k + 1)) r) : Ev g r := by
  obtain ⟨K, h⟩ := h
  refine ⟨K + 1, fun n hn => ?_⟩
  obtain ⟨m, rfl⟩ : ∃ m, n = m + 1 := ⟨n - 1, by omega⟩
  exact h m (by omega)
theorem ev_eq {α : Type} {g : Nat → Option α} {r r' : α} (h : Ev g r) (e : r = r') : Ev g r' := e ▸ h
theorem gd_eq {α : Type} (z : α) {xs : List α} {i : Int} (h0 : 0 ≤ i) (h : i < (xs.length : Int)) : xs[i.toNat]? = some (xs.getD i.toNat z) := by
  rw [List.getD_eq_getElem?_getD, List.getElem?_eq_getElem (by omega)]
  rfl
theorem gd_nat {α : Type} (z : α) {xs : List α} {n : Nat} {v : α} (h : xs[n]? = some v) : xs.getD ((n : Int)).toNat z = v := by
  rw [List.getD_eq_getElem?_getD, Int.toNat_natCast, h]
  rfl
theorem gd_drop {α : Type} (z : α) {xs : List α} {n : Nat} (h : n < xs.length) : xs.drop n = xs.getD ((n : Int)).toNat z :: xs.drop (n + 1) := by
  rw [List.drop_eq_getElem_cons h]
  congr 1
  exact (gd_nat z (List.getElem?_eq_getElem h)).symm
/-- A loop that copies: place after place is set. -/
theorem copy_loop {α β : Type} (F : Nat → List β → Int → Option (List β)) (l : List α) (g : α → β)
    (hend : ∀ acc : List β, acc.length = l.length → Ev (fun k => F k acc (l.length : Int)) acc)
    (hstep : ∀ (acc : List β) (n : Nat) (x : α) (r : List β), n < l.length → acc.length = l.length → l[n]? = some x → Ev (fun k => F k (acc.set n (g x)) ((n + 1 : Nat) : Int)) r → Ev (fun k => F k acc (n : Int)) r) :
    ∀ (d n : Nat) (acc : List β), n + d = l.length → acc.length = l.length → (∀ j, j < n → acc[j]? = (l.map g)[j]?) → Ev (fun k => F k acc (n : Int)) (l.map g) := by
  intro d
  induction d with
  | zero =>
    intro n acc hn ha hp
    obtain rfl : n = l.length := by omega
    refine ev_eq (hend acc ha) (List.ext_getElem? fun j => ?_)
    by_cases h : j < l.length
    · exact hp j h
    · rw [List.getElem?_eq_none (by omega), List.getElem?_eq_none (by simp; omega)]
  | succ d ih =>
    intro n acc hn ha hp
    have hx : l[n]? = some l[n] := List.getElem?_eq_getElem (by omega)
    refine hstep acc n l[n] _ (by omega) ha hx (ih (n + 1) _ (by omega) (by simpa using ha) ?_)
    intro j hj
    rw [List.getElem?_set]
    by_cases h : n = j
    · subst h
      rw [if_pos rfl, if_pos (by omega), List.getElem?_map, hx]
      rfl
    · rw [if_neg h]
      exact hp j (by omega)
/-- A loop that tests place after place. -/
theorem all_loop (F : Nat → Int → Option Bool) (L : Nat) (p : Nat → Prop) (hend : Ev (fun k => F k (L : Int)) true)
    (hyes : ∀ (n : Nat) (r : Bool), n < L → p n → Ev (fun k => F k ((n + 1 : Nat) : Int)) r → Ev (fun k => F k (n : Int)) r)
    (hno : ∀ n : Nat, n < L → ¬ p n → Ev (fun k => F k (n : Int)) false) :
    ∀ (d n : Nat), n + d = L → Ev (fun k => F k (n : Int)) (dec (∀ j, n ≤ j → j < L → p j)) := by
  intro d
  induction d with
  | zero =>
    intro n hn
    obtain rfl : n = L := by omega
    exact ev_eq hend (dec_true (fun j h1 h2 => by omega)).symm
  | succ d ih =>
    intro n hn
    by_cases h : p n
    · refine hyes n _ (by omega) h (ev_eq (ih (n + 1) (by omega)) (dec_congr ⟨fun g j h1 h2 => ?_, fun g j h1 h2 => g j (by omega) h2⟩))
      by_cases e : j = n
      · exact e ▸ h
      · exact g j (by omega) h2
    · exact ev_eq (hno n (by omega) h) (dec_false (fun g => h (g n (Nat.le_refl _) (by omega)))).symm
/-- A loop that goes round L times over a state. -/
theorem fold_loop {σ ρ : Type} (F : Nat → σ → Int → Option ρ) (L : Nat) (S : Nat → σ) (r : ρ) (hend : Ev (fun k => F k (S L) (L : Int)) r)
    (hstep : ∀ n : Nat, n < L → Ev (fun k => F k (S (n + 1)) ((n + 1 : Nat) : Int)) r → Ev (fun k => F k (S n) (n : Int)) r) :
    ∀ (d n : Nat), n + d = L → Ev (fun k => F k (S n) (n : Int)) r := by
  intro d
  induction d with
  | zero =>
    intro n hn
    obtain rfl : n = L := by omega
    exact hend
  | succ d ih =>
    intro n hn
    exact hstep n (by omega) (ih (n + 1) (by omega))
theorem set_mid {α : Type} (a b : List α) (x v : α) {n : Nat} (h : a.length = n) : (a ++ x :: b).set n v = a ++ v :: b := by
  subst h
  rw [List.set_append_right _ _ (Nat.le_refl _), Nat.sub_self]
  rfl
theorem get_mid {α : Type} (a b : List α) (x : α) {n : Nat} (h : a.length = n) : (a ++ x :: b)[n]? = some x := by
  subst h
  rw [List.getElem?_append_right (Nat.le_refl _), Nat.sub_self]
  rfl
/-- A loop that tests place after place, and one thing more at its end. -/
theorem all_loop2 (F : Nat → Int → Option Bool) (L : Nat) (p : Nat → Prop) (E : Prop) (hend : Ev (fun k => F k (L : Int)) (dec E))
    (hyes : ∀ (n : Nat) (r : Bool), n < L → p n → Ev (fun k => F k ((n + 1 : Nat) : Int)) r → Ev (fun k => F k (n : Int)) r)
    (hno : ∀ n : Nat, n < L → ¬ p n → Ev (fun k => F k (n : Int)) false) :
    ∀ (d n : Nat), n + d = L → Ev (fun k => F k (n : Int)) (dec ((∀ j, n ≤ j → j < L → p j) ∧ E)) := by
  intro d
  induction d with
  | zero =>
    intro n hn
    obtain rfl : n = L := by omega
    exact ev_eq hend (dec_congr ⟨fun h => ⟨fun j h1 h2 => by omega, h⟩, fun h => h.2⟩)
  | succ d ih =>
    intro n hn
    by_cases h : p n
    · refine hyes n _ (by omega) h (ev_eq (ih (n + 1) (by omega)) (dec_congr ⟨fun g => ⟨fun j h1 h2 => ?_, g.2⟩, fun g => ⟨fun j h1 h2 => g.1 j (by omega) h2, g.2⟩⟩))
      by_cases e : j = n
      · exact e ▸ h
      · exact g.1 j (by omega) h2
    · exact ev_eq (hno n (by omega) h) (dec_false (fun g => h (g.1 n (Nat.le_refl _) (by omega)))).symm
theorem lawsBig (l : List Int) : laws_big.f l = some (decide ((l.length : Int) > 1048576)) := rfl
theorem and255 (x : Int) : 0 ≤ Go.bits .and .i64 x 255 ∧ Go.bits .and .i64 x 255 ≤ 255 := by
  simp only [Go.bits]
  have h : (BitVec.ofInt IntKind.i64.bits x &&& BitVec.ofInt IntKind.i64.bits 255).toNat ≤ 255 := by
    rw [BitVec.toNat_and]
    exact Nat.le_trans Nat.and_le_right (by decide)
  rw [IntKind.wrap_i64]
  omega
theorem l1New_l0 (l : List Int) (hl : l.length ≤ 35184372088832) : ∀ (d n : Nat) (x : Int), n + d = l.length → ∃ h, Ev (fun k => spec_l1New.l0 k l x (n : Int)) (l, 0, h) := by
  intro d
  induction d with
  | zero =>
    intro n x hn
    refine ⟨x, ev_end fun k => ?_⟩
    simp only [spec_l1New.l0]
    rw [if_neg (by omega)]
  | succ d ih =>
    intro n x hn
    by_cases h4 : (n : Int) < 4000
    · obtain ⟨h, e⟩ := ih (n + 1) (Go.bits .and .i64 (wrap64 ((wrap64 ((wrap64 (x * 131)) + (wrap64 (rd l n)))) + 7)) 1073741823) (by omega)
      refine ⟨h, Ev.step (fun k => ?_) e⟩
      simp only [spec_l1New.l0]
      rw [if_pos (by omega), if_pos h4, if_pos (by omega), w64 (x := (n : Int) + 1) (by omega) (by omega)]
      rfl
    · refine ⟨x, ev_end fun k => ?_⟩
      simp only [spec_l1New.l0]
      rw [if_pos (by omega), if_neg h4]
theorem l1New (l : List Int) (hl : l.length ≤ 35184372088832) : ∃ h, Ev (fun k => spec_l1New.f k l) (l, 0, h) := l1New_l0 l hl l.length 0 _ (by omega)
/-- A cursor's place is within its bytes. -/
def Cur (l : List Int) (i : Int) : Prop := 0 ≤ i ∧ i ≤ l.length ∧ l.length ≤ 35184372088832
theorem cur0 (l : List Int) (hl : l.length ≤ 35184372088832) : Cur l 0 := ⟨by omega, by omega, hl⟩
theorem l1Byte {l : List Int} {i : Int} (h : Int) (hc : Cur l i) : ∃ r i' h', spec_l1Byte.f l i h = some (r, i', h') ∧ Cur l i' ∧ 0 ≤ r ∧ r ≤ 255 := by
  unfold Cur at *
  unfold spec_l1Byte.f
  by_cases h1 : i < (l.length : Int)
  · rw [if_pos h1, if_pos hc.1, w64 (x := i + 1) (by omega) (by omega)]
    exact ⟨_, _, _, rfl, by omega, and255 _⟩
  · rw [if_neg h1]
    exact ⟨_, _, _, rfl, by omega, and255 _⟩
theorem l1Below {l : List Int} {i : Int} (h : Int) (n : Int) (hc : Cur l i) : ∃ r i' h', spec_l1Below.f l i h n = some (r, i', h') ∧ Cur l i' ∧ 0 ≤ r ∧ (0 < n → r < n) ∧ (n ≤ 0 → r = 0) := by
  unfold spec_l1Below.f
  by_cases h1 : n ≤ 0
  · rw [if_pos h1]
    exact ⟨0, _, _, rfl, hc, by omega, by omega, fun _ => rfl⟩
  rw [if_neg h1]
  by_cases h2 : n ≤ 256
  · rw [if_pos h2]
    obtain ⟨r, i', h', e, hc', h3, h4⟩ := l1Byte h hc
    rw [e]
    simp only [Option.bind_some]
    rw [if_neg (by omega)]
    refine ⟨_, _, _, rfl, hc', ?_, ?_, by omega⟩
    · rw [Int.tmod_eq_emod_of_nonneg h3]; exact Int.emod_nonneg _ (by omega)
    · intro _; rw [Int.tmod_eq_emod_of_nonneg h3]; exact Int.emod_lt_of_pos _ (by omega)
  · rw [if_neg h2]
    obtain ⟨x, i1, h1, e1, hc1, x1, x2⟩ := l1Byte h hc
    obtain ⟨y, i2, h2, e2, hc2, y1, y2⟩ := l1Byte h1 hc1
    obtain ⟨z, i3, h3, e3, hc3, z1, z2⟩ := l1Byte h2 hc2
    obtain ⟨w, i4, h4, e4, hc4, w1, w2⟩ := l1Byte h3 hc3
    simp only [e1, e2, e3, e4, Option.bind_some]
    rw [if_neg (by omega), w64 (x := x * 16777216) (by omega) (by omega), w64 (x := y * 65536) (by omega) (by omega), w64 (x := x * 16777216 + y * 65536) (by omega) (by omega), w64 (x := z * 256) (by omega) (by omega), w64 (x := x * 16777216 + y * 65536 + z * 256) (by omega) (by omega), w64 (x := x * 16777216 + y * 65536 + z * 256 + w) (by omega) (by omega)]
    have h5 : 0 ≤ x * 16777216 + y * 65536 + z * 256 + w := by omega
    refine ⟨_, _, _, rfl, hc4, ?_, ?_, by omega⟩
    · rw [Int.tmod_eq_emod_of_nonneg h5]; exact Int.emod_nonneg _ (by omega)
    · intro _; rw [Int.tmod_eq_emod_of_nonneg h5]; exact Int.emod_lt_of_pos _ (by omega)
theorem l1PickInt {l : List Int} {i : Int} (h : Int) (xs : List Int) (hc : Cur l i) (hx : 0 < xs.length) : ∃ r i' h', spec_l1PickInt.f l i h xs = some (r, i', h') ∧ Cur l i' ∧ r ∈ xs := by
  unfold spec_l1PickInt.f
  obtain ⟨r, i', h', e, hc', h1, h2, _⟩ := l1Below h (xs.length : Int) hc
  rw [e]
  simp only [Option.bind_some]
  have h3 := h2 (by omega)
  rw [if_pos h1, if_pos h3]
  exact ⟨_, _, _, rfl, hc', rd_mem h1 h3⟩
/-- The sum and true; 0 and false where it has no room. -/
def addI (a b : Int) : Int × Bool := if -9223372036854775808 ≤ a + b ∧ a + b ≤ 9223372036854775807 then (a + b, true) else (0, false)
def subI (a b : Int) : Int × Bool := if -9223372036854775808 ≤ a - b ∧ a - b ≤ 9223372036854775807 then (a - b, true) else (0, false)
def I64 (a : Int) : Prop := -9223372036854775808 ≤ a ∧ a ≤ 9223372036854775807
theorem addI_i64 (a b : Int) : I64 (addI a b).1 := by
  unfold addI I64
  split
  · assumption
  · exact ⟨by decide, by decide⟩
theorem subI_i64 (a b : Int) : I64 (subI a b).1 := by
  unfold subI I64
  split
  · assumption
  · exact ⟨by decide, by decide⟩
theorem wrap_over {x : Int} (h1 : 9223372036854775807 < x) (h2 : x < 27670116110564327424) : wrap64 x = x - 18446744073709551616 := by unfold wrap64; omega
theorem wrap_under {x : Int} (h1 : x < -9223372036854775808) (h2 : -27670116110564327424 ≤ x) : wrap64 x = x + 18446744073709551616 := by unfold wrap64; omega
theorem wrap_i64_range (x : Int) : I64 (wrap64 x) := by unfold I64 wrap64; omega
theorem l1Whole_l0 {l : List Int} : ∀ (d n : Nat) (x i h : Int), n + d = 8 → I64 x → Cur l i → ∃ r i' h', Ev (fun k => spec_l1Whole.l0 k x (n : Int) l i h) (r, i', h') ∧ Cur l i' ∧ I64 r := by
  intro d
  induction d with
  | zero =>
    intro n x i h hn hx hc
    refine ⟨x, i, h, ev_end fun k => ?_, hc, hx⟩
    simp only [spec_l1Whole.l0]
    rw [if_neg (by omega)]
  | succ d ih =>
    intro n x i h hn hx hc
    obtain ⟨b, i1, h1, e1, hc1, _⟩ := l1Byte h hc
    obtain ⟨r, i2, h2, e2, hc2, hr⟩ := ih (n + 1) (wrap64 ((wrap64 (x * 256)) + b)) i1 h1 (by omega) (wrap_i64_range _) hc1
    refine ⟨r, i2, h2, Ev.step (fun k => ?_) e2, hc2, hr⟩
    simp only [spec_l1Whole.l0, e1, Option.bind_some]
    rw [if_pos (by omega), w64 (x := (n : Int) + 1) (by omega) (by omega)]
    rfl
theorem l1Whole {l : List Int} {i : Int} (h : Int) (hc : Cur l i) : ∃ r i' h', Ev (fun k => spec_l1Whole.f k l i h) (r, i', h') ∧ Cur l i' ∧ I64 r := by
  unfold spec_l1Whole.f
  obtain ⟨a, i1, h1, e1, hc1, a1, a2, _⟩ := l1Below h 4 hc
  rw [e1]
  simp only [Option.bind_some]
  by_cases c0 : a = 0
  · obtain ⟨r, i2, h2, e2, hc2, hr⟩ := l1PickInt h1 ([0, 1, (-1), 9, 10, 999, 1000, 2147483647, (-2147483648), 3037000499, 3037000500, 9223372036854775807, (-9223372036854775807), (-9223372036854775808)] : List Int) hc1 (by simp)
    refine ⟨r, i2, h2, ev_pos c0 ?_, hc2, ?_⟩
    · rw [e2]; exact Ev.now _
    · simp only [List.mem_cons, List.not_mem_nil, or_false] at hr
      unfold I64; omega
  by_cases c1 : a = 1
  · obtain ⟨r, i2, h2, e2, hc2, hr⟩ := l1Whole_l0 8 0 0 i1 h1 (by omega) ⟨by decide, by decide⟩ hc1
    exact ⟨r, i2, h2, ev_neg c0 (ev_pos c1 e2), hc2, hr⟩
  by_cases c2 : a = 2
  · obtain ⟨r, i2, h2, e2, hc2, _⟩ := l1Below h1 1000000 hc1
    refine ⟨wrap64 (r - 500000), i2, h2, ev_neg c0 (ev_neg c1 (ev_pos c2 ?_)), hc2, wrap_i64_range _⟩
    rw [e2]; exact Ev.now _
  · obtain ⟨r, i2, h2, e2, hc2, _⟩ := l1Below h1 41 hc1
    refine ⟨wrap64 (r - 20), i2, h2, ev_neg c0 (ev_neg c1 (ev_neg c2 ?_)), hc2, wrap_i64_range _⟩
    rw [e2]; exact Ev.now _
theorem l1Once {l : List Int} {i : Int} (h : Int) (n : Int) (hc : Cur l i) : ∃ r i' h', spec_l1Once.f l i h n = some (r, i', h') ∧ Cur l i' := by
  unfold spec_l1Once.f
  obtain ⟨a, i1, h1, e1, c1, _⟩ := l1Below h n hc
  rw [e1]
  exact ⟨_, _, _, rfl, c1⟩
def IOk (l : List Int) : Prop := ∀ x ∈ l, I64 x
theorem IOk.snoc {l : List Int} (h : IOk l) {x : Int} (hx : I64 x) : IOk (l ++ [x]) := by
  intro y hy
  rcases List.mem_append.1 hy with hy | hy
  · exact h y hy
  · simp only [List.mem_singleton] at hy
    subst hy; exact hx
theorem l12Rows_l0 {l : List Int} (N : Nat) (hN : N ≤ 1024) : ∀ (d n : Nat) (xs : List Int) (i h : Int), n + d = N → xs.length ≤ n → Cur l i →
    ∃ ys i' h', Ev (fun k => spec_l12Rows.l0 k (N : Int) xs (n : Int) l i h) (ys, i', h') ∧ Cur l i' ∧ ys.length ≤ N + 1 := by
  intro d
  induction d with
  | zero =>
    intro n xs i h hn hl hc
    obtain ⟨b, i1, h1, e1, c1⟩ := l1Once h 10 hc
    by_cases g : b = true
    · obtain ⟨a, i2, h2, e2, c2, _⟩ := l1PickInt h1 ([0, (N : Int), (-1), 9223372036854775807] : List Int) c1 (by simp)
      refine ⟨xs ++ [a], i2, h2, ev_succ ?_, c2, by simp; omega⟩
      simp only [spec_l12Rows.l0, e1, e2, Option.bind_some]
      exact ev_neg (by omega) (ev_pos g (ev_pos (by omega) (Ev.now _)))
    · refine ⟨xs, i1, h1, ev_succ ?_, c1, by omega⟩
      simp only [spec_l12Rows.l0, e1, Option.bind_some]
      exact ev_neg (by omega) (ev_neg g (Ev.now _))
  | succ d ih =>
    intro n xs i h hn hl hc
    obtain ⟨b, i1, h1, e1, c1⟩ := l1Once h 3 hc
    have hw : wrap64 ((n : Int) + 1) = ((n + 1 : Nat) : Int) := w64 (by omega) (by omega)
    by_cases g : b = true
    · obtain ⟨ys, i3, h3, e3, c3, hl'⟩ := ih (n + 1) xs i1 h1 (by omega) (by omega) c1
      refine ⟨ys, i3, h3, ev_succ ?_, c3, hl'⟩
      simp only [spec_l12Rows.l0, e1, Option.bind_some, hw]
      exact ev_pos (by omega) (ev_pos g e3)
    · obtain ⟨ys, i3, h3, e3, c3, hl'⟩ := ih (n + 1) (xs ++ [(n : Int)]) i1 h1 (by omega) (by simp; omega) c1
      refine ⟨ys, i3, h3, ev_succ ?_, c3, hl'⟩
      simp only [spec_l12Rows.l0, e1, Option.bind_some, hw]
      exact ev_pos (by omega) (ev_neg g (ev_pos (by omega) e3))
theorem drawSplit_l0 {l : List Int} (N : Nat) (hN : N ≤ 1024) : ∀ (d n : Nat) (xs : List Int) (i h : Int), n + d = N → xs.length = n → Cur l i →
    ∃ ys rows b, Ev (fun k => spec_DrawSplitRows.l0 k xs (N : Int) (n : Int) l i h) (ys, rows, b) ∧ ys.length = N ∧ rows.length ≤ N + 1 := by
  intro d
  induction d with
  | zero =>
    intro n xs i h hn hl hc
    obtain ⟨rows, i1, h1, e1, c1, hr⟩ := l12Rows_l0 (l := l) N hN N 0 [] i h (by omega) (by simp) hc
    obtain ⟨b, i2, h2, e2, c2, _⟩ := l1PickInt h1 ([0, 1, 2, 3, (-1), 9223372036854775807] : List Int) c1 (by simp)
    refine ⟨xs, rows, b, ev_succ ?_, by omega, hr⟩
    simp only [spec_DrawSplitRows.l0]
    refine ev_neg (by omega) (Ev.bind (show Ev (fun k => spec_l12Rows.f k l i h (N : Int)) (rows, i1, h1) from e1) ?_)
    simp only [e2, Option.bind_some]
    exact Ev.now _
  | succ d ih =>
    intro n xs i h hn hl hc
    have hw : wrap64 ((n : Int) + 1) = ((n + 1 : Nat) : Int) := w64 (by omega) (by omega)
    obtain ⟨a, i2, h2, e2, c2, _⟩ := l1Below h 4 hc
    obtain ⟨ys, rows, b, e3, hl', hr⟩ := ih (n + 1) (xs ++ [a]) i2 h2 (by omega) (by simp [hl]) c2
    refine ⟨ys, rows, b, ev_succ ?_, hl', hr⟩
    simp only [spec_DrawSplitRows.l0, e2, Option.bind_some, hw]
    exact ev_pos (by omega) (ev_pos (by omega) e3)
theorem drawSplitRows (l : List Int) (hl : l.length ≤ 35184372088832) : ∃ bins rows b, Ev (fun k => spec_DrawSplitRows.f k l) (bins, rows, b) ∧ bins.length ≤ 8 ∧ rows.length ≤ 9 := by
  unfold spec_DrawSplitRows.f
  obtain ⟨h, e1⟩ := l1New l hl
  obtain ⟨a, i1, h1, e2, c1, a1, a2, _⟩ := l1Below h 9 (cur0 l hl)
  have a3 := a2 (by omega)
  obtain ⟨ys, rows, b, e3, hl', hr⟩ := drawSplit_l0 (l := l) a.toNat (by omega) a.toNat 0 [] i1 h1 (by omega) rfl c1
  refine ⟨ys, rows, b, Ev.bind e1 ?_, by omega, by omega⟩
  simp only [e2, Option.bind_some]
  rw [Int.toNat_of_nonneg a1] at e3
  exact e3
theorem l13Grads_l0 {l : List Int} (N : Nat) (hN : N ≤ 1024) (b : Bool) : ∀ (d n : Nat) (xs : List Int) (i h : Int), n + d = N → xs.length = n → IOk xs → Cur l i →
    ∃ ys i' h', Ev (fun k => spec_l13Grads.l0 k (N : Int) xs b (n : Int) l i h) (ys, i', h') ∧ Cur l i' ∧ IOk ys ∧ ys.length = N := by
  intro d
  induction d with
  | zero =>
    intro n xs i h hn hl hx hc
    refine ⟨xs, i, h, ev_succ ?_, hc, hx, by omega⟩
    simp only [spec_l13Grads.l0]
    exact ev_neg (by omega) (Ev.now _)
  | succ d ih =>
    intro n xs i h hn hl hx hc
    have hw : wrap64 ((n : Int) + 1) = ((n + 1 : Nat) : Int) := w64 (by omega) (by omega)
    by_cases g : b = true
    · obtain ⟨a, i2, h2, e2, c2, ha⟩ := l1Whole h hc
      obtain ⟨ys, i3, h3, e3, c3, hy, hl'⟩ := ih (n + 1) (xs ++ [a]) i2 h2 (by omega) (by simp [hl]) (hx.snoc ha) c2
      refine ⟨ys, i3, h3, ev_succ ?_, c3, hy, hl'⟩
      simp only [spec_l13Grads.l0, hw]
      exact ev_pos (by omega) (ev_pos g (Ev.bind e2 (ev_pos (by omega) e3)))
    · obtain ⟨a, i2, h2, e2, c2, _⟩ := l1Below h 41 hc
      obtain ⟨a', i3, h3, e3, c3, _⟩ := l1Below h2 3 c2
      obtain ⟨ys, i4, h4, e4, c4, hy, hl'⟩ := ih (n + 1) (xs ++ [wrap64 ((wrap64 (100 * (wrap64 (a - 20)))) + a')]) i3 h3 (by omega) (by simp [hl]) (hx.snoc (wrap_i64_range _)) c3
      refine ⟨ys, i4, h4, ev_succ ?_, c4, hy, hl'⟩
      simp only [spec_l13Grads.l0, e2, e3, Option.bind_some, hw]
      exact ev_pos (by omega) (ev_neg g (ev_pos (by omega) e4))
theorem l13Grads {l : List Int} {i : Int} (h : Int) (N : Nat) (hN : N ≤ 1024) (hc : Cur l i) : ∃ ys i' h', Ev (fun k => spec_l13Grads.f k l i h (N : Int)) (ys, i', h') ∧ Cur l i' ∧ IOk ys ∧ ys.length = N := by
  unfold spec_l13Grads.f
  obtain ⟨b, i1, h1, e1, c1⟩ := l1Once h 20 hc
  simp only [e1, Option.bind_some]
  exact l13Grads_l0 N hN b N 0 [] i1 h1 (by omega) rfl (fun x hx => by simp at hx) c1
theorem drawHistOf (l : List Int) (hl : l.length ≤ 35184372088832) : ∃ bins grads rows n, Ev (fun k => spec_DrawHistOf.f k l) (bins, grads, rows, n) ∧ bins.length ≤ 1024 ∧ grads.length ≤ 1024 ∧ rows.length ≤ 1024 ∧ IOk grads := by
  unfold spec_DrawHistOf.f
  obtain ⟨h, e1⟩ := l1New l hl
  obtain ⟨bins, rows, b, e2, hb, hr⟩ := drawSplitRows l hl
  obtain ⟨o, i1, h1, e3, c1⟩ := l1Once h 10 (cur0 l hl)
  by_cases g : o = true
  · obtain ⟨a, i2, h2, e4, c2, a1, a2, _⟩ := l1Below h1 (wrap64 ((bins.length : Int) + 2)) c1
    rw [w64 (x := (bins.length : Int) + 2) (by omega) (by omega)] at e4 a2
    have a3 := a2 (by omega)
    obtain ⟨gs, i3, h3, e5, c3, hg, hgl⟩ := l13Grads (l := l) h2 a.toNat (by omega) c2
    rw [Int.toNat_of_nonneg a1] at e5
    obtain ⟨n, i4, h4, e6, c4, _⟩ := l1PickInt h3 ([4, 4, 4, 8, 3, 0, 9, (-1)] : List Int) c3 (by simp)
    refine ⟨bins, gs, rows, n, Ev.bind e1 (Ev.bind e2 ?_), by omega, by omega, by omega, hg⟩
    simp only [e3, Option.bind_some]
    refine ev_pos g ?_
    simp only [w64 (x := (bins.length : Int) + 2) (by omega) (by omega), e4, Option.bind_some]
    refine Ev.bind e5 ?_
    simp only [e6, Option.bind_some]
    exact Ev.now _
  · obtain ⟨gs, i3, h3, e5, c3, hg, hgl⟩ := l13Grads (l := l) h1 bins.length (by omega) c1
    obtain ⟨n, i4, h4, e6, c4, _⟩ := l1PickInt h3 ([4, 4, 4, 8, 3, 0, 9, (-1)] : List Int) c3 (by simp)
    refine ⟨bins, gs, rows, n, Ev.bind e1 (Ev.bind e2 ?_), by omega, by omega, by omega, hg⟩
    simp only [e3, Option.bind_some]
    refine ev_neg g (Ev.bind e5 ?_)
    simp only [e6, Option.bind_some]
    exact Ev.now _
theorem rdi (xs : List S41) (i : Int) : rd_T41 xs i = xs.getD i.toNat z41 := rfl
/-- Slots of whole numbers. -/
def SOk (l : List S41) : Prop := ∀ x ∈ l, I64 x.f0 ∧ I64 x.f1
theorem SOk.at {l : List S41} (h : SOk l) {n : Nat} {x : S41} (e : l[n]? = some x) : I64 x.f0 ∧ I64 x.f1 := h x (List.mem_of_getElem? e)
/-- Two slots together. -/
def plusS (n g n' g' : Int) : Int × Int × Bool := if (addI n n').2 = true ∧ (addI g g').2 = true then ((addI n n').1, (addI g g').1, true) else (0, 0, false)
theorem plusS_i64 (n g n' g' : Int) : I64 (plusS n g n' g').1 ∧ I64 (plusS n g n' g').2.1 := by
  unfold plusS
  split
  · exact ⟨addI_i64 _ _, addI_i64 _ _⟩
  · exact ⟨⟨by decide, by decide⟩, ⟨by decide, by decide⟩⟩
theorem at_set {α : Type} (z : α) (l : List α) (i j : Nat) (v : α) (hi : i < l.length) : (l.set i v).getD j z = if i = j then v else l.getD j z := by
  rw [List.getD_eq_getElem?_getD, List.getElem?_set, List.getD_eq_getElem?_getD]
  by_cases h : i = j
  · subst h
    rw [if_pos rfl, if_pos hi, if_pos rfl]
    rfl
  · rw [if_neg h, if_neg h]
/-- A row that the histogram may take. -/
def RowIn (bins grads : List Int) (n r : Int) : Prop := (0 ≤ r ∧ r < (bins.length : Int) ∧ r < (grads.length : Int)) ∧ (0 ≤ rd bins r ∧ rd bins r < n)
/-- The slot of a row's bin with the row. -/
def stepS (bins grads : List Int) (r : Int) (acc : List S41) : Int × Int × Bool :=
  plusS (acc.getD (rd bins r).toNat z41).f0 (acc.getD (rd bins r).toNat z41).f1 1 (rd grads r)
open Classical in
noncomputable def histGo (bins grads : List Int) (n : Int) : List Int → List S41 → List S41 × Bool
  | [], acc => (acc, true)
  | r :: rows, acc => if RowIn bins grads n r ∧ (stepS bins grads r acc).2.2 = true then histGo bins grads n rows (acc.set (rd bins r).toNat ⟨(stepS bins grads r acc).1, (stepS bins grads r acc).2.1⟩) else ([], false)
open Classical in
noncomputable def histOf (bins grads rows : List Int) (n : Int) : List S41 × Bool := if 1 ≤ n ∧ n ≤ 8 then histGo bins grads n rows (List.replicate n.toNat z41) else ([], false)
theorem histGo_length (bins grads : List Int) (n : Int) (rows : List Int) (acc : List S41) : (histGo bins grads n rows acc).1.length ≤ acc.length ∧ ((histGo bins grads n rows acc).2 = true → (histGo bins grads n rows acc).1.length = acc.length) := by
  induction rows generalizing acc with
  | nil => simp [histGo]
  | cons r rows ih =>
    simp only [histGo]
    split
    · have := ih (acc.set (rd bins r).toNat ⟨(stepS bins grads r acc).1, (stepS bins grads r acc).2.1⟩)
      simpa using this
    · simp
theorem histOf_length (bins grads rows : List Int) (n : Int) : (histOf bins grads rows n).1.length ≤ 8 ∧ ((histOf bins grads rows n).2 = true → ((histOf bins grads rows n).1.length : Int) = n) := by
  unfold histOf
  by_cases h : 1 ≤ n ∧ n ≤ 8
  · rw [if_pos h]
    have := histGo_length bins grads n rows (List.replicate n.toNat z41)
    simp only [List.length_replicate] at this
    exact ⟨by omega, fun g => by have := this.2 g; omega⟩
  · rw [if_neg h]; simp
theorem histGo_false (bins grads : List Int) (n : Int) (rows : List Int) (acc : List S41) (h : (histGo bins grads n rows acc).2 ≠ true) : (histGo bins grads n rows acc).1 = [] := by
  induction rows generalizing acc with
  | nil => simp [histGo] at h
  | cons r rows ih =>
    simp only [histGo] at h ⊢
    split at h
    · rename_i c; rw [if_pos c]; exact ih _ h
    · rename_i c; rw [if_neg c]
theorem histOf_false (bins grads rows : List Int) (n : Int) (h : (histOf bins grads rows n).2 ≠ true) : (histOf bins grads rows n).1 = [] := by
  unfold histOf at h ⊢
  by_cases c : 1 ≤ n ∧ n ≤ 8
  · rw [if_pos c] at h ⊢; exact histGo_false _ _ _ _ _ h
  · rw [if_neg c]
theorem SOk_rep (n : Nat) : SOk (List.replicate n z41) := by
  intro x hx
  rw [(List.mem_replicate.1 hx).2]
  exact ⟨⟨by decide, by decide⟩, ⟨by decide, by decide⟩⟩
theorem SOk_set {l : List S41} (h : SOk l) {x : S41} (h0 : I64 x.f0) (h1 : I64 x.f1) (n : Nat) : SOk (l.set n x) := by
  intro y hy
  rcases List.mem_or_eq_of_mem_set hy with hy | rfl
  · exact h y hy
  · exact ⟨h0, h1⟩
theorem SOk_at {l : List S41} (h : SOk l) (j : Nat) : I64 (l.getD j z41).f0 ∧ I64 (l.getD j z41).f1 := by
  rw [List.getD_eq_getElem?_getD]
  cases e : l[j]? with
  | none => exact ⟨⟨by decide, by decide⟩, ⟨by decide, by decide⟩⟩
  | some x => exact h.at e
theorem histGo_ok (bins grads : List Int) (n : Int) (rows : List Int) (acc : List S41) (h : SOk acc) : SOk (histGo bins grads n rows acc).1 := by
  induction rows generalizing acc with
  | nil => simpa [histGo] using h
  | cons r rows ih =>
    simp only [histGo]
    split
    · exact ih _ (SOk_set h (plusS_i64 _ _ _ _).1 (plusS_i64 _ _ _ _).2 _)
    · intro x hx; simp at hx
theorem histOf_ok (bins grads rows : List Int) (n : Int) : SOk (histOf bins grads rows n).1 := by
  unfold histOf
  split
  · exact histGo_ok _ _ _ _ _ (SOk_rep _)
  · intro x hx; simp at hx
/-- The sums of all beginnings, behind what is there; none where one has no room. -/
def preS : List S41 → Int → Int → List S41 → List S41 × Bool
  | [], _, _, acc => (acc, true)
  | x :: l, n, g, acc => if (plusS n g x.f0 x.f1).2.2 = true then preS l (plusS n g x.f0 x.f1).1 (plusS n g x.f0 x.f1).2.1 (acc ++ [⟨(plusS n g x.f0 x.f1).1, (plusS n g x.f0 x.f1).2.1⟩]) else ([], false)
def prefixS (l : List S41) : List S41 × Bool := preS l 0 0 []
theorem preS_length (l : List S41) (n g : Int) (acc : List S41) : (preS l n g acc).1.length ≤ acc.length + l.length ∧ ((preS l n g acc).2 = true → (preS l n g acc).1.length = acc.length + l.length) := by
  induction l generalizing n g acc with
  | nil => simp [preS]
  | cons x l ih =>
    simp only [preS]
    split
    · have := ih (plusS n g x.f0 x.f1).1 (plusS n g x.f0 x.f1).2.1 (acc ++ [⟨(plusS n g x.f0 x.f1).1, (plusS n g x.f0 x.f1).2.1⟩])
      simp at this ⊢
      exact ⟨by omega, fun h => by have := this.2 h; omega⟩
    · simp
theorem prefixS_length (l : List S41) : (prefixS l).1.length ≤ l.length ∧ ((prefixS l).2 = true → (prefixS l).1.length = l.length) := by
  have := preS_length l 0 0 []
  simpa [prefixS] using this
/-- Plain sums. -/
def sums : Int → Int → List S41 → List S41
  | _, _, [] => []
  | n, g, x :: l => ⟨n + x.f0, g + x.f1⟩ :: sums (n + x.f0) (g + x.f1) l
theorem plusS_true {n g n' g' : Int} (h : (plusS n g n' g').2.2 = true) : plusS n g n' g' = (n + n', g + g', true) ∧ I64 (n + n') ∧ I64 (g + g') := by
  unfold plusS at *
  by_cases c : (addI n n').2 = true ∧ (addI g g').2 = true
  · rw [if_pos c]
    obtain ⟨c1, c2⟩ := c
    unfold addI at *
    split at c1
    · rename_i r1
      split at c2
      · rename_i r2
        rw [if_pos r1, if_pos r2]
        exact ⟨rfl, r1, r2⟩
      · simp at c2
    · simp at c1
  · rw [if_neg c] at h
    simp at h
theorem preS_sums (l : List S41) (n g : Int) (acc : List S41) (h : (preS l n g acc).2 = true) : (preS l n g acc).1 = acc ++ sums n g l ∧ SOk (sums n g l) := by
  induction l generalizing n g acc with
  | nil => exact ⟨by simp [preS, sums], fun x hx => by simp [sums] at hx⟩
  | cons x l ih =>
    simp only [preS] at h ⊢
    split at h
    · rename_i c
      rw [if_pos c]
      obtain ⟨e, r1, r2⟩ := plusS_true c
      rw [e] at h ⊢
      simp only at h ⊢
      obtain ⟨h1, h2⟩ := ih _ _ _ h
      refine ⟨by rw [h1]; simp [sums], fun y hy => ?_⟩
      simp only [sums, List.mem_cons] at hy
      rcases hy with rfl | hy
      · exact ⟨r1, r2⟩
      · exact h2 y hy
    · simp at h
theorem prefixS_sums {l : List S41} (h : (prefixS l).2 = true) : (prefixS l).1 = sums 0 0 l ∧ SOk (sums 0 0 l) := by
  have := preS_sums l 0 0 [] h
  simpa [prefixS] using this
theorem prefixS_false {l : List S41} (h : (prefixS l).2 ≠ true) : (prefixS l).1 = [] := by
  have key : ∀ (l : List S41) (n g : Int) (a : List S41), (preS l n g a).2 ≠ true → (preS l n g a).1 = [] := by
    intro l
    induction l with
    | nil => intro n g a h; simp [preS] at h
    | cons x l ih =>
      intro n g a h
      simp only [preS] at h ⊢
      split at h
      · rename_i c; rw [if_pos c]; exact ih _ _ _ h
      · rename_i c; rw [if_neg c]
  exact key l 0 0 [] h
theorem sums_length (n g : Int) (l : List S41) : (sums n g l).length = l.length := by
  induction l generalizing n g with
  | nil => rfl
  | cons x l ih => simp [sums, ih]
theorem sums_next (l : List S41) (n g : Int) (j : Nat) (x p : S41) (hx : l[j + 1]? = some x) (hp : (sums n g l)[j]? = some p) : (sums n g l)[j + 1]? = some ⟨p.f0 + x.f0, p.f1 + x.f1⟩ := by
  induction l generalizing n g j with
  | nil => simp at hx
  | cons y l ih =>
    simp only [sums] at hp ⊢
    cases j with
    | zero =>
      simp only [List.getElem?_cons_zero, Option.some.injEq] at hp
      subst hp
      cases l with
      | nil => simp at hx
      | cons z l =>
        simp only [List.getElem?_cons_succ, List.getElem?_cons_zero, Option.some.injEq] at hx
        subst hx
        simp [sums]
    | succ j =>
      simp only [List.getElem?_cons_succ] at hp hx ⊢
      exact ih _ _ j hx hp
/-- How many of the rows have the bin j; the sum of their gradients. -/
def cntB (bins : List Int) (j : Nat) (rows : List Int) : Nat := rows.countP (fun r => decide ((rd bins r).toNat = j))
def sumB (bins grads : List Int) (j : Nat) : List Int → Int
  | [] => 0
  | r :: rows => (if (rd bins r).toNat = j then rd grads r else 0) + sumB bins grads j rows
theorem cntB_cons (bins : List Int) (j : Nat) (r : Int) (rows : List Int) : (cntB bins j (r :: rows) : Int) = (if (rd bins r).toNat = j then 1 else 0) + cntB bins j rows := by
  unfold cntB
  rw [List.countP_cons]
  by_cases h : (rd bins r).toNat = j
  · simp [h]; omega
  · simp [h]
/-- A histogram that comes out tells plain counts and sums. -/
theorem histGo_tells (bins grads : List Int) (n : Int) (rows : List Int) (acc : List S41) (hl : (acc.length : Int) = n) (h : (histGo bins grads n rows acc).2 = true) :
    (∀ r ∈ rows, RowIn bins grads n r) ∧ ∀ j, j < acc.length → ((histGo bins grads n rows acc).1.getD j z41).f0 = (acc.getD j z41).f0 + cntB bins j rows ∧ ((histGo bins grads n rows acc).1.getD j z41).f1 = (acc.getD j z41).f1 + sumB bins grads j rows := by
  induction rows generalizing acc with
  | nil => exact ⟨by simp, fun j hj => by simp [histGo, cntB, sumB]⟩
  | cons r rows ih =>
    simp only [histGo] at h ⊢
    split at h
    · rename_i c
      rw [if_pos c]
      obtain ⟨c1, c2⟩ := c
      have hb : (rd bins r).toNat < acc.length := by have := c1.2; omega
      obtain ⟨e, _, _⟩ := plusS_true c2
      unfold stepS at h c2 ⊢
      rw [e] at h ⊢
      simp only at h ⊢
      obtain ⟨i1, i2⟩ := ih _ (by simpa using hl) h
      refine ⟨fun x hx => ?_, fun j hj => ?_⟩
      · rcases List.mem_cons.1 hx with rfl | hx
        · exact c1
        · exact i1 x hx
      · obtain ⟨k1, k2⟩ := i2 j (by simpa using hj)
        rw [k1, k2, at_set _ _ _ _ _ hb, cntB_cons]
        simp only [sumB]
        by_cases g : (rd bins r).toNat = j
        · subst g
          simp only [if_true]
          omega
        · simp only [if_neg g]
          omega
    · simp at h
theorem histOf_tells {bins grads rows : List Int} {n : Int} (h : (histOf bins grads rows n).2 = true) :
    (∀ r ∈ rows, RowIn bins grads n r) ∧ ∀ j : Nat, (j : Int) < n → ((histOf bins grads rows n).1.getD j z41).f0 = cntB bins j rows ∧ ((histOf bins grads rows n).1.getD j z41).f1 = sumB bins grads j rows := by
  unfold histOf at h ⊢
  by_cases c : 1 ≤ n ∧ n ≤ 8
  · rw [if_pos c] at h ⊢
    obtain ⟨h1, h2⟩ := histGo_tells bins grads n rows _ (by simp; omega) h
    refine ⟨h1, fun j hj => ?_⟩
    obtain ⟨k1, k2⟩ := h2 j (by simp; omega)
    rw [k1, k2]
    have e : (List.replicate n.toNat z41).getD j z41 = z41 := by
      rw [List.getD_eq_getElem?_getD, List.getElem?_replicate]
      split <;> rfl
    rw [e]
    simp [z41]
  · rw [if_neg c] at h; simp at h
/-- One slot less another. -/
def minusS (n g n' g' : Int) : Int × Int × Bool := if (subI n n').2 = true ∧ (subI g g').2 = true then ((subI n n').1, (subI g g').1, true) else (0, 0, false)
theorem minusS_i64 (n g n' g' : Int) : I64 (minusS n g n' g').1 ∧ I64 (minusS n g n' g').2.1 := by
  unfold minusS
  split
  · exact ⟨subI_i64 _ _, subI_i64 _ _⟩
  · exact ⟨⟨by decide, by decide⟩, ⟨by decide, by decide⟩⟩
/-- A histogram less another, place by place, behind what is there. -/
def subH : List S41 → List S41 → List S41 → List S41 × Bool
  | x :: l, y :: m, acc => if (minusS x.f0 x.f1 y.f0 y.f1).2.2 = true ∧ 0 ≤ (minusS x.f0 x.f1 y.f0 y.f1).1 then subH l m (acc ++ [⟨(minusS x.f0 x.f1 y.f0 y.f1).1, (minusS x.f0 x.f1 y.f0 y.f1).2.1⟩]) else ([], false)
  | [], _, acc => (acc, true)
  | _ :: _, [], acc => (acc, true)
def subHist (l m : List S41) : List S41 × Bool := if l.length = m.length then subH l m [] else ([], false)
theorem subH_length (l m acc : List S41) : (subH l m acc).1.length ≤ acc.length + l.length := by
  induction l generalizing m acc with
  | nil => simp [subH]
  | cons x l ih =>
    cases m with
    | nil => simp [subH]
    | cons y m =>
      simp only [subH]
      split
      · have := ih m (acc ++ [⟨(minusS x.f0 x.f1 y.f0 y.f1).1, (minusS x.f0 x.f1 y.f0 y.f1).2.1⟩])
        simp at this ⊢
        omega
      · simp
theorem subHist_length (l m : List S41) : (subHist l m).1.length ≤ l.length := by
  unfold subHist
  split
  · have := subH_length l m []
    simpa using this
  · simp
/-- Is r an index of bins? -/
def inB (bins : List Int) (r : Int) : Bool := decide (0 ≤ r ∧ r ≤ (bins.length : Int) - 1)
def leftOf (bins : List Int) (b : Int) (rows : List Int) : List Int := rows.filter (fun r => inB bins r && decide (rd bins r ≤ b))
def rightOf (bins : List Int) (b : Int) (rows : List Int) : List Int := rows.filter (fun r => inB bins r && !decide (rd bins r ≤ b))
theorem leftOf_length (bins : List Int) (b : Int) (rows : List Int) : (leftOf bins b rows).length ≤ rows.length := List.length_filter_le _ _
theorem rightOf_length (bins : List Int) (b : Int) (rows : List Int) : (rightOf bins b rows).length ≤ rows.length := List.length_filter_le _ _
theorem split_cons (bins : List Int) (b : Int) (r : Int) (rows : List Int) :
    (inB bins r = false → leftOf bins b (r :: rows) = leftOf bins b rows ∧ rightOf bins b (r :: rows) = rightOf bins b rows) ∧
    (inB bins r = true → rd bins r ≤ b → leftOf bins b (r :: rows) = r :: leftOf bins b rows ∧ rightOf bins b (r :: rows) = rightOf bins b rows) ∧
    (inB bins r = true → ¬ rd bins r ≤ b → leftOf bins b (r :: rows) = leftOf bins b rows ∧ rightOf bins b (r :: rows) = r :: rightOf bins b rows) := by
  unfold leftOf rightOf
  refine ⟨fun h => ?_, fun h h1 => ?_, fun h h1 => ?_⟩
  · simp [List.filter_cons, h]
  · simp [List.filter_cons, h, h1]
  · simp [List.filter_cons, h, h1]
theorem subH_ok (p q r acc : List S41) (h1 : p.length = r.length) (h2 : q.length = r.length) (hr : SOk r) (hn : ∀ x ∈ r, 0 ≤ x.f0)
    (h : ∀ j, j < r.length → (p.getD j z41).f0 = (q.getD j z41).f0 + (r.getD j z41).f0 ∧ (p.getD j z41).f1 = (q.getD j z41).f1 + (r.getD j z41).f1) : subH p q acc = (acc ++ r, true) := by
  induction r generalizing p q acc with
  | nil =>
    obtain rfl : p = [] := List.eq_nil_of_length_eq_zero (by simpa using h1)
    simp [subH]
  | cons z r ih =>
    cases p with
    | nil => simp at h1
    | cons x p =>
      cases q with
      | nil => simp at h2
      | cons y q =>
        have h0 := h 0 (by simp)
        simp only [List.getD_cons_zero] at h0
        have rz := hr z (by simp)
        have nz := hn z (by simp)
        have e1 : subI x.f0 y.f0 = (z.f0, true) := by
          unfold subI
          rw [show x.f0 - y.f0 = z.f0 by omega, if_pos (show -9223372036854775808 ≤ z.f0 ∧ z.f0 ≤ 9223372036854775807 from rz.1)]
        have e2 : subI x.f1 y.f1 = (z.f1, true) := by
          unfold subI
          rw [show x.f1 - y.f1 = z.f1 by omega, if_pos (show -9223372036854775808 ≤ z.f1 ∧ z.f1 ≤ 9223372036854775807 from rz.2)]
        have e : minusS x.f0 x.f1 y.f0 y.f1 = (z.f0, z.f1, true) := by
          unfold minusS
          rw [e1, e2, if_pos ⟨rfl, rfl⟩]
        simp only [subH]
        rw [e, if_pos ⟨rfl, nz⟩]
        rw [ih p q _ (by simpa using h1) (by simpa using h2) (fun x hx => hr x (by simp [hx])) (fun x hx => hn x (by simp [hx])) (fun j hj => by
          have := h (j + 1) (by simpa using hj)
          simpa using this)]
        simp
theorem cnt_split (bins : List Int) (j : Nat) (b : Int) (rows : List Int) (h : ∀ r ∈ rows, inB bins r = true) : cntB bins j rows = cntB bins j (leftOf bins b rows) + cntB bins j (rightOf bins b rows) := by
  induction rows with
  | nil => rfl
  | cons r rows ih =>
    obtain ⟨_, c1, c2⟩ := split_cons bins b r rows
    have hr := h r (by simp)
    have i := ih (fun x hx => h x (by simp [hx]))
    have k := cntB_cons bins j r rows
    by_cases g : rd bins r ≤ b
    · rw [(c1 hr g).1, (c1 hr g).2]
      have k2 := cntB_cons bins j r (leftOf bins b rows)
      omega
    · rw [(c2 hr g).1, (c2 hr g).2]
      have k2 := cntB_cons bins j r (rightOf bins b rows)
      omega
theorem sum_split (bins grads : List Int) (j : Nat) (b : Int) (rows : List Int) (h : ∀ r ∈ rows, inB bins r = true) : sumB bins grads j rows = sumB bins grads j (leftOf bins b rows) + sumB bins grads j (rightOf bins b rows) := by
  induction rows with
  | nil => rfl
  | cons r rows ih =>
    obtain ⟨_, c1, c2⟩ := split_cons bins b r rows
    have hr := h r (by simp)
    have i := ih (fun x hx => h x (by simp [hx]))
    by_cases g : rd bins r ≤ b
    · rw [(c1 hr g).1, (c1 hr g).2]
      simp only [sumB]
      omega
    · rw [(c2 hr g).1, (c2 hr g).2]
      simp only [sumB]
      omega
theorem specAddInt {a b : Int} (ha : I64 a) (hb : I64 b) : spec_AddInt.f a b = some (addI a b) := by
  unfold I64 at ha hb
  unfold spec_AddInt.f addI
  by_cases h1 : b > 0
  · rw [if_pos h1, w64 (x := 9223372036854775807 - b) (by omega) (by omega)]
    by_cases h2 : a > 9223372036854775807 - b
    · rw [if_pos h2, if_neg (by omega)]
    · rw [if_neg h2, if_neg (by omega), if_pos (by omega), w64 (by omega) (by omega)]
  · rw [if_neg h1]
    by_cases h2 : b < 0
    · rw [if_pos h2, w64 (x := -9223372036854775808 - b) (by omega) (by omega)]
      by_cases h3 : a < -9223372036854775808 - b
      · rw [if_pos h3, if_neg (by omega)]
      · rw [if_neg h3, if_pos (by omega), w64 (by omega) (by omega)]
    · rw [if_neg h2, if_pos (by omega), w64 (by omega) (by omega)]
theorem specAdd13 {n g n' g' : Int} (h1 : I64 n) (h2 : I64 g) (h3 : I64 n') (h4 : I64 g') : spec_l13Add.f n g n' g' = some (plusS n g n' g') := by
  unfold spec_l13Add.f plusS
  simp only [specAddInt h1 h3, specAddInt h2 h4, Option.bind_some]
  by_cases a : (addI n n').2 = true
  · by_cases b : (addI g g').2 = true
    · rw [if_pos a, if_pos b, if_pos ⟨a, b⟩]
    · rw [if_pos a, if_neg b, if_neg (fun z => b z.2)]
  · rw [if_neg a, if_neg (fun z => a z.1)]
theorem specIn (a b c : Int) : spec_l1In.f a b c = some (decide (b ≤ a ∧ a ≤ c)) := by
  unfold spec_l1In.f
  by_cases h : b ≤ a
  · rw [if_pos h]; simp [h]
  · rw [if_neg h]; simp [h]
theorem rd_i64 {l : List Int} (h : ∀ x ∈ l, I64 x) (i : Int) : I64 (rd l i) := by
  show I64 (l.getD i.toNat 0)
  rw [List.getD_eq_getElem?_getD]
  cases e : l[i.toNat]? with
  | none => exact ⟨by decide, by decide⟩
  | some x => exact h x (List.mem_of_getElem? e)
theorem specHist_stop (bins grads rows : List Int) (acc : List S41) (n i r : Int) : Ev (fun k => spec_HistOf.j1 k bins grads rows n [] acc i r true) ([], false) :=
  ev_end fun k => by simp only [spec_HistOf.j1]; rw [if_pos trivial]
theorem specHist_l0 (bins grads rows : List Int) (n : Int) (hb : bins.length ≤ 1048576) (hg : grads.length ≤ 1048576) (hr : rows.length ≤ 1048576) (g64 : ∀ x ∈ grads, I64 x) (hn : 1 ≤ n ∧ n ≤ 8) :
    ∀ (d m : Nat) (acc : List S41), m + d = rows.length → (acc.length : Int) = n → SOk acc → Ev (fun k => spec_HistOf.l0 k bins grads rows n [] acc (m : Int)) (histGo bins grads n (rows.drop m) acc) := by
  intro d
  induction d with
  | zero =>
    intro m acc hm hl ho
    obtain rfl : m = rows.length := by omega
    refine ev_succ ?_
    simp only [spec_HistOf.l0]
    refine ev_neg (by omega) (ev_of ?_)
    rw [List.drop_length]; rfl
  | succ d ih =>
    intro m acc hm hl ho
    refine ev_succ ?_
    have d1 := rd_drop (xs := rows) (n := m) (by omega)
    rw [d1]
    simp only [spec_HistOf.l0, specIn, Option.bind_some, histGo]
    generalize rd rows (m : Int) = r
    rw [w64 (x := (bins.length : Int) - 1) (by omega) (by omega), w64 (x := (grads.length : Int) - 1) (by omega) (by omega), w64 (x := n - 1) (by omega) (by omega)]
    refine ev_pos (by omega) (ev_pos (by omega) ?_)
    by_cases c1 : 0 ≤ r ∧ r ≤ (bins.length : Int) - 1
    · refine ev_pos (by simpa using c1) ?_
      by_cases c2 : 0 ≤ r ∧ r ≤ (grads.length : Int) - 1
      · refine ev_pos (by simpa using c2) (ev_pos (by omega) (ev_pos (by omega) ?_))
        by_cases c3 : 0 ≤ rd bins r ∧ rd bins r ≤ n - 1
        · rw [show (!decide (0 ≤ rd bins r ∧ rd bins r ≤ n - 1)) = false by simpa using c3]
          have hR : RowIn bins grads n r := ⟨by omega, by omega⟩
          refine ev_succ ?_
          simp only [spec_HistOf.j1, rdi]
          rw [specAdd13 (SOk_at ho _).1 (SOk_at ho _).2 ⟨by decide, by decide⟩ (rd_i64 g64 r)]
          simp only [Option.bind_some]
          refine ev_neg (by decide) (ev_pos (by omega) (ev_pos (by omega) (ev_pos (by omega) (ev_pos (by omega) (ev_pos (by omega) ?_)))))
          unfold stepS
          by_cases c4 : (plusS (acc.getD (rd bins r).toNat z41).f0 (acc.getD (rd bins r).toNat z41).f1 1 (rd grads r)).2.2 = true
          · refine ev_pos c4 ?_
            rw [if_pos ⟨hR, c4⟩, w64 (x := (m : Int) + 1) (by omega) (by omega)]
            exact ih (m + 1) _ (by omega) (by simpa using hl) (SOk_set ho (plusS_i64 _ _ _ _).1 (plusS_i64 _ _ _ _).2 _)
          · refine ev_neg c4 (ev_of ?_)
            rw [if_neg (fun z => c4 z.2)]
        · rw [show (!decide (0 ≤ rd bins r ∧ rd bins r ≤ n - 1)) = true by rw [decide_eq_false c3]; rfl, if_neg (fun z => c3 (by have := z.1.2; omega))]
          exact specHist_stop _ _ _ _ _ _ _
      · rw [if_neg (fun z => c2 (by have := z.1.1; omega))]
        exact ev_neg (by simpa using c2) (specHist_stop _ _ _ _ _ _ _)
    · rw [if_neg (fun z => c1 (by have := z.1.1; omega))]
      exact ev_neg (by simpa using c1) (specHist_stop _ _ _ _ _ _ _)
theorem specHistOf (bins grads rows : List Int) (n : Int) (hb : bins.length ≤ 1048576) (hg : grads.length ≤ 1048576) (hr : rows.length ≤ 1048576) (g64 : ∀ x ∈ grads, I64 x) : Ev (fun k => spec_HistOf.f k bins grads rows n) (histOf bins grads rows n) := by
  unfold spec_HistOf.f histOf
  simp only [specIn, Option.bind_some]
  by_cases h : 1 ≤ n ∧ n ≤ 8
  · rw [if_pos h]
    refine ev_pos (by simpa using h) (ev_pos (by omega) (ev_pos (by omega) ?_))
    exact specHist_l0 bins grads rows n hb hg hr g64 h rows.length 0 _ (by omega) (by simp; omega) (SOk_rep _)
  · rw [if_neg h]
    exact ev_neg (by simpa using h) (Ev.now _)
theorem implAddInt {a b : Int} (ha : I64 a) (hb : I64 b) : impl_AddInt.f a b = some (addI a b) := by
  unfold I64 at ha hb
  unfold impl_AddInt.f addI
  by_cases h : -9223372036854775808 ≤ a + b ∧ a + b ≤ 9223372036854775807
  · rw [if_pos h, w64 h.1 h.2]
    split
    · rename_i h1
      rw [if_neg]
      simp only [beq_iff_eq, decide_eq_decide] at h1
      simp only [bne_iff_ne, ne_eq, decide_eq_decide, Decidable.not_not]
      omega
    · rfl
  · rw [if_neg h]
    have h2 : a + b < -9223372036854775808 ∨ 9223372036854775807 < a + b := by omega
    rw [if_pos (by simp only [beq_iff_eq, decide_eq_decide]; omega)]
    rcases h2 with h2 | h2
    · rw [wrap_under h2 (by omega), if_pos]
      simp only [bne_iff_ne, ne_eq, decide_eq_decide]
      omega
    · rw [wrap_over h2 (by omega), if_pos]
      simp only [bne_iff_ne, ne_eq, decide_eq_decide]
      omega
theorem implPlus {n g n' g' : Int} (h1 : I64 n) (h2 : I64 g) (h3 : I64 n') (h4 : I64 g') : impl_Slot_plus.f n g n' g' = some (plusS n g n' g') := by
  unfold impl_Slot_plus.f plusS
  simp only [implAddInt h1 h3, implAddInt h2 h4, Option.bind_some]
  by_cases a : (addI n n').2 = true
  · by_cases b : (addI g g').2 = true
    · rw [if_pos a, if_pos b, if_pos ⟨a, b⟩]
    · rw [if_pos a, if_neg b, if_neg (fun z => b z.2)]
  · rw [if_neg a, if_neg (fun z => a z.1)]
theorem implWithin (a b c : Int) : impl_within.f a b c = some (decide (b ≤ a ∧ a ≤ c)) := by
  unfold impl_within.f
  by_cases h : b ≤ a
  · rw [if_pos h]; simp [h]
  · rw [if_neg h]; simp [h]
theorem implHist_stop (bins grads : List Int) (rows : List Int) (acc : List S41) (n i r L : Int) : Ev (fun k => impl_HistOf.j1 k bins grads n acc r rows L i true) ([], false) :=
  ev_end fun k => by simp only [impl_HistOf.j1]; rw [if_pos trivial]
theorem implHist_l0 (bins grads rows : List Int) (n : Int) (hb : bins.length ≤ 1048576) (hg : grads.length ≤ 1048576) (hr : rows.length ≤ 1048576) (g64 : ∀ x ∈ grads, I64 x) (hn : 1 ≤ n ∧ n ≤ 8) :
    ∀ (d m : Nat) (acc : List S41), m + d = rows.length → (acc.length : Int) = n → SOk acc → Ev (fun k => impl_HistOf.l0 k bins grads n acc rows (rows.length : Int) (m : Int)) (histGo bins grads n (rows.drop m) acc) := by
  intro d
  induction d with
  | zero =>
    intro m acc hm hl ho
    obtain rfl : m = rows.length := by omega
    refine ev_succ ?_
    simp only [impl_HistOf.l0]
    refine ev_neg (by omega) (ev_of ?_)
    rw [List.drop_length]; rfl
  | succ d ih =>
    intro m acc hm hl ho
    refine ev_succ ?_
    have d1 := rd_drop (xs := rows) (n := m) (by omega)
    rw [d1]
    have em : (mn (bins.length : Int) (grads.length : Int) = bins.length ∧ bins.length ≤ grads.length) ∨ (mn (bins.length : Int) (grads.length : Int) = grads.length ∧ grads.length ≤ bins.length) := by
      unfold mn; split <;> omega
    simp only [impl_HistOf.l0, implWithin, Option.bind_some, histGo]
    generalize rd rows (m : Int) = r
    generalize mn (bins.length : Int) (grads.length : Int) = M at em
    rw [w64 (x := M - 1) (by omega) (by omega), w64 (x := n - 1) (by omega) (by omega)]
    refine ev_pos (by omega) (ev_pos (by omega) (ev_pos (by omega) ?_))
    by_cases c1 : 0 ≤ r ∧ r ≤ M - 1
    · refine ev_pos (by simpa using c1) (ev_pos (by omega) (ev_pos (by omega) ?_))
      by_cases c3 : 0 ≤ rd bins r ∧ rd bins r ≤ n - 1
      · rw [show (!decide (0 ≤ rd bins r ∧ rd bins r ≤ n - 1)) = false by simpa using c3]
        have hR : RowIn bins grads n r := ⟨by omega, by omega⟩
        refine ev_succ ?_
        simp only [impl_HistOf.j1, rdi]
        rw [implPlus (SOk_at ho _).1 (SOk_at ho _).2 ⟨by decide, by decide⟩ (rd_i64 g64 r)]
        simp only [Option.bind_some]
        refine ev_neg (by decide) (ev_pos (by omega) (ev_pos (by omega) (ev_pos (by omega) (ev_pos (by omega) (ev_pos (by omega) ?_)))))
        unfold stepS
        by_cases c4 : (plusS (acc.getD (rd bins r).toNat z41).f0 (acc.getD (rd bins r).toNat z41).f1 1 (rd grads r)).2.2 = true
        · refine ev_pos c4 ?_
          rw [if_pos ⟨hR, c4⟩, w64 (x := (m : Int) + 1) (by omega) (by omega)]
          exact ih (m + 1) _ (by omega) (by simpa using hl) (SOk_set ho (plusS_i64 _ _ _ _).1 (plusS_i64 _ _ _ _).2 _)
        · refine ev_neg c4 (ev_of ?_)
          rw [if_neg (fun z => c4 z.2)]
      · rw [show (!decide (0 ≤ rd bins r ∧ rd bins r ≤ n - 1)) = true by rw [decide_eq_false c3]; rfl, if_neg (fun z => c3 (by have := z.1.2; omega))]
        exact implHist_stop _ _ _ _ _ _ _ _
    · rw [if_neg (fun z => c1 (by have := z.1.1; omega))]
      exact ev_neg (by simpa using c1) (implHist_stop _ _ _ _ _ _ _ _)
theorem implHistOf (bins grads rows : List Int) (n : Int) (hb : bins.length ≤ 1048576) (hg : grads.length ≤ 1048576) (hr : rows.length ≤ 1048576) (g64 : ∀ x ∈ grads, I64 x) : Ev (fun k => impl_HistOf.f k bins grads rows n) (histOf bins grads rows n) := by
  unfold impl_HistOf.f histOf
  simp only [implWithin, Option.bind_some]
  by_cases h : 1 ≤ n ∧ n ≤ 8
  · rw [if_pos h]
    refine ev_pos (by simpa using h) (ev_pos (by omega) (ev_pos (by omega) ?_))
    exact implHist_l0 bins grads rows n hb hg hr g64 h rows.length 0 _ (by omega) (by simp; omega) (SOk_rep _)
  · rw [if_neg h]
    exact ev_neg (by simpa using h) (Ev.now _)
theorem implSubInt {a b : Int} (ha : I64 a) (hb : I64 b) : impl_SubInt.f a b = some (subI a b) := by
  unfold I64 at ha hb
  unfold impl_SubInt.f subI
  by_cases h : -9223372036854775808 ≤ a - b ∧ a - b ≤ 9223372036854775807
  · rw [if_pos h, w64 h.1 h.2]
    split
    · rename_i h1
      rw [if_neg]
      simp only [bne_iff_ne, ne_eq, decide_eq_decide] at h1
      simp only [bne_iff_ne, ne_eq, decide_eq_decide, Decidable.not_not]
      omega
    · rfl
  · rw [if_neg h]
    have h2 : a - b < -9223372036854775808 ∨ 9223372036854775807 < a - b := by omega
    rw [if_pos (by simp only [bne_iff_ne, ne_eq, decide_eq_decide]; omega)]
    rcases h2 with h2 | h2
    · rw [wrap_under h2 (by omega), if_pos]
      simp only [bne_iff_ne, ne_eq, decide_eq_decide]
      omega
    · rw [wrap_over h2 (by omega), if_pos]
      simp only [bne_iff_ne, ne_eq, decide_eq_decide]
      omega
theorem implMinus {n g n' g' : Int} (h1 : I64 n) (h2 : I64 g) (h3 : I64 n') (h4 : I64 g') : impl_Slot_minus.f n g n' g' = some (minusS n g n' g') := by
  unfold impl_Slot_minus.f minusS
  simp only [implSubInt h1 h3, implSubInt h2 h4, Option.bind_some]
  by_cases a : (subI n n').2 = true
  · by_cases b : (subI g g').2 = true
    · rw [if_pos a, if_pos b, if_pos ⟨a, b⟩]
    · rw [if_pos a, if_neg b, if_neg (fun z => b z.2)]
  · rw [if_neg a, if_neg (fun z => a z.1)]
theorem implSubHist_l0 (l m : List S41) (h0 : l.length = m.length) (hl : l.length ≤ 1048576) (hx : SOk l) (hy : SOk m) : ∀ (d n : Nat) (acc : List S41), n + d = l.length → acc.length = n →
    Ev (fun k => impl_SubHist.l0 k l m acc (l.length : Int) (n : Int)) (subH (l.drop n) (m.drop n) acc) := by
  intro d
  induction d with
  | zero =>
    intro n acc hn ha
    obtain rfl : n = l.length := by omega
    refine ev_succ ?_
    simp only [impl_SubHist.l0]
    refine ev_neg (by omega) (ev_of ?_)
    rw [List.drop_length]
    rfl
  | succ d ih =>
    intro n acc hn ha
    refine ev_succ ?_
    have e1 : l[n]? = some l[n] := List.getElem?_eq_getElem (by omega)
    have e2 : m[n]? = some m[n] := List.getElem?_eq_getElem (by omega)
    have d1 : l.drop n = l[n] :: l.drop (n + 1) := List.drop_eq_getElem_cons (by omega)
    have d2 : m.drop n = m[n] :: m.drop (n + 1) := List.drop_eq_getElem_cons (by omega)
    simp only [impl_SubHist.l0, rdi, gd_nat z41 e1, gd_nat z41 e2, implMinus (hx.at e1).1 (hx.at e1).2 (hy.at e2).1 (hy.at e2).2, Option.bind_some]
    refine ev_pos (by omega) (ev_pos (by omega) (ev_pos (by omega) (ev_pos (by omega) ?_)))
    rw [d1, d2]
    simp only [subH]
    by_cases c1 : (minusS l[n].f0 l[n].f1 m[n].f0 m[n].f1).2.2 = true
    · refine ev_pos c1 ?_
      by_cases c2 : (minusS l[n].f0 l[n].f1 m[n].f0 m[n].f1).1 < 0
      · rw [if_neg (fun z => by omega)]
        exact ev_pos c2 (Ev.now _)
      · rw [if_pos ⟨c1, by omega⟩]
        refine ev_neg c2 (ev_pos (by omega) ?_)
        rw [w64 (x := (n : Int) + 1) (by omega) (by omega)]
        exact ih (n + 1) _ (by omega) (by simp [ha])
    · rw [if_neg (fun z => c1 z.1)]
      exact ev_neg c1 (Ev.now _)
theorem implSubHist (l m : List S41) (hl : l.length ≤ 1048576) (hx : SOk l) (hy : SOk m) : Ev (fun k => impl_SubHist.f k l m) (subHist l m) := by
  unfold impl_SubHist.f subHist
  by_cases h0 : l.length = m.length
  · rw [if_pos h0]
    exact ev_pos (by omega) (implSubHist_l0 l m h0 hl hx hy l.length 0 [] (by omega) rfl)
  · rw [if_neg h0]
    exact ev_neg (by omega) (Ev.now _)
theorem slot_ext (x y : S41) : (!((x.f0 == y.f0)) || (!((x.f1 == y.f1)))) = true ↔ x ≠ y := by
  cases x; cases y
  simp only [Bool.or_eq_true, Bool.not_eq_true', beq_eq_false_iff_ne, ne_eq, S41.mk.injEq]
  omega
theorem same_of {l m : List S41} (hl : l.length = m.length) : dec (∀ j, 0 ≤ j → j < l.length → l[j]? = m[j]?) = dec (l = m) := dec_congr ⟨fun h => List.ext_getElem? fun j => by
  by_cases g : j < l.length
  · exact h j (by omega) g
  · rw [List.getElem?_eq_none (by omega), List.getElem?_eq_none (by omega)], fun h j _ _ => by rw [h]⟩
theorem specSameHist (l m : List S41) (hl : l.length ≤ 17592186044416) : Ev (fun k => spec_SameHist.f k l m) (dec (l = m)) := by
  unfold spec_SameHist.f
  by_cases h0 : l.length = m.length
  · refine ev_pos (by omega) (ev_eq (all_loop (fun k i => spec_SameHist.l0 k l m i) l.length (fun j => l[j]? = m[j]?) ?_ ?_ ?_ l.length 0 (by omega)) (same_of h0))
    · refine ev_succ ?_
      simp only [spec_SameHist.l0]
      exact ev_neg (by omega) (Ev.now _)
    · intro n r hn hp h
      refine ev_succ ?_
      have e1 : l[n]? = some l[n] := List.getElem?_eq_getElem hn
      simp only [spec_SameHist.l0, rdi, gd_nat z41 e1, gd_nat z41 (hp.symm.trans e1)]
      refine ev_pos (by omega) (ev_pos (by omega) (ev_pos (by omega) (ev_neg (by rw [slot_ext]; simp) ?_)))
      rw [w64 (x := (n : Int) + 1) (by omega) (by omega)]
      exact h
    · intro n hn hp
      refine ev_succ ?_
      have e1 : l[n]? = some l[n] := List.getElem?_eq_getElem hn
      have e2 : m[n]? = some m[n] := List.getElem?_eq_getElem (by omega)
      simp only [spec_SameHist.l0, rdi, gd_nat z41 e1, gd_nat z41 e2]
      refine ev_pos (by omega) (ev_pos (by omega) (ev_pos (by omega) (ev_pos (by rw [slot_ext]; exact fun z => hp (by rw [e1, e2, z])) (Ev.now _))))
  · refine ev_neg (by omega) (ev_of ?_)
    rw [dec_false (fun z => h0 (by rw [z]))]
theorem specSplit_l0 (bins rows : List Int) (b : Int) (hb : bins.length ≤ 1048576) (hr : rows.length ≤ 1048576) : ∀ (d n : Nat) (L R : List Int), n + d = rows.length → L.length ≤ n → R.length ≤ n →
    Ev (fun k => spec_SplitRows.l0 k bins rows b L R (n : Int)) (L ++ leftOf bins b (rows.drop n), R ++ rightOf bins b (rows.drop n)) := by
  intro d
  induction d with
  | zero =>
    intro n L R hn hL hR
    obtain rfl : n = rows.length := by omega
    refine ev_succ ?_
    simp only [spec_SplitRows.l0]
    refine ev_neg (by omega) (ev_of ?_)
    rw [List.drop_length]
    simp [leftOf, rightOf]
  | succ d ih =>
    intro n L R hn hL hR
    refine ev_succ ?_
    obtain ⟨c0, c1, c2⟩ := split_cons bins b (rd rows (n : Int)) (rows.drop (n + 1))
    rw [rd_drop (by omega)]
    simp only [spec_SplitRows.l0, specIn, Option.bind_some]
    rw [w64 (x := (n : Int) + 1) (by omega) (by omega), w64 (x := (bins.length : Int) - 1) (by omega) (by omega)]
    refine ev_pos (by omega) (ev_pos (by omega) ?_)
    by_cases h : inB bins (rd rows (n : Int)) = true
    · have h' : 0 ≤ rd rows (n : Int) ∧ rd rows (n : Int) ≤ (bins.length : Int) - 1 := by simpa [inB] using h
      refine ev_pos (by simpa using h') (ev_pos (by omega) (ev_pos (by omega) ?_))
      by_cases g : rd bins (rd rows (n : Int)) ≤ b
      · rw [(c1 h g).1, (c1 h g).2]
        refine ev_pos g (ev_pos (by omega) (ev_eq (ih (n + 1) (L ++ [rd rows (n : Int)]) R (by omega) (by simp; omega) (by omega)) ?_))
        simp
      · rw [(c2 h g).1, (c2 h g).2]
        refine ev_neg g (ev_pos (by omega) (ev_eq (ih (n + 1) L (R ++ [rd rows (n : Int)]) (by omega) (by omega) (by simp; omega)) ?_))
        simp
    · simp only [Bool.not_eq_true] at h
      rw [(c0 h).1, (c0 h).2]
      exact ev_neg (by simpa [inB] using h) (ih (n + 1) L R (by omega) (by omega) (by omega))
theorem specSplit (bins rows : List Int) (b : Int) (hb : bins.length ≤ 1048576) (hr : rows.length ≤ 1048576) : Ev (fun k => spec_SplitRows.f k bins rows b) (leftOf bins b rows, rightOf bins b rows) :=
  specSplit_l0 bins rows b hb hr rows.length 0 [] [] (by omega) (by simp) (by simp)

theorem siblings_hist {bins grads rows : List Int} {n : Int} (h0 : (histOf bins grads rows n).2 = true) (h1 : (histOf bins grads (leftOf bins 1 rows) n).2 = true) (h2 : (histOf bins grads (rightOf bins 1 rows) n).2 = true) :
    subHist (histOf bins grads rows n).1 (histOf bins grads (leftOf bins 1 rows) n).1 = ((histOf bins grads (rightOf bins 1 rows) n).1, true) := by
  have l0 := (histOf_length bins grads rows n).2 h0
  have l1 := (histOf_length bins grads (leftOf bins 1 rows) n).2 h1
  have l2 := (histOf_length bins grads (rightOf bins 1 rows) n).2 h2
  obtain ⟨r0, t0⟩ := histOf_tells h0
  obtain ⟨r1, t1⟩ := histOf_tells h1
  obtain ⟨r2, t2⟩ := histOf_tells h2
  unfold subHist
  rw [if_pos (by omega)]
  have hin : ∀ r ∈ rows, inB bins r = true := fun r hr => by
    have := (r0 r hr).1
    simp only [inB, decide_eq_true_eq]
    omega
  rw [subH_ok _ _ (histOf bins grads (rightOf bins 1 rows) n).1 [] (by omega) (by omega) (histOf_ok _ _ _ _) ?_ ?_]
  · simp
  · intro x hx
    obtain ⟨j, hj, e⟩ := List.mem_iff_getElem.1 hx
    have := (t2 j (by omega)).1
    rw [List.getD_eq_getElem?_getD, List.getElem?_eq_getElem hj] at this
    simp only [Option.getD_some] at this
    rw [← e, this]
    omega
  · intro j hj
    have a0 := t0 j (by omega)
    have a1 := t1 j (by omega)
    have a2 := t2 j (by omega)
    have s1 := cnt_split bins j 1 rows hin
    have s2 := sum_split bins grads j 1 rows hin
    omega
theorem FnSiblings : laws_FnSiblings.Pure := by
  intro l hm hl hw
  refine Ev.rounds ?_
  unfold laws_FnSiblings.f
  rw [lawsBig]
  simp only [Option.bind_some]
  by_cases hb : (l.length : Int) > 1048576
  · exact ev_pos (by simpa using hb) (Ev.now _)
  refine ev_neg (by simpa using hb) ?_
  obtain ⟨bins, grads, rows, n, e, b1, b2, b3, g64⟩ := drawHistOf l (by omega)
  have nL := leftOf_length bins 1 rows
  have nR := rightOf_length bins 1 rows
  refine Ev.bind e (Ev.bind (implHistOf bins grads rows n (by omega) (by omega) (by omega) g64) (Ev.bind (specHistOf bins grads rows n (by omega) (by omega) (by omega) g64) (ev_neg (by simp) ?_)))
  refine ev_succ ?_
  simp only [laws_FnSiblings.j0]
  by_cases h0 : (histOf bins grads rows n).2 = true
  · refine ev_neg (by simp [h0]) (Ev.bind (specSplit bins rows 1 (by omega) (by omega)) ?_)
    refine Ev.bind (implHistOf bins grads _ n (by omega) (by omega) (by simp only; omega) g64) (Ev.bind (implHistOf bins grads _ n (by omega) (by omega) (by simp only; omega) g64) ?_)
    simp only
    have stop : ∀ p q r : List S41, Ev (fun k => laws_FnSiblings.j1 k p q r true) true := fun p q r => ev_end fun k => by simp only [laws_FnSiblings.j1]; rw [if_pos trivial]
    by_cases h1 : (histOf bins grads (leftOf bins 1 rows) n).2 = true
    · refine ev_pos h1 ?_
      by_cases h2 : (histOf bins grads (rightOf bins 1 rows) n).2 = true
      · have key := siblings_hist h0 h1 h2
        have hl0 := (histOf_length bins grads rows n).1
        have hl2 := (histOf_length bins grads (rightOf bins 1 rows) n).1
        refine ev_succ ?_
        simp only [laws_FnSiblings.j1]
        refine ev_neg (by simp [h2]) (Ev.bind (implSubHist _ _ (by omega) (histOf_ok _ _ _ _) (histOf_ok _ _ _ _)) ?_)
        rw [key]
        simp only
        refine ev_pos trivial (Ev.bind (ev_eq (specSameHist _ _ (by omega)) (dec_true rfl)) (Ev.now _))
      · rw [show (!(histOf bins grads (rightOf bins 1 rows) n).2) = true by simpa using h2]
        exact stop _ _ _
    · exact ev_neg h1 (stop _ _ _)
  · exact ev_pos (by simpa using h0) (ev_of (by simp))

end Go.Proofs.Ytohngimlmcdiiaa.Pure
