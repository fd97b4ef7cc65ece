/- both sides of a bound lie within it, and the sign orders them. Conditions: none but the row's own.
-/
import Derived.Test.YtohngimlmcdiiaaQx19
set_option linter.unusedVariables false
set_option linter.unusedSimpArgs false
namespace Go.Proofs.Ytohngimlmcdiiaa.Pure
open Go.RowKit Go.Proofs.Ytohngimlmcdiiaa.Q Go.Proofs.YtohngimlmcdiiaaW.PrintWords Go.Proofs.YtohngimlmcdiiaaW.PrintLast Go.Proofs.YtohngimlmcdiiaaW.PrintMore

theorem w64 {x : Int} (h1 : -9223372036854775808 ≤ x) (h2 : x ≤ 9223372036854775807) : wrap64 x = x := by unfold wrap64; omega
theorem i64_wf {x : Int} (h : (Lit.int .i64 x).wf = true) : -9223372036854775808 ≤ x ∧ x ≤ 9223372036854775807 := by
  simpa [Lit.wf, IntKind.min, IntKind.max, IntKind.signed, IntKind.bits] using h
theorem u8_wf {x : Int} (h : (Lit.int .u8 x).wf = true) : 0 ≤ x ∧ x ≤ 255 := by
  simpa [Lit.wf, IntKind.min, IntKind.max, IntKind.signed, IntKind.bits] using h
theorem rd_eq {xs : List Int} {i : Int} (h0 : 0 ≤ i) (h : i < (xs.length : Int)) : xs[i.toNat]? = some (rd xs i) := by
  unfold rd
  rw [List.getD_eq_getElem?_getD, List.getElem?_eq_getElem (by omega)]
  rfl
theorem rd_mem {xs : List Int} {i : Int} (h0 : 0 ≤ i) (h : i < (xs.length : Int)) : rd xs i ∈ xs := List.mem_of_getElem? (rd_eq h0 h)
theorem rd_of {xs : List Int} {n : Nat} {v : Int} (h : xs[n]? = some v) : rd xs (n : Int) = v := by
  unfold rd
  rw [List.getD_eq_getElem?_getD, Int.toNat_natCast, h]
  rfl
theorem ev_of {α : Type} {r : α} {p : Option α} (h : p = some r) : Ev (fun _ => p) r := ⟨0, fun _ _ => h⟩
theorem ev_end {α : Type} {g : Nat → Option α} {r : α} (h : ∀ k, g (k + 1) = some r) : Ev g r := Ev.step (f := fun _ => some r) h (Ev.now r)
theorem ev_pos {α : Type} {c : Prop} [Decidable c] {f g : Nat → Option α} {r : α} (hc : c) (h : Ev f r) : Ev (fun k => if c then f k else g k) r := Ev.congr (fun _ => if_pos hc) h
theorem ev_neg {α : Type} {c : Prop} [Decidable c] {f g : Nat → Option α} {r : α} (hc : ¬ c) (h : Ev g r) : Ev (fun k => if c then f k else g k) r := Ev.congr (fun _ => if_neg hc) h
theorem rd_drop {xs : List Int} {n : Nat} (h : n < xs.length) : xs.drop n = rd xs (n : Int) :: xs.drop (n + 1) := by
  rw [List.drop_eq_getElem_cons h]
  congr 1
  unfold rd
  rw [List.getD_eq_getElem?_getD, Int.toNat_natCast, List.getElem?_eq_getElem h]
  rfl
noncomputable def dec (p : Prop) : Bool := @decide p (Classical.propDecidable p)
theorem dec_true {p : Prop} (h : p) : dec p = true := @decide_eq_true p (Classical.propDecidable p) h
theorem dec_false {p : Prop} (h : ¬ p) : dec p = false := @decide_eq_false p (Classical.propDecidable p) h
theorem dec_iff {p : Prop} : dec p = true ↔ p := @decide_eq_true_iff p (Classical.propDecidable p)
theorem dec_congr {p q : Prop} (h : p ↔ q) : dec p = dec q := by rw [propext h]
theorem dec_eq {p : Prop} [Decidable p] : dec p = decide p := by
  by_cases h : p
  · rw [dec_true h, decide_eq_true h]
  · rw [dec_false h, decide_eq_false h]
theorem ev_succ {α : Type} {g : Nat → Option α} {r : α} (h : Ev (fun k => g (k + 1)) r) : Ev g r := by
  obtain ⟨K, h⟩ := h
  refine ⟨K + 1, fun n hn => ?_⟩
  obtain ⟨m, rfl⟩ : ∃ m, n = m + 1 := ⟨n - 1, by omega⟩
  exact h m (by omega)
theorem ev_eq {α : Type} {g : Nat → Option α} {r r' : α} (h : Ev g r) (e : r = r') : Ev g r' := e ▸ h
theorem gd_eq {α : Type} (z : α) {xs : List α} {i : Int} (h0 : 0 ≤ i) (h : i < (xs.length : Int)) : xs[i.toNat]? = some (xs.getD i.toNat z) := by
  rw [List.getD_eq_getElem?_getD, List.getElem?_eq_getElem (by omega)]
  rfl
theorem gd_nat {α : Type} (z : α) {xs : List α} {n : Nat} {v : α} (h : xs[n]? = some v) : xs.getD ((n : Int)).toNat z = v := by
  rw [List.getD_eq_getElem?_getD, Int.toNat_natCast, h]
  rfl
theorem gd_drop {α : Type} (z : α) {xs : List α} {n : Nat} (h : n < xs.length) : xs.drop n = xs.getD ((n : Int)).toNat z :: xs.drop (n + 1) := by
  rw [List.drop_eq_getElem_cons h]
  congr 1
  exact (gd_nat z (List.getElem?_eq_getElem h)).symm
/-- A loop that copies: place after place is set. -/
theorem copy_loop {α β : Type} (F : Nat → List β → Int → Option (List β)) (l : List α) (g : α → β)
    (hend : ∀ acc : List β, acc.length = l.length → Ev (fun k => F k acc (l.length : Int)) acc)
    (hstep : ∀ (acc : List β) (n : Nat) (x : α) (r : List β), n < l.length → acc.length = l.length → l[n]? = some x → Ev (fun k => F k (acc.set n (g x)) ((n + 1 : Nat) : Int)) r → Ev (fun k => F k acc (n : Int)) r) :
    ∀ (d n : Nat) (acc : List β), n + d = l.length → acc.length = l.length → (∀ j, j < n → acc[j]? = (l.map g)[j]?) → Ev (fun k => F k acc (n : Int)) (l.map g) := by
  intro d
  induction d with
  | zero =>
    intro n acc hn ha hp
    obtain rfl : n = l.length := by omega
    refine ev_eq (hend acc ha) (List.ext_getElem? fun j => ?_)
    by_cases h : j < l.length
    · exact hp j h
    · rw [List.getElem?_eq_none (by omega), List.getElem?_eq_none (by simp; omega)]
  | succ d ih =>
    intro n acc hn ha hp
    have hx : l[n]? = some l[n] := List.getElem?_eq_getElem (by omega)
    refine hstep acc n l[n] _ (by omega) ha hx (ih (n + 1) _ (by omega) (by simpa using ha) ?_)
    intro j hj
    rw [List.getElem?_set]
    by_cases h : n = j
    · subst h
      rw [if_pos rfl, if_pos (by omega), List.getElem?_map, hx]
      rfl
    · rw [if_neg h]
      exact hp j (by omega)
/-- A loop that tests place after place. -/
theorem all_loop (F : Nat → Int → Option Bool) (L : Nat) (p : Nat → Prop) (hend : Ev (fun k => F k (L : Int)) true)
    (hyes : ∀ (n : Nat) (r : Bool), n < L → p n → Ev (fun k => F k ((n + 1 : Nat) : Int)) r → Ev (fun k => F k (n : Int)) r)
    (hno : ∀ n : Nat, n < L → ¬ p n → Ev (fun k => F k (n : Int)) false) :
    ∀ (d n : Nat), n + d = L → Ev (fun k => F k (n : Int)) (dec (∀ j, n ≤ j → j < L → p j)) := by
  intro d
  induction d with
  | zero =>
    intro n hn
    obtain rfl : n = L := by omega
    exact ev_eq hend (dec_true (fun j h1 h2 => by omega)).symm
  | succ d ih =>
    intro n hn
    by_cases h : p n
    · refine hyes n _ (by omega) h (ev_eq (ih (n + 1) (by omega)) (dec_congr ⟨fun g j h1 h2 => ?_, fun g j h1 h2 => g j (by omega) h2⟩))
      by_cases e : j = n
      · exact e ▸ h
      · exact g j (by omega) h2
    · exact ev_eq (hno n (by omega) h) (dec_false (fun g => h (g n (Nat.le_refl _) (by omega)))).symm
/-- A loop that goes round L times over a state. -/
theorem fold_loop {σ ρ : Type} (F : Nat → σ → Int → Option ρ) (L : Nat) (S : Nat → σ) (r : ρ) (hend : Ev (fun k => F k (S L) (L : Int)) r)
    (hstep : ∀ n : Nat, n < L → Ev (fun k => F k (S (n + 1)) ((n + 1 : Nat) : Int)) r → Ev (fun k => F k (S n) (n : Int)) r) :
    ∀ (d n : Nat), n + d = L → Ev (fun k => F k (S n) (n : Int)) r := by
  intro d
  induction d with
  | zero =>
    intro n hn
    obtain rfl : n = L := by omega
    exact hend
  | succ d ih =>
    intro n hn
    exact hstep n (by omega) (ih (n + 1) (by omega))
theorem set_mid {α : Type} (a b : List α) (x v : α) {n : Nat} (h : a.length = n) : (a ++ x :: b).set n v = a ++ v :: b := by
  subst h
  rw [List.set_append_right _ _ (Nat.le_refl _), Nat.sub_self]
  rfl
theorem get_mid {α : Type} (a b : List α) (x : α) {n : Nat} (h : a.length = n) : (a ++ x :: b)[n]? = some x := by
  subst h
  rw [List.getElem?_append_right (Nat.le_refl _), Nat.sub_self]
  rfl
/-- A loop that tests place after place, and one thing more at its end. -/
theorem all_loop2 (F : Nat → Int → Option Bool) (L : Nat) (p : Nat → Prop) (E : Prop) (hend : Ev (fun k => F k (L : Int)) (dec E))
    (hyes : ∀ (n : Nat) (r : Bool), n < L → p n → Ev (fun k => F k ((n + 1 : Nat) : Int)) r → Ev (fun k => F k (n : Int)) r)
    (hno : ∀ n : Nat, n < L → ¬ p n → Ev (fun k => F k (n : Int)) false) :
    ∀ (d n : Nat), n + d = L → Ev (fun k => F k (n : Int)) (dec ((∀ j, n ≤ j → j < L → p j) ∧ E)) := by
  intro d
  induction d with
  | zero =>
    intro n hn
    obtain rfl : n = L := by omega
    exact ev_eq hend (dec_congr ⟨fun h => ⟨fun j h1 h2 => by omega, h⟩, fun h => h.2⟩)
  | succ d ih =>
    intro n hn
    by_cases h : p n
    · refine hyes n _ (by omega) h (ev_eq (ih (n + 1) (by omega)) (dec_congr ⟨fun g => ⟨fun j h1 h2 => ?_, g.2⟩, fun g => ⟨fun j h1 h2 => g.1 j (by omega) h2, g.2⟩⟩))
      by_cases e : j = n
      · exact e ▸ h
      · exact g.1 j (by omega) h2
    · exact ev_eq (hno n (by omega) h) (dec_false (fun g => h (g.1 n (Nat.le_refl _) (by omega)))).symm
theorem lawsBig (l : List Int) : laws_big.f l = some (decide ((l.length : Int) > 1048576)) := rfl
theorem and255 (x : Int) : 0 ≤ Go.bits .and .i64 x 255 ∧ Go.bits .and .i64 x 255 ≤ 255 := by
  simp only [Go.bits]
  have h : (BitVec.ofInt IntKind.i64.bits x &&& BitVec.ofInt IntKind.i64.bits 255).toNat ≤ 255 := by
    rw [BitVec.toNat_and]
    exact Nat.le_trans Nat.and_le_right (by decide)
  rw [IntKind.wrap_i64]
  omega
theorem l1New_l0 (l : List Int) (hl : l.length ≤ 35184372088832) : ∀ (d n : Nat) (x : Int), n + d = l.length → ∃ h, Ev (fun k => spec_l1New.l0 k l x (n : Int)) (l, 0, h) := by
  intro d
  induction d with
  | zero =>
    intro n x hn
    refine ⟨x, ev_end fun k => ?_⟩
    simp only [spec_l1New.l0]
    rw [if_neg (by omega)]
  | succ d ih =>
    intro n x hn
    by_cases h4 : (n : Int) < 4000
    · obtain ⟨h, e⟩ := ih (n + 1) (Go.bits .and .i64 (wrap64 ((wrap64 ((wrap64 (x * 131)) + (wrap64 (rd l n)))) + 7)) 1073741823) (by omega)
      refine ⟨h, Ev.step (fun k => ?_) e⟩
      simp only [spec_l1New.l0]
      rw [if_pos (by omega), if_pos h4, if_pos (by omega), w64 (x := (n : Int) + 1) (by omega) (by omega)]
      rfl
    · refine ⟨x, ev_end fun k => ?_⟩
      simp only [spec_l1New.l0]
      rw [if_pos (by omega), if_neg h4]
theorem l1New (l : List Int) (hl : l.length ≤ 35184372088832) : ∃ h, Ev (fun k => spec_l1New.f k l) (l, 0, h) := l1New_l0 l hl l.length 0 _ (by omega)
/-- A cursor's place is within its bytes. -/
def Cur (l : List Int) (i : Int) : Prop := 0 ≤ i ∧ i ≤ l.length ∧ l.length ≤ 35184372088832
theorem cur0 (l : List Int) (hl : l.length ≤ 35184372088832) : Cur l 0 := ⟨by omega, by omega, hl⟩
theorem l1Byte {l : List Int} {i : Int} (h : Int) (hc : Cur l i) : ∃ r i' h', spec_l1Byte.f l i h = some (r, i', h') ∧ Cur l i' ∧ 0 ≤ r ∧ r ≤ 255 := by
  unfold Cur at *
  unfold spec_l1Byte.f
  by_cases h1 : i < (l.length : Int)
  · rw [if_pos h1, if_pos hc.1, w64 (x := i + 1) (by omega) (by omega)]
    exact ⟨_, _, _, rfl, by omega, and255 _⟩
  · rw [if_neg h1]
    exact ⟨_, _, _, rfl, by omega, and255 _⟩
theorem l1Below {l : List Int} {i : Int} (h : Int) (n : Int) (hc : Cur l i) : ∃ r i' h', spec_l1Below.f l i h n = some (r, i', h') ∧ Cur l i' ∧ 0 ≤ r ∧ (0 < n → r < n) ∧ (n ≤ 0 → r = 0) := by
  unfold spec_l1Below.f
  by_cases h1 : n ≤ 0
  · rw [if_pos h1]
    exact ⟨0, _, _, rfl, hc, by omega, by omega, fun _ => rfl⟩
  rw [if_neg h1]
  by_cases h2 : n ≤ 256
  · rw [if_pos h2]
    obtain ⟨r, i', h', e, hc', h3, h4⟩ := l1Byte h hc
    rw [e]
    simp only [Option.bind_some]
    rw [if_neg (by omega)]
    refine ⟨_, _, _, rfl, hc', ?_, ?_, by omega⟩
    · rw [Int.tmod_eq_emod_of_nonneg h3]; exact Int.emod_nonneg _ (by omega)
    · intro _; rw [Int.tmod_eq_emod_of_nonneg h3]; exact Int.emod_lt_of_pos _ (by omega)
  · rw [if_neg h2]
    obtain ⟨x, i1, h1, e1, hc1, x1, x2⟩ := l1Byte h hc
    obtain ⟨y, i2, h2, e2, hc2, y1, y2⟩ := l1Byte h1 hc1
    obtain ⟨z, i3, h3, e3, hc3, z1, z2⟩ := l1Byte h2 hc2
    obtain ⟨w, i4, h4, e4, hc4, w1, w2⟩ := l1Byte h3 hc3
    simp only [e1, e2, e3, e4, Option.bind_some]
    rw [if_neg (by omega), w64 (x := x * 16777216) (by omega) (by omega), w64 (x := y * 65536) (by omega) (by omega), w64 (x := x * 16777216 + y * 65536) (by omega) (by omega), w64 (x := z * 256) (by omega) (by omega), w64 (x := x * 16777216 + y * 65536 + z * 256) (by omega) (by omega), w64 (x := x * 16777216 + y * 65536 + z * 256 + w) (by omega) (by omega)]
    have h5 : 0 ≤ x * 16777216 + y * 65536 + z * 256 + w := by omega
    refine ⟨_, _, _, rfl, hc4, ?_, ?_, by omega⟩
    · rw [Int.tmod_eq_emod_of_nonneg h5]; exact Int.emod_nonneg _ (by omega)
    · intro _; rw [Int.tmod_eq_emod_of_nonneg h5]; exact Int.emod_lt_of_pos _ (by omega)
theorem l1PickInt {l : List Int} {i : Int} (h : Int) (xs : List Int) (hc : Cur l i) (hx : 0 < xs.length) : ∃ r i' h', spec_l1PickInt.f l i h xs = some (r, i', h') ∧ Cur l i' ∧ r ∈ xs := by
  unfold spec_l1PickInt.f
  obtain ⟨r, i', h', e, hc', h1, h2, _⟩ := l1Below h (xs.length : Int) hc
  rw [e]
  simp only [Option.bind_some]
  have h3 := h2 (by omega)
  rw [if_pos h1, if_pos h3]
  exact ⟨_, _, _, rfl, hc', rd_mem h1 h3⟩
/-- The sum and true; 0 and false where it has no room. -/
def addI (a b : Int) : Int × Bool := if -9223372036854775808 ≤ a + b ∧ a + b ≤ 9223372036854775807 then (a + b, true) else (0, false)
def subI (a b : Int) : Int × Bool := if -9223372036854775808 ≤ a - b ∧ a - b ≤ 9223372036854775807 then (a - b, true) else (0, false)
def I64 (a : Int) : Prop := -9223372036854775808 ≤ a ∧ a ≤ 9223372036854775807
theorem addI_i64 (a b : Int) : I64 (addI a b).1 := by
  unfold addI I64
  split
  · assumption
  · exact ⟨by decide, by decide⟩
theorem subI_i64 (a b : Int) : I64 (subI a b).1 := by
  unfold subI I64
  split
  · assumption
  · exact ⟨by decide, by decide⟩
theorem wrap_over {x : Int} (h1 : 9223372036854775807 < x) (h2 : x < 27670116110564327424) : wrap64 x = x - 18446744073709551616 := by unfold wrap64; omega
theorem wrap_under {x : Int} (h1 : x < -9223372036854775808) (h2 : -27670116110564327424 ≤ x) : wrap64 x = x + 18446744073709551616 := by unfold wrap64; omega
theorem wrap_i64_range (x : Int) : I64 (wrap64 x) := by unfold I64 wrap64; omega
theorem l1Whole_l0 {l : List Int} : ∀ (d n : Nat) (x i h : Int), n + d = 8 → I64 x → Cur l i → ∃ r i' h', Ev (fun k => spec_l1Whole.l0 k x (n : Int) l i h) (r, i', h') ∧ Cur l i' ∧ I64 r := by
  intro d
  induction d with
  | zero =>
    intro n x i h hn hx hc
    refine ⟨x, i, h, ev_end fun k => ?_, hc, hx⟩
    simp only [spec_l1Whole.l0]
    rw [if_neg (by omega)]
  | succ d ih =>
    intro n x i h hn hx hc
    obtain ⟨b, i1, h1, e1, hc1, _⟩ := l1Byte h hc
    obtain ⟨r, i2, h2, e2, hc2, hr⟩ := ih (n + 1) (wrap64 ((wrap64 (x * 256)) + b)) i1 h1 (by omega) (wrap_i64_range _) hc1
    refine ⟨r, i2, h2, Ev.step (fun k => ?_) e2, hc2, hr⟩
    simp only [spec_l1Whole.l0, e1, Option.bind_some]
    rw [if_pos (by omega), w64 (x := (n : Int) + 1) (by omega) (by omega)]
    rfl
theorem l1Whole {l : List Int} {i : Int} (h : Int) (hc : Cur l i) : ∃ r i' h', Ev (fun k => spec_l1Whole.f k l i h) (r, i', h') ∧ Cur l i' ∧ I64 r := by
  unfold spec_l1Whole.f
  obtain ⟨a, i1, h1, e1, hc1, a1, a2, _⟩ := l1Below h 4 hc
  rw [e1]
  simp only [Option.bind_some]
  by_cases c0 : a = 0
  · obtain ⟨r, i2, h2, e2, hc2, hr⟩ := l1PickInt h1 ([0, 1, (-1), 9, 10, 999, 1000, 2147483647, (-2147483648), 3037000499, 3037000500, 9223372036854775807, (-9223372036854775807), (-9223372036854775808)] : List Int) hc1 (by simp)
    refine ⟨r, i2, h2, ev_pos c0 ?_, hc2, ?_⟩
    · rw [e2]; exact Ev.now _
    · simp only [List.mem_cons, List.not_mem_nil, or_false] at hr
      unfold I64; omega
  by_cases c1 : a = 1
  · obtain ⟨r, i2, h2, e2, hc2, hr⟩ := l1Whole_l0 8 0 0 i1 h1 (by omega) ⟨by decide, by decide⟩ hc1
    exact ⟨r, i2, h2, ev_neg c0 (ev_pos c1 e2), hc2, hr⟩
  by_cases c2 : a = 2
  · obtain ⟨r, i2, h2, e2, hc2, _⟩ := l1Below h1 1000000 hc1
    refine ⟨wrap64 (r - 500000), i2, h2, ev_neg c0 (ev_neg c1 (ev_pos c2 ?_)), hc2, wrap_i64_range _⟩
    rw [e2]; exact Ev.now _
  · obtain ⟨r, i2, h2, e2, hc2, _⟩ := l1Below h1 41 hc1
    refine ⟨wrap64 (r - 20), i2, h2, ev_neg c0 (ev_neg c1 (ev_neg c2 ?_)), hc2, wrap_i64_range _⟩
    rw [e2]; exact Ev.now _
theorem l14Bound {l : List Int} {i : Int} (h : Int) (hc : Cur l i) : ∃ a b i' h', Ev (fun k => spec_l14Bound.f k l i h) (a, b, i', h') ∧ Cur l i' ∧ I64 a ∧ I64 b := by
  unfold spec_l14Bound.f
  obtain ⟨a, i1, h1, e1, c1, _⟩ := l1Below h 4 hc
  rw [e1]
  simp only [Option.bind_some]
  by_cases c0 : a = 0
  · refine ⟨-1099511627776, 1099511627776, i1, h1, ev_pos c0 ?_, c1, ⟨by decide, by decide⟩, ⟨by decide, by decide⟩⟩
    exact ev_of rfl
  by_cases c2 : a = 1
  · obtain ⟨x, i2, h2, e2, d2, x1⟩ := l1Whole h1 c1
    obtain ⟨y, i3, h3, e3, d3, y1⟩ := l1Whole h2 d2
    exact ⟨x, y, i3, h3, ev_neg c0 (ev_pos c2 (Ev.bind e2 (Ev.bind e3 (Ev.now _)))), d3, x1, y1⟩
  · obtain ⟨x, i2, h2, e2, d2, x1⟩ := l1Below h1 41 c1
    obtain ⟨y, i3, h3, e3, d3, y1⟩ := l1Below h2 30 d2
    refine ⟨wrap64 (50 * wrap64 (x - 20)), wrap64 (wrap64 (50 * wrap64 (x - 20)) + wrap64 (50 * y)), i3, h3, ev_neg c0 (ev_neg c2 ?_), d3, wrap_i64_range _, wrap_i64_range _⟩
    simp only [e2, e3, Option.bind_some]
    exact Ev.now _
theorem l1Once {l : List Int} {i : Int} (h : Int) (n : Int) (hc : Cur l i) : ∃ r i' h', spec_l1Once.f l i h n = some (r, i', h') ∧ Cur l i' := by
  unfold spec_l1Once.f
  obtain ⟨a, i1, h1, e1, c1, _⟩ := l1Below h n hc
  rw [e1]
  exact ⟨_, _, _, rfl, c1⟩
def brought (x a b : Int) : Int := if x < a then a else if x > b then b else x
theorem specBrought (x a b : Int) : spec_Brought.f x a b = some (brought x a b) := by
  unfold spec_Brought.f brought
  split
  · rfl
  · split <;> rfl
theorem brought_i64 {x a b : Int} (hx : I64 x) (ha : I64 a) (hb : I64 b) : I64 (brought x a b) := by
  unfold brought
  split
  · exact ha
  · split
    · exact hb
    · exact hx
theorem drawSides (l : List Int) (hl : l.length ≤ 35184372088832) : ∃ s a b x y, Ev (fun k => spec_DrawSidesOf.f k l) (s, a, b, x, y) ∧ (s = 1 ∨ s = -1 ∨ s = 0 ∨ s = 2) ∧ I64 x ∧ I64 y := by
  unfold spec_DrawSidesOf.f
  obtain ⟨h, e1⟩ := l1New l hl
  obtain ⟨a, b, i1, h1, e2, c1, ha, hb⟩ := l14Bound h (cur0 l hl)
  obtain ⟨o, i2, h2, e3, c2⟩ := l1Once h1 4 c1
  by_cases ho : o = true
  · obtain ⟨s, i3, h3, e4, c3, hs⟩ := l1PickInt h2 ([1, (-1), 0, 2] : List Int) c2 (by simp)
    obtain ⟨x, i4, h4, e5, c4, hx⟩ := l1Whole h3 c3
    obtain ⟨y, i5, h5, e6, c5, hy⟩ := l1Whole h4 c4
    refine ⟨s, a, b, x, y, Ev.bind e1 (Ev.bind e2 ?_), by simpa using hs, hx, hy⟩
    simp only [e3, Option.bind_some]
    refine ev_pos ho ?_
    simp only [e4, Option.bind_some]
    exact Ev.bind e5 (Ev.bind e6 (Ev.now _))
  · obtain ⟨s, i3, h3, e4, c3, hs⟩ := l1PickInt h2 ([1, (-1), 0, 2] : List Int) c2 (by simp)
    obtain ⟨x, i4, h4, e5, c4, _⟩ := l1Below h3 2001 c3
    obtain ⟨y, i5, h5, e6, c5, _⟩ := l1Below h4 2001 c4
    refine ⟨s, a, b, brought (wrap64 (x - 1000)) a b, brought (wrap64 (y - 1000)) a b, Ev.bind e1 (Ev.bind e2 ?_), by simpa using hs, brought_i64 (wrap_i64_range _) ha hb, brought_i64 (wrap_i64_range _) ha hb⟩
    simp only [e3, Option.bind_some]
    refine ev_neg ho ?_
    simp only [e4, e5, e6, specBrought, Option.bind_some]
    exact Ev.now _
theorem nat_add_bits (a b : Nat) : a + b = 2 * (a &&& b) + (a ^^^ b) := by
  induction a using Nat.strongRecOn generalizing b with
  | ind a ih =>
    by_cases h : a = 0
    · subst h; simp
    · have e := ih (a / 2) (by omega) (b / 2)
      have h1 : (a &&& b) / 2 = a / 2 &&& b / 2 := Nat.and_div_two
      have h2 : (a ^^^ b) / 2 = a / 2 ^^^ b / 2 := Nat.xor_div_two
      have h3 : (a &&& b) % 2 = 1 ↔ a % 2 = 1 ∧ b % 2 = 1 := Nat.and_mod_two_eq_one
      have h4 : (a ^^^ b) % 2 = 1 ↔ ¬ (a % 2 = 1 ↔ b % 2 = 1) := Nat.xor_mod_two_eq_one
      rw [← h1, ← h2] at e
      by_cases p : a % 2 = 1 <;> by_cases q : b % 2 = 1 <;> simp only [p, q, true_iff, iff_true, iff_false, false_iff, not_true, not_false_eq_true, and_self, and_true, true_and, and_false, false_and] at h3 h4 <;> omega
theorem bv_add_bits (x y : BitVec 64) : x.toInt + y.toInt = 2 * (x &&& y).toInt + (x ^^^ y).toInt := by
  have h := nat_add_bits x.toNat y.toNat
  rw [BitVec.toInt_eq_msb_cond, BitVec.toInt_eq_msb_cond, BitVec.toInt_eq_msb_cond, BitVec.toInt_eq_msb_cond, BitVec.msb_and, BitVec.msb_xor, BitVec.toNat_and, BitVec.toNat_xor]
  have e : ((2 ^ 64 : Nat) : Int) = 18446744073709551616 := by decide
  rw [e]
  cases x.msb <;> cases y.msb <;> simp <;> omega
theorem wrap_bv (x : BitVec 64) : IntKind.i64.wrap (x.toNat : Int) = x.toInt := by
  rw [IntKind.wrap_i64, BitVec.toInt_eq_toNat_cond]
  have := x.isLt
  split <;> omega
theorem toInt_of {a : Int} (h : I64 a) : (BitVec.ofInt 64 a).toInt = a := by
  unfold I64 at h
  rw [BitVec.toInt_ofInt, Int.bmod_def]
  omega
theorem and_i64 (a b : Int) : Go.bits .and .i64 a b = (BitVec.ofInt 64 a &&& BitVec.ofInt 64 b).toInt := by
  rw [← wrap_bv]; rfl
theorem xor_i64 (a b : Int) : Go.bits .xor .i64 a b = (BitVec.ofInt 64 a ^^^ BitVec.ofInt 64 b).toInt := by
  rw [← wrap_bv]; rfl
theorem add_bits {a b : Int} (ha : I64 a) (hb : I64 b) : a + b = 2 * Go.bits .and .i64 a b + Go.bits .xor .i64 a b := by
  rw [and_i64, xor_i64, ← bv_add_bits, toInt_of ha, toInt_of hb]
theorem toInt_i64 (x : BitVec 64) : I64 x.toInt := by
  have h1 := BitVec.toInt_lt (x := x)
  have h2 := BitVec.le_toInt (x := x)
  unfold I64
  simp only [Nat.reduceSub, Int.reducePow] at h1 h2
  omega
theorem and_range (a b : Int) : I64 (Go.bits .and .i64 a b) := by rw [and_i64]; exact toInt_i64 _
theorem xor_range (a b : Int) : I64 (Go.bits .xor .i64 a b) := by rw [xor_i64]; exact toInt_i64 _
theorem bv_mod2 (x : BitVec 64) : x.toInt % 2 = ((x.toNat % 2 : Nat) : Int) := by
  rw [BitVec.toInt_eq_toNat_cond]
  split <;> omega
theorem and_mod2 {a b : Int} (ha : I64 a) (hb : I64 b) : Go.bits .and .i64 a b % 2 = if a % 2 = 1 ∧ b % 2 = 1 then 1 else 0 := by
  have e1 := bv_mod2 (BitVec.ofInt 64 a)
  have e2 := bv_mod2 (BitVec.ofInt 64 b)
  rw [toInt_of ha] at e1
  rw [toInt_of hb] at e2
  rw [and_i64, bv_mod2, BitVec.toNat_and]
  have h3 : ((BitVec.ofInt 64 a).toNat &&& (BitVec.ofInt 64 b).toNat) % 2 = 1 ↔ (BitVec.ofInt 64 a).toNat % 2 = 1 ∧ (BitVec.ofInt 64 b).toNat % 2 = 1 := Nat.and_mod_two_eq_one
  split
  · rename_i h
    have := h3.2 ⟨by omega, by omega⟩
    omega
  · rename_i h
    have h5 : ¬ ((BitVec.ofInt 64 a).toNat % 2 = 1 ∧ (BitVec.ofInt 64 b).toNat % 2 = 1) := fun z => h ⟨by omega, by omega⟩
    rw [← h3] at h5
    omega
theorem and_one {a : Int} (ha : I64 a) : Go.bits .and .i64 a 1 = a % 2 := by
  have h1 := and_mod2 ha (b := 1) ⟨by decide, by decide⟩
  have h2 := add_bits ha (b := 1) ⟨by decide, by decide⟩
  have e : Go.bits .and .i64 a 1 = 0 ∨ Go.bits .and .i64 a 1 = 1 := by
    rw [and_i64]
    have h : (BitVec.ofInt 64 a &&& BitVec.ofInt 64 1).toNat ≤ 1 := by
      rw [BitVec.toNat_and]
      exact Nat.le_trans Nat.and_le_right (by decide)
    rw [BitVec.toInt_eq_toNat_cond]
    split <;> omega
  split at h1 <;> omega
/-- Half of a sum, rounded down. -/
def half (a b : Int) : Int := (a + b) / 2
theorem half_i64 {a b : Int} (ha : I64 a) (hb : I64 b) : I64 (half a b) := by unfold I64 half at *; omega
def BndOk (a b : Int) : Prop := a ≤ b ∧ (-1099511627776 ≤ a ∧ a ≤ 1099511627776) ∧ (-1099511627776 ≤ b ∧ b ≤ 1099511627776)
open Classical in
/-- The bounds of both sides. -/
noncomputable def sides (s a b x y : Int) : Int × Int × Int × Int :=
  if BndOk a b ∧ s = 1 then (a, brought (half x y) a b, brought (half x y) a b, b) else if BndOk a b ∧ s = -1 then (brought (half x y) a b, b, a, brought (half x y) a b) else (a, b, a, b)
theorem implHalf {a b : Int} (ha : I64 a) (hb : I64 b) : impl_HalfSum.f a b = some (half a b) := by
  unfold impl_HalfSum.f half
  rw [and_one (and_range a b), and_mod2 ha hb]
  unfold I64 at ha hb
  rw [w64 (x := a / 2 + b / 2) (by omega) (by omega)]
  congr 1
  split
  · rw [w64 (by omega) (by omega)]; omega
  · rw [w64 (by omega) (by omega)]; omega
theorem implBrought (x a b : Int) : impl_Brought.f x a b = some (brought x a b) := by
  unfold impl_Brought.f brought
  split
  · rfl
  · split <;> rfl
theorem implWithin (a b c : Int) : impl_within.f a b c = some (decide (b ≤ a ∧ a ≤ c)) := by
  unfold impl_within.f
  by_cases h : b ≤ a
  · rw [if_pos h]; simp [h]
  · rw [if_neg h]; simp [h]
theorem implBoundOk (a b : Int) : impl_BoundOk.f a b = some (dec (BndOk a b)) := by
  unfold impl_BoundOk.f impl_isLeafValue.f
  simp only [implWithin, Option.bind_some]
  by_cases h1 : a ≤ b
  · rw [if_pos h1]
    by_cases h2 : -1099511627776 ≤ a ∧ a ≤ 1099511627776
    · rw [if_pos (by simpa using h2), ← dec_eq]
      congr 1
      exact dec_congr ⟨fun g => ⟨h1, h2, g⟩, fun g => g.2.2⟩
    · rw [if_neg (by simpa using h2), dec_false]
      exact fun g => h2 g.2.1
  · rw [if_neg h1, dec_false]
    exact fun g => h1 g.1
theorem implSides (s a b : Int) {x y : Int} (hx : I64 x) (hy : I64 y) : impl_SidesOf.f s a b x y = some (sides s a b x y) := by
  unfold impl_SidesOf.f sides
  simp only [implHalf hx hy, implBrought, implBoundOk, Option.bind_some]
  by_cases h : BndOk a b
  · rw [dec_true h]
    by_cases h1 : s = 1
    · simp [h, h1]
    · by_cases h2 : s = -1
      · simp [h, h2]
      · simp [h, h1, h2]
  · rw [dec_false h]
    simp [h]
theorem specHalf {a b : Int} (ha : I64 a) (hb : I64 b) : spec_HalfSum.f a b = some (half a b) := by
  unfold spec_HalfSum.f half
  have h := add_bits ha hb
  unfold I64 at ha hb
  rw [w64 (by omega) (by omega)]
  congr 1
  omega
theorem specIn (a b c : Int) : spec_l1In.f a b c = some (decide (b ≤ a ∧ a ≤ c)) := by
  unfold spec_l1In.f
  by_cases h : b ≤ a
  · rw [if_pos h]; simp [h]
  · rw [if_neg h]; simp [h]
theorem specBoundOk (a b : Int) : spec_BoundOk.f a b = some (dec (BndOk a b)) := by
  unfold spec_BoundOk.f spec_l14Leaf.f
  simp only [specIn, Option.bind_some]
  by_cases h1 : a ≤ b
  · rw [if_pos h1]
    by_cases h2 : -1099511627776 ≤ a ∧ a ≤ 1099511627776
    · rw [if_pos (by simpa using h2), ← dec_eq]
      congr 1
      exact dec_congr ⟨fun g => ⟨h1, h2, g⟩, fun g => g.2.2⟩
    · rw [if_neg (by simpa using h2), dec_false]
      exact fun g => h2 g.2.1
  · rw [if_neg h1, dec_false]
    exact fun g => h1 g.1
theorem specSides (s a b : Int) {x y : Int} (hx : I64 x) (hy : I64 y) : spec_SidesOf.f s a b x y = some (sides s a b x y) := by
  unfold spec_SidesOf.f sides
  simp only [specHalf hx hy, specBrought, specBoundOk, Option.bind_some]
  by_cases h : BndOk a b
  · rw [dec_true h]
    by_cases h1 : s = 1
    · simp [h, h1]
    · by_cases h2 : s = -1
      · simp [h, h2]
      · simp [h, h1, h2]
  · rw [dec_false h]
    simp [h]

theorem brought_in {a b : Int} (h : a ≤ b) (x : Int) : a ≤ brought x a b ∧ brought x a b ≤ b := by
  unfold brought
  split
  · omega
  · split <;> omega
theorem sides_j0 (s a b x y : Int) : Ev (fun k => laws_FnSides.j0 k s false a b (sides s a b x y).1 (sides s a b x y).2.1 (sides s a b x y).2.2.1 (sides s a b x y).2.2.2) true := by
  refine ev_succ ?_
  simp only [laws_FnSides.j0, specBoundOk, implBoundOk, Option.bind_some]
  refine ev_neg (by simp) ?_
  by_cases g : BndOk a b
  · refine ev_pos (dec_true g) ?_
    obtain ⟨g1, g2, g3⟩ := g
    have hm := brought_in g1 (half x y)
    by_cases h1 : s = 1
    · have e : sides s a b x y = (a, brought (half x y) a b, brought (half x y) a b, b) := by
        unfold sides; rw [if_pos ⟨⟨g1, g2, g3⟩, h1⟩]
      rw [e]
      simp only
      refine ev_pos (dec_true ⟨by omega, by omega, by omega⟩) (ev_pos (dec_true ⟨by omega, by omega, by omega⟩) (ev_neg (by omega) (ev_neg (by omega) (ev_neg (by omega) (ev_neg (by omega) ?_)))))
      exact ev_pos h1 (ev_pos (by omega) (ev_neg (by omega) (Ev.now _)))
    · by_cases h2 : s = -1
      · have e : sides s a b x y = (brought (half x y) a b, b, a, brought (half x y) a b) := by
          unfold sides; rw [if_neg (fun z => h1 z.2), if_pos ⟨⟨g1, g2, g3⟩, h2⟩]
        rw [e]
        simp only
        refine ev_pos (dec_true ⟨by omega, by omega, by omega⟩) (ev_pos (dec_true ⟨by omega, by omega, by omega⟩) (ev_neg (by omega) (ev_neg (by omega) (ev_neg (by omega) (ev_neg (by omega) ?_)))))
        exact ev_neg h1 (ev_pos h2 (ev_pos (by omega) (Ev.now _)))
      · have e : sides s a b x y = (a, b, a, b) := by
          unfold sides; rw [if_neg (fun z => h1 z.2), if_neg (fun z => h2 z.2)]
        rw [e]
        simp only
        refine ev_pos (dec_true ⟨by omega, by omega, by omega⟩) (ev_pos (dec_true ⟨by omega, by omega, by omega⟩) (ev_neg (by omega) (ev_neg (by omega) (ev_neg (by omega) (ev_neg (by omega) ?_)))))
        exact ev_neg h1 (ev_neg h2 (ev_pos (by simp) (ev_of (by simp))))
  · have e : sides s a b x y = (a, b, a, b) := by
      unfold sides; rw [if_neg (fun z => g z.1), if_neg (fun z => g z.1)]
    rw [e]
    simp only
    exact ev_neg (by rw [dec_false g]; decide) (ev_pos (by simp) (ev_pos (by simp) (ev_of (by rw [dec_false g]; rfl))))
theorem FnSides : laws_FnSides.Pure := by
  intro l hm hl hw
  refine Ev.rounds ?_
  unfold laws_FnSides.f
  rw [lawsBig]
  simp only [Option.bind_some]
  by_cases hb : (l.length : Int) > 1048576
  · exact ev_pos (by simpa using hb) (Ev.now _)
  refine ev_neg (by simpa using hb) ?_
  obtain ⟨s, a, b, x, y, e, hs, hx, hy⟩ := drawSides l (by omega)
  refine Ev.bind e ?_
  simp only [implSides s a b hx hy, specSides s a b hx hy, Option.bind_some]
  refine ev_neg (by simp) ?_
  have e1 : (!((sides s a b x y).2.2.1 == (sides s a b x y).2.2.1) || !((sides s a b x y).2.2.2 == (sides s a b x y).2.2.2)) = false := by simp
  rw [e1]
  exact sides_j0 s a b x y

end Go.Proofs.Ytohngimlmcdiiaa.Pure
