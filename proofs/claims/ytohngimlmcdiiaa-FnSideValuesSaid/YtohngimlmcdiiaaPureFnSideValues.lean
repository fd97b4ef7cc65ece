/- both sides' values are as the reference's, and lie within the bound. Conditions: none but the row's own.
-/
import Derived.Test.YtohngimlmcdiiaaQFnSideValuesx6
set_option linter.unusedVariables false
set_option linter.unusedSimpArgs false
namespace Go.Proofs.Ytohngimlmcdiiaa.Pure
open Go.RowKit Go.Proofs.Ytohngimlmcdiiaa.QFnSideValues Go.Proofs.YtohngimlmcdiiaaW.PrintWords Go.Proofs.YtohngimlmcdiiaaW.PrintLast Go.Proofs.YtohngimlmcdiiaaW.PrintMore

theorem w64 {x : Int} (h1 : -9223372036854775808 ≤ x) (h2 : x ≤ 9223372036854775807) : wrap64 x = x := by unfold wrap64; omega
theorem i64_wf {x : Int} (h : (Lit.int .i64 x).wf = true) : -9223372036854775808 ≤ x ∧ x ≤ 9223372036854775807 := by
  simpa [Lit.wf, IntKind.min, IntKind.max, IntKind.signed, IntKind.bits] using h
theorem u8_wf {x : Int} (h : (Lit.int .u8 x).wf = true) : 0 ≤ x ∧ x ≤ 255 := by
  simpa [Lit.wf, IntKind.min, IntKind.max, IntKind.signed, IntKind.bits] using h
theorem rd_eq {xs : List Int} {i : Int} (h0 : 0 ≤ i) (h : i < (xs.length : Int)) : xs[i.toNat]? = some (rd xs i) := by
  unfold rd
  rw [List.getD_eq_getElem?_getD, List.getElem?_eq_getElem (by omega)]
  rfl
theorem rd_mem {xs : List Int} {i : Int} (h0 : 0 ≤ i) (h : i < (xs.length : Int)) : rd xs i ∈ xs := List.mem_of_getElem? (rd_eq h0 h)
theorem rd_of {xs : List Int} {n : Nat} {v : Int} (h : xs[n]? = some v) : rd xs (n : Int) = v := by
  unfold rd
  rw [List.getD_eq_getElem?_getD, Int.toNat_natCast, h]
  rfl
theorem ev_of {α : Type} {r : α} {p : Option α} (h : p = some r) : Ev (fun _ => p) r := ⟨0, fun _ _ => h⟩
theorem ev_end {α : Type} {g : Nat → Option α} {r : α} (h : ∀ k, g (k + 1) = some r) : Ev g r := Ev.step (f := fun _ => some r) h (Ev.now r)
theorem ev_pos {α : Type} {c : Prop} [Decidable c] {f g : Nat → Option α} {r : α} (hc : c) (h : Ev f r) : Ev (fun k => if c then f k else g k) r := Ev.congr (fun _ => if_pos hc) h
theorem ev_neg {α : Type} {c : Prop} [Decidable c] {f g : Nat → Option α} {r : α} (hc : ¬ c) (h : Ev g r) : Ev (fun k => if c then f k else g k) r := Ev.congr (fun _ => if_neg hc) h
theorem rd_drop {xs : List Int} {n : Nat} (h : n < xs.length) : xs.drop n = rd xs (n : Int) :: xs.drop (n + 1) := by
  rw [List.drop_eq_getElem_cons h]
  congr 1
  unfold rd
  rw [List.getD_eq_getElem?_getD, Int.toNat_natCast, List.getElem?_eq_getElem h]
  rfl
noncomputable def dec (p : Prop) : Bool := @decide p (Classical.propDecidable p)
theorem dec_true {p : Prop} (h : p) : dec p = true := @decide_eq_true p (Classical.propDecidable p) h
theorem dec_false {p : Prop} (h : ¬ p) : dec p = false := @decide_eq_false p (Classical.propDecidable p) h
theorem dec_iff {p : Prop} : dec p = true ↔ p := @decide_eq_true_iff p (Classical.propDecidable p)
theorem dec_congr {p q : Prop} (h : p ↔ q) : dec p = dec q := by rw [propext h]
theorem dec_eq {p : Prop} [Decidable p] : dec p = decide p := by
  by_cases h : p
  · rw [dec_true h, decide_eq_true h]
  · rw [dec_false h, decide_eq_false h]
theorem ev_succ {α : Type} {g : Nat → Option α} {r : α} (h : Ev (fun k => g (k + 1)) r) : Ev g r := by
  obtain ⟨K, h⟩ := h
  refine ⟨K + 1, fun n hn => ?_⟩
  obtain ⟨m, rfl⟩ : ∃ m, n = m + 1 := ⟨n - 1, by omega⟩
  exact h m (by omega)
theorem ev_eq {α : Type} {g : Nat → Option α} {r r' : α} (h : Ev g r) (e : r = r') : Ev g r' := e ▸ h
theorem gd_eq {α : Type} (z : α) {xs : List α} {i : Int} (h0 : 0 ≤ i) (h : i < (xs.length : Int)) : xs[i.toNat]? = some (xs.getD i.toNat z) := by
  rw [List.getD_eq_getElem?_getD, List.getElem?_eq_getElem (by omega)]
  rfl
theorem gd_nat {α : Type} (z : α) {xs : List α} {n : Nat} {v : α} (h : xs[n]? = some v) : xs.getD ((n : Int)).toNat z = v := by
  rw [List.getD_eq_getElem?_getD, Int.toNat_natCast, h]
  rfl
theorem gd_drop {α : Type} (z : α) {xs : List α} {n : Nat} (h : n < xs.length) : xs.drop n = xs.getD ((n : Int)).toNat z :: xs.drop (n + 1) := by
  rw [List.drop_eq_getElem_cons h]
  congr 1
  exact (gd_nat z (List.getElem?_eq_getElem h)).symm
/-- A loop that copies: place after place is set. -/
theorem copy_loop {α β : Type} (F : Nat → List β → Int → Option (List β)) (l : List α) (g : α → β)
    (hend : ∀ acc : List β, acc.length = l.length → Ev (fun k => F k acc (l.length : Int)) acc)
    (hstep : ∀ (acc : List β) (n : Nat) (x : α) (r : List β), n < l.length → acc.length = l.length → l[n]? = some x → Ev (fun k => F k (acc.set n (g x)) ((n + 1 : Nat) : Int)) r → Ev (fun k => F k acc (n : Int)) r) :
    ∀ (d n : Nat) (acc : List β), n + d = l.length → acc.length = l.length → (∀ j, j < n → acc[j]? = (l.map g)[j]?) → Ev (fun k => F k acc (n : Int)) (l.map g) := by
  intro d
  induction d with
  | zero =>
    intro n acc hn ha hp
    obtain rfl : n = l.length := by omega
    refine ev_eq (hend acc ha) (List.ext_getElem? fun j => ?_)
    by_cases h : j < l.length
    · exact hp j h
    · rw [List.getElem?_eq_none (by omega), List.getElem?_eq_none (by simp; omega)]
  | succ d ih =>
    intro n acc hn ha hp
    have hx : l[n]? = some l[n] := List.getElem?_eq_getElem (by omega)
    refine hstep acc n l[n] _ (by omega) ha hx (ih (n + 1) _ (by omega) (by simpa using ha) ?_)
    intro j hj
    rw [List.getElem?_set]
    by_cases h : n = j
    · subst h
      rw [if_pos rfl, if_pos (by omega), List.getElem?_map, hx]
      rfl
    · rw [if_neg h]
      exact hp j (by omega)
/-- A loop that tests place after place. -/
theorem all_loop (F : Nat → Int → Option Bool) (L : Nat) (p : Nat → Prop) (hend : Ev (fun k => F k (L : Int)) true)
    (hyes : ∀ (n : Nat) (r : Bool), n < L → p n → Ev (fun k => F k ((n + 1 : Nat) : Int)) r → Ev (fun k => F k (n : Int)) r)
    (hno : ∀ n : Nat, n < L → ¬ p n → Ev (fun k => F k (n : Int)) false) :
    ∀ (d n : Nat), n + d = L → Ev (fun k => F k (n : Int)) (dec (∀ j, n ≤ j → j < L → p j)) := by
  intro d
  induction d with
  | zero =>
    intro n hn
    obtain rfl : n = L := by omega
    exact ev_eq hend (dec_true (fun j h1 h2 => by omega)).symm
  | succ d ih =>
    intro n hn
    by_cases h : p n
    · refine hyes n _ (by omega) h (ev_eq (ih (n + 1) (by omega)) (dec_congr ⟨fun g j h1 h2 => ?_, fun g j h1 h2 => g j (by omega) h2⟩))
      by_cases e : j = n
      · exact e ▸ h
      · exact g j (by omega) h2
    · exact ev_eq (hno n (by omega) h) (dec_false (fun g => h (g n (Nat.le_refl _) (by omega)))).symm
/-- A loop that goes round L times over a state. -/
theorem fold_loop {σ ρ : Type} (F : Nat → σ → Int → Option ρ) (L : Nat) (S : Nat → σ) (r : ρ) (hend : Ev (fun k => F k (S L) (L : Int)) r)
    (hstep : ∀ n : Nat, n < L → Ev (fun k => F k (S (n + 1)) ((n + 1 : Nat) : Int)) r → Ev (fun k => F k (S n) (n : Int)) r) :
    ∀ (d n : Nat), n + d = L → Ev (fun k => F k (S n) (n : Int)) r := by
  intro d
  induction d with
  | zero =>
    intro n hn
    obtain rfl : n = L := by omega
    exact hend
  | succ d ih =>
    intro n hn
    exact hstep n (by omega) (ih (n + 1) (by omega))
theorem set_mid {α : Type} (a b : List α) (x v : α) {n : Nat} (h : a.length = n) : (a ++ x :: b).set n v = a ++ v :: b := by
  subst h
  rw [List.set_append_right _ _ (Nat.le_refl _), Nat.sub_self]
  rfl
theorem get_mid {α : Type} (a b : List α) (x : α) {n : Nat} (h : a.length = n) : (a ++ x :: b)[n]? = some x := by
  subst h
  rw [List.getElem?_append_right (Nat.le_refl _), Nat.sub_self]
  rfl
/-- A loop that tests place after place, and one thing more at its end. -/
theorem all_loop2 (F : Nat → Int → Option Bool) (L : Nat) (p : Nat → Prop) (E : Prop) (hend : Ev (fun k => F k (L : Int)) (dec E))
    (hyes : ∀ (n : Nat) (r : Bool), n < L → p n → Ev (fun k => F k ((n + 1 : Nat) : Int)) r → Ev (fun k => F k (n : Int)) r)
    (hno : ∀ n : Nat, n < L → ¬ p n → Ev (fun k => F k (n : Int)) false) :
    ∀ (d n : Nat), n + d = L → Ev (fun k => F k (n : Int)) (dec ((∀ j, n ≤ j → j < L → p j) ∧ E)) := by
  intro d
  induction d with
  | zero =>
    intro n hn
    obtain rfl : n = L := by omega
    exact ev_eq hend (dec_congr ⟨fun h => ⟨fun j h1 h2 => by omega, h⟩, fun h => h.2⟩)
  | succ d ih =>
    intro n hn
    by_cases h : p n
    · refine hyes n _ (by omega) h (ev_eq (ih (n + 1) (by omega)) (dec_congr ⟨fun g => ⟨fun j h1 h2 => ?_, g.2⟩, fun g => ⟨fun j h1 h2 => g.1 j (by omega) h2, g.2⟩⟩))
      by_cases e : j = n
      · exact e ▸ h
      · exact g.1 j (by omega) h2
    · exact ev_eq (hno n (by omega) h) (dec_false (fun g => h (g.1 n (Nat.le_refl _) (by omega)))).symm
theorem lawsBig (l : List Int) : laws_big.f l = some (decide ((l.length : Int) > 1048576)) := rfl
theorem and255 (x : Int) : 0 ≤ Go.bits .and .i64 x 255 ∧ Go.bits .and .i64 x 255 ≤ 255 := by
  simp only [Go.bits]
  have h : (BitVec.ofInt IntKind.i64.bits x &&& BitVec.ofInt IntKind.i64.bits 255).toNat ≤ 255 := by
    rw [BitVec.toNat_and]
    exact Nat.le_trans Nat.and_le_right (by decide)
  rw [IntKind.wrap_i64]
  omega
theorem l1New_l0 (l : List Int) (hl : l.length ≤ 35184372088832) : ∀ (d n : Nat) (x : Int), n + d = l.length → ∃ h, Ev (fun k => spec_l1New.l0 k l x (n : Int)) (l, 0, h) := by
  intro d
  induction d with
  | zero =>
    intro n x hn
    refine ⟨x, ev_end fun k => ?_⟩
    simp only [spec_l1New.l0]
    rw [if_neg (by omega)]
  | succ d ih =>
    intro n x hn
    by_cases h4 : (n : Int) < 4000
    · obtain ⟨h, e⟩ := ih (n + 1) (Go.bits .and .i64 (wrap64 ((wrap64 ((wrap64 (x * 131)) + (wrap64 (rd l n)))) + 7)) 1073741823) (by omega)
      refine ⟨h, Ev.step (fun k => ?_) e⟩
      simp only [spec_l1New.l0]
      rw [if_pos (by omega), if_pos h4, if_pos (by omega), w64 (x := (n : Int) + 1) (by omega) (by omega)]
      rfl
    · refine ⟨x, ev_end fun k => ?_⟩
      simp only [spec_l1New.l0]
      rw [if_pos (by omega), if_neg h4]
theorem l1New (l : List Int) (hl : l.length ≤ 35184372088832) : ∃ h, Ev (fun k => spec_l1New.f k l) (l, 0, h) := l1New_l0 l hl l.length 0 _ (by omega)
/-- A cursor's place is within its bytes. -/
def Cur (l : List Int) (i : Int) : Prop := 0 ≤ i ∧ i ≤ l.length ∧ l.length ≤ 35184372088832
theorem cur0 (l : List Int) (hl : l.length ≤ 35184372088832) : Cur l 0 := ⟨by omega, by omega, hl⟩
theorem l1Byte {l : List Int} {i : Int} (h : Int) (hc : Cur l i) : ∃ r i' h', spec_l1Byte.f l i h = some (r, i', h') ∧ Cur l i' ∧ 0 ≤ r ∧ r ≤ 255 := by
  unfold Cur at *
  unfold spec_l1Byte.f
  by_cases h1 : i < (l.length : Int)
  · rw [if_pos h1, if_pos hc.1, w64 (x := i + 1) (by omega) (by omega)]
    exact ⟨_, _, _, rfl, by omega, and255 _⟩
  · rw [if_neg h1]
    exact ⟨_, _, _, rfl, by omega, and255 _⟩
theorem l1Below {l : List Int} {i : Int} (h : Int) (n : Int) (hc : Cur l i) : ∃ r i' h', spec_l1Below.f l i h n = some (r, i', h') ∧ Cur l i' ∧ 0 ≤ r ∧ (0 < n → r < n) ∧ (n ≤ 0 → r = 0) := by
  unfold spec_l1Below.f
  by_cases h1 : n ≤ 0
  · rw [if_pos h1]
    exact ⟨0, _, _, rfl, hc, by omega, by omega, fun _ => rfl⟩
  rw [if_neg h1]
  by_cases h2 : n ≤ 256
  · rw [if_pos h2]
    obtain ⟨r, i', h', e, hc', h3, h4⟩ := l1Byte h hc
    rw [e]
    simp only [Option.bind_some]
    rw [if_neg (by omega)]
    refine ⟨_, _, _, rfl, hc', ?_, ?_, by omega⟩
    · rw [Int.tmod_eq_emod_of_nonneg h3]; exact Int.emod_nonneg _ (by omega)
    · intro _; rw [Int.tmod_eq_emod_of_nonneg h3]; exact Int.emod_lt_of_pos _ (by omega)
  · rw [if_neg h2]
    obtain ⟨x, i1, h1, e1, hc1, x1, x2⟩ := l1Byte h hc
    obtain ⟨y, i2, h2, e2, hc2, y1, y2⟩ := l1Byte h1 hc1
    obtain ⟨z, i3, h3, e3, hc3, z1, z2⟩ := l1Byte h2 hc2
    obtain ⟨w, i4, h4, e4, hc4, w1, w2⟩ := l1Byte h3 hc3
    simp only [e1, e2, e3, e4, Option.bind_some]
    rw [if_neg (by omega), w64 (x := x * 16777216) (by omega) (by omega), w64 (x := y * 65536) (by omega) (by omega), w64 (x := x * 16777216 + y * 65536) (by omega) (by omega), w64 (x := z * 256) (by omega) (by omega), w64 (x := x * 16777216 + y * 65536 + z * 256) (by omega) (by omega), w64 (x := x * 16777216 + y * 65536 + z * 256 + w) (by omega) (by omega)]
    have h5 : 0 ≤ x * 16777216 + y * 65536 + z * 256 + w := by omega
    refine ⟨_, _, _, rfl, hc4, ?_, ?_, by omega⟩
    · rw [Int.tmod_eq_emod_of_nonneg h5]; exact Int.emod_nonneg _ (by omega)
    · intro _; rw [Int.tmod_eq_emod_of_nonneg h5]; exact Int.emod_lt_of_pos _ (by omega)
theorem l1Once {l : List Int} {i : Int} (h : Int) (n : Int) (hc : Cur l i) : ∃ r i' h', spec_l1Once.f l i h n = some (r, i', h') ∧ Cur l i' := by
  unfold spec_l1Once.f
  obtain ⟨a, i1, h1, e1, c1, _⟩ := l1Below h n hc
  rw [e1]
  exact ⟨_, _, _, rfl, c1⟩
theorem l1PickInt {l : List Int} {i : Int} (h : Int) (xs : List Int) (hc : Cur l i) (hx : 0 < xs.length) : ∃ r i' h', spec_l1PickInt.f l i h xs = some (r, i', h') ∧ Cur l i' ∧ r ∈ xs := by
  unfold spec_l1PickInt.f
  obtain ⟨r, i', h', e, hc', h1, h2, _⟩ := l1Below h (xs.length : Int) hc
  rw [e]
  simp only [Option.bind_some]
  have h3 := h2 (by omega)
  rw [if_pos h1, if_pos h3]
  exact ⟨_, _, _, rfl, hc', rd_mem h1 h3⟩
/-- The sum and true; 0 and false where it has no room. -/
def addI (a b : Int) : Int × Bool := if -9223372036854775808 ≤ a + b ∧ a + b ≤ 9223372036854775807 then (a + b, true) else (0, false)
def subI (a b : Int) : Int × Bool := if -9223372036854775808 ≤ a - b ∧ a - b ≤ 9223372036854775807 then (a - b, true) else (0, false)
def I64 (a : Int) : Prop := -9223372036854775808 ≤ a ∧ a ≤ 9223372036854775807
theorem addI_i64 (a b : Int) : I64 (addI a b).1 := by
  unfold addI I64
  split
  · assumption
  · exact ⟨by decide, by decide⟩
theorem subI_i64 (a b : Int) : I64 (subI a b).1 := by
  unfold subI I64
  split
  · assumption
  · exact ⟨by decide, by decide⟩
theorem wrap_over {x : Int} (h1 : 9223372036854775807 < x) (h2 : x < 27670116110564327424) : wrap64 x = x - 18446744073709551616 := by unfold wrap64; omega
theorem wrap_under {x : Int} (h1 : x < -9223372036854775808) (h2 : -27670116110564327424 ≤ x) : wrap64 x = x + 18446744073709551616 := by unfold wrap64; omega
theorem wrap_i64_range (x : Int) : I64 (wrap64 x) := by unfold I64 wrap64; omega
theorem l1Whole_l0 {l : List Int} : ∀ (d n : Nat) (x i h : Int), n + d = 8 → I64 x → Cur l i → ∃ r i' h', Ev (fun k => spec_l1Whole.l0 k x (n : Int) l i h) (r, i', h') ∧ Cur l i' ∧ I64 r := by
  intro d
  induction d with
  | zero =>
    intro n x i h hn hx hc
    refine ⟨x, i, h, ev_end fun k => ?_, hc, hx⟩
    simp only [spec_l1Whole.l0]
    rw [if_neg (by omega)]
  | succ d ih =>
    intro n x i h hn hx hc
    obtain ⟨b, i1, h1, e1, hc1, _⟩ := l1Byte h hc
    obtain ⟨r, i2, h2, e2, hc2, hr⟩ := ih (n + 1) (wrap64 ((wrap64 (x * 256)) + b)) i1 h1 (by omega) (wrap_i64_range _) hc1
    refine ⟨r, i2, h2, Ev.step (fun k => ?_) e2, hc2, hr⟩
    simp only [spec_l1Whole.l0, e1, Option.bind_some]
    rw [if_pos (by omega), w64 (x := (n : Int) + 1) (by omega) (by omega)]
    rfl
theorem l1Whole {l : List Int} {i : Int} (h : Int) (hc : Cur l i) : ∃ r i' h', Ev (fun k => spec_l1Whole.f k l i h) (r, i', h') ∧ Cur l i' ∧ I64 r := by
  unfold spec_l1Whole.f
  obtain ⟨a, i1, h1, e1, hc1, a1, a2, _⟩ := l1Below h 4 hc
  rw [e1]
  simp only [Option.bind_some]
  by_cases c0 : a = 0
  · obtain ⟨r, i2, h2, e2, hc2, hr⟩ := l1PickInt h1 ([0, 1, (-1), 9, 10, 999, 1000, 2147483647, (-2147483648), 3037000499, 3037000500, 9223372036854775807, (-9223372036854775807), (-9223372036854775808)] : List Int) hc1 (by simp)
    refine ⟨r, i2, h2, ev_pos c0 ?_, hc2, ?_⟩
    · rw [e2]; exact Ev.now _
    · simp only [List.mem_cons, List.not_mem_nil, or_false] at hr
      unfold I64; omega
  by_cases c1 : a = 1
  · obtain ⟨r, i2, h2, e2, hc2, hr⟩ := l1Whole_l0 8 0 0 i1 h1 (by omega) ⟨by decide, by decide⟩ hc1
    exact ⟨r, i2, h2, ev_neg c0 (ev_pos c1 e2), hc2, hr⟩
  by_cases c2 : a = 2
  · obtain ⟨r, i2, h2, e2, hc2, _⟩ := l1Below h1 1000000 hc1
    refine ⟨wrap64 (r - 500000), i2, h2, ev_neg c0 (ev_neg c1 (ev_pos c2 ?_)), hc2, wrap_i64_range _⟩
    rw [e2]; exact Ev.now _
  · obtain ⟨r, i2, h2, e2, hc2, _⟩ := l1Below h1 41 hc1
    refine ⟨wrap64 (r - 20), i2, h2, ev_neg c0 (ev_neg c1 (ev_neg c2 ?_)), hc2, wrap_i64_range _⟩
    rw [e2]; exact Ev.now _
theorem l14Bound {l : List Int} {i : Int} (h : Int) (hc : Cur l i) : ∃ a b i' h', Ev (fun k => spec_l14Bound.f k l i h) (a, b, i', h') ∧ Cur l i' ∧ I64 a ∧ I64 b := by
  unfold spec_l14Bound.f
  obtain ⟨a, i1, h1, e1, c1, _⟩ := l1Below h 4 hc
  rw [e1]
  simp only [Option.bind_some]
  by_cases c0 : a = 0
  · refine ⟨-1099511627776, 1099511627776, i1, h1, ev_pos c0 ?_, c1, ⟨by decide, by decide⟩, ⟨by decide, by decide⟩⟩
    exact ev_of rfl
  by_cases c2 : a = 1
  · obtain ⟨x, i2, h2, e2, d2, x1⟩ := l1Whole h1 c1
    obtain ⟨y, i3, h3, e3, d3, y1⟩ := l1Whole h2 d2
    exact ⟨x, y, i3, h3, ev_neg c0 (ev_pos c2 (Ev.bind e2 (Ev.bind e3 (Ev.now _)))), d3, x1, y1⟩
  · obtain ⟨x, i2, h2, e2, d2, x1⟩ := l1Below h1 41 c1
    obtain ⟨y, i3, h3, e3, d3, y1⟩ := l1Below h2 30 d2
    refine ⟨wrap64 (50 * wrap64 (x - 20)), wrap64 (wrap64 (50 * wrap64 (x - 20)) + wrap64 (50 * y)), i3, h3, ev_neg c0 (ev_neg c2 ?_), d3, wrap_i64_range _, wrap_i64_range _⟩
    simp only [e2, e3, Option.bind_some]
    exact Ev.now _
theorem l14Slot {l : List Int} {i : Int} (h : Int) (hc : Cur l i) : ∃ n g i' h', Ev (fun k => spec_l14Slot.f k l i h) (n, g, i', h') ∧ Cur l i' ∧ I64 n ∧ I64 g := by
  unfold spec_l14Slot.f
  obtain ⟨o, i1, h1, e1, c1⟩ := l1Once h 10 hc
  rw [e1]
  simp only [Option.bind_some]
  by_cases ho : o = true
  · obtain ⟨s, i2, h2, e2, c2, hs⟩ := l1PickInt h1 ([0, 40, 41, (-1), 9223372036854775807] : List Int) c1 (by simp)
    obtain ⟨x, i3, h3, e3, c3, hx⟩ := l1Whole h2 c2
    refine ⟨s, x, i3, h3, ev_pos ho ?_, c3, ?_, hx⟩
    · simp only [e2, Option.bind_some]
      exact Ev.bind e3 (Ev.now _)
    · simp only [List.mem_cons, List.not_mem_nil, or_false] at hs
      unfold I64
      omega
  · obtain ⟨x, i2, h2, e2, c2, x0, x1, _⟩ := l1Below h1 12 c1
    obtain ⟨y, i3, h3, e3, c3, _⟩ := l1Below h2 8001 c2
    refine ⟨x, wrap64 (y - 4000), i3, h3, ev_neg ho ?_, c3, ?_, wrap_i64_range _⟩
    · simp only [e2, e3, Option.bind_some]
      exact Ev.now _
    · have := x1 (by decide)
      unfold I64
      omega
theorem l15Cand {l : List Int} {i : Int} (h : Int) (hc : Cur l i) : ∃ a b c d e f i' h', Ev (fun k => spec_l15Cand.f k l i h) (a, b, c, d, e, f, i', h') ∧ Cur l i' ∧ I64 c ∧ I64 d ∧ I64 e ∧ I64 f := by
  unfold spec_l15Cand.f
  obtain ⟨x1, i1, h1, e1, c1, _⟩ := l1Below h 3 hc
  obtain ⟨x2, i2, h2, e2, c2, _⟩ := l1Below h1 4 c1
  obtain ⟨n, g, i3, h3, e3, c3, k1, k2⟩ := l14Slot h2 c2
  obtain ⟨n', g', i4, h4, e4, c4, k3, k4⟩ := l14Slot h3 c3
  obtain ⟨o, i5, h5, e5, c5⟩ := l1Once h4 4 c4
  obtain ⟨x6, i6, h6, e6, c6, y1, y2, _⟩ := l1Below h5 9 c5
  have y3 := y2 (by decide)
  have last : ∃ a b c d e f i' h', Ev (fun k => if o = true then (if n > 0 then (if n < 20 then ((spec_l1Below.f l i5 h5 9).bind fun bt895 => (some (x1, x2, n, wrap64 (10 * n), bt895.1, wrap64 (10 * bt895.1), bt895.2.1, bt895.2.2))) else (some (x1, x2, n, g, n', g', i5, h5))) else (some (x1, x2, n, g, n', g', i5, h5))) else (some (x1, x2, n, g, n', g', i5, h5))) (a, b, c, d, e, f, i', h') ∧ Cur l i' ∧ I64 c ∧ I64 d ∧ I64 e ∧ I64 f := by
    by_cases o1 : o = true
    · by_cases o2 : n > 0
      · by_cases o3 : n < 20
        · exact ⟨_, _, _, _, _, _, _, _, ev_pos o1 (ev_pos o2 (ev_pos o3 (ev_of (by rw [e6]; rfl)))), c6, k1, wrap_i64_range _, ⟨by omega, by omega⟩, wrap_i64_range _⟩
        · exact ⟨_, _, _, _, _, _, _, _, ev_pos o1 (ev_pos o2 (ev_neg o3 (Ev.now _))), c5, k1, k2, k3, k4⟩
      · exact ⟨_, _, _, _, _, _, _, _, ev_pos o1 (ev_neg o2 (Ev.now _)), c5, k1, k2, k3, k4⟩
    · exact ⟨_, _, _, _, _, _, _, _, ev_neg o1 (Ev.now _), c5, k1, k2, k3, k4⟩
  obtain ⟨a, b, c, d, e, f, i', h', k1, k2⟩ := last
  refine ⟨a, b, c, d, e, f, i', h', ?_, k2⟩
  simp only [e1, e2, Option.bind_some]
  refine Ev.bind e3 (Ev.bind e4 ?_)
  simp only [e5, Option.bind_some]
  exact k1
theorem l8Right_l0 {l : List Int} (a b c d e f g : Int) (N : Nat) (hN : N ≤ 1024) : ∀ (dd n : Nat) (xs : List Int) (i h : Int), n + dd = N → xs.length = n → Cur l i →
    ∃ ys i' h', Ev (fun k => spec_l8Right.l0 k (N : Int) (n : Int) l i h a b c d e f g xs) (a, b, c, d, e, f, g, ys, i', h') ∧ Cur l i' ∧ ys.length = N := by
  intro dd
  induction dd with
  | zero =>
    intro n xs i h hn hl hc
    refine ⟨xs, i, h, ev_succ ?_, hc, by omega⟩
    simp only [spec_l8Right.l0]
    exact ev_neg (by omega) (Ev.now _)
  | succ dd ih =>
    intro n xs i h hn hl hc
    have hw : wrap64 ((n : Int) + 1) = ((n + 1 : Nat) : Int) := w64 (by omega) (by omega)
    obtain ⟨x, i2, h2, e2, c2, _⟩ := l1Below h 3 hc
    obtain ⟨ys, i3, h3, e3, c3, hl'⟩ := ih (n + 1) (xs ++ [wrap64 (x - 1)]) i2 h2 (by omega) (by simp [hl]) c2
    refine ⟨ys, i3, h3, ev_succ ?_, c3, hl'⟩
    simp only [spec_l8Right.l0, e2, Option.bind_some, hw]
    exact ev_pos (by omega) (ev_pos (by omega) e3)
theorem l8Right_j1 {l : List Int} (a b c d e f g : Int) {i : Int} (h : Int) (hc : Cur l i) : ∃ ys i' h', Ev (fun k => spec_l8Right.j1 k l i h a b c d e f g) (a, b, c, d, e, f, g, ys, i', h') ∧ Cur l i' ∧ ys.length ≤ 4 := by
  obtain ⟨x, i2, h2, e2, c2, x1, x2, _⟩ := l1Below h 5 hc
  have x3 := x2 (by decide)
  obtain ⟨ys, i3, h3, e3, c3, hl'⟩ := l8Right_l0 a b c d e f g x.toNat (by omega) x.toNat 0 [] i2 h2 (by omega) rfl c2
  refine ⟨ys, i3, h3, ev_succ ?_, c3, by omega⟩
  simp only [spec_l8Right.j1, e2, Option.bind_some]
  rw [Int.toNat_of_nonneg x1] at e3
  exact e3
theorem l8Right_j0 {l : List Int} (a b c d e f g : Int) {i : Int} (h : Int) (hc : Cur l i) : ∃ f' ys i' h', Ev (fun k => spec_l8Right.j0 k l i h a b c d e f g) (a, b, c, d, e, f', g, ys, i', h') ∧ Cur l i' ∧ ys.length ≤ 4 := by
  obtain ⟨o, i1, h1, e1, c1⟩ := l1Once h 4 hc
  by_cases ho : o = true
  · obtain ⟨x, i2, h2, e2, c2, _⟩ := l1Below h1 g c1
    obtain ⟨ys, i3, h3, e3, c3, hl⟩ := l8Right_j1 a b c d e (wrap64 (1 + x)) g h2 c2
    refine ⟨wrap64 (1 + x), ys, i3, h3, ev_succ ?_, c3, hl⟩
    simp only [spec_l8Right.j0, e1, Option.bind_some]
    refine ev_pos ho ?_
    simp only [e2, Option.bind_some]
    exact e3
  · obtain ⟨ys, i3, h3, e3, c3, hl⟩ := l8Right_j1 a b c d e f g h1 c1
    refine ⟨f, ys, i3, h3, ev_succ ?_, c3, hl⟩
    simp only [spec_l8Right.j0, e1, Option.bind_some]
    exact ev_neg ho e3
theorem l8Right {l : List Int} {i : Int} (h : Int) (hc : Cur l i) : ∃ a b c d e f g ys i' h', Ev (fun k => spec_l8Right.f k l i h) (a, b, c, d, e, f, g, ys, i', h') ∧ Cur l i' ∧ ys.length ≤ 4 := by
  unfold spec_l8Right.f
  obtain ⟨x1, i1, h1, e1, c1, _⟩ := l1Below h 4 hc
  obtain ⟨x2, i2, h2, e2, c2, _⟩ := l1Below h1 4 c1
  obtain ⟨x3, i3, h3, e3, c3, _⟩ := l1Below h2 5 c2
  obtain ⟨x4, i4, h4, e4, c4, _⟩ := l1Below h3 3 c3
  obtain ⟨x5, i5, h5, e5, c5, _⟩ := l1Below h4 3 c4
  obtain ⟨x6, i6, h6, e6, c6, _⟩ := l1Below h5 3 c5
  obtain ⟨o, i7, h7, e7, c7⟩ := l1Once h6 8 c6
  simp only [e1, e2, e3, e4, e5, e6, e7, Option.bind_some]
  by_cases ho : o = true
  · obtain ⟨x8, i8, h8, e8, c8, _⟩ := l1Below h7 100 c7
    obtain ⟨f', ys, i9, h9, e9, c9, hl⟩ := l8Right_j0 (wrap64 (1 + x1)) x2 (wrap64 (2 + x3)) (wrap64 (1 + x8)) (wrap64 (1 + x5)) 1 (wrap64 (1 + x6)) h8 c8
    refine ⟨wrap64 (1 + x1), x2, wrap64 (2 + x3), wrap64 (1 + x8), wrap64 (1 + x5), f', wrap64 (1 + x6), ys, i9, h9, ev_pos ho ?_, c9, hl⟩
    simp only [e8, Option.bind_some]
    exact e9
  · obtain ⟨f', ys, i9, h9, e9, c9, hl⟩ := l8Right_j0 (wrap64 (1 + x1)) x2 (wrap64 (2 + x3)) (wrap64 (1 + x4)) (wrap64 (1 + x5)) 1 (wrap64 (1 + x6)) h7 c7
    exact ⟨_, _, _, _, _, _, _, ys, i9, h9, ev_neg ho e9, c9, hl⟩
theorem l8Bent {l : List Int} {i : Int} (h : Int) (hc : Cur l i) : ∃ a b c d e f g ys i' h', Ev (fun k => spec_l8Bent.f k l i h) (a, b, c, d, e, f, g, ys, i', h') ∧ Cur l i' ∧ ys.length ≤ 5 := by
  unfold spec_l8Bent.f
  obtain ⟨a, b, c, d, e, f, g, ys, i1, h1, e1, c1, hl⟩ := l8Right h hc
  obtain ⟨x, i2, h2, e2, c2, _⟩ := l1Below h1 12 c1
  have pick : ∀ xs : List Int, 0 < xs.length → ∃ r i' h', spec_l1PickInt.f l i2 h2 xs = some (r, i', h') ∧ Cur l i' := fun xs hx => by
    obtain ⟨r, i', h', p, q, _⟩ := l1PickInt h2 xs c2 hx
    exact ⟨r, i', h', p, q⟩
  by_cases k0 : x = 0
  · obtain ⟨r, j, h', p, q⟩ := pick [0, 1, 8, 9, (-1)] (by simp)
    exact ⟨_, _, _, _, _, _, _, _, _, _, Ev.bind e1 (Ev.bind (ev_of e2) (ev_pos k0 (Ev.bind (ev_of p) (Ev.now _)))), q, Nat.le_trans hl (by decide)⟩
  by_cases k1 : x = 1
  · obtain ⟨r, j, h', p, q⟩ := pick [(-1), 0, 4, 5] (by simp)
    exact ⟨_, _, _, _, _, _, _, _, _, _, Ev.bind e1 (Ev.bind (ev_of e2) (ev_neg k0 (ev_pos k1 (Ev.bind (ev_of p) (Ev.now _))))), q, Nat.le_trans hl (by decide)⟩
  by_cases k2 : x = 2
  · obtain ⟨r, j, h', p, q⟩ := pick [1, 2, 8, 9] (by simp)
    exact ⟨_, _, _, _, _, _, _, _, _, _, Ev.bind e1 (Ev.bind (ev_of e2) (ev_neg k0 (ev_neg k1 (ev_pos k2 (Ev.bind (ev_of p) (Ev.now _)))))), q, Nat.le_trans hl (by decide)⟩
  by_cases k3 : x = 3
  · obtain ⟨r, j, h', p, q⟩ := pick [0, 1, 100, 101, 9223372036854775807] (by simp)
    exact ⟨_, _, _, _, _, _, _, _, _, _, Ev.bind e1 (Ev.bind (ev_of e2) (ev_neg k0 (ev_neg k1 (ev_neg k2 (ev_pos k3 (Ev.bind (ev_of p) (Ev.now _))))))), q, Nat.le_trans hl (by decide)⟩
  by_cases k4 : x = 4
  · obtain ⟨r, j, h', p, q⟩ := pick [0, 1, 20, 21] (by simp)
    exact ⟨_, _, _, _, _, _, _, _, _, _, Ev.bind e1 (Ev.bind (ev_of e2) (ev_neg k0 (ev_neg k1 (ev_neg k2 (ev_neg k3 (ev_pos k4 (Ev.bind (ev_of p) (Ev.now _)))))))), q, Nat.le_trans hl (by decide)⟩
  by_cases k5 : x = 5
  · obtain ⟨r, j, h', p, q⟩ := pick [0, 1, g, wrap64 (g + 1), (-1)] (by simp)
    exact ⟨_, _, _, _, _, _, _, _, _, _, Ev.bind e1 (Ev.bind (ev_of e2) (ev_neg k0 (ev_neg k1 (ev_neg k2 (ev_neg k3 (ev_neg k4 (ev_pos k5 (Ev.bind (ev_of p) (Ev.now _))))))))), q, Nat.le_trans hl (by decide)⟩
  by_cases k6 : x = 6
  · obtain ⟨r, j, h', p, q⟩ := pick [0, 1, 1000, 1001, 9223372036854775807] (by simp)
    exact ⟨_, _, _, _, _, _, _, _, _, _, Ev.bind e1 (Ev.bind (ev_of e2) (ev_neg k0 (ev_neg k1 (ev_neg k2 (ev_neg k3 (ev_neg k4 (ev_neg k5 (ev_pos k6 (Ev.bind (ev_of p) (Ev.now _)))))))))), q, Nat.le_trans hl (by decide)⟩
  by_cases k7 : x = 7
  · obtain ⟨r, j, h', p, q, _⟩ := l1Below h2 5 c2
    exact ⟨_, _, _, _, _, _, _, _, _, _, Ev.bind e1 (Ev.bind (ev_of e2) (ev_neg k0 (ev_neg k1 (ev_neg k2 (ev_neg k3 (ev_neg k4 (ev_neg k5 (ev_neg k6 (ev_pos k7 (Ev.bind (ev_of p) (ev_pos (by simp only; omega) (Ev.now _)))))))))))), q, by simp only [List.length_append, List.length_singleton]; omega⟩
  · exact ⟨_, _, _, _, _, _, _, _, _, _, Ev.bind e1 (Ev.bind (ev_of e2) (ev_neg k0 (ev_neg k1 (ev_neg k2 (ev_neg k3 (ev_neg k4 (ev_neg k5 (ev_neg k6 (ev_neg k7 (Ev.now _)))))))))), c2, Nat.le_trans hl (by decide)⟩
theorem drawMayPart (l : List Int) (hl : l.length ≤ 35184372088832) : ∃ a b c d e f g ys lo hi p q n s n' s', Ev (fun k => spec_DrawMayPart.f k l) (a, b, c, d, e, f, g, ys, lo, hi, p, q, n, s, n', s') ∧ ys.length ≤ 5 := by
  unfold spec_DrawMayPart.f
  obtain ⟨h, e1⟩ := l1New l hl
  obtain ⟨a, b, c, d, e, f, g, ys, i1, h1, e2, c1, hy⟩ := l8Bent h (cur0 l hl)
  obtain ⟨lo, hi, i2, h2, e3, c2, _⟩ := l14Bound h1 c1
  obtain ⟨p, q, n, s, n', s', i3, h3, e4, c3, _⟩ := l15Cand h2 c2
  exact ⟨_, _, _, _, _, _, _, _, _, _, _, _, _, _, _, _, Ev.bind e1 (Ev.bind e2 (Ev.bind e3 (Ev.bind e4 (Ev.now _)))), hy⟩
open Classical in
/-- A quotient rounded down, and true; 0 and false where there is none. -/
noncomputable def floorV (a b : Int) : Int × Bool :=
  if b = 0 ∨ b = -1 ∧ a = -9223372036854775808 then (0, false) else if Int.tmod a b = 0 then (wrap64 (Int.tdiv a b), true) else if ((decide (a < 0)) != (decide (b < 0))) = true then (wrap64 (wrap64 (Int.tdiv a b) - 1), true) else (wrap64 (Int.tdiv a b), true)
def brought (x a b : Int) : Int := if x < a then a else if x > b then b else x
def BndOk (a b : Int) : Prop := a ≤ b ∧ (-1099511627776 ≤ a ∧ a ≤ 1099511627776) ∧ (-1099511627776 ≤ b ∧ b ≤ 1099511627776)
def LeafOk (n lam lo hi : Int) : Prop := (0 ≤ n ∧ n ≤ 40) ∧ (1 ≤ lam ∧ lam ≤ 100) ∧ BndOk lo hi
open Classical in
/-- The value of a leaf, and true; 0 and false where there is none. -/
noncomputable def leafV (n g lam lo hi : Int) : Int × Bool := if LeafOk n lam lo hi then (brought (floorV g (wrap64 (n + lam))).1 lo hi, true) else (0, false)
theorem implFloor_j0 (a b : Int) (t : Bool) (h : t = true ↔ (b = 0 ∨ b = -1 ∧ a = -9223372036854775808)) : Ev (fun k => impl_FloorDiv.j0 k a b t) (floorV a b) := by
  refine ev_end fun k => ?_
  simp only [impl_FloorDiv.j0]
  unfold floorV
  by_cases h0 : b = 0 ∨ b = -1 ∧ a = -9223372036854775808
  · rw [if_pos (h.2 h0), if_pos h0]
  · rw [if_neg (fun z => h0 (h.1 z)), if_neg h0, if_neg (fun z => h0 (.inl z))]
    by_cases h1 : Int.tmod a b = 0
    · rw [if_pos h1, if_pos h1]
    · rw [if_neg h1, if_neg h1]
      split
      · rfl
      · rfl
theorem implFloor (a b : Int) : Ev (fun k => impl_FloorDiv.f k a b) (floorV a b) := by
  unfold impl_FloorDiv.f
  by_cases h0 : b = 0
  · exact ev_pos h0 (implFloor_j0 a b true (by simp [h0]))
  refine ev_neg h0 ?_
  by_cases h1 : a = -9223372036854775808
  · exact ev_pos h1 (implFloor_j0 a b _ (by simp [h0, h1]))
  · exact ev_neg h1 (implFloor_j0 a b false (by simp [h0, h1]))
theorem implBrought (x a b : Int) : impl_Brought.f x a b = some (brought x a b) := by
  unfold impl_Brought.f brought
  split
  · rfl
  · split <;> rfl
theorem implWithin (a b c : Int) : impl_within.f a b c = some (decide (b ≤ a ∧ a ≤ c)) := by
  unfold impl_within.f
  by_cases h : b ≤ a
  · rw [if_pos h]; simp [h]
  · rw [if_neg h]; simp [h]
theorem implBoundOk (a b : Int) : impl_BoundOk.f a b = some (dec (BndOk a b)) := by
  unfold impl_BoundOk.f impl_isLeafValue.f
  simp only [implWithin, Option.bind_some]
  by_cases h1 : a ≤ b
  · rw [if_pos h1]
    by_cases h2 : -1099511627776 ≤ a ∧ a ≤ 1099511627776
    · rw [if_pos (by simpa using h2), ← dec_eq]
      congr 1
      exact dec_congr ⟨fun g => ⟨h1, h2, g⟩, fun g => g.2.2⟩
    · rw [if_neg (by simpa using h2), dec_false]
      exact fun g => h2 g.2.1
  · rw [if_neg h1, dec_false]
    exact fun g => h1 g.1
theorem implCount (n lam : Int) : impl_isCount.f n lam = some (decide ((0 ≤ n ∧ n ≤ 40) ∧ (1 ≤ lam ∧ lam ≤ 100))) := by
  unfold impl_isCount.f
  simp only [implWithin, Option.bind_some]
  by_cases h1 : 0 ≤ n ∧ n ≤ 40
  · rw [if_pos (by simpa using h1)]
    simp [h1]
  · rw [if_neg (by simpa using h1)]
    simp [h1]
theorem implLeaf_j0 (n g lam lo hi : Int) (t : Bool) (h : t = false ↔ LeafOk n lam lo hi) : Ev (fun k => impl_LeafOf.j0 k lam t n g lo hi) (leafV n g lam lo hi) := by
  unfold leafV
  by_cases h0 : LeafOk n lam lo hi
  · rw [if_pos h0, h.2 h0]
    refine Ev.step (f := fun k => (impl_FloorDiv.f k g (wrap64 (n + lam))).bind fun bt => ((impl_Brought.f bt.1 lo hi).bind fun t => some (t, true))) (fun k => ?_) (Ev.bind (implFloor _ _) (ev_of ?_))
    · simp only [impl_LeafOf.j0]
      rw [if_neg (by decide)]
    · rw [implBrought]
      rfl
  · rw [if_neg h0]
    refine ev_end fun k => ?_
    simp only [impl_LeafOf.j0]
    rw [if_pos (by simpa using fun z => h0 (h.1 z))]
theorem implLeaf (n g lam lo hi : Int) : Ev (fun k => impl_LeafOf.f k n g lam lo hi) (leafV n g lam lo hi) := by
  unfold impl_LeafOf.f
  simp only [implCount, implBoundOk, Option.bind_some]
  by_cases h1 : (0 ≤ n ∧ n ≤ 40) ∧ (1 ≤ lam ∧ lam ≤ 100)
  · refine ev_pos (by simpa using h1) (implLeaf_j0 n g lam lo hi _ ?_)
    rw [Bool.not_eq_false', dec_iff]
    exact ⟨fun z => ⟨h1.1, h1.2, z⟩, fun z => z.2.2⟩
  · exact ev_neg (by simpa using h1) (implLeaf_j0 n g lam lo hi true ⟨fun z => by simp at z, fun z => absurd ⟨z.1, z.2.1⟩ h1⟩)
theorem specFloor_j0 (a b : Int) (t : Bool) (h : t = true ↔ (b = 0 ∨ b = -1 ∧ a = -9223372036854775808)) : Ev (fun k => spec_FloorDiv.j0 k a b t) (floorV a b) := by
  refine ev_end fun k => ?_
  simp only [spec_FloorDiv.j0]
  unfold floorV
  by_cases h0 : b = 0 ∨ b = -1 ∧ a = -9223372036854775808
  · rw [if_pos (h.2 h0), if_pos h0]
  · rw [if_neg (fun z => h0 (h.1 z)), if_neg h0, if_neg (fun z => h0 (.inl z))]
    by_cases h1 : Int.tmod a b = 0
    · rw [if_pos h1, if_pos h1]
    · rw [if_neg h1, if_neg h1]
      split
      · rfl
      · rfl
theorem specFloor (a b : Int) : Ev (fun k => spec_FloorDiv.f k a b) (floorV a b) := by
  unfold spec_FloorDiv.f
  by_cases h0 : b = 0
  · exact ev_pos h0 (specFloor_j0 a b true (by simp [h0]))
  refine ev_neg h0 ?_
  by_cases h1 : b = -1
  · exact ev_pos h1 (specFloor_j0 a b _ (by simp [h0, h1]))
  · exact ev_neg h1 (specFloor_j0 a b false (by simp [h0, h1]))
theorem specBrought (x a b : Int) : spec_Brought.f x a b = some (brought x a b) := by
  unfold spec_Brought.f brought
  split
  · rfl
  · split <;> rfl
theorem specIn (a b c : Int) : spec_l1In.f a b c = some (decide (b ≤ a ∧ a ≤ c)) := by
  unfold spec_l1In.f
  by_cases h : b ≤ a
  · rw [if_pos h]; simp [h]
  · rw [if_neg h]; simp [h]
theorem specBoundOk (a b : Int) : spec_BoundOk.f a b = some (dec (BndOk a b)) := by
  unfold spec_BoundOk.f spec_l14Leaf.f
  simp only [specIn, Option.bind_some]
  by_cases h1 : a ≤ b
  · rw [if_pos h1]
    by_cases h2 : -1099511627776 ≤ a ∧ a ≤ 1099511627776
    · rw [if_pos (by simpa using h2), ← dec_eq]
      congr 1
      exact dec_congr ⟨fun g => ⟨h1, h2, g⟩, fun g => g.2.2⟩
    · rw [if_neg (by simpa using h2), dec_false]
      exact fun g => h2 g.2.1
  · rw [if_neg h1, dec_false]
    exact fun g => h1 g.1
theorem specLeaf_j0 (n g lam lo hi : Int) (t : Bool) (h : t = false ↔ LeafOk n lam lo hi) : Ev (fun k => spec_LeafOf.j0 k lam t n g lo hi) (leafV n g lam lo hi) := by
  unfold leafV
  by_cases h0 : LeafOk n lam lo hi
  · rw [if_pos h0, h.2 h0]
    refine Ev.step (f := fun k => (spec_FloorDiv.f k g (wrap64 (n + lam))).bind fun bt => ((spec_Brought.f bt.1 lo hi).bind fun t => some (t, true))) (fun k => ?_) (Ev.bind (specFloor _ _) (ev_of ?_))
    · simp only [spec_LeafOf.j0]
      rw [if_neg (by decide)]
    · rw [specBrought]
      rfl
  · rw [if_neg h0]
    refine ev_end fun k => ?_
    simp only [spec_LeafOf.j0]
    rw [if_pos (by simpa using fun z => h0 (h.1 z))]
theorem specLeaf (n g lam lo hi : Int) : Ev (fun k => spec_LeafOf.f k n g lam lo hi) (leafV n g lam lo hi) := by
  unfold spec_LeafOf.f
  simp only [specIn, specBoundOk, Option.bind_some]
  by_cases h1 : 0 ≤ n ∧ n ≤ 40
  · refine ev_pos (by simpa using h1) ?_
    by_cases h2 : 1 ≤ lam ∧ lam ≤ 100
    · refine ev_pos (by simpa using h2) (specLeaf_j0 n g lam lo hi _ ?_)
      rw [Bool.not_eq_false', dec_iff]
      exact ⟨fun z => ⟨h1, h2, z⟩, fun z => z.2.2⟩
    · exact ev_neg (by simpa using h2) (specLeaf_j0 n g lam lo hi true ⟨fun z => by simp at z, fun z => absurd z.2.1 h2⟩)
  · exact ev_neg (by simpa using h1) (specLeaf_j0 n g lam lo hi true ⟨fun z => by simp at z, fun z => absurd z.1 h1⟩)
/-- Both sides' values, and true; zeros and false where one of them is none. -/
noncomputable def sideV (lam lo hi n g n' g' : Int) : Int × Int × Bool := if (leafV n g lam lo hi).2 = true then (if (leafV n' g' lam lo hi).2 = true then ((leafV n g lam lo hi).1, (leafV n' g' lam lo hi).1, true) else (0, 0, false)) else (0, 0, false)
theorem specSideValues (a b c d e f g : Int) (l : List Int) (lo hi p q n s n' s' : Int) : Ev (fun k => spec_SideValues.f k a b c d e f g l lo hi p q n s n' s') (sideV d lo hi n s n' s') := by
  unfold spec_SideValues.f sideV
  refine Ev.bind (specLeaf _ _ _ _ _) (Ev.bind (specLeaf _ _ _ _ _) ?_)
  by_cases h1 : (leafV n s d lo hi).2 = true
  · refine ev_pos h1 ?_
    rw [if_pos h1]
    by_cases h2 : (leafV n' s' d lo hi).2 = true
    · refine ev_pos h2 (ev_of ?_)
      rw [if_pos h2]
    · refine ev_neg h2 (ev_of ?_)
      rw [if_neg h2]
  · refine ev_neg h1 (ev_of ?_)
    rw [if_neg h1]
theorem implSideValues (a b c d e f g : Int) (l : List Int) (lo hi p q n s n' s' : Int) : Ev (fun k => impl_SideValues.f k a b c d e f g l lo hi p q n s n' s') (sideV d lo hi n s n' s') := by
  unfold impl_SideValues.f sideV
  refine Ev.bind (implLeaf _ _ _ _ _) (Ev.bind (implLeaf _ _ _ _ _) ?_)
  by_cases h1 : (leafV n s d lo hi).2 = true
  · refine ev_pos h1 ?_
    rw [if_pos h1]
    by_cases h2 : (leafV n' s' d lo hi).2 = true
    · refine ev_pos h2 (ev_of ?_)
      rw [if_pos h2]
    · refine ev_neg h2 (ev_of ?_)
      rw [if_neg h2]
  · refine ev_neg h1 (ev_of ?_)
    rw [if_neg h1]
theorem leafV_in {n g lam lo hi : Int} (h : (leafV n g lam lo hi).2 = true) : lo ≤ (leafV n g lam lo hi).1 ∧ (leafV n g lam lo hi).1 ≤ hi := by
  unfold leafV at h ⊢
  by_cases c : LeafOk n lam lo hi
  · rw [if_pos c]
    have := c.2.2.1
    simp only
    unfold brought
    split
    · omega
    · split <;> omega
  · rw [if_neg c] at h; simp at h
theorem specWithin (a b v : Int) : spec_Within.f a b v = some (decide (a ≤ v ∧ v ≤ b)) := by
  unfold spec_Within.f
  rw [specIn]; rfl

theorem FnSideValues : laws_FnSideValues.Pure := by
  intro l hm hl hw
  refine Ev.rounds ?_
  unfold laws_FnSideValues.f
  rw [lawsBig]
  simp only [Option.bind_some]
  by_cases hb : (l.length : Int) > 1048576
  · exact ev_pos (by simpa using hb) (Ev.now _)
  refine ev_neg (by simpa using hb) ?_
  obtain ⟨a, b, c, d, e, f, g, ys, lo, hi, p, q, n, s, n', s', e1, hy⟩ := drawMayPart l (by omega)
  have e2 : Ev (fun k => spec_DrawSideValues.f k l) (a, b, c, d, e, f, g, ys, lo, hi, p, q, n, s, n', s') := by
    unfold spec_DrawSideValues.f
    exact Ev.bind e1 (Ev.now _)
  refine Ev.bind e2 (Ev.bind (implSideValues _ _ _ _ _ _ _ _ _ _ _ _ _ _ _ _) (Ev.bind (specSideValues _ _ _ _ _ _ _ _ _ _ _ _ _ _ _ _) (ev_pos (by simp) (ev_pos rfl (ev_pos rfl ?_)))))
  simp only [specWithin, Option.bind_some]
  unfold sideV
  by_cases h1 : (leafV n s d lo hi).2 = true
  · rw [if_pos h1]
    have i1 := leafV_in h1
    by_cases h2 : (leafV n' s' d lo hi).2 = true
    · rw [if_pos h2]
      have i2 := leafV_in h2
      exact ev_pos rfl (ev_pos (by simpa using i1) (ev_of (by simpa using i2)))
    · rw [if_neg h2]
      exact ev_neg (by simp) (Ev.now _)
  · rw [if_neg h1]
    exact ev_neg (by simp) (Ev.now _)

end Go.Proofs.Ytohngimlmcdiiaa.Pure
