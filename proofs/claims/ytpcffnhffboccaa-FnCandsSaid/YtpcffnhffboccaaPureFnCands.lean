/- each candidate lies within its histogram, both its sides hold the least count and come to the whole; the list is ordered. Conditions: none but the row's own.
-/
import Derived.Test.YtpcffnhffboccaaQFnCandsx8
set_option linter.unusedVariables false
set_option linter.unusedSimpArgs false
namespace Go.Proofs.Ytpcffnhffboccaa.Pure
open Go.RowKit Go.Proofs.Ytpcffnhffboccaa.QFnCands Go.Proofs.YtpcffnhffboccaaW.PrintWords Go.Proofs.YtpcffnhffboccaaW.PrintLast Go.Proofs.YtpcffnhffboccaaW.PrintMore

theorem w64 {x : Int} (h1 : -9223372036854775808 ≤ x) (h2 : x ≤ 9223372036854775807) : wrap64 x = x := by unfold wrap64; omega
theorem i64_wf {x : Int} (h : (Lit.int .i64 x).wf = true) : -9223372036854775808 ≤ x ∧ x ≤ 9223372036854775807 := by
  simpa [Lit.wf, IntKind.min, IntKind.max, IntKind.signed, IntKind.bits] using h
theorem u8_wf {x : Int} (h : (Lit.int .u8 x).wf = true) : 0 ≤ x ∧ x ≤ 255 := by
  simpa [Lit.wf, IntKind.min, IntKind.max, IntKind.signed, IntKind.bits] using h
theorem rd_eq {xs : List Int} {i : Int} (h0 : 0 ≤ i) (h : i < (xs.length : Int)) : xs[i.toNat]? = some (rd xs i) := by
  unfold rd
  rw [List.getD_eq_getElem?_getD, List.getElem?_eq_getElem (by omega)]
  rfl
theorem rd_mem {xs : List Int} {i : Int} (h0 : 0 ≤ i) (h : i < (xs.length : Int)) : rd xs i ∈ xs := List.mem_of_getElem? (rd_eq h0 h)
theorem rd_of {xs : List Int} {n : Nat} {v : Int} (h : xs[n]? = some v) : rd xs (n : Int) = v := by
  unfold rd
  rw [List.getD_eq_getElem?_getD, Int.toNat_natCast, h]
  rfl
theorem ev_of {α : Type} {r : α} {p : Option α} (h : p = some r) : Ev (fun _ => p) r := ⟨0, fun _ _ => h⟩
theorem ev_end {α : Type} {g : Nat → Option α} {r : α} (h : ∀ k, g (k + 1) = some r) : Ev g r := Ev.step (f := fun _ => some r) h (Ev.now r)
theorem ev_pos {α : Type} {c : Prop} [Decidable c] {f g : Nat → Option α} {r : α} (hc : c) (h : Ev f r) : Ev (fun k => if c then f k else g k) r := Ev.congr (fun _ => if_pos hc) h
theorem ev_neg {α : Type} {c : Prop} [Decidable c] {f g : Nat → Option α} {r : α} (hc : ¬ c) (h : Ev g r) : Ev (fun k => if c then f k else g k) r := Ev.congr (fun _ => if_neg hc) h
theorem rd_drop {xs : List Int} {n : Nat} (h : n < xs.length) : xs.drop n = rd xs (n : Int) :: xs.drop (n + 1) := by
  rw [List.drop_eq_getElem_cons h]
  congr 1
  unfold rd
  rw [List.getD_eq_getElem?_getD, Int.toNat_natCast, List.getElem?_eq_getElem h]
  rfl
noncomputable def dec (p : Prop) : Bool := @decide p (Classical.propDecidable p)
theorem dec_true {p : Prop} (h : p) : dec p = true := @decide_eq_true p (Classical.propDecidable p) h
theorem dec_false {p : Prop} (h : ¬ p) : dec p = false := @decide_eq_false p (Classical.propDecidable p) h
theorem dec_iff {p : Prop} : dec p = true ↔ p := @decide_eq_true_iff p (Classical.propDecidable p)
theorem dec_congr {p q : Prop} (h : p ↔ q) : dec p = dec q := by rw [propext h]
theorem dec_eq {p : Prop} [Decidable p] : dec p = decide p := by
  by_cases h : p
  · rw [dec_true h, decide_eq_true h]
  · rw [dec_false h, decide_eq_false h]
theorem ev_succ {α : Type} {g : Nat → Option α} {r : α} (h : Ev (fun k => g (k + 1)) r) : Ev g r := by
  obtain ⟨K, h⟩ := h
  refine ⟨K + 1, fun n hn => ?_⟩
  obtain ⟨m, rfl⟩ : ∃ m, n = m + 1 := ⟨n - 1, by omega⟩
  exact h m (by omega)
theorem ev_eq {α : Type} {g : Nat → Option α} {r r' : α} (h : Ev g r) (e : r = r') : Ev g r' := e ▸ h
theorem gd_eq {α : Type} (z : α) {xs : List α} {i : Int} (h0 : 0 ≤ i) (h : i < (xs.length : Int)) : xs[i.toNat]? = some (xs.getD i.toNat z) := by
  rw [List.getD_eq_getElem?_getD, List.getElem?_eq_getElem (by omega)]
  rfl
theorem gd_nat {α : Type} (z : α) {xs : List α} {n : Nat} {v : α} (h : xs[n]? = some v) : xs.getD ((n : Int)).toNat z = v := by
  rw [List.getD_eq_getElem?_getD, Int.toNat_natCast, h]
  rfl
theorem gd_drop {α : Type} (z : α) {xs : List α} {n : Nat} (h : n < xs.length) : xs.drop n = xs.getD ((n : Int)).toNat z :: xs.drop (n + 1) := by
  rw [List.drop_eq_getElem_cons h]
  congr 1
  exact (gd_nat z (List.getElem?_eq_getElem h)).symm
/-- A loop that copies: place after place is set. -/
theorem copy_loop {α β : Type} (F : Nat → List β → Int → Option (List β)) (l : List α) (g : α → β)
    (hend : ∀ acc : List β, acc.length = l.length → Ev (fun k => F k acc (l.length : Int)) acc)
    (hstep : ∀ (acc : List β) (n : Nat) (x : α) (r : List β), n < l.length → acc.length = l.length → l[n]? = some x → Ev (fun k => F k (acc.set n (g x)) ((n + 1 : Nat) : Int)) r → Ev (fun k => F k acc (n : Int)) r) :
    ∀ (d n : Nat) (acc : List β), n + d = l.length → acc.length = l.length → (∀ j, j < n → acc[j]? = (l.map g)[j]?) → Ev (fun k => F k acc (n : Int)) (l.map g) := by
  intro d
  induction d with
  | zero =>
    intro n acc hn ha hp
    obtain rfl : n = l.length := by omega
    refine ev_eq (hend acc ha) (List.ext_getElem? fun j => ?_)
    by_cases h : j < l.length
    · exact hp j h
    · rw [List.getElem?_eq_none (by omega), List.getElem?_eq_none (by simp; omega)]
  | succ d ih =>
    intro n acc hn ha hp
    have hx : l[n]? = some l[n] := List.getElem?_eq_getElem (by omega)
    refine hstep acc n l[n] _ (by omega) ha hx (ih (n + 1) _ (by omega) (by simpa using ha) ?_)
    intro j hj
    rw [List.getElem?_set]
    by_cases h : n = j
    · subst h
      rw [if_pos rfl, if_pos (by omega), List.getElem?_map, hx]
      rfl
    · rw [if_neg h]
      exact hp j (by omega)
/-- A loop that tests place after place. -/
theorem all_loop (F : Nat → Int → Option Bool) (L : Nat) (p : Nat → Prop) (hend : Ev (fun k => F k (L : Int)) true)
    (hyes : ∀ (n : Nat) (r : Bool), n < L → p n → Ev (fun k => F k ((n + 1 : Nat) : Int)) r → Ev (fun k => F k (n : Int)) r)
    (hno : ∀ n : Nat, n < L → ¬ p n → Ev (fun k => F k (n : Int)) false) :
    ∀ (d n : Nat), n + d = L → Ev (fun k => F k (n : Int)) (dec (∀ j, n ≤ j → j < L → p j)) := by
  intro d
  induction d with
  | zero =>
    intro n hn
    obtain rfl : n = L := by omega
    exact ev_eq hend (dec_true (fun j h1 h2 => by omega)).symm
  | succ d ih =>
    intro n hn
    by_cases h : p n
    · refine hyes n _ (by omega) h (ev_eq (ih (n + 1) (by omega)) (dec_congr ⟨fun g j h1 h2 => ?_, fun g j h1 h2 => g j (by omega) h2⟩))
      by_cases e : j = n
      · exact e ▸ h
      · exact g j (by omega) h2
    · exact ev_eq (hno n (by omega) h) (dec_false (fun g => h (g n (Nat.le_refl _) (by omega)))).symm
/-- A loop that goes round L times over a state. -/
theorem fold_loop {σ ρ : Type} (F : Nat → σ → Int → Option ρ) (L : Nat) (S : Nat → σ) (r : ρ) (hend : Ev (fun k => F k (S L) (L : Int)) r)
    (hstep : ∀ n : Nat, n < L → Ev (fun k => F k (S (n + 1)) ((n + 1 : Nat) : Int)) r → Ev (fun k => F k (S n) (n : Int)) r) :
    ∀ (d n : Nat), n + d = L → Ev (fun k => F k (S n) (n : Int)) r := by
  intro d
  induction d with
  | zero =>
    intro n hn
    obtain rfl : n = L := by omega
    exact hend
  | succ d ih =>
    intro n hn
    exact hstep n (by omega) (ih (n + 1) (by omega))
theorem set_mid {α : Type} (a b : List α) (x v : α) {n : Nat} (h : a.length = n) : (a ++ x :: b).set n v = a ++ v :: b := by
  subst h
  rw [List.set_append_right _ _ (Nat.le_refl _), Nat.sub_self]
  rfl
theorem get_mid {α : Type} (a b : List α) (x : α) {n : Nat} (h : a.length = n) : (a ++ x :: b)[n]? = some x := by
  subst h
  rw [List.getElem?_append_right (Nat.le_refl _), Nat.sub_self]
  rfl
/-- A loop that tests place after place, and one thing more at its end. -/
theorem all_loop2 (F : Nat → Int → Option Bool) (L : Nat) (p : Nat → Prop) (E : Prop) (hend : Ev (fun k => F k (L : Int)) (dec E))
    (hyes : ∀ (n : Nat) (r : Bool), n < L → p n → Ev (fun k => F k ((n + 1 : Nat) : Int)) r → Ev (fun k => F k (n : Int)) r)
    (hno : ∀ n : Nat, n < L → ¬ p n → Ev (fun k => F k (n : Int)) false) :
    ∀ (d n : Nat), n + d = L → Ev (fun k => F k (n : Int)) (dec ((∀ j, n ≤ j → j < L → p j) ∧ E)) := by
  intro d
  induction d with
  | zero =>
    intro n hn
    obtain rfl : n = L := by omega
    exact ev_eq hend (dec_congr ⟨fun h => ⟨fun j h1 h2 => by omega, h⟩, fun h => h.2⟩)
  | succ d ih =>
    intro n hn
    by_cases h : p n
    · refine hyes n _ (by omega) h (ev_eq (ih (n + 1) (by omega)) (dec_congr ⟨fun g => ⟨fun j h1 h2 => ?_, g.2⟩, fun g => ⟨fun j h1 h2 => g.1 j (by omega) h2, g.2⟩⟩))
      by_cases e : j = n
      · exact e ▸ h
      · exact g.1 j (by omega) h2
    · exact ev_eq (hno n (by omega) h) (dec_false (fun g => h (g.1 n (Nat.le_refl _) (by omega)))).symm
theorem lawsBig (l : List Int) : laws_big.f l = some (decide ((l.length : Int) > 1048576)) := rfl
theorem rdi (xs : List S32) (i : Int) : rd_T32 xs i = xs.getD i.toNat z32 := rfl
/-- The sum and true; 0 and false where it has no room. -/
def addI (a b : Int) : Int × Bool := if -9223372036854775808 ≤ a + b ∧ a + b ≤ 9223372036854775807 then (a + b, true) else (0, false)
def subI (a b : Int) : Int × Bool := if -9223372036854775808 ≤ a - b ∧ a - b ≤ 9223372036854775807 then (a - b, true) else (0, false)
def I64 (a : Int) : Prop := -9223372036854775808 ≤ a ∧ a ≤ 9223372036854775807
theorem addI_i64 (a b : Int) : I64 (addI a b).1 := by
  unfold addI I64
  split
  · assumption
  · exact ⟨by decide, by decide⟩
theorem subI_i64 (a b : Int) : I64 (subI a b).1 := by
  unfold subI I64
  split
  · assumption
  · exact ⟨by decide, by decide⟩
theorem wrap_over {x : Int} (h1 : 9223372036854775807 < x) (h2 : x < 27670116110564327424) : wrap64 x = x - 18446744073709551616 := by unfold wrap64; omega
theorem wrap_under {x : Int} (h1 : x < -9223372036854775808) (h2 : -27670116110564327424 ≤ x) : wrap64 x = x + 18446744073709551616 := by unfold wrap64; omega
/-- Slots of whole numbers. -/
def SOk (l : List S32) : Prop := ∀ x ∈ l, I64 x.f0 ∧ I64 x.f1
theorem SOk.at {l : List S32} (h : SOk l) {n : Nat} {x : S32} (e : l[n]? = some x) : I64 x.f0 ∧ I64 x.f1 := h x (List.mem_of_getElem? e)
theorem and255 (x : Int) : 0 ≤ Go.bits .and .i64 x 255 ∧ Go.bits .and .i64 x 255 ≤ 255 := by
  simp only [Go.bits]
  have h : (BitVec.ofInt IntKind.i64.bits x &&& BitVec.ofInt IntKind.i64.bits 255).toNat ≤ 255 := by
    rw [BitVec.toNat_and]
    exact Nat.le_trans Nat.and_le_right (by decide)
  rw [IntKind.wrap_i64]
  omega
theorem l1New_l0 (l : List Int) (hl : l.length ≤ 35184372088832) : ∀ (d n : Nat) (x : Int), n + d = l.length → ∃ h, Ev (fun k => spec_l1New.l0 k l x (n : Int)) (l, 0, h) := by
  intro d
  induction d with
  | zero =>
    intro n x hn
    refine ⟨x, ev_end fun k => ?_⟩
    simp only [spec_l1New.l0]
    rw [if_neg (by omega)]
  | succ d ih =>
    intro n x hn
    by_cases h4 : (n : Int) < 4000
    · obtain ⟨h, e⟩ := ih (n + 1) (Go.bits .and .i64 (wrap64 ((wrap64 ((wrap64 (x * 131)) + (wrap64 (rd l n)))) + 7)) 1073741823) (by omega)
      refine ⟨h, Ev.step (fun k => ?_) e⟩
      simp only [spec_l1New.l0]
      rw [if_pos (by omega), if_pos h4, if_pos (by omega), w64 (x := (n : Int) + 1) (by omega) (by omega)]
      rfl
    · refine ⟨x, ev_end fun k => ?_⟩
      simp only [spec_l1New.l0]
      rw [if_pos (by omega), if_neg h4]
theorem l1New (l : List Int) (hl : l.length ≤ 35184372088832) : ∃ h, Ev (fun k => spec_l1New.f k l) (l, 0, h) := l1New_l0 l hl l.length 0 _ (by omega)
/-- A cursor's place is within its bytes. -/
def Cur (l : List Int) (i : Int) : Prop := 0 ≤ i ∧ i ≤ l.length ∧ l.length ≤ 35184372088832
theorem cur0 (l : List Int) (hl : l.length ≤ 35184372088832) : Cur l 0 := ⟨by omega, by omega, hl⟩
theorem l1Byte {l : List Int} {i : Int} (h : Int) (hc : Cur l i) : ∃ r i' h', spec_l1Byte.f l i h = some (r, i', h') ∧ Cur l i' ∧ 0 ≤ r ∧ r ≤ 255 := by
  unfold Cur at *
  unfold spec_l1Byte.f
  by_cases h1 : i < (l.length : Int)
  · rw [if_pos h1, if_pos hc.1, w64 (x := i + 1) (by omega) (by omega)]
    exact ⟨_, _, _, rfl, by omega, and255 _⟩
  · rw [if_neg h1]
    exact ⟨_, _, _, rfl, by omega, and255 _⟩
theorem l1Below {l : List Int} {i : Int} (h : Int) (n : Int) (hc : Cur l i) : ∃ r i' h', spec_l1Below.f l i h n = some (r, i', h') ∧ Cur l i' ∧ 0 ≤ r ∧ (0 < n → r < n) ∧ (n ≤ 0 → r = 0) := by
  unfold spec_l1Below.f
  by_cases h1 : n ≤ 0
  · rw [if_pos h1]
    exact ⟨0, _, _, rfl, hc, by omega, by omega, fun _ => rfl⟩
  rw [if_neg h1]
  by_cases h2 : n ≤ 256
  · rw [if_pos h2]
    obtain ⟨r, i', h', e, hc', h3, h4⟩ := l1Byte h hc
    rw [e]
    simp only [Option.bind_some]
    rw [if_neg (by omega)]
    refine ⟨_, _, _, rfl, hc', ?_, ?_, by omega⟩
    · rw [Int.tmod_eq_emod_of_nonneg h3]; exact Int.emod_nonneg _ (by omega)
    · intro _; rw [Int.tmod_eq_emod_of_nonneg h3]; exact Int.emod_lt_of_pos _ (by omega)
  · rw [if_neg h2]
    obtain ⟨x, i1, h1, e1, hc1, x1, x2⟩ := l1Byte h hc
    obtain ⟨y, i2, h2, e2, hc2, y1, y2⟩ := l1Byte h1 hc1
    obtain ⟨z, i3, h3, e3, hc3, z1, z2⟩ := l1Byte h2 hc2
    obtain ⟨w, i4, h4, e4, hc4, w1, w2⟩ := l1Byte h3 hc3
    simp only [e1, e2, e3, e4, Option.bind_some]
    rw [if_neg (by omega), w64 (x := x * 16777216) (by omega) (by omega), w64 (x := y * 65536) (by omega) (by omega), w64 (x := x * 16777216 + y * 65536) (by omega) (by omega), w64 (x := z * 256) (by omega) (by omega), w64 (x := x * 16777216 + y * 65536 + z * 256) (by omega) (by omega), w64 (x := x * 16777216 + y * 65536 + z * 256 + w) (by omega) (by omega)]
    have h5 : 0 ≤ x * 16777216 + y * 65536 + z * 256 + w := by omega
    refine ⟨_, _, _, rfl, hc4, ?_, ?_, by omega⟩
    · rw [Int.tmod_eq_emod_of_nonneg h5]; exact Int.emod_nonneg _ (by omega)
    · intro _; rw [Int.tmod_eq_emod_of_nonneg h5]; exact Int.emod_lt_of_pos _ (by omega)
theorem l1PickInt {l : List Int} {i : Int} (h : Int) (xs : List Int) (hc : Cur l i) (hx : 0 < xs.length) : ∃ r i' h', spec_l1PickInt.f l i h xs = some (r, i', h') ∧ Cur l i' ∧ r ∈ xs := by
  unfold spec_l1PickInt.f
  obtain ⟨r, i', h', e, hc', h1, h2, _⟩ := l1Below h (xs.length : Int) hc
  rw [e]
  simp only [Option.bind_some]
  have h3 := h2 (by omega)
  rw [if_pos h1, if_pos h3]
  exact ⟨_, _, _, rfl, hc', rd_mem h1 h3⟩
theorem wrap_i64_range (x : Int) : I64 (wrap64 x) := by unfold I64 wrap64; omega
theorem l1Whole_l0 {l : List Int} : ∀ (d n : Nat) (x i h : Int), n + d = 8 → I64 x → Cur l i → ∃ r i' h', Ev (fun k => spec_l1Whole.l0 k x (n : Int) l i h) (r, i', h') ∧ Cur l i' ∧ I64 r := by
  intro d
  induction d with
  | zero =>
    intro n x i h hn hx hc
    refine ⟨x, i, h, ev_end fun k => ?_, hc, hx⟩
    simp only [spec_l1Whole.l0]
    rw [if_neg (by omega)]
  | succ d ih =>
    intro n x i h hn hx hc
    obtain ⟨b, i1, h1, e1, hc1, _⟩ := l1Byte h hc
    obtain ⟨r, i2, h2, e2, hc2, hr⟩ := ih (n + 1) (wrap64 ((wrap64 (x * 256)) + b)) i1 h1 (by omega) (wrap_i64_range _) hc1
    refine ⟨r, i2, h2, Ev.step (fun k => ?_) e2, hc2, hr⟩
    simp only [spec_l1Whole.l0, e1, Option.bind_some]
    rw [if_pos (by omega), w64 (x := (n : Int) + 1) (by omega) (by omega)]
    rfl
theorem l1Whole {l : List Int} {i : Int} (h : Int) (hc : Cur l i) : ∃ r i' h', Ev (fun k => spec_l1Whole.f k l i h) (r, i', h') ∧ Cur l i' ∧ I64 r := by
  unfold spec_l1Whole.f
  obtain ⟨a, i1, h1, e1, hc1, a1, a2, _⟩ := l1Below h 4 hc
  rw [e1]
  simp only [Option.bind_some]
  by_cases c0 : a = 0
  · obtain ⟨r, i2, h2, e2, hc2, hr⟩ := l1PickInt h1 ([0, 1, (-1), 9, 10, 999, 1000, 2147483647, (-2147483648), 3037000499, 3037000500, 9223372036854775807, (-9223372036854775807), (-9223372036854775808)] : List Int) hc1 (by simp)
    refine ⟨r, i2, h2, ev_pos c0 ?_, hc2, ?_⟩
    · rw [e2]; exact Ev.now _
    · simp only [List.mem_cons, List.not_mem_nil, or_false] at hr
      unfold I64; omega
  by_cases c1 : a = 1
  · obtain ⟨r, i2, h2, e2, hc2, hr⟩ := l1Whole_l0 8 0 0 i1 h1 (by omega) ⟨by decide, by decide⟩ hc1
    exact ⟨r, i2, h2, ev_neg c0 (ev_pos c1 e2), hc2, hr⟩
  by_cases c2 : a = 2
  · obtain ⟨r, i2, h2, e2, hc2, _⟩ := l1Below h1 1000000 hc1
    refine ⟨wrap64 (r - 500000), i2, h2, ev_neg c0 (ev_neg c1 (ev_pos c2 ?_)), hc2, wrap_i64_range _⟩
    rw [e2]; exact Ev.now _
  · obtain ⟨r, i2, h2, e2, hc2, _⟩ := l1Below h1 41 hc1
    refine ⟨wrap64 (r - 20), i2, h2, ev_neg c0 (ev_neg c1 (ev_neg c2 ?_)), hc2, wrap_i64_range _⟩
    rw [e2]; exact Ev.now _
theorem l1Once {l : List Int} {i : Int} (h : Int) (n : Int) (hc : Cur l i) : ∃ r i' h', spec_l1Once.f l i h n = some (r, i', h') ∧ Cur l i' := by
  unfold spec_l1Once.f
  obtain ⟨a, i1, h1, e1, c1, _⟩ := l1Below h n hc
  rw [e1]
  exact ⟨_, _, _, rfl, c1⟩
theorem SOk.snoc {l : List S32} (h : SOk l) {x : S32} (h0 : I64 x.f0) (h1 : I64 x.f1) : SOk (l ++ [x]) := by
  intro y hy
  rcases List.mem_append.1 hy with hy | hy
  · exact h y hy
  · simp only [List.mem_singleton] at hy
    subst hy; exact ⟨h0, h1⟩
theorem SOk.set {l : List S32} (h : SOk l) {x : S32} (h0 : I64 x.f0) (h1 : I64 x.f1) (n : Nat) : SOk (l.set n x) := by
  intro y hy
  rcases List.mem_or_eq_of_mem_set hy with hy | rfl
  · exact h y hy
  · exact ⟨h0, h1⟩
theorem l13Hist_j1 {l : List Int} (xs : List S32) (hx : SOk xs) (b : Bool) {i : Int} (h : Int) (hc : Cur l i) (hp : b = true → 0 < xs.length) :
    ∃ ys i' h', Ev (fun k => spec_l13Hist.j1 k xs (xs.length : Int) b l i h) (ys, i', h') ∧ Cur l i' ∧ SOk ys ∧ ys.length = xs.length := by
  cases b with
  | false =>
    refine ⟨xs, i, h, ev_succ ?_, hc, hx, rfl⟩
    simp only [spec_l13Hist.j1]
    exact ev_neg (by decide) (Ev.now _)
  | true =>
    have hpos := hp rfl
    obtain ⟨a, i1, h1, e1, c1, a1, a2, _⟩ := l1Below h (xs.length : Int) hc
    have a3 := a2 (by omega)
    obtain ⟨u, i2, h2, e2, c2, u1⟩ := l1Whole h1 c1
    obtain ⟨v, i3, h3, e3, c3, v1⟩ := l1Whole h2 c2
    refine ⟨xs.set a.toNat ⟨u, v⟩, i3, h3, ev_succ ?_, c3, hx.set u1 v1 _, by simp⟩
    simp only [spec_l13Hist.j1, e1, Option.bind_some]
    exact ev_pos trivial (Ev.bind e2 (Ev.bind e3 (ev_pos a1 (ev_pos a3 (Ev.now _)))))
theorem l13Hist_l0 {l : List Int} (N : Nat) (hN : N ≤ 5) : ∀ (d n : Nat) (xs : List S32) (i h : Int), n + d = N → xs.length = n → SOk xs → Cur l i →
    ∃ ys i' h', Ev (fun k => spec_l13Hist.l0 k xs (N : Int) (n : Int) l i h) (ys, i', h') ∧ Cur l i' ∧ SOk ys ∧ ys.length = N := by
  intro d
  induction d with
  | zero =>
    intro n xs i h hn hl hx hc
    obtain rfl : n = N := by omega
    subst hl
    by_cases h0 : (xs.length : Int) > 0
    · obtain ⟨b, i1, h1, e1, c1⟩ := l1Once h 8 hc
      obtain ⟨ys, i2, h2, e2, c2, hy, hl⟩ := l13Hist_j1 xs hx b h1 c1 (fun _ => by omega)
      refine ⟨ys, i2, h2, ev_succ ?_, c2, hy, hl⟩
      simp only [spec_l13Hist.l0, e1, Option.bind_some]
      exact ev_neg (by omega) (ev_pos h0 e2)
    · obtain ⟨ys, i2, h2, e2, c2, hy, hl⟩ := l13Hist_j1 xs hx false h hc (fun z => by simp at z)
      refine ⟨ys, i2, h2, ev_succ ?_, c2, hy, hl⟩
      simp only [spec_l13Hist.l0]
      exact ev_neg (by omega) (ev_neg h0 e2)
  | succ d ih =>
    intro n xs i h hn hl hx hc
    obtain ⟨a, i1, h1, e1, c1, a1, a2, _⟩ := l1Below h 5 hc
    obtain ⟨b, i2, h2, e2, c2, _⟩ := l1Below h1 2001 c1
    have a3 := a2 (by omega)
    obtain ⟨ys, i3, h3, e3, c3, hy, hl'⟩ := ih (n + 1) (xs ++ [⟨a, wrap64 (b - 1000)⟩]) i2 h2 (by omega) (by simp [hl]) (hx.snoc (by unfold I64; simp only; omega) (wrap_i64_range _)) c2
    refine ⟨ys, i3, h3, ev_succ ?_, c3, hy, hl'⟩
    simp only [spec_l13Hist.l0, e1, e2, Option.bind_some]
    refine ev_pos (by omega) (ev_pos (by omega) ?_)
    rw [w64 (x := (n : Int) + 1) (by omega) (by omega)]
    exact e3
theorem l13Hist {l : List Int} {i : Int} (h : Int) (hc : Cur l i) : ∃ ys i' h', Ev (fun k => spec_l13Hist.f k l i h) (ys, i', h') ∧ Cur l i' ∧ SOk ys ∧ ys.length ≤ 5 := by
  unfold spec_l13Hist.f
  obtain ⟨a, i1, h1, e1, c1, a1, a2, _⟩ := l1Below h 6 hc
  have a3 := a2 (by omega)
  rw [e1]
  simp only [Option.bind_some]
  obtain ⟨ys, i2, h2, e2, c2, hy, hl⟩ := l13Hist_l0 (l := l) a.toNat (by omega) a.toNat 0 [] i1 h1 (by omega) rfl (fun x hx => by simp at hx) c1
  rw [Int.toNat_of_nonneg a1] at e2
  exact ⟨ys, i2, h2, e2, c2, hy, by omega⟩
theorem drawCands_l0 {l : List Int} (N : Nat) (hN : N ≤ 8) : ∀ (d n : Nat) (hs : List (List S32)) (i h : Int), n + d = N → hs.length = n → (∀ x ∈ hs, x.length ≤ 16 ∧ SOk x) → Cur l i →
    ∃ ys least, Ev (fun k => spec_DrawCandsOf.l0 k hs (N : Int) (n : Int) l i h) (ys, least) ∧ ys.length = N ∧ ∀ x ∈ ys, x.length ≤ 16 ∧ SOk x := by
  intro d
  induction d with
  | zero =>
    intro n hs i h hn hl hx hc
    obtain ⟨b, i2, h2, e2, c2, _⟩ := l1PickInt h ([1, 1, 2, 3, 0, (-1), 9223372036854775807] : List Int) hc (by simp)
    refine ⟨hs, b, ev_succ ?_, by omega, hx⟩
    simp only [spec_DrawCandsOf.l0, e2, Option.bind_some]
    exact ev_neg (by omega) (Ev.now _)
  | succ d ih =>
    intro n hs i h hn hl hx hc
    have hw : wrap64 ((n : Int) + 1) = ((n + 1 : Nat) : Int) := w64 (by omega) (by omega)
    obtain ⟨y, i2, h2, e2, c2, y1, y2⟩ := l13Hist h hc
    obtain ⟨ys, least, e3, l3, x3⟩ := ih (n + 1) (hs ++ [y]) i2 h2 (by omega) (by simp [hl]) (fun x hx' => by
      rcases List.mem_append.1 hx' with h' | h'
      · exact hx x h'
      · simp only [List.mem_singleton] at h'
        subst h'
        exact ⟨by omega, y1⟩) c2
    refine ⟨ys, least, ev_succ ?_, l3, x3⟩
    simp only [spec_DrawCandsOf.l0, hw]
    exact ev_pos (by omega) (Ev.bind e2 (ev_pos (by omega) e3))
theorem drawCandsOf (l : List Int) (hl : l.length ≤ 35184372088832) : ∃ hists least, Ev (fun k => spec_DrawCandsOf.f k l) (hists, least) ∧ hists.length ≤ 16 ∧ ∀ x ∈ hists, x.length ≤ 16 ∧ SOk x := by
  unfold spec_DrawCandsOf.f
  obtain ⟨h, e1⟩ := l1New l hl
  obtain ⟨a, i1, h1, e2, c1, a1, a2, _⟩ := l1Below h 4 (cur0 l hl)
  have a3 := a2 (by decide)
  obtain ⟨ys, least, e3, l3, x3⟩ := drawCands_l0 (l := l) a.toNat (by omega) a.toNat 0 [] i1 h1 (by omega) rfl (fun x hx => by simp at hx) c1
  refine ⟨ys, least, Ev.bind e1 ?_, by omega, x3⟩
  simp only [e2, Option.bind_some]
  rw [Int.toNat_of_nonneg a1] at e3
  exact e3
/-- Two slots together. -/
def plusS (n g n' g' : Int) : Int × Int × Bool := if (addI n n').2 = true ∧ (addI g g').2 = true then ((addI n n').1, (addI g g').1, true) else (0, 0, false)
theorem plusS_i64 (n g n' g' : Int) : I64 (plusS n g n' g').1 ∧ I64 (plusS n g n' g').2.1 := by
  unfold plusS
  split
  · exact ⟨addI_i64 _ _, addI_i64 _ _⟩
  · exact ⟨⟨by decide, by decide⟩, ⟨by decide, by decide⟩⟩
theorem plusS_true {n g n' g' : Int} (h : (plusS n g n' g').2.2 = true) : plusS n g n' g' = (n + n', g + g', true) ∧ I64 (n + n') ∧ I64 (g + g') := by
  unfold plusS at *
  by_cases c : (addI n n').2 = true ∧ (addI g g').2 = true
  · rw [if_pos c]
    obtain ⟨c1, c2⟩ := c
    unfold addI at *
    split at c1
    · rename_i r1
      split at c2
      · rename_i r2
        rw [if_pos r1, if_pos r2]
        exact ⟨rfl, r1, r2⟩
      · simp at c2
    · simp at c1
  · rw [if_neg c] at h
    simp at h
/-- The sums of all beginnings, behind what is there; none where one has no room. -/
def preS : List S32 → Int → Int → List S32 → List S32 × Bool
  | [], _, _, acc => (acc, true)
  | x :: l, n, g, acc => if (plusS n g x.f0 x.f1).2.2 = true then preS l (plusS n g x.f0 x.f1).1 (plusS n g x.f0 x.f1).2.1 (acc ++ [⟨(plusS n g x.f0 x.f1).1, (plusS n g x.f0 x.f1).2.1⟩]) else ([], false)
def prefixS (l : List S32) : List S32 × Bool := preS l 0 0 []
theorem preS_length (l : List S32) (n g : Int) (acc : List S32) : (preS l n g acc).1.length ≤ acc.length + l.length ∧ ((preS l n g acc).2 = true → (preS l n g acc).1.length = acc.length + l.length) := by
  induction l generalizing n g acc with
  | nil => simp [preS]
  | cons x l ih =>
    simp only [preS]
    split
    · have := ih (plusS n g x.f0 x.f1).1 (plusS n g x.f0 x.f1).2.1 (acc ++ [⟨(plusS n g x.f0 x.f1).1, (plusS n g x.f0 x.f1).2.1⟩])
      simp at this ⊢
      exact ⟨by omega, fun h => by have := this.2 h; omega⟩
    · simp
theorem prefixS_length (l : List S32) : (prefixS l).1.length ≤ l.length ∧ ((prefixS l).2 = true → (prefixS l).1.length = l.length) := by
  have := preS_length l 0 0 []
  simpa [prefixS] using this
/-- Plain sums. -/
def sums : Int → Int → List S32 → List S32
  | _, _, [] => []
  | n, g, x :: l => ⟨n + x.f0, g + x.f1⟩ :: sums (n + x.f0) (g + x.f1) l
theorem preS_sums (l : List S32) (n g : Int) (acc : List S32) (h : (preS l n g acc).2 = true) : (preS l n g acc).1 = acc ++ sums n g l ∧ SOk (sums n g l) := by
  induction l generalizing n g acc with
  | nil => exact ⟨by simp [preS, sums], fun x hx => by simp [sums] at hx⟩
  | cons x l ih =>
    simp only [preS] at h ⊢
    split at h
    · rename_i c
      rw [if_pos c]
      obtain ⟨e, r1, r2⟩ := plusS_true c
      rw [e] at h ⊢
      simp only at h ⊢
      obtain ⟨h1, h2⟩ := ih _ _ _ h
      refine ⟨by rw [h1]; simp [sums], fun y hy => ?_⟩
      simp only [sums, List.mem_cons] at hy
      rcases hy with rfl | hy
      · exact ⟨r1, r2⟩
      · exact h2 y hy
    · simp at h
theorem prefixS_sums {l : List S32} (h : (prefixS l).2 = true) : (prefixS l).1 = sums 0 0 l ∧ SOk (sums 0 0 l) := by
  have := preS_sums l 0 0 [] h
  simpa [prefixS] using this
theorem prefixS_false {l : List S32} (h : (prefixS l).2 ≠ true) : (prefixS l).1 = [] := by
  have key : ∀ (l : List S32) (n g : Int) (a : List S32), (preS l n g a).2 ≠ true → (preS l n g a).1 = [] := by
    intro l
    induction l with
    | nil => intro n g a h; simp [preS] at h
    | cons x l ih =>
      intro n g a h
      simp only [preS] at h ⊢
      split at h
      · rename_i c; rw [if_pos c]; exact ih _ _ _ h
      · rename_i c; rw [if_neg c]
  exact key l 0 0 [] h
theorem sums_length (n g : Int) (l : List S32) : (sums n g l).length = l.length := by
  induction l generalizing n g with
  | nil => rfl
  | cons x l ih => simp [sums, ih]
theorem sums_next (l : List S32) (n g : Int) (j : Nat) (x p : S32) (hx : l[j + 1]? = some x) (hp : (sums n g l)[j]? = some p) : (sums n g l)[j + 1]? = some ⟨p.f0 + x.f0, p.f1 + x.f1⟩ := by
  induction l generalizing n g j with
  | nil => simp at hx
  | cons y l ih =>
    simp only [sums] at hp ⊢
    cases j with
    | zero =>
      simp only [List.getElem?_cons_zero, Option.some.injEq] at hp
      subst hp
      cases l with
      | nil => simp at hx
      | cons z l =>
        simp only [List.getElem?_cons_succ, List.getElem?_cons_zero, Option.some.injEq] at hx
        subst hx
        simp [sums]
    | succ j =>
      simp only [List.getElem?_cons_succ] at hp hx ⊢
      exact ih _ _ j hx hp
/-- One slot less another. -/
def minusS (n g n' g' : Int) : Int × Int × Bool := if (subI n n').2 = true ∧ (subI g g').2 = true then ((subI n n').1, (subI g g').1, true) else (0, 0, false)
theorem minusS_i64 (n g n' g' : Int) : I64 (minusS n g n' g').1 ∧ I64 (minusS n g n' g').2.1 := by
  unfold minusS
  split
  · exact ⟨subI_i64 _ _, subI_i64 _ _⟩
  · exact ⟨⟨by decide, by decide⟩, ⟨by decide, by decide⟩⟩
/-- The sum of all slots. -/
def totS (l : List S32) : Int × Int × Bool :=
  if (prefixS l).2 = true then (if (prefixS l).1.length = 0 then (0, 0, true) else (((prefixS l).1.getD ((prefixS l).1.length - 1) z32).f0, ((prefixS l).1.getD ((prefixS l).1.length - 1) z32).f1, true)) else (0, 0, false)
theorem specAddInt {a b : Int} (ha : I64 a) (hb : I64 b) : spec_AddInt.f a b = some (addI a b) := by
  unfold I64 at ha hb
  unfold spec_AddInt.f addI
  by_cases h1 : b > 0
  · rw [if_pos h1, w64 (x := 9223372036854775807 - b) (by omega) (by omega)]
    by_cases h2 : a > 9223372036854775807 - b
    · rw [if_pos h2, if_neg (by omega)]
    · rw [if_neg h2, if_neg (by omega), if_pos (by omega), w64 (by omega) (by omega)]
  · rw [if_neg h1]
    by_cases h2 : b < 0
    · rw [if_pos h2, w64 (x := -9223372036854775808 - b) (by omega) (by omega)]
      by_cases h3 : a < -9223372036854775808 - b
      · rw [if_pos h3, if_neg (by omega)]
      · rw [if_neg h3, if_pos (by omega), w64 (by omega) (by omega)]
    · rw [if_neg h2, if_pos (by omega), w64 (by omega) (by omega)]
theorem specAdd13 {n g n' g' : Int} (h1 : I64 n) (h2 : I64 g) (h3 : I64 n') (h4 : I64 g') : spec_l13Add.f n g n' g' = some (plusS n g n' g') := by
  unfold spec_l13Add.f plusS
  simp only [specAddInt h1 h3, specAddInt h2 h4, Option.bind_some]
  by_cases a : (addI n n').2 = true
  · by_cases b : (addI g g').2 = true
    · rw [if_pos a, if_pos b, if_pos ⟨a, b⟩]
    · rw [if_pos a, if_neg b, if_neg (fun z => b z.2)]
  · rw [if_neg a, if_neg (fun z => a z.1)]
theorem specPrefix_l0 (l : List S32) (hl : l.length ≤ 1048576) (hx : SOk l) : ∀ (d n : Nat) (acc : List S32) (a b : Int), n + d = l.length → acc.length = n → I64 a → I64 b →
    Ev (fun k => spec_Prefix.l0 k l acc (n : Int) a b) (preS (l.drop n) a b acc) := by
  intro d
  induction d with
  | zero =>
    intro n acc a b hn ha h1 h2
    obtain rfl : n = l.length := by omega
    refine ev_succ ?_
    simp only [spec_Prefix.l0]
    refine ev_neg (by omega) (ev_of ?_)
    rw [List.drop_length]
    rfl
  | succ d ih =>
    intro n acc a b hn ha h1 h2
    refine ev_succ ?_
    have e1 : l[n]? = some l[n] := List.getElem?_eq_getElem (by omega)
    have d1 : l.drop n = l[n] :: l.drop (n + 1) := List.drop_eq_getElem_cons (by omega)
    simp only [spec_Prefix.l0, rdi, gd_nat z32 e1, specAdd13 h1 h2 (hx.at e1).1 (hx.at e1).2, Option.bind_some]
    refine ev_pos (by omega) (ev_pos (by omega) ?_)
    rw [d1]
    simp only [preS]
    by_cases c1 : (plusS a b l[n].f0 l[n].f1).2.2 = true
    · rw [if_pos c1]
      refine ev_pos c1 (ev_pos (by omega) ?_)
      rw [w64 (x := (n : Int) + 1) (by omega) (by omega)]
      exact ih (n + 1) _ _ _ (by omega) (by simp [ha]) (plusS_i64 _ _ _ _).1 (plusS_i64 _ _ _ _).2
    · rw [if_neg c1]
      exact ev_neg c1 (Ev.now _)
theorem specPrefix (l : List S32) (hl : l.length ≤ 1048576) (hx : SOk l) : Ev (fun k => spec_Prefix.f k l) (prefixS l) :=
  specPrefix_l0 l hl hx l.length 0 [] 0 0 (by omega) rfl ⟨by decide, by decide⟩ ⟨by decide, by decide⟩
theorem specTotal (l : List S32) (hl : l.length ≤ 1048576) (hx : SOk l) : Ev (fun k => spec_TotalOf.f k l) (totS l) := by
  unfold spec_TotalOf.f totS
  refine Ev.bind (specPrefix l hl hx) ?_
  have hp := (prefixS_length l).1
  by_cases c : (prefixS l).2 = true
  · refine ev_pos c ?_
    rw [if_pos c]
    by_cases z : (prefixS l).1.length = 0
    · refine ev_pos (by omega) (ev_of ?_)
      rw [if_pos z, c]
    · refine ev_neg (by omega) ?_
      rw [w64 (by omega) (by omega)]
      refine ev_pos (by omega) (ev_pos (by omega) (ev_of ?_))
      rw [if_neg z]
      have e : (((prefixS l).1.length : Int) - 1).toNat = (prefixS l).1.length - 1 := by omega
      simp only [rdi, e]
  · refine ev_neg c (ev_of ?_)
    rw [if_neg c]
    simp only [Bool.not_eq_true] at c
    rw [c]
theorem cmpInt (a b : Int) : cmp_Compare_int.f a b = some (if a < b then -1 else if a > b then 1 else 0) := by
  unfold cmp_Compare_int.f cmp_isNaN_int.f
  simp only [Option.bind_some, bne_self_eq_false, Bool.false_eq_true, if_false]
  split
  · rfl
  · split <;> rfl
theorem cmpOr2 (a b : Int) : Ev (fun k => cmp_Or_int.f k [a, b]) (if a = 0 then b else a) := by
  have h2 : Ev (fun k => cmp_Or_int.l0 k 0 [a, b] 2 2) 0 := ev_end fun k => by
    simp only [cmp_Or_int.l0]
    rw [if_neg (by omega)]
  have w1 : wrap64 (1 + 1) = 2 := w64 (by omega) (by omega)
  have w0 : wrap64 (0 + 1) = 1 := w64 (by omega) (by omega)
  have h1 : Ev (fun k => cmp_Or_int.l0 k 0 [a, b] 2 1) b := by
    by_cases hb : b = 0
    · subst hb
      refine Ev.step (fun k => ?_) h2
      simp only [cmp_Or_int.l0]
      rw [if_pos (by omega), if_pos (by omega), if_pos (by simp), if_pos (by simp [rd]), w1]
    · refine ev_end fun k => ?_
      simp only [cmp_Or_int.l0]
      rw [if_pos (by omega), if_pos (by omega), if_pos (by simp), if_neg (by simpa [rd] using hb)]
      simp [rd]
  by_cases ha : a = 0
  · rw [if_pos ha]
    subst ha
    refine Ev.step (fun k => ?_) h1
    simp only [cmp_Or_int.f, cmp_Or_int.l0, List.length_cons, List.length_nil]
    rw [if_pos (by omega), if_pos (by omega), if_pos (by simp), if_pos (by simp [rd]), w0]
    rfl
  · rw [if_neg ha]
    refine ev_end fun k => ?_
    simp only [cmp_Or_int.f, cmp_Or_int.l0, List.length_cons, List.length_nil]
    rw [if_pos (by omega), if_pos (by omega), if_pos (by simp), if_neg (by simpa [rd] using ha)]
    simp [rd]
def LessPair (f b f' b' : Int) : Prop := f < f' ∨ f = f' ∧ b < b'
theorem implCandLess (f b n g n' g' f' b' m h m' h' : Int) : Ev (fun k => impl_CandLess.f k f b n g n' g' f' b' m h m' h') (dec (LessPair f b f' b')) := by
  unfold impl_CandLess.f
  simp only [cmpInt, Option.bind_some]
  refine Ev.bind (cmpOr2 _ _) (ev_of ?_)
  rw [← dec_eq]
  congr 1
  refine dec_congr ?_
  unfold LessPair
  split
  · split at * <;> (try split at *) <;> (try split at *) <;> omega
  · split at * <;> (try split at *) <;> (try split at *) <;> omega
/-- What is left of the last sum without the b-th. -/
def difS (S : List S32) (b : Nat) : Int × Int × Bool := minusS (S.getD (S.length - 1) z32).f0 (S.getD (S.length - 1) z32).f1 (S.getD b z32).f0 (S.getD b z32).f1
def candAt (f b : Nat) (S : List S32) : S41 := ⟨(f : Int), (b : Int), ⟨(S.getD b z32).f0, (S.getD b z32).f1⟩, ⟨(difS S b).1, (difS S b).2.1⟩⟩
def addC (f b : Nat) (least : Int) (S : List S32) (acc : List S41) : List S41 :=
  if (S.getD b z32).f0 ≥ least ∧ (difS S b).1 ≥ least then acc ++ [candAt f b S] else acc
def binsGo (f : Nat) (least : Int) (S : List S32) : Nat → Nat → List S41 → List S41 × Bool
  | 0, _, acc => (acc, true)
  | d + 1, b, acc => if (difS S b).2.2 = true then binsGo f least S d (b + 1) (addC f b least S acc) else ([], false)
def finC (K : List S41 → List S41) (r : List S41 × Bool) : List S41 := if r.2 = true then K r.1 else []
theorem binsGo_succ (f : Nat) (least : Int) (S : List S32) (d b : Nat) (acc : List S41) : binsGo f least S (d + 1) b acc = if (difS S b).2.2 = true then binsGo f least S d (b + 1) (addC f b least S acc) else ([], false) := rfl
def candsGo (least : Int) : List (List S32) → Nat → List S41 → List S41
  | [], _, acc => acc
  | h :: hs, f, acc => if (prefixS h).2 = true then (if (binsGo f least (prefixS h).1 ((prefixS h).1.length - 1) 0 acc).2 = true then candsGo least hs (f + 1) (binsGo f least (prefixS h).1 ((prefixS h).1.length - 1) 0 acc).1 else []) else []
theorem addC_length (f b : Nat) (least : Int) (S : List S32) (acc : List S41) : (addC f b least S acc).length ≤ acc.length + 1 := by
  unfold addC
  split <;> simp
theorem binsGo_length (f : Nat) (least : Int) (S : List S32) (d b : Nat) (acc : List S41) : (binsGo f least S d b acc).1.length ≤ acc.length + d := by
  induction d generalizing b acc with
  | zero => simp [binsGo]
  | succ d ih =>
    simp only [binsGo]
    split
    · have h1 := ih (b + 1) (addC f b least S acc)
      have h2 := addC_length f b least S acc
      omega
    · simp
theorem prefS_ok (h : List S32) : SOk (prefixS h).1 := by
  by_cases c : (prefixS h).2 = true
  · obtain ⟨a, b⟩ := prefixS_sums c
    rw [a]; exact b
  · rw [prefixS_false c]
    intro x hx; simp at hx
theorem getD_ok {l : List S32} (h : SOk l) (j : Nat) : I64 (l.getD j z32).f0 ∧ I64 (l.getD j z32).f1 := by
  rw [List.getD_eq_getElem?_getD]
  cases e : l[j]? with
  | none => exact ⟨⟨by decide, by decide⟩, ⟨by decide, by decide⟩⟩
  | some x => exact h.at e
theorem rdS (xs : List S32) (n : Nat) : rd_T32 xs (n : Int) = xs.getD n z32 := rfl
theorem rdLS (xs : List (List S32)) (n : Nat) : rd_L3 xs (n : Int) = xs.getD n [] := rfl
/-- What is known of a candidate in the list. -/
def GoodC (hists : List (List S32)) (least : Int) (c : S41) : Prop :=
  ∃ f b : Nat, f < hists.length ∧ (prefixS (hists.getD f [])).2 = true ∧ b + 1 < (prefixS (hists.getD f [])).1.length ∧ (difS (prefixS (hists.getD f [])).1 b).2.2 = true ∧
    c = candAt f b (prefixS (hists.getD f [])).1 ∧ c.f2.f0 ≥ least ∧ c.f3.f0 ≥ least
def Below2 (x : S41) (f b : Nat) : Prop := LessPair x.f0 x.f1 (f : Int) (b : Int)
def Sorted2 (l : List S41) : Prop := l.Pairwise (fun x y => LessPair x.f0 x.f1 y.f0 y.f1)
theorem addC_good {hists : List (List S32)} {least : Int} {f b : Nat} {acc : List S41} (hf : f < hists.length) (hp : (prefixS (hists.getD f [])).2 = true) (hb : b + 1 < (prefixS (hists.getD f [])).1.length) (hd : (difS (prefixS (hists.getD f [])).1 b).2.2 = true)
    (h1 : ∀ x ∈ acc, GoodC hists least x) (h2 : ∀ x ∈ acc, Below2 x f b) (h3 : Sorted2 acc) :
    (∀ x ∈ addC f b least (prefixS (hists.getD f [])).1 acc, GoodC hists least x) ∧ (∀ x ∈ addC f b least (prefixS (hists.getD f [])).1 acc, Below2 x f (b + 1)) ∧ Sorted2 (addC f b least (prefixS (hists.getD f [])).1 acc) := by
  have up : ∀ x, Below2 x f b → Below2 x f (b + 1) := fun x h => by
    unfold Below2 LessPair at *
    omega
  unfold addC
  split
  · rename_i c
    refine ⟨fun x hx => ?_, fun x hx => ?_, ?_⟩
    · rcases List.mem_append.1 hx with hx | hx
      · exact h1 x hx
      · simp only [List.mem_singleton] at hx
        subst hx
        exact ⟨f, b, hf, hp, hb, hd, rfl, c.1, c.2⟩
    · rcases List.mem_append.1 hx with hx | hx
      · exact up x (h2 x hx)
      · simp only [List.mem_singleton] at hx
        subst hx
        exact Or.inr ⟨rfl, by show (b : Int) < ((b + 1 : Nat) : Int); omega⟩
    · unfold Sorted2
      rw [List.pairwise_append]
      refine ⟨h3, List.pairwise_singleton _ _, fun x hx y hy => ?_⟩
      simp only [List.mem_singleton] at hy
      subst hy
      exact h2 x hx
  · exact ⟨h1, fun x hx => up x (h2 x hx), h3⟩
theorem binsGo_good {hists : List (List S32)} {least : Int} {f : Nat} (hf : f < hists.length) (hp : (prefixS (hists.getD f [])).2 = true) (d b : Nat) (acc : List S41) (hb : b + d = (prefixS (hists.getD f [])).1.length - 1)
    (h1 : ∀ x ∈ acc, GoodC hists least x) (h2 : ∀ x ∈ acc, Below2 x f b) (h3 : Sorted2 acc) :
    (∀ x ∈ (binsGo f least (prefixS (hists.getD f [])).1 d b acc).1, GoodC hists least x) ∧ (∀ x ∈ (binsGo f least (prefixS (hists.getD f [])).1 d b acc).1, Below2 x (f + 1) 0) ∧ Sorted2 (binsGo f least (prefixS (hists.getD f [])).1 d b acc).1 := by
  induction d generalizing b acc with
  | zero =>
    refine ⟨h1, fun x hx => ?_, h3⟩
    have := h2 x hx
    unfold Below2 LessPair at *
    omega
  | succ d ih =>
    simp only [binsGo]
    split
    · rename_i c
      obtain ⟨a1, a2, a3⟩ := addC_good hf hp (by omega) c h1 h2 h3
      exact ih (b + 1) _ (by omega) a1 a2 a3
    · exact ⟨fun x hx => by simp at hx, fun x hx => by simp at hx, List.Pairwise.nil⟩
theorem candsGo_good {hists : List (List S32)} {least : Int} (d f : Nat) (acc : List S41) (hd : f + d = hists.length) (h1 : ∀ x ∈ acc, GoodC hists least x) (h2 : ∀ x ∈ acc, Below2 x f 0) (h3 : Sorted2 acc) :
    (∀ x ∈ candsGo least (hists.drop f) f acc, GoodC hists least x) ∧ Sorted2 (candsGo least (hists.drop f) f acc) := by
  induction d generalizing f acc with
  | zero =>
    rw [List.drop_eq_nil_of_le (by omega)]
    exact ⟨h1, h3⟩
  | succ d ih =>
    have d1 : hists.drop f = hists.getD f [] :: hists.drop (f + 1) := by
      rw [List.drop_eq_getElem_cons (by omega), List.getD_eq_getElem?_getD, List.getElem?_eq_getElem (by omega)]
      rfl
    rw [d1]
    simp only [candsGo]
    split
    · rename_i c
      split
      · obtain ⟨a1, a2, a3⟩ := binsGo_good (least := least) (show f < hists.length by omega) c ((prefixS (hists.getD f [])).1.length - 1) 0 acc (by omega) h1 h2 h3
        exact ih (f + 1) _ (by omega) a1 a2 a3
      · exact ⟨fun x hx => by simp at hx, List.Pairwise.nil⟩
    · exact ⟨fun x hx => by simp at hx, List.Pairwise.nil⟩
/-- Both sides of a candidate come to the whole. -/
theorem both_total {h : List S32} {b : Nat} (hp : (prefixS h).2 = true) (hb : b + 1 < (prefixS h).1.length) (hd : (difS (prefixS h).1 b).2.2 = true) :
    plusS ((prefixS h).1.getD b z32).f0 ((prefixS h).1.getD b z32).f1 (difS (prefixS h).1 b).1 (difS (prefixS h).1 b).2.1 = totS h := by
  have ok := prefS_ok h
  have l1 := getD_ok ok ((prefixS h).1.length - 1)
  unfold totS
  rw [if_pos hp, if_neg (by omega)]
  unfold difS minusS at hd ⊢
  generalize (prefixS h).1.getD ((prefixS h).1.length - 1) z32 = L at *
  generalize (prefixS h).1.getD b z32 = B at *
  split at hd
  · rename_i c
    rw [if_pos c]
    obtain ⟨c1, c2⟩ := c
    unfold subI at c1 c2 ⊢
    split at c1
    · rename_i r1
      split at c2
      · rename_i r2
        rw [if_pos r1, if_pos r2]
        unfold plusS addI
        simp only
        rw [show B.f0 + (L.f0 - B.f0) = L.f0 by omega, show B.f1 + (L.f1 - B.f1) = L.f1 by omega]
        rw [if_pos (show -9223372036854775808 ≤ L.f0 ∧ L.f0 ≤ 9223372036854775807 from l1.1), if_pos (show -9223372036854775808 ≤ L.f1 ∧ L.f1 ≤ 9223372036854775807 from l1.2)]
        rw [if_pos ⟨rfl, rfl⟩]
      · simp at c2
    · simp at c1
  · simp at hd
theorem implAddInt {a b : Int} (ha : I64 a) (hb : I64 b) : impl_AddInt.f a b = some (addI a b) := by
  unfold I64 at ha hb
  unfold impl_AddInt.f addI
  by_cases h : -9223372036854775808 ≤ a + b ∧ a + b ≤ 9223372036854775807
  · rw [if_pos h, w64 h.1 h.2]
    split
    · rename_i h1
      rw [if_neg]
      simp only [beq_iff_eq, decide_eq_decide] at h1
      simp only [bne_iff_ne, ne_eq, decide_eq_decide, Decidable.not_not]
      omega
    · rfl
  · rw [if_neg h]
    have h2 : a + b < -9223372036854775808 ∨ 9223372036854775807 < a + b := by omega
    rw [if_pos (by simp only [beq_iff_eq, decide_eq_decide]; omega)]
    rcases h2 with h2 | h2
    · rw [wrap_under h2 (by omega), if_pos]
      simp only [bne_iff_ne, ne_eq, decide_eq_decide]
      omega
    · rw [wrap_over h2 (by omega), if_pos]
      simp only [bne_iff_ne, ne_eq, decide_eq_decide]
      omega
theorem implPlus {n g n' g' : Int} (h1 : I64 n) (h2 : I64 g) (h3 : I64 n') (h4 : I64 g') : impl_Slot_plus.f n g n' g' = some (plusS n g n' g') := by
  unfold impl_Slot_plus.f plusS
  simp only [implAddInt h1 h3, implAddInt h2 h4, Option.bind_some]
  by_cases a : (addI n n').2 = true
  · by_cases b : (addI g g').2 = true
    · rw [if_pos a, if_pos b, if_pos ⟨a, b⟩]
    · rw [if_pos a, if_neg b, if_neg (fun z => b z.2)]
  · rw [if_neg a, if_neg (fun z => a z.1)]
theorem implPrefix_l0 (l : List S32) (hl : l.length ≤ 1048576) (hx : SOk l) : ∀ (d n : Nat) (acc : List S32) (a b : Int), n + d = l.length → acc.length = n → I64 a → I64 b →
    Ev (fun k => impl_Prefix.l0 k acc l (l.length : Int) (n : Int) a b) (preS (l.drop n) a b acc) := by
  intro d
  induction d with
  | zero =>
    intro n acc a b hn ha h1 h2
    obtain rfl : n = l.length := by omega
    refine ev_succ ?_
    simp only [impl_Prefix.l0]
    refine ev_neg (by omega) (ev_of ?_)
    rw [List.drop_length]
    rfl
  | succ d ih =>
    intro n acc a b hn ha h1 h2
    refine ev_succ ?_
    have e1 : l[n]? = some l[n] := List.getElem?_eq_getElem (by omega)
    have d1 : l.drop n = l[n] :: l.drop (n + 1) := List.drop_eq_getElem_cons (by omega)
    simp only [impl_Prefix.l0, rdi, gd_nat z32 e1, implPlus h1 h2 (hx.at e1).1 (hx.at e1).2, Option.bind_some]
    refine ev_pos (by omega) (ev_pos (by omega) (ev_pos (by omega) ?_))
    rw [d1]
    simp only [preS]
    by_cases c1 : (plusS a b l[n].f0 l[n].f1).2.2 = true
    · rw [if_pos c1]
      refine ev_pos c1 (ev_pos (by omega) ?_)
      rw [w64 (x := (n : Int) + 1) (by omega) (by omega)]
      exact ih (n + 1) _ _ _ (by omega) (by simp [ha]) (plusS_i64 _ _ _ _).1 (plusS_i64 _ _ _ _).2
    · rw [if_neg c1]
      exact ev_neg c1 (Ev.now _)
theorem implPrefix (l : List S32) (hl : l.length ≤ 1048576) (hx : SOk l) : Ev (fun k => impl_Prefix.f k l) (prefixS l) :=
  implPrefix_l0 l hl hx l.length 0 [] 0 0 (by omega) rfl ⟨by decide, by decide⟩ ⟨by decide, by decide⟩
theorem implSubInt {a b : Int} (ha : I64 a) (hb : I64 b) : impl_SubInt.f a b = some (subI a b) := by
  unfold I64 at ha hb
  unfold impl_SubInt.f subI
  by_cases h : -9223372036854775808 ≤ a - b ∧ a - b ≤ 9223372036854775807
  · rw [if_pos h, w64 h.1 h.2]
    split
    · rename_i h1
      rw [if_neg]
      simp only [bne_iff_ne, ne_eq, decide_eq_decide] at h1
      simp only [bne_iff_ne, ne_eq, decide_eq_decide, Decidable.not_not]
      omega
    · rfl
  · rw [if_neg h]
    have h2 : a - b < -9223372036854775808 ∨ 9223372036854775807 < a - b := by omega
    rw [if_pos (by simp only [bne_iff_ne, ne_eq, decide_eq_decide]; omega)]
    rcases h2 with h2 | h2
    · rw [wrap_under h2 (by omega), if_pos]
      simp only [bne_iff_ne, ne_eq, decide_eq_decide]
      omega
    · rw [wrap_over h2 (by omega), if_pos]
      simp only [bne_iff_ne, ne_eq, decide_eq_decide]
      omega
theorem implMinus {n g n' g' : Int} (h1 : I64 n) (h2 : I64 g) (h3 : I64 n') (h4 : I64 g') : impl_Slot_minus.f n g n' g' = some (minusS n g n' g') := by
  unfold impl_Slot_minus.f minusS
  simp only [implSubInt h1 h3, implSubInt h2 h4, Option.bind_some]
  by_cases a : (subI n n').2 = true
  · by_cases b : (subI g g').2 = true
    · rw [if_pos a, if_pos b, if_pos ⟨a, b⟩]
    · rw [if_pos a, if_neg b, if_neg (fun z => b z.2)]
  · rw [if_neg a, if_neg (fun z => a z.1)]
theorem implCands_l1 (k0 : Unit) (hists : List (List S32)) (least : Int) (f : Nat) (S : List S32) (hS : S.length ≤ 16) (ho : SOk S) (K : List S41 → List S41) (B : Nat) (hB : B ≤ 1048576)
    (next : ∀ acc : List S41, acc.length ≤ B → Ev (fun k => impl_CandsOf.l0 k least acc hists (hists.length : Int) (wrap64 ((f : Int) + 1))) (K acc)) :
    ∀ (d b : Nat) (acc : List S41), b + d = S.length - 1 → acc.length + d ≤ B → Ev (fun k => impl_CandsOf.l1 k least acc (f : Int) S (b : Int) hists (hists.length : Int) (f : Int)) (finC K (binsGo f least S d b acc)) := by
  intro d
  induction d with
  | zero =>
    intro b acc hb ha
    refine ev_succ ?_
    simp only [impl_CandsOf.l1, binsGo, finC, if_true]
    rw [w64 (x := (S.length : Int) - 1) (by omega) (by omega)]
    exact ev_neg (by omega) (next acc (by omega))
  | succ d ih =>
    intro b acc hb ha
    refine ev_succ ?_
    have e1 : (S.length : Int) - 1 = ((S.length - 1 : Nat) : Int) := by omega
    have hw : wrap64 ((b : Int) + 1) = ((b + 1 : Nat) : Int) := w64 (by omega) (by omega)
    have go := ih (b + 1)
    have o1 := getD_ok ho (S.length - 1)
    have o2 := getD_ok ho b
    rw [binsGo_succ]
    simp only [impl_CandsOf.l1]
    rw [w64 (x := (S.length : Int) - 1) (by omega) (by omega), e1]
    simp only [rdS, hw, implMinus o1.1 o1.2 o2.1 o2.2, Option.bind_some]
    refine ev_pos (by omega) (ev_pos (by omega) (ev_pos (by omega) (ev_pos (by omega) (ev_pos (by omega) ?_))))
    by_cases c : (difS S b).2.2 = true
    · refine ev_pos c ?_
      rw [if_pos c]
      unfold addC
      by_cases c1 : (S.getD b z32).f0 ≥ least
      · refine ev_pos c1 ?_
        by_cases c2 : (difS S b).1 ≥ least
        · refine ev_pos c2 (ev_pos (by omega) ?_)
          rw [if_pos ⟨c1, c2⟩]
          exact go _ (by omega) (by simp; omega)
        · rw [if_neg (fun z => c2 z.2)]
          exact ev_neg c2 (go _ (by omega) (by omega))
      · rw [if_neg (fun z => c1 z.1)]
        exact ev_neg c1 (go _ (by omega) (by omega))
    · refine ev_neg c (ev_of ?_)
      rw [if_neg c]
      rfl
theorem implCands_l0 (hists : List (List S32)) (least : Int) (hl : hists.length ≤ 16) (hh : ∀ h ∈ hists, h.length ≤ 16 ∧ SOk h) :
    ∀ (d f : Nat) (acc : List S41), f + d = hists.length → acc.length ≤ 16 * f → Ev (fun k => impl_CandsOf.l0 k least acc hists (hists.length : Int) (f : Int)) (candsGo least (hists.drop f) f acc) := by
  intro d
  induction d with
  | zero =>
    intro f acc hf ha
    have e0 : hists.drop f = [] := List.drop_eq_nil_of_le (by omega)
    rw [e0]
    refine ev_succ ?_
    simp only [impl_CandsOf.l0, candsGo]
    exact ev_neg (by omega) (Ev.now _)
  | succ d ih =>
    intro f acc hf ha
    have hx : hists[f]? = some hists[f] := List.getElem?_eq_getElem (by omega)
    have d1 : hists.drop f = hists[f] :: hists.drop (f + 1) := List.drop_eq_getElem_cons (by omega)
    have hg : hists.getD f [] = hists[f] := by rw [List.getD_eq_getElem?_getD, hx]; rfl
    have g1 := (hh _ (List.mem_of_getElem? hx)).1
    have pI := implPrefix hists[f] (Nat.le_trans g1 (by decide)) (hh _ (List.mem_of_getElem? hx)).2
    clear hh
    rw [d1]
    refine ev_succ ?_
    simp only [impl_CandsOf.l0, rdLS, hg, candsGo]
    refine ev_pos (by omega) (ev_pos (by omega) (ev_pos (by omega) (Ev.bind pI ?_)))
    by_cases c : (prefixS hists[f]).2 = true
    · refine ev_pos c ?_
      rw [if_pos c]
      have len := (prefixS_length hists[f]).1
      exact implCands_l1 () hists least f (prefixS hists[f]).1 (by omega) (prefS_ok _) (fun a => candsGo least (hists.drop (f + 1)) (f + 1) a) (16 * (f + 1)) (by omega) (fun a h => by
        rw [w64 (x := (f : Int) + 1) (by omega) (by omega)]
        exact ih (f + 1) a (by omega) h) ((prefixS hists[f]).1.length - 1) 0 acc (by omega) (by omega)
    · refine ev_neg c (ev_of ?_)
      rw [if_neg c]
theorem implCandsOf (hists : List (List S32)) (least : Int) (hl : hists.length ≤ 16) (hh : ∀ h ∈ hists, h.length ≤ 16 ∧ SOk h) : Ev (fun k => impl_CandsOf.f k hists least) (candsGo least hists 0 []) :=
  implCands_l0 hists least hl hh hists.length 0 [] (by omega) (by simp)
theorem specSubInt {a b : Int} (ha : I64 a) (hb : I64 b) : spec_SubInt.f a b = some (subI a b) := by
  unfold I64 at ha hb
  unfold spec_SubInt.f subI
  by_cases h1 : b < 0
  · rw [if_pos h1, w64 (x := 9223372036854775807 + b) (by omega) (by omega)]
    by_cases h2 : a > 9223372036854775807 + b
    · rw [if_pos h2, if_neg (by omega)]
    · rw [if_neg h2, if_neg (by omega), if_pos (by omega), w64 (by omega) (by omega)]
  · rw [if_neg h1]
    by_cases h2 : b > 0
    · rw [if_pos h2, w64 (x := -9223372036854775808 + b) (by omega) (by omega)]
      by_cases h3 : a < -9223372036854775808 + b
      · rw [if_pos h3, if_neg (by omega)]
      · rw [if_neg h3, if_pos (by omega), w64 (by omega) (by omega)]
    · rw [if_neg h2, if_pos (by omega), w64 (by omega) (by omega)]
theorem specCands_stop (hists : List (List S32)) (least : Int) (acc : List S41) (f : Int) (S : List S32) (b x y : Int) : Ev (fun k => spec_CandsOf.j2 k hists least acc f S b x y true) [] := ev_end fun k => by
  simp only [spec_CandsOf.j2]
  rw [if_pos trivial]
theorem specCands_l1 (hists : List (List S32)) (least : Int) (f : Nat) (S : List S32) (hS : S.length ≤ 16) (ho : SOk S) (K : List S41 → List S41) (B : Nat) (hB : B ≤ 1048576)
    (next : ∀ acc : List S41, acc.length ≤ B → Ev (fun k => spec_CandsOf.l0 k hists least acc (wrap64 ((f : Int) + 1))) (K acc)) :
    ∀ (d b : Nat) (acc : List S41), b + d = S.length - 1 → acc.length + d ≤ B → Ev (fun k => spec_CandsOf.l1 k hists least acc (f : Int) S (b : Int)) (finC K (binsGo f least S d b acc)) := by
  intro d
  induction d with
  | zero =>
    intro b acc hb ha
    refine ev_succ ?_
    simp only [spec_CandsOf.l1, binsGo, finC, if_true]
    rw [w64 (x := (b : Int) + 1) (by omega) (by omega)]
    exact ev_neg (by omega) (next acc (by omega))
  | succ d ih =>
    intro b acc hb ha
    refine ev_succ ?_
    have e1 : (S.length : Int) - 1 = ((S.length - 1 : Nat) : Int) := by omega
    have hw : wrap64 ((b : Int) + 1) = ((b + 1 : Nat) : Int) := w64 (by omega) (by omega)
    have go := ih (b + 1)
    have o1 := getD_ok ho (S.length - 1)
    have o2 := getD_ok ho b
    rw [binsGo_succ]
    simp only [spec_CandsOf.l1]
    rw [w64 (x := (S.length : Int) - 1) (by omega) (by omega), e1]
    simp only [rdS, hw, specSubInt o1.1 o2.1, specSubInt o1.2 o2.2, Option.bind_some]
    refine ev_pos (by omega) (ev_pos (by omega) (ev_pos (by omega) (ev_pos (by omega) (ev_pos (by omega) ?_))))
    by_cases a1 : (subI (S.getD (S.length - 1) z32).f0 (S.getD b z32).f0).2 = true
    · refine ev_pos a1 ?_
      by_cases a2 : (subI (S.getD (S.length - 1) z32).f1 (S.getD b z32).f1).2 = true
      · have ed : difS S b = ((subI (S.getD (S.length - 1) z32).f0 (S.getD b z32).f0).1, (subI (S.getD (S.length - 1) z32).f1 (S.getD b z32).f1).1, true) := by
          unfold difS minusS
          rw [if_pos ⟨a1, a2⟩]
        have c : (difS S b).2.2 = true := by rw [ed]
        have x1 : (subI (S.getD (S.length - 1) z32).f0 (S.getD b z32).f0).1 = (difS S b).1 := by rw [ed]
        have x2 : (subI (S.getD (S.length - 1) z32).f1 (S.getD b z32).f1).1 = (difS S b).2.1 := by rw [ed]
        rw [if_pos c, x1, x2]
        refine ev_succ ?_
        simp only [spec_CandsOf.j2, rdS, hw]
        refine ev_neg (by rw [a2]; decide) (ev_pos (by omega) (ev_pos (by omega) ?_))
        unfold addC
        by_cases c1 : (S.getD b z32).f0 ≥ least
        · refine ev_pos c1 ?_
          by_cases c2 : (difS S b).1 ≥ least
          · refine ev_pos c2 (ev_pos (by omega) ?_)
            rw [if_pos ⟨c1, c2⟩]
            exact go _ (by omega) (by simp; omega)
          · rw [if_neg (fun z => c2 z.2)]
            exact ev_neg c2 (go _ (by omega) (by omega))
        · rw [if_neg (fun z => c1 z.1)]
          exact ev_neg c1 (go _ (by omega) (by omega))
      · have c : ¬ (difS S b).2.2 = true := by
          unfold difS minusS
          rw [if_neg (fun z => a2 z.2)]
          decide
        rw [if_neg c, show (!(subI (S.getD (S.length - 1) z32).f1 (S.getD b z32).f1).2) = true by simpa using a2]
        exact specCands_stop _ _ _ _ _ _ _ _
    · have c : ¬ (difS S b).2.2 = true := by
        unfold difS minusS
        rw [if_neg (fun z => a1 z.1)]
        decide
      rw [if_neg c]
      exact ev_neg a1 (specCands_stop _ _ _ _ _ _ _ _)
theorem specCands_l0 (hists : List (List S32)) (least : Int) (hl : hists.length ≤ 16) (hh : ∀ h ∈ hists, h.length ≤ 16 ∧ SOk h) :
    ∀ (d f : Nat) (acc : List S41), f + d = hists.length → acc.length ≤ 16 * f → Ev (fun k => spec_CandsOf.l0 k hists least acc (f : Int)) (candsGo least (hists.drop f) f acc) := by
  intro d
  induction d with
  | zero =>
    intro f acc hf ha
    have e0 : hists.drop f = [] := List.drop_eq_nil_of_le (by omega)
    rw [e0]
    refine ev_succ ?_
    simp only [spec_CandsOf.l0, candsGo]
    exact ev_neg (by omega) (Ev.now _)
  | succ d ih =>
    intro f acc hf ha
    have hx : hists[f]? = some hists[f] := List.getElem?_eq_getElem (by omega)
    have d1 : hists.drop f = hists[f] :: hists.drop (f + 1) := List.drop_eq_getElem_cons (by omega)
    have hg : hists.getD f [] = hists[f] := by rw [List.getD_eq_getElem?_getD, hx]; rfl
    have g1 := (hh _ (List.mem_of_getElem? hx)).1
    have pI := specPrefix hists[f] (Nat.le_trans g1 (by decide)) (hh _ (List.mem_of_getElem? hx)).2
    clear hh
    rw [d1]
    refine ev_succ ?_
    simp only [spec_CandsOf.l0, rdLS, hg, candsGo]
    refine ev_pos (by omega) (ev_pos (by omega) (Ev.bind pI ?_))
    by_cases c : (prefixS hists[f]).2 = true
    · refine ev_pos c ?_
      rw [if_pos c]
      have len := (prefixS_length hists[f]).1
      exact specCands_l1 hists least f (prefixS hists[f]).1 (by omega) (prefS_ok _) (fun a => candsGo least (hists.drop (f + 1)) (f + 1) a) (16 * (f + 1)) (by omega) (fun a h => by
        rw [w64 (x := (f : Int) + 1) (by omega) (by omega)]
        exact ih (f + 1) a (by omega) h) ((prefixS hists[f]).1.length - 1) 0 acc (by omega) (by omega)
    · refine ev_neg c (ev_of ?_)
      rw [if_neg c]
theorem specCandsOf (hists : List (List S32)) (least : Int) (hl : hists.length ≤ 16) (hh : ∀ h ∈ hists, h.length ≤ 16 ∧ SOk h) : Ev (fun k => spec_CandsOf.f k hists least) (candsGo least hists 0 []) :=
  specCands_l0 hists least hl hh hists.length 0 [] (by omega) (by simp)

theorem cands_loop (hists : List (List S32)) (least : Int) (L : List S41) (hl : hists.length ≤ 16) (hh : ∀ h ∈ hists, h.length ≤ 16 ∧ SOk h) (hL : L.length ≤ 1048576) (hg : ∀ x ∈ L, GoodC hists least x) (hs : Sorted2 L) :
    Ev (fun k => laws_FnCands.l0 k hists least L 0) true := by
  refine ev_eq (all_loop (fun k i => laws_FnCands.l0 k hists least L i) L.length (fun _ => True) ?_ ?_ ?_ L.length 0 (by omega)) (dec_true (fun _ _ _ => trivial))
  · refine ev_succ ?_
    simp only [laws_FnCands.l0]
    exact ev_neg (by omega) (Ev.now _)
  · intro n r hn _ hnext
    have hx : L[n]? = some L[n] := List.getElem?_eq_getElem hn
    have rdc : ∀ m : Nat, rd_T41 L (m : Int) = L.getD m z41 := fun m => rfl
    have gx : L.getD n z41 = L[n] := by rw [List.getD_eq_getElem?_getD, hx]; rfl
    obtain ⟨f, b, h1, h2, h3, h4, h5, h6, h7⟩ := hg _ (List.mem_of_getElem? hx)
    have hy : hists[f]? = some hists[f] := List.getElem?_eq_getElem h1
    have gy : hists.getD f [] = hists[f] := by rw [List.getD_eq_getElem?_getD, hy]; rfl
    obtain ⟨y1, y2⟩ := hh _ (List.mem_of_getElem? hy)
    rw [gy] at h2 h3 h4 h5
    have len := (prefixS_length hists[f]).1
    have hb := both_total h2 h3 h4
    have ok := prefS_ok hists[f]
    have o2 := getD_ok ok b
    have o3 := minusS_i64 ((prefixS hists[f]).1.getD ((prefixS hists[f]).1.length - 1) z32).f0 ((prefixS hists[f]).1.getD ((prefixS hists[f]).1.length - 1) z32).f1 ((prefixS hists[f]).1.getD b z32).f0 ((prefixS hists[f]).1.getD b z32).f1
    have tot := specTotal hists[f] (by omega) y2
    have plus0 := implPlus o2.1 o2.2 o3.1 o3.2
    have tok : (totS hists[f]).2.2 = true := by unfold totS; rw [if_pos h2, if_neg (by omega)]
    have q0 : L[n].f0 = (f : Int) := by rw [h5]; rfl
    have q1 : L[n].f1 = (b : Int) := by rw [h5]; rfl
    have plus : impl_Slot_plus.f L[n].f2.f0 L[n].f2.f1 L[n].f3.f0 L[n].f3.f1 = some (totS hists[f]) := by
      rw [h5, ← hb]; exact plus0
    have h8 : b + 1 < hists[f].length := by omega
    have less : ∀ (h0 : 0 < n) (h9 : n - 1 < L.length), LessPair L[n - 1].f0 L[n - 1].f1 (f : Int) (b : Int) := fun h0 h9 => by
      have := (List.pairwise_iff_getElem.1 hs) (n - 1) n h9 hn (by omega)
      rw [q0, q1] at this
      exact this
    have hw : wrap64 ((b : Int) + 1) = ((b + 1 : Nat) : Int) := w64 (by omega) (by omega)
    have hw2 : wrap64 ((n : Int) + 1) = ((n + 1 : Nat) : Int) := w64 (by omega) (by omega)
    clear h5 hb ok o2 o3 plus0 h2 h3 h4 len hs hg
    generalize totS hists[f] = T at *
    generalize hc : L[n] = c at *
    obtain ⟨c0, c1, c2, c3⟩ := c
    simp only at q0 q1 h6 h7 plus
    subst q0 q1
    refine ev_succ ?_
    simp only [laws_FnCands.l0, rdc, gx, rdLS, gy, hw]
    refine ev_pos (by omega) (ev_pos (by omega) (ev_neg (by omega) (ev_neg (by omega) (ev_neg (by omega) (ev_pos (by omega) (ev_pos (by omega) (ev_neg (by omega) (ev_neg (by omega) ?_))))))))
    rw [decide_eq_false (by omega)]
    refine ev_succ ?_
    simp only [laws_FnCands.j1, rdLS, gy, impl_BothOf.f, plus, Option.bind_some, hw2]
    refine ev_neg (by decide) (ev_pos (by omega) (ev_pos (by omega) (Ev.bind tot (ev_pos tok (ev_neg (by simp) ?_)))))
    by_cases c : (n : Int) > 0
    · refine ev_pos c ?_
      have hm : wrap64 ((n : Int) - 1) = ((n - 1 : Nat) : Int) := by rw [w64 (by omega) (by omega)]; omega
      have hp : L[n - 1]? = some L[n - 1] := List.getElem?_eq_getElem (by omega)
      have gp : L.getD (n - 1) z41 = L[n - 1] := by rw [List.getD_eq_getElem?_getD, hp]; rfl
      have ls := less (by omega) (by omega)
      simp only [hm, rdc, gp]
      refine ev_pos (by omega) (ev_pos (by omega) (Ev.bind (implCandLess _ _ _ _ _ _ _ _ _ _ _ _) (ev_pos (dec_true ls) hnext)))
    · exact ev_neg c hnext
  · intro n hn h
    exact absurd trivial h
theorem FnCands : laws_FnCands.Pure := by
  intro l hm hl hw
  refine Ev.rounds ?_
  unfold laws_FnCands.f
  rw [lawsBig]
  simp only [Option.bind_some]
  by_cases hb : (l.length : Int) > 1048576
  · exact ev_pos (by simpa using hb) (Ev.now _)
  refine ev_neg (by simpa using hb) ?_
  obtain ⟨hists, least, e, hlen, hh⟩ := drawCandsOf l (by omega)
  have g := candsGo_good (hists := hists) (least := least) hists.length 0 [] (by omega) (fun x hx => by simp at hx) (fun x hx => by simp at hx) List.Pairwise.nil
  rw [List.drop_zero] at g
  have hcl : ∀ (hs : List (List S32)) (f : Nat) (acc : List S41), (∀ h ∈ hs, h.length ≤ 16) → (candsGo least hs f acc).length ≤ acc.length + 16 * hs.length := by
    intro hs
    induction hs with
    | nil => intro f acc _; simp [candsGo]
    | cons h hs ih =>
      intro f acc hx
      have hx1 := hx h (by simp)
      have p1 := (prefixS_length h).1
      have q1 := binsGo_length f least (prefixS h).1 ((prefixS h).1.length - 1) 0 acc
      have r1 := ih (f + 1) (binsGo f least (prefixS h).1 ((prefixS h).1.length - 1) 0 acc).1 (fun x h' => hx x (by simp [h']))
      simp only [candsGo, List.length_cons]
      split
      · split
        · omega
        · simp
      · simp
  have lenL := hcl hists 0 [] (fun h hx => (hh h hx).1)
  refine Ev.bind e (Ev.bind (implCandsOf hists least hlen hh) (Ev.bind (specCandsOf hists least hlen hh) (ev_pos rfl ?_)))
  exact cands_loop hists least _ hlen hh (by simp at lenL; omega) g.1 g.2

end Go.Proofs.Ytpcffnhffboccaa.Pure
