/- the column is the reference's; in a valid table it has each row's number at its place. Conditions: none but the row's own.
-/
import Derived.Test.YtiacoiiapmfaeaaQFnColumnx8
set_option linter.unusedVariables false
set_option linter.unusedSimpArgs false
namespace Go.Proofs.Ytiacoiiapmfaeaa.Pure
open Go.RowKit Go.Proofs.Ytiacoiiapmfaeaa.QFnColumn Go.Proofs.YtiacoiiapmfaeaaW.PrintWords Go.Proofs.YtiacoiiapmfaeaaW.PrintLast Go.Proofs.YtiacoiiapmfaeaaW.PrintMore

theorem w64 {x : Int} (h1 : -9223372036854775808 ≤ x) (h2 : x ≤ 9223372036854775807) : wrap64 x = x := by unfold wrap64; omega
theorem i64_wf {x : Int} (h : (Lit.int .i64 x).wf = true) : -9223372036854775808 ≤ x ∧ x ≤ 9223372036854775807 := by
  simpa [Lit.wf, IntKind.min, IntKind.max, IntKind.signed, IntKind.bits] using h
theorem u8_wf {x : Int} (h : (Lit.int .u8 x).wf = true) : 0 ≤ x ∧ x ≤ 255 := by
  simpa [Lit.wf, IntKind.min, IntKind.max, IntKind.signed, IntKind.bits] using h
theorem rd_eq {xs : List Int} {i : Int} (h0 : 0 ≤ i) (h : i < (xs.length : Int)) : xs[i.toNat]? = some (rd xs i) := by
  unfold rd
  rw [List.getD_eq_getElem?_getD, List.getElem?_eq_getElem (by omega)]
  rfl
theorem rd_mem {xs : List Int} {i : Int} (h0 : 0 ≤ i) (h : i < (xs.length : Int)) : rd xs i ∈ xs := List.mem_of_getElem? (rd_eq h0 h)
theorem rd_of {xs : List Int} {n : Nat} {v : Int} (h : xs[n]? = some v) : rd xs (n : Int) = v := by
  unfold rd
  rw [List.getD_eq_getElem?_getD, Int.toNat_natCast, h]
  rfl
theorem ev_of {α : Type} {r : α} {p : Option α} (h : p = some r) : Ev (fun _ => p) r := ⟨0, fun _ _ => h⟩
theorem ev_end {α : Type} {g : Nat → Option α} {r : α} (h : ∀ k, g (k + 1) = some r) : Ev g r := Ev.step (f := fun _ => some r) h (Ev.now r)
theorem ev_pos {α : Type} {c : Prop} [Decidable c] {f g : Nat → Option α} {r : α} (hc : c) (h : Ev f r) : Ev (fun k => if c then f k else g k) r := Ev.congr (fun _ => if_pos hc) h
theorem ev_neg {α : Type} {c : Prop} [Decidable c] {f g : Nat → Option α} {r : α} (hc : ¬ c) (h : Ev g r) : Ev (fun k => if c then f k else g k) r := Ev.congr (fun _ => if_neg hc) h
theorem rd_drop {xs : List Int} {n : Nat} (h : n < xs.length) : xs.drop n = rd xs (n : Int) :: xs.drop (n + 1) := by
  rw [List.drop_eq_getElem_cons h]
  congr 1
  unfold rd
  rw [List.getD_eq_getElem?_getD, Int.toNat_natCast, List.getElem?_eq_getElem h]
  rfl
noncomputable def dec (p : Prop) : Bool := @decide p (Classical.propDecidable p)
theorem dec_true {p : Prop} (h : p) : dec p = true := @decide_eq_true p (Classical.propDecidable p) h
theorem dec_false {p : Prop} (h : ¬ p) : dec p = false := @decide_eq_false p (Classical.propDecidable p) h
theorem dec_iff {p : Prop} : dec p = true ↔ p := @decide_eq_true_iff p (Classical.propDecidable p)
theorem dec_congr {p q : Prop} (h : p ↔ q) : dec p = dec q := by rw [propext h]
theorem dec_eq {p : Prop} [Decidable p] : dec p = decide p := by
  by_cases h : p
  · rw [dec_true h, decide_eq_true h]
  · rw [dec_false h, decide_eq_false h]
theorem ev_succ {α : Type} {g : Nat → Option α} {r : α} (h : Ev (fun k => g (k + 1)) r) : Ev g r := by
  obtain ⟨K, h⟩ := h
  refine ⟨K + 1, fun n hn => ?_⟩
  obtain ⟨m, rfl⟩ : ∃ m, n = m + 1 := ⟨n - 1, by omega⟩
  exact h m (by omega)
theorem ev_eq {α : Type} {g : Nat → Option α} {r r' : α} (h : Ev g r) (e : r = r') : Ev g r' := e ▸ h
theorem gd_eq {α : Type} (z : α) {xs : List α} {i : Int} (h0 : 0 ≤ i) (h : i < (xs.length : Int)) : xs[i.toNat]? = some (xs.getD i.toNat z) := by
  rw [List.getD_eq_getElem?_getD, List.getElem?_eq_getElem (by omega)]
  rfl
theorem gd_nat {α : Type} (z : α) {xs : List α} {n : Nat} {v : α} (h : xs[n]? = some v) : xs.getD ((n : Int)).toNat z = v := by
  rw [List.getD_eq_getElem?_getD, Int.toNat_natCast, h]
  rfl
theorem gd_drop {α : Type} (z : α) {xs : List α} {n : Nat} (h : n < xs.length) : xs.drop n = xs.getD ((n : Int)).toNat z :: xs.drop (n + 1) := by
  rw [List.drop_eq_getElem_cons h]
  congr 1
  exact (gd_nat z (List.getElem?_eq_getElem h)).symm
/-- A loop that copies: place after place is set. -/
theorem copy_loop {α β : Type} (F : Nat → List β → Int → Option (List β)) (l : List α) (g : α → β)
    (hend : ∀ acc : List β, acc.length = l.length → Ev (fun k => F k acc (l.length : Int)) acc)
    (hstep : ∀ (acc : List β) (n : Nat) (x : α) (r : List β), n < l.length → acc.length = l.length → l[n]? = some x → Ev (fun k => F k (acc.set n (g x)) ((n + 1 : Nat) : Int)) r → Ev (fun k => F k acc (n : Int)) r) :
    ∀ (d n : Nat) (acc : List β), n + d = l.length → acc.length = l.length → (∀ j, j < n → acc[j]? = (l.map g)[j]?) → Ev (fun k => F k acc (n : Int)) (l.map g) := by
  intro d
  induction d with
  | zero =>
    intro n acc hn ha hp
    obtain rfl : n = l.length := by omega
    refine ev_eq (hend acc ha) (List.ext_getElem? fun j => ?_)
    by_cases h : j < l.length
    · exact hp j h
    · rw [List.getElem?_eq_none (by omega), List.getElem?_eq_none (by simp; omega)]
  | succ d ih =>
    intro n acc hn ha hp
    have hx : l[n]? = some l[n] := List.getElem?_eq_getElem (by omega)
    refine hstep acc n l[n] _ (by omega) ha hx (ih (n + 1) _ (by omega) (by simpa using ha) ?_)
    intro j hj
    rw [List.getElem?_set]
    by_cases h : n = j
    · subst h
      rw [if_pos rfl, if_pos (by omega), List.getElem?_map, hx]
      rfl
    · rw [if_neg h]
      exact hp j (by omega)
/-- A loop that tests place after place. -/
theorem all_loop (F : Nat → Int → Option Bool) (L : Nat) (p : Nat → Prop) (hend : Ev (fun k => F k (L : Int)) true)
    (hyes : ∀ (n : Nat) (r : Bool), n < L → p n → Ev (fun k => F k ((n + 1 : Nat) : Int)) r → Ev (fun k => F k (n : Int)) r)
    (hno : ∀ n : Nat, n < L → ¬ p n → Ev (fun k => F k (n : Int)) false) :
    ∀ (d n : Nat), n + d = L → Ev (fun k => F k (n : Int)) (dec (∀ j, n ≤ j → j < L → p j)) := by
  intro d
  induction d with
  | zero =>
    intro n hn
    obtain rfl : n = L := by omega
    exact ev_eq hend (dec_true (fun j h1 h2 => by omega)).symm
  | succ d ih =>
    intro n hn
    by_cases h : p n
    · refine hyes n _ (by omega) h (ev_eq (ih (n + 1) (by omega)) (dec_congr ⟨fun g j h1 h2 => ?_, fun g j h1 h2 => g j (by omega) h2⟩))
      by_cases e : j = n
      · exact e ▸ h
      · exact g j (by omega) h2
    · exact ev_eq (hno n (by omega) h) (dec_false (fun g => h (g n (Nat.le_refl _) (by omega)))).symm
/-- A loop that goes round L times over a state. -/
theorem fold_loop {σ ρ : Type} (F : Nat → σ → Int → Option ρ) (L : Nat) (S : Nat → σ) (r : ρ) (hend : Ev (fun k => F k (S L) (L : Int)) r)
    (hstep : ∀ n : Nat, n < L → Ev (fun k => F k (S (n + 1)) ((n + 1 : Nat) : Int)) r → Ev (fun k => F k (S n) (n : Int)) r) :
    ∀ (d n : Nat), n + d = L → Ev (fun k => F k (S n) (n : Int)) r := by
  intro d
  induction d with
  | zero =>
    intro n hn
    obtain rfl : n = L := by omega
    exact hend
  | succ d ih =>
    intro n hn
    exact hstep n (by omega) (ih (n + 1) (by omega))
theorem set_mid {α : Type} (a b : List α) (x v : α) {n : Nat} (h : a.length = n) : (a ++ x :: b).set n v = a ++ v :: b := by
  subst h
  rw [List.set_append_right _ _ (Nat.le_refl _), Nat.sub_self]
  rfl
theorem get_mid {α : Type} (a b : List α) (x : α) {n : Nat} (h : a.length = n) : (a ++ x :: b)[n]? = some x := by
  subst h
  rw [List.getElem?_append_right (Nat.le_refl _), Nat.sub_self]
  rfl
/-- A loop that tests place after place, and one thing more at its end. -/
theorem all_loop2 (F : Nat → Int → Option Bool) (L : Nat) (p : Nat → Prop) (E : Prop) (hend : Ev (fun k => F k (L : Int)) (dec E))
    (hyes : ∀ (n : Nat) (r : Bool), n < L → p n → Ev (fun k => F k ((n + 1 : Nat) : Int)) r → Ev (fun k => F k (n : Int)) r)
    (hno : ∀ n : Nat, n < L → ¬ p n → Ev (fun k => F k (n : Int)) false) :
    ∀ (d n : Nat), n + d = L → Ev (fun k => F k (n : Int)) (dec ((∀ j, n ≤ j → j < L → p j) ∧ E)) := by
  intro d
  induction d with
  | zero =>
    intro n hn
    obtain rfl : n = L := by omega
    exact ev_eq hend (dec_congr ⟨fun h => ⟨fun j h1 h2 => by omega, h⟩, fun h => h.2⟩)
  | succ d ih =>
    intro n hn
    by_cases h : p n
    · refine hyes n _ (by omega) h (ev_eq (ih (n + 1) (by omega)) (dec_congr ⟨fun g => ⟨fun j h1 h2 => ?_, g.2⟩, fun g => ⟨fun j h1 h2 => g.1 j (by omega) h2, g.2⟩⟩))
      by_cases e : j = n
      · exact e ▸ h
      · exact g.1 j (by omega) h2
    · exact ev_eq (hno n (by omega) h) (dec_false (fun g => h (g.1 n (Nat.le_refl _) (by omega)))).symm
theorem lawsBig (l : List Int) : laws_big.f l = some (decide ((l.length : Int) > 1048576)) := rfl
theorem lawsSameInts_l0 (l : List Int) (hl : l.length ≤ 35184372088832) : ∀ (d n : Nat), n + d = l.length → Ev (fun k => laws_sameInts.l0 k l l (n : Int)) true := by
  intro d
  induction d with
  | zero =>
    intro n hn
    refine ev_end fun k => ?_
    simp only [laws_sameInts.l0]
    rw [if_neg (by omega)]
  | succ d ih =>
    intro n hn
    refine Ev.step (fun k => ?_) (ih (n + 1) (by omega))
    simp only [laws_sameInts.l0]
    rw [if_pos (by omega), if_pos (by omega), if_pos (by omega), if_pos trivial, w64 (by omega) (by omega)]
    rfl
theorem lawsSameInts (l : List Int) (hl : l.length ≤ 35184372088832) : Ev (fun k => laws_sameInts.f k l l) true := by
  unfold laws_sameInts.f
  exact ev_pos rfl (lawsSameInts_l0 l hl l.length 0 (by omega))
theorem and255 (x : Int) : 0 ≤ Go.bits .and .i64 x 255 ∧ Go.bits .and .i64 x 255 ≤ 255 := by
  simp only [Go.bits]
  have h : (BitVec.ofInt IntKind.i64.bits x &&& BitVec.ofInt IntKind.i64.bits 255).toNat ≤ 255 := by
    rw [BitVec.toNat_and]
    exact Nat.le_trans Nat.and_le_right (by decide)
  rw [IntKind.wrap_i64]
  omega
theorem l1New_l0 (l : List Int) (hl : l.length ≤ 35184372088832) : ∀ (d n : Nat) (x : Int), n + d = l.length → ∃ h, Ev (fun k => spec_l1New.l0 k l x (n : Int)) (l, 0, h) := by
  intro d
  induction d with
  | zero =>
    intro n x hn
    refine ⟨x, ev_end fun k => ?_⟩
    simp only [spec_l1New.l0]
    rw [if_neg (by omega)]
  | succ d ih =>
    intro n x hn
    by_cases h4 : (n : Int) < 4000
    · obtain ⟨h, e⟩ := ih (n + 1) (Go.bits .and .i64 (wrap64 ((wrap64 ((wrap64 (x * 131)) + (wrap64 (rd l n)))) + 7)) 1073741823) (by omega)
      refine ⟨h, Ev.step (fun k => ?_) e⟩
      simp only [spec_l1New.l0]
      rw [if_pos (by omega), if_pos h4, if_pos (by omega), w64 (x := (n : Int) + 1) (by omega) (by omega)]
      rfl
    · refine ⟨x, ev_end fun k => ?_⟩
      simp only [spec_l1New.l0]
      rw [if_pos (by omega), if_neg h4]
theorem l1New (l : List Int) (hl : l.length ≤ 35184372088832) : ∃ h, Ev (fun k => spec_l1New.f k l) (l, 0, h) := l1New_l0 l hl l.length 0 _ (by omega)
/-- A cursor's place is within its bytes. -/
def Cur (l : List Int) (i : Int) : Prop := 0 ≤ i ∧ i ≤ l.length ∧ l.length ≤ 35184372088832
theorem cur0 (l : List Int) (hl : l.length ≤ 35184372088832) : Cur l 0 := ⟨by omega, by omega, hl⟩
theorem l1Byte {l : List Int} {i : Int} (h : Int) (hc : Cur l i) : ∃ r i' h', spec_l1Byte.f l i h = some (r, i', h') ∧ Cur l i' ∧ 0 ≤ r ∧ r ≤ 255 := by
  unfold Cur at *
  unfold spec_l1Byte.f
  by_cases h1 : i < (l.length : Int)
  · rw [if_pos h1, if_pos hc.1, w64 (x := i + 1) (by omega) (by omega)]
    exact ⟨_, _, _, rfl, by omega, and255 _⟩
  · rw [if_neg h1]
    exact ⟨_, _, _, rfl, by omega, and255 _⟩
theorem l1Below {l : List Int} {i : Int} (h : Int) (n : Int) (hc : Cur l i) : ∃ r i' h', spec_l1Below.f l i h n = some (r, i', h') ∧ Cur l i' ∧ 0 ≤ r ∧ (0 < n → r < n) ∧ (n ≤ 0 → r = 0) := by
  unfold spec_l1Below.f
  by_cases h1 : n ≤ 0
  · rw [if_pos h1]
    exact ⟨0, _, _, rfl, hc, by omega, by omega, fun _ => rfl⟩
  rw [if_neg h1]
  by_cases h2 : n ≤ 256
  · rw [if_pos h2]
    obtain ⟨r, i', h', e, hc', h3, h4⟩ := l1Byte h hc
    rw [e]
    simp only [Option.bind_some]
    rw [if_neg (by omega)]
    refine ⟨_, _, _, rfl, hc', ?_, ?_, by omega⟩
    · rw [Int.tmod_eq_emod_of_nonneg h3]; exact Int.emod_nonneg _ (by omega)
    · intro _; rw [Int.tmod_eq_emod_of_nonneg h3]; exact Int.emod_lt_of_pos _ (by omega)
  · rw [if_neg h2]
    obtain ⟨x, i1, h1, e1, hc1, x1, x2⟩ := l1Byte h hc
    obtain ⟨y, i2, h2, e2, hc2, y1, y2⟩ := l1Byte h1 hc1
    obtain ⟨z, i3, h3, e3, hc3, z1, z2⟩ := l1Byte h2 hc2
    obtain ⟨w, i4, h4, e4, hc4, w1, w2⟩ := l1Byte h3 hc3
    simp only [e1, e2, e3, e4, Option.bind_some]
    rw [if_neg (by omega), w64 (x := x * 16777216) (by omega) (by omega), w64 (x := y * 65536) (by omega) (by omega), w64 (x := x * 16777216 + y * 65536) (by omega) (by omega), w64 (x := z * 256) (by omega) (by omega), w64 (x := x * 16777216 + y * 65536 + z * 256) (by omega) (by omega), w64 (x := x * 16777216 + y * 65536 + z * 256 + w) (by omega) (by omega)]
    have h5 : 0 ≤ x * 16777216 + y * 65536 + z * 256 + w := by omega
    refine ⟨_, _, _, rfl, hc4, ?_, ?_, by omega⟩
    · rw [Int.tmod_eq_emod_of_nonneg h5]; exact Int.emod_nonneg _ (by omega)
    · intro _; rw [Int.tmod_eq_emod_of_nonneg h5]; exact Int.emod_lt_of_pos _ (by omega)
theorem l1Once {l : List Int} {i : Int} (h : Int) (n : Int) (hc : Cur l i) : ∃ r i' h', spec_l1Once.f l i h n = some (r, i', h') ∧ Cur l i' := by
  unfold spec_l1Once.f
  obtain ⟨a, i1, h1, e1, c1, _⟩ := l1Below h n hc
  rw [e1]
  exact ⟨_, _, _, rfl, c1⟩
theorem l1PickInt {l : List Int} {i : Int} (h : Int) (xs : List Int) (hc : Cur l i) (hx : 0 < xs.length) : ∃ r i' h', spec_l1PickInt.f l i h xs = some (r, i', h') ∧ Cur l i' ∧ r ∈ xs := by
  unfold spec_l1PickInt.f
  obtain ⟨r, i', h', e, hc', h1, h2, _⟩ := l1Below h (xs.length : Int) hc
  rw [e]
  simp only [Option.bind_some]
  have h3 := h2 (by omega)
  rw [if_pos h1, if_pos h3]
  exact ⟨_, _, _, rfl, hc', rd_mem h1 h3⟩
/-- The sum and true; 0 and false where it has no room. -/
def addI (a b : Int) : Int × Bool := if -9223372036854775808 ≤ a + b ∧ a + b ≤ 9223372036854775807 then (a + b, true) else (0, false)
def subI (a b : Int) : Int × Bool := if -9223372036854775808 ≤ a - b ∧ a - b ≤ 9223372036854775807 then (a - b, true) else (0, false)
def I64 (a : Int) : Prop := -9223372036854775808 ≤ a ∧ a ≤ 9223372036854775807
theorem addI_i64 (a b : Int) : I64 (addI a b).1 := by
  unfold addI I64
  split
  · assumption
  · exact ⟨by decide, by decide⟩
theorem subI_i64 (a b : Int) : I64 (subI a b).1 := by
  unfold subI I64
  split
  · assumption
  · exact ⟨by decide, by decide⟩
theorem wrap_over {x : Int} (h1 : 9223372036854775807 < x) (h2 : x < 27670116110564327424) : wrap64 x = x - 18446744073709551616 := by unfold wrap64; omega
theorem wrap_under {x : Int} (h1 : x < -9223372036854775808) (h2 : -27670116110564327424 ≤ x) : wrap64 x = x + 18446744073709551616 := by unfold wrap64; omega
theorem wrap_i64_range (x : Int) : I64 (wrap64 x) := by unfold I64 wrap64; omega
theorem l1Whole_l0 {l : List Int} : ∀ (d n : Nat) (x i h : Int), n + d = 8 → I64 x → Cur l i → ∃ r i' h', Ev (fun k => spec_l1Whole.l0 k x (n : Int) l i h) (r, i', h') ∧ Cur l i' ∧ I64 r := by
  intro d
  induction d with
  | zero =>
    intro n x i h hn hx hc
    refine ⟨x, i, h, ev_end fun k => ?_, hc, hx⟩
    simp only [spec_l1Whole.l0]
    rw [if_neg (by omega)]
  | succ d ih =>
    intro n x i h hn hx hc
    obtain ⟨b, i1, h1, e1, hc1, _⟩ := l1Byte h hc
    obtain ⟨r, i2, h2, e2, hc2, hr⟩ := ih (n + 1) (wrap64 ((wrap64 (x * 256)) + b)) i1 h1 (by omega) (wrap_i64_range _) hc1
    refine ⟨r, i2, h2, Ev.step (fun k => ?_) e2, hc2, hr⟩
    simp only [spec_l1Whole.l0, e1, Option.bind_some]
    rw [if_pos (by omega), w64 (x := (n : Int) + 1) (by omega) (by omega)]
    rfl
theorem l1Whole {l : List Int} {i : Int} (h : Int) (hc : Cur l i) : ∃ r i' h', Ev (fun k => spec_l1Whole.f k l i h) (r, i', h') ∧ Cur l i' ∧ I64 r := by
  unfold spec_l1Whole.f
  obtain ⟨a, i1, h1, e1, hc1, a1, a2, _⟩ := l1Below h 4 hc
  rw [e1]
  simp only [Option.bind_some]
  by_cases c0 : a = 0
  · obtain ⟨r, i2, h2, e2, hc2, hr⟩ := l1PickInt h1 ([0, 1, (-1), 9, 10, 999, 1000, 2147483647, (-2147483648), 3037000499, 3037000500, 9223372036854775807, (-9223372036854775807), (-9223372036854775808)] : List Int) hc1 (by simp)
    refine ⟨r, i2, h2, ev_pos c0 ?_, hc2, ?_⟩
    · rw [e2]; exact Ev.now _
    · simp only [List.mem_cons, List.not_mem_nil, or_false] at hr
      unfold I64; omega
  by_cases c1 : a = 1
  · obtain ⟨r, i2, h2, e2, hc2, hr⟩ := l1Whole_l0 8 0 0 i1 h1 (by omega) ⟨by decide, by decide⟩ hc1
    exact ⟨r, i2, h2, ev_neg c0 (ev_pos c1 e2), hc2, hr⟩
  by_cases c2 : a = 2
  · obtain ⟨r, i2, h2, e2, hc2, _⟩ := l1Below h1 1000000 hc1
    refine ⟨wrap64 (r - 500000), i2, h2, ev_neg c0 (ev_neg c1 (ev_pos c2 ?_)), hc2, wrap_i64_range _⟩
    rw [e2]; exact Ev.now _
  · obtain ⟨r, i2, h2, e2, hc2, _⟩ := l1Below h1 41 hc1
    refine ⟨wrap64 (r - 20), i2, h2, ev_neg c0 (ev_neg c1 (ev_neg c2 ?_)), hc2, wrap_i64_range _⟩
    rw [e2]; exact Ev.now _
def IOk (l : List Int) : Prop := ∀ x ∈ l, I64 x
theorem IOk.snoc {l : List Int} (h : IOk l) {x : Int} (hx : I64 x) : IOk (l ++ [x]) := by
  intro y hy
  rcases List.mem_append.1 hy with hy | hy
  · exact h y hy
  · simp only [List.mem_singleton] at hy
    subst hy; exact hx
theorem l6Small {l : List Int} {i : Int} (h : Int) (hc : Cur l i) : ∃ r i' h', spec_l6Small.f l i h = some (r, i', h') ∧ Cur l i' ∧ I64 r := by
  unfold spec_l6Small.f
  obtain ⟨a, i1, h1, e1, c1⟩ := l1Once h 20 hc
  rw [e1]
  simp only [Option.bind_some]
  by_cases g : a = true
  · obtain ⟨r, i2, h2, e2, c2, hr⟩ := l1PickInt h1 ([2147483647, (-2147483647), 1, (-1), 1000000000] : List Int) c1 (by simp)
    rw [if_pos g, e2]
    refine ⟨_, _, _, rfl, c2, ?_⟩
    simp only [List.mem_cons, List.not_mem_nil, or_false] at hr
    unfold I64; dsimp only; omega
  · rw [if_neg g]
    obtain ⟨b, i2, h2, e2, c2⟩ := l1Once h1 2 c1
    rw [e2]
    simp only [Option.bind_some]
    by_cases g2 : b = true
    · obtain ⟨r, i3, h3, e3, c3, _⟩ := l1Below h2 9 c2
      rw [if_pos g2, e3]
      exact ⟨_, _, _, rfl, c3, wrap_i64_range _⟩
    · obtain ⟨r, i3, h3, e3, c3, _⟩ := l1Below h2 41 c2
      rw [if_neg g2, e3]
      exact ⟨_, _, _, rfl, c3, wrap_i64_range _⟩
theorem l1Pick {l : List Int} {i : Int} (h : Int) (xs : List ByteArray) (hc : Cur l i) (hx : 0 < xs.length) : ∃ r i' h', spec_l1Pick.f l i h xs = some (r, i', h') ∧ Cur l i' ∧ r ∈ xs := by
  unfold spec_l1Pick.f
  obtain ⟨r, i', h', e, hc', h1, h2, _⟩ := l1Below h (xs.length : Int) hc
  rw [e]
  simp only [Option.bind_some]
  have h3 := h2 (by omega)
  rw [if_pos h1, if_pos h3]
  refine ⟨_, _, _, rfl, hc', ?_⟩
  exact List.mem_of_getElem? (gd_eq ByteArray.empty h1 h3)
/-- Rows of so many numbers. -/
def RowsOf (n : Nat) (R : List (List Int)) : Prop := ∀ r ∈ R, r.length = n ∧ IOk r
theorem RowsOf.snoc {n : Nat} {R : List (List Int)} (h : RowsOf n R) {r : List Int} (hl : r.length = n) (hr : IOk r) : RowsOf n (R ++ [r]) := by
  intro y hy
  rcases List.mem_append.1 hy with hy | hy
  · exact h y hy
  · obtain rfl := List.mem_singleton.1 hy
    exact ⟨hl, hr⟩
/-- One row: its numbers, then the rest. -/
theorem l9Right_l1 {l : List Int} (N M : Nat) (hN : N ≤ 4) (hN0 : 0 < N) (far : Bool) (names : List ByteArray) (t : ByteArray) (m : Nat) (hm : m < M) (hM : M ≤ 40) (R : List (List Int)) (Y : List Int) (hR : RowsOf N R) (hRl : R.length = m) (hY : IOk Y) (hYl : Y.length = m)
    (next : ∀ (R' : List (List Int)) (Y' : List Int) (i h : Int), RowsOf N R' → R'.length = m + 1 → IOk Y' → Y'.length = m + 1 → Cur l i → ∃ R2 Y2 i' h', Ev (fun k => spec_l9Right.l0 k (N : Int) (M : Int) far ((m + 1 : Nat) : Int) l i h names t R' Y') (names, t, R2, Y2, i', h') ∧ Cur l i' ∧ RowsOf N R2 ∧ R2.length = M ∧ IOk Y2 ∧ Y2.length = M) :
    ∀ (d n : Nat) (xs : List Int) (i h : Int), n + d = N → xs.length = n → IOk xs → Cur l i →
    ∃ R2 Y2 i' h', Ev (fun k => spec_l9Right.l1 k (N : Int) (M : Int) far (m : Int) xs (n : Int) l i h names t R Y) (names, t, R2, Y2, i', h') ∧ Cur l i' ∧ RowsOf N R2 ∧ R2.length = M ∧ IOk Y2 ∧ Y2.length = M := by
  intro d
  induction d with
  | zero =>
    intro n xs i h hn hl hx hc
    obtain ⟨y, i1, h1, e1, c1, hy⟩ := l6Small h hc
    have hw : wrap64 ((m : Int) + 1) = ((m + 1 : Nat) : Int) := w64 (by omega) (by omega)
    have hRs : RowsOf N (R ++ [xs]) := hR.snoc (by omega) hx
    by_cases g : far = true
    · obtain ⟨R2, Y2, i2, h2, e2, r⟩ := next (R ++ [xs]) (Y ++ [y]) i1 h1 hRs (by simp [hRl]) (hY.snoc hy) (by simp [hYl]) c1
      refine ⟨R2, Y2, i2, h2, ev_succ ?_, r⟩
      simp only [spec_l9Right.l1, e1, Option.bind_some, hw]
      exact ev_neg (by omega) (ev_pos (by omega) (ev_pos g (ev_pos (by omega) e2)))
    · obtain ⟨b, i2, h2, e2, c2⟩ := l1Once h1 4 c1
      by_cases g2 : b = true
      · obtain ⟨R2, Y2, i3, h3, e3, r⟩ := next (R ++ [xs]) (Y ++ [y]) i2 h2 hRs (by simp [hRl]) (hY.snoc hy) (by simp [hYl]) c2
        refine ⟨R2, Y2, i3, h3, ev_succ ?_, r⟩
        simp only [spec_l9Right.l1, e1, e2, Option.bind_some, hw]
        exact ev_neg (by omega) (ev_pos (by omega) (ev_neg g (ev_pos g2 (ev_pos (by omega) e3))))
      · obtain ⟨z, i3, h3, e3, c3, _⟩ := l1Below h2 5 c2
        obtain ⟨R2, Y2, i4, h4, e4, r⟩ := next (R ++ [xs]) (Y ++ [wrap64 ((wrap64 ((rd xs 0) * 2)) + (wrap64 (100 * z)))]) i3 h3 hRs (by simp [hRl]) (hY.snoc (wrap_i64_range _)) (by simp [hYl]) c3
        refine ⟨R2, Y2, i4, h4, ev_succ ?_, r⟩
        simp only [spec_l9Right.l1, e1, e2, e3, Option.bind_some, hw]
        exact ev_neg (by omega) (ev_pos (by omega) (ev_neg g (ev_neg g2 (ev_pos (by omega) (ev_pos (by omega) e4)))))
  | succ d ih =>
    intro n xs i h hn hl hx hc
    obtain ⟨y, i1, h1, e1, c1, hy⟩ := l6Small h hc
    have hw : wrap64 ((n : Int) + 1) = ((n + 1 : Nat) : Int) := w64 (by omega) (by omega)
    by_cases g : far = true
    · obtain ⟨R2, Y2, i2, h2, e2, r⟩ := ih (n + 1) (xs ++ [y]) i1 h1 (by omega) (by simp [hl]) (hx.snoc hy) c1
      refine ⟨R2, Y2, i2, h2, ev_succ ?_, r⟩
      simp only [spec_l9Right.l1, e1, Option.bind_some, hw]
      exact ev_pos (by omega) (ev_pos g (ev_pos (by omega) e2))
    · obtain ⟨z, i2, h2, e2, c2, _⟩ := l1Below h1 7 c1
      obtain ⟨R2, Y2, i3, h3, e3, r⟩ := ih (n + 1) (xs ++ [wrap64 (500 * (wrap64 (z - 3)))]) i2 h2 (by omega) (by simp [hl]) (hx.snoc (wrap_i64_range _)) c2
      refine ⟨R2, Y2, i3, h3, ev_succ ?_, r⟩
      simp only [spec_l9Right.l1, e1, e2, Option.bind_some, hw]
      exact ev_pos (by omega) (ev_neg g (ev_pos (by omega) e3))
theorem l9Right_l0 {l : List Int} (N M : Nat) (hN : N ≤ 4) (hN0 : 0 < N) (hM : M ≤ 40) (far : Bool) (names : List ByteArray) (t : ByteArray) : ∀ (d m : Nat) (R : List (List Int)) (Y : List Int) (i h : Int), m + d = M → RowsOf N R → R.length = m → IOk Y → Y.length = m → Cur l i →
    ∃ R2 Y2 i' h', Ev (fun k => spec_l9Right.l0 k (N : Int) (M : Int) far (m : Int) l i h names t R Y) (names, t, R2, Y2, i', h') ∧ Cur l i' ∧ RowsOf N R2 ∧ R2.length = M ∧ IOk Y2 ∧ Y2.length = M := by
  intro d
  induction d with
  | zero =>
    intro m R Y i h hm hR hRl hY hYl hc
    refine ⟨R, Y, i, h, ev_succ ?_, hc, hR, by omega, hY, by omega⟩
    simp only [spec_l9Right.l0]
    exact ev_neg (by omega) (Ev.now _)
  | succ d ih =>
    intro m R Y i h hm hR hRl hY hYl hc
    obtain ⟨R2, Y2, i2, h2, e2, r⟩ := l9Right_l1 (l := l) N M hN hN0 far names t m (by omega) hM R Y hR hRl hY hYl (fun R' Y' i h a b c d e => ih (m + 1) R' Y' i h (by omega) a b c d e) N 0 [] i h (by omega) rfl (fun x hx => by simp at hx) hc
    refine ⟨R2, Y2, i2, h2, ev_succ ?_, r⟩
    simp only [spec_l9Right.l0]
    exact ev_pos (by omega) e2
/-- A table that is drawn: within these bounds. -/
def Drawn (L : List ByteArray) (t : ByteArray) (R : List (List Int)) (Y : List Int) : Prop :=
  L.length ≤ 4 ∧ (∀ x ∈ L, x.size ≤ 13) ∧ t.size ≤ 13 ∧ R.length ≤ 42 ∧ (∀ r ∈ R, r.length ≤ 5 ∧ IOk r) ∧ Y.length ≤ 42 ∧ IOk Y
theorem l9Right {l : List Int} {i : Int} (h : Int) (hc : Cur l i) : ∃ L t R Y i' h', Ev (fun k => spec_l9Right.f k l i h) (L, t, R, Y, i', h') ∧ Cur l i' ∧
    (0 < L.length ∧ L.length ≤ 3) ∧ (∀ x ∈ L, x.size ≤ 2) ∧ t.size ≤ 2 ∧ (0 < R.length ∧ R.length ≤ 40) ∧ RowsOf L.length R ∧ Y.length = R.length ∧ IOk Y := by
  unfold spec_l9Right.f
  obtain ⟨a, i1, h1, e1, c1, a1, a2, _⟩ := l1Below h 3 hc
  have a3 := a2 (by omega)
  have hw : wrap64 (1 + a) = ((1 + a.toNat : Nat) : Int) := by rw [w64 (by omega) (by omega)]; omega
  obtain ⟨b, i2, h2, e2, c2, b1, b2, _⟩ := l1Below h1 9 c1
  have b3 := b2 (by omega)
  have hb : wrap64 (1 + b) = ((1 + b.toNat : Nat) : Int) := by rw [w64 (by omega) (by omega)]; omega
  obtain ⟨o, i3, h3, e3, c3⟩ := l1Once h2 10 c2
  simp only [e1, e2, e3, Option.bind_some, hw, Int.toNat_natCast, List.nil_append]
  generalize hL : (([(⟨#[97]⟩ : ByteArray), (⟨#[98]⟩ : ByteArray), (⟨#[99, 50]⟩ : ByteArray), (⟨#[100]⟩ : ByteArray)] : List ByteArray).take (1 + a.toNat)) = L
  have lL : L.length = 1 + a.toNat := by rw [← hL, List.length_take]; simp only [List.length_cons, List.length_nil]; omega
  have sL : ∀ x ∈ L, x.size ≤ 2 := by
    intro x hx
    rw [← hL] at hx
    have := List.mem_of_mem_take hx
    simp only [List.mem_cons, List.not_mem_nil, or_false] at this
    rcases this with rfl | rfl | rfl | rfl <;> decide
  have main : ∀ (M : Nat) (i h : Int), 0 < M → M ≤ 40 → Cur l i → ∃ R Y i' h', Ev (fun k => spec_l9Right.j0 k ((1 + a.toNat : Nat) : Int) (M : Int) l i h L (⟨#[121]⟩ : ByteArray)) (L, (⟨#[121]⟩ : ByteArray), R, Y, i', h') ∧ Cur l i' ∧ RowsOf (1 + a.toNat) R ∧ R.length = M ∧ IOk Y ∧ Y.length = M := by
    intro M i h hM0 hM hc
    obtain ⟨far, i1, h1, e1, c1⟩ := l1Once h 12 hc
    obtain ⟨R, Y, i2, h2, e2, r⟩ := l9Right_l0 (l := l) (1 + a.toNat) M (by omega) (by omega) hM far L (⟨#[121]⟩ : ByteArray) M 0 [] [] i1 h1 (by omega) (fun r hr => by simp at hr) rfl (fun x hx => by simp at hx) rfl c1
    refine ⟨R, Y, i2, h2, ev_succ ?_, r⟩
    simp only [spec_l9Right.j0, e1, Option.bind_some]
    exact e2
  by_cases g : o = true
  · obtain ⟨c, i4, h4, e4, c4, d1, d2, _⟩ := l1Below h3 40 c3
    have d3 := d2 (by omega)
    have hcw : wrap64 (1 + c) = ((1 + c.toNat : Nat) : Int) := by rw [w64 (by omega) (by omega)]; omega
    obtain ⟨R, Y, i5, h5, e5, c5, r1, r2, r3, r4⟩ := main (1 + c.toNat) i4 h4 (by omega) (by omega) c4
    refine ⟨L, (⟨#[121]⟩ : ByteArray), R, Y, i5, h5, ?_, c5, by omega, sL, by decide, by omega, by rw [lL]; exact r1, by omega, r3⟩
    simp only [e4, Option.bind_some, hcw]
    exact ev_pos (by omega) (ev_pos (by simp only [List.length_cons, List.length_nil]; omega) (ev_pos (by simp only [List.length_nil]; omega) (ev_pos g e5)))
  · obtain ⟨R, Y, i5, h5, e5, c5, r1, r2, r3, r4⟩ := main (1 + b.toNat) i3 h3 (by omega) (by omega) c3
    refine ⟨L, (⟨#[121]⟩ : ByteArray), R, Y, i5, h5, ?_, c5, by omega, sL, by decide, by omega, by rw [lL]; exact r1, by omega, r3⟩
    simp only [hb]
    exact ev_pos (by omega) (ev_pos (by simp only [List.length_cons, List.length_nil]; omega) (ev_pos (by simp only [List.length_nil]; omega) (ev_neg g e5)))
theorem rdL (xs : List (List Int)) (i : Int) : rd_L3 xs i = xs.getD i.toNat [] := rfl
/-- How much a list of lists holds. -/
def wt (l : List (List Int)) : Nat := l.length + (l.map List.length).sum
theorem wt_mem {l : List (List Int)} {x : List Int} (h : x ∈ l) : x.length ≤ wt l := by
  unfold wt
  induction l with
  | nil => simp at h
  | cons y l ih =>
    simp only [List.mem_cons] at h
    simp only [List.map_cons, List.sum_cons, List.length_cons]
    rcases h with rfl | h
    · omega
    · have := ih h; omega
theorem ex_bind {α β : Type} {f : Nat → Option α} {g : Nat → α → Option β} {a : α} {P : β → Prop} (h : Ev f a) (h2 : ∃ b, Ev (fun k => g k a) b ∧ P b) : ∃ b, Ev (fun k => (f k).bind (g k)) b ∧ P b := by
  obtain ⟨b, e, p⟩ := h2
  exact ⟨b, Ev.bind h e, p⟩
theorem ex_pos {α : Type} {c : Prop} [Decidable c] {f g : Nat → Option α} {P : α → Prop} (hc : c) (h : ∃ b, Ev f b ∧ P b) : ∃ b, Ev (fun k => if c then f k else g k) b ∧ P b := by
  obtain ⟨b, e, p⟩ := h
  exact ⟨b, ev_pos hc e, p⟩
theorem ex_neg {α : Type} {c : Prop} [Decidable c] {f g : Nat → Option α} {P : α → Prop} (hc : ¬ c) (h : ∃ b, Ev g b ∧ P b) : ∃ b, Ev (fun k => if c then f k else g k) b ∧ P b := by
  obtain ⟨b, e, p⟩ := h
  exact ⟨b, ev_neg hc e, p⟩
theorem ex_now {α : Type} {P : α → Prop} (b : α) (h : P b) : ∃ b', Ev (fun _ => some b) b' ∧ P b' := ⟨b, Ev.now b, h⟩
theorem ex_succ {α : Type} {g : Nat → Option α} {P : α → Prop} (h : ∃ b, Ev (fun k => g (k + 1)) b ∧ P b) : ∃ b, Ev g b ∧ P b := by
  obtain ⟨b, e, p⟩ := h
  exact ⟨b, ev_succ e, p⟩
theorem drawn_of {L : List ByteArray} {t : ByteArray} {R : List (List Int)} {Y : List Int} (hL : L.length ≤ 3) (hs : ∀ x ∈ L, x.size ≤ 2) (ht : t.size ≤ 2) (hR : R.length ≤ 40) (hr : RowsOf L.length R) (hYl : Y.length = R.length) (hY : IOk Y) : Drawn L t R Y :=
  ⟨by omega, fun x hx => by have := hs x hx; omega, by omega, by omega, fun r h => ⟨by have := (hr r h).1; omega, (hr r h).2⟩, by omega, hY⟩
theorem IOk.set {l : List Int} (h : IOk l) {x : Int} (hx : I64 x) (n : Nat) : IOk (l.set n x) := by
  intro y hy
  rcases List.mem_or_eq_of_mem_set hy with hy | hy
  · exact h y hy
  · subst hy; exact hx
theorem row_mem {R : List (List Int)} {i : Int} (h0 : 0 ≤ i) (h : i < (R.length : Int)) : R.getD i.toNat [] ∈ R := List.mem_of_getElem? (gd_eq [] h0 h)
def DrawnOut (l : List Int) (b : List ByteArray × ByteArray × (List (List Int)) × List Int × Int × Int) : Prop := Cur l b.2.2.2.2.1 ∧ Drawn b.1 b.2.1 b.2.2.1 b.2.2.2.1
theorem l9Bent_l0 {l : List Int} (L : List ByteArray) (t : ByteArray) : ∀ (d : Nat) (R : List (List Int)) (Y : List Int) (i h : Int), R.length + d = 41 → 0 < R.length → Y.length = R.length → Drawn L t R Y → Cur l i → ∃ b, Ev (fun k => spec_l9Bent.l0 k l i h L t R Y) b ∧ DrawnOut l b := by
  intro d
  induction d with
  | zero =>
    intro R Y i h hR h0 hY D hc
    obtain ⟨r, i1, h1, e1, c1, r1, r2, _⟩ := l1Below h 2 hc
    have r3 := r2 (by omega)
    have hw : wrap64 (40 + r) = 40 + r := w64 (by omega) (by omega)
    refine ex_succ ?_
    simp only [spec_l9Bent.l0, e1, Option.bind_some, hw]
    exact ex_neg (by omega) (ex_now _ ⟨c1, D⟩)
  | succ d ih =>
    intro R Y i h hR h0 hY D hc
    obtain ⟨r, i1, h1, e1, c1, r1, r2, _⟩ := l1Below h 2 hc
    have r3 := r2 (by omega)
    have hw : wrap64 (40 + r) = 40 + r := w64 (by omega) (by omega)
    refine ex_succ ?_
    simp only [spec_l9Bent.l0, e1, Option.bind_some, hw, rdL, List.nil_append, List.length_nil]
    by_cases g : (R.length : Int) < 40 + r
    · obtain ⟨a1, a2, a3, a4, a5, a6, a7⟩ := D
      have hm := a5 _ (row_mem (i := 0) (by omega) (by omega : (0 : Int) < (R.length : Int)))
      refine ex_pos g (ex_pos (by omega) (ex_pos (by omega) (ex_pos (by omega) (ex_pos (by omega) (ih _ _ _ _ (by simp only [List.length_append, List.length_cons, List.length_nil]; omega) (by simp only [List.length_append, List.length_cons, List.length_nil]; omega) (by simp only [List.length_append, List.length_cons, List.length_nil]; omega) ?_ c1)))))
      refine ⟨a1, a2, a3, by simp only [List.length_append, List.length_cons, List.length_nil]; omega, ?_, by simp only [List.length_append, List.length_cons, List.length_nil]; omega, a7.snoc ⟨by decide, by decide⟩⟩
      intro y hy
      rcases List.mem_append.1 hy with hy | hy
      · exact a5 y hy
      · obtain rfl := List.mem_singleton.1 hy
        exact hm
    · exact ex_neg g (ex_now _ ⟨c1, D⟩)
theorem l9Bent {l : List Int} {i : Int} (h : Int) (hc : Cur l i) : ∃ b, Ev (fun k => spec_l9Bent.f k l i h) b ∧ DrawnOut l b := by
  unfold spec_l9Bent.f
  obtain ⟨L, t, R, Y, i1, h1, e1, c1, ⟨hL0, hL3⟩, hs, ht, ⟨hR0, hR4⟩, hr, hYl, hY⟩ := l9Right h hc
  have D : Drawn L t R Y := drawn_of hL3 hs ht hR4 hr hYl hY
  have D' := D
  obtain ⟨a1, a2, a3, a4, a5, a6, a7⟩ := D'
  obtain ⟨k, i2, h2, e2, c2, k1, k2, _⟩ := l1Below h1 (R.length : Int) c1
  have k3 := k2 (by omega)
  obtain ⟨s, i3, h3, e3, c3, s1, s2, _⟩ := l1Below h2 14 c2
  have hm := row_mem k1 k3
  have hml := (hr _ hm).1
  have setR : ∀ r : List Int, r.length ≤ 5 ∧ IOk r → Drawn L t (R.set k.toNat r) Y := by
    intro r h'
    refine ⟨a1, a2, a3, by rw [List.length_set]; exact a4, ?_, a6, a7⟩
    intro y hy
    rcases List.mem_or_eq_of_mem_set hy with hy | hy
    · exact a5 y hy
    · subst hy; exact h'
  refine ex_bind e1 ?_
  simp only [e2, e3, Option.bind_some, rdL]
  by_cases g0 : s = 0
  · obtain ⟨r, i4, h4, e4, c4, hr⟩ := l1Pick h3 ([(⟨#[]⟩ : ByteArray), (⟨#[65]⟩ : ByteArray), (⟨#[49, 97]⟩ : ByteArray), (⟨#[121]⟩ : ByteArray), (⟨#[97, 98, 99, 100, 101, 102, 103, 104, 105, 106, 107, 108]⟩ : ByteArray), (⟨#[97, 98, 99, 100, 101, 102, 103, 104, 105, 106, 107, 108, 109]⟩ : ByteArray), (⟨#[98]⟩ : ByteArray)] : List ByteArray) c3 (by simp)
    refine ex_pos g0 ?_
    simp only [e4, Option.bind_some]
    refine ex_pos (by omega) (ex_now _ ⟨c4, by rw [List.length_set]; exact a1, ?_, a3, a4, a5, a6, a7⟩)
    intro x hx
    rcases List.mem_or_eq_of_mem_set hx with hx | hx
    · exact a2 x hx
    · subst hx
      simp only [List.mem_cons, List.not_mem_nil, or_false] at hr
      rcases hr with rfl | rfl | rfl | rfl | rfl | rfl | rfl <;> decide
  refine ex_neg g0 ?_
  by_cases g1 : s = 1
  · obtain ⟨r, i4, h4, e4, c4, hr⟩ := l1Pick h3 ([(⟨#[]⟩ : ByteArray), (⟨#[97]⟩ : ByteArray), (⟨#[121, 45]⟩ : ByteArray)] : List ByteArray) c3 (by simp)
    refine ex_pos g1 ?_
    simp only [e4, Option.bind_some]
    refine ex_now _ ⟨c4, a1, a2, ?_, a4, a5, a6, a7⟩
    simp only [List.mem_cons, List.not_mem_nil, or_false] at hr
    show r.size ≤ 13
    rcases hr with rfl | rfl | rfl <;> decide
  refine ex_neg g1 ?_
  by_cases g2 : s = 2
  · exact ex_pos g2 (ex_pos k1 (ex_pos k3 (ex_pos (by omega) (ex_now _ ⟨c3, setR _ ⟨by rw [List.length_append, hml]; simp only [List.length_cons, List.length_nil]; omega, (hr _ hm).2.snoc ⟨by decide, by decide⟩⟩⟩))))
  refine ex_neg g2 ?_
  by_cases g3 : s = 3
  · obtain ⟨r, i4, h4, e4, c4, hv⟩ := l1PickInt h3 ([2147483647, 2147483648, (-2147483648)] : List Int) c3 (by simp)
    refine ex_pos g3 (ex_pos k1 (ex_pos k3 ?_))
    simp only [e4, Option.bind_some]
    refine ex_pos (by omega) (ex_now _ ⟨c4, setR _ ⟨by rw [List.length_set]; omega, (hr _ hm).2.set ?_ _⟩⟩)
    simp only [List.mem_cons, List.not_mem_nil, or_false] at hv
    unfold I64; omega
  refine ex_neg g3 ?_
  by_cases g4 : s = 4
  · obtain ⟨r, i4, h4, e4, c4, hv⟩ := l1Whole h3 c3
    exact ex_pos g4 (ex_bind e4 (ex_pos k1 (ex_pos (by omega) (ex_now _ ⟨c4, a1, a2, a3, a4, a5, by rw [List.length_set]; exact a6, a7.set hv _⟩))))
  refine ex_neg g4 ?_
  by_cases g5 : s = 5
  · exact ex_pos g5 (ex_pos (by omega) (ex_now _ ⟨c3, a1, a2, a3, a4, a5, by rw [List.length_append]; simp only [List.length_cons, List.length_nil]; omega, a7.snoc ⟨by decide, by decide⟩⟩))
  refine ex_neg g5 ?_
  by_cases g6 : s = 6
  · exact ex_pos g6 (ex_pos k1 (ex_pos k3 (ex_now _ ⟨c3, setR _ ⟨by simp, fun x hx => by simp at hx⟩⟩)))
  refine ex_neg g6 ?_
  by_cases g7 : s = 7
  · exact ex_pos g7 (l9Bent_l0 L t (41 - R.length) R Y i3 h3 (by omega) hR0 hYl D c3)
  · exact ex_neg g7 (ex_now _ ⟨c3, D⟩)
theorem drawColumn (l : List Int) (hl : l.length ≤ 35184372088832) : ∃ L t R Y f, Ev (fun k => spec_DrawColumn.f k l) (L, t, R, Y, f) ∧ Drawn L t R Y := by
  unfold spec_DrawColumn.f
  obtain ⟨h, e0⟩ := l1New l hl
  obtain ⟨⟨L, t, R, Y, i1, h1⟩, e1, c1, D⟩ := l9Bent h (cur0 l hl)
  obtain ⟨f, i2, h2, e2, _, _⟩ := l1PickInt h1 ([0, 1, 2, 3, (-1), 9223372036854775807] : List Int) c1 (by simp)
  refine ⟨L, t, R, Y, f, Ev.bind e0 (Ev.bind e1 ?_), D⟩
  simp only [e2, Option.bind_some]
  exact Ev.now _
/-- What a row has at this place. -/
def cell (f : Int) (r : List Int) : Int := if f < (r.length : Int) then rd r f else 0
def col (f : Int) (R : List (List Int)) : List Int := R.map (cell f)
def colOf (L : List ByteArray) (R : List (List Int)) (f : Int) : List Int := if 0 ≤ f ∧ f ≤ (L.length : Int) - 1 then col f R else []
theorem col_succ (f : Int) {R : List (List Int)} {n : Nat} (h : n < R.length) : col f (R.take (n + 1)) = col f (R.take n) ++ [cell f (R.getD n [])] := by
  have e : R.getD n [] = R[n] := by
    rw [List.getD_eq_getElem?_getD, List.getElem?_eq_getElem h]
    rfl
  rw [e]
  unfold col
  rw [List.take_add_one, List.getElem?_eq_getElem h, List.map_append]
  rfl
theorem col_all (f : Int) (R : List (List Int)) : col f (R.take R.length) = col f R := by rw [List.take_length]
theorem col_length (f : Int) (R : List (List Int)) : (col f R).length = R.length := List.length_map _
theorem col_take_length (f : Int) (R : List (List Int)) (n : Nat) : (col f (R.take n)).length ≤ R.length := by
  rw [col_length, List.length_take]; omega
theorem rd_col (f : Int) {R : List (List Int)} {n : Nat} (h : n < R.length) : rd (col f R) (n : Int) = cell f (R.getD n []) := by
  refine rd_of ?_
  unfold col
  rw [List.getElem?_map, List.getD_eq_getElem?_getD, List.getElem?_eq_getElem h]
  rfl
theorem implWithin (a b c : Int) : impl_within.f a b c = some (decide (b ≤ a ∧ a ≤ c)) := by
  unfold impl_within.f
  by_cases h : b ≤ a
  · rw [if_pos h]; simp [h]
  · rw [if_neg h]; simp [h]
theorem implColumn (L : List ByteArray) (t : ByteArray) (R : List (List Int)) (Y : List Int) (f : Int) (hL : L.length ≤ 1048576) (hR : R.length ≤ 1048576) : Ev (fun k => impl_Column.f k L t R Y f) (colOf L R f) := by
  unfold impl_Column.f
  simp only [Option.bind_some, implWithin]
  rw [w64 (x := (L.length : Int) - 1) (by omega) (by omega)]
  unfold colOf
  by_cases g : 0 ≤ f ∧ f ≤ (L.length : Int) - 1
  · rw [if_pos g]
    refine ev_pos (decide_eq_true g) (fold_loop (fun k (s : List Int) i => impl_Column.l0 k f s R (R.length : Int) i) R.length (fun n => col f (R.take n)) _ ?_ ?_ R.length 0 (by omega))
    · refine ev_succ ?_
      simp only [impl_Column.l0, col_all]
      exact ev_neg (by omega) (Ev.now _)
    · intro n hn h
      have hc := col_take_length f R n
      rw [col_succ f hn] at h
      refine ev_succ ?_
      simp only [impl_Column.l0, rdL, Int.toNat_natCast]
      rw [w64 (x := (n : Int) + 1) (by omega) (by omega)]
      refine ev_pos (by omega) (ev_pos (by omega) (ev_pos (by omega) ?_))
      by_cases c : f < ((R.getD n []).length : Int)
      · rw [cell, if_pos c] at h
        exact ev_pos c (ev_pos g.1 (ev_pos (by omega) h))
      · rw [cell, if_neg c] at h
        exact ev_neg c (ev_pos (by omega) h)
  · rw [if_neg g]
    exact ev_neg (by rw [decide_eq_false g]; decide) (Ev.now _)
theorem specIn (a b c : Int) : spec_l1In.f a b c = some (decide (b ≤ a ∧ a ≤ c)) := by
  unfold spec_l1In.f
  by_cases h : b ≤ a
  · rw [if_pos h]; simp [h]
  · rw [if_neg h]; simp [h]
theorem specColumn (L : List ByteArray) (t : ByteArray) (R : List (List Int)) (Y : List Int) (f : Int) (hL : L.length ≤ 1048576) (hR : R.length ≤ 1048576) : Ev (fun k => spec_Column.f k L t R Y f) (colOf L R f) := by
  unfold spec_Column.f
  have hw : wrap64 ((L.length : Int) - 1) = (L.length : Int) - 1 := w64 (by omega) (by omega)
  have stop : ∀ (s : List Int) (n : Int), Ev (fun k => spec_Column.j1 k f s n false L t R Y) s := by
    intro s n
    refine ev_succ ?_
    simp only [spec_Column.j1]
    exact ev_neg (by decide) (Ev.now _)
  unfold colOf
  by_cases g : 0 ≤ f ∧ f ≤ (L.length : Int) - 1
  · rw [if_pos g]
    refine fold_loop (fun k (s : List Int) i => spec_Column.l0 k f s i L t R Y) R.length (fun n => col f (R.take n)) _ ?_ ?_ R.length 0 (by omega)
    · refine ev_succ ?_
      simp only [spec_Column.l0, col_all]
      exact ev_neg (by omega) (stop _ _)
    · intro n hn h
      have hc := col_take_length f R n
      rw [col_succ f hn] at h
      refine ev_succ ?_
      simp only [spec_Column.l0, specIn, Option.bind_some, hw]
      rw [decide_eq_true g]
      refine ev_pos (by omega) (ev_succ ?_)
      simp only [spec_Column.j1, rdL, Int.toNat_natCast]
      rw [w64 (x := (n : Int) + 1) (by omega) (by omega)]
      refine ev_pos trivial (ev_pos (by omega) (ev_pos (by omega) ?_))
      by_cases c : f < ((R.getD n []).length : Int)
      · rw [cell, if_pos c] at h
        exact ev_pos c (ev_pos g.1 (ev_pos (by omega) h))
      · rw [cell, if_neg c] at h
        exact ev_neg c (ev_pos (by omega) h)
  · rw [if_neg g]
    refine ev_succ ?_
    simp only [spec_Column.l0, specIn, Option.bind_some, hw]
    rw [decide_eq_false g]
    by_cases c : (0 : Int) < (R.length : Int)
    · exact ev_pos c (stop _ _)
    · exact ev_neg c (stop _ _)
def Letter (c : Int) : Prop := 97 ≤ c ∧ c ≤ 122
def Figure (c : Int) : Prop := 48 ≤ c ∧ c ≤ 57
/-- From place n on each byte is a letter or a figure. -/
def NameFrom (s : ByteArray) (n : Nat) : Prop := ∀ j : Nat, n ≤ j → j < s.size → Letter (bt s (j : Int)) ∨ Figure (bt s (j : Int))
def IsName (s : ByteArray) : Prop := 1 ≤ s.size ∧ s.size ≤ 12 ∧ Letter (bt s 0) ∧ NameFrom s 0
theorem NameFrom.step {s : ByteArray} {n : Nat} (h : n < s.size) : NameFrom s n ↔ (Letter (bt s (n : Int)) ∨ Figure (bt s (n : Int))) ∧ NameFrom s (n + 1) := by
  constructor
  · exact fun g => ⟨g n (Nat.le_refl _) h, fun j hj => g j (by omega)⟩
  · intro ⟨g0, g⟩ j hj hlt
    by_cases e : j = n
    · subst e; exact g0
    · exact g j (by omega) hlt
theorem NameFrom.stop {s : ByteArray} : NameFrom s s.size := fun j h1 h2 => by omega
theorem specNameOk_l0 (s : ByteArray) (hl : s.size ≤ 140737488351232) : ∀ (d n : Nat), n + d = s.size → Ev (fun k => spec_NameOk.l0 k s (n : Int)) (dec (NameFrom s n)) := by
  intro d
  induction d with
  | zero =>
    intro n hn
    refine ev_end fun k => ?_
    simp only [spec_NameOk.l0]
    obtain rfl : n = s.size := by omega
    rw [if_neg (by omega), dec_true NameFrom.stop]
  | succ d ih =>
    intro n hn
    have hs := NameFrom.step (s := s) (n := n) (by omega)
    have hb := bt_range s (n : Int)
    by_cases h1 : Letter (bt s (n : Int))
    · have e : dec (NameFrom s n) = dec (NameFrom s (n + 1)) := dec_congr (by rw [hs]; exact ⟨fun g => g.2, fun g => ⟨.inl h1, g⟩⟩)
      rw [e]
      refine Ev.step (fun k => ?_) (ih (n + 1) (by omega))
      simp only [spec_NameOk.l0, specIn, Option.bind_some]
      unfold Letter at h1
      rw [if_pos (by omega), if_pos (by omega), w64 (x := bt s (n : Int)) (by omega) (by omega), if_pos (by simpa using h1), w64 (by omega) (by omega)]
      rfl
    · by_cases h2 : Figure (bt s (n : Int))
      · have e : dec (NameFrom s n) = dec (NameFrom s (n + 1)) := dec_congr (by rw [hs]; exact ⟨fun g => g.2, fun g => ⟨.inr h2, g⟩⟩)
        rw [e]
        refine Ev.step (fun k => ?_) (ih (n + 1) (by omega))
        simp only [spec_NameOk.l0, specIn, Option.bind_some]
        unfold Letter at h1
        unfold Figure at h2
        rw [if_pos (by omega), if_pos (by omega), w64 (x := bt s (n : Int)) (by omega) (by omega), if_neg (by simpa using h1), if_pos (by simpa using h2), w64 (by omega) (by omega)]
        rfl
      · refine ev_end fun k => ?_
        simp only [spec_NameOk.l0, specIn, Option.bind_some]
        have e : dec (NameFrom s n) = false := dec_false (by rw [hs]; exact fun g => g.1.elim h1 h2)
        unfold Letter at h1
        unfold Figure at h2
        rw [if_pos (by omega), if_pos (by omega), w64 (x := bt s (n : Int)) (by omega) (by omega), if_neg (by simpa using h1), if_neg (by simpa using h2), e]
theorem specNameOk (s : ByteArray) (hl : s.size ≤ 140737488351232) : Ev (fun k => spec_NameOk.f k s) (dec (IsName s)) := by
  unfold spec_NameOk.f
  simp only [specIn, Option.bind_some]
  have hb := bt_range s 0
  by_cases h1 : 1 ≤ s.size ∧ s.size ≤ 12
  · refine ev_pos (by simp; omega) (ev_pos (by omega) ?_)
    by_cases h2 : bt s 0 < 97
    · refine ev_end fun k => ?_
      simp only [spec_NameOk.j0]
      rw [if_pos (by simpa using h2), dec_false]
      intro g; have := g.2.2.1; unfold Letter at this; omega
    · have e : dec (IsName s) = dec (NameFrom s 0) := dec_congr ⟨fun g => g.2.2.2, fun g => ⟨h1.1, h1.2, (g 0 (by omega) (by omega)).elim (fun z => z) (fun z => by unfold Figure at z; simp only [Int.natCast_zero] at z; omega), g⟩⟩
      rw [e]
      refine Ev.step (fun k => ?_) (specNameOk_l0 s hl s.size 0 (by omega))
      simp only [spec_NameOk.j0]
      rw [if_neg (by simpa using h2)]
      rfl
  · refine ev_neg (by simp; omega) (ev_end fun k => ?_)
    simp only [spec_NameOk.j0]
    rw [if_pos trivial, dec_false]
    intro g; exact h1 ⟨g.1, g.2.1⟩
def Deci (x : Int) : Prop := -2147483647 ≤ x ∧ x ≤ 2147483647
/-- Cut points that are valid. -/
def CutsP (c : List Int) : Prop := (∀ j : Nat, 0 ≤ j → j < c.length → Deci (rd c (j : Int)) ∧ (0 < j → rd c ((j : Int) - 1) < rd c (j : Int))) ∧ c.length ≤ 7
/-- Lists of one length whose places stand in R to each other. -/
def SameR {α : Type} (z : α) (R : α → α → Prop) (l m : List α) : Prop := l.length = m.length ∧ ∀ j : Nat, 0 ≤ j → j < l.length → R (l.getD j z) (m.getD j z)
theorem same_ev {α : Type} (z : α) (R : α → α → Prop) (l m : List α) (h0 : l.length = m.length) (F : Nat → Int → Option Bool) (hend : Ev (fun k => F k (l.length : Int)) true)
    (hyes : ∀ (n : Nat) (r : Bool), n < l.length → R (l.getD n z) (m.getD n z) → Ev (fun k => F k ((n + 1 : Nat) : Int)) r → Ev (fun k => F k (n : Int)) r)
    (hno : ∀ n : Nat, n < l.length → ¬ R (l.getD n z) (m.getD n z) → Ev (fun k => F k (n : Int)) false) : Ev (fun k => F k 0) (dec (SameR z R l m)) :=
  ev_eq (all_loop F l.length (fun j => R (l.getD j z) (m.getD j z)) hend hyes hno l.length 0 (by omega)) (dec_congr ⟨fun h => ⟨h0, h⟩, fun h => h.2⟩)
theorem rdn (xs : List Int) (n : Nat) : rd xs (n : Int) = xs.getD n 0 := rfl
theorem rdOfn {α : Type} (z : α) (xs : List α) (n : Nat) : rdOf z xs (n : Int) = xs.getD n z := rfl
def sAt (l : List ByteArray) (j : Nat) : ByteArray := rdOf ByteArray.empty l (j : Int)
theorem sAt_size {l : List ByteArray} {m : Nat} (h : ∀ x ∈ l, x.size ≤ m) (j : Nat) : (sAt l j).size ≤ m := by
  unfold sAt
  rw [rdOfn, List.getD_eq_getElem?_getD]
  by_cases hj : j < l.length
  · rw [List.getElem?_eq_getElem hj]
    exact h _ (List.getElem_mem hj)
  · rw [List.getElem?_eq_none (by omega)]
    exact Nat.zero_le _
theorem sAt_take (l : List ByteArray) {n j : Nat} (h : j < n) : sAt (l.take n) j = sAt l j := by
  unfold sAt
  rw [rdOfn, rdOfn, List.getD_eq_getElem?_getD, List.getD_eq_getElem?_getD, List.getElem?_take, if_pos h]
theorem sAt_app_lt (l : List ByteArray) (t : ByteArray) {j : Nat} (h : j < l.length) : sAt (l ++ [t]) j = sAt l j := by
  unfold sAt
  rw [rdOfn, rdOfn, List.getD_eq_getElem?_getD, List.getD_eq_getElem?_getD, List.getElem?_append_left h]
theorem sAt_app_eq (l : List ByteArray) (t : ByteArray) : sAt (l ++ [t]) l.length = t := by
  unfold sAt
  rw [rdOfn, List.getD_eq_getElem?_getD, List.getElem?_append_right (Nat.le_refl _), Nat.sub_self]
  rfl
def HasP (l : List ByteArray) (n : Nat) (s : ByteArray) : Prop := ∃ j, j < n ∧ (sAt l j).toList = s.toList
theorem hasP_take (l : List ByteArray) {n : Nat} (h : n ≤ l.length) (s : ByteArray) : HasP (l.take n) (l.take n).length s ↔ HasP l n s := by
  have e : (l.take n).length = n := by rw [List.length_take]; omega
  unfold HasP
  rw [e]
  exact ⟨fun ⟨j, a, b⟩ => ⟨j, a, by rw [sAt_take l a] at b; exact b⟩, fun ⟨j, a, b⟩ => ⟨j, a, by rw [sAt_take l a]; exact b⟩⟩
theorem specHas_l0 (l : List ByteArray) (s : ByteArray) (hl : l.length ≤ 1048576) : ∀ (d n : Nat), n + d = l.length → Ev (fun k => spec_l9Has.l0 k l s (n : Int)) (dec (∃ j, n ≤ j ∧ j < l.length ∧ (sAt l j).toList = s.toList)) := by
  intro d
  induction d with
  | zero =>
    intro n hn
    refine ev_succ ?_
    simp only [spec_l9Has.l0]
    exact ev_neg (by omega) (ev_eq (Ev.now _) (dec_false (fun ⟨j, a, b, _⟩ => by omega)).symm)
  | succ d ih =>
    intro n hn
    refine ev_succ ?_
    simp only [spec_l9Has.l0]
    refine ev_pos (by omega) (ev_pos (by omega) ?_)
    by_cases h : (sAt l n).toList = s.toList
    · exact ev_pos h (ev_eq (Ev.now _) (dec_true ⟨n, Nat.le_refl _, by omega, h⟩).symm)
    · refine ev_neg h ?_
      rw [w64 (x := (n : Int) + 1) (by omega) (by omega)]
      refine ev_eq (ih (n + 1) (by omega)) (dec_congr ⟨fun ⟨j, a, b, c⟩ => ⟨j, by omega, b, c⟩, fun ⟨j, a, b, c⟩ => ⟨j, ?_, b, c⟩⟩)
      by_cases e : j = n
      · exact absurd (e ▸ c) h
      · omega
theorem specHas (l : List ByteArray) (s : ByteArray) (hl : l.length ≤ 1048576) : Ev (fun k => spec_l9Has.f k l s) (dec (HasP l l.length s)) := by
  unfold spec_l9Has.f
  exact ev_eq (specHas_l0 l s hl l.length 0 (by omega)) (dec_congr ⟨fun ⟨j, _, b, c⟩ => ⟨j, b, c⟩, fun ⟨j, b, c⟩ => ⟨j, Nat.zero_le _, b, c⟩⟩)
def NameAt (l : List ByteArray) (j : Nat) : Prop := IsName (sAt l j) ∧ ¬ HasP l j (sAt l j)
theorem specVal (x : Int) : spec_l6Value.f x = some (decide (-2147483647 ≤ x ∧ x ≤ 2147483647)) := by
  unfold spec_l6Value.f
  rw [specIn]; rfl
theorem deciT {x : Int} (h : Deci x) : decide (-2147483647 ≤ x ∧ x ≤ 2147483647) = true := decide_eq_true h
theorem deciF {x : Int} (h : ¬ Deci x) : decide (-2147483647 ≤ x ∧ x ≤ 2147483647) = false := decide_eq_false h
def RowT (m : Nat) (R : List (List Int)) (Y : List Int) (j : Nat) : Prop := ((R.getD j []).length : Int) = (m : Int) ∧ Deci (rd Y (j : Int)) ∧ ∀ i : Nat, 0 ≤ i → i < m → Deci (rd (R.getD j []) (i : Int))
theorem specRows (L : List ByteArray) (t : ByteArray) (R : List (List Int)) (Y : List Int) (m : Nat) (hm : m ≤ 1048576) (hR : R.length ≤ 1048576) (hY : Y.length = R.length) : ∀ (d n : Nat), n + d = R.length → Ev (fun k => spec_TableOk.l1 k (m : Int) (n : Int) L t R Y) (dec (∀ j, n ≤ j → j < R.length → RowT m R Y j)) := by
  intro d
  induction d with
  | zero =>
    intro n hn
    refine ev_succ ?_
    simp only [spec_TableOk.l1]
    exact ev_neg (by omega) (ev_eq (Ev.now _) (dec_true (fun j h1 h2 => by omega)).symm)
  | succ d ih =>
    intro n hn
    have go := ih (n + 1) (by omega)
    have st : (∀ j, n ≤ j → j < R.length → RowT m R Y j) ↔ RowT m R Y n ∧ ∀ j, n + 1 ≤ j → j < R.length → RowT m R Y j := by
      constructor
      · exact fun h => ⟨h n (Nat.le_refl _) (by omega), fun j h1 h2 => h j (by omega) h2⟩
      · intro ⟨h0, h⟩ j h1 h2
        by_cases e : j = n
        · exact e ▸ h0
        · exact h j (by omega) h2
    rw [dec_congr st]
    refine ev_succ ?_
    simp only [spec_TableOk.l1, rdL, Int.toNat_natCast, specVal, Option.bind_some]
    refine ev_pos (by omega) (ev_pos (by omega) ?_)
    by_cases k1 : ((R.getD n []).length : Int) = (m : Int)
    case neg =>
      refine ev_neg k1 (ev_succ ?_)
      simp only [spec_TableOk.j3]
      exact ev_pos trivial (ev_eq (Ev.now _) (dec_false (fun h => k1 h.1.1)).symm)
    refine ev_pos k1 (ev_pos (by omega) (ev_succ ?_))
    simp only [spec_TableOk.j3]
    by_cases k2 : Deci (rd Y (n : Int))
    case neg =>
      refine ev_pos ?_ (ev_eq (Ev.now _) (dec_false (fun h => k2 h.1.2.1)).symm)
      rw [deciF k2]; rfl
    refine ev_neg (by rw [deciT k2]; decide) ?_
    refine ev_eq (all_loop2 (fun k i => spec_TableOk.l2 k (m : Int) (n : Int) i L t R Y) m (fun i => Deci (rd (R.getD n []) (i : Int))) (∀ j, n + 1 ≤ j → j < R.length → RowT m R Y j) ?_ ?_ ?_ m 0 (by omega)) (dec_congr ⟨fun h => ⟨⟨k1, k2, h.1⟩, h.2⟩, fun h => ⟨h.1.2.2, h.2⟩⟩)
    · refine ev_succ ?_
      simp only [spec_TableOk.l2]
      refine ev_neg (by omega) ?_
      rw [w64 (x := (n : Int) + 1) (by omega) (by omega)]
      exact go
    · intro i r hi hp h
      refine ev_succ ?_
      simp only [spec_TableOk.l2, rdL, Int.toNat_natCast, specVal, Option.bind_some]
      refine ev_pos (by omega) (ev_pos (by omega) (ev_pos (by omega) (ev_pos (by omega) (ev_pos (by omega) (ev_pos (decide_eq_true hp) ?_)))))
      rw [w64 (x := (i : Int) + 1) (by omega) (by omega)]
      exact h
    · intro i hi hp
      refine ev_succ ?_
      simp only [spec_TableOk.l2, rdL, Int.toNat_natCast, specVal, Option.bind_some]
      exact ev_pos (by omega) (ev_pos (by omega) (ev_pos (by omega) (ev_pos (by omega) (ev_pos (by omega) (ev_neg (by rw [deciF hp]; decide) (Ev.now _))))))
def NamesT (L : List ByteArray) : Prop := ∀ j, 0 ≤ j → j < L.length → NameAt L j
def RowsT (L : List ByteArray) (R : List (List Int)) (Y : List Int) : Prop := ∀ j, 0 ≤ j → j < R.length → RowT L.length R Y j
def TableP (L : List ByteArray) (t : ByteArray) (R : List (List Int)) (Y : List Int) : Prop :=
  (1 ≤ (L.length : Int) ∧ (L.length : Int) ≤ 4) ∧ IsName t ∧ ¬ HasP L L.length t ∧ (1 ≤ (R.length : Int) ∧ (R.length : Int) ≤ 40) ∧ (Y.length : Int) = (R.length : Int) ∧ NamesT L ∧ RowsT L R Y
theorem specTableOk (L : List ByteArray) (t : ByteArray) (R : List (List Int)) (Y : List Int) (hL : L.length ≤ 1048576) (hs : ∀ x ∈ L, x.size ≤ 1048576) (ht : t.size ≤ 1048576) (hR : R.length ≤ 1048576) : Ev (fun k => spec_TableOk.f k L t R Y) (dec (TableP L t R Y)) := by
  unfold spec_TableOk.f
  simp only [specIn, Option.bind_some]
  have stop : ∀ r : Bool, r = false → Ev (fun k => spec_TableOk.j0 k (L.length : Int) true L t R Y) r := by
    rintro _ rfl
    refine ev_succ ?_
    simp only [spec_TableOk.j0]
    exact ev_pos trivial (Ev.now _)
  unfold TableP
  by_cases k1 : 1 ≤ (L.length : Int) ∧ (L.length : Int) ≤ 4
  case neg => exact ev_neg (by rw [decide_eq_false k1]; decide) (stop _ (dec_false (fun h => k1 h.1)))
  refine ev_pos (decide_eq_true k1) (Ev.bind (specNameOk t (by omega)) ?_)
  by_cases k2 : IsName t
  case neg => exact ev_neg (by rw [dec_false k2]; decide) (stop _ (dec_false (fun h => k2 h.2.1)))
  refine ev_pos (dec_true k2) (Ev.bind (specHas L t hL) ?_)
  by_cases k3 : HasP L L.length t
  · exact ev_pos (dec_true k3) (stop _ (dec_false (fun h => h.2.2.1 k3)))
  refine ev_neg (by rw [dec_false k3]; decide) ?_
  by_cases k4 : 1 ≤ (R.length : Int) ∧ (R.length : Int) ≤ 40
  case neg => exact ev_neg (by rw [decide_eq_false k4]; decide) (stop _ (dec_false (fun h => k4 h.2.2.2.1)))
  refine ev_pos (decide_eq_true k4) ?_
  by_cases k5 : (Y.length : Int) = (R.length : Int)
  case neg =>
    rw [bne_iff_ne.2 k5]
    exact stop _ (dec_false (fun h => k5 h.2.2.2.2.1))
  rw [k5, bne_self_eq_false]
  refine ev_succ ?_
  simp only [spec_TableOk.j0]
  refine ev_neg (by decide) ?_
  refine ev_eq (all_loop2 (fun k i => spec_TableOk.l0 k (L.length : Int) i L t R Y) L.length (NameAt L) (RowsT L R Y) ?_ ?_ ?_ L.length 0 (by omega)) (dec_congr ⟨fun h => ⟨k1, k2, k3, k4, trivial, h.1, h.2⟩, fun h => ⟨h.2.2.2.2.2.1, h.2.2.2.2.2.2⟩⟩)
  · refine ev_succ ?_
    simp only [spec_TableOk.l0]
    exact ev_neg (by omega) (specRows L t R Y L.length hL hR (by omega) R.length 0 (by omega))
  · intro n r hn hp h
    have g := sAt_size hs n
    refine ev_succ ?_
    simp only [spec_TableOk.l0, Int.toNat_natCast]
    refine ev_pos (by omega) (ev_pos (by omega) (ev_pos (by omega) (Ev.bind (specNameOk (sAt L n) (by omega)) (ev_pos (dec_true hp.1) (ev_pos (by omega) (Ev.bind (specHas (L.take n) (sAt L n) (by rw [List.length_take]; omega)) (ev_neg ?_ ?_)))))))
    · rw [dec_congr (hasP_take L (by omega) _), dec_false hp.2]; decide
    · rw [w64 (x := (n : Int) + 1) (by omega) (by omega)]
      exact h
  · intro n hn hp
    have g := sAt_size hs n
    refine ev_succ ?_
    simp only [spec_TableOk.l0, Int.toNat_natCast]
    refine ev_pos (by omega) (ev_pos (by omega) (ev_pos (by omega) (Ev.bind (specNameOk (sAt L n) (by omega)) ?_)))
    by_cases a : IsName (sAt L n)
    · refine ev_pos (dec_true a) (ev_pos (by omega) (Ev.bind (specHas (L.take n) (sAt L n) (by rw [List.length_take]; omega)) (ev_pos ?_ (Ev.now _))))
      rw [dec_congr (hasP_take L (by omega) _)]
      exact dec_true (Classical.byContradiction fun z => hp ⟨a, z⟩)
    · exact ev_neg (by rw [dec_false a]; decide) (Ev.now _)

theorem colOf_cases (L : List ByteArray) (R : List (List Int)) (f : Int) : colOf L R f = [] ∨ ((0 ≤ f ∧ f ≤ (L.length : Int) - 1) ∧ colOf L R f = col f R) := by
  unfold colOf
  by_cases g : 0 ≤ f ∧ f ≤ (L.length : Int) - 1
  · rw [if_pos g]; exact Or.inr ⟨g, rfl⟩
  · rw [if_neg g]; exact Or.inl rfl
theorem column_end (L : List ByteArray) (t : ByteArray) (R : List (List Int)) (Y : List Int) (f n : Int) : Ev (fun k => laws_FnColumn.j1 k f (colOf L R f) n false L t R Y) true := by
  refine ev_succ ?_
  simp only [laws_FnColumn.j1]
  refine ev_neg (by decide) ?_
  by_cases h : ((colOf L R f).length : Int) = 0
  · exact ev_pos h (Ev.now _)
  · refine ev_neg h (ev_of ?_)
    rcases colOf_cases L R f with e | ⟨_, e⟩
    · rw [e] at h; exact absurd rfl h
    · rw [e, col_length]; simp
theorem column_loop (L : List ByteArray) (t : ByteArray) (R : List (List Int)) (Y : List Int) (f : Int) (D : Drawn L t R Y) : ∀ (d n : Nat), n + d = (colOf L R f).length → Ev (fun k => laws_FnColumn.l0 k f (colOf L R f) (n : Int) L t R Y) true := by
  obtain ⟨a1, a2, a3, a4, a5, a6, a7⟩ := D
  intro d
  induction d with
  | zero =>
    intro n hn
    refine ev_succ ?_
    simp only [laws_FnColumn.l0]
    exact ev_neg (by omega) (column_end L t R Y f n)
  | succ d ih =>
    intro n hn
    have go := ih (n + 1) (by omega)
    refine ev_succ ?_
    simp only [laws_FnColumn.l0]
    refine ev_pos (by omega) (Ev.bind (specTableOk L t R Y (by omega) (fun x hx => by have := a2 x hx; omega) (by omega) (by omega)) ?_)
    by_cases p : TableP L t R Y
    case neg =>
      rw [dec_false p]
      exact column_end L t R Y f n
    rw [dec_true p]
    rcases colOf_cases L R f with e | ⟨g, e⟩
    · rw [e] at hn; simp at hn
    have hl : (colOf L R f).length = R.length := by rw [e, col_length]
    have hrow := (p.2.2.2.2.2.2 n (Nat.zero_le _) (by omega)).1
    refine ev_succ ?_
    simp only [laws_FnColumn.j1, rdL, Int.toNat_natCast]
    rw [w64 (x := (n : Int) + 1) (by omega) (by omega)]
    refine ev_pos trivial (ev_pos (by omega) (ev_pos (by omega) (ev_pos (by omega) (ev_pos g.1 (ev_pos (by omega) (ev_pos ?_ go))))))
    rw [e, rd_col f (by omega), cell, if_pos (by omega)]
theorem FnColumn : laws_FnColumn.Pure := by
  intro l hm hl hw
  refine Ev.rounds ?_
  unfold laws_FnColumn.f
  rw [lawsBig]
  simp only [Option.bind_some]
  by_cases hb : (l.length : Int) > 1048576
  · exact ev_pos (by simpa using hb) (Ev.now _)
  refine ev_neg (by simpa using hb) ?_
  obtain ⟨L, t, R, Y, f, e, D⟩ := drawColumn l (by omega)
  have D' := D
  obtain ⟨a1, a2, a3, a4, a5, a6, a7⟩ := D'
  have hc : (colOf L R f).length ≤ 42 := by
    rcases colOf_cases L R f with e | ⟨_, e⟩
    · rw [e]; simp
    · rw [e, col_length]; exact a4
  exact Ev.bind e (Ev.bind (implColumn L t R Y f (by omega) (by omega)) (Ev.bind (specColumn L t R Y f (by omega) (by omega)) (Ev.bind (lawsSameInts _ (by omega)) (ev_pos rfl (column_loop L t R Y f D (colOf L R f).length 0 (by omega))))))

end Go.Proofs.Ytiacoiiapmfaeaa.Pure
