/- each prefix sum is the one before it and its slot together; there are as many as slots, or none. Conditions: none but the row's own.
-/
import Derived.Test.YtloinhlkkbploaaQFnPrefixesx5
set_option linter.unusedVariables false
set_option linter.unusedSimpArgs false
namespace Go.Proofs.Ytloinhlkkbploaa.Pure
open Go.RowKit Go.Proofs.Ytloinhlkkbploaa.QFnPrefixes Go.Proofs.YtloinhlkkbploaaW.PrintWords Go.Proofs.YtloinhlkkbploaaW.PrintLast Go.Proofs.YtloinhlkkbploaaW.PrintMore

theorem w64 {x : Int} (h1 : -9223372036854775808 ≤ x) (h2 : x ≤ 9223372036854775807) : wrap64 x = x := by unfold wrap64; omega
theorem i64_wf {x : Int} (h : (Lit.int .i64 x).wf = true) : -9223372036854775808 ≤ x ∧ x ≤ 9223372036854775807 := by
  simpa [Lit.wf, IntKind.min, IntKind.max, IntKind.signed, IntKind.bits] using h
theorem u8_wf {x : Int} (h : (Lit.int .u8 x).wf = true) : 0 ≤ x ∧ x ≤ 255 := by
  simpa [Lit.wf, IntKind.min, IntKind.max, IntKind.signed, IntKind.bits] using h
theorem rd_eq {xs : List Int} {i : Int} (h0 : 0 ≤ i) (h : i < (xs.length : Int)) : xs[i.toNat]? = some (rd xs i) := by
  unfold rd
  rw [List.getD_eq_getElem?_getD, List.getElem?_eq_getElem (by omega)]
  rfl
theorem rd_mem {xs : List Int} {i : Int} (h0 : 0 ≤ i) (h : i < (xs.length : Int)) : rd xs i ∈ xs := List.mem_of_getElem? (rd_eq h0 h)
theorem rd_of {xs : List Int} {n : Nat} {v : Int} (h : xs[n]? = some v) : rd xs (n : Int) = v := by
  unfold rd
  rw [List.getD_eq_getElem?_getD, Int.toNat_natCast, h]
  rfl
theorem ev_of {α : Type} {r : α} {p : Option α} (h : p = some r) : Ev (fun _ => p) r := ⟨0, fun _ _ => h⟩
theorem ev_end {α : Type} {g : Nat → Option α} {r : α} (h : ∀ k, g (k + 1) = some r) : Ev g r := Ev.step (f := fun _ => some r) h (Ev.now r)
theorem ev_pos {α : Type} {c : Prop} [Decidable c] {f g : Nat → Option α} {r : α} (hc : c) (h : Ev f r) : Ev (fun k => if c then f k else g k) r := Ev.congr (fun _ => if_pos hc) h
theorem ev_neg {α : Type} {c : Prop} [Decidable c] {f g : Nat → Option α} {r : α} (hc : ¬ c) (h : Ev g r) : Ev (fun k => if c then f k else g k) r := Ev.congr (fun _ => if_neg hc) h
theorem rd_drop {xs : List Int} {n : Nat} (h : n < xs.length) : xs.drop n = rd xs (n : Int) :: xs.drop (n + 1) := by
  rw [List.drop_eq_getElem_cons h]
  congr 1
  unfold rd
  rw [List.getD_eq_getElem?_getD, Int.toNat_natCast, List.getElem?_eq_getElem h]
  rfl
noncomputable def dec (p : Prop) : Bool := @decide p (Classical.propDecidable p)
theorem dec_true {p : Prop} (h : p) : dec p = true := @decide_eq_true p (Classical.propDecidable p) h
theorem dec_false {p : Prop} (h : ¬ p) : dec p = false := @decide_eq_false p (Classical.propDecidable p) h
theorem dec_iff {p : Prop} : dec p = true ↔ p := @decide_eq_true_iff p (Classical.propDecidable p)
theorem dec_congr {p q : Prop} (h : p ↔ q) : dec p = dec q := by rw [propext h]
theorem dec_eq {p : Prop} [Decidable p] : dec p = decide p := by
  by_cases h : p
  · rw [dec_true h, decide_eq_true h]
  · rw [dec_false h, decide_eq_false h]
theorem ev_succ {α : Type} {g : Nat → Option α} {r : α} (h : Ev (fun k => g (k + 1)) r) : Ev g r := by
  obtain ⟨K, h⟩ := h
  refine ⟨K + 1, fun n hn => ?_⟩
  obtain ⟨m, rfl⟩ : ∃ m, n = m + 1 := ⟨n - 1, by omega⟩
  exact h m (by omega)
theorem ev_eq {α : Type} {g : Nat → Option α} {r r' : α} (h : Ev g r) (e : r = r') : Ev g r' := e ▸ h
theorem gd_eq {α : Type} (z : α) {xs : List α} {i : Int} (h0 : 0 ≤ i) (h : i < (xs.length : Int)) : xs[i.toNat]? = some (xs.getD i.toNat z) := by
  rw [List.getD_eq_getElem?_getD, List.getElem?_eq_getElem (by omega)]
  rfl
theorem gd_nat {α : Type} (z : α) {xs : List α} {n : Nat} {v : α} (h : xs[n]? = some v) : xs.getD ((n : Int)).toNat z = v := by
  rw [List.getD_eq_getElem?_getD, Int.toNat_natCast, h]
  rfl
theorem gd_drop {α : Type} (z : α) {xs : List α} {n : Nat} (h : n < xs.length) : xs.drop n = xs.getD ((n : Int)).toNat z :: xs.drop (n + 1) := by
  rw [List.drop_eq_getElem_cons h]
  congr 1
  exact (gd_nat z (List.getElem?_eq_getElem h)).symm
/-- A loop that copies: place after place is set. -/
theorem copy_loop {α β : Type} (F : Nat → List β → Int → Option (List β)) (l : List α) (g : α → β)
    (hend : ∀ acc : List β, acc.length = l.length → Ev (fun k => F k acc (l.length : Int)) acc)
    (hstep : ∀ (acc : List β) (n : Nat) (x : α) (r : List β), n < l.length → acc.length = l.length → l[n]? = some x → Ev (fun k => F k (acc.set n (g x)) ((n + 1 : Nat) : Int)) r → Ev (fun k => F k acc (n : Int)) r) :
    ∀ (d n : Nat) (acc : List β), n + d = l.length → acc.length = l.length → (∀ j, j < n → acc[j]? = (l.map g)[j]?) → Ev (fun k => F k acc (n : Int)) (l.map g) := by
  intro d
  induction d with
  | zero =>
    intro n acc hn ha hp
    obtain rfl : n = l.length := by omega
    refine ev_eq (hend acc ha) (List.ext_getElem? fun j => ?_)
    by_cases h : j < l.length
    · exact hp j h
    · rw [List.getElem?_eq_none (by omega), List.getElem?_eq_none (by simp; omega)]
  | succ d ih =>
    intro n acc hn ha hp
    have hx : l[n]? = some l[n] := List.getElem?_eq_getElem (by omega)
    refine hstep acc n l[n] _ (by omega) ha hx (ih (n + 1) _ (by omega) (by simpa using ha) ?_)
    intro j hj
    rw [List.getElem?_set]
    by_cases h : n = j
    · subst h
      rw [if_pos rfl, if_pos (by omega), List.getElem?_map, hx]
      rfl
    · rw [if_neg h]
      exact hp j (by omega)
/-- A loop that tests place after place. -/
theorem all_loop (F : Nat → Int → Option Bool) (L : Nat) (p : Nat → Prop) (hend : Ev (fun k => F k (L : Int)) true)
    (hyes : ∀ (n : Nat) (r : Bool), n < L → p n → Ev (fun k => F k ((n + 1 : Nat) : Int)) r → Ev (fun k => F k (n : Int)) r)
    (hno : ∀ n : Nat, n < L → ¬ p n → Ev (fun k => F k (n : Int)) false) :
    ∀ (d n : Nat), n + d = L → Ev (fun k => F k (n : Int)) (dec (∀ j, n ≤ j → j < L → p j)) := by
  intro d
  induction d with
  | zero =>
    intro n hn
    obtain rfl : n = L := by omega
    exact ev_eq hend (dec_true (fun j h1 h2 => by omega)).symm
  | succ d ih =>
    intro n hn
    by_cases h : p n
    · refine hyes n _ (by omega) h (ev_eq (ih (n + 1) (by omega)) (dec_congr ⟨fun g j h1 h2 => ?_, fun g j h1 h2 => g j (by omega) h2⟩))
      by_cases e : j = n
      · exact e ▸ h
      · exact g j (by omega) h2
    · exact ev_eq (hno n (by omega) h) (dec_false (fun g => h (g n (Nat.le_refl _) (by omega)))).symm
/-- A loop that goes round L times over a state. -/
theorem fold_loop {σ ρ : Type} (F : Nat → σ → Int → Option ρ) (L : Nat) (S : Nat → σ) (r : ρ) (hend : Ev (fun k => F k (S L) (L : Int)) r)
    (hstep : ∀ n : Nat, n < L → Ev (fun k => F k (S (n + 1)) ((n + 1 : Nat) : Int)) r → Ev (fun k => F k (S n) (n : Int)) r) :
    ∀ (d n : Nat), n + d = L → Ev (fun k => F k (S n) (n : Int)) r := by
  intro d
  induction d with
  | zero =>
    intro n hn
    obtain rfl : n = L := by omega
    exact hend
  | succ d ih =>
    intro n hn
    exact hstep n (by omega) (ih (n + 1) (by omega))
theorem set_mid {α : Type} (a b : List α) (x v : α) {n : Nat} (h : a.length = n) : (a ++ x :: b).set n v = a ++ v :: b := by
  subst h
  rw [List.set_append_right _ _ (Nat.le_refl _), Nat.sub_self]
  rfl
theorem get_mid {α : Type} (a b : List α) (x : α) {n : Nat} (h : a.length = n) : (a ++ x :: b)[n]? = some x := by
  subst h
  rw [List.getElem?_append_right (Nat.le_refl _), Nat.sub_self]
  rfl
theorem lawsBig (l : List Int) : laws_big.f l = some (decide ((l.length : Int) > 1048576)) := rfl
theorem rdi (xs : List S26) (i : Int) : rd_T26 xs i = xs.getD i.toNat z26 := rfl
/-- The sum and true; 0 and false where it has no room. -/
def addI (a b : Int) : Int × Bool := if -9223372036854775808 ≤ a + b ∧ a + b ≤ 9223372036854775807 then (a + b, true) else (0, false)
def subI (a b : Int) : Int × Bool := if -9223372036854775808 ≤ a - b ∧ a - b ≤ 9223372036854775807 then (a - b, true) else (0, false)
def I64 (a : Int) : Prop := -9223372036854775808 ≤ a ∧ a ≤ 9223372036854775807
theorem addI_i64 (a b : Int) : I64 (addI a b).1 := by
  unfold addI I64
  split
  · assumption
  · exact ⟨by decide, by decide⟩
theorem subI_i64 (a b : Int) : I64 (subI a b).1 := by
  unfold subI I64
  split
  · assumption
  · exact ⟨by decide, by decide⟩
theorem wrap_over {x : Int} (h1 : 9223372036854775807 < x) (h2 : x < 27670116110564327424) : wrap64 x = x - 18446744073709551616 := by unfold wrap64; omega
theorem wrap_under {x : Int} (h1 : x < -9223372036854775808) (h2 : -27670116110564327424 ≤ x) : wrap64 x = x + 18446744073709551616 := by unfold wrap64; omega
/-- Slots of whole numbers. -/
def SOk (l : List S26) : Prop := ∀ x ∈ l, I64 x.f0 ∧ I64 x.f1
theorem SOk.at {l : List S26} (h : SOk l) {n : Nat} {x : S26} (e : l[n]? = some x) : I64 x.f0 ∧ I64 x.f1 := h x (List.mem_of_getElem? e)
theorem and255 (x : Int) : 0 ≤ Go.bits .and .i64 x 255 ∧ Go.bits .and .i64 x 255 ≤ 255 := by
  simp only [Go.bits]
  have h : (BitVec.ofInt IntKind.i64.bits x &&& BitVec.ofInt IntKind.i64.bits 255).toNat ≤ 255 := by
    rw [BitVec.toNat_and]
    exact Nat.le_trans Nat.and_le_right (by decide)
  rw [IntKind.wrap_i64]
  omega
theorem l1New_l0 (l : List Int) (hl : l.length ≤ 35184372088832) : ∀ (d n : Nat) (x : Int), n + d = l.length → ∃ h, Ev (fun k => spec_l1New.l0 k l x (n : Int)) (l, 0, h) := by
  intro d
  induction d with
  | zero =>
    intro n x hn
    refine ⟨x, ev_end fun k => ?_⟩
    simp only [spec_l1New.l0]
    rw [if_neg (by omega)]
  | succ d ih =>
    intro n x hn
    by_cases h4 : (n : Int) < 4000
    · obtain ⟨h, e⟩ := ih (n + 1) (Go.bits .and .i64 (wrap64 ((wrap64 ((wrap64 (x * 131)) + (wrap64 (rd l n)))) + 7)) 1073741823) (by omega)
      refine ⟨h, Ev.step (fun k => ?_) e⟩
      simp only [spec_l1New.l0]
      rw [if_pos (by omega), if_pos h4, if_pos (by omega), w64 (x := (n : Int) + 1) (by omega) (by omega)]
      rfl
    · refine ⟨x, ev_end fun k => ?_⟩
      simp only [spec_l1New.l0]
      rw [if_pos (by omega), if_neg h4]
theorem l1New (l : List Int) (hl : l.length ≤ 35184372088832) : ∃ h, Ev (fun k => spec_l1New.f k l) (l, 0, h) := l1New_l0 l hl l.length 0 _ (by omega)
/-- A cursor's place is within its bytes. -/
def Cur (l : List Int) (i : Int) : Prop := 0 ≤ i ∧ i ≤ l.length ∧ l.length ≤ 35184372088832
theorem cur0 (l : List Int) (hl : l.length ≤ 35184372088832) : Cur l 0 := ⟨by omega, by omega, hl⟩
theorem l1Byte {l : List Int} {i : Int} (h : Int) (hc : Cur l i) : ∃ r i' h', spec_l1Byte.f l i h = some (r, i', h') ∧ Cur l i' ∧ 0 ≤ r ∧ r ≤ 255 := by
  unfold Cur at *
  unfold spec_l1Byte.f
  by_cases h1 : i < (l.length : Int)
  · rw [if_pos h1, if_pos hc.1, w64 (x := i + 1) (by omega) (by omega)]
    exact ⟨_, _, _, rfl, by omega, and255 _⟩
  · rw [if_neg h1]
    exact ⟨_, _, _, rfl, by omega, and255 _⟩
theorem l1Below {l : List Int} {i : Int} (h : Int) (n : Int) (hc : Cur l i) : ∃ r i' h', spec_l1Below.f l i h n = some (r, i', h') ∧ Cur l i' ∧ 0 ≤ r ∧ (0 < n → r < n) ∧ (n ≤ 0 → r = 0) := by
  unfold spec_l1Below.f
  by_cases h1 : n ≤ 0
  · rw [if_pos h1]
    exact ⟨0, _, _, rfl, hc, by omega, by omega, fun _ => rfl⟩
  rw [if_neg h1]
  by_cases h2 : n ≤ 256
  · rw [if_pos h2]
    obtain ⟨r, i', h', e, hc', h3, h4⟩ := l1Byte h hc
    rw [e]
    simp only [Option.bind_some]
    rw [if_neg (by omega)]
    refine ⟨_, _, _, rfl, hc', ?_, ?_, by omega⟩
    · rw [Int.tmod_eq_emod_of_nonneg h3]; exact Int.emod_nonneg _ (by omega)
    · intro _; rw [Int.tmod_eq_emod_of_nonneg h3]; exact Int.emod_lt_of_pos _ (by omega)
  · rw [if_neg h2]
    obtain ⟨x, i1, h1, e1, hc1, x1, x2⟩ := l1Byte h hc
    obtain ⟨y, i2, h2, e2, hc2, y1, y2⟩ := l1Byte h1 hc1
    obtain ⟨z, i3, h3, e3, hc3, z1, z2⟩ := l1Byte h2 hc2
    obtain ⟨w, i4, h4, e4, hc4, w1, w2⟩ := l1Byte h3 hc3
    simp only [e1, e2, e3, e4, Option.bind_some]
    rw [if_neg (by omega), w64 (x := x * 16777216) (by omega) (by omega), w64 (x := y * 65536) (by omega) (by omega), w64 (x := x * 16777216 + y * 65536) (by omega) (by omega), w64 (x := z * 256) (by omega) (by omega), w64 (x := x * 16777216 + y * 65536 + z * 256) (by omega) (by omega), w64 (x := x * 16777216 + y * 65536 + z * 256 + w) (by omega) (by omega)]
    have h5 : 0 ≤ x * 16777216 + y * 65536 + z * 256 + w := by omega
    refine ⟨_, _, _, rfl, hc4, ?_, ?_, by omega⟩
    · rw [Int.tmod_eq_emod_of_nonneg h5]; exact Int.emod_nonneg _ (by omega)
    · intro _; rw [Int.tmod_eq_emod_of_nonneg h5]; exact Int.emod_lt_of_pos _ (by omega)
theorem l1PickInt {l : List Int} {i : Int} (h : Int) (xs : List Int) (hc : Cur l i) (hx : 0 < xs.length) : ∃ r i' h', spec_l1PickInt.f l i h xs = some (r, i', h') ∧ Cur l i' ∧ r ∈ xs := by
  unfold spec_l1PickInt.f
  obtain ⟨r, i', h', e, hc', h1, h2, _⟩ := l1Below h (xs.length : Int) hc
  rw [e]
  simp only [Option.bind_some]
  have h3 := h2 (by omega)
  rw [if_pos h1, if_pos h3]
  exact ⟨_, _, _, rfl, hc', rd_mem h1 h3⟩
theorem wrap_i64_range (x : Int) : I64 (wrap64 x) := by unfold I64 wrap64; omega
theorem l1Whole_l0 {l : List Int} : ∀ (d n : Nat) (x i h : Int), n + d = 8 → I64 x → Cur l i → ∃ r i' h', Ev (fun k => spec_l1Whole.l0 k x (n : Int) l i h) (r, i', h') ∧ Cur l i' ∧ I64 r := by
  intro d
  induction d with
  | zero =>
    intro n x i h hn hx hc
    refine ⟨x, i, h, ev_end fun k => ?_, hc, hx⟩
    simp only [spec_l1Whole.l0]
    rw [if_neg (by omega)]
  | succ d ih =>
    intro n x i h hn hx hc
    obtain ⟨b, i1, h1, e1, hc1, _⟩ := l1Byte h hc
    obtain ⟨r, i2, h2, e2, hc2, hr⟩ := ih (n + 1) (wrap64 ((wrap64 (x * 256)) + b)) i1 h1 (by omega) (wrap_i64_range _) hc1
    refine ⟨r, i2, h2, Ev.step (fun k => ?_) e2, hc2, hr⟩
    simp only [spec_l1Whole.l0, e1, Option.bind_some]
    rw [if_pos (by omega), w64 (x := (n : Int) + 1) (by omega) (by omega)]
    rfl
theorem l1Whole {l : List Int} {i : Int} (h : Int) (hc : Cur l i) : ∃ r i' h', Ev (fun k => spec_l1Whole.f k l i h) (r, i', h') ∧ Cur l i' ∧ I64 r := by
  unfold spec_l1Whole.f
  obtain ⟨a, i1, h1, e1, hc1, a1, a2, _⟩ := l1Below h 4 hc
  rw [e1]
  simp only [Option.bind_some]
  by_cases c0 : a = 0
  · obtain ⟨r, i2, h2, e2, hc2, hr⟩ := l1PickInt h1 ([0, 1, (-1), 9, 10, 999, 1000, 2147483647, (-2147483648), 3037000499, 3037000500, 9223372036854775807, (-9223372036854775807), (-9223372036854775808)] : List Int) hc1 (by simp)
    refine ⟨r, i2, h2, ev_pos c0 ?_, hc2, ?_⟩
    · rw [e2]; exact Ev.now _
    · simp only [List.mem_cons, List.not_mem_nil, or_false] at hr
      unfold I64; omega
  by_cases c1 : a = 1
  · obtain ⟨r, i2, h2, e2, hc2, hr⟩ := l1Whole_l0 8 0 0 i1 h1 (by omega) ⟨by decide, by decide⟩ hc1
    exact ⟨r, i2, h2, ev_neg c0 (ev_pos c1 e2), hc2, hr⟩
  by_cases c2 : a = 2
  · obtain ⟨r, i2, h2, e2, hc2, _⟩ := l1Below h1 1000000 hc1
    refine ⟨wrap64 (r - 500000), i2, h2, ev_neg c0 (ev_neg c1 (ev_pos c2 ?_)), hc2, wrap_i64_range _⟩
    rw [e2]; exact Ev.now _
  · obtain ⟨r, i2, h2, e2, hc2, _⟩ := l1Below h1 41 hc1
    refine ⟨wrap64 (r - 20), i2, h2, ev_neg c0 (ev_neg c1 (ev_neg c2 ?_)), hc2, wrap_i64_range _⟩
    rw [e2]; exact Ev.now _
theorem l1Once {l : List Int} {i : Int} (h : Int) (n : Int) (hc : Cur l i) : ∃ r i' h', spec_l1Once.f l i h n = some (r, i', h') ∧ Cur l i' := by
  unfold spec_l1Once.f
  obtain ⟨a, i1, h1, e1, c1, _⟩ := l1Below h n hc
  rw [e1]
  exact ⟨_, _, _, rfl, c1⟩
theorem SOk.snoc {l : List S26} (h : SOk l) {x : S26} (h0 : I64 x.f0) (h1 : I64 x.f1) : SOk (l ++ [x]) := by
  intro y hy
  rcases List.mem_append.1 hy with hy | hy
  · exact h y hy
  · simp only [List.mem_singleton] at hy
    subst hy; exact ⟨h0, h1⟩
theorem SOk.set {l : List S26} (h : SOk l) {x : S26} (h0 : I64 x.f0) (h1 : I64 x.f1) (n : Nat) : SOk (l.set n x) := by
  intro y hy
  rcases List.mem_or_eq_of_mem_set hy with hy | rfl
  · exact h y hy
  · exact ⟨h0, h1⟩
theorem l13Hist_j1 {l : List Int} (xs : List S26) (hx : SOk xs) (b : Bool) {i : Int} (h : Int) (hc : Cur l i) (hp : b = true → 0 < xs.length) :
    ∃ ys i' h', Ev (fun k => spec_l13Hist.j1 k xs (xs.length : Int) b l i h) (ys, i', h') ∧ Cur l i' ∧ SOk ys ∧ ys.length = xs.length := by
  cases b with
  | false =>
    refine ⟨xs, i, h, ev_succ ?_, hc, hx, rfl⟩
    simp only [spec_l13Hist.j1]
    exact ev_neg (by decide) (Ev.now _)
  | true =>
    have hpos := hp rfl
    obtain ⟨a, i1, h1, e1, c1, a1, a2, _⟩ := l1Below h (xs.length : Int) hc
    have a3 := a2 (by omega)
    obtain ⟨u, i2, h2, e2, c2, u1⟩ := l1Whole h1 c1
    obtain ⟨v, i3, h3, e3, c3, v1⟩ := l1Whole h2 c2
    refine ⟨xs.set a.toNat ⟨u, v⟩, i3, h3, ev_succ ?_, c3, hx.set u1 v1 _, by simp⟩
    simp only [spec_l13Hist.j1, e1, Option.bind_some]
    exact ev_pos trivial (Ev.bind e2 (Ev.bind e3 (ev_pos a1 (ev_pos a3 (Ev.now _)))))
theorem l13Hist_l0 {l : List Int} (N : Nat) (hN : N ≤ 5) : ∀ (d n : Nat) (xs : List S26) (i h : Int), n + d = N → xs.length = n → SOk xs → Cur l i →
    ∃ ys i' h', Ev (fun k => spec_l13Hist.l0 k xs (N : Int) (n : Int) l i h) (ys, i', h') ∧ Cur l i' ∧ SOk ys ∧ ys.length = N := by
  intro d
  induction d with
  | zero =>
    intro n xs i h hn hl hx hc
    obtain rfl : n = N := by omega
    subst hl
    by_cases h0 : (xs.length : Int) > 0
    · obtain ⟨b, i1, h1, e1, c1⟩ := l1Once h 8 hc
      obtain ⟨ys, i2, h2, e2, c2, hy, hl⟩ := l13Hist_j1 xs hx b h1 c1 (fun _ => by omega)
      refine ⟨ys, i2, h2, ev_succ ?_, c2, hy, hl⟩
      simp only [spec_l13Hist.l0, e1, Option.bind_some]
      exact ev_neg (by omega) (ev_pos h0 e2)
    · obtain ⟨ys, i2, h2, e2, c2, hy, hl⟩ := l13Hist_j1 xs hx false h hc (fun z => by simp at z)
      refine ⟨ys, i2, h2, ev_succ ?_, c2, hy, hl⟩
      simp only [spec_l13Hist.l0]
      exact ev_neg (by omega) (ev_neg h0 e2)
  | succ d ih =>
    intro n xs i h hn hl hx hc
    obtain ⟨a, i1, h1, e1, c1, a1, a2, _⟩ := l1Below h 5 hc
    obtain ⟨b, i2, h2, e2, c2, _⟩ := l1Below h1 2001 c1
    have a3 := a2 (by omega)
    obtain ⟨ys, i3, h3, e3, c3, hy, hl'⟩ := ih (n + 1) (xs ++ [⟨a, wrap64 (b - 1000)⟩]) i2 h2 (by omega) (by simp [hl]) (hx.snoc (by unfold I64; simp only; omega) (wrap_i64_range _)) c2
    refine ⟨ys, i3, h3, ev_succ ?_, c3, hy, hl'⟩
    simp only [spec_l13Hist.l0, e1, e2, Option.bind_some]
    refine ev_pos (by omega) (ev_pos (by omega) ?_)
    rw [w64 (x := (n : Int) + 1) (by omega) (by omega)]
    exact e3
theorem l13Hist {l : List Int} {i : Int} (h : Int) (hc : Cur l i) : ∃ ys i' h', Ev (fun k => spec_l13Hist.f k l i h) (ys, i', h') ∧ Cur l i' ∧ SOk ys ∧ ys.length ≤ 5 := by
  unfold spec_l13Hist.f
  obtain ⟨a, i1, h1, e1, c1, a1, a2, _⟩ := l1Below h 6 hc
  have a3 := a2 (by omega)
  rw [e1]
  simp only [Option.bind_some]
  obtain ⟨ys, i2, h2, e2, c2, hy, hl⟩ := l13Hist_l0 (l := l) a.toNat (by omega) a.toNat 0 [] i1 h1 (by omega) rfl (fun x hx => by simp at hx) c1
  rw [Int.toNat_of_nonneg a1] at e2
  exact ⟨ys, i2, h2, e2, c2, hy, by omega⟩
/-- Two slots together. -/
def plusS (n g n' g' : Int) : Int × Int × Bool := if (addI n n').2 = true ∧ (addI g g').2 = true then ((addI n n').1, (addI g g').1, true) else (0, 0, false)
theorem plusS_i64 (n g n' g' : Int) : I64 (plusS n g n' g').1 ∧ I64 (plusS n g n' g').2.1 := by
  unfold plusS
  split
  · exact ⟨addI_i64 _ _, addI_i64 _ _⟩
  · exact ⟨⟨by decide, by decide⟩, ⟨by decide, by decide⟩⟩
/-- The sums of all beginnings, behind what is there; none where one has no room. -/
def preS : List S26 → Int → Int → List S26 → List S26 × Bool
  | [], _, _, acc => (acc, true)
  | x :: l, n, g, acc => if (plusS n g x.f0 x.f1).2.2 = true then preS l (plusS n g x.f0 x.f1).1 (plusS n g x.f0 x.f1).2.1 (acc ++ [⟨(plusS n g x.f0 x.f1).1, (plusS n g x.f0 x.f1).2.1⟩]) else ([], false)
def prefixS (l : List S26) : List S26 × Bool := preS l 0 0 []
theorem preS_length (l : List S26) (n g : Int) (acc : List S26) : (preS l n g acc).1.length ≤ acc.length + l.length ∧ ((preS l n g acc).2 = true → (preS l n g acc).1.length = acc.length + l.length) := by
  induction l generalizing n g acc with
  | nil => simp [preS]
  | cons x l ih =>
    simp only [preS]
    split
    · have := ih (plusS n g x.f0 x.f1).1 (plusS n g x.f0 x.f1).2.1 (acc ++ [⟨(plusS n g x.f0 x.f1).1, (plusS n g x.f0 x.f1).2.1⟩])
      simp at this ⊢
      exact ⟨by omega, fun h => by have := this.2 h; omega⟩
    · simp
theorem prefixS_length (l : List S26) : (prefixS l).1.length ≤ l.length ∧ ((prefixS l).2 = true → (prefixS l).1.length = l.length) := by
  have := preS_length l 0 0 []
  simpa [prefixS] using this
/-- Plain sums. -/
def sums : Int → Int → List S26 → List S26
  | _, _, [] => []
  | n, g, x :: l => ⟨n + x.f0, g + x.f1⟩ :: sums (n + x.f0) (g + x.f1) l
theorem plusS_true {n g n' g' : Int} (h : (plusS n g n' g').2.2 = true) : plusS n g n' g' = (n + n', g + g', true) ∧ I64 (n + n') ∧ I64 (g + g') := by
  unfold plusS at *
  by_cases c : (addI n n').2 = true ∧ (addI g g').2 = true
  · rw [if_pos c]
    obtain ⟨c1, c2⟩ := c
    unfold addI at *
    split at c1
    · rename_i r1
      split at c2
      · rename_i r2
        rw [if_pos r1, if_pos r2]
        exact ⟨rfl, r1, r2⟩
      · simp at c2
    · simp at c1
  · rw [if_neg c] at h
    simp at h
theorem preS_sums (l : List S26) (n g : Int) (acc : List S26) (h : (preS l n g acc).2 = true) : (preS l n g acc).1 = acc ++ sums n g l ∧ SOk (sums n g l) := by
  induction l generalizing n g acc with
  | nil => exact ⟨by simp [preS, sums], fun x hx => by simp [sums] at hx⟩
  | cons x l ih =>
    simp only [preS] at h ⊢
    split at h
    · rename_i c
      rw [if_pos c]
      obtain ⟨e, r1, r2⟩ := plusS_true c
      rw [e] at h ⊢
      simp only at h ⊢
      obtain ⟨h1, h2⟩ := ih _ _ _ h
      refine ⟨by rw [h1]; simp [sums], fun y hy => ?_⟩
      simp only [sums, List.mem_cons] at hy
      rcases hy with rfl | hy
      · exact ⟨r1, r2⟩
      · exact h2 y hy
    · simp at h
theorem prefixS_sums {l : List S26} (h : (prefixS l).2 = true) : (prefixS l).1 = sums 0 0 l ∧ SOk (sums 0 0 l) := by
  have := preS_sums l 0 0 [] h
  simpa [prefixS] using this
theorem prefixS_false {l : List S26} (h : (prefixS l).2 ≠ true) : (prefixS l).1 = [] := by
  have key : ∀ (l : List S26) (n g : Int) (a : List S26), (preS l n g a).2 ≠ true → (preS l n g a).1 = [] := by
    intro l
    induction l with
    | nil => intro n g a h; simp [preS] at h
    | cons x l ih =>
      intro n g a h
      simp only [preS] at h ⊢
      split at h
      · rename_i c; rw [if_pos c]; exact ih _ _ _ h
      · rename_i c; rw [if_neg c]
  exact key l 0 0 [] h
theorem sums_length (n g : Int) (l : List S26) : (sums n g l).length = l.length := by
  induction l generalizing n g with
  | nil => rfl
  | cons x l ih => simp [sums, ih]
theorem sums_next (l : List S26) (n g : Int) (j : Nat) (x p : S26) (hx : l[j + 1]? = some x) (hp : (sums n g l)[j]? = some p) : (sums n g l)[j + 1]? = some ⟨p.f0 + x.f0, p.f1 + x.f1⟩ := by
  induction l generalizing n g j with
  | nil => simp at hx
  | cons y l ih =>
    simp only [sums] at hp ⊢
    cases j with
    | zero =>
      simp only [List.getElem?_cons_zero, Option.some.injEq] at hp
      subst hp
      cases l with
      | nil => simp at hx
      | cons z l =>
        simp only [List.getElem?_cons_succ, List.getElem?_cons_zero, Option.some.injEq] at hx
        subst hx
        simp [sums]
    | succ j =>
      simp only [List.getElem?_cons_succ] at hp hx ⊢
      exact ih _ _ j hx hp
theorem specAddInt {a b : Int} (ha : I64 a) (hb : I64 b) : spec_AddInt.f a b = some (addI a b) := by
  unfold I64 at ha hb
  unfold spec_AddInt.f addI
  by_cases h1 : b > 0
  · rw [if_pos h1, w64 (x := 9223372036854775807 - b) (by omega) (by omega)]
    by_cases h2 : a > 9223372036854775807 - b
    · rw [if_pos h2, if_neg (by omega)]
    · rw [if_neg h2, if_neg (by omega), if_pos (by omega), w64 (by omega) (by omega)]
  · rw [if_neg h1]
    by_cases h2 : b < 0
    · rw [if_pos h2, w64 (x := -9223372036854775808 - b) (by omega) (by omega)]
      by_cases h3 : a < -9223372036854775808 - b
      · rw [if_pos h3, if_neg (by omega)]
      · rw [if_neg h3, if_pos (by omega), w64 (by omega) (by omega)]
    · rw [if_neg h2, if_pos (by omega), w64 (by omega) (by omega)]
theorem specAdd13 {n g n' g' : Int} (h1 : I64 n) (h2 : I64 g) (h3 : I64 n') (h4 : I64 g') : spec_l13Add.f n g n' g' = some (plusS n g n' g') := by
  unfold spec_l13Add.f plusS
  simp only [specAddInt h1 h3, specAddInt h2 h4, Option.bind_some]
  by_cases a : (addI n n').2 = true
  · by_cases b : (addI g g').2 = true
    · rw [if_pos a, if_pos b, if_pos ⟨a, b⟩]
    · rw [if_pos a, if_neg b, if_neg (fun z => b z.2)]
  · rw [if_neg a, if_neg (fun z => a z.1)]
theorem specPrefix_l0 (l : List S26) (hl : l.length ≤ 1048576) (hx : SOk l) : ∀ (d n : Nat) (acc : List S26) (a b : Int), n + d = l.length → acc.length = n → I64 a → I64 b →
    Ev (fun k => spec_Prefix.l0 k l acc (n : Int) a b) (preS (l.drop n) a b acc) := by
  intro d
  induction d with
  | zero =>
    intro n acc a b hn ha h1 h2
    obtain rfl : n = l.length := by omega
    refine ev_succ ?_
    simp only [spec_Prefix.l0]
    refine ev_neg (by omega) (ev_of ?_)
    rw [List.drop_length]
    rfl
  | succ d ih =>
    intro n acc a b hn ha h1 h2
    refine ev_succ ?_
    have e1 : l[n]? = some l[n] := List.getElem?_eq_getElem (by omega)
    have d1 : l.drop n = l[n] :: l.drop (n + 1) := List.drop_eq_getElem_cons (by omega)
    simp only [spec_Prefix.l0, rdi, gd_nat z26 e1, specAdd13 h1 h2 (hx.at e1).1 (hx.at e1).2, Option.bind_some]
    refine ev_pos (by omega) (ev_pos (by omega) ?_)
    rw [d1]
    simp only [preS]
    by_cases c1 : (plusS a b l[n].f0 l[n].f1).2.2 = true
    · rw [if_pos c1]
      refine ev_pos c1 (ev_pos (by omega) ?_)
      rw [w64 (x := (n : Int) + 1) (by omega) (by omega)]
      exact ih (n + 1) _ _ _ (by omega) (by simp [ha]) (plusS_i64 _ _ _ _).1 (plusS_i64 _ _ _ _).2
    · rw [if_neg c1]
      exact ev_neg c1 (Ev.now _)
theorem specPrefix (l : List S26) (hl : l.length ≤ 1048576) (hx : SOk l) : Ev (fun k => spec_Prefix.f k l) (prefixS l) :=
  specPrefix_l0 l hl hx l.length 0 [] 0 0 (by omega) rfl ⟨by decide, by decide⟩ ⟨by decide, by decide⟩
theorem implAddInt {a b : Int} (ha : I64 a) (hb : I64 b) : impl_AddInt.f a b = some (addI a b) := by
  unfold I64 at ha hb
  unfold impl_AddInt.f addI
  by_cases h : -9223372036854775808 ≤ a + b ∧ a + b ≤ 9223372036854775807
  · rw [if_pos h, w64 h.1 h.2]
    split
    · rename_i h1
      rw [if_neg]
      simp only [beq_iff_eq, decide_eq_decide] at h1
      simp only [bne_iff_ne, ne_eq, decide_eq_decide, Decidable.not_not]
      omega
    · rfl
  · rw [if_neg h]
    have h2 : a + b < -9223372036854775808 ∨ 9223372036854775807 < a + b := by omega
    rw [if_pos (by simp only [beq_iff_eq, decide_eq_decide]; omega)]
    rcases h2 with h2 | h2
    · rw [wrap_under h2 (by omega), if_pos]
      simp only [bne_iff_ne, ne_eq, decide_eq_decide]
      omega
    · rw [wrap_over h2 (by omega), if_pos]
      simp only [bne_iff_ne, ne_eq, decide_eq_decide]
      omega
theorem implPlus {n g n' g' : Int} (h1 : I64 n) (h2 : I64 g) (h3 : I64 n') (h4 : I64 g') : impl_Slot_plus.f n g n' g' = some (plusS n g n' g') := by
  unfold impl_Slot_plus.f plusS
  simp only [implAddInt h1 h3, implAddInt h2 h4, Option.bind_some]
  by_cases a : (addI n n').2 = true
  · by_cases b : (addI g g').2 = true
    · rw [if_pos a, if_pos b, if_pos ⟨a, b⟩]
    · rw [if_pos a, if_neg b, if_neg (fun z => b z.2)]
  · rw [if_neg a, if_neg (fun z => a z.1)]
theorem implPrefix_l0 (l : List S26) (hl : l.length ≤ 1048576) (hx : SOk l) : ∀ (d n : Nat) (acc : List S26) (a b : Int), n + d = l.length → acc.length = n → I64 a → I64 b →
    Ev (fun k => impl_Prefix.l0 k acc l (l.length : Int) (n : Int) a b) (preS (l.drop n) a b acc) := by
  intro d
  induction d with
  | zero =>
    intro n acc a b hn ha h1 h2
    obtain rfl : n = l.length := by omega
    refine ev_succ ?_
    simp only [impl_Prefix.l0]
    refine ev_neg (by omega) (ev_of ?_)
    rw [List.drop_length]
    rfl
  | succ d ih =>
    intro n acc a b hn ha h1 h2
    refine ev_succ ?_
    have e1 : l[n]? = some l[n] := List.getElem?_eq_getElem (by omega)
    have d1 : l.drop n = l[n] :: l.drop (n + 1) := List.drop_eq_getElem_cons (by omega)
    simp only [impl_Prefix.l0, rdi, gd_nat z26 e1, implPlus h1 h2 (hx.at e1).1 (hx.at e1).2, Option.bind_some]
    refine ev_pos (by omega) (ev_pos (by omega) (ev_pos (by omega) ?_))
    rw [d1]
    simp only [preS]
    by_cases c1 : (plusS a b l[n].f0 l[n].f1).2.2 = true
    · rw [if_pos c1]
      refine ev_pos c1 (ev_pos (by omega) ?_)
      rw [w64 (x := (n : Int) + 1) (by omega) (by omega)]
      exact ih (n + 1) _ _ _ (by omega) (by simp [ha]) (plusS_i64 _ _ _ _).1 (plusS_i64 _ _ _ _).2
    · rw [if_neg c1]
      exact ev_neg c1 (Ev.now _)
theorem implPrefix (l : List S26) (hl : l.length ≤ 1048576) (hx : SOk l) : Ev (fun k => impl_Prefix.f k l) (prefixS l) :=
  implPrefix_l0 l hl hx l.length 0 [] 0 0 (by omega) rfl ⟨by decide, by decide⟩ ⟨by decide, by decide⟩

theorem prefixes_l0 (xs : List S26) (hl : xs.length ≤ 5) (hok : SOk (sums 0 0 xs)) : ∀ (d n : Nat), n + d = xs.length → Ev (fun k => laws_FnPrefixes.l0 k xs (sums 0 0 xs) (n : Int)) true := by
  have hlen := sums_length 0 0 xs
  intro d
  induction d with
  | zero =>
    intro n hn
    refine ev_succ ?_
    simp only [laws_FnPrefixes.l0]
    refine ev_neg (by omega) (ev_of ?_)
    rw [hlen]; simp
  | succ d ih =>
    intro n hn
    refine ev_succ ?_
    have e1 : xs[n]? = some xs[n] := List.getElem?_eq_getElem (by omega)
    have go := ih (n + 1) (by omega)
    simp only [laws_FnPrefixes.l0]
    refine ev_pos (by omega) (ev_pos (by omega) ?_)
    rw [w64 (x := (n : Int) + 1) (by omega) (by omega)]
    cases n with
    | zero =>
      refine ev_neg (by omega) (ev_pos (by omega) ?_)
      cases xs with
      | nil => simp at hn
      | cons x xs =>
        refine ev_neg ?_ go
        simp [sums, rdi]
    | succ m =>
      have em : (((m + 1 : Nat) : Int) - 1) = (m : Int) := by omega
      refine ev_pos (by omega) ?_
      rw [em, w64 (x := (m : Int)) (by omega) (by omega)]
      have p1 : (sums 0 0 xs)[m]? = some (sums 0 0 xs)[m] := List.getElem?_eq_getElem (by omega)
      have p2 := sums_next xs 0 0 m _ _ e1 p1
      have r2 := hok.at p2
      refine ev_pos (by omega) (ev_pos (by omega) (ev_pos (by omega) (ev_neg ?_ go)))
      simp only [rdi, gd_nat z26 e1, gd_nat z26 p1, gd_nat z26 p2]
      rw [Int.add_comm (xs[m + 1].f0), Int.add_comm (xs[m + 1].f1), w64 r2.1.1 r2.1.2, w64 r2.2.1 r2.2.2]
      simp
theorem FnPrefixes : laws_FnPrefixes.Pure := by
  intro l hm hl hw
  refine Ev.rounds ?_
  unfold laws_FnPrefixes.f
  rw [lawsBig]
  simp only [Option.bind_some]
  by_cases hb : (l.length : Int) > 1048576
  · exact ev_pos (by simpa using hb) (Ev.now _)
  refine ev_neg (by simpa using hb) ?_
  obtain ⟨h, e1⟩ := l1New l (by omega)
  obtain ⟨xs, i1, h1, e2, c1, hx, hlen⟩ := l13Hist h (cur0 l (by omega))
  have e3 : Ev (fun k => spec_DrawPrefix.f k l) xs := by
    unfold spec_DrawPrefix.f
    exact Ev.bind e1 (Ev.bind e2 (Ev.now _))
  refine Ev.bind e3 (Ev.bind (implPrefix xs (by omega) hx) (Ev.bind (specPrefix xs (by omega) hx) (ev_neg (by simp) ?_)))
  by_cases c : (prefixS xs).2 = true
  · refine ev_pos c ?_
    obtain ⟨p1, p2⟩ := prefixS_sums c
    rw [p1]
    exact prefixes_l0 xs hlen p2 xs.length 0 (by omega)
  · refine ev_neg c (ev_of ?_)
    rw [prefixS_false c]
    rfl

end Go.Proofs.Ytloinhlkkbploaa.Pure
