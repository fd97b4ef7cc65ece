/- better is the reference's; of two candidates never each is better than the other, and none is better than itself. Conditions: none but the row's own.
-/
import Derived.Test.YtlflcgdcegohjaaQFnBetterx15
set_option linter.unusedVariables false
set_option linter.unusedSimpArgs false
namespace Go.Proofs.Ytlflcgdcegohjaa.Pure
open Go.RowKit Go.Proofs.Ytlflcgdcegohjaa.QFnBetter Go.Proofs.YtlflcgdcegohjaaW.PrintWords Go.Proofs.YtlflcgdcegohjaaW.PrintLast Go.Proofs.YtlflcgdcegohjaaW.PrintMore

theorem w64 {x : Int} (h1 : -9223372036854775808 ≤ x) (h2 : x ≤ 9223372036854775807) : wrap64 x = x := by unfold wrap64; omega
theorem i64_wf {x : Int} (h : (Lit.int .i64 x).wf = true) : -9223372036854775808 ≤ x ∧ x ≤ 9223372036854775807 := by
  simpa [Lit.wf, IntKind.min, IntKind.max, IntKind.signed, IntKind.bits] using h
theorem u8_wf {x : Int} (h : (Lit.int .u8 x).wf = true) : 0 ≤ x ∧ x ≤ 255 := by
  simpa [Lit.wf, IntKind.min, IntKind.max, IntKind.signed, IntKind.bits] using h
theorem rd_eq {xs : List Int} {i : Int} (h0 : 0 ≤ i) (h : i < (xs.length : Int)) : xs[i.toNat]? = some (rd xs i) := by
  unfold rd
  rw [List.getD_eq_getElem?_getD, List.getElem?_eq_getElem (by omega)]
  rfl
theorem rd_mem {xs : List Int} {i : Int} (h0 : 0 ≤ i) (h : i < (xs.length : Int)) : rd xs i ∈ xs := List.mem_of_getElem? (rd_eq h0 h)
theorem rd_of {xs : List Int} {n : Nat} {v : Int} (h : xs[n]? = some v) : rd xs (n : Int) = v := by
  unfold rd
  rw [List.getD_eq_getElem?_getD, Int.toNat_natCast, h]
  rfl
theorem ev_of {α : Type} {r : α} {p : Option α} (h : p = some r) : Ev (fun _ => p) r := ⟨0, fun _ _ => h⟩
theorem ev_end {α : Type} {g : Nat → Option α} {r : α} (h : ∀ k, g (k + 1) = some r) : Ev g r := Ev.step (f := fun _ => some r) h (Ev.now r)
theorem ev_pos {α : Type} {c : Prop} [Decidable c] {f g : Nat → Option α} {r : α} (hc : c) (h : Ev f r) : Ev (fun k => if c then f k else g k) r := Ev.congr (fun _ => if_pos hc) h
theorem ev_neg {α : Type} {c : Prop} [Decidable c] {f g : Nat → Option α} {r : α} (hc : ¬ c) (h : Ev g r) : Ev (fun k => if c then f k else g k) r := Ev.congr (fun _ => if_neg hc) h
theorem rd_drop {xs : List Int} {n : Nat} (h : n < xs.length) : xs.drop n = rd xs (n : Int) :: xs.drop (n + 1) := by
  rw [List.drop_eq_getElem_cons h]
  congr 1
  unfold rd
  rw [List.getD_eq_getElem?_getD, Int.toNat_natCast, List.getElem?_eq_getElem h]
  rfl
noncomputable def dec (p : Prop) : Bool := @decide p (Classical.propDecidable p)
theorem dec_true {p : Prop} (h : p) : dec p = true := @decide_eq_true p (Classical.propDecidable p) h
theorem dec_false {p : Prop} (h : ¬ p) : dec p = false := @decide_eq_false p (Classical.propDecidable p) h
theorem dec_iff {p : Prop} : dec p = true ↔ p := @decide_eq_true_iff p (Classical.propDecidable p)
theorem dec_congr {p q : Prop} (h : p ↔ q) : dec p = dec q := by rw [propext h]
theorem dec_eq {p : Prop} [Decidable p] : dec p = decide p := by
  by_cases h : p
  · rw [dec_true h, decide_eq_true h]
  · rw [dec_false h, decide_eq_false h]
theorem ev_succ {α : Type} {g : Nat → Option α} {r : α} (h : Ev (fun k => g (k + 1)) r) : Ev g r := by
  obtain ⟨K, h⟩ := h
  refine ⟨K + 1, fun n hn => ?_⟩
  obtain ⟨m, rfl⟩ : ∃ m, n = m + 1 := ⟨n - 1, by omega⟩
  exact h m (by omega)
theorem ev_eq {α : Type} {g : Nat → Option α} {r r' : α} (h : Ev g r) (e : r = r') : Ev g r' := e ▸ h
theorem gd_eq {α : Type} (z : α) {xs : List α} {i : Int} (h0 : 0 ≤ i) (h : i < (xs.length : Int)) : xs[i.toNat]? = some (xs.getD i.toNat z) := by
  rw [List.getD_eq_getElem?_getD, List.getElem?_eq_getElem (by omega)]
  rfl
theorem gd_nat {α : Type} (z : α) {xs : List α} {n : Nat} {v : α} (h : xs[n]? = some v) : xs.getD ((n : Int)).toNat z = v := by
  rw [List.getD_eq_getElem?_getD, Int.toNat_natCast, h]
  rfl
theorem gd_drop {α : Type} (z : α) {xs : List α} {n : Nat} (h : n < xs.length) : xs.drop n = xs.getD ((n : Int)).toNat z :: xs.drop (n + 1) := by
  rw [List.drop_eq_getElem_cons h]
  congr 1
  exact (gd_nat z (List.getElem?_eq_getElem h)).symm
/-- A loop that copies: place after place is set. -/
theorem copy_loop {α β : Type} (F : Nat → List β → Int → Option (List β)) (l : List α) (g : α → β)
    (hend : ∀ acc : List β, acc.length = l.length → Ev (fun k => F k acc (l.length : Int)) acc)
    (hstep : ∀ (acc : List β) (n : Nat) (x : α) (r : List β), n < l.length → acc.length = l.length → l[n]? = some x → Ev (fun k => F k (acc.set n (g x)) ((n + 1 : Nat) : Int)) r → Ev (fun k => F k acc (n : Int)) r) :
    ∀ (d n : Nat) (acc : List β), n + d = l.length → acc.length = l.length → (∀ j, j < n → acc[j]? = (l.map g)[j]?) → Ev (fun k => F k acc (n : Int)) (l.map g) := by
  intro d
  induction d with
  | zero =>
    intro n acc hn ha hp
    obtain rfl : n = l.length := by omega
    refine ev_eq (hend acc ha) (List.ext_getElem? fun j => ?_)
    by_cases h : j < l.length
    · exact hp j h
    · rw [List.getElem?_eq_none (by omega), List.getElem?_eq_none (by simp; omega)]
  | succ d ih =>
    intro n acc hn ha hp
    have hx : l[n]? = some l[n] := List.getElem?_eq_getElem (by omega)
    refine hstep acc n l[n] _ (by omega) ha hx (ih (n + 1) _ (by omega) (by simpa using ha) ?_)
    intro j hj
    rw [List.getElem?_set]
    by_cases h : n = j
    · subst h
      rw [if_pos rfl, if_pos (by omega), List.getElem?_map, hx]
      rfl
    · rw [if_neg h]
      exact hp j (by omega)
/-- A loop that tests place after place. -/
theorem all_loop (F : Nat → Int → Option Bool) (L : Nat) (p : Nat → Prop) (hend : Ev (fun k => F k (L : Int)) true)
    (hyes : ∀ (n : Nat) (r : Bool), n < L → p n → Ev (fun k => F k ((n + 1 : Nat) : Int)) r → Ev (fun k => F k (n : Int)) r)
    (hno : ∀ n : Nat, n < L → ¬ p n → Ev (fun k => F k (n : Int)) false) :
    ∀ (d n : Nat), n + d = L → Ev (fun k => F k (n : Int)) (dec (∀ j, n ≤ j → j < L → p j)) := by
  intro d
  induction d with
  | zero =>
    intro n hn
    obtain rfl : n = L := by omega
    exact ev_eq hend (dec_true (fun j h1 h2 => by omega)).symm
  | succ d ih =>
    intro n hn
    by_cases h : p n
    · refine hyes n _ (by omega) h (ev_eq (ih (n + 1) (by omega)) (dec_congr ⟨fun g j h1 h2 => ?_, fun g j h1 h2 => g j (by omega) h2⟩))
      by_cases e : j = n
      · exact e ▸ h
      · exact g j (by omega) h2
    · exact ev_eq (hno n (by omega) h) (dec_false (fun g => h (g n (Nat.le_refl _) (by omega)))).symm
/-- A loop that goes round L times over a state. -/
theorem fold_loop {σ ρ : Type} (F : Nat → σ → Int → Option ρ) (L : Nat) (S : Nat → σ) (r : ρ) (hend : Ev (fun k => F k (S L) (L : Int)) r)
    (hstep : ∀ n : Nat, n < L → Ev (fun k => F k (S (n + 1)) ((n + 1 : Nat) : Int)) r → Ev (fun k => F k (S n) (n : Int)) r) :
    ∀ (d n : Nat), n + d = L → Ev (fun k => F k (S n) (n : Int)) r := by
  intro d
  induction d with
  | zero =>
    intro n hn
    obtain rfl : n = L := by omega
    exact hend
  | succ d ih =>
    intro n hn
    exact hstep n (by omega) (ih (n + 1) (by omega))
theorem set_mid {α : Type} (a b : List α) (x v : α) {n : Nat} (h : a.length = n) : (a ++ x :: b).set n v = a ++ v :: b := by
  subst h
  rw [List.set_append_right _ _ (Nat.le_refl _), Nat.sub_self]
  rfl
theorem get_mid {α : Type} (a b : List α) (x : α) {n : Nat} (h : a.length = n) : (a ++ x :: b)[n]? = some x := by
  subst h
  rw [List.getElem?_append_right (Nat.le_refl _), Nat.sub_self]
  rfl
/-- A loop that tests place after place, and one thing more at its end. -/
theorem all_loop2 (F : Nat → Int → Option Bool) (L : Nat) (p : Nat → Prop) (E : Prop) (hend : Ev (fun k => F k (L : Int)) (dec E))
    (hyes : ∀ (n : Nat) (r : Bool), n < L → p n → Ev (fun k => F k ((n + 1 : Nat) : Int)) r → Ev (fun k => F k (n : Int)) r)
    (hno : ∀ n : Nat, n < L → ¬ p n → Ev (fun k => F k (n : Int)) false) :
    ∀ (d n : Nat), n + d = L → Ev (fun k => F k (n : Int)) (dec ((∀ j, n ≤ j → j < L → p j) ∧ E)) := by
  intro d
  induction d with
  | zero =>
    intro n hn
    obtain rfl : n = L := by omega
    exact ev_eq hend (dec_congr ⟨fun h => ⟨fun j h1 h2 => by omega, h⟩, fun h => h.2⟩)
  | succ d ih =>
    intro n hn
    by_cases h : p n
    · refine hyes n _ (by omega) h (ev_eq (ih (n + 1) (by omega)) (dec_congr ⟨fun g => ⟨fun j h1 h2 => ?_, g.2⟩, fun g => ⟨fun j h1 h2 => g.1 j (by omega) h2, g.2⟩⟩))
      by_cases e : j = n
      · exact e ▸ h
      · exact g.1 j (by omega) h2
    · exact ev_eq (hno n (by omega) h) (dec_false (fun g => h (g.1 n (Nat.le_refl _) (by omega)))).symm
theorem lawsBig (l : List Int) : laws_big.f l = some (decide ((l.length : Int) > 1048576)) := rfl
theorem rdi (xs : List S25) (i : Int) : rd_T25 xs i = xs.getD i.toNat z25 := rfl
/-- The sum and true; 0 and false where it has no room. -/
def addI (a b : Int) : Int × Bool := if -9223372036854775808 ≤ a + b ∧ a + b ≤ 9223372036854775807 then (a + b, true) else (0, false)
def subI (a b : Int) : Int × Bool := if -9223372036854775808 ≤ a - b ∧ a - b ≤ 9223372036854775807 then (a - b, true) else (0, false)
def I64 (a : Int) : Prop := -9223372036854775808 ≤ a ∧ a ≤ 9223372036854775807
theorem addI_i64 (a b : Int) : I64 (addI a b).1 := by
  unfold addI I64
  split
  · assumption
  · exact ⟨by decide, by decide⟩
theorem subI_i64 (a b : Int) : I64 (subI a b).1 := by
  unfold subI I64
  split
  · assumption
  · exact ⟨by decide, by decide⟩
theorem wrap_over {x : Int} (h1 : 9223372036854775807 < x) (h2 : x < 27670116110564327424) : wrap64 x = x - 18446744073709551616 := by unfold wrap64; omega
theorem wrap_under {x : Int} (h1 : x < -9223372036854775808) (h2 : -27670116110564327424 ≤ x) : wrap64 x = x + 18446744073709551616 := by unfold wrap64; omega
/-- Slots of whole numbers. -/
def SOk (l : List S25) : Prop := ∀ x ∈ l, I64 x.f0 ∧ I64 x.f1
theorem SOk.at {l : List S25} (h : SOk l) {n : Nat} {x : S25} (e : l[n]? = some x) : I64 x.f0 ∧ I64 x.f1 := h x (List.mem_of_getElem? e)
theorem and255 (x : Int) : 0 ≤ Go.bits .and .i64 x 255 ∧ Go.bits .and .i64 x 255 ≤ 255 := by
  simp only [Go.bits]
  have h : (BitVec.ofInt IntKind.i64.bits x &&& BitVec.ofInt IntKind.i64.bits 255).toNat ≤ 255 := by
    rw [BitVec.toNat_and]
    exact Nat.le_trans Nat.and_le_right (by decide)
  rw [IntKind.wrap_i64]
  omega
theorem l1New_l0 (l : List Int) (hl : l.length ≤ 35184372088832) : ∀ (d n : Nat) (x : Int), n + d = l.length → ∃ h, Ev (fun k => spec_l1New.l0 k l x (n : Int)) (l, 0, h) := by
  intro d
  induction d with
  | zero =>
    intro n x hn
    refine ⟨x, ev_end fun k => ?_⟩
    simp only [spec_l1New.l0]
    rw [if_neg (by omega)]
  | succ d ih =>
    intro n x hn
    by_cases h4 : (n : Int) < 4000
    · obtain ⟨h, e⟩ := ih (n + 1) (Go.bits .and .i64 (wrap64 ((wrap64 ((wrap64 (x * 131)) + (wrap64 (rd l n)))) + 7)) 1073741823) (by omega)
      refine ⟨h, Ev.step (fun k => ?_) e⟩
      simp only [spec_l1New.l0]
      rw [if_pos (by omega), if_pos h4, if_pos (by omega), w64 (x := (n : Int) + 1) (by omega) (by omega)]
      rfl
    · refine ⟨x, ev_end fun k => ?_⟩
      simp only [spec_l1New.l0]
      rw [if_pos (by omega), if_neg h4]
theorem l1New (l : List Int) (hl : l.length ≤ 35184372088832) : ∃ h, Ev (fun k => spec_l1New.f k l) (l, 0, h) := l1New_l0 l hl l.length 0 _ (by omega)
/-- A cursor's place is within its bytes. -/
def Cur (l : List Int) (i : Int) : Prop := 0 ≤ i ∧ i ≤ l.length ∧ l.length ≤ 35184372088832
theorem cur0 (l : List Int) (hl : l.length ≤ 35184372088832) : Cur l 0 := ⟨by omega, by omega, hl⟩
theorem l1Byte {l : List Int} {i : Int} (h : Int) (hc : Cur l i) : ∃ r i' h', spec_l1Byte.f l i h = some (r, i', h') ∧ Cur l i' ∧ 0 ≤ r ∧ r ≤ 255 := by
  unfold Cur at *
  unfold spec_l1Byte.f
  by_cases h1 : i < (l.length : Int)
  · rw [if_pos h1, if_pos hc.1, w64 (x := i + 1) (by omega) (by omega)]
    exact ⟨_, _, _, rfl, by omega, and255 _⟩
  · rw [if_neg h1]
    exact ⟨_, _, _, rfl, by omega, and255 _⟩
theorem l1Below {l : List Int} {i : Int} (h : Int) (n : Int) (hc : Cur l i) : ∃ r i' h', spec_l1Below.f l i h n = some (r, i', h') ∧ Cur l i' ∧ 0 ≤ r ∧ (0 < n → r < n) ∧ (n ≤ 0 → r = 0) := by
  unfold spec_l1Below.f
  by_cases h1 : n ≤ 0
  · rw [if_pos h1]
    exact ⟨0, _, _, rfl, hc, by omega, by omega, fun _ => rfl⟩
  rw [if_neg h1]
  by_cases h2 : n ≤ 256
  · rw [if_pos h2]
    obtain ⟨r, i', h', e, hc', h3, h4⟩ := l1Byte h hc
    rw [e]
    simp only [Option.bind_some]
    rw [if_neg (by omega)]
    refine ⟨_, _, _, rfl, hc', ?_, ?_, by omega⟩
    · rw [Int.tmod_eq_emod_of_nonneg h3]; exact Int.emod_nonneg _ (by omega)
    · intro _; rw [Int.tmod_eq_emod_of_nonneg h3]; exact Int.emod_lt_of_pos _ (by omega)
  · rw [if_neg h2]
    obtain ⟨x, i1, h1, e1, hc1, x1, x2⟩ := l1Byte h hc
    obtain ⟨y, i2, h2, e2, hc2, y1, y2⟩ := l1Byte h1 hc1
    obtain ⟨z, i3, h3, e3, hc3, z1, z2⟩ := l1Byte h2 hc2
    obtain ⟨w, i4, h4, e4, hc4, w1, w2⟩ := l1Byte h3 hc3
    simp only [e1, e2, e3, e4, Option.bind_some]
    rw [if_neg (by omega), w64 (x := x * 16777216) (by omega) (by omega), w64 (x := y * 65536) (by omega) (by omega), w64 (x := x * 16777216 + y * 65536) (by omega) (by omega), w64 (x := z * 256) (by omega) (by omega), w64 (x := x * 16777216 + y * 65536 + z * 256) (by omega) (by omega), w64 (x := x * 16777216 + y * 65536 + z * 256 + w) (by omega) (by omega)]
    have h5 : 0 ≤ x * 16777216 + y * 65536 + z * 256 + w := by omega
    refine ⟨_, _, _, rfl, hc4, ?_, ?_, by omega⟩
    · rw [Int.tmod_eq_emod_of_nonneg h5]; exact Int.emod_nonneg _ (by omega)
    · intro _; rw [Int.tmod_eq_emod_of_nonneg h5]; exact Int.emod_lt_of_pos _ (by omega)
theorem l1PickInt {l : List Int} {i : Int} (h : Int) (xs : List Int) (hc : Cur l i) (hx : 0 < xs.length) : ∃ r i' h', spec_l1PickInt.f l i h xs = some (r, i', h') ∧ Cur l i' ∧ r ∈ xs := by
  unfold spec_l1PickInt.f
  obtain ⟨r, i', h', e, hc', h1, h2, _⟩ := l1Below h (xs.length : Int) hc
  rw [e]
  simp only [Option.bind_some]
  have h3 := h2 (by omega)
  rw [if_pos h1, if_pos h3]
  exact ⟨_, _, _, rfl, hc', rd_mem h1 h3⟩
theorem wrap_i64_range (x : Int) : I64 (wrap64 x) := by unfold I64 wrap64; omega
theorem l1Whole_l0 {l : List Int} : ∀ (d n : Nat) (x i h : Int), n + d = 8 → I64 x → Cur l i → ∃ r i' h', Ev (fun k => spec_l1Whole.l0 k x (n : Int) l i h) (r, i', h') ∧ Cur l i' ∧ I64 r := by
  intro d
  induction d with
  | zero =>
    intro n x i h hn hx hc
    refine ⟨x, i, h, ev_end fun k => ?_, hc, hx⟩
    simp only [spec_l1Whole.l0]
    rw [if_neg (by omega)]
  | succ d ih =>
    intro n x i h hn hx hc
    obtain ⟨b, i1, h1, e1, hc1, _⟩ := l1Byte h hc
    obtain ⟨r, i2, h2, e2, hc2, hr⟩ := ih (n + 1) (wrap64 ((wrap64 (x * 256)) + b)) i1 h1 (by omega) (wrap_i64_range _) hc1
    refine ⟨r, i2, h2, Ev.step (fun k => ?_) e2, hc2, hr⟩
    simp only [spec_l1Whole.l0, e1, Option.bind_some]
    rw [if_pos (by omega), w64 (x := (n : Int) + 1) (by omega) (by omega)]
    rfl
theorem l1Whole {l : List Int} {i : Int} (h : Int) (hc : Cur l i) : ∃ r i' h', Ev (fun k => spec_l1Whole.f k l i h) (r, i', h') ∧ Cur l i' ∧ I64 r := by
  unfold spec_l1Whole.f
  obtain ⟨a, i1, h1, e1, hc1, a1, a2, _⟩ := l1Below h 4 hc
  rw [e1]
  simp only [Option.bind_some]
  by_cases c0 : a = 0
  · obtain ⟨r, i2, h2, e2, hc2, hr⟩ := l1PickInt h1 ([0, 1, (-1), 9, 10, 999, 1000, 2147483647, (-2147483648), 3037000499, 3037000500, 9223372036854775807, (-9223372036854775807), (-9223372036854775808)] : List Int) hc1 (by simp)
    refine ⟨r, i2, h2, ev_pos c0 ?_, hc2, ?_⟩
    · rw [e2]; exact Ev.now _
    · simp only [List.mem_cons, List.not_mem_nil, or_false] at hr
      unfold I64; omega
  by_cases c1 : a = 1
  · obtain ⟨r, i2, h2, e2, hc2, hr⟩ := l1Whole_l0 8 0 0 i1 h1 (by omega) ⟨by decide, by decide⟩ hc1
    exact ⟨r, i2, h2, ev_neg c0 (ev_pos c1 e2), hc2, hr⟩
  by_cases c2 : a = 2
  · obtain ⟨r, i2, h2, e2, hc2, _⟩ := l1Below h1 1000000 hc1
    refine ⟨wrap64 (r - 500000), i2, h2, ev_neg c0 (ev_neg c1 (ev_pos c2 ?_)), hc2, wrap_i64_range _⟩
    rw [e2]; exact Ev.now _
  · obtain ⟨r, i2, h2, e2, hc2, _⟩ := l1Below h1 41 hc1
    refine ⟨wrap64 (r - 20), i2, h2, ev_neg c0 (ev_neg c1 (ev_neg c2 ?_)), hc2, wrap_i64_range _⟩
    rw [e2]; exact Ev.now _
theorem l1Once {l : List Int} {i : Int} (h : Int) (n : Int) (hc : Cur l i) : ∃ r i' h', spec_l1Once.f l i h n = some (r, i', h') ∧ Cur l i' := by
  unfold spec_l1Once.f
  obtain ⟨a, i1, h1, e1, c1, _⟩ := l1Below h n hc
  rw [e1]
  exact ⟨_, _, _, rfl, c1⟩
theorem SOk.snoc {l : List S25} (h : SOk l) {x : S25} (h0 : I64 x.f0) (h1 : I64 x.f1) : SOk (l ++ [x]) := by
  intro y hy
  rcases List.mem_append.1 hy with hy | hy
  · exact h y hy
  · simp only [List.mem_singleton] at hy
    subst hy; exact ⟨h0, h1⟩
theorem SOk.set {l : List S25} (h : SOk l) {x : S25} (h0 : I64 x.f0) (h1 : I64 x.f1) (n : Nat) : SOk (l.set n x) := by
  intro y hy
  rcases List.mem_or_eq_of_mem_set hy with hy | rfl
  · exact h y hy
  · exact ⟨h0, h1⟩
theorem l13Hist_j1 {l : List Int} (xs : List S25) (hx : SOk xs) (b : Bool) {i : Int} (h : Int) (hc : Cur l i) (hp : b = true → 0 < xs.length) :
    ∃ ys i' h', Ev (fun k => spec_l13Hist.j1 k xs (xs.length : Int) b l i h) (ys, i', h') ∧ Cur l i' ∧ SOk ys ∧ ys.length = xs.length := by
  cases b with
  | false =>
    refine ⟨xs, i, h, ev_succ ?_, hc, hx, rfl⟩
    simp only [spec_l13Hist.j1]
    exact ev_neg (by decide) (Ev.now _)
  | true =>
    have hpos := hp rfl
    obtain ⟨a, i1, h1, e1, c1, a1, a2, _⟩ := l1Below h (xs.length : Int) hc
    have a3 := a2 (by omega)
    obtain ⟨u, i2, h2, e2, c2, u1⟩ := l1Whole h1 c1
    obtain ⟨v, i3, h3, e3, c3, v1⟩ := l1Whole h2 c2
    refine ⟨xs.set a.toNat ⟨u, v⟩, i3, h3, ev_succ ?_, c3, hx.set u1 v1 _, by simp⟩
    simp only [spec_l13Hist.j1, e1, Option.bind_some]
    exact ev_pos trivial (Ev.bind e2 (Ev.bind e3 (ev_pos a1 (ev_pos a3 (Ev.now _)))))
theorem l13Hist_l0 {l : List Int} (N : Nat) (hN : N ≤ 5) : ∀ (d n : Nat) (xs : List S25) (i h : Int), n + d = N → xs.length = n → SOk xs → Cur l i →
    ∃ ys i' h', Ev (fun k => spec_l13Hist.l0 k xs (N : Int) (n : Int) l i h) (ys, i', h') ∧ Cur l i' ∧ SOk ys ∧ ys.length = N := by
  intro d
  induction d with
  | zero =>
    intro n xs i h hn hl hx hc
    obtain rfl : n = N := by omega
    subst hl
    by_cases h0 : (xs.length : Int) > 0
    · obtain ⟨b, i1, h1, e1, c1⟩ := l1Once h 8 hc
      obtain ⟨ys, i2, h2, e2, c2, hy, hl⟩ := l13Hist_j1 xs hx b h1 c1 (fun _ => by omega)
      refine ⟨ys, i2, h2, ev_succ ?_, c2, hy, hl⟩
      simp only [spec_l13Hist.l0, e1, Option.bind_some]
      exact ev_neg (by omega) (ev_pos h0 e2)
    · obtain ⟨ys, i2, h2, e2, c2, hy, hl⟩ := l13Hist_j1 xs hx false h hc (fun z => by simp at z)
      refine ⟨ys, i2, h2, ev_succ ?_, c2, hy, hl⟩
      simp only [spec_l13Hist.l0]
      exact ev_neg (by omega) (ev_neg h0 e2)
  | succ d ih =>
    intro n xs i h hn hl hx hc
    obtain ⟨a, i1, h1, e1, c1, a1, a2, _⟩ := l1Below h 5 hc
    obtain ⟨b, i2, h2, e2, c2, _⟩ := l1Below h1 2001 c1
    have a3 := a2 (by omega)
    obtain ⟨ys, i3, h3, e3, c3, hy, hl'⟩ := ih (n + 1) (xs ++ [⟨a, wrap64 (b - 1000)⟩]) i2 h2 (by omega) (by simp [hl]) (hx.snoc (by unfold I64; simp only; omega) (wrap_i64_range _)) c2
    refine ⟨ys, i3, h3, ev_succ ?_, c3, hy, hl'⟩
    simp only [spec_l13Hist.l0, e1, e2, Option.bind_some]
    refine ev_pos (by omega) (ev_pos (by omega) ?_)
    rw [w64 (x := (n : Int) + 1) (by omega) (by omega)]
    exact e3
theorem l13Hist {l : List Int} {i : Int} (h : Int) (hc : Cur l i) : ∃ ys i' h', Ev (fun k => spec_l13Hist.f k l i h) (ys, i', h') ∧ Cur l i' ∧ SOk ys ∧ ys.length ≤ 5 := by
  unfold spec_l13Hist.f
  obtain ⟨a, i1, h1, e1, c1, a1, a2, _⟩ := l1Below h 6 hc
  have a3 := a2 (by omega)
  rw [e1]
  simp only [Option.bind_some]
  obtain ⟨ys, i2, h2, e2, c2, hy, hl⟩ := l13Hist_l0 (l := l) a.toNat (by omega) a.toNat 0 [] i1 h1 (by omega) rfl (fun x hx => by simp at hx) c1
  rw [Int.toNat_of_nonneg a1] at e2
  exact ⟨ys, i2, h2, e2, c2, hy, by omega⟩
theorem l14Slot {l : List Int} {i : Int} (h : Int) (hc : Cur l i) : ∃ n g i' h', Ev (fun k => spec_l14Slot.f k l i h) (n, g, i', h') ∧ Cur l i' ∧ I64 n ∧ I64 g := by
  unfold spec_l14Slot.f
  obtain ⟨o, i1, h1, e1, c1⟩ := l1Once h 10 hc
  rw [e1]
  simp only [Option.bind_some]
  by_cases ho : o = true
  · obtain ⟨s, i2, h2, e2, c2, hs⟩ := l1PickInt h1 ([0, 40, 41, (-1), 9223372036854775807] : List Int) c1 (by simp)
    obtain ⟨x, i3, h3, e3, c3, hx⟩ := l1Whole h2 c2
    refine ⟨s, x, i3, h3, ev_pos ho ?_, c3, ?_, hx⟩
    · simp only [e2, Option.bind_some]
      exact Ev.bind e3 (Ev.now _)
    · simp only [List.mem_cons, List.not_mem_nil, or_false] at hs
      unfold I64
      omega
  · obtain ⟨x, i2, h2, e2, c2, x0, x1, _⟩ := l1Below h1 12 c1
    obtain ⟨y, i3, h3, e3, c3, _⟩ := l1Below h2 8001 c2
    refine ⟨x, wrap64 (y - 4000), i3, h3, ev_neg ho ?_, c3, ?_, wrap_i64_range _⟩
    · simp only [e2, e3, Option.bind_some]
      exact Ev.now _
    · have := x1 (by decide)
      unfold I64
      omega
theorem l15Cand {l : List Int} {i : Int} (h : Int) (hc : Cur l i) : ∃ a b c d e f i' h', Ev (fun k => spec_l15Cand.f k l i h) (a, b, c, d, e, f, i', h') ∧ Cur l i' ∧ I64 c ∧ I64 d ∧ I64 e ∧ I64 f := by
  unfold spec_l15Cand.f
  obtain ⟨x1, i1, h1, e1, c1, _⟩ := l1Below h 3 hc
  obtain ⟨x2, i2, h2, e2, c2, _⟩ := l1Below h1 4 c1
  obtain ⟨n, g, i3, h3, e3, c3, k1, k2⟩ := l14Slot h2 c2
  obtain ⟨n', g', i4, h4, e4, c4, k3, k4⟩ := l14Slot h3 c3
  obtain ⟨o, i5, h5, e5, c5⟩ := l1Once h4 4 c4
  obtain ⟨x6, i6, h6, e6, c6, y1, y2, _⟩ := l1Below h5 9 c5
  have y3 := y2 (by decide)
  have last : ∃ a b c d e f i' h', Ev (fun k => if o = true then (if n > 0 then (if n < 20 then ((spec_l1Below.f l i5 h5 9).bind fun bt895 => (some (x1, x2, n, wrap64 (10 * n), bt895.1, wrap64 (10 * bt895.1), bt895.2.1, bt895.2.2))) else (some (x1, x2, n, g, n', g', i5, h5))) else (some (x1, x2, n, g, n', g', i5, h5))) else (some (x1, x2, n, g, n', g', i5, h5))) (a, b, c, d, e, f, i', h') ∧ Cur l i' ∧ I64 c ∧ I64 d ∧ I64 e ∧ I64 f := by
    by_cases o1 : o = true
    · by_cases o2 : n > 0
      · by_cases o3 : n < 20
        · exact ⟨_, _, _, _, _, _, _, _, ev_pos o1 (ev_pos o2 (ev_pos o3 (ev_of (by rw [e6]; rfl)))), c6, k1, wrap_i64_range _, ⟨by omega, by omega⟩, wrap_i64_range _⟩
        · exact ⟨_, _, _, _, _, _, _, _, ev_pos o1 (ev_pos o2 (ev_neg o3 (Ev.now _))), c5, k1, k2, k3, k4⟩
      · exact ⟨_, _, _, _, _, _, _, _, ev_pos o1 (ev_neg o2 (Ev.now _)), c5, k1, k2, k3, k4⟩
    · exact ⟨_, _, _, _, _, _, _, _, ev_neg o1 (Ev.now _), c5, k1, k2, k3, k4⟩
  obtain ⟨a, b, c, d, e, f, i', h', k1, k2⟩ := last
  refine ⟨a, b, c, d, e, f, i', h', ?_, k2⟩
  simp only [e1, e2, Option.bind_some]
  refine Ev.bind e3 (Ev.bind e4 ?_)
  simp only [e5, Option.bind_some]
  exact k1
/-- Two slots together. -/
def plusS (n g n' g' : Int) : Int × Int × Bool := if (addI n n').2 = true ∧ (addI g g').2 = true then ((addI n n').1, (addI g g').1, true) else (0, 0, false)
theorem plusS_i64 (n g n' g' : Int) : I64 (plusS n g n' g').1 ∧ I64 (plusS n g n' g').2.1 := by
  unfold plusS
  split
  · exact ⟨addI_i64 _ _, addI_i64 _ _⟩
  · exact ⟨⟨by decide, by decide⟩, ⟨by decide, by decide⟩⟩
theorem plusS_true {n g n' g' : Int} (h : (plusS n g n' g').2.2 = true) : plusS n g n' g' = (n + n', g + g', true) ∧ I64 (n + n') ∧ I64 (g + g') := by
  unfold plusS at *
  by_cases c : (addI n n').2 = true ∧ (addI g g').2 = true
  · rw [if_pos c]
    obtain ⟨c1, c2⟩ := c
    unfold addI at *
    split at c1
    · rename_i r1
      split at c2
      · rename_i r2
        rw [if_pos r1, if_pos r2]
        exact ⟨rfl, r1, r2⟩
      · simp at c2
    · simp at c1
  · rw [if_neg c] at h
    simp at h
/-- The sums of all beginnings, behind what is there; none where one has no room. -/
def preS : List S25 → Int → Int → List S25 → List S25 × Bool
  | [], _, _, acc => (acc, true)
  | x :: l, n, g, acc => if (plusS n g x.f0 x.f1).2.2 = true then preS l (plusS n g x.f0 x.f1).1 (plusS n g x.f0 x.f1).2.1 (acc ++ [⟨(plusS n g x.f0 x.f1).1, (plusS n g x.f0 x.f1).2.1⟩]) else ([], false)
def prefixS (l : List S25) : List S25 × Bool := preS l 0 0 []
theorem preS_length (l : List S25) (n g : Int) (acc : List S25) : (preS l n g acc).1.length ≤ acc.length + l.length ∧ ((preS l n g acc).2 = true → (preS l n g acc).1.length = acc.length + l.length) := by
  induction l generalizing n g acc with
  | nil => simp [preS]
  | cons x l ih =>
    simp only [preS]
    split
    · have := ih (plusS n g x.f0 x.f1).1 (plusS n g x.f0 x.f1).2.1 (acc ++ [⟨(plusS n g x.f0 x.f1).1, (plusS n g x.f0 x.f1).2.1⟩])
      simp at this ⊢
      exact ⟨by omega, fun h => by have := this.2 h; omega⟩
    · simp
theorem prefixS_length (l : List S25) : (prefixS l).1.length ≤ l.length ∧ ((prefixS l).2 = true → (prefixS l).1.length = l.length) := by
  have := preS_length l 0 0 []
  simpa [prefixS] using this
/-- Plain sums. -/
def sums : Int → Int → List S25 → List S25
  | _, _, [] => []
  | n, g, x :: l => ⟨n + x.f0, g + x.f1⟩ :: sums (n + x.f0) (g + x.f1) l
theorem preS_sums (l : List S25) (n g : Int) (acc : List S25) (h : (preS l n g acc).2 = true) : (preS l n g acc).1 = acc ++ sums n g l ∧ SOk (sums n g l) := by
  induction l generalizing n g acc with
  | nil => exact ⟨by simp [preS, sums], fun x hx => by simp [sums] at hx⟩
  | cons x l ih =>
    simp only [preS] at h ⊢
    split at h
    · rename_i c
      rw [if_pos c]
      obtain ⟨e, r1, r2⟩ := plusS_true c
      rw [e] at h ⊢
      simp only at h ⊢
      obtain ⟨h1, h2⟩ := ih _ _ _ h
      refine ⟨by rw [h1]; simp [sums], fun y hy => ?_⟩
      simp only [sums, List.mem_cons] at hy
      rcases hy with rfl | hy
      · exact ⟨r1, r2⟩
      · exact h2 y hy
    · simp at h
theorem prefixS_sums {l : List S25} (h : (prefixS l).2 = true) : (prefixS l).1 = sums 0 0 l ∧ SOk (sums 0 0 l) := by
  have := preS_sums l 0 0 [] h
  simpa [prefixS] using this
theorem prefixS_false {l : List S25} (h : (prefixS l).2 ≠ true) : (prefixS l).1 = [] := by
  have key : ∀ (l : List S25) (n g : Int) (a : List S25), (preS l n g a).2 ≠ true → (preS l n g a).1 = [] := by
    intro l
    induction l with
    | nil => intro n g a h; simp [preS] at h
    | cons x l ih =>
      intro n g a h
      simp only [preS] at h ⊢
      split at h
      · rename_i c; rw [if_pos c]; exact ih _ _ _ h
      · rename_i c; rw [if_neg c]
  exact key l 0 0 [] h
theorem sums_length (n g : Int) (l : List S25) : (sums n g l).length = l.length := by
  induction l generalizing n g with
  | nil => rfl
  | cons x l ih => simp [sums, ih]
theorem sums_next (l : List S25) (n g : Int) (j : Nat) (x p : S25) (hx : l[j + 1]? = some x) (hp : (sums n g l)[j]? = some p) : (sums n g l)[j + 1]? = some ⟨p.f0 + x.f0, p.f1 + x.f1⟩ := by
  induction l generalizing n g j with
  | nil => simp at hx
  | cons y l ih =>
    simp only [sums] at hp ⊢
    cases j with
    | zero =>
      simp only [List.getElem?_cons_zero, Option.some.injEq] at hp
      subst hp
      cases l with
      | nil => simp at hx
      | cons z l =>
        simp only [List.getElem?_cons_succ, List.getElem?_cons_zero, Option.some.injEq] at hx
        subst hx
        simp [sums]
    | succ j =>
      simp only [List.getElem?_cons_succ] at hp hx ⊢
      exact ih _ _ j hx hp
/-- One slot less another. -/
def minusS (n g n' g' : Int) : Int × Int × Bool := if (subI n n').2 = true ∧ (subI g g').2 = true then ((subI n n').1, (subI g g').1, true) else (0, 0, false)
theorem minusS_i64 (n g n' g' : Int) : I64 (minusS n g n' g').1 ∧ I64 (minusS n g n' g').2.1 := by
  unfold minusS
  split
  · exact ⟨subI_i64 _ _, subI_i64 _ _⟩
  · exact ⟨⟨by decide, by decide⟩, ⟨by decide, by decide⟩⟩
theorem cmpInt (a b : Int) : cmp_Compare_int.f a b = some (if a < b then -1 else if a > b then 1 else 0) := by
  unfold cmp_Compare_int.f cmp_isNaN_int.f
  simp only [Option.bind_some, bne_self_eq_false, Bool.false_eq_true, if_false]
  split
  · rfl
  · split <;> rfl
theorem cmpOr2 (a b : Int) : Ev (fun k => cmp_Or_int.f k [a, b]) (if a = 0 then b else a) := by
  have h2 : Ev (fun k => cmp_Or_int.l0 k 0 [a, b] 2 2) 0 := ev_end fun k => by
    simp only [cmp_Or_int.l0]
    rw [if_neg (by omega)]
  have w1 : wrap64 (1 + 1) = 2 := w64 (by omega) (by omega)
  have w0 : wrap64 (0 + 1) = 1 := w64 (by omega) (by omega)
  have h1 : Ev (fun k => cmp_Or_int.l0 k 0 [a, b] 2 1) b := by
    by_cases hb : b = 0
    · subst hb
      refine Ev.step (fun k => ?_) h2
      simp only [cmp_Or_int.l0]
      rw [if_pos (by omega), if_pos (by omega), if_pos (by simp), if_pos (by simp [rd]), w1]
    · refine ev_end fun k => ?_
      simp only [cmp_Or_int.l0]
      rw [if_pos (by omega), if_pos (by omega), if_pos (by simp), if_neg (by simpa [rd] using hb)]
      simp [rd]
  by_cases ha : a = 0
  · rw [if_pos ha]
    subst ha
    refine Ev.step (fun k => ?_) h1
    simp only [cmp_Or_int.f, cmp_Or_int.l0, List.length_cons, List.length_nil]
    rw [if_pos (by omega), if_pos (by omega), if_pos (by simp), if_pos (by simp [rd]), w0]
    rfl
  · rw [if_neg ha]
    refine ev_end fun k => ?_
    simp only [cmp_Or_int.f, cmp_Or_int.l0, List.length_cons, List.length_nil]
    rw [if_pos (by omega), if_pos (by omega), if_pos (by simp), if_neg (by simpa [rd] using ha)]
    simp [rd]
def LessPair (f b f' b' : Int) : Prop := f < f' ∨ f = f' ∧ b < b'
theorem implCandLess (f b n g n' g' f' b' m h m' h' : Int) : Ev (fun k => impl_CandLess.f k f b n g n' g' f' b' m h m' h') (dec (LessPair f b f' b')) := by
  unfold impl_CandLess.f
  simp only [cmpInt, Option.bind_some]
  refine Ev.bind (cmpOr2 _ _) (ev_of ?_)
  rw [← dec_eq]
  congr 1
  refine dec_congr ?_
  unfold LessPair
  split
  · split at * <;> (try split at *) <;> (try split at *) <;> omega
  · split at * <;> (try split at *) <;> (try split at *) <;> omega
/-- What is left of the last sum without the b-th. -/
def difS (S : List S25) (b : Nat) : Int × Int × Bool := minusS (S.getD (S.length - 1) z25).f0 (S.getD (S.length - 1) z25).f1 (S.getD b z25).f0 (S.getD b z25).f1
def candAt (f b : Nat) (S : List S25) : S27 := ⟨(f : Int), (b : Int), ⟨(S.getD b z25).f0, (S.getD b z25).f1⟩, ⟨(difS S b).1, (difS S b).2.1⟩⟩
def addC (f b : Nat) (least : Int) (S : List S25) (acc : List S27) : List S27 :=
  if (S.getD b z25).f0 ≥ least ∧ (difS S b).1 ≥ least then acc ++ [candAt f b S] else acc
def binsGo (f : Nat) (least : Int) (S : List S25) : Nat → Nat → List S27 → List S27 × Bool
  | 0, _, acc => (acc, true)
  | d + 1, b, acc => if (difS S b).2.2 = true then binsGo f least S d (b + 1) (addC f b least S acc) else ([], false)
def finC (K : List S27 → List S27) (r : List S27 × Bool) : List S27 := if r.2 = true then K r.1 else []
theorem binsGo_succ (f : Nat) (least : Int) (S : List S25) (d b : Nat) (acc : List S27) : binsGo f least S (d + 1) b acc = if (difS S b).2.2 = true then binsGo f least S d (b + 1) (addC f b least S acc) else ([], false) := rfl
def candsGo (least : Int) : List (List S25) → Nat → List S27 → List S27
  | [], _, acc => acc
  | h :: hs, f, acc => if (prefixS h).2 = true then (if (binsGo f least (prefixS h).1 ((prefixS h).1.length - 1) 0 acc).2 = true then candsGo least hs (f + 1) (binsGo f least (prefixS h).1 ((prefixS h).1.length - 1) 0 acc).1 else []) else []
theorem addC_length (f b : Nat) (least : Int) (S : List S25) (acc : List S27) : (addC f b least S acc).length ≤ acc.length + 1 := by
  unfold addC
  split <;> simp
theorem binsGo_length (f : Nat) (least : Int) (S : List S25) (d b : Nat) (acc : List S27) : (binsGo f least S d b acc).1.length ≤ acc.length + d := by
  induction d generalizing b acc with
  | zero => simp [binsGo]
  | succ d ih =>
    simp only [binsGo]
    split
    · have h1 := ih (b + 1) (addC f b least S acc)
      have h2 := addC_length f b least S acc
      omega
    · simp
theorem prefS_ok (h : List S25) : SOk (prefixS h).1 := by
  by_cases c : (prefixS h).2 = true
  · obtain ⟨a, b⟩ := prefixS_sums c
    rw [a]; exact b
  · rw [prefixS_false c]
    intro x hx; simp at hx
theorem getD_ok {l : List S25} (h : SOk l) (j : Nat) : I64 (l.getD j z25).f0 ∧ I64 (l.getD j z25).f1 := by
  rw [List.getD_eq_getElem?_getD]
  cases e : l[j]? with
  | none => exact ⟨⟨by decide, by decide⟩, ⟨by decide, by decide⟩⟩
  | some x => exact h.at e
theorem rdS (xs : List S25) (n : Nat) : rd_T25 xs (n : Int) = xs.getD n z25 := rfl
theorem rdLS (xs : List (List S25)) (n : Nat) : rd_L3 xs (n : Int) = xs.getD n [] := rfl
/-- What is known of a candidate in the list. -/
def GoodC (hists : List (List S25)) (least : Int) (c : S27) : Prop :=
  ∃ f b : Nat, f < hists.length ∧ (prefixS (hists.getD f [])).2 = true ∧ b + 1 < (prefixS (hists.getD f [])).1.length ∧ (difS (prefixS (hists.getD f [])).1 b).2.2 = true ∧
    c = candAt f b (prefixS (hists.getD f [])).1 ∧ c.f2.f0 ≥ least ∧ c.f3.f0 ≥ least
def Below2 (x : S27) (f b : Nat) : Prop := LessPair x.f0 x.f1 (f : Int) (b : Int)
def Sorted2 (l : List S27) : Prop := l.Pairwise (fun x y => LessPair x.f0 x.f1 y.f0 y.f1)
theorem addC_good {hists : List (List S25)} {least : Int} {f b : Nat} {acc : List S27} (hf : f < hists.length) (hp : (prefixS (hists.getD f [])).2 = true) (hb : b + 1 < (prefixS (hists.getD f [])).1.length) (hd : (difS (prefixS (hists.getD f [])).1 b).2.2 = true)
    (h1 : ∀ x ∈ acc, GoodC hists least x) (h2 : ∀ x ∈ acc, Below2 x f b) (h3 : Sorted2 acc) :
    (∀ x ∈ addC f b least (prefixS (hists.getD f [])).1 acc, GoodC hists least x) ∧ (∀ x ∈ addC f b least (prefixS (hists.getD f [])).1 acc, Below2 x f (b + 1)) ∧ Sorted2 (addC f b least (prefixS (hists.getD f [])).1 acc) := by
  have up : ∀ x, Below2 x f b → Below2 x f (b + 1) := fun x h => by
    unfold Below2 LessPair at *
    omega
  unfold addC
  split
  · rename_i c
    refine ⟨fun x hx => ?_, fun x hx => ?_, ?_⟩
    · rcases List.mem_append.1 hx with hx | hx
      · exact h1 x hx
      · simp only [List.mem_singleton] at hx
        subst hx
        exact ⟨f, b, hf, hp, hb, hd, rfl, c.1, c.2⟩
    · rcases List.mem_append.1 hx with hx | hx
      · exact up x (h2 x hx)
      · simp only [List.mem_singleton] at hx
        subst hx
        exact Or.inr ⟨rfl, by show (b : Int) < ((b + 1 : Nat) : Int); omega⟩
    · unfold Sorted2
      rw [List.pairwise_append]
      refine ⟨h3, List.pairwise_singleton _ _, fun x hx y hy => ?_⟩
      simp only [List.mem_singleton] at hy
      subst hy
      exact h2 x hx
  · exact ⟨h1, fun x hx => up x (h2 x hx), h3⟩
theorem binsGo_good {hists : List (List S25)} {least : Int} {f : Nat} (hf : f < hists.length) (hp : (prefixS (hists.getD f [])).2 = true) (d b : Nat) (acc : List S27) (hb : b + d = (prefixS (hists.getD f [])).1.length - 1)
    (h1 : ∀ x ∈ acc, GoodC hists least x) (h2 : ∀ x ∈ acc, Below2 x f b) (h3 : Sorted2 acc) :
    (∀ x ∈ (binsGo f least (prefixS (hists.getD f [])).1 d b acc).1, GoodC hists least x) ∧ (∀ x ∈ (binsGo f least (prefixS (hists.getD f [])).1 d b acc).1, Below2 x (f + 1) 0) ∧ Sorted2 (binsGo f least (prefixS (hists.getD f [])).1 d b acc).1 := by
  induction d generalizing b acc with
  | zero =>
    refine ⟨h1, fun x hx => ?_, h3⟩
    have := h2 x hx
    unfold Below2 LessPair at *
    omega
  | succ d ih =>
    simp only [binsGo]
    split
    · rename_i c
      obtain ⟨a1, a2, a3⟩ := addC_good hf hp (by omega) c h1 h2 h3
      exact ih (b + 1) _ (by omega) a1 a2 a3
    · exact ⟨fun x hx => by simp at hx, fun x hx => by simp at hx, List.Pairwise.nil⟩
theorem candsGo_good {hists : List (List S25)} {least : Int} (d f : Nat) (acc : List S27) (hd : f + d = hists.length) (h1 : ∀ x ∈ acc, GoodC hists least x) (h2 : ∀ x ∈ acc, Below2 x f 0) (h3 : Sorted2 acc) :
    (∀ x ∈ candsGo least (hists.drop f) f acc, GoodC hists least x) ∧ Sorted2 (candsGo least (hists.drop f) f acc) := by
  induction d generalizing f acc with
  | zero =>
    rw [List.drop_eq_nil_of_le (by omega)]
    exact ⟨h1, h3⟩
  | succ d ih =>
    have d1 : hists.drop f = hists.getD f [] :: hists.drop (f + 1) := by
      rw [List.drop_eq_getElem_cons (by omega), List.getD_eq_getElem?_getD, List.getElem?_eq_getElem (by omega)]
      rfl
    rw [d1]
    simp only [candsGo]
    split
    · rename_i c
      split
      · obtain ⟨a1, a2, a3⟩ := binsGo_good (least := least) (show f < hists.length by omega) c ((prefixS (hists.getD f [])).1.length - 1) 0 acc (by omega) h1 h2 h3
        exact ih (f + 1) _ (by omega) a1 a2 a3
      · exact ⟨fun x hx => by simp at hx, List.Pairwise.nil⟩
    · exact ⟨fun x hx => by simp at hx, List.Pairwise.nil⟩
theorem specAddInt {a b : Int} (ha : I64 a) (hb : I64 b) : spec_AddInt.f a b = some (addI a b) := by
  unfold I64 at ha hb
  unfold spec_AddInt.f addI
  by_cases h1 : b > 0
  · rw [if_pos h1, w64 (x := 9223372036854775807 - b) (by omega) (by omega)]
    by_cases h2 : a > 9223372036854775807 - b
    · rw [if_pos h2, if_neg (by omega)]
    · rw [if_neg h2, if_neg (by omega), if_pos (by omega), w64 (by omega) (by omega)]
  · rw [if_neg h1]
    by_cases h2 : b < 0
    · rw [if_pos h2, w64 (x := -9223372036854775808 - b) (by omega) (by omega)]
      by_cases h3 : a < -9223372036854775808 - b
      · rw [if_pos h3, if_neg (by omega)]
      · rw [if_neg h3, if_pos (by omega), w64 (by omega) (by omega)]
    · rw [if_neg h2, if_pos (by omega), w64 (by omega) (by omega)]
theorem specAdd13 {n g n' g' : Int} (h1 : I64 n) (h2 : I64 g) (h3 : I64 n') (h4 : I64 g') : spec_l13Add.f n g n' g' = some (plusS n g n' g') := by
  unfold spec_l13Add.f plusS
  simp only [specAddInt h1 h3, specAddInt h2 h4, Option.bind_some]
  by_cases a : (addI n n').2 = true
  · by_cases b : (addI g g').2 = true
    · rw [if_pos a, if_pos b, if_pos ⟨a, b⟩]
    · rw [if_pos a, if_neg b, if_neg (fun z => b z.2)]
  · rw [if_neg a, if_neg (fun z => a z.1)]
theorem specPrefix_l0 (l : List S25) (hl : l.length ≤ 1048576) (hx : SOk l) : ∀ (d n : Nat) (acc : List S25) (a b : Int), n + d = l.length → acc.length = n → I64 a → I64 b →
    Ev (fun k => spec_Prefix.l0 k l acc (n : Int) a b) (preS (l.drop n) a b acc) := by
  intro d
  induction d with
  | zero =>
    intro n acc a b hn ha h1 h2
    obtain rfl : n = l.length := by omega
    refine ev_succ ?_
    simp only [spec_Prefix.l0]
    refine ev_neg (by omega) (ev_of ?_)
    rw [List.drop_length]
    rfl
  | succ d ih =>
    intro n acc a b hn ha h1 h2
    refine ev_succ ?_
    have e1 : l[n]? = some l[n] := List.getElem?_eq_getElem (by omega)
    have d1 : l.drop n = l[n] :: l.drop (n + 1) := List.drop_eq_getElem_cons (by omega)
    simp only [spec_Prefix.l0, rdi, gd_nat z25 e1, specAdd13 h1 h2 (hx.at e1).1 (hx.at e1).2, Option.bind_some]
    refine ev_pos (by omega) (ev_pos (by omega) ?_)
    rw [d1]
    simp only [preS]
    by_cases c1 : (plusS a b l[n].f0 l[n].f1).2.2 = true
    · rw [if_pos c1]
      refine ev_pos c1 (ev_pos (by omega) ?_)
      rw [w64 (x := (n : Int) + 1) (by omega) (by omega)]
      exact ih (n + 1) _ _ _ (by omega) (by simp [ha]) (plusS_i64 _ _ _ _).1 (plusS_i64 _ _ _ _).2
    · rw [if_neg c1]
      exact ev_neg c1 (Ev.now _)
theorem specPrefix (l : List S25) (hl : l.length ≤ 1048576) (hx : SOk l) : Ev (fun k => spec_Prefix.f k l) (prefixS l) :=
  specPrefix_l0 l hl hx l.length 0 [] 0 0 (by omega) rfl ⟨by decide, by decide⟩ ⟨by decide, by decide⟩
theorem specSubInt {a b : Int} (ha : I64 a) (hb : I64 b) : spec_SubInt.f a b = some (subI a b) := by
  unfold I64 at ha hb
  unfold spec_SubInt.f subI
  by_cases h1 : b < 0
  · rw [if_pos h1, w64 (x := 9223372036854775807 + b) (by omega) (by omega)]
    by_cases h2 : a > 9223372036854775807 + b
    · rw [if_pos h2, if_neg (by omega)]
    · rw [if_neg h2, if_neg (by omega), if_pos (by omega), w64 (by omega) (by omega)]
  · rw [if_neg h1]
    by_cases h2 : b > 0
    · rw [if_pos h2, w64 (x := -9223372036854775808 + b) (by omega) (by omega)]
      by_cases h3 : a < -9223372036854775808 + b
      · rw [if_pos h3, if_neg (by omega)]
      · rw [if_neg h3, if_pos (by omega), w64 (by omega) (by omega)]
    · rw [if_neg h2, if_pos (by omega), w64 (by omega) (by omega)]
theorem specCands_stop (hists : List (List S25)) (least : Int) (acc : List S27) (f : Int) (S : List S25) (b x y : Int) : Ev (fun k => spec_CandsOf.j2 k hists least acc f S b x y true) [] := ev_end fun k => by
  simp only [spec_CandsOf.j2]
  rw [if_pos trivial]
theorem specCands_l1 (hists : List (List S25)) (least : Int) (f : Nat) (S : List S25) (hS : S.length ≤ 16) (ho : SOk S) (K : List S27 → List S27) (B : Nat) (hB : B ≤ 1048576)
    (next : ∀ acc : List S27, acc.length ≤ B → Ev (fun k => spec_CandsOf.l0 k hists least acc (wrap64 ((f : Int) + 1))) (K acc)) :
    ∀ (d b : Nat) (acc : List S27), b + d = S.length - 1 → acc.length + d ≤ B → Ev (fun k => spec_CandsOf.l1 k hists least acc (f : Int) S (b : Int)) (finC K (binsGo f least S d b acc)) := by
  intro d
  induction d with
  | zero =>
    intro b acc hb ha
    refine ev_succ ?_
    simp only [spec_CandsOf.l1, binsGo, finC, if_true]
    rw [w64 (x := (b : Int) + 1) (by omega) (by omega)]
    exact ev_neg (by omega) (next acc (by omega))
  | succ d ih =>
    intro b acc hb ha
    refine ev_succ ?_
    have e1 : (S.length : Int) - 1 = ((S.length - 1 : Nat) : Int) := by omega
    have hw : wrap64 ((b : Int) + 1) = ((b + 1 : Nat) : Int) := w64 (by omega) (by omega)
    have go := ih (b + 1)
    have o1 := getD_ok ho (S.length - 1)
    have o2 := getD_ok ho b
    rw [binsGo_succ]
    simp only [spec_CandsOf.l1]
    rw [w64 (x := (S.length : Int) - 1) (by omega) (by omega), e1]
    simp only [rdS, hw, specSubInt o1.1 o2.1, specSubInt o1.2 o2.2, Option.bind_some]
    refine ev_pos (by omega) (ev_pos (by omega) (ev_pos (by omega) (ev_pos (by omega) (ev_pos (by omega) ?_))))
    by_cases a1 : (subI (S.getD (S.length - 1) z25).f0 (S.getD b z25).f0).2 = true
    · refine ev_pos a1 ?_
      by_cases a2 : (subI (S.getD (S.length - 1) z25).f1 (S.getD b z25).f1).2 = true
      · have ed : difS S b = ((subI (S.getD (S.length - 1) z25).f0 (S.getD b z25).f0).1, (subI (S.getD (S.length - 1) z25).f1 (S.getD b z25).f1).1, true) := by
          unfold difS minusS
          rw [if_pos ⟨a1, a2⟩]
        have c : (difS S b).2.2 = true := by rw [ed]
        have x1 : (subI (S.getD (S.length - 1) z25).f0 (S.getD b z25).f0).1 = (difS S b).1 := by rw [ed]
        have x2 : (subI (S.getD (S.length - 1) z25).f1 (S.getD b z25).f1).1 = (difS S b).2.1 := by rw [ed]
        rw [if_pos c, x1, x2]
        refine ev_succ ?_
        simp only [spec_CandsOf.j2, rdS, hw]
        refine ev_neg (by rw [a2]; decide) (ev_pos (by omega) (ev_pos (by omega) ?_))
        unfold addC
        by_cases c1 : (S.getD b z25).f0 ≥ least
        · refine ev_pos c1 ?_
          by_cases c2 : (difS S b).1 ≥ least
          · refine ev_pos c2 (ev_pos (by omega) ?_)
            rw [if_pos ⟨c1, c2⟩]
            exact go _ (by omega) (by simp; omega)
          · rw [if_neg (fun z => c2 z.2)]
            exact ev_neg c2 (go _ (by omega) (by omega))
        · rw [if_neg (fun z => c1 z.1)]
          exact ev_neg c1 (go _ (by omega) (by omega))
      · have c : ¬ (difS S b).2.2 = true := by
          unfold difS minusS
          rw [if_neg (fun z => a2 z.2)]
          decide
        rw [if_neg c, show (!(subI (S.getD (S.length - 1) z25).f1 (S.getD b z25).f1).2) = true by simpa using a2]
        exact specCands_stop _ _ _ _ _ _ _ _
    · have c : ¬ (difS S b).2.2 = true := by
        unfold difS minusS
        rw [if_neg (fun z => a1 z.1)]
        decide
      rw [if_neg c]
      exact ev_neg a1 (specCands_stop _ _ _ _ _ _ _ _)
theorem specCands_l0 (hists : List (List S25)) (least : Int) (hl : hists.length ≤ 16) (hh : ∀ h ∈ hists, h.length ≤ 16 ∧ SOk h) :
    ∀ (d f : Nat) (acc : List S27), f + d = hists.length → acc.length ≤ 16 * f → Ev (fun k => spec_CandsOf.l0 k hists least acc (f : Int)) (candsGo least (hists.drop f) f acc) := by
  intro d
  induction d with
  | zero =>
    intro f acc hf ha
    have e0 : hists.drop f = [] := List.drop_eq_nil_of_le (by omega)
    rw [e0]
    refine ev_succ ?_
    simp only [spec_CandsOf.l0, candsGo]
    exact ev_neg (by omega) (Ev.now _)
  | succ d ih =>
    intro f acc hf ha
    have hx : hists[f]? = some hists[f] := List.getElem?_eq_getElem (by omega)
    have d1 : hists.drop f = hists[f] :: hists.drop (f + 1) := List.drop_eq_getElem_cons (by omega)
    have hg : hists.getD f [] = hists[f] := by rw [List.getD_eq_getElem?_getD, hx]; rfl
    have g1 := (hh _ (List.mem_of_getElem? hx)).1
    have pI := specPrefix hists[f] (Nat.le_trans g1 (by decide)) (hh _ (List.mem_of_getElem? hx)).2
    clear hh
    rw [d1]
    refine ev_succ ?_
    simp only [spec_CandsOf.l0, rdLS, hg, candsGo]
    refine ev_pos (by omega) (ev_pos (by omega) (Ev.bind pI ?_))
    by_cases c : (prefixS hists[f]).2 = true
    · refine ev_pos c ?_
      rw [if_pos c]
      have len := (prefixS_length hists[f]).1
      exact specCands_l1 hists least f (prefixS hists[f]).1 (by omega) (prefS_ok _) (fun a => candsGo least (hists.drop (f + 1)) (f + 1) a) (16 * (f + 1)) (by omega) (fun a h => by
        rw [w64 (x := (f : Int) + 1) (by omega) (by omega)]
        exact ih (f + 1) a (by omega) h) ((prefixS hists[f]).1.length - 1) 0 acc (by omega) (by omega)
    · refine ev_neg c (ev_of ?_)
      rw [if_neg c]
theorem specCandsOf (hists : List (List S25)) (least : Int) (hl : hists.length ≤ 16) (hh : ∀ h ∈ hists, h.length ≤ 16 ∧ SOk h) : Ev (fun k => spec_CandsOf.f k hists least) (candsGo least hists 0 []) :=
  specCands_l0 hists least hl hh hists.length 0 [] (by omega) (by simp)
/-- A candidate of numbers of this machine. -/
def COk (c : S27) : Prop := I64 c.f2.f0 ∧ I64 c.f2.f1 ∧ I64 c.f3.f0 ∧ I64 c.f3.f1
def COks (l : List S27) : Prop := ∀ c ∈ l, COk c
theorem cands_ok (hists : List (List S25)) (least : Int) : COks (candsGo least hists 0 []) := by
  intro c hc
  obtain ⟨f, b, _, _, _, _, rfl, _, _⟩ := (candsGo_good (hists := hists) (least := least) hists.length 0 [] (by omega) (fun x hx => by simp at hx) (fun x hx => by simp at hx) List.Pairwise.nil).1 c (by rw [List.drop_zero]; exact hc)
  have h1 := getD_ok (prefS_ok (hists.getD f [])) b
  have h2 := minusS_i64 ((prefixS (hists.getD f [])).1.getD ((prefixS (hists.getD f [])).1.length - 1) z25).f0 ((prefixS (hists.getD f [])).1.getD ((prefixS (hists.getD f [])).1.length - 1) z25).f1 ((prefixS (hists.getD f [])).1.getD b z25).f0 ((prefixS (hists.getD f [])).1.getD b z25).f1
  exact ⟨h1.1, h1.2, h2.1, h2.2⟩
theorem cands_length (least : Int) (hists : List (List S25)) : ∀ (f : Nat) (acc : List S27), (∀ h ∈ hists, h.length ≤ 16) → (candsGo least hists f acc).length ≤ acc.length + 16 * hists.length := by
  induction hists with
  | nil => intro f acc _; simp [candsGo]
  | cons h hs ih =>
    intro f acc hh
    simp only [candsGo, List.length_cons]
    split
    · rename_i c
      split
      · have h1 := ih (f + 1) (binsGo f least (prefixS h).1 ((prefixS h).1.length - 1) 0 acc).1 (fun x hx => hh x (List.mem_cons_of_mem _ hx))
        have h2 := binsGo_length f least (prefixS h).1 ((prefixS h).1.length - 1) 0 acc
        have h3 := prefixS_length h
        have h4 := hh h (List.mem_cons_self ..)
        omega
      · simp
    · simp
theorem COks.snoc {l : List S27} (h : COks l) {c : S27} (hc : COk c) : COks (l ++ [c]) := by
  intro y hy
  rcases List.mem_append.1 hy with hy | hy
  · exact h y hy
  · obtain rfl := List.mem_singleton.1 hy
    exact hc
theorem COks.drop {l : List S27} (h : COks l) (n : Nat) : COks (l.drop n) := fun y hy => h y (List.mem_of_mem_drop hy)
theorem COks.rd {l : List S27} (h : COks l) {i : Int} (h0 : 0 ≤ i) (h1 : i < (l.length : Int)) : COk (rd_T27 l i) := h _ (List.mem_of_getElem? (gd_eq _ h0 h1))
theorem l16Cands_j1 {l : List Int} (hists : List (List S25)) (hl : hists.length ≤ 16) (hh : ∀ h ∈ hists, h.length ≤ 16 ∧ SOk h) {i : Int} (h : Int) (hc : Cur l i) :
    ∃ cs i' h', Ev (fun k => spec_l16Cands.j1 k hists l i h) (cs, i', h') ∧ Cur l i' ∧ COks cs ∧ cs.length ≤ 1000 := by
  have ok := cands_ok hists 1
  have len := cands_length 1 hists 0 [] (fun x hx => (hh x hx).1)
  simp only [List.length_nil, Nat.zero_add] at len
  have run := specCandsOf hists 1 hl hh
  generalize candsGo 1 hists 0 [] = C at *
  obtain ⟨o, i1, h1, e1, c1⟩ := l1Once h 4 hc
  have turn : ∀ (D : List S27) (i h : Int), COks D → D.length ≤ 999 → Cur l i → ∃ cs i' h', Ev (fun k => if (D.length : Int) > 1 then ((spec_l1Once.f l i h 3).bind fun bt301 => (if bt301.1 = true then (if 1 ≤ (D.length : Int) then ((some (D.drop 1 : List S27)).bind fun y304 => (if 0 < (D.length : Int) then (if y304.length < 2932031007402 then (some ((y304 ++ [(⟨(rd_T27 D 0).f0,(rd_T27 D 0).f1,(⟨(rd_T27 D 0).f2.f0,(rd_T27 D 0).f2.f1⟩ : S25),(⟨(rd_T27 D 0).f3.f0,(rd_T27 D 0).f3.f1⟩ : S25)⟩ : S27)]),bt301.2.1,bt301.2.2)) else (none)) else (none))) else (none)) else (some (D,bt301.2.1,bt301.2.2)))) else (some (D,i,h))) (cs, i', h') ∧ Cur l i' ∧ COks cs ∧ cs.length ≤ 1000 := by
    intro D i h hD hl hc
    by_cases g : (D.length : Int) > 1
    · obtain ⟨p, i2, h2, e2, c2⟩ := l1Once h 3 hc
      by_cases q : p = true
      · refine ⟨_, i2, h2, ev_pos g ?_, c2, (hD.drop 1).snoc (c := rd_T27 D 0) (hD.rd (by omega) (by omega)), by simp only [List.length_append, List.length_drop, List.length_cons, List.length_nil]; omega⟩
        simp only [e2, Option.bind_some]
        exact ev_pos q (ev_pos (by omega) (ev_pos (by omega) (ev_pos (by rw [List.length_drop]; omega) (Ev.now _))))
      · refine ⟨D, i2, h2, ev_pos g ?_, c2, hD, by omega⟩
        simp only [e2, Option.bind_some]
        exact ev_neg q (Ev.now _)
    · exact ⟨D, i, h, ev_neg g (Ev.now _), hc, hD, by omega⟩
  by_cases g : o = true
  · obtain ⟨a, b, c, d, e, f, i2, h2, e2, c2, k1, k2, k3, k4⟩ := l15Cand h1 c1
    obtain ⟨cs, i3, h3, e3, r⟩ := turn (C ++ [⟨a, b, ⟨c, d⟩, ⟨e, f⟩⟩]) i2 h2 (ok.snoc ⟨k1, k2, k3, k4⟩) (by simp only [List.length_append, List.length_cons, List.length_nil]; omega) c2
    refine ⟨cs, i3, h3, ev_succ ?_, r⟩
    simp only [spec_l16Cands.j1]
    refine Ev.bind run ?_
    simp only [e1, Option.bind_some]
    refine ev_pos g (Ev.bind e2 (ev_pos (by omega) ?_))
    exact e3
  · obtain ⟨cs, i3, h3, e3, r⟩ := turn C i1 h1 ok (by omega) c1
    refine ⟨cs, i3, h3, ev_succ ?_, r⟩
    simp only [spec_l16Cands.j1]
    refine Ev.bind run ?_
    simp only [e1, Option.bind_some]
    exact ev_neg g e3
theorem l16Cands_l0 {l : List Int} (N : Nat) (hN0 : 0 < N) (hN : N ≤ 8) : ∀ (d n : Nat) (hs : List (List S25)) (i h : Int), n + d = N → hs.length = n → (∀ x ∈ hs, x.length ≤ 16 ∧ SOk x) → Cur l i →
    ∃ cs i' h', Ev (fun k => spec_l16Cands.l0 k hs (N : Int) (n : Int) l i h) (cs, i', h') ∧ Cur l i' ∧ COks cs ∧ cs.length ≤ 1000 := by
  intro d
  induction d with
  | zero =>
    intro n hs i h hn hl hx hc
    obtain ⟨o, i1, h1, e1, c1⟩ := l1Once h 3 hc
    by_cases g : o = true
    · have hm : rd_L3 hs 0 ∈ hs := List.mem_of_getElem? (gd_eq _ (by omega) (by omega : (0 : Int) < (hs.length : Int)))
      obtain ⟨cs, i2, h2, e2, r⟩ := l16Cands_j1 (l := l) (hs ++ [rd_L3 hs 0]) (by simp only [List.length_append, List.length_cons, List.length_nil]; omega) (fun x hx' => by
        rcases List.mem_append.1 hx' with hx' | hx'
        · exact hx x hx'
        · obtain rfl := List.mem_singleton.1 hx'
          exact hx _ hm) h1 c1
      refine ⟨cs, i2, h2, ev_succ ?_, r⟩
      simp only [spec_l16Cands.l0, e1, Option.bind_some]
      exact ev_neg (by omega) (ev_pos g (ev_pos (by omega) (ev_pos (by omega) e2)))
    · obtain ⟨cs, i2, h2, e2, r⟩ := l16Cands_j1 (l := l) hs (by omega) hx h1 c1
      refine ⟨cs, i2, h2, ev_succ ?_, r⟩
      simp only [spec_l16Cands.l0, e1, Option.bind_some]
      exact ev_neg (by omega) (ev_neg g e2)
  | succ d ih =>
    intro n hs i h hn hl hx hc
    have hw : wrap64 ((n : Int) + 1) = ((n + 1 : Nat) : Int) := w64 (by omega) (by omega)
    obtain ⟨y, i2, h2, e2, c2, y1, y2⟩ := l13Hist h hc
    obtain ⟨cs, i3, h3, e3, r⟩ := ih (n + 1) (hs ++ [y]) i2 h2 (by omega) (by simp [hl]) (fun x hx' => by
      rcases List.mem_append.1 hx' with h' | h'
      · exact hx x h'
      · simp only [List.mem_singleton] at h'
        subst h'
        exact ⟨by omega, y1⟩) c2
    refine ⟨cs, i3, h3, ev_succ ?_, r⟩
    simp only [spec_l16Cands.l0, hw]
    exact ev_pos (by omega) (Ev.bind e2 (ev_pos (by omega) e3))
theorem l16Cands {l : List Int} {i : Int} (h : Int) (hc : Cur l i) : ∃ cs i' h', Ev (fun k => spec_l16Cands.f k l i h) (cs, i', h') ∧ Cur l i' ∧ COks cs ∧ cs.length ≤ 1000 := by
  unfold spec_l16Cands.f
  obtain ⟨a, i1, h1, e1, c1, a1, a2, _⟩ := l1Below h 3 hc
  have a3 := a2 (by omega)
  have hw : wrap64 (1 + a) = ((1 + a.toNat : Nat) : Int) := by rw [w64 (by omega) (by omega)]; omega
  simp only [e1, Option.bind_some, hw]
  exact l16Cands_l0 (l := l) (1 + a.toNat) (by omega) (by omega) (1 + a.toNat) 0 [] i1 h1 (by omega) rfl (fun x hx => by simp at hx) c1
theorem drawBetter (l : List Int) (hl : l.length ≤ 35184372088832) : ∃ a b n g n' g' a' b' m p m' p' lam, Ev (fun k => spec_DrawBetter.f k l) (a, b, n, g, n', g', a', b', m, p, m', p', lam) ∧ I64 g ∧ I64 g' ∧ I64 p ∧ I64 p' := by
  unfold spec_DrawBetter.f
  obtain ⟨h, e1⟩ := l1New l hl
  obtain ⟨cs, i1, h1, e2, c1, ok, len⟩ := l16Cands h (cur0 l hl)
  by_cases g : (cs.length : Int) > 1
  · obtain ⟨a, i2, h2, e3, c2, a1, a2, _⟩ := l1Below h1 ((cs.length : Int) - 1) c1
    have a3 := a2 (by omega)
    obtain ⟨b, i3, h3, e4, c3, b1, b2, _⟩ := l1Below h2 3 c2
    have x := ok.rd (i := 0) (by omega) (by omega)
    have y := ok.rd (i := 1 + a) (by omega) (by omega)
    refine ⟨(rd_T27 cs 0).f0, (rd_T27 cs 0).f1, (rd_T27 cs 0).f2.f0, (rd_T27 cs 0).f2.f1, (rd_T27 cs 0).f3.f0, (rd_T27 cs 0).f3.f1, (rd_T27 cs (1 + a)).f0, (rd_T27 cs (1 + a)).f1, (rd_T27 cs (1 + a)).f2.f0, (rd_T27 cs (1 + a)).f2.f1, (rd_T27 cs (1 + a)).f3.f0, (rd_T27 cs (1 + a)).f3.f1, wrap64 (1 + b), Ev.bind e1 (Ev.bind e2 (ev_pos g (ev_pos (show (0 : Int) < (cs.length : Int) by omega) ?_))), x.2.1, x.2.2.2, y.2.1, y.2.2.2⟩
    rw [w64 (x := (cs.length : Int) - 1) (by omega) (by omega)]
    simp only [e3, Option.bind_some]
    rw [w64 (x := 1 + a) (by omega) (by omega)]
    simp only [e4, Option.bind_some]
    exact ev_pos (by omega) (ev_pos (by omega) (Ev.now _))
  · obtain ⟨a, b, c, d, e, f, i2, h2, e3, c2, k1, k2, k3, k4⟩ := l15Cand h1 c1
    obtain ⟨a', b', c', d', e', f', i3, h3, e4, c3, q1, q2, q3, q4⟩ := l15Cand h2 c2
    obtain ⟨lam, i4, h4, e5, c4, _⟩ := l1Below h3 3 c3
    refine ⟨a, b, c, d, e, f, a', b', c', d', e', f', lam, Ev.bind e1 (Ev.bind e2 (ev_neg g (Ev.bind e3 (Ev.bind e4 ?_)))), k2, k4, q2, q4⟩
    simp only [e5, Option.bind_some]
    exact Ev.now _
theorem u64_wrap (x : Int) : IntKind.u64.wrap x = x % 18446744073709551616 := by
  simp [IntKind.wrap, IntKind.bits, IntKind.signed]
theorem u64w {x : Int} (h1 : 0 ≤ x) (h2 : x < 18446744073709551616) : IntKind.u64.wrap x = x := by
  rw [u64_wrap]; omega
theorem u64_low {x : Int} (h1 : 0 ≤ x) (h2 : x < 18446744073709551616) : Go.bits .and .u64 x 4294967295 = x % 4294967296 :=
  bits_mask .u64 64 (by decide) (fun n h0 h => by rw [u64_wrap]; omega) 32 (by decide) x h1 (by omega)
/-- The size of a number. -/
def absI (a : Int) : Int := if a < 0 then -a else a
theorem absI_range {a : Int} (h : I64 a) : 0 ≤ absI a ∧ absI a ≤ 9223372036854775808 := by unfold I64 at h; unfold absI; split <;> omega
theorem prod_range {x y : Int} (hx : 0 ≤ x ∧ x < 4294967296) (hy : 0 ≤ y ∧ y < 4294967296) : 0 ≤ x * y ∧ x * y ≤ 18446744065119617025 := by
  refine ⟨Int.mul_nonneg hx.1 hy.1, ?_⟩
  have : x * y ≤ 4294967295 * 4294967295 := Int.mul_le_mul (by omega) (by omega) hy.1 (by omega)
  omega
theorem prod_split (a b : Int) : a * b = (a / 4294967296) * (b / 4294967296) * 18446744073709551616 + ((a / 4294967296) * (b % 4294967296) + (a % 4294967296) * (b / 4294967296)) * 4294967296 + (a % 4294967296) * (b % 4294967296) := by
  have h1 : a = (a / 4294967296) * 4294967296 + a % 4294967296 := by omega
  have h2 : b = (b / 4294967296) * 4294967296 + b % 4294967296 := by omega
  generalize a / 4294967296 = p at *
  generalize a % 4294967296 = q at *
  generalize b / 4294967296 = r at *
  generalize b % 4294967296 = s at *
  subst h1 h2
  simp only [Int.add_mul, Int.mul_add]
  have e1 : p * 4294967296 * (r * 4294967296) = p * r * 18446744073709551616 := by
    rw [Int.mul_assoc, ← Int.mul_assoc 4294967296 r, Int.mul_comm 4294967296 r, Int.mul_assoc r, ← Int.mul_assoc p]; rfl
  have e2 : p * 4294967296 * s = p * s * 4294967296 := by rw [Int.mul_assoc, Int.mul_comm 4294967296 s, ← Int.mul_assoc]
  have e3 : q * (r * 4294967296) = q * r * 4294967296 := by rw [← Int.mul_assoc]
  rw [e1, e2, e3]
  omega
/-- A product, as a sign and two words. -/
def mulW (a b : Int) : Bool × Int × Int := (((decide (a < 0)) != (decide (b < 0))) && decide (0 < absI a * absI b), absI a * absI b / 18446744073709551616, absI a * absI b % 18446744073709551616)
theorem absI_mul_pos (a b : Int) : 0 < absI a * absI b ↔ a ≠ 0 ∧ b ≠ 0 := by
  have ha : 0 ≤ absI a := by unfold absI; split <;> omega
  have hb : 0 ≤ absI b := by unfold absI; split <;> omega
  constructor
  · intro h
    refine ⟨fun z => ?_, fun z => ?_⟩
    · subst z; simp [absI] at h
    · subst z; simp [absI] at h
  · intro ⟨h1, h2⟩
    exact Int.mul_pos (by unfold absI at *; split <;> omega) (by unfold absI at *; split <;> omega)
/-- A number as a sign and two words. -/
def norm (v : Int) : Bool × Int × Int := (decide (v < 0), absI v / 18446744073709551616, absI v % 18446744073709551616)
/-- It has room in 127 bits. -/
def Room (v : Int) : Prop := -170141183460469231731687303715884105728 < v ∧ v < 170141183460469231731687303715884105728
theorem absI_nonneg (v : Int) : 0 ≤ absI v := by unfold absI; split <;> omega
theorem absI_room {v : Int} : Room v ↔ absI v < 170141183460469231731687303715884105728 := by unfold Room absI; split <;> omega
theorem absI_mul (a b : Int) : absI (a * b) = absI a * absI b := by
  unfold absI
  by_cases ha : a < 0
  · by_cases hb : b < 0
    · have : 0 < a * b := Int.mul_pos_of_neg_of_neg ha hb
      rw [if_neg (by omega), if_pos ha, if_pos hb, Int.neg_mul_neg]
    · have : a * b ≤ 0 := Int.mul_nonpos_of_nonpos_of_nonneg (by omega) (by omega)
      rw [if_pos ha, if_neg hb]
      split
      · rw [Int.neg_mul]
      · rw [Int.neg_mul]; omega
  · by_cases hb : b < 0
    · have : a * b ≤ 0 := Int.mul_nonpos_of_nonneg_of_nonpos (by omega) (by omega)
      rw [if_neg ha, if_pos hb]
      split
      · rw [Int.mul_neg]
      · rw [Int.mul_neg]; omega
    · have : 0 ≤ a * b := Int.mul_nonneg (by omega) (by omega)
      rw [if_neg ha, if_neg hb, if_neg (by omega)]
theorem absI_zero {v : Int} : absI v = 0 ↔ v = 0 := by unfold absI; split <;> omega
theorem mul_neg_iff (a b : Int) : a * b < 0 ↔ ((decide (a < 0)) != (decide (b < 0))) = true ∧ 0 < absI a * absI b := by
  rw [absI_mul_pos]
  simp only [bne_iff_ne, ne_eq, decide_eq_decide]
  by_cases ha : a < 0
  · by_cases hb : b < 0
    · have : 0 < a * b := Int.mul_pos_of_neg_of_neg ha hb
      constructor
      · intro h; omega
      · intro h; omega
    · by_cases hz : b = 0
      · subst hz; simp
      · have : a * b < 0 := Int.mul_neg_of_neg_of_pos ha (by omega)
        constructor
        · intro _; refine ⟨by omega, by omega, hz⟩
        · intro _; exact this
  · by_cases hz : a = 0
    · subst hz; simp
    · by_cases hb : b < 0
      · have : a * b < 0 := Int.mul_neg_of_pos_of_neg (by omega) hb
        constructor
        · intro _; refine ⟨by omega, hz, by omega⟩
        · intro _; exact this
      · have : 0 ≤ a * b := Int.mul_nonneg (by omega) (by omega)
        constructor
        · intro h; omega
        · intro h; omega
theorem mulW_norm (a b : Int) : mulW a b = norm (a * b) := by
  unfold mulW norm
  rw [absI_mul]
  congr 1
  rw [Bool.eq_iff_iff]
  simp only [Bool.and_eq_true, decide_eq_true_eq]
  exact (mul_neg_iff a b).symm
theorem sq_room {g : Int} (h : I64 g) : 0 ≤ g * g ∧ g * g ≤ 85070591730234615865843651857942052864 := by
  have h1 := absI_range h
  have h2 : g * g = absI g * absI g := by
    have := absI_mul g g
    have h3 : 0 ≤ g * g := by
      by_cases c : 0 ≤ g
      · exact Int.mul_nonneg c c
      · exact Int.le_of_lt (Int.mul_pos_of_neg_of_neg (by omega) (by omega))
    unfold absI at this ⊢
    rw [if_neg (by omega)] at this
    exact this
  rw [h2]
  refine ⟨Int.mul_nonneg h1.1 h1.1, ?_⟩
  have : absI g * absI g ≤ 9223372036854775808 * 9223372036854775808 := Int.mul_le_mul h1.2 h1.2 h1.1 (by omega)
  omega
/-- The parts of a number that has room. -/
theorem norm_parts {v : Int} (h : Room v) : 0 ≤ absI v / 18446744073709551616 ∧ absI v / 18446744073709551616 < 9223372036854775808 ∧ 0 ≤ absI v % 18446744073709551616 ∧ absI v % 18446744073709551616 < 18446744073709551616 := by
  have h1 := absI_nonneg v
  have h2 := absI_room.1 h
  omega
theorem scale_split (m u : Int) : m * u = (m / 18446744073709551616 * u / 18446744073709551616) * 340282366920938463463374607431768211456 + (m / 18446744073709551616 * u % 18446744073709551616 + m % 18446744073709551616 * u / 18446744073709551616) * 18446744073709551616 + m % 18446744073709551616 * u % 18446744073709551616 := by
  have h1 : m * u = (m / 18446744073709551616 * u) * 18446744073709551616 + m % 18446744073709551616 * u := by
    have e : m = m / 18446744073709551616 * 18446744073709551616 + m % 18446744073709551616 := by omega
    generalize m / 18446744073709551616 = p at *
    generalize m % 18446744073709551616 = q at *
    rw [e, Int.add_mul, Int.mul_assoc, Int.mul_comm 18446744073709551616 u, ← Int.mul_assoc]
  rw [h1]
  generalize m / 18446744073709551616 * u = a
  generalize m % 18446744073709551616 * u = b
  omega
/-- Where the words of a product have room, the product has, and is told by them. -/
theorem scale_room {v k : Int} (hv : Room v) (hk : I64 k) :
    let m := absI v; let u := absI k
    let over := m / 18446744073709551616 * u / 18446744073709551616
    let sum := m / 18446744073709551616 * u % 18446744073709551616 + m % 18446744073709551616 * u / 18446744073709551616
    let low := m % 18446744073709551616 * u % 18446744073709551616
    (Room (v * k) ↔ over = 0 ∧ sum < 9223372036854775808) ∧ (0 ≤ over ∧ 0 ≤ sum ∧ sum < 36893488147419103232 ∧ 0 ≤ low ∧ low < 18446744073709551616) ∧
      (over = 0 → sum < 9223372036854775808 → absI (v * k) / 18446744073709551616 = sum ∧ absI (v * k) % 18446744073709551616 = low) := by
  intro m u over sum low
  have hm := norm_parts hv
  have hu := absI_range hk
  have hs : absI (v * k) = over * 340282366920938463463374607431768211456 + sum * 18446744073709551616 + low := by
    rw [absI_mul]; exact scale_split m u
  have p1 : 0 ≤ m / 18446744073709551616 * u := Int.mul_nonneg hm.1 hu.1
  have p2 : 0 ≤ m % 18446744073709551616 * u := Int.mul_nonneg hm.2.2.1 hu.1
  have p3 : m % 18446744073709551616 * u ≤ 18446744073709551615 * 9223372036854775808 := Int.mul_le_mul (by omega) hu.2 hu.1 (by omega)
  have r : 0 ≤ over ∧ 0 ≤ sum ∧ sum < 36893488147419103232 ∧ 0 ≤ low ∧ low < 18446744073709551616 := by
    simp only [over, sum, low]
    omega
  refine ⟨?_, r, fun h1 h2 => ?_⟩
  · rw [absI_room, hs]
    clear_value over sum low
    omega
  · rw [hs]
    clear_value over sum low
    omega
theorem scale_sign (v k : Int) : decide (v * k < 0) = (((decide (v < 0)) != (decide (k < 0))) && decide (0 < absI (v * k))) := by
  rw [Bool.eq_iff_iff, absI_mul]
  simp only [Bool.and_eq_true, decide_eq_true_eq]
  exact mul_neg_iff v k
def WOk (s : Bool) (h l : Int) : Prop := h < 9223372036854775808 ∧ (s = true → 0 < h ∨ 0 < l)
def FOk (s : Bool) (h l d : Int) : Prop := WOk s h l ∧ 1 ≤ d ∧ d ≤ 1000000
open Classical in
noncomputable def fracOf (s : Bool) (h l d : Int) : Bool × Int × Int × Int × Bool := if FOk s h l d then (s, h, l, d, true) else (false, 0, 0, 0, false)
open Classical in
/-- The score of a slot. -/
noncomputable def plainG (n g lam : Int) : Bool × Int × Int × Int × Bool :=
  if (0 ≤ n ∧ n ≤ 40) ∧ (1 ≤ lam ∧ lam ≤ 100) then fracOf (mulW g g).1 (mulW g g).2.1 (mulW g g).2.2 (n + lam) else (false, 0, 0, 0, false)
/-- Room for a number that is not below zero. -/
def Up (v : Int) : Prop := 0 ≤ v ∧ v < 170141183460469231731687303715884105728
open Classical in
/-- Its words, and true; zeros and false where it has no room. -/
noncomputable def wordsOf (v : Int) : Bool × Int × Int × Bool := if v < 170141183460469231731687303715884105728 then (false, v / 18446744073709551616, v % 18446744073709551616, true) else (false, 0, 0, false)
theorem wok_up {v : Int} (h : Up v) : WOk false (v / 18446744073709551616) (v % 18446744073709551616) := by
  unfold Up at h
  exact ⟨by omega, fun z => by simp at z⟩
theorem wok_false {h l : Int} : WOk false h l ↔ h < 9223372036854775808 := ⟨fun z => z.1, fun z => ⟨z, fun y => by simp at y⟩⟩
theorem scale_two (v k : Int) : v * k = (v / 18446744073709551616 * k) * 18446744073709551616 + v % 18446744073709551616 * k := by
  have e : v = v / 18446744073709551616 * 18446744073709551616 + v % 18446744073709551616 := by omega
  generalize v / 18446744073709551616 = p at *
  generalize v % 18446744073709551616 = q at *
  rw [e, Int.add_mul, Int.mul_assoc, Int.mul_comm 18446744073709551616 k, ← Int.mul_assoc]
theorem scale_parts {v k : Int} (hv : Up v) (hk : 0 ≤ k ∧ k ≤ 1000000) :
    0 ≤ v / 18446744073709551616 * k ∧ 0 ≤ v % 18446744073709551616 * k ∧ v % 18446744073709551616 * k ≤ 18446744073709551615 * 1000000 ∧ v / 18446744073709551616 * k ≤ 9223372036854775807 * 1000000 ∧ 0 ≤ v * k := by
  unfold Up at hv
  have a : 0 ≤ v / 18446744073709551616 ∧ v / 18446744073709551616 ≤ 9223372036854775807 := by omega
  have b : 0 ≤ v % 18446744073709551616 ∧ v % 18446744073709551616 ≤ 18446744073709551615 := by omega
  exact ⟨Int.mul_nonneg a.1 hk.1, Int.mul_nonneg b.1 hk.1, Int.mul_le_mul b.2 hk.2 hk.1 (by omega), Int.mul_le_mul a.2 hk.2 hk.1 (by omega), Int.mul_nonneg hv.1 hk.1⟩
theorem absI_up {k : Int} (h : 0 ≤ k) : absI k = k := by unfold absI; rw [if_neg (by omega)]
theorem implWideOk (s : Bool) (h l : Int) : impl_WideOk.f s h l = some (dec (WOk s h l)) := by
  unfold impl_WideOk.f
  by_cases h1 : h < 9223372036854775808
  · rw [if_pos h1]
    by_cases h2 : s = true
    · rw [if_pos h2]
      by_cases h3 : h > 0
      · rw [if_pos h3, dec_true ⟨h1, fun _ => .inl h3⟩]
      · rw [if_neg h3, ← dec_eq]
        congr 1
        exact dec_congr ⟨fun z => ⟨h1, fun _ => .inr z⟩, fun z => (z.2 h2).elim (fun y => absurd y h3) (fun y => y)⟩
    · rw [if_neg h2, dec_true ⟨h1, fun z => absurd z h2⟩]
  · rw [if_neg h1, dec_false (fun z => h1 z.1)]
theorem implSize {a : Int} (h : I64 a) : impl_size.f a = some (absI a) := by
  unfold I64 at h
  unfold impl_size.f absI
  split
  · rw [u64_wrap, u64_wrap]; congr 1; omega
  · rw [u64w (by omega) (by omega)]
theorem mul64 {a b : Int} (ha : 0 ≤ a ∧ a < 18446744073709551616) (hb : 0 ≤ b ∧ b < 18446744073709551616) : bits_Mul64.f a b = some (a * b / 18446744073709551616, a * b % 18446744073709551616) := by
  unfold bits_Mul64.f
  have h := prod_split a b
  rw [u64_low ha.1 ha.2, u64_low hb.1 hb.2]
  have r1 := prod_range (x := a / 4294967296) (y := b / 4294967296) (by omega) (by omega)
  have r2 := prod_range (x := a / 4294967296) (y := b % 4294967296) (by omega) (by omega)
  have r3 := prod_range (x := a % 4294967296) (y := b / 4294967296) (by omega) (by omega)
  have r4 := prod_range (x := a % 4294967296) (y := b % 4294967296) (by omega) (by omega)
  have r0 : 0 ≤ a * b := Int.mul_nonneg ha.1 hb.1
  generalize (a / 4294967296) * (b / 4294967296) = p at *
  generalize (a / 4294967296) * (b % 4294967296) = q at *
  generalize (a % 4294967296) * (b / 4294967296) = r at *
  generalize (a % 4294967296) * (b % 4294967296) = s at *
  generalize a * b = t at *
  rw [u64w (x := p) (by omega) (by omega), u64w (x := q) (by omega) (by omega), u64w (x := r) (by omega) (by omega), u64w (x := s) (by omega) (by omega), u64w (x := q + s / 4294967296) (by omega) (by omega), u64_low (x := q + s / 4294967296) (by omega) (by omega),
    u64w (x := p + (q + s / 4294967296) / 4294967296) (by omega) (by omega), u64w (x := (q + s / 4294967296) % 4294967296 + r) (by omega) (by omega), u64w (by omega) (by omega), u64_wrap]
  congr 2
  omega
theorem implWideOf (s : Bool) {h l : Int} (h1 : 0 ≤ h) (h2 : 0 ≤ l) : impl_wideOf.f s h l = some (s && decide (0 < h + l), h, l) := by
  unfold impl_wideOf.f
  by_cases hs : s = true
  · rw [if_pos hs]
    by_cases g : h > 0
    · rw [if_pos g, hs]
      simp; omega
    · rw [if_neg g, hs]
      simp; omega
  · rw [if_neg hs]
    simp at hs
    simp [hs]
theorem add64 {a b c : Int} (h0 : 0 ≤ a) (h1 : 0 ≤ b) (h2 : 0 ≤ c) (h3 : c ≤ 1) : bits_Add64.f a b c = some ((a + b + c) % 18446744073709551616, (a + b + c) / 18446744073709551616) := by
  unfold bits_Add64.f
  rw [if_pos ⟨h0, h1, h2, h3⟩]
theorem implScale {v k : Int} (hv : Up v) (hk : 0 ≤ k ∧ k ≤ 1000000) : impl_ScaleWide.f false (v / 18446744073709551616) (v % 18446744073709551616) k = some (wordsOf (v * k)) := by
  have hp := scale_parts hv hk
  have hs := scale_two v k
  have hv' := hv
  unfold Up at hv'
  unfold impl_ScaleWide.f
  rw [implWideOk, dec_true (wok_up hv)]
  simp only [Option.bind_some, if_true]
  rw [implSize (show I64 k by unfold I64; omega), absI_up hk.1]
  simp only [Option.bind_some]
  rw [mul64 (by omega) (by omega), mul64 (by omega) (by omega)]
  simp only [Option.bind_some]
  have hd : decide (k < 0) = false := decide_eq_false (by omega)
  rw [hd]
  generalize v / 18446744073709551616 * k = p at *
  generalize v % 18446744073709551616 * k = q at *
  generalize v * k = m at *
  rw [add64 (by omega) (by omega) (by omega) (by omega)]
  simp only [Option.bind_some, Int.add_zero]
  rw [implWideOf _ (by omega) (by omega)]
  simp only [Option.bind_some, bne_self_eq_false, Bool.false_and]
  unfold wordsOf
  by_cases c1 : p / 18446744073709551616 > 0
  · rw [if_pos c1, if_neg (by omega)]
  rw [if_neg c1]
  by_cases c2 : (p % 18446744073709551616 + q / 18446744073709551616) / 18446744073709551616 > 0
  · rw [if_pos c2, if_neg (by omega)]
  rw [if_neg c2, implWideOk]
  simp only [Option.bind_some]
  by_cases c3 : (p % 18446744073709551616 + q / 18446744073709551616) % 18446744073709551616 < 9223372036854775808
  · rw [dec_true (wok_false.2 c3), if_pos rfl, if_pos (by omega)]
    have e1 : (p % 18446744073709551616 + q / 18446744073709551616) % 18446744073709551616 = m / 18446744073709551616 := by omega
    have e2 : q % 18446744073709551616 = m % 18446744073709551616 := by omega
    rw [e1, e2]
  · rw [dec_false (fun z => c3 (wok_false.1 z)), if_neg (by decide), if_neg (by omega)]
theorem specWideOk (s : Bool) (h l : Int) : spec_WideOk.f s h l = some (dec (WOk s h l)) := by
  unfold spec_WideOk.f
  by_cases h1 : h < 9223372036854775808
  · rw [if_pos h1]
    by_cases h2 : s = true
    · rw [if_pos h2]
      by_cases h3 : h > 0
      · rw [if_pos h3, dec_true ⟨h1, fun _ => .inl h3⟩]
      · rw [if_neg h3, ← dec_eq]
        congr 1
        exact dec_congr ⟨fun z => ⟨h1, fun _ => .inr z⟩, fun z => (z.2 h2).elim (fun y => absurd y h3) (fun y => y)⟩
    · rw [if_neg h2, dec_true ⟨h1, fun z => absurd z h2⟩]
  · rw [if_neg h1, dec_false (fun z => h1 z.1)]
theorem specAbs {a : Int} (h : I64 a) : spec_l3Abs.f a = some (absI a) := by
  unfold I64 at h
  unfold spec_l3Abs.f absI
  split
  · rw [w64 (x := a + 1) (by omega) (by omega), w64 (by omega) (by omega), u64w (x := -(a + 1)) (by omega) (by omega), u64w (by omega) (by omega)]; congr 1; omega
  · rw [u64w (by omega) (by omega)]
theorem specProduct {a b : Int} (ha : 0 ≤ a ∧ a < 18446744073709551616) (hb : 0 ≤ b ∧ b < 18446744073709551616) : spec_l3Product.f a b = some (a * b / 18446744073709551616, a * b % 18446744073709551616) := by
  unfold spec_l3Product.f
  have h := prod_split a b
  rw [u64_low ha.1 ha.2, u64_low hb.1 hb.2]
  have r1 := prod_range (x := a / 4294967296) (y := b / 4294967296) (by omega) (by omega)
  have r2 := prod_range (x := a / 4294967296) (y := b % 4294967296) (by omega) (by omega)
  have r3 := prod_range (x := a % 4294967296) (y := b / 4294967296) (by omega) (by omega)
  have r4 := prod_range (x := a % 4294967296) (y := b % 4294967296) (by omega) (by omega)
  have r0 : 0 ≤ a * b := Int.mul_nonneg ha.1 hb.1
  generalize (a / 4294967296) * (b / 4294967296) = p at *
  generalize (a / 4294967296) * (b % 4294967296) = q at *
  generalize (a % 4294967296) * (b / 4294967296) = r at *
  generalize (a % 4294967296) * (b % 4294967296) = s at *
  generalize a * b = t at *
  rw [u64w (x := p) (by omega) (by omega), u64w (x := q) (by omega) (by omega), u64w (x := r) (by omega) (by omega), u64w (x := s) (by omega) (by omega), u64w (x := q + s / 4294967296) (by omega) (by omega), u64_low (x := q + s / 4294967296) (by omega) (by omega), u64_low (x := s) (by omega) (by omega),
    u64w (x := p + (q + s / 4294967296) / 4294967296) (by omega) (by omega), u64w (x := r + (q + s / 4294967296) % 4294967296) (by omega) (by omega), u64w (x := p + (q + s / 4294967296) / 4294967296 + (r + (q + s / 4294967296) % 4294967296) / 4294967296) (by omega) (by omega), u64_wrap, u64_wrap]
  congr 2
  · omega
  · omega
theorem specZero (s : Bool) (h l : Int) : ∃ b, spec_l3Zero.f s h l = some b := by
  unfold spec_l3Zero.f
  split
  · exact ⟨_, rfl⟩
  · exact ⟨_, rfl⟩
theorem specScale {v k : Int} (hv : Up v) (hk : 0 ≤ k ∧ k ≤ 1000000) : spec_ScaleWide.f false (v / 18446744073709551616) (v % 18446744073709551616) k = some (wordsOf (v * k)) := by
  have hp := scale_parts hv hk
  have hs := scale_two v k
  have hv' := hv
  unfold Up at hv'
  unfold spec_ScaleWide.f
  rw [specWideOk, dec_true (wok_up hv)]
  simp only [Option.bind_some, if_true]
  rw [specAbs (show I64 k by unfold I64; omega), absI_up hk.1]
  simp only [Option.bind_some]
  rw [specProduct (by omega) (by omega), specProduct (by omega) (by omega)]
  simp only [Option.bind_some]
  have hd : decide (k < 0) = false := decide_eq_false (by omega)
  rw [hd]
  generalize v / 18446744073709551616 * k = p at *
  generalize v % 18446744073709551616 * k = q at *
  generalize v * k = m at *
  simp only [bne_self_eq_false, u64_wrap]
  obtain ⟨b, eb⟩ := specZero false ((p % 18446744073709551616 + q / 18446744073709551616) % 18446744073709551616) (q % 18446744073709551616)
  rw [eb]
  simp only [Option.bind_some, ite_self]
  unfold wordsOf
  by_cases c1 : p / 18446744073709551616 > 0
  · rw [if_pos c1, if_neg (by omega)]
  rw [if_neg c1]
  by_cases c2 : (p % 18446744073709551616 + q / 18446744073709551616) % 18446744073709551616 < p % 18446744073709551616
  · rw [if_pos c2, if_neg (by omega)]
  rw [if_neg c2, specWideOk]
  simp only [Option.bind_some]
  by_cases c3 : (p % 18446744073709551616 + q / 18446744073709551616) % 18446744073709551616 < 9223372036854775808
  · rw [dec_true (wok_false.2 c3), if_pos rfl, if_pos (by omega)]
    have e1 : (p % 18446744073709551616 + q / 18446744073709551616) % 18446744073709551616 = m / 18446744073709551616 := by omega
    have e2 : q % 18446744073709551616 = m % 18446744073709551616 := by omega
    rw [e1, e2]
  · rw [dec_false (fun z => c3 (wok_false.1 z)), if_neg (by decide), if_neg (by omega)]
theorem implAddW {u v : Int} (hu : Up u) (hv : Up v) : Ev (fun k => impl_AddWide.f k false (u / 18446744073709551616) (u % 18446744073709551616) false (v / 18446744073709551616) (v % 18446744073709551616)) (wordsOf (u + v)) := by
  have hu' := hu
  have hv' := hv
  unfold Up at hu' hv'
  unfold impl_AddWide.f
  simp only [implWideOk, dec_true (wok_up hu), dec_true (wok_up hv), Option.bind_some]
  refine ev_pos trivial (ev_succ ?_)
  simp only [impl_AddWide.j0]
  refine ev_neg (by simp) (ev_neg (by simp) ?_)
  rw [add64 (by omega) (by omega) (by omega) (by omega)]
  simp only [Option.bind_some, Int.add_zero]
  rw [add64 (by omega) (by omega) (by omega) (by omega)]
  simp only [Option.bind_some]
  rw [implWideOf _ (by omega) (by omega)]
  simp only [Option.bind_some, Bool.false_and, implWideOk]
  refine ev_of ?_
  unfold wordsOf
  by_cases c3 : (u / 18446744073709551616 + v / 18446744073709551616 + (u % 18446744073709551616 + v % 18446744073709551616) / 18446744073709551616) % 18446744073709551616 < 9223372036854775808
  · rw [dec_true (wok_false.2 c3), if_pos rfl, if_pos (by omega)]
    have e1 : (u / 18446744073709551616 + v / 18446744073709551616 + (u % 18446744073709551616 + v % 18446744073709551616) / 18446744073709551616) % 18446744073709551616 = (u + v) / 18446744073709551616 := by omega
    have e2 : (u % 18446744073709551616 + v % 18446744073709551616) % 18446744073709551616 = (u + v) % 18446744073709551616 := by omega
    rw [e1, e2]
  · rw [dec_false (fun z => c3 (wok_false.1 z)), if_neg (by decide), if_neg (by omega)]
theorem specAddW {u v : Int} (hu : Up u) (hv : Up v) : Ev (fun k => spec_AddWide.f k false (u / 18446744073709551616) (u % 18446744073709551616) false (v / 18446744073709551616) (v % 18446744073709551616)) (wordsOf (u + v)) := by
  have hu' := hu
  have hv' := hv
  unfold Up at hu' hv'
  unfold spec_AddWide.f
  simp only [specWideOk, dec_true (wok_up hu), dec_true (wok_up hv), Option.bind_some]
  refine ev_pos trivial (ev_succ ?_)
  simp only [spec_AddWide.j0, u64_wrap, specWideOk, Option.bind_some]
  refine ev_neg (by simp) (ev_pos (by simp) ?_)
  unfold wordsOf
  by_cases c2 : (u % 18446744073709551616 + v % 18446744073709551616) % 18446744073709551616 < u % 18446744073709551616
  · refine ev_pos c2 (ev_of ?_)
    by_cases c3 : ((u / 18446744073709551616 + v / 18446744073709551616) % 18446744073709551616 + 1) % 18446744073709551616 < 9223372036854775808
    · rw [dec_true (wok_false.2 c3), if_pos rfl, if_pos (by omega)]
      have e1 : ((u / 18446744073709551616 + v / 18446744073709551616) % 18446744073709551616 + 1) % 18446744073709551616 = (u + v) / 18446744073709551616 := by omega
      have e2 : (u % 18446744073709551616 + v % 18446744073709551616) % 18446744073709551616 = (u + v) % 18446744073709551616 := by omega
      rw [e1, e2]
    · rw [dec_false (fun z => c3 (wok_false.1 z)), if_neg (by decide), if_neg (by omega)]
  · refine ev_neg c2 (ev_of ?_)
    by_cases c3 : (u / 18446744073709551616 + v / 18446744073709551616) % 18446744073709551616 < 9223372036854775808
    · rw [dec_true (wok_false.2 c3), if_pos rfl, if_pos (by omega)]
      have e1 : (u / 18446744073709551616 + v / 18446744073709551616) % 18446744073709551616 = (u + v) / 18446744073709551616 := by omega
      have e2 : (u % 18446744073709551616 + v % 18446744073709551616) % 18446744073709551616 = (u + v) % 18446744073709551616 := by omega
      rw [e1, e2]
    · rw [dec_false (fun z => c3 (wok_false.1 z)), if_neg (by decide), if_neg (by omega)]
theorem implWithin (a b c : Int) : impl_within.f a b c = some (decide (b ≤ a ∧ a ≤ c)) := by
  unfold impl_within.f
  by_cases h : b ≤ a
  · rw [if_pos h]; simp [h]
  · rw [if_neg h]; simp [h]
theorem implFracOk (s : Bool) (h l d : Int) : impl_FracOk.f s h l d = some (dec (FOk s h l d)) := by
  unfold impl_FracOk.f
  simp only [implWideOk, implWithin, Option.bind_some]
  by_cases h1 : WOk s h l
  · rw [dec_true h1, if_pos rfl, ← dec_eq]
    congr 1
    exact dec_congr ⟨fun z => ⟨h1, z⟩, fun z => z.2⟩
  · rw [dec_false h1, if_neg (by decide), dec_false (fun z => h1 z.1)]
theorem specIn (a b c : Int) : spec_l1In.f a b c = some (decide (b ≤ a ∧ a ≤ c)) := by
  unfold spec_l1In.f
  by_cases h : b ≤ a
  · rw [if_pos h]; simp [h]
  · rw [if_neg h]; simp [h]
theorem specFracOk (s : Bool) (h l d : Int) : spec_FracOk.f s h l d = some (dec (FOk s h l d)) := by
  unfold spec_FracOk.f
  simp only [specWideOk, specIn, Option.bind_some]
  by_cases h1 : WOk s h l
  · rw [dec_true h1, if_pos rfl, ← dec_eq]
    congr 1
    exact dec_congr ⟨fun z => ⟨h1, z⟩, fun z => z.2⟩
  · rw [dec_false h1, if_neg (by decide), dec_false (fun z => h1 z.1)]
/-- How two numbers stand to each other. -/
def ord (u v : Int) : Int := if u < v then -1 else if u = v then 0 else 1
/-- A fraction that is no less than zero, in words. -/
def frW (v d : Int) : Bool × Int × Int × Int := (false, v / 18446744073709551616, v % 18446744073709551616, d)
def Den (d : Int) : Prop := 1 ≤ d ∧ d ≤ 1000000
theorem fok_up {v d : Int} (hv : Up v) (hd : Den d) : FOk false (v / 18446744073709551616) (v % 18446744073709551616) d := ⟨wok_up hv, hd.1, hd.2⟩
noncomputable def crossV (u d v e : Int) : Bool × Int × Int × Bool × Int × Int × Bool := ((wordsOf (u * e)).1, (wordsOf (u * e)).2.1, (wordsOf (u * e)).2.2.1, (wordsOf (v * d)).1, (wordsOf (v * d)).2.1, (wordsOf (v * d)).2.2.1, if (wordsOf (u * e)).2.2.2 = true then (wordsOf (v * d)).2.2.2 else false)
theorem implCross {u d v e : Int} (hu : Up u) (hd : Den d) (hv : Up v) (he : Den e) : Ev (fun k => impl_crossed.f k false (u / 18446744073709551616) (u % 18446744073709551616) d false (v / 18446744073709551616) (v % 18446744073709551616) e) (crossV u d v e) := by
  unfold impl_crossed.f
  unfold Den at hd he
  simp only [implFracOk, dec_true (fok_up hu hd), dec_true (fok_up hv he), Option.bind_some]
  refine ev_pos trivial (ev_succ ?_)
  simp only [impl_crossed.j0, implScale hu (show 0 ≤ e ∧ e ≤ 1000000 by omega), implScale hv (show 0 ≤ d ∧ d ≤ 1000000 by omega), Option.bind_some]
  refine ev_neg (by decide) ?_
  unfold crossV
  by_cases c : (wordsOf (u * e)).2.2.2 = true
  · refine ev_pos c (ev_of ?_)
    rw [if_pos c]
  · refine ev_neg c (ev_of ?_)
    rw [if_neg c]
theorem specCross {u d v e : Int} (hu : Up u) (hd : Den d) (hv : Up v) (he : Den e) : Ev (fun k => spec_l5Cross.f k false (u / 18446744073709551616) (u % 18446744073709551616) d false (v / 18446744073709551616) (v % 18446744073709551616) e) (crossV u d v e) := by
  unfold spec_l5Cross.f
  unfold Den at hd he
  simp only [specFracOk, dec_true (fok_up hu hd), dec_true (fok_up hv he), Option.bind_some]
  refine ev_pos trivial (ev_succ ?_)
  simp only [spec_l5Cross.j0, specScale hu (show 0 ≤ e ∧ e ≤ 1000000 by omega), specScale hv (show 0 ≤ d ∧ d ≤ 1000000 by omega), Option.bind_some]
  refine ev_neg (by decide) ?_
  unfold crossV
  by_cases c : (wordsOf (u * e)).2.2.2 = true
  · refine ev_pos c (ev_of ?_)
    rw [if_pos c]
  · refine ev_neg c (ev_of ?_)
    rw [if_neg c]
theorem wordsOf_up {v : Int} (h : Up v) : wordsOf v = (false, v / 18446744073709551616, v % 18446744073709551616, true) := by
  unfold wordsOf; rw [if_pos h.2]
theorem wordsOf_not {v : Int} (h : ¬ v < 170141183460469231731687303715884105728) : wordsOf v = (false, 0, 0, false) := by
  unfold wordsOf; rw [if_neg h]
open Classical in
/-- The sum of two fractions, and true; zeros and false where there is no room. -/
noncomputable def addF (u d v e : Int) : Bool × Int × Int × Int × Bool :=
  if (u * e < 170141183460469231731687303715884105728 ∧ v * d < 170141183460469231731687303715884105728) ∧ u * e + v * d < 170141183460469231731687303715884105728 ∧ d * e ≤ 1000000 then (false, (u * e + v * d) / 18446744073709551616, (u * e + v * d) % 18446744073709551616, d * e, true) else (false, 0, 0, 0, false)
open Classical in
noncomputable def cmpF (u d v e : Int) : Int × Bool :=
  if u * e < 170141183460469231731687303715884105728 ∧ v * d < 170141183460469231731687303715884105728 then (ord (u * e) (v * d), true) else (0, false)
theorem den_mul {d e : Int} (hd : Den d) (he : Den e) : 1 ≤ d * e ∧ d * e ≤ 1000000 * 1000000 := by
  unfold Den at hd he
  have h1 : 0 < d * e := Int.mul_pos (by omega) (by omega)
  have h2 : d * e ≤ 1000000 * 1000000 := Int.mul_le_mul hd.2 he.2 (by omega) (by omega)
  exact ⟨by omega, h2⟩
theorem up_mul {v k : Int} (hv : Up v) (hk : Den k) : 0 ≤ v * k := Int.mul_nonneg hv.1 (by unfold Den at hk; omega)
theorem implMulWide {a b : Int} (ha : I64 a) (hb : I64 b) : impl_MulWide.f a b = some (mulW a b) := by
  unfold impl_MulWide.f mulW
  have ra := absI_range ha
  have rb := absI_range hb
  have rp : 0 ≤ absI a * absI b := Int.mul_nonneg ra.1 rb.1
  simp only [implSize ha, implSize hb, mul64 (a := absI a) (b := absI b) (by omega) (by omega), Option.bind_some]
  rw [implWideOf _ (by omega) (by omega)]
  have e : decide (0 < absI a * absI b / 18446744073709551616 + absI a * absI b % 18446744073709551616) = decide (0 < absI a * absI b) := by
    rw [decide_eq_decide]
    omega
  rw [e]
  rfl
theorem implFracOf (s : Bool) (h l d : Int) : impl_fracOf.f s h l d = some (fracOf s h l d) := by
  unfold impl_fracOf.f fracOf
  simp only [implFracOk, Option.bind_some]
  by_cases g : FOk s h l d
  · rw [dec_true g, if_pos rfl, if_pos g]
  · rw [dec_false g, if_neg (by decide), if_neg g]
theorem implSquareOver {g : Int} (d : Int) (hg : I64 g) : impl_SquareOver.f g d = some (fracOf (mulW g g).1 (mulW g g).2.1 (mulW g g).2.2 d) := by
  unfold impl_SquareOver.f
  simp only [implMulWide hg hg, implFracOf, Option.bind_some]
theorem implCount (n lam : Int) : impl_isCount.f n lam = some (decide ((0 ≤ n ∧ n ≤ 40) ∧ (1 ≤ lam ∧ lam ≤ 100))) := by
  unfold impl_isCount.f
  simp only [implWithin, Option.bind_some]
  by_cases h1 : 0 ≤ n ∧ n ≤ 40
  · rw [if_pos (by simpa using h1)]
    simp [h1]
  · rw [if_neg (by simpa using h1)]
    simp [h1]
theorem implPlainGain {g : Int} (n lam : Int) (hg : I64 g) : impl_PlainGain.f n g lam = some (plainG n g lam) := by
  unfold impl_PlainGain.f plainG
  simp only [implCount, implSquareOver _ hg, Option.bind_some]
  by_cases h : (0 ≤ n ∧ n ≤ 40) ∧ (1 ≤ lam ∧ lam ≤ 100)
  · rw [if_pos (by simpa using h), if_pos h, w64 (by omega) (by omega)]
  · rw [if_neg (by simpa using h), if_neg h]
theorem specMulWide {a b : Int} (ha : I64 a) (hb : I64 b) : spec_MulWide.f a b = some (mulW a b) := by
  unfold spec_MulWide.f mulW
  have ra := absI_range ha
  have rb := absI_range hb
  have hp := absI_mul_pos a b
  simp only [specAbs ha, specAbs hb, specProduct (a := absI a) (b := absI b) (by omega) (by omega), Option.bind_some]
  by_cases h : ((decide (a < 0)) != (decide (b < 0))) = true
  · rw [if_pos h, h]
    by_cases h1 : a = 0
    · rw [if_pos h1]
      have : ¬ (0 < absI a * absI b) := fun z => (hp.1 z).1 h1
      simp [this]
    · rw [if_neg h1]
      by_cases h2 : b = 0
      · subst h2
        simp [absI]
      · have : 0 < absI a * absI b := hp.2 ⟨h1, h2⟩
        simp [this, h2]
  · rw [if_neg h]
    simp only [Bool.not_eq_true] at h
    rw [h]
    simp
theorem specSquareOver {g : Int} (d : Int) (hg : I64 g) : spec_SquareOver.f g d = some (fracOf (mulW g g).1 (mulW g g).2.1 (mulW g g).2.2 d) := by
  unfold spec_SquareOver.f fracOf
  simp only [specMulWide hg hg, specFracOk, Option.bind_some]
  by_cases h : FOk (mulW g g).1 (mulW g g).2.1 (mulW g g).2.2 d
  · rw [dec_true h, if_pos rfl, if_pos h]
  · rw [dec_false h, if_neg (by decide), if_neg h]
theorem specPlainGain {g : Int} (n lam : Int) (hg : I64 g) : spec_PlainGain.f n g lam = some (plainG n g lam) := by
  unfold spec_PlainGain.f plainG
  simp only [specIn, specSquareOver _ hg, Option.bind_some]
  by_cases h1 : 0 ≤ n ∧ n ≤ 40
  · by_cases h2 : 1 ≤ lam ∧ lam ≤ 100
    · rw [if_pos (by simpa using h1), if_pos (by simpa using h2), if_pos ⟨h1, h2⟩, w64 (by omega) (by omega)]
    · rw [if_pos (by simpa using h1), if_neg (by simpa using h2), if_neg (fun z => h2 z.2)]
  · rw [if_neg (by simpa using h1), if_neg (fun z => h1 z.1)]
theorem implAddF {u d v e : Int} (hu : Up u) (hd : Den d) (hv : Up v) (he : Den e) : Ev (fun k => impl_AddFrac.f k false (u / 18446744073709551616) (u % 18446744073709551616) d false (v / 18446744073709551616) (v % 18446744073709551616) e) (addF u d v e) := by
  unfold impl_AddFrac.f
  refine Ev.bind (implCross hu hd hv he) ?_
  have h1 := up_mul hu he
  have h2 := up_mul hv hd
  have h3 := den_mul hd he
  unfold crossV addF
  generalize u * e = p at *
  generalize v * d = q at *
  by_cases c1 : p < 170141183460469231731687303715884105728
  · by_cases c2 : q < 170141183460469231731687303715884105728
    · have P : Up p := ⟨h1, c1⟩
      have Q : Up q := ⟨h2, c2⟩
      simp only [wordsOf_up P, wordsOf_up Q, if_true]
      refine Ev.bind (implAddW P Q) ?_
      by_cases c3 : p + q < 170141183460469231731687303715884105728
      · simp only [wordsOf_up (show Up (p + q) from ⟨by omega, c3⟩), if_true]
        rw [w64 (x := d * e) (by omega) (by omega), implFracOf]
        simp only [Option.bind_some]
        refine ev_of ?_
        unfold fracOf
        by_cases c4 : d * e ≤ 1000000
        · rw [if_pos ⟨wok_up (show Up (p + q) from ⟨by omega, c3⟩), h3.1, c4⟩, if_pos ⟨⟨c1, c2⟩, c3, c4⟩]
        · rw [if_neg (fun z => c4 z.2.2), if_neg (fun z => c4 z.2.2)]
      · simp only [wordsOf_not c3]
        refine ev_neg (by decide) (ev_of ?_)
        rw [if_neg (fun z => c3 z.2.1)]
    · simp only [wordsOf_up (show Up p from ⟨h1, c1⟩), wordsOf_not c2, if_true]
      refine ev_neg (by decide) (ev_of ?_)
      rw [if_neg (fun z => c2 z.1.2)]
  · simp only [wordsOf_not c1]
    refine ev_neg (by simp) (ev_of ?_)
    rw [if_neg (fun z => c1 z.1.1)]
theorem specAddF {u d v e : Int} (hu : Up u) (hd : Den d) (hv : Up v) (he : Den e) : Ev (fun k => spec_AddFrac.f k false (u / 18446744073709551616) (u % 18446744073709551616) d false (v / 18446744073709551616) (v % 18446744073709551616) e) (addF u d v e) := by
  unfold spec_AddFrac.f
  refine Ev.bind (specCross hu hd hv he) ?_
  have h1 := up_mul hu he
  have h2 := up_mul hv hd
  have h3 := den_mul hd he
  unfold crossV addF
  generalize u * e = p at *
  generalize v * d = q at *
  by_cases c1 : p < 170141183460469231731687303715884105728
  · by_cases c2 : q < 170141183460469231731687303715884105728
    · have P : Up p := ⟨h1, c1⟩
      have Q : Up q := ⟨h2, c2⟩
      simp only [wordsOf_up P, wordsOf_up Q, if_true]
      refine Ev.bind (specAddW P Q) ?_
      by_cases c3 : p + q < 170141183460469231731687303715884105728
      · have PQ : Up (p + q) := ⟨by omega, c3⟩
        simp only [wordsOf_up PQ, if_true]
        rw [w64 (x := d * e) (by omega) (by omega), specFracOk]
        simp only [Option.bind_some]
        by_cases c4 : d * e ≤ 1000000
        · refine ev_pos (dec_true ⟨wok_up PQ, h3.1, c4⟩) (ev_of ?_)
          rw [if_pos ⟨⟨c1, c2⟩, c3, c4⟩]
        · refine ev_neg (by rw [dec_false (fun z => c4 z.2.2)]; decide) (ev_of ?_)
          rw [if_neg (fun z => c4 z.2.2)]
      · simp only [wordsOf_not c3]
        refine ev_neg (by decide) (ev_of ?_)
        rw [if_neg (fun z => c3 z.2.1)]
    · simp only [wordsOf_up (show Up p from ⟨h1, c1⟩), wordsOf_not c2, if_true]
      refine ev_neg (by decide) (ev_of ?_)
      rw [if_neg (fun z => c2 z.1.2)]
  · simp only [wordsOf_not c1]
    refine ev_neg (by simp) (ev_of ?_)
    rw [if_neg (fun z => c1 z.1.1)]
theorem plainG_eq (n lam : Int) {g : Int} (hg : I64 g) : plainG n g lam = if (0 ≤ n ∧ n ≤ 40) ∧ (1 ≤ lam ∧ lam ≤ 100) then (false, g * g / 18446744073709551616, g * g % 18446744073709551616, n + lam, true) else (false, 0, 0, 0, false) := by
  have hs := sq_room hg
  unfold plainG
  by_cases c : (0 ≤ n ∧ n ≤ 40) ∧ (1 ≤ lam ∧ lam ≤ 100)
  · rw [if_pos c, if_pos c, mulW_norm]
    unfold norm
    rw [absI_up hs.1, decide_eq_false (show ¬ g * g < 0 by omega)]
    unfold fracOf
    rw [if_pos ⟨⟨by simp only; omega, fun z => by simp at z⟩, by omega, by omega⟩]
  · rw [if_neg c, if_neg c]
theorem sq_up {g : Int} (hg : I64 g) : Up (g * g) := by
  have hs := sq_room hg
  exact ⟨hs.1, by omega⟩
/-- The score of a candidate. -/
noncomputable def gainV (n g n' g' lam : Int) : Bool × Int × Int × Int × Bool :=
  if ((0 ≤ n ∧ n ≤ 40) ∧ (1 ≤ lam ∧ lam ≤ 100)) ∧ (0 ≤ n' ∧ n' ≤ 40) then addF (g * g) (n + lam) (g' * g') (n' + lam) else (false, 0, 0, 0, false)
theorem implGainOf (f b n g n' g' lam : Int) (hg : I64 g) (hg' : I64 g') : Ev (fun k => impl_GainOf.f k f b n g n' g' lam) (gainV n g n' g' lam) := by
  unfold impl_GainOf.f gainV
  simp only [implPlainGain n lam hg, implPlainGain n' lam hg', Option.bind_some, plainG_eq n lam hg, plainG_eq n' lam hg']
  by_cases c1 : (0 ≤ n ∧ n ≤ 40) ∧ (1 ≤ lam ∧ lam ≤ 100)
  · by_cases c2 : 0 ≤ n' ∧ n' ≤ 40
    · simp only [if_pos c1, if_pos (show (0 ≤ n' ∧ n' ≤ 40) ∧ (1 ≤ lam ∧ lam ≤ 100) from ⟨c2, c1.2⟩), if_pos (show ((0 ≤ n ∧ n ≤ 40) ∧ (1 ≤ lam ∧ lam ≤ 100)) ∧ (0 ≤ n' ∧ n' ≤ 40) from ⟨c1, c2⟩)]
      refine ev_pos trivial (ev_pos trivial ?_)
      exact Ev.bind (implAddF (sq_up hg) ⟨by omega, by omega⟩ (sq_up hg') ⟨by omega, by omega⟩) (Ev.now _)
    · simp only [if_pos c1, if_neg (show ¬ ((0 ≤ n' ∧ n' ≤ 40) ∧ (1 ≤ lam ∧ lam ≤ 100)) from fun z => c2 z.1), if_neg (show ¬ (((0 ≤ n ∧ n ≤ 40) ∧ (1 ≤ lam ∧ lam ≤ 100)) ∧ (0 ≤ n' ∧ n' ≤ 40)) from fun z => c2 z.2)]
      exact ev_pos trivial (ev_neg (by decide) (Ev.now _))
  · simp only [if_neg c1, if_neg (show ¬ (((0 ≤ n ∧ n ≤ 40) ∧ (1 ≤ lam ∧ lam ≤ 100)) ∧ (0 ≤ n' ∧ n' ≤ 40)) from fun z => c1 z.1)]
    exact ev_neg (by decide) (Ev.now _)
theorem specGainOf (f b n g n' g' lam : Int) (hg : I64 g) (hg' : I64 g') : Ev (fun k => spec_GainOf.f k f b n g n' g' lam) (gainV n g n' g' lam) := by
  unfold spec_GainOf.f gainV
  simp only [specPlainGain n lam hg, specPlainGain n' lam hg', Option.bind_some, plainG_eq n lam hg, plainG_eq n' lam hg']
  by_cases c1 : (0 ≤ n ∧ n ≤ 40) ∧ (1 ≤ lam ∧ lam ≤ 100)
  · by_cases c2 : 0 ≤ n' ∧ n' ≤ 40
    · simp only [if_pos c1, if_pos (show (0 ≤ n' ∧ n' ≤ 40) ∧ (1 ≤ lam ∧ lam ≤ 100) from ⟨c2, c1.2⟩), if_pos (show ((0 ≤ n ∧ n ≤ 40) ∧ (1 ≤ lam ∧ lam ≤ 100)) ∧ (0 ≤ n' ∧ n' ≤ 40) from ⟨c1, c2⟩)]
      refine ev_pos trivial (ev_pos trivial ?_)
      exact Ev.bind (specAddF (sq_up hg) ⟨by omega, by omega⟩ (sq_up hg') ⟨by omega, by omega⟩) (Ev.now _)
    · simp only [if_pos c1, if_neg (show ¬ ((0 ≤ n' ∧ n' ≤ 40) ∧ (1 ≤ lam ∧ lam ≤ 100)) from fun z => c2 z.1), if_neg (show ¬ (((0 ≤ n ∧ n ≤ 40) ∧ (1 ≤ lam ∧ lam ≤ 100)) ∧ (0 ≤ n' ∧ n' ≤ 40)) from fun z => c2 z.2)]
      exact ev_pos trivial (ev_neg (by decide) (Ev.now _))
  · simp only [if_neg c1, if_neg (show ¬ (((0 ≤ n ∧ n ≤ 40) ∧ (1 ≤ lam ∧ lam ≤ 100)) ∧ (0 ≤ n' ∧ n' ≤ 40)) from fun z => c1 z.1)]
    exact ev_neg (by decide) (Ev.now _)
theorem addF_cases {u d v e : Int} (hu : Up u) (hd : Den d) (hv : Up v) (he : Den e) : addF u d v e = (false, 0, 0, 0, false) ∨ (Up (u * e + v * d) ∧ Den (d * e) ∧ addF u d v e = (false, (u * e + v * d) / 18446744073709551616, (u * e + v * d) % 18446744073709551616, d * e, true)) := by
  have h1 := up_mul hu he
  have h2 := up_mul hv hd
  have h3 := den_mul hd he
  unfold addF
  by_cases c : (u * e < 170141183460469231731687303715884105728 ∧ v * d < 170141183460469231731687303715884105728) ∧ u * e + v * d < 170141183460469231731687303715884105728 ∧ d * e ≤ 1000000
  · rw [if_pos c]
    exact .inr ⟨⟨by omega, c.2.1⟩, ⟨h3.1, c.2.2⟩, rfl⟩
  · rw [if_neg c]
    exact .inl rfl
theorem gainV_cases (n g n' g' lam : Int) (hg : I64 g) (hg' : I64 g') : gainV n g n' g' lam = (false, 0, 0, 0, false) ∨ ∃ v d, Up v ∧ Den d ∧ gainV n g n' g' lam = (false, v / 18446744073709551616, v % 18446744073709551616, d, true) := by
  unfold gainV
  by_cases c : ((0 ≤ n ∧ n ≤ 40) ∧ (1 ≤ lam ∧ lam ≤ 100)) ∧ (0 ≤ n' ∧ n' ≤ 40)
  · rw [if_pos c]
    rcases addF_cases (sq_up hg) (show Den (n + lam) from ⟨by omega, by omega⟩) (sq_up hg') (show Den (n' + lam) from ⟨by omega, by omega⟩) with h | ⟨h1, h2, h3⟩
    · exact .inl h
    · exact .inr ⟨_, _, h1, h2, h3⟩
  · rw [if_neg c]
    exact .inl rfl
theorem plainG_cases (n lam : Int) {g : Int} (hg : I64 g) : plainG n g lam = (false, 0, 0, 0, false) ∨ ∃ v d, Up v ∧ Den d ∧ plainG n g lam = (false, v / 18446744073709551616, v % 18446744073709551616, d, true) := by
  rw [plainG_eq n lam hg]
  by_cases c : (0 ≤ n ∧ n ≤ 40) ∧ (1 ≤ lam ∧ lam ≤ 100)
  · rw [if_pos c]
    exact .inr ⟨_, _, sq_up hg, ⟨by omega, by omega⟩, rfl⟩
  · rw [if_neg c]
    exact .inl rfl
theorem cmpU64 (a b : Int) : cmp_Compare_uint64.f a b = some (if a < b then -1 else if a > b then 1 else 0) := by
  unfold cmp_Compare_uint64.f cmp_isNaN_uint64.f
  simp only [Option.bind_some, bne_self_eq_false, Bool.false_eq_true, if_false]
  split
  · rfl
  · split <;> rfl
theorem implSizes (s t : Bool) (u v : Int) : Ev (fun k => impl_compareSizes.f k s (u / 18446744073709551616) (u % 18446744073709551616) t (v / 18446744073709551616) (v % 18446744073709551616)) (ord u v) := by
  unfold impl_compareSizes.f
  simp only [cmpU64, Option.bind_some]
  refine ev_eq (Ev.bind (cmpOr2 _ _) (Ev.now _)) ?_
  unfold ord
  by_cases a : u / 18446744073709551616 < v / 18446744073709551616
  · rw [if_pos a, if_neg (by decide), if_pos (by omega)]
  · rw [if_neg a]
    by_cases b : u / 18446744073709551616 > v / 18446744073709551616
    · rw [if_pos b, if_neg (by decide), if_neg (by omega), if_neg (by omega)]
    · rw [if_neg b, if_pos rfl]
      by_cases c : u % 18446744073709551616 < v % 18446744073709551616
      · rw [if_pos c, if_pos (by omega)]
      · rw [if_neg c]
        by_cases d : u % 18446744073709551616 > v % 18446744073709551616
        · rw [if_pos d, if_neg (by omega), if_neg (by omega)]
        · rw [if_neg d, if_neg (by omega), if_pos (by omega)]
theorem specOrder (s t : Bool) (u v : Int) : Ev (fun k => spec_l3Order.f k s (u / 18446744073709551616) (u % 18446744073709551616) t (v / 18446744073709551616) (v % 18446744073709551616)) (ord u v) := by
  unfold spec_l3Order.f
  have less : ∀ h : u < v, Ev (fun k => spec_l3Order.j0 k true s (u / 18446744073709551616) (u % 18446744073709551616) t (v / 18446744073709551616) (v % 18446744073709551616)) (ord u v) := fun h => ev_end fun k => by
    simp only [spec_l3Order.j0]
    unfold ord
    rw [if_pos trivial, if_pos h]
  have rest : ∀ h : ¬ u < v, Ev (fun k => spec_l3Order.j0 k false s (u / 18446744073709551616) (u % 18446744073709551616) t (v / 18446744073709551616) (v % 18446744073709551616)) (ord u v) := fun h => ev_end fun k => by
    simp only [spec_l3Order.j0]
    unfold ord
    rw [if_neg (by decide), if_neg h]
    by_cases c : u / 18446744073709551616 > v / 18446744073709551616
    · rw [if_pos c, if_neg (by omega)]
    · rw [if_neg c]
      by_cases d : u % 18446744073709551616 > v % 18446744073709551616
      · rw [if_pos d, if_neg (by omega)]
      · rw [if_neg d, if_pos (by omega)]
  by_cases a : u / 18446744073709551616 < v / 18446744073709551616
  · exact ev_pos a (less (by omega))
  · refine ev_neg a ?_
    by_cases b : u / 18446744073709551616 = v / 18446744073709551616
    · refine ev_pos b ?_
      by_cases c : u % 18446744073709551616 < v % 18446744073709551616
      · rw [decide_eq_true c]; exact less (by omega)
      · rw [decide_eq_false c]; exact rest (by omega)
    · exact ev_neg b (rest (by omega))
theorem implCmpW {u v : Int} (hu : Up u) (hv : Up v) : Ev (fun k => impl_CompareWide.f k false (u / 18446744073709551616) (u % 18446744073709551616) false (v / 18446744073709551616) (v % 18446744073709551616)) (ord u v) := by
  unfold Up at hu hv
  unfold impl_CompareWide.f
  rw [implWideOf _ (by omega) (by omega), implWideOf _ (by omega) (by omega)]
  simp only [Option.bind_some, Bool.false_and]
  refine ev_neg (by decide) (ev_succ ?_)
  simp only [impl_CompareWide.j0]
  refine ev_neg (by decide) (ev_neg (by decide) (ev_succ ?_))
  simp only [impl_CompareWide.j1]
  exact ev_neg (by decide) (ev_neg (by decide) (Ev.bind (implSizes false false u v) (Ev.now _)))
theorem specCmpW (u v : Int) : Ev (fun k => spec_CompareWide.f k false (u / 18446744073709551616) (u % 18446744073709551616) false (v / 18446744073709551616) (v % 18446744073709551616)) (ord u v) := by
  unfold spec_CompareWide.f
  refine ev_neg (by decide) (ev_succ ?_)
  simp only [spec_CompareWide.j0]
  refine ev_neg (by decide) (ev_succ ?_)
  simp only [spec_CompareWide.j1]
  refine ev_neg (by decide) (ev_succ ?_)
  simp only [spec_CompareWide.j2]
  refine ev_neg (by decide) (ev_neg (by decide) (ev_succ ?_))
  simp only [spec_CompareWide.j3]
  exact ev_neg (by decide) (ev_neg (by decide) (Ev.bind (specOrder false false u v) (Ev.now _)))
theorem implCmpF {u d v e : Int} (hu : Up u) (hd : Den d) (hv : Up v) (he : Den e) : Ev (fun k => impl_CompareFrac.f k false (u / 18446744073709551616) (u % 18446744073709551616) d false (v / 18446744073709551616) (v % 18446744073709551616) e) (cmpF u d v e) := by
  unfold impl_CompareFrac.f
  refine Ev.bind (implCross hu hd hv he) ?_
  have h1 := up_mul hu he
  have h2 := up_mul hv hd
  unfold crossV cmpF
  generalize u * e = p at *
  generalize v * d = q at *
  by_cases c1 : p < 170141183460469231731687303715884105728
  · by_cases c2 : q < 170141183460469231731687303715884105728
    · have P : Up p := ⟨h1, c1⟩
      have Q : Up q := ⟨h2, c2⟩
      simp only [wordsOf_up P, wordsOf_up Q, if_true]
      refine Ev.bind (implCmpW P Q) (ev_of ?_)
      rw [if_pos ⟨c1, c2⟩]
    · simp only [wordsOf_up (show Up p from ⟨h1, c1⟩), wordsOf_not c2, if_true]
      refine ev_neg (by decide) (ev_of ?_)
      rw [if_neg (fun z => c2 z.2)]
  · simp only [wordsOf_not c1]
    refine ev_neg (by simp) (ev_of ?_)
    rw [if_neg (fun z => c1 z.1)]
theorem specCmpF {u d v e : Int} (hu : Up u) (hd : Den d) (hv : Up v) (he : Den e) : Ev (fun k => spec_CompareFrac.f k false (u / 18446744073709551616) (u % 18446744073709551616) d false (v / 18446744073709551616) (v % 18446744073709551616) e) (cmpF u d v e) := by
  unfold spec_CompareFrac.f
  refine Ev.bind (specCross hu hd hv he) ?_
  have h1 := up_mul hu he
  have h2 := up_mul hv hd
  unfold crossV cmpF
  generalize u * e = p at *
  generalize v * d = q at *
  by_cases c1 : p < 170141183460469231731687303715884105728
  · by_cases c2 : q < 170141183460469231731687303715884105728
    · have P : Up p := ⟨h1, c1⟩
      have Q : Up q := ⟨h2, c2⟩
      simp only [wordsOf_up P, wordsOf_up Q, if_true]
      refine Ev.bind (specCmpW p q) (ev_of ?_)
      rw [if_pos ⟨c1, c2⟩]
    · simp only [wordsOf_up (show Up p from ⟨h1, c1⟩), wordsOf_not c2, if_true]
      refine ev_neg (by decide) (ev_of ?_)
      rw [if_neg (fun z => c2 z.2)]
  · simp only [wordsOf_not c1]
    refine ev_neg (by simp) (ev_of ?_)
    rw [if_neg (fun z => c1 z.1)]
theorem cross_stop (s : Bool) (h l d : Int) (t : Bool) (h' l' d' : Int) : Ev (fun k => impl_crossed.j0 k true s h l d t h' l' d') (false, 0, 0, false, 0, 0, false) := ev_end fun k => by
  simp only [impl_crossed.j0]
  rw [if_pos trivial]
theorem not_fok (s : Bool) (h l : Int) : ¬ FOk s h l 0 := fun z => by have := z.2.1; omega
/-- With no fraction there is no order. -/
theorem implCmp_left (t : Bool) (h l d : Int) : Ev (fun k => impl_CompareFrac.f k false 0 0 0 t h l d) (0, false) := by
  unfold impl_CompareFrac.f
  refine Ev.bind (a := (false, 0, 0, false, 0, 0, false)) ?_ (ev_neg (by decide) (Ev.now _))
  unfold impl_crossed.f
  simp only [implFracOk, Option.bind_some]
  exact ev_neg (by rw [dec_false (not_fok _ _ _)]; decide) (cross_stop _ _ _ _ _ _ _ _)
theorem implCmp_right (t : Bool) (h l d : Int) : Ev (fun k => impl_CompareFrac.f k t h l d false 0 0 0) (0, false) := by
  unfold impl_CompareFrac.f
  refine Ev.bind (a := (false, 0, 0, false, 0, 0, false)) ?_ (ev_neg (by decide) (Ev.now _))
  unfold impl_crossed.f
  simp only [implFracOk, Option.bind_some]
  by_cases c : FOk t h l d
  · refine ev_pos (dec_true c) ?_
    rw [dec_false (not_fok _ _ _)]
    exact cross_stop _ _ _ _ _ _ _ _
  · exact ev_neg (by rw [dec_false c]; decide) (cross_stop _ _ _ _ _ _ _ _)
theorem specCandLess (f b n g n' g' f' b' m h m' h' : Int) : spec_CandLess.f f b n g n' g' f' b' m h m' h' = some (dec (LessPair f b f' b')) := by
  unfold spec_CandLess.f
  by_cases h1 : f < f'
  · rw [if_pos h1, dec_true (.inl h1)]
  · rw [if_neg h1]
    by_cases h2 : f = f'
    · rw [if_pos h2, ← dec_eq]
      congr 1
      exact dec_congr ⟨fun z => .inr ⟨h2, z⟩, fun z => z.elim (fun y => absurd y h1) (fun y => y.2)⟩
    · rw [if_neg h2, dec_false]
      exact fun z => z.elim h1 (fun y => h2 y.1)
theorem better_stop (a b c d e f a' b' c' d' e' f' : Int) (s : Bool) (h l m : Int) (s' : Bool) (h' l' m' : Int) : Ev (fun k => spec_Better.j0 k true a b c d e f a' b' c' d' e' f' s h l m s' h' l' m') false := ev_end fun k => by
  simp only [spec_Better.j0]
  rw [if_pos trivial]
theorem better_both (a b n g n' g' a' b' m h m' h' lam : Int) (hg : I64 g) (hg' : I64 g') (hh : I64 h) (hh' : I64 h') :
    ∃ r, Ev (fun k => impl_Better.f k a b n g n' g' a' b' m h m' h' lam) r ∧ Ev (fun k => spec_Better.f k a b n g n' g' a' b' m h m' h' lam) r ∧
      (r = true → ∃ u d v e, Up u ∧ Den d ∧ Up v ∧ Den e ∧ gainV n g n' g' lam = (false, u / 18446744073709551616, u % 18446744073709551616, d, true) ∧ gainV m h m' h' lam = (false, v / 18446744073709551616, v % 18446744073709551616, e, true) ∧ (cmpF u d v e).2 = true ∧ ((cmpF u d v e).1 > 0 ∨ (cmpF u d v e).1 = 0 ∧ LessPair a b a' b')) := by
  have i1 := implGainOf a b n g n' g' lam hg hg'
  have s1 := specGainOf a b n g n' g' lam hg hg'
  have i2 := implGainOf a' b' m h m' h' lam hh hh'
  have s2 := specGainOf a' b' m h m' h' lam hh hh'
  unfold impl_Better.f spec_Better.f
  rcases gainV_cases n g n' g' lam hg hg' with x | ⟨u, d, hu, hd, x⟩
  · rw [x] at i1 s1
    refine ⟨false, Ev.bind i1 (Ev.bind i2 (Ev.bind (implCmp_left _ _ _ _) (ev_neg (by decide) (Ev.now _)))), Ev.bind s1 (Ev.bind s2 (ev_neg (by decide) (better_stop _ _ _ _ _ _ _ _ _ _ _ _ _ _ _ _ _ _ _ _))), fun z => by simp at z⟩
  rw [x] at i1 s1
  rcases gainV_cases m h m' h' lam hh hh' with y | ⟨v, e, hv, he, y⟩
  · rw [y] at i2 s2
    refine ⟨false, Ev.bind i1 (Ev.bind i2 (Ev.bind (implCmp_right _ _ _ _) (ev_pos rfl (ev_neg (by decide) (Ev.now _))))), Ev.bind s1 (Ev.bind s2 (ev_pos rfl (better_stop _ _ _ _ _ _ _ _ _ _ _ _ _ _ _ _ _ _ _ _))), fun z => by simp at z⟩
  rw [y] at i2 s2
  have ci := implCmpF hu hd hv he
  have cs := specCmpF hu hd hv he
  have li := implCandLess a b n g n' g' a' b' m h m' h'
  have ls := specCandLess a b n g n' g' a' b' m h m' h'
  refine ⟨if (cmpF u d v e).2 = true then (if (cmpF u d v e).1 > 0 then true else if (cmpF u d v e).1 = 0 then dec (LessPair a b a' b') else false) else false, Ev.bind i1 (Ev.bind i2 (Ev.bind ci (ev_pos rfl (ev_pos rfl ?_)))), Ev.bind s1 (Ev.bind s2 (ev_pos rfl (ev_succ ?_))), ?_⟩
  · by_cases c : (cmpF u d v e).2 = true
    · refine ev_pos c ?_
      rw [if_pos c]
      by_cases c1 : (cmpF u d v e).1 > 0
      · refine ev_pos c1 ?_
        rw [if_pos c1]
        exact Ev.now _
      · refine ev_neg c1 ?_
        rw [if_neg c1]
        by_cases c2 : (cmpF u d v e).1 = 0
        · refine ev_pos c2 ?_
          rw [if_pos c2]
          exact Ev.bind li (Ev.now _)
        · refine ev_neg c2 ?_
          rw [if_neg c2]
          exact Ev.now _
    · refine ev_neg c ?_
      rw [if_neg c]
      exact Ev.now _
  · simp only [spec_Better.j0]
    refine ev_neg (by decide) (Ev.bind cs ?_)
    by_cases c : (cmpF u d v e).2 = true
    · refine ev_pos c ?_
      rw [if_pos c]
      by_cases c1 : (cmpF u d v e).1 > 0
      · refine ev_pos c1 ?_
        rw [if_pos c1]
        exact Ev.now _
      · refine ev_neg c1 ?_
        rw [if_neg c1]
        by_cases c2 : (cmpF u d v e).1 = 0
        · refine ev_pos c2 ?_
          rw [if_pos c2]
          rw [ls]
          exact Ev.now _
        · refine ev_neg c2 ?_
          rw [if_neg c2]
          exact Ev.now _
    · refine ev_neg c ?_
      rw [if_neg c]
      exact Ev.now _
  · intro z
    by_cases c : (cmpF u d v e).2 = true
    · rw [if_pos c] at z
      refine ⟨u, d, v, e, hu, hd, hv, he, x, y, c, ?_⟩
      by_cases c1 : (cmpF u d v e).1 > 0
      · exact .inl c1
      · rw [if_neg c1] at z
        by_cases c2 : (cmpF u d v e).1 = 0
        · rw [if_pos c2] at z
          exact .inr ⟨c2, dec_iff.1 z⟩
        · rw [if_neg c2] at z
          simp at z
    · rw [if_neg c] at z
      simp at z
theorem better_asym {a b n g n' g' a' b' m h m' h' lam : Int} {r s : Prop}
    (hr : r → ∃ u d v e, Up u ∧ Den d ∧ Up v ∧ Den e ∧ gainV n g n' g' lam = (false, u / 18446744073709551616, u % 18446744073709551616, d, true) ∧ gainV m h m' h' lam = (false, v / 18446744073709551616, v % 18446744073709551616, e, true) ∧ (cmpF u d v e).2 = true ∧ ((cmpF u d v e).1 > 0 ∨ (cmpF u d v e).1 = 0 ∧ LessPair a b a' b'))
    (hs : s → ∃ u d v e, Up u ∧ Den d ∧ Up v ∧ Den e ∧ gainV m h m' h' lam = (false, u / 18446744073709551616, u % 18446744073709551616, d, true) ∧ gainV n g n' g' lam = (false, v / 18446744073709551616, v % 18446744073709551616, e, true) ∧ (cmpF u d v e).2 = true ∧ ((cmpF u d v e).1 > 0 ∨ (cmpF u d v e).1 = 0 ∧ LessPair a' b' a b)) : ¬ (r ∧ s) := by
  intro ⟨zr, zs⟩
  obtain ⟨u, d, v, e, hu, hd, hv, he, x, y, c, o⟩ := hr zr
  obtain ⟨v', e', u', d', hv', he', hu', hd', y', x', c', o'⟩ := hs zs
  rw [x] at x'
  rw [y] at y'
  simp only [Prod.mk.injEq, true_and, and_true] at x' y'
  have eu : u' = u := by omega
  have ev : v' = v := by omega
  have ed : d' = d := by omega
  have ee : e' = e := by omega
  subst eu ev ed ee
  unfold cmpF at c c' o o'
  split at c
  · rename_i k
    rw [if_pos k] at o
    rw [if_pos ⟨k.2, k.1⟩] at o'
    unfold ord LessPair at o o'
    simp only at o o'
    generalize u' * e' = p at *
    generalize v' * d' = q at *
    split at o <;> (try split at o) <;> split at o' <;> (try split at o') <;> omega
  · simp at c

theorem FnBetter : laws_FnBetter.Pure := by
  intro l hm hl hw
  refine Ev.rounds ?_
  unfold laws_FnBetter.f
  rw [lawsBig]
  simp only [Option.bind_some]
  by_cases hb : (l.length : Int) > 1048576
  · exact ev_pos (by simpa using hb) (Ev.now _)
  refine ev_neg (by simpa using hb) ?_
  obtain ⟨a, b, n, g, n', g', a', b', m, p, m', p', lam, e, k1, k2, k3, k4⟩ := drawBetter l (by omega)
  obtain ⟨x, ix, sx, hx⟩ := better_both a b n g n' g' a' b' m p m' p' lam k1 k2 k3 k4
  obtain ⟨y, iy, sy, hy⟩ := better_both a' b' m p m' p' a b n g n' g' lam k3 k4 k1 k2
  obtain ⟨z, iz, _, hz⟩ := better_both a b n g n' g' a b n g n' g' lam k1 k2 k1 k2
  have h1 : ¬ (x = true ∧ y = true) := better_asym hx hy
  have h2 : z = false := by
    rw [Bool.eq_false_iff]
    exact fun w => better_asym hz hz ⟨w, w⟩
  subst h2
  refine Ev.bind e (Ev.bind ix (Ev.bind iy (Ev.bind sx (ev_neg (by simp) (Ev.bind sy (ev_neg (by simp) ?_))))))
  by_cases c : x = true
  · exact ev_pos c (ev_neg (fun d => h1 ⟨c, d⟩) (Ev.bind iz (Ev.now _)))
  · exact ev_neg c (Ev.bind iz (Ev.now _))

end Go.Proofs.Ytlflcgdcegohjaa.Pure
