/- impl.MayPart returns what spec.MayPart returns and leaves its arguments as they were, for all arguments. Conditions: none but the row's own.
-/
import Derived.Test.YtaepeajaefpooaaQFnExactMayPartx15
set_option linter.unusedVariables false
set_option linter.unusedSimpArgs false
namespace Go.Proofs.Ytaepeajaefpooaa.Pure
open Go.RowKit Go.Proofs.Ytaepeajaefpooaa.QFnExactMayPart Go.Proofs.YtaepeajaefpooaaW.PrintWords Go.Proofs.YtaepeajaefpooaaW.PrintLast Go.Proofs.YtaepeajaefpooaaW.PrintMore

theorem w64 {x : Int} (h1 : -9223372036854775808 ≤ x) (h2 : x ≤ 9223372036854775807) : wrap64 x = x := by unfold wrap64; omega
theorem i64_wf {x : Int} (h : (Lit.int .i64 x).wf = true) : -9223372036854775808 ≤ x ∧ x ≤ 9223372036854775807 := by
  simpa [Lit.wf, IntKind.min, IntKind.max, IntKind.signed, IntKind.bits] using h
theorem u8_wf {x : Int} (h : (Lit.int .u8 x).wf = true) : 0 ≤ x ∧ x ≤ 255 := by
  simpa [Lit.wf, IntKind.min, IntKind.max, IntKind.signed, IntKind.bits] using h
theorem rd_eq {xs : List Int} {i : Int} (h0 : 0 ≤ i) (h : i < (xs.length : Int)) : xs[i.toNat]? = some (rd xs i) := by
  unfold rd
  rw [List.getD_eq_getElem?_getD, List.getElem?_eq_getElem (by omega)]
  rfl
theorem rd_mem {xs : List Int} {i : Int} (h0 : 0 ≤ i) (h : i < (xs.length : Int)) : rd xs i ∈ xs := List.mem_of_getElem? (rd_eq h0 h)
theorem rd_of {xs : List Int} {n : Nat} {v : Int} (h : xs[n]? = some v) : rd xs (n : Int) = v := by
  unfold rd
  rw [List.getD_eq_getElem?_getD, Int.toNat_natCast, h]
  rfl
theorem ev_of {α : Type} {r : α} {p : Option α} (h : p = some r) : Ev (fun _ => p) r := ⟨0, fun _ _ => h⟩
theorem ev_end {α : Type} {g : Nat → Option α} {r : α} (h : ∀ k, g (k + 1) = some r) : Ev g r := Ev.step (f := fun _ => some r) h (Ev.now r)
theorem ev_pos {α : Type} {c : Prop} [Decidable c] {f g : Nat → Option α} {r : α} (hc : c) (h : Ev f r) : Ev (fun k => if c then f k else g k) r := Ev.congr (fun _ => if_pos hc) h
theorem ev_neg {α : Type} {c : Prop} [Decidable c] {f g : Nat → Option α} {r : α} (hc : ¬ c) (h : Ev g r) : Ev (fun k => if c then f k else g k) r := Ev.congr (fun _ => if_neg hc) h
theorem rd_drop {xs : List Int} {n : Nat} (h : n < xs.length) : xs.drop n = rd xs (n : Int) :: xs.drop (n + 1) := by
  rw [List.drop_eq_getElem_cons h]
  congr 1
  unfold rd
  rw [List.getD_eq_getElem?_getD, Int.toNat_natCast, List.getElem?_eq_getElem h]
  rfl
noncomputable def dec (p : Prop) : Bool := @decide p (Classical.propDecidable p)
theorem dec_true {p : Prop} (h : p) : dec p = true := @decide_eq_true p (Classical.propDecidable p) h
theorem dec_false {p : Prop} (h : ¬ p) : dec p = false := @decide_eq_false p (Classical.propDecidable p) h
theorem dec_iff {p : Prop} : dec p = true ↔ p := @decide_eq_true_iff p (Classical.propDecidable p)
theorem dec_congr {p q : Prop} (h : p ↔ q) : dec p = dec q := by rw [propext h]
theorem dec_eq {p : Prop} [Decidable p] : dec p = decide p := by
  by_cases h : p
  · rw [dec_true h, decide_eq_true h]
  · rw [dec_false h, decide_eq_false h]
theorem ev_succ {α : Type} {g : Nat → Option α} {r : α} (h : Ev (fun k => g (k + 1)) r) : Ev g r := by
  obtain ⟨K, h⟩ := h
  refine ⟨K + 1, fun n hn => ?_⟩
  obtain ⟨m, rfl⟩ : ∃ m, n = m + 1 := ⟨n - 1, by omega⟩
  exact h m (by omega)
theorem ev_eq {α : Type} {g : Nat → Option α} {r r' : α} (h : Ev g r) (e : r = r') : Ev g r' := e ▸ h
theorem gd_eq {α : Type} (z : α) {xs : List α} {i : Int} (h0 : 0 ≤ i) (h : i < (xs.length : Int)) : xs[i.toNat]? = some (xs.getD i.toNat z) := by
  rw [List.getD_eq_getElem?_getD, List.getElem?_eq_getElem (by omega)]
  rfl
theorem gd_nat {α : Type} (z : α) {xs : List α} {n : Nat} {v : α} (h : xs[n]? = some v) : xs.getD ((n : Int)).toNat z = v := by
  rw [List.getD_eq_getElem?_getD, Int.toNat_natCast, h]
  rfl
theorem gd_drop {α : Type} (z : α) {xs : List α} {n : Nat} (h : n < xs.length) : xs.drop n = xs.getD ((n : Int)).toNat z :: xs.drop (n + 1) := by
  rw [List.drop_eq_getElem_cons h]
  congr 1
  exact (gd_nat z (List.getElem?_eq_getElem h)).symm
/-- A loop that copies: place after place is set. -/
theorem copy_loop {α β : Type} (F : Nat → List β → Int → Option (List β)) (l : List α) (g : α → β)
    (hend : ∀ acc : List β, acc.length = l.length → Ev (fun k => F k acc (l.length : Int)) acc)
    (hstep : ∀ (acc : List β) (n : Nat) (x : α) (r : List β), n < l.length → acc.length = l.length → l[n]? = some x → Ev (fun k => F k (acc.set n (g x)) ((n + 1 : Nat) : Int)) r → Ev (fun k => F k acc (n : Int)) r) :
    ∀ (d n : Nat) (acc : List β), n + d = l.length → acc.length = l.length → (∀ j, j < n → acc[j]? = (l.map g)[j]?) → Ev (fun k => F k acc (n : Int)) (l.map g) := by
  intro d
  induction d with
  | zero =>
    intro n acc hn ha hp
    obtain rfl : n = l.length := by omega
    refine ev_eq (hend acc ha) (List.ext_getElem? fun j => ?_)
    by_cases h : j < l.length
    · exact hp j h
    · rw [List.getElem?_eq_none (by omega), List.getElem?_eq_none (by simp; omega)]
  | succ d ih =>
    intro n acc hn ha hp
    have hx : l[n]? = some l[n] := List.getElem?_eq_getElem (by omega)
    refine hstep acc n l[n] _ (by omega) ha hx (ih (n + 1) _ (by omega) (by simpa using ha) ?_)
    intro j hj
    rw [List.getElem?_set]
    by_cases h : n = j
    · subst h
      rw [if_pos rfl, if_pos (by omega), List.getElem?_map, hx]
      rfl
    · rw [if_neg h]
      exact hp j (by omega)
/-- A loop that tests place after place. -/
theorem all_loop (F : Nat → Int → Option Bool) (L : Nat) (p : Nat → Prop) (hend : Ev (fun k => F k (L : Int)) true)
    (hyes : ∀ (n : Nat) (r : Bool), n < L → p n → Ev (fun k => F k ((n + 1 : Nat) : Int)) r → Ev (fun k => F k (n : Int)) r)
    (hno : ∀ n : Nat, n < L → ¬ p n → Ev (fun k => F k (n : Int)) false) :
    ∀ (d n : Nat), n + d = L → Ev (fun k => F k (n : Int)) (dec (∀ j, n ≤ j → j < L → p j)) := by
  intro d
  induction d with
  | zero =>
    intro n hn
    obtain rfl : n = L := by omega
    exact ev_eq hend (dec_true (fun j h1 h2 => by omega)).symm
  | succ d ih =>
    intro n hn
    by_cases h : p n
    · refine hyes n _ (by omega) h (ev_eq (ih (n + 1) (by omega)) (dec_congr ⟨fun g j h1 h2 => ?_, fun g j h1 h2 => g j (by omega) h2⟩))
      by_cases e : j = n
      · exact e ▸ h
      · exact g j (by omega) h2
    · exact ev_eq (hno n (by omega) h) (dec_false (fun g => h (g n (Nat.le_refl _) (by omega)))).symm
/-- A loop that goes round L times over a state. -/
theorem fold_loop {σ ρ : Type} (F : Nat → σ → Int → Option ρ) (L : Nat) (S : Nat → σ) (r : ρ) (hend : Ev (fun k => F k (S L) (L : Int)) r)
    (hstep : ∀ n : Nat, n < L → Ev (fun k => F k (S (n + 1)) ((n + 1 : Nat) : Int)) r → Ev (fun k => F k (S n) (n : Int)) r) :
    ∀ (d n : Nat), n + d = L → Ev (fun k => F k (S n) (n : Int)) r := by
  intro d
  induction d with
  | zero =>
    intro n hn
    obtain rfl : n = L := by omega
    exact hend
  | succ d ih =>
    intro n hn
    exact hstep n (by omega) (ih (n + 1) (by omega))
theorem set_mid {α : Type} (a b : List α) (x v : α) {n : Nat} (h : a.length = n) : (a ++ x :: b).set n v = a ++ v :: b := by
  subst h
  rw [List.set_append_right _ _ (Nat.le_refl _), Nat.sub_self]
  rfl
theorem get_mid {α : Type} (a b : List α) (x : α) {n : Nat} (h : a.length = n) : (a ++ x :: b)[n]? = some x := by
  subst h
  rw [List.getElem?_append_right (Nat.le_refl _), Nat.sub_self]
  rfl
/-- A loop that tests place after place, and one thing more at its end. -/
theorem all_loop2 (F : Nat → Int → Option Bool) (L : Nat) (p : Nat → Prop) (E : Prop) (hend : Ev (fun k => F k (L : Int)) (dec E))
    (hyes : ∀ (n : Nat) (r : Bool), n < L → p n → Ev (fun k => F k ((n + 1 : Nat) : Int)) r → Ev (fun k => F k (n : Int)) r)
    (hno : ∀ n : Nat, n < L → ¬ p n → Ev (fun k => F k (n : Int)) false) :
    ∀ (d n : Nat), n + d = L → Ev (fun k => F k (n : Int)) (dec ((∀ j, n ≤ j → j < L → p j) ∧ E)) := by
  intro d
  induction d with
  | zero =>
    intro n hn
    obtain rfl : n = L := by omega
    exact ev_eq hend (dec_congr ⟨fun h => ⟨fun j h1 h2 => by omega, h⟩, fun h => h.2⟩)
  | succ d ih =>
    intro n hn
    by_cases h : p n
    · refine hyes n _ (by omega) h (ev_eq (ih (n + 1) (by omega)) (dec_congr ⟨fun g => ⟨fun j h1 h2 => ?_, g.2⟩, fun g => ⟨fun j h1 h2 => g.1 j (by omega) h2, g.2⟩⟩))
      by_cases e : j = n
      · exact e ▸ h
      · exact g.1 j (by omega) h2
    · exact ev_eq (hno n (by omega) h) (dec_false (fun g => h (g.1 n (Nat.le_refl _) (by omega)))).symm
theorem szIntS (l : List Int) (a : Int) (h0 : 0 ≤ a) (h1 : a ≤ 1048576) (hl : l.length ≤ maxLen) : laws_szIntS.f l a = some (if a < l.length then -1 else a - l.length) := by
  unfold maxLen at hl
  unfold laws_szIntS.f
  rw [w64 (by omega) (by omega)]
  by_cases h : a < l.length
  · rw [if_pos (by omega), if_pos h]
  · rw [if_neg (by omega), if_neg h]
theorem toIntS_l0 (l : List Int) (hl : l.length ≤ 35184372088832) : ∀ (d n : Nat) (acc : List Int), n + d = l.length → acc.length = l.length → (∀ j, j < n → acc[j]? = l[j]?) → Ev (fun k => laws_toIntS.l0 k l acc (n : Int)) l := by
  intro d
  induction d with
  | zero =>
    intro n acc hn ha hp
    refine ev_end fun k => ?_
    simp only [laws_toIntS.l0]
    rw [if_neg (by omega)]
    congr 1
    exact List.ext_getElem? fun j => by
      by_cases h : j < n
      · exact hp j h
      · rw [List.getElem?_eq_none (by omega), List.getElem?_eq_none (by omega)]
  | succ d ih =>
    intro n acc hn ha hp
    refine Ev.step (fun k => ?_) (ih (n + 1) (acc.set n (rd l n)) (by omega) (by simpa using ha) ?_)
    · simp only [laws_toIntS.l0]
      rw [if_pos (by omega), if_pos (by omega), if_pos (by omega), w64 (by omega) (by omega)]
      rfl
    intro j hj
    rw [List.getElem?_set]
    by_cases h : j = n
    · subst h
      rw [if_pos (by omega), if_pos (by omega), ← rd_eq (by omega) (by omega)]
      simp
    · rw [if_neg (by omega)]
      exact hp j (by omega)
theorem toIntS (l : List Int) (hl : l.length ≤ 35184372088832) : Ev (fun k => laws_toIntS.f k l) l := by
  refine Ev.congr (fun k => ?_) (toIntS_l0 l hl l.length 0 (List.replicate l.length 0) (by omega) (by simp) (fun j h => by omega))
  unfold laws_toIntS.f
  rw [if_pos (by omega), if_pos (by omega)]
  rfl
theorem eqIntS_l0 (l : List Int) (hl : l.length ≤ 35184372088832) : ∀ (d n : Nat), n + d = l.length → Ev (fun k => laws_eqIntS.l0 k l l (n : Int)) true := by
  intro d
  induction d with
  | zero =>
    intro n hn
    refine ev_end fun k => ?_
    simp only [laws_eqIntS.l0]
    rw [if_neg (by omega)]
  | succ d ih =>
    intro n hn
    refine Ev.step (fun k => ?_) (ih (n + 1) (by omega))
    simp only [laws_eqIntS.l0]
    rw [if_pos (by omega), if_pos (by omega), if_pos (by omega), if_pos trivial, w64 (by omega) (by omega)]
    rfl
theorem eqIntS (l : List Int) (hl : l.length ≤ 35184372088832) : Ev (fun k => laws_eqIntS.f k l l) true := by
  refine Ev.congr (fun k => ?_) (eqIntS_l0 l hl l.length 0 (by omega))
  unfold laws_eqIntS.f
  rw [if_pos rfl]
  rfl
theorem szConfig (a b c d e f g : Int) (l : List Int) (n : Int) (h0 : 0 ≤ n) (h1 : n ≤ 1048576) (hl : l.length ≤ maxLen) : laws_szConfig.f a b c d e f g l n = some (if n < l.length then -1 else n - l.length) := by
  unfold laws_szConfig.f
  rw [szIntS l n h0 h1 hl]
  simp only [Option.bind_some]
  by_cases h : n < l.length
  · rw [if_pos h, if_pos (by omega)]
  · rw [if_neg h, if_neg (by omega)]
theorem toConfig (a b c d e f g : Int) (l : List Int) (hl : l.length ≤ 1048576) : Ev (fun k => laws_toConfig.f k a b c d e f g l) (a, b, c, d, e, f, g, l) := by
  unfold laws_toConfig.f
  exact Ev.bind (toIntS l (by omega)) (Ev.now _)
theorem eqConfig (a b c d e f g : Int) (l : List Int) (hl : l.length ≤ 1048576) : Ev (fun k => laws_eqConfig.f k a b c d e f g l a b c d e f g l) true := by
  unfold laws_eqConfig.f
  exact ev_pos rfl (ev_pos rfl (ev_pos rfl (ev_pos rfl (ev_pos rfl (ev_pos rfl (ev_pos rfl (Ev.bind (eqIntS l (by omega)) (ev_pos rfl (Ev.now _)))))))))
open Classical in
/-- A quotient rounded down, and true; 0 and false where there is none. -/
noncomputable def floorV (a b : Int) : Int × Bool :=
  if b = 0 ∨ b = -1 ∧ a = -9223372036854775808 then (0, false) else if Int.tmod a b = 0 then (wrap64 (Int.tdiv a b), true) else if ((decide (a < 0)) != (decide (b < 0))) = true then (wrap64 (wrap64 (Int.tdiv a b) - 1), true) else (wrap64 (Int.tdiv a b), true)
def brought (x a b : Int) : Int := if x < a then a else if x > b then b else x
def BndOk (a b : Int) : Prop := a ≤ b ∧ (-1099511627776 ≤ a ∧ a ≤ 1099511627776) ∧ (-1099511627776 ≤ b ∧ b ≤ 1099511627776)
def LeafOk (n lam lo hi : Int) : Prop := (0 ≤ n ∧ n ≤ 40) ∧ (1 ≤ lam ∧ lam ≤ 100) ∧ BndOk lo hi
open Classical in
/-- The value of a leaf, and true; 0 and false where there is none. -/
noncomputable def leafV (n g lam lo hi : Int) : Int × Bool := if LeafOk n lam lo hi then (brought (floorV g (wrap64 (n + lam))).1 lo hi, true) else (0, false)
theorem implFloor_j0 (a b : Int) (t : Bool) (h : t = true ↔ (b = 0 ∨ b = -1 ∧ a = -9223372036854775808)) : Ev (fun k => impl_FloorDiv.j0 k a b t) (floorV a b) := by
  refine ev_end fun k => ?_
  simp only [impl_FloorDiv.j0]
  unfold floorV
  by_cases h0 : b = 0 ∨ b = -1 ∧ a = -9223372036854775808
  · rw [if_pos (h.2 h0), if_pos h0]
  · rw [if_neg (fun z => h0 (h.1 z)), if_neg h0, if_neg (fun z => h0 (.inl z))]
    by_cases h1 : Int.tmod a b = 0
    · rw [if_pos h1, if_pos h1]
    · rw [if_neg h1, if_neg h1]
      split
      · rfl
      · rfl
theorem implFloor (a b : Int) : Ev (fun k => impl_FloorDiv.f k a b) (floorV a b) := by
  unfold impl_FloorDiv.f
  by_cases h0 : b = 0
  · exact ev_pos h0 (implFloor_j0 a b true (by simp [h0]))
  refine ev_neg h0 ?_
  by_cases h1 : a = -9223372036854775808
  · exact ev_pos h1 (implFloor_j0 a b _ (by simp [h0, h1]))
  · exact ev_neg h1 (implFloor_j0 a b false (by simp [h0, h1]))
theorem implBrought (x a b : Int) : impl_Brought.f x a b = some (brought x a b) := by
  unfold impl_Brought.f brought
  split
  · rfl
  · split <;> rfl
theorem implWithin (a b c : Int) : impl_within.f a b c = some (decide (b ≤ a ∧ a ≤ c)) := by
  unfold impl_within.f
  by_cases h : b ≤ a
  · rw [if_pos h]; simp [h]
  · rw [if_neg h]; simp [h]
theorem implBoundOk (a b : Int) : impl_BoundOk.f a b = some (dec (BndOk a b)) := by
  unfold impl_BoundOk.f impl_isLeafValue.f
  simp only [implWithin, Option.bind_some]
  by_cases h1 : a ≤ b
  · rw [if_pos h1]
    by_cases h2 : -1099511627776 ≤ a ∧ a ≤ 1099511627776
    · rw [if_pos (by simpa using h2), ← dec_eq]
      congr 1
      exact dec_congr ⟨fun g => ⟨h1, h2, g⟩, fun g => g.2.2⟩
    · rw [if_neg (by simpa using h2), dec_false]
      exact fun g => h2 g.2.1
  · rw [if_neg h1, dec_false]
    exact fun g => h1 g.1
theorem implCount (n lam : Int) : impl_isCount.f n lam = some (decide ((0 ≤ n ∧ n ≤ 40) ∧ (1 ≤ lam ∧ lam ≤ 100))) := by
  unfold impl_isCount.f
  simp only [implWithin, Option.bind_some]
  by_cases h1 : 0 ≤ n ∧ n ≤ 40
  · rw [if_pos (by simpa using h1)]
    simp [h1]
  · rw [if_neg (by simpa using h1)]
    simp [h1]
theorem implLeaf_j0 (n g lam lo hi : Int) (t : Bool) (h : t = false ↔ LeafOk n lam lo hi) : Ev (fun k => impl_LeafOf.j0 k lam t n g lo hi) (leafV n g lam lo hi) := by
  unfold leafV
  by_cases h0 : LeafOk n lam lo hi
  · rw [if_pos h0, h.2 h0]
    refine Ev.step (f := fun k => (impl_FloorDiv.f k g (wrap64 (n + lam))).bind fun bt => ((impl_Brought.f bt.1 lo hi).bind fun t => some (t, true))) (fun k => ?_) (Ev.bind (implFloor _ _) (ev_of ?_))
    · simp only [impl_LeafOf.j0]
      rw [if_neg (by decide)]
    · rw [implBrought]
      rfl
  · rw [if_neg h0]
    refine ev_end fun k => ?_
    simp only [impl_LeafOf.j0]
    rw [if_pos (by simpa using fun z => h0 (h.1 z))]
theorem implLeaf (n g lam lo hi : Int) : Ev (fun k => impl_LeafOf.f k n g lam lo hi) (leafV n g lam lo hi) := by
  unfold impl_LeafOf.f
  simp only [implCount, implBoundOk, Option.bind_some]
  by_cases h1 : (0 ≤ n ∧ n ≤ 40) ∧ (1 ≤ lam ∧ lam ≤ 100)
  · refine ev_pos (by simpa using h1) (implLeaf_j0 n g lam lo hi _ ?_)
    rw [Bool.not_eq_false', dec_iff]
    exact ⟨fun z => ⟨h1.1, h1.2, z⟩, fun z => z.2.2⟩
  · exact ev_neg (by simpa using h1) (implLeaf_j0 n g lam lo hi true ⟨fun z => by simp at z, fun z => absurd ⟨z.1, z.2.1⟩ h1⟩)
theorem specFloor_j0 (a b : Int) (t : Bool) (h : t = true ↔ (b = 0 ∨ b = -1 ∧ a = -9223372036854775808)) : Ev (fun k => spec_FloorDiv.j0 k a b t) (floorV a b) := by
  refine ev_end fun k => ?_
  simp only [spec_FloorDiv.j0]
  unfold floorV
  by_cases h0 : b = 0 ∨ b = -1 ∧ a = -9223372036854775808
  · rw [if_pos (h.2 h0), if_pos h0]
  · rw [if_neg (fun z => h0 (h.1 z)), if_neg h0, if_neg (fun z => h0 (.inl z))]
    by_cases h1 : Int.tmod a b = 0
    · rw [if_pos h1, if_pos h1]
    · rw [if_neg h1, if_neg h1]
      split
      · rfl
      · rfl
theorem specFloor (a b : Int) : Ev (fun k => spec_FloorDiv.f k a b) (floorV a b) := by
  unfold spec_FloorDiv.f
  by_cases h0 : b = 0
  · exact ev_pos h0 (specFloor_j0 a b true (by simp [h0]))
  refine ev_neg h0 ?_
  by_cases h1 : b = -1
  · exact ev_pos h1 (specFloor_j0 a b _ (by simp [h0, h1]))
  · exact ev_neg h1 (specFloor_j0 a b false (by simp [h0, h1]))
theorem specBrought (x a b : Int) : spec_Brought.f x a b = some (brought x a b) := by
  unfold spec_Brought.f brought
  split
  · rfl
  · split <;> rfl
theorem specIn (a b c : Int) : spec_l1In.f a b c = some (decide (b ≤ a ∧ a ≤ c)) := by
  unfold spec_l1In.f
  by_cases h : b ≤ a
  · rw [if_pos h]; simp [h]
  · rw [if_neg h]; simp [h]
theorem specBoundOk (a b : Int) : spec_BoundOk.f a b = some (dec (BndOk a b)) := by
  unfold spec_BoundOk.f spec_l14Leaf.f
  simp only [specIn, Option.bind_some]
  by_cases h1 : a ≤ b
  · rw [if_pos h1]
    by_cases h2 : -1099511627776 ≤ a ∧ a ≤ 1099511627776
    · rw [if_pos (by simpa using h2), ← dec_eq]
      congr 1
      exact dec_congr ⟨fun g => ⟨h1, h2, g⟩, fun g => g.2.2⟩
    · rw [if_neg (by simpa using h2), dec_false]
      exact fun g => h2 g.2.1
  · rw [if_neg h1, dec_false]
    exact fun g => h1 g.1
theorem specLeaf_j0 (n g lam lo hi : Int) (t : Bool) (h : t = false ↔ LeafOk n lam lo hi) : Ev (fun k => spec_LeafOf.j0 k lam t n g lo hi) (leafV n g lam lo hi) := by
  unfold leafV
  by_cases h0 : LeafOk n lam lo hi
  · rw [if_pos h0, h.2 h0]
    refine Ev.step (f := fun k => (spec_FloorDiv.f k g (wrap64 (n + lam))).bind fun bt => ((spec_Brought.f bt.1 lo hi).bind fun t => some (t, true))) (fun k => ?_) (Ev.bind (specFloor _ _) (ev_of ?_))
    · simp only [spec_LeafOf.j0]
      rw [if_neg (by decide)]
    · rw [specBrought]
      rfl
  · rw [if_neg h0]
    refine ev_end fun k => ?_
    simp only [spec_LeafOf.j0]
    rw [if_pos (by simpa using fun z => h0 (h.1 z))]
theorem specLeaf (n g lam lo hi : Int) : Ev (fun k => spec_LeafOf.f k n g lam lo hi) (leafV n g lam lo hi) := by
  unfold spec_LeafOf.f
  simp only [specIn, specBoundOk, Option.bind_some]
  by_cases h1 : 0 ≤ n ∧ n ≤ 40
  · refine ev_pos (by simpa using h1) ?_
    by_cases h2 : 1 ≤ lam ∧ lam ≤ 100
    · refine ev_pos (by simpa using h2) (specLeaf_j0 n g lam lo hi _ ?_)
      rw [Bool.not_eq_false', dec_iff]
      exact ⟨fun z => ⟨h1, h2, z⟩, fun z => z.2.2⟩
    · exact ev_neg (by simpa using h2) (specLeaf_j0 n g lam lo hi true ⟨fun z => by simp at z, fun z => absurd z.2.1 h2⟩)
  · exact ev_neg (by simpa using h1) (specLeaf_j0 n g lam lo hi true ⟨fun z => by simp at z, fun z => absurd z.1 h1⟩)
/-- Both sides' values, and true; zeros and false where one of them is none. -/
noncomputable def sideV (lam lo hi n g n' g' : Int) : Int × Int × Bool := if (leafV n g lam lo hi).2 = true then (if (leafV n' g' lam lo hi).2 = true then ((leafV n g lam lo hi).1, (leafV n' g' lam lo hi).1, true) else (0, 0, false)) else (0, 0, false)
theorem specSideValues (a b c d e f g : Int) (l : List Int) (lo hi p q n s n' s' : Int) : Ev (fun k => spec_SideValues.f k a b c d e f g l lo hi p q n s n' s') (sideV d lo hi n s n' s') := by
  unfold spec_SideValues.f sideV
  refine Ev.bind (specLeaf _ _ _ _ _) (Ev.bind (specLeaf _ _ _ _ _) ?_)
  by_cases h1 : (leafV n s d lo hi).2 = true
  · refine ev_pos h1 ?_
    rw [if_pos h1]
    by_cases h2 : (leafV n' s' d lo hi).2 = true
    · refine ev_pos h2 (ev_of ?_)
      rw [if_pos h2]
    · refine ev_neg h2 (ev_of ?_)
      rw [if_neg h2]
  · refine ev_neg h1 (ev_of ?_)
    rw [if_neg h1]
theorem implSideValues (a b c d e f g : Int) (l : List Int) (lo hi p q n s n' s' : Int) : Ev (fun k => impl_SideValues.f k a b c d e f g l lo hi p q n s n' s') (sideV d lo hi n s n' s') := by
  unfold impl_SideValues.f sideV
  refine Ev.bind (implLeaf _ _ _ _ _) (Ev.bind (implLeaf _ _ _ _ _) ?_)
  by_cases h1 : (leafV n s d lo hi).2 = true
  · refine ev_pos h1 ?_
    rw [if_pos h1]
    by_cases h2 : (leafV n' s' d lo hi).2 = true
    · refine ev_pos h2 (ev_of ?_)
      rw [if_pos h2]
    · refine ev_neg h2 (ev_of ?_)
      rw [if_neg h2]
  · refine ev_neg h1 (ev_of ?_)
    rw [if_neg h1]
theorem leafV_in {n g lam lo hi : Int} (h : (leafV n g lam lo hi).2 = true) : lo ≤ (leafV n g lam lo hi).1 ∧ (leafV n g lam lo hi).1 ≤ hi := by
  unfold leafV at h ⊢
  by_cases c : LeafOk n lam lo hi
  · rw [if_pos c]
    have := c.2.2.1
    simp only
    unfold brought
    split
    · omega
    · split <;> omega
  · rw [if_neg c] at h; simp at h
def Agree (s x y : Int) : Prop := (s = 1 → x ≤ y) ∧ (s = -1 → x ≥ y)
theorem implAgrees (s x y : Int) : impl_Agrees.f s x y = some (dec (Agree s x y)) := by
  unfold impl_Agrees.f
  by_cases h1 : s = 1
  · rw [if_pos h1, ← dec_eq]
    congr 1
    exact dec_congr ⟨fun g => ⟨fun _ => g, fun z => by omega⟩, fun g => g.1 h1⟩
  · rw [if_neg h1]
    by_cases h2 : s = -1
    · rw [if_pos h2, ← dec_eq]
      congr 1
      exact dec_congr ⟨fun g => ⟨fun z => by omega, fun _ => g⟩, fun g => g.2 h2⟩
    · rw [if_neg h2, dec_true ⟨fun z => absurd z h1, fun z => absurd z h2⟩]
theorem specAgrees (s x y : Int) : spec_Agrees.f s x y = some (dec (Agree s x y)) := by
  rw [← implAgrees]
  unfold spec_Agrees.f impl_Agrees.f
  by_cases h1 : s = 1
  · rw [if_pos h1, if_pos h1]
    by_cases h2 : x ≤ y
    · rw [if_pos h2]; simp [h2]
    · rw [if_neg h2, if_neg (by omega)]; simp [h2]
  · rw [if_neg h1, if_neg h1]
/-- The sum and true; 0 and false where it has no room. -/
def addI (a b : Int) : Int × Bool := if -9223372036854775808 ≤ a + b ∧ a + b ≤ 9223372036854775807 then (a + b, true) else (0, false)
def subI (a b : Int) : Int × Bool := if -9223372036854775808 ≤ a - b ∧ a - b ≤ 9223372036854775807 then (a - b, true) else (0, false)
def I64 (a : Int) : Prop := -9223372036854775808 ≤ a ∧ a ≤ 9223372036854775807
theorem addI_i64 (a b : Int) : I64 (addI a b).1 := by
  unfold addI I64
  split
  · assumption
  · exact ⟨by decide, by decide⟩
theorem subI_i64 (a b : Int) : I64 (subI a b).1 := by
  unfold subI I64
  split
  · assumption
  · exact ⟨by decide, by decide⟩
theorem wrap_over {x : Int} (h1 : 9223372036854775807 < x) (h2 : x < 27670116110564327424) : wrap64 x = x - 18446744073709551616 := by unfold wrap64; omega
theorem wrap_under {x : Int} (h1 : x < -9223372036854775808) (h2 : -27670116110564327424 ≤ x) : wrap64 x = x + 18446744073709551616 := by unfold wrap64; omega
theorem u64_wrap (x : Int) : IntKind.u64.wrap x = x % 18446744073709551616 := by
  simp [IntKind.wrap, IntKind.bits, IntKind.signed]
theorem u64w {x : Int} (h1 : 0 ≤ x) (h2 : x < 18446744073709551616) : IntKind.u64.wrap x = x := by
  rw [u64_wrap]; omega
theorem u64_low {x : Int} (h1 : 0 ≤ x) (h2 : x < 18446744073709551616) : Go.bits .and .u64 x 4294967295 = x % 4294967296 :=
  bits_mask .u64 64 (by decide) (fun n h0 h => by rw [u64_wrap]; omega) 32 (by decide) x h1 (by omega)
/-- The size of a number. -/
def absI (a : Int) : Int := if a < 0 then -a else a
theorem absI_range {a : Int} (h : I64 a) : 0 ≤ absI a ∧ absI a ≤ 9223372036854775808 := by unfold I64 at h; unfold absI; split <;> omega
theorem prod_range {x y : Int} (hx : 0 ≤ x ∧ x < 4294967296) (hy : 0 ≤ y ∧ y < 4294967296) : 0 ≤ x * y ∧ x * y ≤ 18446744065119617025 := by
  refine ⟨Int.mul_nonneg hx.1 hy.1, ?_⟩
  have : x * y ≤ 4294967295 * 4294967295 := Int.mul_le_mul (by omega) (by omega) hy.1 (by omega)
  omega
theorem prod_split (a b : Int) : a * b = (a / 4294967296) * (b / 4294967296) * 18446744073709551616 + ((a / 4294967296) * (b % 4294967296) + (a % 4294967296) * (b / 4294967296)) * 4294967296 + (a % 4294967296) * (b % 4294967296) := by
  have h1 : a = (a / 4294967296) * 4294967296 + a % 4294967296 := by omega
  have h2 : b = (b / 4294967296) * 4294967296 + b % 4294967296 := by omega
  generalize a / 4294967296 = p at *
  generalize a % 4294967296 = q at *
  generalize b / 4294967296 = r at *
  generalize b % 4294967296 = s at *
  subst h1 h2
  simp only [Int.add_mul, Int.mul_add]
  have e1 : p * 4294967296 * (r * 4294967296) = p * r * 18446744073709551616 := by
    rw [Int.mul_assoc, ← Int.mul_assoc 4294967296 r, Int.mul_comm 4294967296 r, Int.mul_assoc r, ← Int.mul_assoc p]; rfl
  have e2 : p * 4294967296 * s = p * s * 4294967296 := by rw [Int.mul_assoc, Int.mul_comm 4294967296 s, ← Int.mul_assoc]
  have e3 : q * (r * 4294967296) = q * r * 4294967296 := by rw [← Int.mul_assoc]
  rw [e1, e2, e3]
  omega
/-- A product, as a sign and two words. -/
def mulW (a b : Int) : Bool × Int × Int := (((decide (a < 0)) != (decide (b < 0))) && decide (0 < absI a * absI b), absI a * absI b / 18446744073709551616, absI a * absI b % 18446744073709551616)
theorem absI_mul_pos (a b : Int) : 0 < absI a * absI b ↔ a ≠ 0 ∧ b ≠ 0 := by
  have ha : 0 ≤ absI a := by unfold absI; split <;> omega
  have hb : 0 ≤ absI b := by unfold absI; split <;> omega
  constructor
  · intro h
    refine ⟨fun z => ?_, fun z => ?_⟩
    · subst z; simp [absI] at h
    · subst z; simp [absI] at h
  · intro ⟨h1, h2⟩
    exact Int.mul_pos (by unfold absI at *; split <;> omega) (by unfold absI at *; split <;> omega)
/-- A number as a sign and two words. -/
def norm (v : Int) : Bool × Int × Int := (decide (v < 0), absI v / 18446744073709551616, absI v % 18446744073709551616)
/-- It has room in 127 bits. -/
def Room (v : Int) : Prop := -170141183460469231731687303715884105728 < v ∧ v < 170141183460469231731687303715884105728
theorem absI_nonneg (v : Int) : 0 ≤ absI v := by unfold absI; split <;> omega
theorem absI_room {v : Int} : Room v ↔ absI v < 170141183460469231731687303715884105728 := by unfold Room absI; split <;> omega
theorem absI_mul (a b : Int) : absI (a * b) = absI a * absI b := by
  unfold absI
  by_cases ha : a < 0
  · by_cases hb : b < 0
    · have : 0 < a * b := Int.mul_pos_of_neg_of_neg ha hb
      rw [if_neg (by omega), if_pos ha, if_pos hb, Int.neg_mul_neg]
    · have : a * b ≤ 0 := Int.mul_nonpos_of_nonpos_of_nonneg (by omega) (by omega)
      rw [if_pos ha, if_neg hb]
      split
      · rw [Int.neg_mul]
      · rw [Int.neg_mul]; omega
  · by_cases hb : b < 0
    · have : a * b ≤ 0 := Int.mul_nonpos_of_nonneg_of_nonpos (by omega) (by omega)
      rw [if_neg ha, if_pos hb]
      split
      · rw [Int.mul_neg]
      · rw [Int.mul_neg]; omega
    · have : 0 ≤ a * b := Int.mul_nonneg (by omega) (by omega)
      rw [if_neg ha, if_neg hb, if_neg (by omega)]
theorem absI_zero {v : Int} : absI v = 0 ↔ v = 0 := by unfold absI; split <;> omega
theorem mul_neg_iff (a b : Int) : a * b < 0 ↔ ((decide (a < 0)) != (decide (b < 0))) = true ∧ 0 < absI a * absI b := by
  rw [absI_mul_pos]
  simp only [bne_iff_ne, ne_eq, decide_eq_decide]
  by_cases ha : a < 0
  · by_cases hb : b < 0
    · have : 0 < a * b := Int.mul_pos_of_neg_of_neg ha hb
      constructor
      · intro h; omega
      · intro h; omega
    · by_cases hz : b = 0
      · subst hz; simp
      · have : a * b < 0 := Int.mul_neg_of_neg_of_pos ha (by omega)
        constructor
        · intro _; refine ⟨by omega, by omega, hz⟩
        · intro _; exact this
  · by_cases hz : a = 0
    · subst hz; simp
    · by_cases hb : b < 0
      · have : a * b < 0 := Int.mul_neg_of_pos_of_neg (by omega) hb
        constructor
        · intro _; refine ⟨by omega, hz, by omega⟩
        · intro _; exact this
      · have : 0 ≤ a * b := Int.mul_nonneg (by omega) (by omega)
        constructor
        · intro h; omega
        · intro h; omega
theorem mulW_norm (a b : Int) : mulW a b = norm (a * b) := by
  unfold mulW norm
  rw [absI_mul]
  congr 1
  rw [Bool.eq_iff_iff]
  simp only [Bool.and_eq_true, decide_eq_true_eq]
  exact (mul_neg_iff a b).symm
theorem sq_room {g : Int} (h : I64 g) : 0 ≤ g * g ∧ g * g ≤ 85070591730234615865843651857942052864 := by
  have h1 := absI_range h
  have h2 : g * g = absI g * absI g := by
    have := absI_mul g g
    have h3 : 0 ≤ g * g := by
      by_cases c : 0 ≤ g
      · exact Int.mul_nonneg c c
      · exact Int.le_of_lt (Int.mul_pos_of_neg_of_neg (by omega) (by omega))
    unfold absI at this ⊢
    rw [if_neg (by omega)] at this
    exact this
  rw [h2]
  refine ⟨Int.mul_nonneg h1.1 h1.1, ?_⟩
  have : absI g * absI g ≤ 9223372036854775808 * 9223372036854775808 := Int.mul_le_mul h1.2 h1.2 h1.1 (by omega)
  omega
/-- The parts of a number that has room. -/
theorem norm_parts {v : Int} (h : Room v) : 0 ≤ absI v / 18446744073709551616 ∧ absI v / 18446744073709551616 < 9223372036854775808 ∧ 0 ≤ absI v % 18446744073709551616 ∧ absI v % 18446744073709551616 < 18446744073709551616 := by
  have h1 := absI_nonneg v
  have h2 := absI_room.1 h
  omega
theorem scale_split (m u : Int) : m * u = (m / 18446744073709551616 * u / 18446744073709551616) * 340282366920938463463374607431768211456 + (m / 18446744073709551616 * u % 18446744073709551616 + m % 18446744073709551616 * u / 18446744073709551616) * 18446744073709551616 + m % 18446744073709551616 * u % 18446744073709551616 := by
  have h1 : m * u = (m / 18446744073709551616 * u) * 18446744073709551616 + m % 18446744073709551616 * u := by
    have e : m = m / 18446744073709551616 * 18446744073709551616 + m % 18446744073709551616 := by omega
    generalize m / 18446744073709551616 = p at *
    generalize m % 18446744073709551616 = q at *
    rw [e, Int.add_mul, Int.mul_assoc, Int.mul_comm 18446744073709551616 u, ← Int.mul_assoc]
  rw [h1]
  generalize m / 18446744073709551616 * u = a
  generalize m % 18446744073709551616 * u = b
  omega
/-- Where the words of a product have room, the product has, and is told by them. -/
theorem scale_room {v k : Int} (hv : Room v) (hk : I64 k) :
    let m := absI v; let u := absI k
    let over := m / 18446744073709551616 * u / 18446744073709551616
    let sum := m / 18446744073709551616 * u % 18446744073709551616 + m % 18446744073709551616 * u / 18446744073709551616
    let low := m % 18446744073709551616 * u % 18446744073709551616
    (Room (v * k) ↔ over = 0 ∧ sum < 9223372036854775808) ∧ (0 ≤ over ∧ 0 ≤ sum ∧ sum < 36893488147419103232 ∧ 0 ≤ low ∧ low < 18446744073709551616) ∧
      (over = 0 → sum < 9223372036854775808 → absI (v * k) / 18446744073709551616 = sum ∧ absI (v * k) % 18446744073709551616 = low) := by
  intro m u over sum low
  have hm := norm_parts hv
  have hu := absI_range hk
  have hs : absI (v * k) = over * 340282366920938463463374607431768211456 + sum * 18446744073709551616 + low := by
    rw [absI_mul]; exact scale_split m u
  have p1 : 0 ≤ m / 18446744073709551616 * u := Int.mul_nonneg hm.1 hu.1
  have p2 : 0 ≤ m % 18446744073709551616 * u := Int.mul_nonneg hm.2.2.1 hu.1
  have p3 : m % 18446744073709551616 * u ≤ 18446744073709551615 * 9223372036854775808 := Int.mul_le_mul (by omega) hu.2 hu.1 (by omega)
  have r : 0 ≤ over ∧ 0 ≤ sum ∧ sum < 36893488147419103232 ∧ 0 ≤ low ∧ low < 18446744073709551616 := by
    simp only [over, sum, low]
    omega
  refine ⟨?_, r, fun h1 h2 => ?_⟩
  · rw [absI_room, hs]
    clear_value over sum low
    omega
  · rw [hs]
    clear_value over sum low
    omega
theorem scale_sign (v k : Int) : decide (v * k < 0) = (((decide (v < 0)) != (decide (k < 0))) && decide (0 < absI (v * k))) := by
  rw [Bool.eq_iff_iff, absI_mul]
  simp only [Bool.and_eq_true, decide_eq_true_eq]
  exact mul_neg_iff v k
def WOk (s : Bool) (h l : Int) : Prop := h < 9223372036854775808 ∧ (s = true → 0 < h ∨ 0 < l)
def FOk (s : Bool) (h l d : Int) : Prop := WOk s h l ∧ 1 ≤ d ∧ d ≤ 1000000
open Classical in
noncomputable def fracOf (s : Bool) (h l d : Int) : Bool × Int × Int × Int × Bool := if FOk s h l d then (s, h, l, d, true) else (false, 0, 0, 0, false)
open Classical in
/-- The score of a slot. -/
noncomputable def plainG (n g lam : Int) : Bool × Int × Int × Int × Bool :=
  if (0 ≤ n ∧ n ≤ 40) ∧ (1 ≤ lam ∧ lam ≤ 100) then fracOf (mulW g g).1 (mulW g g).2.1 (mulW g g).2.2 (n + lam) else (false, 0, 0, 0, false)
/-- Room for a number that is not below zero. -/
def Up (v : Int) : Prop := 0 ≤ v ∧ v < 170141183460469231731687303715884105728
open Classical in
/-- Its words, and true; zeros and false where it has no room. -/
noncomputable def wordsOf (v : Int) : Bool × Int × Int × Bool := if v < 170141183460469231731687303715884105728 then (false, v / 18446744073709551616, v % 18446744073709551616, true) else (false, 0, 0, false)
theorem wok_up {v : Int} (h : Up v) : WOk false (v / 18446744073709551616) (v % 18446744073709551616) := by
  unfold Up at h
  exact ⟨by omega, fun z => by simp at z⟩
theorem wok_false {h l : Int} : WOk false h l ↔ h < 9223372036854775808 := ⟨fun z => z.1, fun z => ⟨z, fun y => by simp at y⟩⟩
theorem scale_two (v k : Int) : v * k = (v / 18446744073709551616 * k) * 18446744073709551616 + v % 18446744073709551616 * k := by
  have e : v = v / 18446744073709551616 * 18446744073709551616 + v % 18446744073709551616 := by omega
  generalize v / 18446744073709551616 = p at *
  generalize v % 18446744073709551616 = q at *
  rw [e, Int.add_mul, Int.mul_assoc, Int.mul_comm 18446744073709551616 k, ← Int.mul_assoc]
theorem scale_parts {v k : Int} (hv : Up v) (hk : 0 ≤ k ∧ k ≤ 1000000) :
    0 ≤ v / 18446744073709551616 * k ∧ 0 ≤ v % 18446744073709551616 * k ∧ v % 18446744073709551616 * k ≤ 18446744073709551615 * 1000000 ∧ v / 18446744073709551616 * k ≤ 9223372036854775807 * 1000000 ∧ 0 ≤ v * k := by
  unfold Up at hv
  have a : 0 ≤ v / 18446744073709551616 ∧ v / 18446744073709551616 ≤ 9223372036854775807 := by omega
  have b : 0 ≤ v % 18446744073709551616 ∧ v % 18446744073709551616 ≤ 18446744073709551615 := by omega
  exact ⟨Int.mul_nonneg a.1 hk.1, Int.mul_nonneg b.1 hk.1, Int.mul_le_mul b.2 hk.2 hk.1 (by omega), Int.mul_le_mul a.2 hk.2 hk.1 (by omega), Int.mul_nonneg hv.1 hk.1⟩
theorem absI_up {k : Int} (h : 0 ≤ k) : absI k = k := by unfold absI; rw [if_neg (by omega)]
theorem implWideOk (s : Bool) (h l : Int) : impl_WideOk.f s h l = some (dec (WOk s h l)) := by
  unfold impl_WideOk.f
  by_cases h1 : h < 9223372036854775808
  · rw [if_pos h1]
    by_cases h2 : s = true
    · rw [if_pos h2]
      by_cases h3 : h > 0
      · rw [if_pos h3, dec_true ⟨h1, fun _ => .inl h3⟩]
      · rw [if_neg h3, ← dec_eq]
        congr 1
        exact dec_congr ⟨fun z => ⟨h1, fun _ => .inr z⟩, fun z => (z.2 h2).elim (fun y => absurd y h3) (fun y => y)⟩
    · rw [if_neg h2, dec_true ⟨h1, fun z => absurd z h2⟩]
  · rw [if_neg h1, dec_false (fun z => h1 z.1)]
theorem implSize {a : Int} (h : I64 a) : impl_size.f a = some (absI a) := by
  unfold I64 at h
  unfold impl_size.f absI
  split
  · rw [u64_wrap, u64_wrap]; congr 1; omega
  · rw [u64w (by omega) (by omega)]
theorem mul64 {a b : Int} (ha : 0 ≤ a ∧ a < 18446744073709551616) (hb : 0 ≤ b ∧ b < 18446744073709551616) : bits_Mul64.f a b = some (a * b / 18446744073709551616, a * b % 18446744073709551616) := by
  unfold bits_Mul64.f
  have h := prod_split a b
  rw [u64_low ha.1 ha.2, u64_low hb.1 hb.2]
  have r1 := prod_range (x := a / 4294967296) (y := b / 4294967296) (by omega) (by omega)
  have r2 := prod_range (x := a / 4294967296) (y := b % 4294967296) (by omega) (by omega)
  have r3 := prod_range (x := a % 4294967296) (y := b / 4294967296) (by omega) (by omega)
  have r4 := prod_range (x := a % 4294967296) (y := b % 4294967296) (by omega) (by omega)
  have r0 : 0 ≤ a * b := Int.mul_nonneg ha.1 hb.1
  generalize (a / 4294967296) * (b / 4294967296) = p at *
  generalize (a / 4294967296) * (b % 4294967296) = q at *
  generalize (a % 4294967296) * (b / 4294967296) = r at *
  generalize (a % 4294967296) * (b % 4294967296) = s at *
  generalize a * b = t at *
  rw [u64w (x := p) (by omega) (by omega), u64w (x := q) (by omega) (by omega), u64w (x := r) (by omega) (by omega), u64w (x := s) (by omega) (by omega), u64w (x := q + s / 4294967296) (by omega) (by omega), u64_low (x := q + s / 4294967296) (by omega) (by omega),
    u64w (x := p + (q + s / 4294967296) / 4294967296) (by omega) (by omega), u64w (x := (q + s / 4294967296) % 4294967296 + r) (by omega) (by omega), u64w (by omega) (by omega), u64_wrap]
  congr 2
  omega
theorem implWideOf (s : Bool) {h l : Int} (h1 : 0 ≤ h) (h2 : 0 ≤ l) : impl_wideOf.f s h l = some (s && decide (0 < h + l), h, l) := by
  unfold impl_wideOf.f
  by_cases hs : s = true
  · rw [if_pos hs]
    by_cases g : h > 0
    · rw [if_pos g, hs]
      simp; omega
    · rw [if_neg g, hs]
      simp; omega
  · rw [if_neg hs]
    simp at hs
    simp [hs]
theorem add64 {a b c : Int} (h0 : 0 ≤ a) (h1 : 0 ≤ b) (h2 : 0 ≤ c) (h3 : c ≤ 1) : bits_Add64.f a b c = some ((a + b + c) % 18446744073709551616, (a + b + c) / 18446744073709551616) := by
  unfold bits_Add64.f
  rw [if_pos ⟨h0, h1, h2, h3⟩]
theorem implScale {v k : Int} (hv : Up v) (hk : 0 ≤ k ∧ k ≤ 1000000) : impl_ScaleWide.f false (v / 18446744073709551616) (v % 18446744073709551616) k = some (wordsOf (v * k)) := by
  have hp := scale_parts hv hk
  have hs := scale_two v k
  have hv' := hv
  unfold Up at hv'
  unfold impl_ScaleWide.f
  rw [implWideOk, dec_true (wok_up hv)]
  simp only [Option.bind_some, if_true]
  rw [implSize (show I64 k by unfold I64; omega), absI_up hk.1]
  simp only [Option.bind_some]
  rw [mul64 (by omega) (by omega), mul64 (by omega) (by omega)]
  simp only [Option.bind_some]
  have hd : decide (k < 0) = false := decide_eq_false (by omega)
  rw [hd]
  generalize v / 18446744073709551616 * k = p at *
  generalize v % 18446744073709551616 * k = q at *
  generalize v * k = m at *
  rw [add64 (by omega) (by omega) (by omega) (by omega)]
  simp only [Option.bind_some, Int.add_zero]
  rw [implWideOf _ (by omega) (by omega)]
  simp only [Option.bind_some, bne_self_eq_false, Bool.false_and]
  unfold wordsOf
  by_cases c1 : p / 18446744073709551616 > 0
  · rw [if_pos c1, if_neg (by omega)]
  rw [if_neg c1]
  by_cases c2 : (p % 18446744073709551616 + q / 18446744073709551616) / 18446744073709551616 > 0
  · rw [if_pos c2, if_neg (by omega)]
  rw [if_neg c2, implWideOk]
  simp only [Option.bind_some]
  by_cases c3 : (p % 18446744073709551616 + q / 18446744073709551616) % 18446744073709551616 < 9223372036854775808
  · rw [dec_true (wok_false.2 c3), if_pos rfl, if_pos (by omega)]
    have e1 : (p % 18446744073709551616 + q / 18446744073709551616) % 18446744073709551616 = m / 18446744073709551616 := by omega
    have e2 : q % 18446744073709551616 = m % 18446744073709551616 := by omega
    rw [e1, e2]
  · rw [dec_false (fun z => c3 (wok_false.1 z)), if_neg (by decide), if_neg (by omega)]
theorem specWideOk (s : Bool) (h l : Int) : spec_WideOk.f s h l = some (dec (WOk s h l)) := by
  unfold spec_WideOk.f
  by_cases h1 : h < 9223372036854775808
  · rw [if_pos h1]
    by_cases h2 : s = true
    · rw [if_pos h2]
      by_cases h3 : h > 0
      · rw [if_pos h3, dec_true ⟨h1, fun _ => .inl h3⟩]
      · rw [if_neg h3, ← dec_eq]
        congr 1
        exact dec_congr ⟨fun z => ⟨h1, fun _ => .inr z⟩, fun z => (z.2 h2).elim (fun y => absurd y h3) (fun y => y)⟩
    · rw [if_neg h2, dec_true ⟨h1, fun z => absurd z h2⟩]
  · rw [if_neg h1, dec_false (fun z => h1 z.1)]
theorem specAbs {a : Int} (h : I64 a) : spec_l3Abs.f a = some (absI a) := by
  unfold I64 at h
  unfold spec_l3Abs.f absI
  split
  · rw [w64 (x := a + 1) (by omega) (by omega), w64 (by omega) (by omega), u64w (x := -(a + 1)) (by omega) (by omega), u64w (by omega) (by omega)]; congr 1; omega
  · rw [u64w (by omega) (by omega)]
theorem specProduct {a b : Int} (ha : 0 ≤ a ∧ a < 18446744073709551616) (hb : 0 ≤ b ∧ b < 18446744073709551616) : spec_l3Product.f a b = some (a * b / 18446744073709551616, a * b % 18446744073709551616) := by
  unfold spec_l3Product.f
  have h := prod_split a b
  rw [u64_low ha.1 ha.2, u64_low hb.1 hb.2]
  have r1 := prod_range (x := a / 4294967296) (y := b / 4294967296) (by omega) (by omega)
  have r2 := prod_range (x := a / 4294967296) (y := b % 4294967296) (by omega) (by omega)
  have r3 := prod_range (x := a % 4294967296) (y := b / 4294967296) (by omega) (by omega)
  have r4 := prod_range (x := a % 4294967296) (y := b % 4294967296) (by omega) (by omega)
  have r0 : 0 ≤ a * b := Int.mul_nonneg ha.1 hb.1
  generalize (a / 4294967296) * (b / 4294967296) = p at *
  generalize (a / 4294967296) * (b % 4294967296) = q at *
  generalize (a % 4294967296) * (b / 4294967296) = r at *
  generalize (a % 4294967296) * (b % 4294967296) = s at *
  generalize a * b = t at *
  rw [u64w (x := p) (by omega) (by omega), u64w (x := q) (by omega) (by omega), u64w (x := r) (by omega) (by omega), u64w (x := s) (by omega) (by omega), u64w (x := q + s / 4294967296) (by omega) (by omega), u64_low (x := q + s / 4294967296) (by omega) (by omega), u64_low (x := s) (by omega) (by omega),
    u64w (x := p + (q + s / 4294967296) / 4294967296) (by omega) (by omega), u64w (x := r + (q + s / 4294967296) % 4294967296) (by omega) (by omega), u64w (x := p + (q + s / 4294967296) / 4294967296 + (r + (q + s / 4294967296) % 4294967296) / 4294967296) (by omega) (by omega), u64_wrap, u64_wrap]
  congr 2
  · omega
  · omega
theorem specZero (s : Bool) (h l : Int) : ∃ b, spec_l3Zero.f s h l = some b := by
  unfold spec_l3Zero.f
  split
  · exact ⟨_, rfl⟩
  · exact ⟨_, rfl⟩
theorem specScale {v k : Int} (hv : Up v) (hk : 0 ≤ k ∧ k ≤ 1000000) : spec_ScaleWide.f false (v / 18446744073709551616) (v % 18446744073709551616) k = some (wordsOf (v * k)) := by
  have hp := scale_parts hv hk
  have hs := scale_two v k
  have hv' := hv
  unfold Up at hv'
  unfold spec_ScaleWide.f
  rw [specWideOk, dec_true (wok_up hv)]
  simp only [Option.bind_some, if_true]
  rw [specAbs (show I64 k by unfold I64; omega), absI_up hk.1]
  simp only [Option.bind_some]
  rw [specProduct (by omega) (by omega), specProduct (by omega) (by omega)]
  simp only [Option.bind_some]
  have hd : decide (k < 0) = false := decide_eq_false (by omega)
  rw [hd]
  generalize v / 18446744073709551616 * k = p at *
  generalize v % 18446744073709551616 * k = q at *
  generalize v * k = m at *
  simp only [bne_self_eq_false, u64_wrap]
  obtain ⟨b, eb⟩ := specZero false ((p % 18446744073709551616 + q / 18446744073709551616) % 18446744073709551616) (q % 18446744073709551616)
  rw [eb]
  simp only [Option.bind_some, ite_self]
  unfold wordsOf
  by_cases c1 : p / 18446744073709551616 > 0
  · rw [if_pos c1, if_neg (by omega)]
  rw [if_neg c1]
  by_cases c2 : (p % 18446744073709551616 + q / 18446744073709551616) % 18446744073709551616 < p % 18446744073709551616
  · rw [if_pos c2, if_neg (by omega)]
  rw [if_neg c2, specWideOk]
  simp only [Option.bind_some]
  by_cases c3 : (p % 18446744073709551616 + q / 18446744073709551616) % 18446744073709551616 < 9223372036854775808
  · rw [dec_true (wok_false.2 c3), if_pos rfl, if_pos (by omega)]
    have e1 : (p % 18446744073709551616 + q / 18446744073709551616) % 18446744073709551616 = m / 18446744073709551616 := by omega
    have e2 : q % 18446744073709551616 = m % 18446744073709551616 := by omega
    rw [e1, e2]
  · rw [dec_false (fun z => c3 (wok_false.1 z)), if_neg (by decide), if_neg (by omega)]
theorem implAddW {u v : Int} (hu : Up u) (hv : Up v) : Ev (fun k => impl_AddWide.f k false (u / 18446744073709551616) (u % 18446744073709551616) false (v / 18446744073709551616) (v % 18446744073709551616)) (wordsOf (u + v)) := by
  have hu' := hu
  have hv' := hv
  unfold Up at hu' hv'
  unfold impl_AddWide.f
  simp only [implWideOk, dec_true (wok_up hu), dec_true (wok_up hv), Option.bind_some]
  refine ev_pos trivial (ev_succ ?_)
  simp only [impl_AddWide.j0]
  refine ev_neg (by simp) (ev_neg (by simp) ?_)
  rw [add64 (by omega) (by omega) (by omega) (by omega)]
  simp only [Option.bind_some, Int.add_zero]
  rw [add64 (by omega) (by omega) (by omega) (by omega)]
  simp only [Option.bind_some]
  rw [implWideOf _ (by omega) (by omega)]
  simp only [Option.bind_some, Bool.false_and, implWideOk]
  refine ev_of ?_
  unfold wordsOf
  by_cases c3 : (u / 18446744073709551616 + v / 18446744073709551616 + (u % 18446744073709551616 + v % 18446744073709551616) / 18446744073709551616) % 18446744073709551616 < 9223372036854775808
  · rw [dec_true (wok_false.2 c3), if_pos rfl, if_pos (by omega)]
    have e1 : (u / 18446744073709551616 + v / 18446744073709551616 + (u % 18446744073709551616 + v % 18446744073709551616) / 18446744073709551616) % 18446744073709551616 = (u + v) / 18446744073709551616 := by omega
    have e2 : (u % 18446744073709551616 + v % 18446744073709551616) % 18446744073709551616 = (u + v) % 18446744073709551616 := by omega
    rw [e1, e2]
  · rw [dec_false (fun z => c3 (wok_false.1 z)), if_neg (by decide), if_neg (by omega)]
theorem specAddW {u v : Int} (hu : Up u) (hv : Up v) : Ev (fun k => spec_AddWide.f k false (u / 18446744073709551616) (u % 18446744073709551616) false (v / 18446744073709551616) (v % 18446744073709551616)) (wordsOf (u + v)) := by
  have hu' := hu
  have hv' := hv
  unfold Up at hu' hv'
  unfold spec_AddWide.f
  simp only [specWideOk, dec_true (wok_up hu), dec_true (wok_up hv), Option.bind_some]
  refine ev_pos trivial (ev_succ ?_)
  simp only [spec_AddWide.j0, u64_wrap, specWideOk, Option.bind_some]
  refine ev_neg (by simp) (ev_pos (by simp) ?_)
  unfold wordsOf
  by_cases c2 : (u % 18446744073709551616 + v % 18446744073709551616) % 18446744073709551616 < u % 18446744073709551616
  · refine ev_pos c2 (ev_of ?_)
    by_cases c3 : ((u / 18446744073709551616 + v / 18446744073709551616) % 18446744073709551616 + 1) % 18446744073709551616 < 9223372036854775808
    · rw [dec_true (wok_false.2 c3), if_pos rfl, if_pos (by omega)]
      have e1 : ((u / 18446744073709551616 + v / 18446744073709551616) % 18446744073709551616 + 1) % 18446744073709551616 = (u + v) / 18446744073709551616 := by omega
      have e2 : (u % 18446744073709551616 + v % 18446744073709551616) % 18446744073709551616 = (u + v) % 18446744073709551616 := by omega
      rw [e1, e2]
    · rw [dec_false (fun z => c3 (wok_false.1 z)), if_neg (by decide), if_neg (by omega)]
  · refine ev_neg c2 (ev_of ?_)
    by_cases c3 : (u / 18446744073709551616 + v / 18446744073709551616) % 18446744073709551616 < 9223372036854775808
    · rw [dec_true (wok_false.2 c3), if_pos rfl, if_pos (by omega)]
      have e1 : (u / 18446744073709551616 + v / 18446744073709551616) % 18446744073709551616 = (u + v) / 18446744073709551616 := by omega
      have e2 : (u % 18446744073709551616 + v % 18446744073709551616) % 18446744073709551616 = (u + v) % 18446744073709551616 := by omega
      rw [e1, e2]
    · rw [dec_false (fun z => c3 (wok_false.1 z)), if_neg (by decide), if_neg (by omega)]
theorem implFracOk (s : Bool) (h l d : Int) : impl_FracOk.f s h l d = some (dec (FOk s h l d)) := by
  unfold impl_FracOk.f
  simp only [implWideOk, implWithin, Option.bind_some]
  by_cases h1 : WOk s h l
  · rw [dec_true h1, if_pos rfl, ← dec_eq]
    congr 1
    exact dec_congr ⟨fun z => ⟨h1, z⟩, fun z => z.2⟩
  · rw [dec_false h1, if_neg (by decide), dec_false (fun z => h1 z.1)]
theorem specFracOk (s : Bool) (h l d : Int) : spec_FracOk.f s h l d = some (dec (FOk s h l d)) := by
  unfold spec_FracOk.f
  simp only [specWideOk, specIn, Option.bind_some]
  by_cases h1 : WOk s h l
  · rw [dec_true h1, if_pos rfl, ← dec_eq]
    congr 1
    exact dec_congr ⟨fun z => ⟨h1, z⟩, fun z => z.2⟩
  · rw [dec_false h1, if_neg (by decide), dec_false (fun z => h1 z.1)]
/-- How two numbers stand to each other. -/
def ord (u v : Int) : Int := if u < v then -1 else if u = v then 0 else 1
/-- A fraction that is no less than zero, in words. -/
def frW (v d : Int) : Bool × Int × Int × Int := (false, v / 18446744073709551616, v % 18446744073709551616, d)
def Den (d : Int) : Prop := 1 ≤ d ∧ d ≤ 1000000
theorem fok_up {v d : Int} (hv : Up v) (hd : Den d) : FOk false (v / 18446744073709551616) (v % 18446744073709551616) d := ⟨wok_up hv, hd.1, hd.2⟩
noncomputable def crossV (u d v e : Int) : Bool × Int × Int × Bool × Int × Int × Bool := ((wordsOf (u * e)).1, (wordsOf (u * e)).2.1, (wordsOf (u * e)).2.2.1, (wordsOf (v * d)).1, (wordsOf (v * d)).2.1, (wordsOf (v * d)).2.2.1, if (wordsOf (u * e)).2.2.2 = true then (wordsOf (v * d)).2.2.2 else false)
theorem implCross {u d v e : Int} (hu : Up u) (hd : Den d) (hv : Up v) (he : Den e) : Ev (fun k => impl_crossed.f k false (u / 18446744073709551616) (u % 18446744073709551616) d false (v / 18446744073709551616) (v % 18446744073709551616) e) (crossV u d v e) := by
  unfold impl_crossed.f
  unfold Den at hd he
  simp only [implFracOk, dec_true (fok_up hu hd), dec_true (fok_up hv he), Option.bind_some]
  refine ev_pos trivial (ev_succ ?_)
  simp only [impl_crossed.j0, implScale hu (show 0 ≤ e ∧ e ≤ 1000000 by omega), implScale hv (show 0 ≤ d ∧ d ≤ 1000000 by omega), Option.bind_some]
  refine ev_neg (by decide) ?_
  unfold crossV
  by_cases c : (wordsOf (u * e)).2.2.2 = true
  · refine ev_pos c (ev_of ?_)
    rw [if_pos c]
  · refine ev_neg c (ev_of ?_)
    rw [if_neg c]
theorem specCross {u d v e : Int} (hu : Up u) (hd : Den d) (hv : Up v) (he : Den e) : Ev (fun k => spec_l5Cross.f k false (u / 18446744073709551616) (u % 18446744073709551616) d false (v / 18446744073709551616) (v % 18446744073709551616) e) (crossV u d v e) := by
  unfold spec_l5Cross.f
  unfold Den at hd he
  simp only [specFracOk, dec_true (fok_up hu hd), dec_true (fok_up hv he), Option.bind_some]
  refine ev_pos trivial (ev_succ ?_)
  simp only [spec_l5Cross.j0, specScale hu (show 0 ≤ e ∧ e ≤ 1000000 by omega), specScale hv (show 0 ≤ d ∧ d ≤ 1000000 by omega), Option.bind_some]
  refine ev_neg (by decide) ?_
  unfold crossV
  by_cases c : (wordsOf (u * e)).2.2.2 = true
  · refine ev_pos c (ev_of ?_)
    rw [if_pos c]
  · refine ev_neg c (ev_of ?_)
    rw [if_neg c]
theorem wordsOf_up {v : Int} (h : Up v) : wordsOf v = (false, v / 18446744073709551616, v % 18446744073709551616, true) := by
  unfold wordsOf; rw [if_pos h.2]
theorem wordsOf_not {v : Int} (h : ¬ v < 170141183460469231731687303715884105728) : wordsOf v = (false, 0, 0, false) := by
  unfold wordsOf; rw [if_neg h]
open Classical in
/-- The sum of two fractions, and true; zeros and false where there is no room. -/
noncomputable def addF (u d v e : Int) : Bool × Int × Int × Int × Bool :=
  if (u * e < 170141183460469231731687303715884105728 ∧ v * d < 170141183460469231731687303715884105728) ∧ u * e + v * d < 170141183460469231731687303715884105728 ∧ d * e ≤ 1000000 then (false, (u * e + v * d) / 18446744073709551616, (u * e + v * d) % 18446744073709551616, d * e, true) else (false, 0, 0, 0, false)
open Classical in
noncomputable def cmpF (u d v e : Int) : Int × Bool :=
  if u * e < 170141183460469231731687303715884105728 ∧ v * d < 170141183460469231731687303715884105728 then (ord (u * e) (v * d), true) else (0, false)
theorem den_mul {d e : Int} (hd : Den d) (he : Den e) : 1 ≤ d * e ∧ d * e ≤ 1000000 * 1000000 := by
  unfold Den at hd he
  have h1 : 0 < d * e := Int.mul_pos (by omega) (by omega)
  have h2 : d * e ≤ 1000000 * 1000000 := Int.mul_le_mul hd.2 he.2 (by omega) (by omega)
  exact ⟨by omega, h2⟩
theorem up_mul {v k : Int} (hv : Up v) (hk : Den k) : 0 ≤ v * k := Int.mul_nonneg hv.1 (by unfold Den at hk; omega)
theorem implMulWide {a b : Int} (ha : I64 a) (hb : I64 b) : impl_MulWide.f a b = some (mulW a b) := by
  unfold impl_MulWide.f mulW
  have ra := absI_range ha
  have rb := absI_range hb
  have rp : 0 ≤ absI a * absI b := Int.mul_nonneg ra.1 rb.1
  simp only [implSize ha, implSize hb, mul64 (a := absI a) (b := absI b) (by omega) (by omega), Option.bind_some]
  rw [implWideOf _ (by omega) (by omega)]
  have e : decide (0 < absI a * absI b / 18446744073709551616 + absI a * absI b % 18446744073709551616) = decide (0 < absI a * absI b) := by
    rw [decide_eq_decide]
    omega
  rw [e]
  rfl
theorem implFracOf (s : Bool) (h l d : Int) : impl_fracOf.f s h l d = some (fracOf s h l d) := by
  unfold impl_fracOf.f fracOf
  simp only [implFracOk, Option.bind_some]
  by_cases g : FOk s h l d
  · rw [dec_true g, if_pos rfl, if_pos g]
  · rw [dec_false g, if_neg (by decide), if_neg g]
theorem implSquareOver {g : Int} (d : Int) (hg : I64 g) : impl_SquareOver.f g d = some (fracOf (mulW g g).1 (mulW g g).2.1 (mulW g g).2.2 d) := by
  unfold impl_SquareOver.f
  simp only [implMulWide hg hg, implFracOf, Option.bind_some]
theorem implPlainGain {g : Int} (n lam : Int) (hg : I64 g) : impl_PlainGain.f n g lam = some (plainG n g lam) := by
  unfold impl_PlainGain.f plainG
  simp only [implCount, implSquareOver _ hg, Option.bind_some]
  by_cases h : (0 ≤ n ∧ n ≤ 40) ∧ (1 ≤ lam ∧ lam ≤ 100)
  · rw [if_pos (by simpa using h), if_pos h, w64 (by omega) (by omega)]
  · rw [if_neg (by simpa using h), if_neg h]
theorem specMulWide {a b : Int} (ha : I64 a) (hb : I64 b) : spec_MulWide.f a b = some (mulW a b) := by
  unfold spec_MulWide.f mulW
  have ra := absI_range ha
  have rb := absI_range hb
  have hp := absI_mul_pos a b
  simp only [specAbs ha, specAbs hb, specProduct (a := absI a) (b := absI b) (by omega) (by omega), Option.bind_some]
  by_cases h : ((decide (a < 0)) != (decide (b < 0))) = true
  · rw [if_pos h, h]
    by_cases h1 : a = 0
    · rw [if_pos h1]
      have : ¬ (0 < absI a * absI b) := fun z => (hp.1 z).1 h1
      simp [this]
    · rw [if_neg h1]
      by_cases h2 : b = 0
      · subst h2
        simp [absI]
      · have : 0 < absI a * absI b := hp.2 ⟨h1, h2⟩
        simp [this, h2]
  · rw [if_neg h]
    simp only [Bool.not_eq_true] at h
    rw [h]
    simp
theorem specSquareOver {g : Int} (d : Int) (hg : I64 g) : spec_SquareOver.f g d = some (fracOf (mulW g g).1 (mulW g g).2.1 (mulW g g).2.2 d) := by
  unfold spec_SquareOver.f fracOf
  simp only [specMulWide hg hg, specFracOk, Option.bind_some]
  by_cases h : FOk (mulW g g).1 (mulW g g).2.1 (mulW g g).2.2 d
  · rw [dec_true h, if_pos rfl, if_pos h]
  · rw [dec_false h, if_neg (by decide), if_neg h]
theorem specPlainGain {g : Int} (n lam : Int) (hg : I64 g) : spec_PlainGain.f n g lam = some (plainG n g lam) := by
  unfold spec_PlainGain.f plainG
  simp only [specIn, specSquareOver _ hg, Option.bind_some]
  by_cases h1 : 0 ≤ n ∧ n ≤ 40
  · by_cases h2 : 1 ≤ lam ∧ lam ≤ 100
    · rw [if_pos (by simpa using h1), if_pos (by simpa using h2), if_pos ⟨h1, h2⟩, w64 (by omega) (by omega)]
    · rw [if_pos (by simpa using h1), if_neg (by simpa using h2), if_neg (fun z => h2 z.2)]
  · rw [if_neg (by simpa using h1), if_neg (fun z => h1 z.1)]
theorem implAddF {u d v e : Int} (hu : Up u) (hd : Den d) (hv : Up v) (he : Den e) : Ev (fun k => impl_AddFrac.f k false (u / 18446744073709551616) (u % 18446744073709551616) d false (v / 18446744073709551616) (v % 18446744073709551616) e) (addF u d v e) := by
  unfold impl_AddFrac.f
  refine Ev.bind (implCross hu hd hv he) ?_
  have h1 := up_mul hu he
  have h2 := up_mul hv hd
  have h3 := den_mul hd he
  unfold crossV addF
  generalize u * e = p at *
  generalize v * d = q at *
  by_cases c1 : p < 170141183460469231731687303715884105728
  · by_cases c2 : q < 170141183460469231731687303715884105728
    · have P : Up p := ⟨h1, c1⟩
      have Q : Up q := ⟨h2, c2⟩
      simp only [wordsOf_up P, wordsOf_up Q, if_true]
      refine Ev.bind (implAddW P Q) ?_
      by_cases c3 : p + q < 170141183460469231731687303715884105728
      · simp only [wordsOf_up (show Up (p + q) from ⟨by omega, c3⟩), if_true]
        rw [w64 (x := d * e) (by omega) (by omega), implFracOf]
        simp only [Option.bind_some]
        refine ev_of ?_
        unfold fracOf
        by_cases c4 : d * e ≤ 1000000
        · rw [if_pos ⟨wok_up (show Up (p + q) from ⟨by omega, c3⟩), h3.1, c4⟩, if_pos ⟨⟨c1, c2⟩, c3, c4⟩]
        · rw [if_neg (fun z => c4 z.2.2), if_neg (fun z => c4 z.2.2)]
      · simp only [wordsOf_not c3]
        refine ev_neg (by decide) (ev_of ?_)
        rw [if_neg (fun z => c3 z.2.1)]
    · simp only [wordsOf_up (show Up p from ⟨h1, c1⟩), wordsOf_not c2, if_true]
      refine ev_neg (by decide) (ev_of ?_)
      rw [if_neg (fun z => c2 z.1.2)]
  · simp only [wordsOf_not c1]
    refine ev_neg (by simp) (ev_of ?_)
    rw [if_neg (fun z => c1 z.1.1)]
theorem specAddF {u d v e : Int} (hu : Up u) (hd : Den d) (hv : Up v) (he : Den e) : Ev (fun k => spec_AddFrac.f k false (u / 18446744073709551616) (u % 18446744073709551616) d false (v / 18446744073709551616) (v % 18446744073709551616) e) (addF u d v e) := by
  unfold spec_AddFrac.f
  refine Ev.bind (specCross hu hd hv he) ?_
  have h1 := up_mul hu he
  have h2 := up_mul hv hd
  have h3 := den_mul hd he
  unfold crossV addF
  generalize u * e = p at *
  generalize v * d = q at *
  by_cases c1 : p < 170141183460469231731687303715884105728
  · by_cases c2 : q < 170141183460469231731687303715884105728
    · have P : Up p := ⟨h1, c1⟩
      have Q : Up q := ⟨h2, c2⟩
      simp only [wordsOf_up P, wordsOf_up Q, if_true]
      refine Ev.bind (specAddW P Q) ?_
      by_cases c3 : p + q < 170141183460469231731687303715884105728
      · have PQ : Up (p + q) := ⟨by omega, c3⟩
        simp only [wordsOf_up PQ, if_true]
        rw [w64 (x := d * e) (by omega) (by omega), specFracOk]
        simp only [Option.bind_some]
        by_cases c4 : d * e ≤ 1000000
        · refine ev_pos (dec_true ⟨wok_up PQ, h3.1, c4⟩) (ev_of ?_)
          rw [if_pos ⟨⟨c1, c2⟩, c3, c4⟩]
        · refine ev_neg (by rw [dec_false (fun z => c4 z.2.2)]; decide) (ev_of ?_)
          rw [if_neg (fun z => c4 z.2.2)]
      · simp only [wordsOf_not c3]
        refine ev_neg (by decide) (ev_of ?_)
        rw [if_neg (fun z => c3 z.2.1)]
    · simp only [wordsOf_up (show Up p from ⟨h1, c1⟩), wordsOf_not c2, if_true]
      refine ev_neg (by decide) (ev_of ?_)
      rw [if_neg (fun z => c2 z.1.2)]
  · simp only [wordsOf_not c1]
    refine ev_neg (by simp) (ev_of ?_)
    rw [if_neg (fun z => c1 z.1.1)]
theorem plainG_eq (n lam : Int) {g : Int} (hg : I64 g) : plainG n g lam = if (0 ≤ n ∧ n ≤ 40) ∧ (1 ≤ lam ∧ lam ≤ 100) then (false, g * g / 18446744073709551616, g * g % 18446744073709551616, n + lam, true) else (false, 0, 0, 0, false) := by
  have hs := sq_room hg
  unfold plainG
  by_cases c : (0 ≤ n ∧ n ≤ 40) ∧ (1 ≤ lam ∧ lam ≤ 100)
  · rw [if_pos c, if_pos c, mulW_norm]
    unfold norm
    rw [absI_up hs.1, decide_eq_false (show ¬ g * g < 0 by omega)]
    unfold fracOf
    rw [if_pos ⟨⟨by simp only; omega, fun z => by simp at z⟩, by omega, by omega⟩]
  · rw [if_neg c, if_neg c]
theorem sq_up {g : Int} (hg : I64 g) : Up (g * g) := by
  have hs := sq_room hg
  exact ⟨hs.1, by omega⟩
/-- The score of a candidate. -/
noncomputable def gainV (n g n' g' lam : Int) : Bool × Int × Int × Int × Bool :=
  if ((0 ≤ n ∧ n ≤ 40) ∧ (1 ≤ lam ∧ lam ≤ 100)) ∧ (0 ≤ n' ∧ n' ≤ 40) then addF (g * g) (n + lam) (g' * g') (n' + lam) else (false, 0, 0, 0, false)
theorem implGainOf (f b n g n' g' lam : Int) (hg : I64 g) (hg' : I64 g') : Ev (fun k => impl_GainOf.f k f b n g n' g' lam) (gainV n g n' g' lam) := by
  unfold impl_GainOf.f gainV
  simp only [implPlainGain n lam hg, implPlainGain n' lam hg', Option.bind_some, plainG_eq n lam hg, plainG_eq n' lam hg']
  by_cases c1 : (0 ≤ n ∧ n ≤ 40) ∧ (1 ≤ lam ∧ lam ≤ 100)
  · by_cases c2 : 0 ≤ n' ∧ n' ≤ 40
    · simp only [if_pos c1, if_pos (show (0 ≤ n' ∧ n' ≤ 40) ∧ (1 ≤ lam ∧ lam ≤ 100) from ⟨c2, c1.2⟩), if_pos (show ((0 ≤ n ∧ n ≤ 40) ∧ (1 ≤ lam ∧ lam ≤ 100)) ∧ (0 ≤ n' ∧ n' ≤ 40) from ⟨c1, c2⟩)]
      refine ev_pos trivial (ev_pos trivial ?_)
      exact Ev.bind (implAddF (sq_up hg) ⟨by omega, by omega⟩ (sq_up hg') ⟨by omega, by omega⟩) (Ev.now _)
    · simp only [if_pos c1, if_neg (show ¬ ((0 ≤ n' ∧ n' ≤ 40) ∧ (1 ≤ lam ∧ lam ≤ 100)) from fun z => c2 z.1), if_neg (show ¬ (((0 ≤ n ∧ n ≤ 40) ∧ (1 ≤ lam ∧ lam ≤ 100)) ∧ (0 ≤ n' ∧ n' ≤ 40)) from fun z => c2 z.2)]
      exact ev_pos trivial (ev_neg (by decide) (Ev.now _))
  · simp only [if_neg c1, if_neg (show ¬ (((0 ≤ n ∧ n ≤ 40) ∧ (1 ≤ lam ∧ lam ≤ 100)) ∧ (0 ≤ n' ∧ n' ≤ 40)) from fun z => c1 z.1)]
    exact ev_neg (by decide) (Ev.now _)
theorem specGainOf (f b n g n' g' lam : Int) (hg : I64 g) (hg' : I64 g') : Ev (fun k => spec_GainOf.f k f b n g n' g' lam) (gainV n g n' g' lam) := by
  unfold spec_GainOf.f gainV
  simp only [specPlainGain n lam hg, specPlainGain n' lam hg', Option.bind_some, plainG_eq n lam hg, plainG_eq n' lam hg']
  by_cases c1 : (0 ≤ n ∧ n ≤ 40) ∧ (1 ≤ lam ∧ lam ≤ 100)
  · by_cases c2 : 0 ≤ n' ∧ n' ≤ 40
    · simp only [if_pos c1, if_pos (show (0 ≤ n' ∧ n' ≤ 40) ∧ (1 ≤ lam ∧ lam ≤ 100) from ⟨c2, c1.2⟩), if_pos (show ((0 ≤ n ∧ n ≤ 40) ∧ (1 ≤ lam ∧ lam ≤ 100)) ∧ (0 ≤ n' ∧ n' ≤ 40) from ⟨c1, c2⟩)]
      refine ev_pos trivial (ev_pos trivial ?_)
      exact Ev.bind (specAddF (sq_up hg) ⟨by omega, by omega⟩ (sq_up hg') ⟨by omega, by omega⟩) (Ev.now _)
    · simp only [if_pos c1, if_neg (show ¬ ((0 ≤ n' ∧ n' ≤ 40) ∧ (1 ≤ lam ∧ lam ≤ 100)) from fun z => c2 z.1), if_neg (show ¬ (((0 ≤ n ∧ n ≤ 40) ∧ (1 ≤ lam ∧ lam ≤ 100)) ∧ (0 ≤ n' ∧ n' ≤ 40)) from fun z => c2 z.2)]
      exact ev_pos trivial (ev_neg (by decide) (Ev.now _))
  · simp only [if_neg c1, if_neg (show ¬ (((0 ≤ n ∧ n ≤ 40) ∧ (1 ≤ lam ∧ lam ≤ 100)) ∧ (0 ≤ n' ∧ n' ≤ 40)) from fun z => c1 z.1)]
    exact ev_neg (by decide) (Ev.now _)
theorem addF_cases {u d v e : Int} (hu : Up u) (hd : Den d) (hv : Up v) (he : Den e) : addF u d v e = (false, 0, 0, 0, false) ∨ (Up (u * e + v * d) ∧ Den (d * e) ∧ addF u d v e = (false, (u * e + v * d) / 18446744073709551616, (u * e + v * d) % 18446744073709551616, d * e, true)) := by
  have h1 := up_mul hu he
  have h2 := up_mul hv hd
  have h3 := den_mul hd he
  unfold addF
  by_cases c : (u * e < 170141183460469231731687303715884105728 ∧ v * d < 170141183460469231731687303715884105728) ∧ u * e + v * d < 170141183460469231731687303715884105728 ∧ d * e ≤ 1000000
  · rw [if_pos c]
    exact .inr ⟨⟨by omega, c.2.1⟩, ⟨h3.1, c.2.2⟩, rfl⟩
  · rw [if_neg c]
    exact .inl rfl
theorem gainV_cases (n g n' g' lam : Int) (hg : I64 g) (hg' : I64 g') : gainV n g n' g' lam = (false, 0, 0, 0, false) ∨ ∃ v d, Up v ∧ Den d ∧ gainV n g n' g' lam = (false, v / 18446744073709551616, v % 18446744073709551616, d, true) := by
  unfold gainV
  by_cases c : ((0 ≤ n ∧ n ≤ 40) ∧ (1 ≤ lam ∧ lam ≤ 100)) ∧ (0 ≤ n' ∧ n' ≤ 40)
  · rw [if_pos c]
    rcases addF_cases (sq_up hg) (show Den (n + lam) from ⟨by omega, by omega⟩) (sq_up hg') (show Den (n' + lam) from ⟨by omega, by omega⟩) with h | ⟨h1, h2, h3⟩
    · exact .inl h
    · exact .inr ⟨_, _, h1, h2, h3⟩
  · rw [if_neg c]
    exact .inl rfl
theorem plainG_cases (n lam : Int) {g : Int} (hg : I64 g) : plainG n g lam = (false, 0, 0, 0, false) ∨ ∃ v d, Up v ∧ Den d ∧ plainG n g lam = (false, v / 18446744073709551616, v % 18446744073709551616, d, true) := by
  rw [plainG_eq n lam hg]
  by_cases c : (0 ≤ n ∧ n ≤ 40) ∧ (1 ≤ lam ∧ lam ≤ 100)
  · rw [if_pos c]
    exact .inr ⟨_, _, sq_up hg, ⟨by omega, by omega⟩, rfl⟩
  · rw [if_neg c]
    exact .inl rfl
theorem cmpOr2 (a b : Int) : Ev (fun k => cmp_Or_int.f k [a, b]) (if a = 0 then b else a) := by
  have h2 : Ev (fun k => cmp_Or_int.l0 k 0 [a, b] 2 2) 0 := ev_end fun k => by
    simp only [cmp_Or_int.l0]
    rw [if_neg (by omega)]
  have w1 : wrap64 (1 + 1) = 2 := w64 (by omega) (by omega)
  have w0 : wrap64 (0 + 1) = 1 := w64 (by omega) (by omega)
  have h1 : Ev (fun k => cmp_Or_int.l0 k 0 [a, b] 2 1) b := by
    by_cases hb : b = 0
    · subst hb
      refine Ev.step (fun k => ?_) h2
      simp only [cmp_Or_int.l0]
      rw [if_pos (by omega), if_pos (by omega), if_pos (by simp), if_pos (by simp [rd]), w1]
    · refine ev_end fun k => ?_
      simp only [cmp_Or_int.l0]
      rw [if_pos (by omega), if_pos (by omega), if_pos (by simp), if_neg (by simpa [rd] using hb)]
      simp [rd]
  by_cases ha : a = 0
  · rw [if_pos ha]
    subst ha
    refine Ev.step (fun k => ?_) h1
    simp only [cmp_Or_int.f, cmp_Or_int.l0, List.length_cons, List.length_nil]
    rw [if_pos (by omega), if_pos (by omega), if_pos (by simp), if_pos (by simp [rd]), w0]
    rfl
  · rw [if_neg ha]
    refine ev_end fun k => ?_
    simp only [cmp_Or_int.f, cmp_Or_int.l0, List.length_cons, List.length_nil]
    rw [if_pos (by omega), if_pos (by omega), if_pos (by simp), if_neg (by simpa [rd] using ha)]
    simp [rd]
theorem cmpU64 (a b : Int) : cmp_Compare_uint64.f a b = some (if a < b then -1 else if a > b then 1 else 0) := by
  unfold cmp_Compare_uint64.f cmp_isNaN_uint64.f
  simp only [Option.bind_some, bne_self_eq_false, Bool.false_eq_true, if_false]
  split
  · rfl
  · split <;> rfl
theorem implSizes (s t : Bool) (u v : Int) : Ev (fun k => impl_compareSizes.f k s (u / 18446744073709551616) (u % 18446744073709551616) t (v / 18446744073709551616) (v % 18446744073709551616)) (ord u v) := by
  unfold impl_compareSizes.f
  simp only [cmpU64, Option.bind_some]
  refine ev_eq (Ev.bind (cmpOr2 _ _) (Ev.now _)) ?_
  unfold ord
  by_cases a : u / 18446744073709551616 < v / 18446744073709551616
  · rw [if_pos a, if_neg (by decide), if_pos (by omega)]
  · rw [if_neg a]
    by_cases b : u / 18446744073709551616 > v / 18446744073709551616
    · rw [if_pos b, if_neg (by decide), if_neg (by omega), if_neg (by omega)]
    · rw [if_neg b, if_pos rfl]
      by_cases c : u % 18446744073709551616 < v % 18446744073709551616
      · rw [if_pos c, if_pos (by omega)]
      · rw [if_neg c]
        by_cases d : u % 18446744073709551616 > v % 18446744073709551616
        · rw [if_pos d, if_neg (by omega), if_neg (by omega)]
        · rw [if_neg d, if_neg (by omega), if_pos (by omega)]
theorem specOrder (s t : Bool) (u v : Int) : Ev (fun k => spec_l3Order.f k s (u / 18446744073709551616) (u % 18446744073709551616) t (v / 18446744073709551616) (v % 18446744073709551616)) (ord u v) := by
  unfold spec_l3Order.f
  have less : ∀ h : u < v, Ev (fun k => spec_l3Order.j0 k true s (u / 18446744073709551616) (u % 18446744073709551616) t (v / 18446744073709551616) (v % 18446744073709551616)) (ord u v) := fun h => ev_end fun k => by
    simp only [spec_l3Order.j0]
    unfold ord
    rw [if_pos trivial, if_pos h]
  have rest : ∀ h : ¬ u < v, Ev (fun k => spec_l3Order.j0 k false s (u / 18446744073709551616) (u % 18446744073709551616) t (v / 18446744073709551616) (v % 18446744073709551616)) (ord u v) := fun h => ev_end fun k => by
    simp only [spec_l3Order.j0]
    unfold ord
    rw [if_neg (by decide), if_neg h]
    by_cases c : u / 18446744073709551616 > v / 18446744073709551616
    · rw [if_pos c, if_neg (by omega)]
    · rw [if_neg c]
      by_cases d : u % 18446744073709551616 > v % 18446744073709551616
      · rw [if_pos d, if_neg (by omega)]
      · rw [if_neg d, if_pos (by omega)]
  by_cases a : u / 18446744073709551616 < v / 18446744073709551616
  · exact ev_pos a (less (by omega))
  · refine ev_neg a ?_
    by_cases b : u / 18446744073709551616 = v / 18446744073709551616
    · refine ev_pos b ?_
      by_cases c : u % 18446744073709551616 < v % 18446744073709551616
      · rw [decide_eq_true c]; exact less (by omega)
      · rw [decide_eq_false c]; exact rest (by omega)
    · exact ev_neg b (rest (by omega))
theorem implCmpW {u v : Int} (hu : Up u) (hv : Up v) : Ev (fun k => impl_CompareWide.f k false (u / 18446744073709551616) (u % 18446744073709551616) false (v / 18446744073709551616) (v % 18446744073709551616)) (ord u v) := by
  unfold Up at hu hv
  unfold impl_CompareWide.f
  rw [implWideOf _ (by omega) (by omega), implWideOf _ (by omega) (by omega)]
  simp only [Option.bind_some, Bool.false_and]
  refine ev_neg (by decide) (ev_succ ?_)
  simp only [impl_CompareWide.j0]
  refine ev_neg (by decide) (ev_neg (by decide) (ev_succ ?_))
  simp only [impl_CompareWide.j1]
  exact ev_neg (by decide) (ev_neg (by decide) (Ev.bind (implSizes false false u v) (Ev.now _)))
theorem specCmpW (u v : Int) : Ev (fun k => spec_CompareWide.f k false (u / 18446744073709551616) (u % 18446744073709551616) false (v / 18446744073709551616) (v % 18446744073709551616)) (ord u v) := by
  unfold spec_CompareWide.f
  refine ev_neg (by decide) (ev_succ ?_)
  simp only [spec_CompareWide.j0]
  refine ev_neg (by decide) (ev_succ ?_)
  simp only [spec_CompareWide.j1]
  refine ev_neg (by decide) (ev_succ ?_)
  simp only [spec_CompareWide.j2]
  refine ev_neg (by decide) (ev_neg (by decide) (ev_succ ?_))
  simp only [spec_CompareWide.j3]
  exact ev_neg (by decide) (ev_neg (by decide) (Ev.bind (specOrder false false u v) (Ev.now _)))
theorem implCmpF {u d v e : Int} (hu : Up u) (hd : Den d) (hv : Up v) (he : Den e) : Ev (fun k => impl_CompareFrac.f k false (u / 18446744073709551616) (u % 18446744073709551616) d false (v / 18446744073709551616) (v % 18446744073709551616) e) (cmpF u d v e) := by
  unfold impl_CompareFrac.f
  refine Ev.bind (implCross hu hd hv he) ?_
  have h1 := up_mul hu he
  have h2 := up_mul hv hd
  unfold crossV cmpF
  generalize u * e = p at *
  generalize v * d = q at *
  by_cases c1 : p < 170141183460469231731687303715884105728
  · by_cases c2 : q < 170141183460469231731687303715884105728
    · have P : Up p := ⟨h1, c1⟩
      have Q : Up q := ⟨h2, c2⟩
      simp only [wordsOf_up P, wordsOf_up Q, if_true]
      refine Ev.bind (implCmpW P Q) (ev_of ?_)
      rw [if_pos ⟨c1, c2⟩]
    · simp only [wordsOf_up (show Up p from ⟨h1, c1⟩), wordsOf_not c2, if_true]
      refine ev_neg (by decide) (ev_of ?_)
      rw [if_neg (fun z => c2 z.2)]
  · simp only [wordsOf_not c1]
    refine ev_neg (by simp) (ev_of ?_)
    rw [if_neg (fun z => c1 z.1)]
theorem specCmpF {u d v e : Int} (hu : Up u) (hd : Den d) (hv : Up v) (he : Den e) : Ev (fun k => spec_CompareFrac.f k false (u / 18446744073709551616) (u % 18446744073709551616) d false (v / 18446744073709551616) (v % 18446744073709551616) e) (cmpF u d v e) := by
  unfold spec_CompareFrac.f
  refine Ev.bind (specCross hu hd hv he) ?_
  have h1 := up_mul hu he
  have h2 := up_mul hv hd
  unfold crossV cmpF
  generalize u * e = p at *
  generalize v * d = q at *
  by_cases c1 : p < 170141183460469231731687303715884105728
  · by_cases c2 : q < 170141183460469231731687303715884105728
    · have P : Up p := ⟨h1, c1⟩
      have Q : Up q := ⟨h2, c2⟩
      simp only [wordsOf_up P, wordsOf_up Q, if_true]
      refine Ev.bind (specCmpW p q) (ev_of ?_)
      rw [if_pos ⟨c1, c2⟩]
    · simp only [wordsOf_up (show Up p from ⟨h1, c1⟩), wordsOf_not c2, if_true]
      refine ev_neg (by decide) (ev_of ?_)
      rw [if_neg (fun z => c2 z.2)]
  · simp only [wordsOf_not c1]
    refine ev_neg (by simp) (ev_of ?_)
    rw [if_neg (fun z => c1 z.1)]
theorem cross_stop (s : Bool) (h l d : Int) (t : Bool) (h' l' d' : Int) : Ev (fun k => impl_crossed.j0 k true s h l d t h' l' d') (false, 0, 0, false, 0, 0, false) := ev_end fun k => by
  simp only [impl_crossed.j0]
  rw [if_pos trivial]
theorem not_fok (s : Bool) (h l : Int) : ¬ FOk s h l 0 := fun z => by have := z.2.1; omega
/-- With no fraction there is no order. -/
theorem implCmp_left (t : Bool) (h l d : Int) : Ev (fun k => impl_CompareFrac.f k false 0 0 0 t h l d) (0, false) := by
  unfold impl_CompareFrac.f
  refine Ev.bind (a := (false, 0, 0, false, 0, 0, false)) ?_ (ev_neg (by decide) (Ev.now _))
  unfold impl_crossed.f
  simp only [implFracOk, Option.bind_some]
  exact ev_neg (by rw [dec_false (not_fok _ _ _)]; decide) (cross_stop _ _ _ _ _ _ _ _)
theorem implCmp_right (t : Bool) (h l d : Int) : Ev (fun k => impl_CompareFrac.f k t h l d false 0 0 0) (0, false) := by
  unfold impl_CompareFrac.f
  refine Ev.bind (a := (false, 0, 0, false, 0, 0, false)) ?_ (ev_neg (by decide) (Ev.now _))
  unfold impl_crossed.f
  simp only [implFracOk, Option.bind_some]
  by_cases c : FOk t h l d
  · refine ev_pos (dec_true c) ?_
    rw [dec_false (not_fok _ _ _)]
    exact cross_stop _ _ _ _ _ _ _ _
  · exact ev_neg (by rw [dec_false c]; decide) (cross_stop _ _ _ _ _ _ _ _)
/-- Two slots together. -/
def plusS (n g n' g' : Int) : Int × Int × Bool := if (addI n n').2 = true ∧ (addI g g').2 = true then ((addI n n').1, (addI g g').1, true) else (0, 0, false)
theorem plusS_i64 (n g n' g' : Int) : I64 (plusS n g n' g').1 ∧ I64 (plusS n g n' g').2.1 := by
  unfold plusS
  split
  · exact ⟨addI_i64 _ _, addI_i64 _ _⟩
  · exact ⟨⟨by decide, by decide⟩, ⟨by decide, by decide⟩⟩
theorem implAddInt {a b : Int} (ha : I64 a) (hb : I64 b) : impl_AddInt.f a b = some (addI a b) := by
  unfold I64 at ha hb
  unfold impl_AddInt.f addI
  by_cases h : -9223372036854775808 ≤ a + b ∧ a + b ≤ 9223372036854775807
  · rw [if_pos h, w64 h.1 h.2]
    split
    · rename_i h1
      rw [if_neg]
      simp only [beq_iff_eq, decide_eq_decide] at h1
      simp only [bne_iff_ne, ne_eq, decide_eq_decide, Decidable.not_not]
      omega
    · rfl
  · rw [if_neg h]
    have h2 : a + b < -9223372036854775808 ∨ 9223372036854775807 < a + b := by omega
    rw [if_pos (by simp only [beq_iff_eq, decide_eq_decide]; omega)]
    rcases h2 with h2 | h2
    · rw [wrap_under h2 (by omega), if_pos]
      simp only [bne_iff_ne, ne_eq, decide_eq_decide]
      omega
    · rw [wrap_over h2 (by omega), if_pos]
      simp only [bne_iff_ne, ne_eq, decide_eq_decide]
      omega
theorem implPlus {n g n' g' : Int} (h1 : I64 n) (h2 : I64 g) (h3 : I64 n') (h4 : I64 g') : impl_Slot_plus.f n g n' g' = some (plusS n g n' g') := by
  unfold impl_Slot_plus.f plusS
  simp only [implAddInt h1 h3, implAddInt h2 h4, Option.bind_some]
  by_cases a : (addI n n').2 = true
  · by_cases b : (addI g g').2 = true
    · rw [if_pos a, if_pos b, if_pos ⟨a, b⟩]
    · rw [if_pos a, if_neg b, if_neg (fun z => b z.2)]
  · rw [if_neg a, if_neg (fun z => a z.1)]
theorem specAddInt {a b : Int} (ha : I64 a) (hb : I64 b) : spec_AddInt.f a b = some (addI a b) := by
  unfold I64 at ha hb
  unfold spec_AddInt.f addI
  by_cases h1 : b > 0
  · rw [if_pos h1, w64 (x := 9223372036854775807 - b) (by omega) (by omega)]
    by_cases h2 : a > 9223372036854775807 - b
    · rw [if_pos h2, if_neg (by omega)]
    · rw [if_neg h2, if_neg (by omega), if_pos (by omega), w64 (by omega) (by omega)]
  · rw [if_neg h1]
    by_cases h2 : b < 0
    · rw [if_pos h2, w64 (x := -9223372036854775808 - b) (by omega) (by omega)]
      by_cases h3 : a < -9223372036854775808 - b
      · rw [if_pos h3, if_neg (by omega)]
      · rw [if_neg h3, if_pos (by omega), w64 (by omega) (by omega)]
    · rw [if_neg h2, if_pos (by omega), w64 (by omega) (by omega)]
theorem specAdd13 {n g n' g' : Int} (h1 : I64 n) (h2 : I64 g) (h3 : I64 n') (h4 : I64 g') : spec_l13Add.f n g n' g' = some (plusS n g n' g') := by
  unfold spec_l13Add.f plusS
  simp only [specAddInt h1 h3, specAddInt h2 h4, Option.bind_some]
  by_cases a : (addI n n').2 = true
  · by_cases b : (addI g g').2 = true
    · rw [if_pos a, if_pos b, if_pos ⟨a, b⟩]
    · rw [if_pos a, if_neg b, if_neg (fun z => b z.2)]
  · rw [if_neg a, if_neg (fun z => a z.1)]
theorem improves_both (a b n g n' g' lam : Int) (hn : I64 n) (hg : I64 g) (hn' : I64 n') (hg' : I64 g') :
    ∃ r, Ev (fun k => impl_Improves.f k a b n g n' g' lam) r ∧ Ev (fun k => spec_Improves.f k a b n g n' g' lam) r ∧
      (r = true → (plusS n g n' g').2.2 = true ∧ ∃ u d v e, Up u ∧ Den d ∧ Up v ∧ Den e ∧ gainV n g n' g' lam = (false, u / 18446744073709551616, u % 18446744073709551616, d, true) ∧ plainG (plusS n g n' g').1 (plusS n g n' g').2.1 lam = (false, v / 18446744073709551616, v % 18446744073709551616, e, true) ∧ (cmpF u d v e).1 > 0) := by
  have i1 := implGainOf a b n g n' g' lam hg hg'
  have s1 := specGainOf a b n g n' g' lam hg hg'
  have ip := implPlus hn hg hn' hg'
  have sp := specAdd13 hn hg hn' hg'
  have hb := plusS_i64 n g n' g'
  unfold impl_Improves.f spec_Improves.f impl_BothOf.f spec_BothOf.f
  simp only [ip, sp, Option.bind_some]
  have i2 := implPlainGain (plusS n g n' g').1 lam hb.2
  have s2 := specPlainGain (plusS n g n' g').1 lam hb.2
  simp only [i2, s2, Option.bind_some]
  generalize hB : plusS n g n' g' = B at *
  rcases gainV_cases n g n' g' lam hg hg' with x | ⟨u, d, hu, hd, x⟩
  · rw [x] at i1 s1
    refine ⟨false, Ev.bind i1 (Ev.bind (implCmp_left _ _ _ _) (ev_neg (by decide) (Ev.now _))), Ev.bind s1 ?_, fun z => by simp at z⟩
    by_cases c0 : B.2.2 = true
    · exact ev_pos c0 (ev_neg (by decide) (Ev.now _))
    · exact ev_neg c0 (Ev.now _)
  rw [x] at i1 s1
  rcases plainG_cases B.1 lam hb.2 with y | ⟨v, e, hv, he, y⟩
  · rw [y]
    refine ⟨false, Ev.bind i1 (Ev.bind (implCmp_right _ _ _ _) (ev_pos rfl ?_)), Ev.bind s1 ?_, fun z => by simp at z⟩
    · by_cases c0 : B.2.2 = true
      · exact ev_pos c0 (ev_neg (by decide) (Ev.now _))
      · exact ev_neg c0 (Ev.now _)
    · by_cases c0 : B.2.2 = true
      · exact ev_pos c0 (ev_pos rfl (ev_neg (by decide) (Ev.now _)))
      · exact ev_neg c0 (Ev.now _)
  rw [y]
  have ci := implCmpF hu hd hv he
  have cs := specCmpF hu hd hv he
  by_cases c0 : B.2.2 = true
  · by_cases c : (cmpF u d v e).2 = true
    · refine ⟨decide ((cmpF u d v e).1 > 0), Ev.bind i1 (Ev.bind ci (ev_pos rfl (ev_pos c0 (ev_pos rfl (ev_pos c (Ev.now _)))))), Ev.bind s1 (ev_pos c0 (ev_pos rfl (ev_pos rfl (Ev.bind cs (ev_pos c (Ev.now _)))))), fun z => ⟨c0, u, d, v, e, hu, hd, hv, he, x, rfl, by simpa using z⟩⟩
    · exact ⟨false, Ev.bind i1 (Ev.bind ci (ev_pos rfl (ev_pos c0 (ev_pos rfl (ev_neg c (Ev.now _)))))), Ev.bind s1 (ev_pos c0 (ev_pos rfl (ev_pos rfl (Ev.bind cs (ev_neg c (Ev.now _)))))), fun z => by simp at z⟩
  · exact ⟨false, Ev.bind i1 (Ev.bind ci (ev_pos rfl (ev_neg c0 (Ev.now _)))), Ev.bind s1 (ev_neg c0 (Ev.now _)), fun z => by simp at z⟩
/-- The settings are right. -/
def NumsOk (a b c d e : Int) : Prop := (1 ≤ a ∧ a ≤ 8) ∧ (0 ≤ b ∧ b ≤ 4) ∧ (2 ≤ c ∧ c ≤ 8) ∧ (1 ≤ d ∧ d ≤ 100) ∧ (1 ≤ e ∧ e ≤ 20)
def RateOk (f g : Int) (l : List Int) : Prop := (1 ≤ g ∧ g ≤ 1000) ∧ (1 ≤ f ∧ f ≤ g) ∧ (l.length : Int) ≤ 4
def SignsOk (l : List Int) : Prop := ∀ j : Nat, j < l.length → -1 ≤ rd l (j : Int) ∧ rd l (j : Int) ≤ 1
def CfgOk (a b c d e f g : Int) (l : List Int) : Prop := NumsOk a b c d e ∧ SignsOk l ∧ RateOk f g l
theorem specCfg_l1 (a b c d e f g : Int) (l : List Int) (hl : l.length ≤ 1048576) : Ev (fun k => spec_ConfigOk.l1 k 0 a b c d e f g l) (dec (SignsOk l ∧ RateOk f g l)) := by
  refine ev_eq (all_loop2 (fun k i => spec_ConfigOk.l1 k i a b c d e f g l) l.length (fun j => -1 ≤ rd l (j : Int) ∧ rd l (j : Int) ≤ 1) (RateOk f g l) ?_ ?_ ?_ l.length 0 (by omega)) (dec_congr ⟨fun h => ⟨fun j hj => h.1 j (by omega) hj, h.2⟩, fun h => ⟨fun j _ hj => h.1 j hj, h.2⟩⟩)
  · refine ev_succ ?_
    simp only [spec_ConfigOk.l1, specIn, Option.bind_some]
    refine ev_neg (by omega) ?_
    unfold RateOk
    by_cases h1 : 1 ≤ g ∧ g ≤ 1000
    · refine ev_pos (decide_eq_true h1) ?_
      by_cases h2 : 1 ≤ f ∧ f ≤ g
      · refine ev_pos (decide_eq_true h2) (ev_eq (Ev.now _) ?_)
        rw [← dec_eq]
        exact dec_congr ⟨fun h => ⟨h1, h2, h⟩, fun h => h.2.2⟩
      · exact ev_neg (by simpa using h2) (ev_eq (Ev.now _) (dec_false (fun h => h2 h.2.1)).symm)
    · exact ev_neg (by simpa using h1) (ev_eq (Ev.now _) (dec_false (fun h => h1 h.1)).symm)
  · intro n r hn hp h
    refine ev_succ ?_
    simp only [spec_ConfigOk.l1, specIn, Option.bind_some]
    refine ev_pos (by omega) (ev_pos (by omega) (ev_pos (decide_eq_true hp) ?_))
    rw [w64 (x := (n : Int) + 1) (by omega) (by omega)]
    exact h
  · intro n hn hp
    refine ev_succ ?_
    simp only [spec_ConfigOk.l1, specIn, Option.bind_some]
    exact ev_pos (by omega) (ev_pos (by omega) (ev_neg (by simpa using hp) (Ev.now _)))
theorem specConfigOk (a b c d e f g : Int) (l : List Int) (hl : l.length ≤ 1048576) : Ev (fun k => spec_ConfigOk.f k a b c d e f g l) (dec (CfgOk a b c d e f g l)) := by
  unfold spec_ConfigOk.f spec_l8Numbers.f
  simp only [Option.bind_some]
  have fin := specCfg_l1 a b c d e f g l hl
  have w1 : wrap64 (0 + 1) = 1 := w64 (by omega) (by omega)
  have w2 : wrap64 (1 + 1) = 2 := w64 (by omega) (by omega)
  have w3 : wrap64 (2 + 1) = 3 := w64 (by omega) (by omega)
  have w4 : wrap64 (3 + 1) = 4 := w64 (by omega) (by omega)
  have w5 : wrap64 (4 + 1) = 5 := w64 (by omega) (by omega)
  have r0 : rd [a, b, c, d, e] 0 = a := rfl
  have r1 : rd [a, b, c, d, e] 1 = b := rfl
  have r2 : rd [a, b, c, d, e] 2 = c := rfl
  have r3 : rd [a, b, c, d, e] 3 = d := rfl
  have r4 : rd [a, b, c, d, e] 4 = e := rfl
  have l0 : rd [1, 0, 2, 1, 1] 0 = 1 := rfl
  have l1 : rd [1, 0, 2, 1, 1] 1 = 0 := rfl
  have l2 : rd [1, 0, 2, 1, 1] 2 = 2 := rfl
  have l3 : rd [1, 0, 2, 1, 1] 3 = 1 := rfl
  have l4 : rd [1, 0, 2, 1, 1] 4 = 1 := rfl
  have m0 : rd [8, 4, 8, 100, 20] 0 = 8 := rfl
  have m1 : rd [8, 4, 8, 100, 20] 1 = 4 := rfl
  have m2 : rd [8, 4, 8, 100, 20] 2 = 8 := rfl
  have m3 : rd [8, 4, 8, 100, 20] 3 = 100 := rfl
  have m4 : rd [8, 4, 8, 100, 20] 4 = 20 := rfl
  unfold CfgOk NumsOk
  refine ev_succ ?_
  simp only [spec_ConfigOk.l0, spec_l8Least.f, spec_l8Most.f, specIn, Option.bind_some, r0, l0, m0, w1]
  refine ev_pos (by omega) (ev_pos (by omega) (ev_pos (by simp) (ev_pos (by simp) (ev_pos (by simp) ?_))))
  by_cases h0 : 1 ≤ a ∧ a ≤ 8
  case neg => exact ev_neg (by simpa using h0) (ev_eq (Ev.now _) (dec_false (fun h => h0 h.1.1)).symm)
  refine ev_pos (decide_eq_true h0) (ev_succ ?_)
  simp only [spec_ConfigOk.l0, spec_l8Least.f, spec_l8Most.f, specIn, Option.bind_some, r1, l1, m1, w2]
  refine ev_pos (by omega) (ev_pos (by omega) (ev_pos (by simp) (ev_pos (by simp) (ev_pos (by simp) ?_))))
  by_cases h1 : 0 ≤ b ∧ b ≤ 4
  case neg => exact ev_neg (by simpa using h1) (ev_eq (Ev.now _) (dec_false (fun h => h1 h.1.2.1)).symm)
  refine ev_pos (decide_eq_true h1) (ev_succ ?_)
  simp only [spec_ConfigOk.l0, spec_l8Least.f, spec_l8Most.f, specIn, Option.bind_some, r2, l2, m2, w3]
  refine ev_pos (by omega) (ev_pos (by omega) (ev_pos (by simp) (ev_pos (by simp) (ev_pos (by simp) ?_))))
  by_cases h2 : 2 ≤ c ∧ c ≤ 8
  case neg => exact ev_neg (by simpa using h2) (ev_eq (Ev.now _) (dec_false (fun h => h2 h.1.2.2.1)).symm)
  refine ev_pos (decide_eq_true h2) (ev_succ ?_)
  simp only [spec_ConfigOk.l0, spec_l8Least.f, spec_l8Most.f, specIn, Option.bind_some, r3, l3, m3, w4]
  refine ev_pos (by omega) (ev_pos (by omega) (ev_pos (by simp) (ev_pos (by simp) (ev_pos (by simp) ?_))))
  by_cases h3 : 1 ≤ d ∧ d ≤ 100
  case neg => exact ev_neg (by simpa using h3) (ev_eq (Ev.now _) (dec_false (fun h => h3 h.1.2.2.2.1)).symm)
  refine ev_pos (decide_eq_true h3) (ev_succ ?_)
  simp only [spec_ConfigOk.l0, spec_l8Least.f, spec_l8Most.f, specIn, Option.bind_some, r4, l4, m4, w5]
  refine ev_pos (by omega) (ev_pos (by omega) (ev_pos (by simp) (ev_pos (by simp) (ev_pos (by simp) ?_))))
  by_cases h4 : 1 ≤ e ∧ e ≤ 20
  case neg => exact ev_neg (by simpa using h4) (ev_eq (Ev.now _) (dec_false (fun h => h4 h.1.2.2.2.2)).symm)
  refine ev_pos (decide_eq_true h4) (ev_succ ?_)
  simp only [spec_ConfigOk.l0]
  exact ev_neg (by omega) (ev_eq fin (dec_congr ⟨fun h => ⟨⟨h0, h1, h2, h3, h4⟩, h⟩, fun h => h.2⟩))
theorem implSign (x : Int) : impl_isSign.f x = some (decide (-1 ≤ x ∧ x ≤ 1)) := by
  unfold impl_isSign.f
  rw [implWithin]; rfl
theorem index_sign (l : List Int) (hl : l.length ≤ 1048576) : ∀ (d n : Nat), n + d = l.length → ∃ r : Int, Ev (fun k => slices_IndexFunc_int_int.l0 k l (l.length : Int) (n : Int)) r ∧ (0 ≤ r ↔ ∃ j, n ≤ j ∧ j < l.length ∧ ¬ (-1 ≤ rd l (j : Int) ∧ rd l (j : Int) ≤ 1)) := by
  intro d
  induction d with
  | zero =>
    intro n hn
    refine ⟨-1, ev_succ ?_, ⟨fun h => by omega, fun ⟨j, h1, h2, _⟩ => by omega⟩⟩
    simp only [slices_IndexFunc_int_int.l0]
    exact ev_neg (by omega) (Ev.now _)
  | succ d ih =>
    intro n hn
    have hw : wrap64 ((n : Int) + 1) = ((n + 1 : Nat) : Int) := w64 (by omega) (by omega)
    by_cases h : -1 ≤ rd l (n : Int) ∧ rd l (n : Int) ≤ 1
    · obtain ⟨r, e, hr⟩ := ih (n + 1) (by omega)
      refine ⟨r, ev_succ ?_, hr.trans ⟨fun ⟨j, h1, h2, h3⟩ => ⟨j, by omega, h2, h3⟩, fun ⟨j, h1, h2, h3⟩ => ⟨j, ?_, h2, h3⟩⟩⟩
      · simp only [slices_IndexFunc_int_int.l0, impl_ConfigOk_1.f, implSign, Option.bind_some, hw]
        exact ev_pos (by omega) (ev_pos (by omega) (ev_pos (by omega) (ev_neg (by simpa using h) e)))
      · by_cases c : j = n
        · subst c; exact absurd h h3
        · omega
    · refine ⟨(n : Int), ev_succ ?_, ⟨fun _ => ⟨n, by omega, by omega, h⟩, fun _ => by omega⟩⟩
      simp only [slices_IndexFunc_int_int.l0, impl_ConfigOk_1.f, implSign, Option.bind_some]
      exact ev_pos (by omega) (ev_pos (by omega) (ev_pos (by omega) (ev_pos (by simp; omega) (Ev.now _))))
theorem containsSign (l : List Int) (hl : l.length ≤ 1048576) : Ev (fun k => slices_ContainsFunc_int_int.f k l ()) (!dec (SignsOk l)) := by
  unfold slices_ContainsFunc_int_int.f slices_IndexFunc_int_int.f
  obtain ⟨r, e, hr⟩ := index_sign l hl l.length 0 (by omega)
  refine Ev.bind e (ev_of ?_)
  congr 1
  by_cases h : SignsOk l
  · rw [dec_true h]
    have : ¬ 0 ≤ r := fun z => by obtain ⟨j, _, h2, h3⟩ := hr.1 z; exact h3 (h j h2)
    simp; omega
  · rw [dec_false h]
    have : 0 ≤ r := hr.2 (Classical.byContradiction fun z => h fun j hj => Classical.byContradiction fun y => z ⟨j, by omega, hj, y⟩)
    simp; omega
theorem implConfigOk (a b c d e f g : Int) (l : List Int) (hl : l.length ≤ 1048576) : Ev (fun k => impl_ConfigOk.f k a b c d e f g l) (dec (CfgOk a b c d e f g l)) := by
  unfold impl_ConfigOk.f CfgOk NumsOk RateOk
  simp only [implWithin, Option.bind_some]
  by_cases h0 : 1 ≤ a ∧ a ≤ 8
  case neg => exact ev_neg (by simpa using h0) (ev_eq (Ev.now _) (dec_false (fun h => h0 h.1.1)).symm)
  refine ev_pos (decide_eq_true h0) ?_
  by_cases h1 : 0 ≤ b ∧ b ≤ 4
  case neg => exact ev_neg (by simpa using h1) (ev_eq (Ev.now _) (dec_false (fun h => h1 h.1.2.1)).symm)
  refine ev_pos (decide_eq_true h1) ?_
  by_cases h2 : 2 ≤ c ∧ c ≤ 8
  case neg => exact ev_neg (by simpa using h2) (ev_eq (Ev.now _) (dec_false (fun h => h2 h.1.2.2.1)).symm)
  refine ev_pos (decide_eq_true h2) ?_
  by_cases h3 : 1 ≤ d ∧ d ≤ 100
  case neg => exact ev_neg (by simpa using h3) (ev_eq (Ev.now _) (dec_false (fun h => h3 h.1.2.2.2.1)).symm)
  refine ev_pos (decide_eq_true h3) ?_
  by_cases h4 : 1 ≤ e ∧ e ≤ 20
  case neg => exact ev_neg (by simpa using h4) (ev_eq (Ev.now _) (dec_false (fun h => h4 h.1.2.2.2.2)).symm)
  refine ev_pos (decide_eq_true h4) ?_
  by_cases h5 : 1 ≤ g ∧ g ≤ 1000
  case neg => exact ev_neg (by simpa using h5) (ev_eq (Ev.now _) (dec_false (fun h => h5 h.2.2.1)).symm)
  refine ev_pos (decide_eq_true h5) ?_
  by_cases h6 : 1 ≤ f ∧ f ≤ g
  case neg => exact ev_neg (by simpa using h6) (ev_eq (Ev.now _) (dec_false (fun h => h6 h.2.2.2.1)).symm)
  refine ev_pos (decide_eq_true h6) ?_
  by_cases h7 : (l.length : Int) ≤ 4
  case neg => exact ev_neg h7 (ev_eq (Ev.now _) (dec_false (fun h => h7 h.2.2.2.2)).symm)
  refine ev_pos h7 (Ev.bind (containsSign l hl) (ev_of ?_))
  rw [Bool.not_not]
  congr 1
  exact dec_congr ⟨fun h => ⟨⟨h0, h1, h2, h3, h4⟩, h, h5, h6, h7⟩, fun h => h.2.1⟩

def signV (l : List Int) (n : Int) : Int := if 0 ≤ n ∧ n ≤ (l.length : Int) - 1 then rd l n else 0
theorem specSignFor (a b c d e f g n : Int) (l : List Int) (hl : l.length ≤ 1048576) : spec_SignFor.f a b c d e f g l n = some (signV l n) := by
  unfold spec_SignFor.f signV
  rw [w64 (x := (l.length : Int) - 1) (by omega) (by omega), specIn]
  simp only [Option.bind_some]
  by_cases h : 0 ≤ n ∧ n ≤ (l.length : Int) - 1
  · rw [if_pos (decide_eq_true h), if_pos h.1, if_pos (by omega), if_pos h]
  · rw [if_neg (by simpa using h), if_neg h]
theorem implSignFor (a b c d e f g n : Int) (l : List Int) (hl : l.length ≤ 1048576) : impl_SignFor.f a b c d e f g l n = some (signV l n) := by
  unfold impl_SignFor.f signV
  rw [w64 (x := (l.length : Int) - 1) (by omega) (by omega), implWithin]
  simp only [Option.bind_some]
  by_cases h : 0 ≤ n ∧ n ≤ (l.length : Int) - 1
  · rw [if_pos (decide_eq_true h), if_pos h.1, if_pos (by omega), if_pos h]
  · rw [if_neg (by simpa using h), if_neg h]
theorem mayPart_both (a b c d e f g : Int) (l : List Int) (lo hi p q n s n' s' : Int) (hl : l.length ≤ 1048576) (h1 : I64 n) (h2 : I64 s) (h3 : I64 n') (h4 : I64 s') :
    ∃ r, Ev (fun k => impl_MayPart.f k a b c d e f g l lo hi p q n s n' s') r ∧ Ev (fun k => spec_MayPart.f k a b c d e f g l lo hi p q n s n' s') r := by
  unfold impl_MayPart.f spec_MayPart.f
  obtain ⟨r, i, j, _⟩ := improves_both p q n s n' s' d h1 h2 h3 h4
  have S1 := specSideValues a b c d e f g l lo hi p q n s n' s'
  have S2 := implSideValues a b c d e f g l lo hi p q n s n' s'
  generalize sideV d lo hi n s n' s' = V at S1 S2
  have C1 := specConfigOk a b c d e f g l hl
  have C2 := implConfigOk a b c d e f g l hl
  generalize dec (CfgOk a b c d e f g l) = C at C1 C2
  by_cases k1 : C = true
  case neg => exact ⟨false, Ev.bind S2 (Ev.bind C2 (ev_neg k1 (Ev.now _))), Ev.bind S1 (Ev.bind C1 (ev_neg k1 (Ev.now _)))⟩
  by_cases k2 : V.2.2 = true
  case neg => exact ⟨false, Ev.bind S2 (Ev.bind C2 (ev_pos k1 (ev_neg k2 (Ev.now _)))), Ev.bind S1 (Ev.bind C1 (ev_pos k1 (ev_neg k2 (Ev.now _))))⟩
  by_cases k3 : n ≥ e
  case neg => exact ⟨false, Ev.bind S2 (Ev.bind C2 (ev_pos k1 (ev_pos k2 (ev_neg k3 (Ev.now _))))), Ev.bind S1 (Ev.bind C1 (ev_pos k1 (ev_pos k2 (ev_neg k3 (Ev.now _)))))⟩
  by_cases k4 : n' ≥ e
  case neg => exact ⟨false, Ev.bind S2 (Ev.bind C2 (ev_pos k1 (ev_pos k2 (ev_pos k3 (ev_neg k4 (Ev.now _)))))), Ev.bind S1 (Ev.bind C1 (ev_pos k1 (ev_pos k2 (ev_pos k3 (ev_neg k4 (Ev.now _))))))⟩
  by_cases k5 : dec (Agree (signV l p) V.1 V.2.1) = true
  · refine ⟨r, Ev.bind S2 (Ev.bind C2 (ev_pos k1 (ev_pos k2 (ev_pos k3 (ev_pos k4 ?_))))), Ev.bind S1 (Ev.bind C1 (ev_pos k1 (ev_pos k2 (ev_pos k3 (ev_pos k4 ?_)))))⟩
    · simp only [implSignFor _ _ _ _ _ _ _ _ _ hl, implAgrees, Option.bind_some]
      exact ev_pos k5 (Ev.bind i (Ev.now _))
    · simp only [specSignFor _ _ _ _ _ _ _ _ _ hl, specAgrees, Option.bind_some]
      exact ev_pos k5 (Ev.bind j (Ev.now _))
  · refine ⟨false, Ev.bind S2 (Ev.bind C2 (ev_pos k1 (ev_pos k2 (ev_pos k3 (ev_pos k4 ?_))))), Ev.bind S1 (Ev.bind C1 (ev_pos k1 (ev_pos k2 (ev_pos k3 (ev_pos k4 ?_)))))⟩
    · simp only [implSignFor _ _ _ _ _ _ _ _ _ hl, implAgrees, Option.bind_some]
      exact ev_neg k5 (Ev.now _)
    · simp only [specSignFor _ _ _ _ _ _ _ _ _ hl, specAgrees, Option.bind_some]
      exact ev_neg k5 (Ev.now _)
theorem FnExactMayPart (a0_0 : Int) (a0_1 : Int) (a0_2 : Int) (a0_3 : Int) (a0_4 : Int) (a0_5 : Int) (a0_6 : Int) (l0_7 : List Int) (a1_0 : Int) (a1_1 : Int) (a2_0 : Int) (a2_1 : Int) (a2_2 : Int) (a2_3 : Int) (a2_4 : Int) (a2_5 : Int)
    (w0_0 : (Lit.int .i64 a0_0).wf = true) (w0_1 : (Lit.int .i64 a0_1).wf = true) (w0_2 : (Lit.int .i64 a0_2).wf = true) (w0_3 : (Lit.int .i64 a0_3).wf = true) (w0_4 : (Lit.int .i64 a0_4).wf = true) (w0_5 : (Lit.int .i64 a0_5).wf = true) (w0_6 : (Lit.int .i64 a0_6).wf = true) (w0_7 : l0_7.length ≤ maxLen ∧ ∀ x ∈ l0_7, (Lit.int .i64 x).wf = true) (w1_0 : (Lit.int .i64 a1_0).wf = true) (w1_1 : (Lit.int .i64 a1_1).wf = true) (w2_0 : (Lit.int .i64 a2_0).wf = true) (w2_1 : (Lit.int .i64 a2_1).wf = true) (w2_2 : (Lit.int .i64 a2_2).wf = true) (w2_3 : (Lit.int .i64 a2_3).wf = true) (w2_4 : (Lit.int .i64 a2_4).wf = true) (w2_5 : (Lit.int .i64 a2_5).wf = true) : ∃ k, laws_FnExactMayPart.f k a0_0 a0_1 a0_2 a0_3 a0_4 a0_5 a0_6 l0_7 a1_0 a1_1 a2_0 a2_1 a2_2 a2_3 a2_4 a2_5 = some true := by
  refine Ev.rounds ?_
  unfold laws_FnExactMayPart.f
  rw [szConfig _ _ _ _ _ _ _ l0_7 1048576 (by omega) (by omega) w0_7.1]
  simp only [Option.bind_some]
  by_cases b0 : (1048576 : Int) < l0_7.length
  · rw [if_pos b0]
    exact ev_pos (by omega) (Ev.now _)
  rw [if_neg b0]
  have t0 := toConfig a0_0 a0_1 a0_2 a0_3 a0_4 a0_5 a0_6 l0_7 (by omega)
  obtain ⟨r, i, s⟩ := mayPart_both a0_0 a0_1 a0_2 a0_3 a0_4 a0_5 a0_6 l0_7 a1_0 a1_1 a2_0 a2_1 a2_2 a2_3 a2_4 a2_5 (by omega) (i64_wf w2_2) (i64_wf w2_3) (i64_wf w2_4) (i64_wf w2_5)
  refine ev_neg (by omega) (Ev.bind t0 ?_)
  simp only [laws_toBound.f, laws_toCand.f, laws_toSlot.f, Option.bind_some]
  refine Ev.bind s (Ev.bind t0 (Ev.bind i (ev_neg (by simp) (Ev.bind t0 (Ev.bind (eqConfig a0_0 a0_1 a0_2 a0_3 a0_4 a0_5 a0_6 l0_7 (by omega)) (ev_pos rfl (Ev.now _)))))))

end Go.Proofs.Ytaepeajaefpooaa.Pure
