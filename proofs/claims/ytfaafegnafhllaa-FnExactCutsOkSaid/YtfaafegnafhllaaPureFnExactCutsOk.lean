/- impl.CutsOk returns what spec.CutsOk returns and leaves its slice as it was, for all arguments. Conditions: none but the row's own.
-/
import Derived.Test.YtfaafegnafhllaaQFnExactCutsOkx2
set_option linter.unusedVariables false
set_option linter.unusedSimpArgs false
namespace Go.Proofs.Ytfaafegnafhllaa.Pure
open Go.RowKit Go.Proofs.Ytfaafegnafhllaa.QFnExactCutsOk Go.Proofs.YtfaafegnafhllaaW.PrintWords Go.Proofs.YtfaafegnafhllaaW.PrintLast Go.Proofs.YtfaafegnafhllaaW.PrintMore

theorem w64 {x : Int} (h1 : -9223372036854775808 ≤ x) (h2 : x ≤ 9223372036854775807) : wrap64 x = x := by unfold wrap64; omega
theorem i64_wf {x : Int} (h : (Lit.int .i64 x).wf = true) : -9223372036854775808 ≤ x ∧ x ≤ 9223372036854775807 := by
  simpa [Lit.wf, IntKind.min, IntKind.max, IntKind.signed, IntKind.bits] using h
theorem u8_wf {x : Int} (h : (Lit.int .u8 x).wf = true) : 0 ≤ x ∧ x ≤ 255 := by
  simpa [Lit.wf, IntKind.min, IntKind.max, IntKind.signed, IntKind.bits] using h
theorem rd_eq {xs : List Int} {i : Int} (h0 : 0 ≤ i) (h : i < (xs.length : Int)) : xs[i.toNat]? = some (rd xs i) := by
  unfold rd
  rw [List.getD_eq_getElem?_getD, List.getElem?_eq_getElem (by omega)]
  rfl
theorem rd_mem {xs : List Int} {i : Int} (h0 : 0 ≤ i) (h : i < (xs.length : Int)) : rd xs i ∈ xs := List.mem_of_getElem? (rd_eq h0 h)
theorem rd_of {xs : List Int} {n : Nat} {v : Int} (h : xs[n]? = some v) : rd xs (n : Int) = v := by
  unfold rd
  rw [List.getD_eq_getElem?_getD, Int.toNat_natCast, h]
  rfl
theorem ev_of {α : Type} {r : α} {p : Option α} (h : p = some r) : Ev (fun _ => p) r := ⟨0, fun _ _ => h⟩
theorem ev_end {α : Type} {g : Nat → Option α} {r : α} (h : ∀ k, g (k + 1) = some r) : Ev g r := Ev.step (f := fun _ => some r) h (Ev.now r)
theorem ev_pos {α : Type} {c : Prop} [Decidable c] {f g : Nat → Option α} {r : α} (hc : c) (h : Ev f r) : Ev (fun k => if c then f k else g k) r := Ev.congr (fun _ => if_pos hc) h
theorem ev_neg {α : Type} {c : Prop} [Decidable c] {f g : Nat → Option α} {r : α} (hc : ¬ c) (h : Ev g r) : Ev (fun k => if c then f k else g k) r := Ev.congr (fun _ => if_neg hc) h
theorem rd_drop {xs : List Int} {n : Nat} (h : n < xs.length) : xs.drop n = rd xs (n : Int) :: xs.drop (n + 1) := by
  rw [List.drop_eq_getElem_cons h]
  congr 1
  unfold rd
  rw [List.getD_eq_getElem?_getD, Int.toNat_natCast, List.getElem?_eq_getElem h]
  rfl
noncomputable def dec (p : Prop) : Bool := @decide p (Classical.propDecidable p)
theorem dec_true {p : Prop} (h : p) : dec p = true := @decide_eq_true p (Classical.propDecidable p) h
theorem dec_false {p : Prop} (h : ¬ p) : dec p = false := @decide_eq_false p (Classical.propDecidable p) h
theorem dec_iff {p : Prop} : dec p = true ↔ p := @decide_eq_true_iff p (Classical.propDecidable p)
theorem dec_congr {p q : Prop} (h : p ↔ q) : dec p = dec q := by rw [propext h]
theorem dec_eq {p : Prop} [Decidable p] : dec p = decide p := by
  by_cases h : p
  · rw [dec_true h, decide_eq_true h]
  · rw [dec_false h, decide_eq_false h]
theorem ev_succ {α : Type} {g : Nat → Option α} {r : α} (h : Ev (fun k => g (k + 1)) r) : Ev g r := by
  obtain ⟨K, h⟩ := h
  refine ⟨K + 1, fun n hn => ?_⟩
  obtain ⟨m, rfl⟩ : ∃ m, n = m + 1 := ⟨n - 1, by omega⟩
  exact h m (by omega)
theorem ev_eq {α : Type} {g : Nat → Option α} {r r' : α} (h : Ev g r) (e : r = r') : Ev g r' := e ▸ h
theorem gd_eq {α : Type} (z : α) {xs : List α} {i : Int} (h0 : 0 ≤ i) (h : i < (xs.length : Int)) : xs[i.toNat]? = some (xs.getD i.toNat z) := by
  rw [List.getD_eq_getElem?_getD, List.getElem?_eq_getElem (by omega)]
  rfl
theorem gd_nat {α : Type} (z : α) {xs : List α} {n : Nat} {v : α} (h : xs[n]? = some v) : xs.getD ((n : Int)).toNat z = v := by
  rw [List.getD_eq_getElem?_getD, Int.toNat_natCast, h]
  rfl
theorem gd_drop {α : Type} (z : α) {xs : List α} {n : Nat} (h : n < xs.length) : xs.drop n = xs.getD ((n : Int)).toNat z :: xs.drop (n + 1) := by
  rw [List.drop_eq_getElem_cons h]
  congr 1
  exact (gd_nat z (List.getElem?_eq_getElem h)).symm
/-- A loop that copies: place after place is set. -/
theorem copy_loop {α β : Type} (F : Nat → List β → Int → Option (List β)) (l : List α) (g : α → β)
    (hend : ∀ acc : List β, acc.length = l.length → Ev (fun k => F k acc (l.length : Int)) acc)
    (hstep : ∀ (acc : List β) (n : Nat) (x : α) (r : List β), n < l.length → acc.length = l.length → l[n]? = some x → Ev (fun k => F k (acc.set n (g x)) ((n + 1 : Nat) : Int)) r → Ev (fun k => F k acc (n : Int)) r) :
    ∀ (d n : Nat) (acc : List β), n + d = l.length → acc.length = l.length → (∀ j, j < n → acc[j]? = (l.map g)[j]?) → Ev (fun k => F k acc (n : Int)) (l.map g) := by
  intro d
  induction d with
  | zero =>
    intro n acc hn ha hp
    obtain rfl : n = l.length := by omega
    refine ev_eq (hend acc ha) (List.ext_getElem? fun j => ?_)
    by_cases h : j < l.length
    · exact hp j h
    · rw [List.getElem?_eq_none (by omega), List.getElem?_eq_none (by simp; omega)]
  | succ d ih =>
    intro n acc hn ha hp
    have hx : l[n]? = some l[n] := List.getElem?_eq_getElem (by omega)
    refine hstep acc n l[n] _ (by omega) ha hx (ih (n + 1) _ (by omega) (by simpa using ha) ?_)
    intro j hj
    rw [List.getElem?_set]
    by_cases h : n = j
    · subst h
      rw [if_pos rfl, if_pos (by omega), List.getElem?_map, hx]
      rfl
    · rw [if_neg h]
      exact hp j (by omega)
/-- A loop that tests place after place. -/
theorem all_loop (F : Nat → Int → Option Bool) (L : Nat) (p : Nat → Prop) (hend : Ev (fun k => F k (L : Int)) true)
    (hyes : ∀ (n : Nat) (r : Bool), n < L → p n → Ev (fun k => F k ((n + 1 : Nat) : Int)) r → Ev (fun k => F k (n : Int)) r)
    (hno : ∀ n : Nat, n < L → ¬ p n → Ev (fun k => F k (n : Int)) false) :
    ∀ (d n : Nat), n + d = L → Ev (fun k => F k (n : Int)) (dec (∀ j, n ≤ j → j < L → p j)) := by
  intro d
  induction d with
  | zero =>
    intro n hn
    obtain rfl : n = L := by omega
    exact ev_eq hend (dec_true (fun j h1 h2 => by omega)).symm
  | succ d ih =>
    intro n hn
    by_cases h : p n
    · refine hyes n _ (by omega) h (ev_eq (ih (n + 1) (by omega)) (dec_congr ⟨fun g j h1 h2 => ?_, fun g j h1 h2 => g j (by omega) h2⟩))
      by_cases e : j = n
      · exact e ▸ h
      · exact g j (by omega) h2
    · exact ev_eq (hno n (by omega) h) (dec_false (fun g => h (g n (Nat.le_refl _) (by omega)))).symm
/-- A loop that goes round L times over a state. -/
theorem fold_loop {σ ρ : Type} (F : Nat → σ → Int → Option ρ) (L : Nat) (S : Nat → σ) (r : ρ) (hend : Ev (fun k => F k (S L) (L : Int)) r)
    (hstep : ∀ n : Nat, n < L → Ev (fun k => F k (S (n + 1)) ((n + 1 : Nat) : Int)) r → Ev (fun k => F k (S n) (n : Int)) r) :
    ∀ (d n : Nat), n + d = L → Ev (fun k => F k (S n) (n : Int)) r := by
  intro d
  induction d with
  | zero =>
    intro n hn
    obtain rfl : n = L := by omega
    exact hend
  | succ d ih =>
    intro n hn
    exact hstep n (by omega) (ih (n + 1) (by omega))
theorem set_mid {α : Type} (a b : List α) (x v : α) {n : Nat} (h : a.length = n) : (a ++ x :: b).set n v = a ++ v :: b := by
  subst h
  rw [List.set_append_right _ _ (Nat.le_refl _), Nat.sub_self]
  rfl
theorem get_mid {α : Type} (a b : List α) (x : α) {n : Nat} (h : a.length = n) : (a ++ x :: b)[n]? = some x := by
  subst h
  rw [List.getElem?_append_right (Nat.le_refl _), Nat.sub_self]
  rfl
/-- A loop that tests place after place, and one thing more at its end. -/
theorem all_loop2 (F : Nat → Int → Option Bool) (L : Nat) (p : Nat → Prop) (E : Prop) (hend : Ev (fun k => F k (L : Int)) (dec E))
    (hyes : ∀ (n : Nat) (r : Bool), n < L → p n → Ev (fun k => F k ((n + 1 : Nat) : Int)) r → Ev (fun k => F k (n : Int)) r)
    (hno : ∀ n : Nat, n < L → ¬ p n → Ev (fun k => F k (n : Int)) false) :
    ∀ (d n : Nat), n + d = L → Ev (fun k => F k (n : Int)) (dec ((∀ j, n ≤ j → j < L → p j) ∧ E)) := by
  intro d
  induction d with
  | zero =>
    intro n hn
    obtain rfl : n = L := by omega
    exact ev_eq hend (dec_congr ⟨fun h => ⟨fun j h1 h2 => by omega, h⟩, fun h => h.2⟩)
  | succ d ih =>
    intro n hn
    by_cases h : p n
    · refine hyes n _ (by omega) h (ev_eq (ih (n + 1) (by omega)) (dec_congr ⟨fun g => ⟨fun j h1 h2 => ?_, g.2⟩, fun g => ⟨fun j h1 h2 => g.1 j (by omega) h2, g.2⟩⟩))
      by_cases e : j = n
      · exact e ▸ h
      · exact g.1 j (by omega) h2
    · exact ev_eq (hno n (by omega) h) (dec_false (fun g => h (g.1 n (Nat.le_refl _) (by omega)))).symm
theorem toIntS_l0 (l : List Int) (hl : l.length ≤ 35184372088832) : ∀ (d n : Nat) (acc : List Int), n + d = l.length → acc.length = l.length → (∀ j, j < n → acc[j]? = l[j]?) → Ev (fun k => laws_toIntS.l0 k l acc (n : Int)) l := by
  intro d
  induction d with
  | zero =>
    intro n acc hn ha hp
    refine ev_end fun k => ?_
    simp only [laws_toIntS.l0]
    rw [if_neg (by omega)]
    congr 1
    exact List.ext_getElem? fun j => by
      by_cases h : j < n
      · exact hp j h
      · rw [List.getElem?_eq_none (by omega), List.getElem?_eq_none (by omega)]
  | succ d ih =>
    intro n acc hn ha hp
    refine Ev.step (fun k => ?_) (ih (n + 1) (acc.set n (rd l n)) (by omega) (by simpa using ha) ?_)
    · simp only [laws_toIntS.l0]
      rw [if_pos (by omega), if_pos (by omega), if_pos (by omega), w64 (by omega) (by omega)]
      rfl
    intro j hj
    rw [List.getElem?_set]
    by_cases h : j = n
    · subst h
      rw [if_pos (by omega), if_pos (by omega), ← rd_eq (by omega) (by omega)]
      simp
    · rw [if_neg (by omega)]
      exact hp j (by omega)
theorem toIntS (l : List Int) (hl : l.length ≤ 35184372088832) : Ev (fun k => laws_toIntS.f k l) l := by
  refine Ev.congr (fun k => ?_) (toIntS_l0 l hl l.length 0 (List.replicate l.length 0) (by omega) (by simp) (fun j h => by omega))
  unfold laws_toIntS.f
  rw [if_pos (by omega), if_pos (by omega)]
  rfl
theorem eqIntS_l0 (l : List Int) (hl : l.length ≤ 35184372088832) : ∀ (d n : Nat), n + d = l.length → Ev (fun k => laws_eqIntS.l0 k l l (n : Int)) true := by
  intro d
  induction d with
  | zero =>
    intro n hn
    refine ev_end fun k => ?_
    simp only [laws_eqIntS.l0]
    rw [if_neg (by omega)]
  | succ d ih =>
    intro n hn
    refine Ev.step (fun k => ?_) (ih (n + 1) (by omega))
    simp only [laws_eqIntS.l0]
    rw [if_pos (by omega), if_pos (by omega), if_pos (by omega), if_pos trivial, w64 (by omega) (by omega)]
    rfl
theorem eqIntS (l : List Int) (hl : l.length ≤ 35184372088832) : Ev (fun k => laws_eqIntS.f k l l) true := by
  refine Ev.congr (fun k => ?_) (eqIntS_l0 l hl l.length 0 (by omega))
  unfold laws_eqIntS.f
  rw [if_pos rfl]
  rfl
def Deci (x : Int) : Prop := -2147483647 ≤ x ∧ x ≤ 2147483647
/-- Cut points that are valid. -/
def CutsP (c : List Int) : Prop := (∀ j : Nat, 0 ≤ j → j < c.length → Deci (rd c (j : Int)) ∧ (0 < j → rd c ((j : Int) - 1) < rd c (j : Int))) ∧ c.length ≤ 7
theorem specIn (a b c : Int) : spec_l1In.f a b c = some (decide (b ≤ a ∧ a ≤ c)) := by
  unfold spec_l1In.f
  by_cases h : b ≤ a
  · rw [if_pos h]; simp [h]
  · rw [if_neg h]; simp [h]
theorem spec6 (x : Int) : spec_l6Value.f x = some (decide (-2147483647 ≤ x ∧ x ≤ 2147483647)) := by
  unfold spec_l6Value.f
  rw [specIn]; rfl
theorem specCutsOk (c : List Int) (hl : c.length ≤ 1048576) : Ev (fun k => spec_CutsOk.f k c) (dec (CutsP c)) := by
  unfold spec_CutsOk.f CutsP
  refine all_loop2 (fun k i => spec_CutsOk.l0 k c i) c.length (fun j => Deci (rd c (j : Int)) ∧ (0 < j → rd c ((j : Int) - 1) < rd c (j : Int))) (c.length ≤ 7) ?_ ?_ ?_ c.length 0 (by omega)
  · refine ev_succ ?_
    simp only [spec_CutsOk.l0]
    refine ev_neg (by omega) (ev_of ?_)
    rw [← dec_eq]
    congr 1
    exact dec_congr (by omega)
  · intro n r hn hp h
    refine ev_succ ?_
    have hw : wrap64 ((n : Int) + 1) = ((n + 1 : Nat) : Int) := w64 (by omega) (by omega)
    have h6 : (decide (-2147483647 ≤ rd c (n : Int) ∧ rd c (n : Int) ≤ 2147483647)) = true := by simpa [Deci] using hp.1
    simp only [spec_CutsOk.l0, spec6, Option.bind_some, hw, h6]
    refine ev_pos (by omega) (ev_pos (by omega) (ev_pos trivial ?_))
    by_cases h0 : 0 < n
    · rw [w64 (x := (n : Int) - 1) (by omega) (by omega)]
      exact ev_pos (by omega) (ev_pos (by omega) (ev_pos (by omega) (ev_neg (by have := hp.2 h0; omega) h)))
    · exact ev_neg (by omega) h
  · intro n hn hp
    refine ev_succ ?_
    simp only [spec_CutsOk.l0, spec6, Option.bind_some]
    refine ev_pos (by omega) (ev_pos (by omega) ?_)
    by_cases h6 : Deci (rd c (n : Int))
    · refine ev_pos (by simpa [Deci] using h6) ?_
      by_cases h0 : 0 < n
      · rw [w64 (x := (n : Int) - 1) (by omega) (by omega)]
        exact ev_pos (by omega) (ev_pos (by omega) (ev_pos (by omega) (ev_pos (by have : ¬ rd c ((n : Int) - 1) < rd c (n : Int) := fun z => hp ⟨h6, fun _ => z⟩; omega) (Ev.now _))))
      · exact absurd ⟨h6, fun z => absurd z h0⟩ hp
    · exact ev_neg (by simpa [Deci] using h6) (Ev.now _)
theorem implWithin (a b c : Int) : impl_within.f a b c = some (decide (b ≤ a ∧ a ≤ c)) := by
  unfold impl_within.f
  by_cases h : b ≤ a
  · rw [if_pos h]; simp [h]
  · rw [if_neg h]; simp [h]
theorem implDec (x : Int) : impl_isDecimal.f x = some (decide (-2147483647 ≤ x ∧ x ≤ 2147483647)) := by
  unfold impl_isDecimal.f
  rw [implWithin]; rfl
theorem index_dec (l : List Int) (hl : l.length ≤ 1048576) : ∀ (d n : Nat), n + d = l.length → ∃ r : Int, Ev (fun k => slices_IndexFunc_int_int.l0 k l (l.length : Int) (n : Int)) r ∧ (0 ≤ r ↔ ∃ j, n ≤ j ∧ j < l.length ∧ ¬ Deci (rd l (j : Int))) := by
  intro d
  induction d with
  | zero =>
    intro n hn
    refine ⟨-1, ev_succ ?_, ⟨fun h => by omega, fun ⟨j, h1, h2, _⟩ => by omega⟩⟩
    simp only [slices_IndexFunc_int_int.l0]
    exact ev_neg (by omega) (Ev.now _)
  | succ d ih =>
    intro n hn
    have hw : wrap64 ((n : Int) + 1) = ((n + 1 : Nat) : Int) := w64 (by omega) (by omega)
    by_cases h : Deci (rd l (n : Int))
    · obtain ⟨r, e, hr⟩ := ih (n + 1) (by omega)
      refine ⟨r, ev_succ ?_, hr.trans ⟨fun ⟨j, h1, h2, h3⟩ => ⟨j, by omega, h2, h3⟩, fun ⟨j, h1, h2, h3⟩ => ⟨j, ?_, h2, h3⟩⟩⟩
      · simp only [slices_IndexFunc_int_int.l0, impl_areDecimals_1.f, implDec, Option.bind_some, hw]
        exact ev_pos (by omega) (ev_pos (by omega) (ev_pos (by omega) (ev_neg (by simpa [Deci] using h) e)))
      · by_cases c : j = n
        · subst c; exact absurd h h3
        · omega
    · refine ⟨(n : Int), ev_succ ?_, ⟨fun _ => ⟨n, by omega, by omega, h⟩, fun _ => by omega⟩⟩
      simp only [slices_IndexFunc_int_int.l0, impl_areDecimals_1.f, implDec, Option.bind_some]
      exact ev_pos (by omega) (ev_pos (by omega) (ev_pos (by omega) (ev_pos (by unfold Deci at h; simp; omega) (Ev.now _))))
theorem implAreDec (l : List Int) (hl : l.length ≤ 1048576) : Ev (fun k => impl_areDecimals.f k l) (dec (∀ j : Nat, j < l.length → Deci (rd l (j : Int)))) := by
  unfold impl_areDecimals.f slices_ContainsFunc_int_int.f slices_IndexFunc_int_int.f
  obtain ⟨r, e, hr⟩ := index_dec l hl l.length 0 (by omega)
  refine Ev.bind (Ev.bind e (Ev.now _)) (ev_of ?_)
  congr 1
  by_cases h : ∀ j : Nat, j < l.length → Deci (rd l (j : Int))
  · rw [dec_true h]
    have : ¬ 0 ≤ r := fun z => by obtain ⟨j, _, h2, h3⟩ := hr.1 z; exact h3 (h j h2)
    simp; omega
  · rw [dec_false h]
    have : 0 ≤ r := hr.2 (Classical.byContradiction fun z => h fun j hj => Classical.byContradiction fun y => z ⟨j, by omega, hj, y⟩)
    simp; omega
theorem implCutsOk (c : List Int) (hl : c.length ≤ 1048576) : Ev (fun k => impl_CutsOk.f k c) (dec (CutsP c)) := by
  unfold impl_CutsOk.f
  have key := all_loop2 (fun k i => impl_CutsOk.l0 k c (i + 1)) (c.length - 1) (fun j => rd c (j : Int) < rd c ((j : Int) + 1)) (c.length ≤ 7 ∧ ∀ j : Nat, j < c.length → Deci (rd c (j : Int))) ?_ ?_ ?_ (c.length - 1) 0 (by omega)
  · refine ev_eq key (dec_congr ⟨fun ⟨h1, h2, h3⟩ => ⟨fun j _ hj => ⟨h3 j hj, fun h0 => ?_⟩, h2⟩, fun ⟨h1, h2⟩ => ⟨fun j _ hj => ?_, h2, fun j hj => (h1 j (by omega) hj).1⟩⟩)
    · have := h1 (j - 1) (by omega) (by omega)
      have e1 : ((j - 1 : Nat) : Int) = (j : Int) - 1 := by omega
      rw [e1] at this
      have e2 : (j : Int) - 1 + 1 = (j : Int) := by omega
      rwa [e2] at this
    · have := (h1 (j + 1) (by omega) (by omega)).2 (by omega)
      have e1 : ((j + 1 : Nat) : Int) - 1 = (j : Int) := by omega
      rw [e1] at this
      exact this
  · refine ev_succ ?_
    simp only [impl_CutsOk.l0]
    refine ev_neg (by omega) ?_
    by_cases h : c.length ≤ 7
    · refine ev_pos (by omega) (Ev.bind (implAreDec c hl) (ev_of ?_))
      congr 1
      exact dec_congr ⟨fun g => ⟨h, g⟩, fun g => g.2⟩
    · refine ev_neg (by omega) (ev_of ?_)
      rw [dec_false (fun g => h g.1)]
  · intro n r hn hp h
    refine ev_succ ?_
    simp only [impl_CutsOk.l0]
    have e1 : (n : Int) + 1 - 1 = (n : Int) := by omega
    have e2 : ((n + 1 : Nat) : Int) + 1 = (n : Int) + 1 + 1 := by omega
    rw [e1, w64 (x := (n : Int)) (by omega) (by omega), w64 (x := (n : Int) + 1 + 1) (by omega) (by omega)]
    rw [e2] at h
    exact ev_pos (by omega) (ev_pos (by omega) (ev_pos (by omega) (ev_pos (by omega) (ev_neg (by omega) h))))
  · intro n hn hp
    refine ev_succ ?_
    simp only [impl_CutsOk.l0]
    have e1 : (n : Int) + 1 - 1 = (n : Int) := by omega
    rw [e1, w64 (x := (n : Int)) (by omega) (by omega)]
    exact ev_pos (by omega) (ev_pos (by omega) (ev_pos (by omega) (ev_pos (by omega) (ev_pos (by omega) (Ev.now _)))))

theorem FnExactCutsOk : laws_FnExactCutsOk.Pure := by
  intro l hm hl hw
  refine Ev.rounds ?_
  unfold laws_FnExactCutsOk.f
  by_cases hb : (l.length : Int) > 1048576
  · exact ev_pos hb (Ev.now _)
  refine ev_neg hb ?_
  refine Ev.bind (toIntS l (by omega)) (Ev.bind (specCutsOk l (by omega)) (Ev.bind (toIntS l (by omega)) (Ev.bind (implCutsOk l (by omega)) (ev_neg (by simp) ?_))))
  exact Ev.bind (toIntS l (by omega)) (Ev.bind (eqIntS _ (by omega)) (ev_pos rfl (Ev.now _)))

end Go.Proofs.Ytfaafegnafhllaa.Pure
