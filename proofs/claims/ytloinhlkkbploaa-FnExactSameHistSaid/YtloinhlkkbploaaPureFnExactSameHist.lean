/- impl.SameHist returns what spec.SameHist returns and leaves its slices as they were, for all arguments. Conditions: none but the row's own.
-/
import Derived.Test.YtloinhlkkbploaaQFnExactSameHistx3
set_option linter.unusedVariables false
set_option linter.unusedSimpArgs false
namespace Go.Proofs.Ytloinhlkkbploaa.Pure
open Go.RowKit Go.Proofs.Ytloinhlkkbploaa.QFnExactSameHist Go.Proofs.YtloinhlkkbploaaW.PrintWords Go.Proofs.YtloinhlkkbploaaW.PrintLast Go.Proofs.YtloinhlkkbploaaW.PrintMore

theorem w64 {x : Int} (h1 : -9223372036854775808 ≤ x) (h2 : x ≤ 9223372036854775807) : wrap64 x = x := by unfold wrap64; omega
theorem i64_wf {x : Int} (h : (Lit.int .i64 x).wf = true) : -9223372036854775808 ≤ x ∧ x ≤ 9223372036854775807 := by
  simpa [Lit.wf, IntKind.min, IntKind.max, IntKind.signed, IntKind.bits] using h
theorem u8_wf {x : Int} (h : (Lit.int .u8 x).wf = true) : 0 ≤ x ∧ x ≤ 255 := by
  simpa [Lit.wf, IntKind.min, IntKind.max, IntKind.signed, IntKind.bits] using h
theorem rd_eq {xs : List Int} {i : Int} (h0 : 0 ≤ i) (h : i < (xs.length : Int)) : xs[i.toNat]? = some (rd xs i) := by
  unfold rd
  rw [List.getD_eq_getElem?_getD, List.getElem?_eq_getElem (by omega)]
  rfl
theorem rd_mem {xs : List Int} {i : Int} (h0 : 0 ≤ i) (h : i < (xs.length : Int)) : rd xs i ∈ xs := List.mem_of_getElem? (rd_eq h0 h)
theorem rd_of {xs : List Int} {n : Nat} {v : Int} (h : xs[n]? = some v) : rd xs (n : Int) = v := by
  unfold rd
  rw [List.getD_eq_getElem?_getD, Int.toNat_natCast, h]
  rfl
theorem ev_of {α : Type} {r : α} {p : Option α} (h : p = some r) : Ev (fun _ => p) r := ⟨0, fun _ _ => h⟩
theorem ev_end {α : Type} {g : Nat → Option α} {r : α} (h : ∀ k, g (k + 1) = some r) : Ev g r := Ev.step (f := fun _ => some r) h (Ev.now r)
theorem ev_pos {α : Type} {c : Prop} [Decidable c] {f g : Nat → Option α} {r : α} (hc : c) (h : Ev f r) : Ev (fun k => if c then f k else g k) r := Ev.congr (fun _ => if_pos hc) h
theorem ev_neg {α : Type} {c : Prop} [Decidable c] {f g : Nat → Option α} {r : α} (hc : ¬ c) (h : Ev g r) : Ev (fun k => if c then f k else g k) r := Ev.congr (fun _ => if_neg hc) h
theorem rd_drop {xs : List Int} {n : Nat} (h : n < xs.length) : xs.drop n = rd xs (n : Int) :: xs.drop (n + 1) := by
  rw [List.drop_eq_getElem_cons h]
  congr 1
  unfold rd
  rw [List.getD_eq_getElem?_getD, Int.toNat_natCast, List.getElem?_eq_getElem h]
  rfl
noncomputable def dec (p : Prop) : Bool := @decide p (Classical.propDecidable p)
theorem dec_true {p : Prop} (h : p) : dec p = true := @decide_eq_true p (Classical.propDecidable p) h
theorem dec_false {p : Prop} (h : ¬ p) : dec p = false := @decide_eq_false p (Classical.propDecidable p) h
theorem dec_iff {p : Prop} : dec p = true ↔ p := @decide_eq_true_iff p (Classical.propDecidable p)
theorem dec_congr {p q : Prop} (h : p ↔ q) : dec p = dec q := by rw [propext h]
theorem dec_eq {p : Prop} [Decidable p] : dec p = decide p := by
  by_cases h : p
  · rw [dec_true h, decide_eq_true h]
  · rw [dec_false h, decide_eq_false h]
theorem ev_succ {α : Type} {g : Nat → Option α} {r : α} (h : Ev (fun k => g (k + 1)) r) : Ev g r := by
  obtain ⟨K, h⟩ := h
  refine ⟨K + 1, fun n hn => ?_⟩
  obtain ⟨m, rfl⟩ : ∃ m, n = m + 1 := ⟨n - 1, by omega⟩
  exact h m (by omega)
theorem ev_eq {α : Type} {g : Nat → Option α} {r r' : α} (h : Ev g r) (e : r = r') : Ev g r' := e ▸ h
theorem gd_eq {α : Type} (z : α) {xs : List α} {i : Int} (h0 : 0 ≤ i) (h : i < (xs.length : Int)) : xs[i.toNat]? = some (xs.getD i.toNat z) := by
  rw [List.getD_eq_getElem?_getD, List.getElem?_eq_getElem (by omega)]
  rfl
theorem gd_nat {α : Type} (z : α) {xs : List α} {n : Nat} {v : α} (h : xs[n]? = some v) : xs.getD ((n : Int)).toNat z = v := by
  rw [List.getD_eq_getElem?_getD, Int.toNat_natCast, h]
  rfl
theorem gd_drop {α : Type} (z : α) {xs : List α} {n : Nat} (h : n < xs.length) : xs.drop n = xs.getD ((n : Int)).toNat z :: xs.drop (n + 1) := by
  rw [List.drop_eq_getElem_cons h]
  congr 1
  exact (gd_nat z (List.getElem?_eq_getElem h)).symm
/-- A loop that copies: place after place is set. -/
theorem copy_loop {α β : Type} (F : Nat → List β → Int → Option (List β)) (l : List α) (g : α → β)
    (hend : ∀ acc : List β, acc.length = l.length → Ev (fun k => F k acc (l.length : Int)) acc)
    (hstep : ∀ (acc : List β) (n : Nat) (x : α) (r : List β), n < l.length → acc.length = l.length → l[n]? = some x → Ev (fun k => F k (acc.set n (g x)) ((n + 1 : Nat) : Int)) r → Ev (fun k => F k acc (n : Int)) r) :
    ∀ (d n : Nat) (acc : List β), n + d = l.length → acc.length = l.length → (∀ j, j < n → acc[j]? = (l.map g)[j]?) → Ev (fun k => F k acc (n : Int)) (l.map g) := by
  intro d
  induction d with
  | zero =>
    intro n acc hn ha hp
    obtain rfl : n = l.length := by omega
    refine ev_eq (hend acc ha) (List.ext_getElem? fun j => ?_)
    by_cases h : j < l.length
    · exact hp j h
    · rw [List.getElem?_eq_none (by omega), List.getElem?_eq_none (by simp; omega)]
  | succ d ih =>
    intro n acc hn ha hp
    have hx : l[n]? = some l[n] := List.getElem?_eq_getElem (by omega)
    refine hstep acc n l[n] _ (by omega) ha hx (ih (n + 1) _ (by omega) (by simpa using ha) ?_)
    intro j hj
    rw [List.getElem?_set]
    by_cases h : n = j
    · subst h
      rw [if_pos rfl, if_pos (by omega), List.getElem?_map, hx]
      rfl
    · rw [if_neg h]
      exact hp j (by omega)
/-- A loop that tests place after place. -/
theorem all_loop (F : Nat → Int → Option Bool) (L : Nat) (p : Nat → Prop) (hend : Ev (fun k => F k (L : Int)) true)
    (hyes : ∀ (n : Nat) (r : Bool), n < L → p n → Ev (fun k => F k ((n + 1 : Nat) : Int)) r → Ev (fun k => F k (n : Int)) r)
    (hno : ∀ n : Nat, n < L → ¬ p n → Ev (fun k => F k (n : Int)) false) :
    ∀ (d n : Nat), n + d = L → Ev (fun k => F k (n : Int)) (dec (∀ j, n ≤ j → j < L → p j)) := by
  intro d
  induction d with
  | zero =>
    intro n hn
    obtain rfl : n = L := by omega
    exact ev_eq hend (dec_true (fun j h1 h2 => by omega)).symm
  | succ d ih =>
    intro n hn
    by_cases h : p n
    · refine hyes n _ (by omega) h (ev_eq (ih (n + 1) (by omega)) (dec_congr ⟨fun g j h1 h2 => ?_, fun g j h1 h2 => g j (by omega) h2⟩))
      by_cases e : j = n
      · exact e ▸ h
      · exact g j (by omega) h2
    · exact ev_eq (hno n (by omega) h) (dec_false (fun g => h (g n (Nat.le_refl _) (by omega)))).symm
/-- A loop that goes round L times over a state. -/
theorem fold_loop {σ ρ : Type} (F : Nat → σ → Int → Option ρ) (L : Nat) (S : Nat → σ) (r : ρ) (hend : Ev (fun k => F k (S L) (L : Int)) r)
    (hstep : ∀ n : Nat, n < L → Ev (fun k => F k (S (n + 1)) ((n + 1 : Nat) : Int)) r → Ev (fun k => F k (S n) (n : Int)) r) :
    ∀ (d n : Nat), n + d = L → Ev (fun k => F k (S n) (n : Int)) r := by
  intro d
  induction d with
  | zero =>
    intro n hn
    obtain rfl : n = L := by omega
    exact hend
  | succ d ih =>
    intro n hn
    exact hstep n (by omega) (ih (n + 1) (by omega))
theorem set_mid {α : Type} (a b : List α) (x v : α) {n : Nat} (h : a.length = n) : (a ++ x :: b).set n v = a ++ v :: b := by
  subst h
  rw [List.set_append_right _ _ (Nat.le_refl _), Nat.sub_self]
  rfl
theorem get_mid {α : Type} (a b : List α) (x : α) {n : Nat} (h : a.length = n) : (a ++ x :: b)[n]? = some x := by
  subst h
  rw [List.getElem?_append_right (Nat.le_refl _), Nat.sub_self]
  rfl
/-- A loop that tests place after place, and one thing more at its end. -/
theorem all_loop2 (F : Nat → Int → Option Bool) (L : Nat) (p : Nat → Prop) (E : Prop) (hend : Ev (fun k => F k (L : Int)) (dec E))
    (hyes : ∀ (n : Nat) (r : Bool), n < L → p n → Ev (fun k => F k ((n + 1 : Nat) : Int)) r → Ev (fun k => F k (n : Int)) r)
    (hno : ∀ n : Nat, n < L → ¬ p n → Ev (fun k => F k (n : Int)) false) :
    ∀ (d n : Nat), n + d = L → Ev (fun k => F k (n : Int)) (dec ((∀ j, n ≤ j → j < L → p j) ∧ E)) := by
  intro d
  induction d with
  | zero =>
    intro n hn
    obtain rfl : n = L := by omega
    exact ev_eq hend (dec_congr ⟨fun h => ⟨fun j h1 h2 => by omega, h⟩, fun h => h.2⟩)
  | succ d ih =>
    intro n hn
    by_cases h : p n
    · refine hyes n _ (by omega) h (ev_eq (ih (n + 1) (by omega)) (dec_congr ⟨fun g => ⟨fun j h1 h2 => ?_, g.2⟩, fun g => ⟨fun j h1 h2 => g.1 j (by omega) h2, g.2⟩⟩))
      by_cases e : j = n
      · exact e ▸ h
      · exact g.1 j (by omega) h2
    · exact ev_eq (hno n (by omega) h) (dec_false (fun g => h (g.1 n (Nat.le_refl _) (by omega)))).symm
theorem rdi (xs : List S26) (i : Int) : rd_T26 xs i = xs.getD i.toNat z26 := rfl
theorem rdl (xs : List S23) (i : Int) : rd_T23 xs i = xs.getD i.toNat z23 := rfl
/-- A slot of the law as one of the program. -/
def toS (x : S23) : S26 := ⟨x.f0, x.f1⟩
theorem szSlotS (l : List S23) (a : Int) (h0 : 0 ≤ a) (h1 : a ≤ 1048576) (hl : l.length ≤ maxLen) : laws_szSlotS.f l a = some (if a < l.length then -1 else a - l.length) := by
  unfold maxLen at hl
  unfold laws_szSlotS.f
  rw [w64 (by omega) (by omega)]
  by_cases h : a < l.length
  · rw [if_pos (by omega), if_pos h]
  · rw [if_neg (by omega), if_neg h]
theorem toSlotS (l : List S23) (hl : l.length ≤ 17592186044416) : Ev (fun k => laws_toSlotS.f k l) (l.map toS) := by
  unfold laws_toSlotS.f
  refine ev_pos (by omega) (ev_pos (by omega) ?_)
  refine copy_loop (fun k acc i => laws_toSlotS.l0 k l acc i) l toS ?_ ?_ l.length 0 _ (by omega) (by simp) (fun j h => by omega)
  · intro acc ha
    refine ev_succ ?_
    simp only [laws_toSlotS.l0]
    exact ev_neg (by omega) (Ev.now _)
  · intro acc n x r hn ha hx h
    refine ev_succ ?_
    simp only [laws_toSlotS.l0, laws_toSlot.f, Option.bind_some, rdl, gd_nat z23 hx]
    refine ev_pos (by omega) (ev_pos (by omega) (ev_pos (by omega) ?_))
    rw [w64 (x := (n : Int) + 1) (by omega) (by omega)]
    exact h
theorem eqSlotS (l : List S26) (hl : l.length ≤ 17592186044416) : Ev (fun k => laws_eqSlotS.f k l l) true := by
  unfold laws_eqSlotS.f
  refine ev_pos rfl ?_
  refine ev_eq (all_loop (fun k i => laws_eqSlotS.l0 k l l i) l.length (fun _ => True) ?_ ?_ ?_ l.length 0 (by omega)) (dec_true (fun _ _ _ => trivial))
  · refine ev_succ ?_
    simp only [laws_eqSlotS.l0]
    exact ev_neg (by omega) (Ev.now _)
  · intro n r hn _ h
    refine ev_succ ?_
    simp only [laws_eqSlotS.l0, laws_eqSlot.f, if_true, Option.bind_some]
    refine ev_pos (by omega) (ev_pos (by omega) (ev_pos (by omega) ?_))
    rw [w64 (x := (n : Int) + 1) (by omega) (by omega)]
    exact h
  · intro n hn h
    exact absurd trivial h
theorem slot_ext (x y : S26) : (!((x.f0 == y.f0)) || (!((x.f1 == y.f1)))) = true ↔ x ≠ y := by
  cases x; cases y
  simp only [Bool.or_eq_true, Bool.not_eq_true', beq_eq_false_iff_ne, ne_eq, S26.mk.injEq]
  omega
theorem same_of {l m : List S26} (hl : l.length = m.length) : dec (∀ j, 0 ≤ j → j < l.length → l[j]? = m[j]?) = dec (l = m) := dec_congr ⟨fun h => List.ext_getElem? fun j => by
  by_cases g : j < l.length
  · exact h j (by omega) g
  · rw [List.getElem?_eq_none (by omega), List.getElem?_eq_none (by omega)], fun h j _ _ => by rw [h]⟩
theorem specSameHist (l m : List S26) (hl : l.length ≤ 17592186044416) : Ev (fun k => spec_SameHist.f k l m) (dec (l = m)) := by
  unfold spec_SameHist.f
  by_cases h0 : l.length = m.length
  · refine ev_pos (by omega) (ev_eq (all_loop (fun k i => spec_SameHist.l0 k l m i) l.length (fun j => l[j]? = m[j]?) ?_ ?_ ?_ l.length 0 (by omega)) (same_of h0))
    · refine ev_succ ?_
      simp only [spec_SameHist.l0]
      exact ev_neg (by omega) (Ev.now _)
    · intro n r hn hp h
      refine ev_succ ?_
      have e1 : l[n]? = some l[n] := List.getElem?_eq_getElem hn
      simp only [spec_SameHist.l0, rdi, gd_nat z26 e1, gd_nat z26 (hp.symm.trans e1)]
      refine ev_pos (by omega) (ev_pos (by omega) (ev_pos (by omega) (ev_neg (by rw [slot_ext]; simp) ?_)))
      rw [w64 (x := (n : Int) + 1) (by omega) (by omega)]
      exact h
    · intro n hn hp
      refine ev_succ ?_
      have e1 : l[n]? = some l[n] := List.getElem?_eq_getElem hn
      have e2 : m[n]? = some m[n] := List.getElem?_eq_getElem (by omega)
      simp only [spec_SameHist.l0, rdi, gd_nat z26 e1, gd_nat z26 e2]
      refine ev_pos (by omega) (ev_pos (by omega) (ev_pos (by omega) (ev_pos (by rw [slot_ext]; exact fun z => hp (by rw [e1, e2, z])) (Ev.now _))))
  · refine ev_neg (by omega) (ev_of ?_)
    rw [dec_false (fun z => h0 (by rw [z]))]
theorem implSameHist (l m : List S26) (hl : l.length ≤ 17592186044416) : Ev (fun k => impl_SameHist.f k l m) (dec (l = m)) := by
  unfold impl_SameHist.f
  refine Ev.bind (a := dec (l = m)) ?_ (Ev.now _)
  unfold impl_Slot.f
  by_cases h0 : l.length = m.length
  · refine ev_pos (by omega) (ev_eq (all_loop (fun k i => impl_Slot.l0 k l m (l.length : Int) i) l.length (fun j => l[j]? = m[j]?) ?_ ?_ ?_ l.length 0 (by omega)) (same_of h0))
    · refine ev_succ ?_
      simp only [impl_Slot.l0]
      exact ev_neg (by omega) (Ev.now _)
    · intro n r hn hp h
      refine ev_succ ?_
      have e1 : l[n]? = some l[n] := List.getElem?_eq_getElem hn
      simp only [impl_Slot.l0, rdi, gd_nat z26 e1, gd_nat z26 (hp.symm.trans e1)]
      refine ev_pos (by omega) (ev_pos (by omega) (ev_pos (by omega) (ev_pos (by omega) (ev_neg (by rw [slot_ext]; simp) ?_))))
      rw [w64 (x := (n : Int) + 1) (by omega) (by omega)]
      exact h
    · intro n hn hp
      refine ev_succ ?_
      have e1 : l[n]? = some l[n] := List.getElem?_eq_getElem hn
      have e2 : m[n]? = some m[n] := List.getElem?_eq_getElem (by omega)
      simp only [impl_Slot.l0, rdi, gd_nat z26 e1, gd_nat z26 e2]
      refine ev_pos (by omega) (ev_pos (by omega) (ev_pos (by omega) (ev_pos (by omega) (ev_pos (by rw [slot_ext]; exact fun z => hp (by rw [e1, e2, z])) (Ev.now _)))))
  · refine ev_neg (by omega) (ev_of ?_)
    rw [dec_false (fun z => h0 (by rw [z]))]

theorem FnExactSameHist (l0 : List (S23)) (l1 : List (S23))
    (w0 : l0.length ≤ maxLen ∧ ∀ x ∈ l0, ((Lit.int .i64 x.f0).wf = true) ∧ ((Lit.int .i64 x.f1).wf = true)) (w1 : l1.length ≤ maxLen ∧ ∀ x ∈ l1, ((Lit.int .i64 x.f0).wf = true) ∧ ((Lit.int .i64 x.f1).wf = true)) : ∃ k, laws_FnExactSameHist.f k l0 l1 = some true := by
  refine Ev.rounds ?_
  unfold laws_FnExactSameHist.f
  rw [szSlotS l0 1048576 (by omega) (by omega) w0.1]
  simp only [Option.bind_some]
  by_cases b0 : (1048576 : Int) < l0.length
  · rw [if_pos b0]
    exact ev_pos (by omega) (Ev.now _)
  rw [if_neg b0]
  refine ev_neg (by omega) ?_
  rw [szSlotS l1 (1048576 - l0.length) (by omega) (by omega) w1.1]
  simp only [Option.bind_some]
  by_cases b1 : 1048576 - (l0.length : Int) < l1.length
  · rw [if_pos b1]
    exact ev_pos (by omega) (Ev.now _)
  rw [if_neg b1]
  refine ev_neg (by omega) ?_
  have t0 := toSlotS l0 (by omega)
  have t1 := toSlotS l1 (by omega)
  refine Ev.bind t0 (Ev.bind t1 (Ev.bind (specSameHist _ _ (by simp; omega)) (Ev.bind t0 (Ev.bind t1 (Ev.bind (implSameHist _ _ (by simp; omega)) (ev_neg (by simp) ?_))))))
  exact Ev.bind t0 (Ev.bind (eqSlotS _ (by simp; omega)) (ev_pos rfl (Ev.bind t1 (Ev.bind (eqSlotS _ (by simp; omega)) (ev_pos rfl (Ev.now _))))))

end Go.Proofs.Ytloinhlkkbploaa.Pure
