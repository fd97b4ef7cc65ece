/- impl.LeafOf returns what spec.LeafOf returns, for all arguments. Conditions: none but the row's own.
-/
import Derived.Test.YtloinhlkkbploaaQFnExactLeafOfx3
set_option linter.unusedVariables false
set_option linter.unusedSimpArgs false
namespace Go.Proofs.Ytloinhlkkbploaa.Pure
open Go.RowKit Go.Proofs.Ytloinhlkkbploaa.QFnExactLeafOf Go.Proofs.YtloinhlkkbploaaW.PrintWords Go.Proofs.YtloinhlkkbploaaW.PrintLast Go.Proofs.YtloinhlkkbploaaW.PrintMore

theorem w64 {x : Int} (h1 : -9223372036854775808 ≤ x) (h2 : x ≤ 9223372036854775807) : wrap64 x = x := by unfold wrap64; omega
theorem i64_wf {x : Int} (h : (Lit.int .i64 x).wf = true) : -9223372036854775808 ≤ x ∧ x ≤ 9223372036854775807 := by
  simpa [Lit.wf, IntKind.min, IntKind.max, IntKind.signed, IntKind.bits] using h
theorem u8_wf {x : Int} (h : (Lit.int .u8 x).wf = true) : 0 ≤ x ∧ x ≤ 255 := by
  simpa [Lit.wf, IntKind.min, IntKind.max, IntKind.signed, IntKind.bits] using h
theorem rd_eq {xs : List Int} {i : Int} (h0 : 0 ≤ i) (h : i < (xs.length : Int)) : xs[i.toNat]? = some (rd xs i) := by
  unfold rd
  rw [List.getD_eq_getElem?_getD, List.getElem?_eq_getElem (by omega)]
  rfl
theorem rd_mem {xs : List Int} {i : Int} (h0 : 0 ≤ i) (h : i < (xs.length : Int)) : rd xs i ∈ xs := List.mem_of_getElem? (rd_eq h0 h)
theorem rd_of {xs : List Int} {n : Nat} {v : Int} (h : xs[n]? = some v) : rd xs (n : Int) = v := by
  unfold rd
  rw [List.getD_eq_getElem?_getD, Int.toNat_natCast, h]
  rfl
theorem ev_of {α : Type} {r : α} {p : Option α} (h : p = some r) : Ev (fun _ => p) r := ⟨0, fun _ _ => h⟩
theorem ev_end {α : Type} {g : Nat → Option α} {r : α} (h : ∀ k, g (k + 1) = some r) : Ev g r := Ev.step (f := fun _ => some r) h (Ev.now r)
theorem ev_pos {α : Type} {c : Prop} [Decidable c] {f g : Nat → Option α} {r : α} (hc : c) (h : Ev f r) : Ev (fun k => if c then f k else g k) r := Ev.congr (fun _ => if_pos hc) h
theorem ev_neg {α : Type} {c : Prop} [Decidable c] {f g : Nat → Option α} {r : α} (hc : ¬ c) (h : Ev g r) : Ev (fun k => if c then f k else g k) r := Ev.congr (fun _ => if_neg hc) h
theorem rd_drop {xs : List Int} {n : Nat} (h : n < xs.length) : xs.drop n = rd xs (n : Int) :: xs.drop (n + 1) := by
  rw [List.drop_eq_getElem_cons h]
  congr 1
  unfold rd
  rw [List.getD_eq_getElem?_getD, Int.toNat_natCast, List.getElem?_eq_getElem h]
  rfl
noncomputable def dec (p : Prop) : Bool := @decide p (Classical.propDecidable p)
theorem dec_true {p : Prop} (h : p) : dec p = true := @decide_eq_true p (Classical.propDecidable p) h
theorem dec_false {p : Prop} (h : ¬ p) : dec p = false := @decide_eq_false p (Classical.propDecidable p) h
theorem dec_iff {p : Prop} : dec p = true ↔ p := @decide_eq_true_iff p (Classical.propDecidable p)
theorem dec_congr {p q : Prop} (h : p ↔ q) : dec p = dec q := by rw [propext h]
theorem dec_eq {p : Prop} [Decidable p] : dec p = decide p := by
  by_cases h : p
  · rw [dec_true h, decide_eq_true h]
  · rw [dec_false h, decide_eq_false h]
open Classical in
/-- A quotient rounded down, and true; 0 and false where there is none. -/
noncomputable def floorV (a b : Int) : Int × Bool :=
  if b = 0 ∨ b = -1 ∧ a = -9223372036854775808 then (0, false) else if Int.tmod a b = 0 then (wrap64 (Int.tdiv a b), true) else if ((decide (a < 0)) != (decide (b < 0))) = true then (wrap64 (wrap64 (Int.tdiv a b) - 1), true) else (wrap64 (Int.tdiv a b), true)
def brought (x a b : Int) : Int := if x < a then a else if x > b then b else x
def BndOk (a b : Int) : Prop := a ≤ b ∧ (-1099511627776 ≤ a ∧ a ≤ 1099511627776) ∧ (-1099511627776 ≤ b ∧ b ≤ 1099511627776)
def LeafOk (n lam lo hi : Int) : Prop := (0 ≤ n ∧ n ≤ 40) ∧ (1 ≤ lam ∧ lam ≤ 100) ∧ BndOk lo hi
open Classical in
/-- The value of a leaf, and true; 0 and false where there is none. -/
noncomputable def leafV (n g lam lo hi : Int) : Int × Bool := if LeafOk n lam lo hi then (brought (floorV g (wrap64 (n + lam))).1 lo hi, true) else (0, false)
theorem specFloor_j0 (a b : Int) (t : Bool) (h : t = true ↔ (b = 0 ∨ b = -1 ∧ a = -9223372036854775808)) : Ev (fun k => spec_FloorDiv.j0 k a b t) (floorV a b) := by
  refine ev_end fun k => ?_
  simp only [spec_FloorDiv.j0]
  unfold floorV
  by_cases h0 : b = 0 ∨ b = -1 ∧ a = -9223372036854775808
  · rw [if_pos (h.2 h0), if_pos h0]
  · rw [if_neg (fun z => h0 (h.1 z)), if_neg h0, if_neg (fun z => h0 (.inl z))]
    by_cases h1 : Int.tmod a b = 0
    · rw [if_pos h1, if_pos h1]
    · rw [if_neg h1, if_neg h1]
      split
      · rfl
      · rfl
theorem specFloor (a b : Int) : Ev (fun k => spec_FloorDiv.f k a b) (floorV a b) := by
  unfold spec_FloorDiv.f
  by_cases h0 : b = 0
  · exact ev_pos h0 (specFloor_j0 a b true (by simp [h0]))
  refine ev_neg h0 ?_
  by_cases h1 : b = -1
  · exact ev_pos h1 (specFloor_j0 a b _ (by simp [h0, h1]))
  · exact ev_neg h1 (specFloor_j0 a b false (by simp [h0, h1]))
theorem specBrought (x a b : Int) : spec_Brought.f x a b = some (brought x a b) := by
  unfold spec_Brought.f brought
  split
  · rfl
  · split <;> rfl
theorem specIn (a b c : Int) : spec_l1In.f a b c = some (decide (b ≤ a ∧ a ≤ c)) := by
  unfold spec_l1In.f
  by_cases h : b ≤ a
  · rw [if_pos h]; simp [h]
  · rw [if_neg h]; simp [h]
theorem specBoundOk (a b : Int) : spec_BoundOk.f a b = some (dec (BndOk a b)) := by
  unfold spec_BoundOk.f spec_l14Leaf.f
  simp only [specIn, Option.bind_some]
  by_cases h1 : a ≤ b
  · rw [if_pos h1]
    by_cases h2 : -1099511627776 ≤ a ∧ a ≤ 1099511627776
    · rw [if_pos (by simpa using h2), ← dec_eq]
      congr 1
      exact dec_congr ⟨fun g => ⟨h1, h2, g⟩, fun g => g.2.2⟩
    · rw [if_neg (by simpa using h2), dec_false]
      exact fun g => h2 g.2.1
  · rw [if_neg h1, dec_false]
    exact fun g => h1 g.1
theorem specLeaf_j0 (n g lam lo hi : Int) (t : Bool) (h : t = false ↔ LeafOk n lam lo hi) : Ev (fun k => spec_LeafOf.j0 k lam t n g lo hi) (leafV n g lam lo hi) := by
  unfold leafV
  by_cases h0 : LeafOk n lam lo hi
  · rw [if_pos h0, h.2 h0]
    refine Ev.step (f := fun k => (spec_FloorDiv.f k g (wrap64 (n + lam))).bind fun bt => ((spec_Brought.f bt.1 lo hi).bind fun t => some (t, true))) (fun k => ?_) (Ev.bind (specFloor _ _) (ev_of ?_))
    · simp only [spec_LeafOf.j0]
      rw [if_neg (by decide)]
    · rw [specBrought]
      rfl
  · rw [if_neg h0]
    refine ev_end fun k => ?_
    simp only [spec_LeafOf.j0]
    rw [if_pos (by simpa using fun z => h0 (h.1 z))]
theorem specLeaf (n g lam lo hi : Int) : Ev (fun k => spec_LeafOf.f k n g lam lo hi) (leafV n g lam lo hi) := by
  unfold spec_LeafOf.f
  simp only [specIn, specBoundOk, Option.bind_some]
  by_cases h1 : 0 ≤ n ∧ n ≤ 40
  · refine ev_pos (by simpa using h1) ?_
    by_cases h2 : 1 ≤ lam ∧ lam ≤ 100
    · refine ev_pos (by simpa using h2) (specLeaf_j0 n g lam lo hi _ ?_)
      rw [Bool.not_eq_false', dec_iff]
      exact ⟨fun z => ⟨h1, h2, z⟩, fun z => z.2.2⟩
    · exact ev_neg (by simpa using h2) (specLeaf_j0 n g lam lo hi true ⟨fun z => by simp at z, fun z => absurd z.2.1 h2⟩)
  · exact ev_neg (by simpa using h1) (specLeaf_j0 n g lam lo hi true ⟨fun z => by simp at z, fun z => absurd z.1 h1⟩)
theorem implFloor_j0 (a b : Int) (t : Bool) (h : t = true ↔ (b = 0 ∨ b = -1 ∧ a = -9223372036854775808)) : Ev (fun k => impl_FloorDiv.j0 k a b t) (floorV a b) := by
  refine ev_end fun k => ?_
  simp only [impl_FloorDiv.j0]
  unfold floorV
  by_cases h0 : b = 0 ∨ b = -1 ∧ a = -9223372036854775808
  · rw [if_pos (h.2 h0), if_pos h0]
  · rw [if_neg (fun z => h0 (h.1 z)), if_neg h0, if_neg (fun z => h0 (.inl z))]
    by_cases h1 : Int.tmod a b = 0
    · rw [if_pos h1, if_pos h1]
    · rw [if_neg h1, if_neg h1]
      split
      · rfl
      · rfl
theorem implFloor (a b : Int) : Ev (fun k => impl_FloorDiv.f k a b) (floorV a b) := by
  unfold impl_FloorDiv.f
  by_cases h0 : b = 0
  · exact ev_pos h0 (implFloor_j0 a b true (by simp [h0]))
  refine ev_neg h0 ?_
  by_cases h1 : a = -9223372036854775808
  · exact ev_pos h1 (implFloor_j0 a b _ (by simp [h0, h1]))
  · exact ev_neg h1 (implFloor_j0 a b false (by simp [h0, h1]))
theorem implBrought (x a b : Int) : impl_Brought.f x a b = some (brought x a b) := by
  unfold impl_Brought.f brought
  split
  · rfl
  · split <;> rfl
theorem implWithin (a b c : Int) : impl_within.f a b c = some (decide (b ≤ a ∧ a ≤ c)) := by
  unfold impl_within.f
  by_cases h : b ≤ a
  · rw [if_pos h]; simp [h]
  · rw [if_neg h]; simp [h]
theorem implBoundOk (a b : Int) : impl_BoundOk.f a b = some (dec (BndOk a b)) := by
  unfold impl_BoundOk.f impl_isLeafValue.f
  simp only [implWithin, Option.bind_some]
  by_cases h1 : a ≤ b
  · rw [if_pos h1]
    by_cases h2 : -1099511627776 ≤ a ∧ a ≤ 1099511627776
    · rw [if_pos (by simpa using h2), ← dec_eq]
      congr 1
      exact dec_congr ⟨fun g => ⟨h1, h2, g⟩, fun g => g.2.2⟩
    · rw [if_neg (by simpa using h2), dec_false]
      exact fun g => h2 g.2.1
  · rw [if_neg h1, dec_false]
    exact fun g => h1 g.1
theorem implCount (n lam : Int) : impl_isCount.f n lam = some (decide ((0 ≤ n ∧ n ≤ 40) ∧ (1 ≤ lam ∧ lam ≤ 100))) := by
  unfold impl_isCount.f
  simp only [implWithin, Option.bind_some]
  by_cases h1 : 0 ≤ n ∧ n ≤ 40
  · rw [if_pos (by simpa using h1)]
    simp [h1]
  · rw [if_neg (by simpa using h1)]
    simp [h1]
theorem implLeaf_j0 (n g lam lo hi : Int) (t : Bool) (h : t = false ↔ LeafOk n lam lo hi) : Ev (fun k => impl_LeafOf.j0 k lam t n g lo hi) (leafV n g lam lo hi) := by
  unfold leafV
  by_cases h0 : LeafOk n lam lo hi
  · rw [if_pos h0, h.2 h0]
    refine Ev.step (f := fun k => (impl_FloorDiv.f k g (wrap64 (n + lam))).bind fun bt => ((impl_Brought.f bt.1 lo hi).bind fun t => some (t, true))) (fun k => ?_) (Ev.bind (implFloor _ _) (ev_of ?_))
    · simp only [impl_LeafOf.j0]
      rw [if_neg (by decide)]
    · rw [implBrought]
      rfl
  · rw [if_neg h0]
    refine ev_end fun k => ?_
    simp only [impl_LeafOf.j0]
    rw [if_pos (by simpa using fun z => h0 (h.1 z))]
theorem implLeaf (n g lam lo hi : Int) : Ev (fun k => impl_LeafOf.f k n g lam lo hi) (leafV n g lam lo hi) := by
  unfold impl_LeafOf.f
  simp only [implCount, implBoundOk, Option.bind_some]
  by_cases h1 : (0 ≤ n ∧ n ≤ 40) ∧ (1 ≤ lam ∧ lam ≤ 100)
  · refine ev_pos (by simpa using h1) (implLeaf_j0 n g lam lo hi _ ?_)
    rw [Bool.not_eq_false', dec_iff]
    exact ⟨fun z => ⟨h1.1, h1.2, z⟩, fun z => z.2.2⟩
  · exact ev_neg (by simpa using h1) (implLeaf_j0 n g lam lo hi true ⟨fun z => by simp at z, fun z => absurd ⟨z.1, z.2.1⟩ h1⟩)

theorem FnExactLeafOf (a0_0 : Int) (a0_1 : Int) (a1 : Int) (a2_0 : Int) (a2_1 : Int)
    (w0_0 : (Lit.int .i64 a0_0).wf = true) (w0_1 : (Lit.int .i64 a0_1).wf = true) (w1 : (Lit.int .i64 a1).wf = true) (w2_0 : (Lit.int .i64 a2_0).wf = true) (w2_1 : (Lit.int .i64 a2_1).wf = true) : ∃ k, laws_FnExactLeafOf.f k a0_0 a0_1 a1 a2_0 a2_1 = some true := by
  refine Ev.rounds ?_
  unfold laws_FnExactLeafOf.f laws_toSlot.f laws_toBound.f
  simp only [Option.bind_some]
  refine Ev.bind (specLeaf _ _ _ _ _) (Ev.bind (implLeaf _ _ _ _ _) (ev_pos rfl (ev_neg (by simp) (Ev.now _))))

end Go.Proofs.Ytloinhlkkbploaa.Pure
