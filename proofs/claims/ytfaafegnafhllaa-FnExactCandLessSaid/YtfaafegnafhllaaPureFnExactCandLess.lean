/- impl.CandLess returns what spec.CandLess returns, for all arguments. Conditions: none but the row's own.
-/
import Derived.Test.YtfaafegnafhllaaQFnExactCandLessx2
set_option linter.unusedVariables false
set_option linter.unusedSimpArgs false
namespace Go.Proofs.Ytfaafegnafhllaa.Pure
open Go.RowKit Go.Proofs.Ytfaafegnafhllaa.QFnExactCandLess Go.Proofs.YtfaafegnafhllaaW.PrintWords Go.Proofs.YtfaafegnafhllaaW.PrintLast Go.Proofs.YtfaafegnafhllaaW.PrintMore

theorem w64 {x : Int} (h1 : -9223372036854775808 ≤ x) (h2 : x ≤ 9223372036854775807) : wrap64 x = x := by unfold wrap64; omega
theorem i64_wf {x : Int} (h : (Lit.int .i64 x).wf = true) : -9223372036854775808 ≤ x ∧ x ≤ 9223372036854775807 := by
  simpa [Lit.wf, IntKind.min, IntKind.max, IntKind.signed, IntKind.bits] using h
theorem u8_wf {x : Int} (h : (Lit.int .u8 x).wf = true) : 0 ≤ x ∧ x ≤ 255 := by
  simpa [Lit.wf, IntKind.min, IntKind.max, IntKind.signed, IntKind.bits] using h
theorem rd_eq {xs : List Int} {i : Int} (h0 : 0 ≤ i) (h : i < (xs.length : Int)) : xs[i.toNat]? = some (rd xs i) := by
  unfold rd
  rw [List.getD_eq_getElem?_getD, List.getElem?_eq_getElem (by omega)]
  rfl
theorem rd_mem {xs : List Int} {i : Int} (h0 : 0 ≤ i) (h : i < (xs.length : Int)) : rd xs i ∈ xs := List.mem_of_getElem? (rd_eq h0 h)
theorem rd_of {xs : List Int} {n : Nat} {v : Int} (h : xs[n]? = some v) : rd xs (n : Int) = v := by
  unfold rd
  rw [List.getD_eq_getElem?_getD, Int.toNat_natCast, h]
  rfl
theorem ev_of {α : Type} {r : α} {p : Option α} (h : p = some r) : Ev (fun _ => p) r := ⟨0, fun _ _ => h⟩
theorem ev_end {α : Type} {g : Nat → Option α} {r : α} (h : ∀ k, g (k + 1) = some r) : Ev g r := Ev.step (f := fun _ => some r) h (Ev.now r)
theorem ev_pos {α : Type} {c : Prop} [Decidable c] {f g : Nat → Option α} {r : α} (hc : c) (h : Ev f r) : Ev (fun k => if c then f k else g k) r := Ev.congr (fun _ => if_pos hc) h
theorem ev_neg {α : Type} {c : Prop} [Decidable c] {f g : Nat → Option α} {r : α} (hc : ¬ c) (h : Ev g r) : Ev (fun k => if c then f k else g k) r := Ev.congr (fun _ => if_neg hc) h
theorem rd_drop {xs : List Int} {n : Nat} (h : n < xs.length) : xs.drop n = rd xs (n : Int) :: xs.drop (n + 1) := by
  rw [List.drop_eq_getElem_cons h]
  congr 1
  unfold rd
  rw [List.getD_eq_getElem?_getD, Int.toNat_natCast, List.getElem?_eq_getElem h]
  rfl
noncomputable def dec (p : Prop) : Bool := @decide p (Classical.propDecidable p)
theorem dec_true {p : Prop} (h : p) : dec p = true := @decide_eq_true p (Classical.propDecidable p) h
theorem dec_false {p : Prop} (h : ¬ p) : dec p = false := @decide_eq_false p (Classical.propDecidable p) h
theorem dec_iff {p : Prop} : dec p = true ↔ p := @decide_eq_true_iff p (Classical.propDecidable p)
theorem dec_congr {p q : Prop} (h : p ↔ q) : dec p = dec q := by rw [propext h]
theorem dec_eq {p : Prop} [Decidable p] : dec p = decide p := by
  by_cases h : p
  · rw [dec_true h, decide_eq_true h]
  · rw [dec_false h, decide_eq_false h]
theorem cmpInt (a b : Int) : cmp_Compare_int.f a b = some (if a < b then -1 else if a > b then 1 else 0) := by
  unfold cmp_Compare_int.f cmp_isNaN_int.f
  simp only [Option.bind_some, bne_self_eq_false, Bool.false_eq_true, if_false]
  split
  · rfl
  · split <;> rfl
theorem cmpOr2 (a b : Int) : Ev (fun k => cmp_Or_int.f k [a, b]) (if a = 0 then b else a) := by
  have h2 : Ev (fun k => cmp_Or_int.l0 k 0 [a, b] 2 2) 0 := ev_end fun k => by
    simp only [cmp_Or_int.l0]
    rw [if_neg (by omega)]
  have w1 : wrap64 (1 + 1) = 2 := w64 (by omega) (by omega)
  have w0 : wrap64 (0 + 1) = 1 := w64 (by omega) (by omega)
  have h1 : Ev (fun k => cmp_Or_int.l0 k 0 [a, b] 2 1) b := by
    by_cases hb : b = 0
    · subst hb
      refine Ev.step (fun k => ?_) h2
      simp only [cmp_Or_int.l0]
      rw [if_pos (by omega), if_pos (by omega), if_pos (by simp), if_pos (by simp [rd]), w1]
    · refine ev_end fun k => ?_
      simp only [cmp_Or_int.l0]
      rw [if_pos (by omega), if_pos (by omega), if_pos (by simp), if_neg (by simpa [rd] using hb)]
      simp [rd]
  by_cases ha : a = 0
  · rw [if_pos ha]
    subst ha
    refine Ev.step (fun k => ?_) h1
    simp only [cmp_Or_int.f, cmp_Or_int.l0, List.length_cons, List.length_nil]
    rw [if_pos (by omega), if_pos (by omega), if_pos (by simp), if_pos (by simp [rd]), w0]
    rfl
  · rw [if_neg ha]
    refine ev_end fun k => ?_
    simp only [cmp_Or_int.f, cmp_Or_int.l0, List.length_cons, List.length_nil]
    rw [if_pos (by omega), if_pos (by omega), if_pos (by simp), if_neg (by simpa [rd] using ha)]
    simp [rd]
def LessPair (f b f' b' : Int) : Prop := f < f' ∨ f = f' ∧ b < b'
theorem implCandLess (f b n g n' g' f' b' m h m' h' : Int) : Ev (fun k => impl_CandLess.f k f b n g n' g' f' b' m h m' h') (dec (LessPair f b f' b')) := by
  unfold impl_CandLess.f
  simp only [cmpInt, Option.bind_some]
  refine Ev.bind (cmpOr2 _ _) (ev_of ?_)
  rw [← dec_eq]
  congr 1
  refine dec_congr ?_
  unfold LessPair
  split
  · split at * <;> (try split at *) <;> (try split at *) <;> omega
  · split at * <;> (try split at *) <;> (try split at *) <;> omega
theorem specCandLess (f b n g n' g' f' b' m h m' h' : Int) : spec_CandLess.f f b n g n' g' f' b' m h m' h' = some (dec (LessPair f b f' b')) := by
  unfold spec_CandLess.f
  by_cases h1 : f < f'
  · rw [if_pos h1, dec_true (.inl h1)]
  · rw [if_neg h1]
    by_cases h2 : f = f'
    · rw [if_pos h2, ← dec_eq]
      congr 1
      exact dec_congr ⟨fun z => .inr ⟨h2, z⟩, fun z => z.elim (fun y => absurd y h1) (fun y => y.2)⟩
    · rw [if_neg h2, dec_false]
      exact fun z => z.elim h1 (fun y => h2 y.1)

theorem FnExactCandLess (a0_0 : Int) (a0_1 : Int) (a0_2 : Int) (a0_3 : Int) (a0_4 : Int) (a0_5 : Int) (a1_0 : Int) (a1_1 : Int) (a1_2 : Int) (a1_3 : Int) (a1_4 : Int) (a1_5 : Int)
    (w0_0 : (Lit.int .i64 a0_0).wf = true) (w0_1 : (Lit.int .i64 a0_1).wf = true) (w0_2 : (Lit.int .i64 a0_2).wf = true) (w0_3 : (Lit.int .i64 a0_3).wf = true) (w0_4 : (Lit.int .i64 a0_4).wf = true) (w0_5 : (Lit.int .i64 a0_5).wf = true) (w1_0 : (Lit.int .i64 a1_0).wf = true) (w1_1 : (Lit.int .i64 a1_1).wf = true) (w1_2 : (Lit.int .i64 a1_2).wf = true) (w1_3 : (Lit.int .i64 a1_3).wf = true) (w1_4 : (Lit.int .i64 a1_4).wf = true) (w1_5 : (Lit.int .i64 a1_5).wf = true) : ∃ k, laws_FnExactCandLess.f k a0_0 a0_1 a0_2 a0_3 a0_4 a0_5 a1_0 a1_1 a1_2 a1_3 a1_4 a1_5 = some true := by
  refine Ev.rounds ?_
  unfold laws_FnExactCandLess.f laws_toCand.f laws_toSlot.f
  simp only [Option.bind_some, specCandLess]
  exact Ev.bind (implCandLess _ _ _ _ _ _ _ _ _ _ _ _) (ev_neg (by simp) (Ev.now _))

end Go.Proofs.Ytfaafegnafhllaa.Pure
