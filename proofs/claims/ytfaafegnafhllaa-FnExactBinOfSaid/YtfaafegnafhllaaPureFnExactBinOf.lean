/- impl.BinOf returns what spec.BinOf returns and leaves its slice as it was, for all arguments. Conditions: none but the row's own.
-/
import Derived.Test.YtfaafegnafhllaaQFnExactBinOfx1
set_option linter.unusedVariables false
set_option linter.unusedSimpArgs false
namespace Go.Proofs.Ytfaafegnafhllaa.Pure
open Go.RowKit Go.Proofs.Ytfaafegnafhllaa.QFnExactBinOf Go.Proofs.YtfaafegnafhllaaW.PrintWords Go.Proofs.YtfaafegnafhllaaW.PrintLast Go.Proofs.YtfaafegnafhllaaW.PrintMore

theorem w64 {x : Int} (h1 : -9223372036854775808 ≤ x) (h2 : x ≤ 9223372036854775807) : wrap64 x = x := by unfold wrap64; omega
theorem i64_wf {x : Int} (h : (Lit.int .i64 x).wf = true) : -9223372036854775808 ≤ x ∧ x ≤ 9223372036854775807 := by
  simpa [Lit.wf, IntKind.min, IntKind.max, IntKind.signed, IntKind.bits] using h
theorem u8_wf {x : Int} (h : (Lit.int .u8 x).wf = true) : 0 ≤ x ∧ x ≤ 255 := by
  simpa [Lit.wf, IntKind.min, IntKind.max, IntKind.signed, IntKind.bits] using h
theorem rd_eq {xs : List Int} {i : Int} (h0 : 0 ≤ i) (h : i < (xs.length : Int)) : xs[i.toNat]? = some (rd xs i) := by
  unfold rd
  rw [List.getD_eq_getElem?_getD, List.getElem?_eq_getElem (by omega)]
  rfl
theorem rd_mem {xs : List Int} {i : Int} (h0 : 0 ≤ i) (h : i < (xs.length : Int)) : rd xs i ∈ xs := List.mem_of_getElem? (rd_eq h0 h)
theorem rd_of {xs : List Int} {n : Nat} {v : Int} (h : xs[n]? = some v) : rd xs (n : Int) = v := by
  unfold rd
  rw [List.getD_eq_getElem?_getD, Int.toNat_natCast, h]
  rfl
theorem ev_of {α : Type} {r : α} {p : Option α} (h : p = some r) : Ev (fun _ => p) r := ⟨0, fun _ _ => h⟩
theorem ev_end {α : Type} {g : Nat → Option α} {r : α} (h : ∀ k, g (k + 1) = some r) : Ev g r := Ev.step (f := fun _ => some r) h (Ev.now r)
theorem ev_pos {α : Type} {c : Prop} [Decidable c] {f g : Nat → Option α} {r : α} (hc : c) (h : Ev f r) : Ev (fun k => if c then f k else g k) r := Ev.congr (fun _ => if_pos hc) h
theorem ev_neg {α : Type} {c : Prop} [Decidable c] {f g : Nat → Option α} {r : α} (hc : ¬ c) (h : Ev g r) : Ev (fun k => if c then f k else g k) r := Ev.congr (fun _ => if_neg hc) h
theorem rd_drop {xs : List Int} {n : Nat} (h : n < xs.length) : xs.drop n = rd xs (n : Int) :: xs.drop (n + 1) := by
  rw [List.drop_eq_getElem_cons h]
  congr 1
  unfold rd
  rw [List.getD_eq_getElem?_getD, Int.toNat_natCast, List.getElem?_eq_getElem h]
  rfl
noncomputable def dec (p : Prop) : Bool := @decide p (Classical.propDecidable p)
theorem dec_true {p : Prop} (h : p) : dec p = true := @decide_eq_true p (Classical.propDecidable p) h
theorem dec_false {p : Prop} (h : ¬ p) : dec p = false := @decide_eq_false p (Classical.propDecidable p) h
theorem dec_iff {p : Prop} : dec p = true ↔ p := @decide_eq_true_iff p (Classical.propDecidable p)
theorem dec_congr {p q : Prop} (h : p ↔ q) : dec p = dec q := by rw [propext h]
theorem dec_eq {p : Prop} [Decidable p] : dec p = decide p := by
  by_cases h : p
  · rw [dec_true h, decide_eq_true h]
  · rw [dec_false h, decide_eq_false h]
theorem toIntS_l0 (l : List Int) (hl : l.length ≤ 35184372088832) : ∀ (d n : Nat) (acc : List Int), n + d = l.length → acc.length = l.length → (∀ j, j < n → acc[j]? = l[j]?) → Ev (fun k => laws_toIntS.l0 k l acc (n : Int)) l := by
  intro d
  induction d with
  | zero =>
    intro n acc hn ha hp
    refine ev_end fun k => ?_
    simp only [laws_toIntS.l0]
    rw [if_neg (by omega)]
    congr 1
    exact List.ext_getElem? fun j => by
      by_cases h : j < n
      · exact hp j h
      · rw [List.getElem?_eq_none (by omega), List.getElem?_eq_none (by omega)]
  | succ d ih =>
    intro n acc hn ha hp
    refine Ev.step (fun k => ?_) (ih (n + 1) (acc.set n (rd l n)) (by omega) (by simpa using ha) ?_)
    · simp only [laws_toIntS.l0]
      rw [if_pos (by omega), if_pos (by omega), if_pos (by omega), w64 (by omega) (by omega)]
      rfl
    intro j hj
    rw [List.getElem?_set]
    by_cases h : j = n
    · subst h
      rw [if_pos (by omega), if_pos (by omega), ← rd_eq (by omega) (by omega)]
      simp
    · rw [if_neg (by omega)]
      exact hp j (by omega)
theorem toIntS (l : List Int) (hl : l.length ≤ 35184372088832) : Ev (fun k => laws_toIntS.f k l) l := by
  refine Ev.congr (fun k => ?_) (toIntS_l0 l hl l.length 0 (List.replicate l.length 0) (by omega) (by simp) (fun j h => by omega))
  unfold laws_toIntS.f
  rw [if_pos (by omega), if_pos (by omega)]
  rfl
theorem eqIntS_l0 (l : List Int) (hl : l.length ≤ 35184372088832) : ∀ (d n : Nat), n + d = l.length → Ev (fun k => laws_eqIntS.l0 k l l (n : Int)) true := by
  intro d
  induction d with
  | zero =>
    intro n hn
    refine ev_end fun k => ?_
    simp only [laws_eqIntS.l0]
    rw [if_neg (by omega)]
  | succ d ih =>
    intro n hn
    refine Ev.step (fun k => ?_) (ih (n + 1) (by omega))
    simp only [laws_eqIntS.l0]
    rw [if_pos (by omega), if_pos (by omega), if_pos (by omega), if_pos trivial, w64 (by omega) (by omega)]
    rfl
theorem eqIntS (l : List Int) (hl : l.length ≤ 35184372088832) : Ev (fun k => laws_eqIntS.f k l l) true := by
  refine Ev.congr (fun k => ?_) (eqIntS_l0 l hl l.length 0 (by omega))
  unfold laws_eqIntS.f
  rw [if_pos rfl]
  rfl
/-- How many of the numbers are less than v. -/
def less (l : List Int) (v : Int) : Nat := l.countP (fun x => decide (x < v))
theorem less_cons (x : Int) (l : List Int) (v : Int) : less (x :: l) v = less l v + if x < v then 1 else 0 := by
  unfold less
  rw [List.countP_cons]
  simp
theorem less_le (l : List Int) (v : Int) : less l v ≤ l.length := List.countP_le_length
theorem specBinOf_l0 (l : List Int) (v : Int) (hl : l.length ≤ 35184372088832) : ∀ (d n c : Nat), n + d = l.length → c ≤ n → Ev (fun k => spec_BinOf.l0 k l v (c : Int) (n : Int)) ((c + less (l.drop n) v : Nat) : Int) := by
  intro d
  induction d with
  | zero =>
    intro n c hn hc
    refine ev_end fun k => ?_
    simp only [spec_BinOf.l0]
    obtain rfl : n = l.length := by omega
    rw [if_neg (by omega), List.drop_length]
    simp [less]
  | succ d ih =>
    intro n c hn hc
    rw [rd_drop (by omega), less_cons]
    by_cases h : rd l (n : Int) < v
    · have := ih (n + 1) (c + 1) (by omega) (by omega)
      rw [if_pos h, show c + (less (l.drop (n + 1)) v + 1) = c + 1 + less (l.drop (n + 1)) v from by omega]
      refine Ev.step (fun k => ?_) this
      simp only [spec_BinOf.l0]
      rw [if_pos (by omega), if_pos (by omega), if_pos h, w64 (by omega) (by omega), w64 (by omega) (by omega)]
      rfl
    · have := ih (n + 1) c (by omega) (by omega)
      rw [if_neg h]
      refine Ev.step (fun k => ?_) this
      simp only [spec_BinOf.l0]
      rw [if_pos (by omega), if_pos (by omega), if_neg h, w64 (by omega) (by omega)]
      rfl
theorem specBinOf (l : List Int) (v : Int) (hl : l.length ≤ 35184372088832) : Ev (fun k => spec_BinOf.f k l v) (less l v : Int) := by
  have := specBinOf_l0 l v hl l.length 0 0 (by omega) (by omega)
  rw [Nat.zero_add] at this
  exact this
theorem implBinOf_l0 (l : List Int) (v : Int) (hl : l.length ≤ 35184372088832) : ∀ (d n c : Nat), n + d = l.length → c ≤ n → Ev (fun k => impl_BinOf.l0 k v (c : Int) l (l.length : Int) (n : Int)) ((c + less (l.drop n) v : Nat) : Int) := by
  intro d
  induction d with
  | zero =>
    intro n c hn hc
    refine ev_end fun k => ?_
    simp only [impl_BinOf.l0]
    obtain rfl : n = l.length := by omega
    rw [if_neg (by omega), List.drop_length]
    simp [less]
  | succ d ih =>
    intro n c hn hc
    rw [rd_drop (by omega), less_cons]
    by_cases h : rd l (n : Int) < v
    · have := ih (n + 1) (c + 1) (by omega) (by omega)
      rw [if_pos h, show c + (less (l.drop (n + 1)) v + 1) = c + 1 + less (l.drop (n + 1)) v from by omega]
      refine Ev.step (fun k => ?_) this
      simp only [impl_BinOf.l0]
      rw [if_pos (by omega), if_pos (by omega), if_pos (by omega), if_pos h, w64 (by omega) (by omega), w64 (by omega) (by omega)]
      rfl
    · have := ih (n + 1) c (by omega) (by omega)
      rw [if_neg h]
      refine Ev.step (fun k => ?_) this
      simp only [impl_BinOf.l0]
      rw [if_pos (by omega), if_pos (by omega), if_pos (by omega), if_neg h, w64 (by omega) (by omega)]
      rfl
theorem implBinOf (l : List Int) (v : Int) (hl : l.length ≤ 35184372088832) : Ev (fun k => impl_BinOf.f k l v) (less l v : Int) := by
  have := implBinOf_l0 l v hl l.length 0 0 (by omega) (by omega)
  rw [Nat.zero_add] at this
  exact this

theorem FnExactBinOf : laws_FnExactBinOf.Pure := by
  intro l a hm hl hw ha
  refine Ev.rounds ?_
  unfold laws_FnExactBinOf.f
  by_cases hb : (l.length : Int) > 1048576
  · exact ev_pos hb (Ev.now _)
  refine ev_neg hb ?_
  refine Ev.bind (toIntS l (by omega)) (Ev.bind (specBinOf l a (by omega)) (Ev.bind (toIntS l (by omega)) (Ev.bind (implBinOf l a (by omega)) (ev_pos rfl ?_))))
  exact Ev.bind (toIntS l (by omega)) (Ev.bind (eqIntS _ (by omega)) (ev_pos rfl (Ev.now _)))

end Go.Proofs.Ytfaafegnafhllaa.Pure
