/- impl.NameOk returns what spec.NameOk returns, for all strings. Conditions: none but the row's own.
-/
import Derived.Test.YtfaafegnafhllaaQFnExactNameOkx1
set_option linter.unusedVariables false
set_option linter.unusedSimpArgs false
namespace Go.Proofs.Ytfaafegnafhllaa.Pure
open Go.RowKit Go.Proofs.Ytfaafegnafhllaa.QFnExactNameOk Go.Proofs.YtfaafegnafhllaaW.PrintWords Go.Proofs.YtfaafegnafhllaaW.PrintLast Go.Proofs.YtfaafegnafhllaaW.PrintMore

theorem w64 {x : Int} (h1 : -9223372036854775808 ≤ x) (h2 : x ≤ 9223372036854775807) : wrap64 x = x := by unfold wrap64; omega
theorem i64_wf {x : Int} (h : (Lit.int .i64 x).wf = true) : -9223372036854775808 ≤ x ∧ x ≤ 9223372036854775807 := by
  simpa [Lit.wf, IntKind.min, IntKind.max, IntKind.signed, IntKind.bits] using h
theorem u8_wf {x : Int} (h : (Lit.int .u8 x).wf = true) : 0 ≤ x ∧ x ≤ 255 := by
  simpa [Lit.wf, IntKind.min, IntKind.max, IntKind.signed, IntKind.bits] using h
theorem rd_eq {xs : List Int} {i : Int} (h0 : 0 ≤ i) (h : i < (xs.length : Int)) : xs[i.toNat]? = some (rd xs i) := by
  unfold rd
  rw [List.getD_eq_getElem?_getD, List.getElem?_eq_getElem (by omega)]
  rfl
theorem rd_mem {xs : List Int} {i : Int} (h0 : 0 ≤ i) (h : i < (xs.length : Int)) : rd xs i ∈ xs := List.mem_of_getElem? (rd_eq h0 h)
theorem rd_of {xs : List Int} {n : Nat} {v : Int} (h : xs[n]? = some v) : rd xs (n : Int) = v := by
  unfold rd
  rw [List.getD_eq_getElem?_getD, Int.toNat_natCast, h]
  rfl
theorem ev_of {α : Type} {r : α} {p : Option α} (h : p = some r) : Ev (fun _ => p) r := ⟨0, fun _ _ => h⟩
theorem ev_end {α : Type} {g : Nat → Option α} {r : α} (h : ∀ k, g (k + 1) = some r) : Ev g r := Ev.step (f := fun _ => some r) h (Ev.now r)
theorem ev_pos {α : Type} {c : Prop} [Decidable c] {f g : Nat → Option α} {r : α} (hc : c) (h : Ev f r) : Ev (fun k => if c then f k else g k) r := Ev.congr (fun _ => if_pos hc) h
theorem ev_neg {α : Type} {c : Prop} [Decidable c] {f g : Nat → Option α} {r : α} (hc : ¬ c) (h : Ev g r) : Ev (fun k => if c then f k else g k) r := Ev.congr (fun _ => if_neg hc) h
theorem rd_drop {xs : List Int} {n : Nat} (h : n < xs.length) : xs.drop n = rd xs (n : Int) :: xs.drop (n + 1) := by
  rw [List.drop_eq_getElem_cons h]
  congr 1
  unfold rd
  rw [List.getD_eq_getElem?_getD, Int.toNat_natCast, List.getElem?_eq_getElem h]
  rfl
noncomputable def dec (p : Prop) : Bool := @decide p (Classical.propDecidable p)
theorem dec_true {p : Prop} (h : p) : dec p = true := @decide_eq_true p (Classical.propDecidable p) h
theorem dec_false {p : Prop} (h : ¬ p) : dec p = false := @decide_eq_false p (Classical.propDecidable p) h
theorem dec_iff {p : Prop} : dec p = true ↔ p := @decide_eq_true_iff p (Classical.propDecidable p)
theorem dec_congr {p q : Prop} (h : p ↔ q) : dec p = dec q := by rw [propext h]
theorem dec_eq {p : Prop} [Decidable p] : dec p = decide p := by
  by_cases h : p
  · rw [dec_true h, decide_eq_true h]
  · rw [dec_false h, decide_eq_false h]
def Letter (c : Int) : Prop := 97 ≤ c ∧ c ≤ 122
def Figure (c : Int) : Prop := 48 ≤ c ∧ c ≤ 57
/-- From place n on each byte is a letter or a figure. -/
def NameFrom (s : ByteArray) (n : Nat) : Prop := ∀ j : Nat, n ≤ j → j < s.size → Letter (bt s (j : Int)) ∨ Figure (bt s (j : Int))
def IsName (s : ByteArray) : Prop := 1 ≤ s.size ∧ s.size ≤ 12 ∧ Letter (bt s 0) ∧ NameFrom s 0
theorem NameFrom.step {s : ByteArray} {n : Nat} (h : n < s.size) : NameFrom s n ↔ (Letter (bt s (n : Int)) ∨ Figure (bt s (n : Int))) ∧ NameFrom s (n + 1) := by
  constructor
  · exact fun g => ⟨g n (Nat.le_refl _) h, fun j hj => g j (by omega)⟩
  · intro ⟨g0, g⟩ j hj hlt
    by_cases e : j = n
    · subst e; exact g0
    · exact g j (by omega) hlt
theorem NameFrom.stop {s : ByteArray} : NameFrom s s.size := fun j h1 h2 => by omega
theorem specIn (a b c : Int) : spec_l1In.f a b c = some (decide (b ≤ a ∧ a ≤ c)) := by
  unfold spec_l1In.f
  by_cases h : b ≤ a
  · rw [if_pos h]; simp [h]
  · rw [if_neg h]; simp [h]
theorem specNameOk_l0 (s : ByteArray) (hl : s.size ≤ 140737488351232) : ∀ (d n : Nat), n + d = s.size → Ev (fun k => spec_NameOk.l0 k s (n : Int)) (dec (NameFrom s n)) := by
  intro d
  induction d with
  | zero =>
    intro n hn
    refine ev_end fun k => ?_
    simp only [spec_NameOk.l0]
    obtain rfl : n = s.size := by omega
    rw [if_neg (by omega), dec_true NameFrom.stop]
  | succ d ih =>
    intro n hn
    have hs := NameFrom.step (s := s) (n := n) (by omega)
    have hb := bt_range s (n : Int)
    by_cases h1 : Letter (bt s (n : Int))
    · have e : dec (NameFrom s n) = dec (NameFrom s (n + 1)) := dec_congr (by rw [hs]; exact ⟨fun g => g.2, fun g => ⟨.inl h1, g⟩⟩)
      rw [e]
      refine Ev.step (fun k => ?_) (ih (n + 1) (by omega))
      simp only [spec_NameOk.l0, specIn, Option.bind_some]
      unfold Letter at h1
      rw [if_pos (by omega), if_pos (by omega), w64 (x := bt s (n : Int)) (by omega) (by omega), if_pos (by simpa using h1), w64 (by omega) (by omega)]
      rfl
    · by_cases h2 : Figure (bt s (n : Int))
      · have e : dec (NameFrom s n) = dec (NameFrom s (n + 1)) := dec_congr (by rw [hs]; exact ⟨fun g => g.2, fun g => ⟨.inr h2, g⟩⟩)
        rw [e]
        refine Ev.step (fun k => ?_) (ih (n + 1) (by omega))
        simp only [spec_NameOk.l0, specIn, Option.bind_some]
        unfold Letter at h1
        unfold Figure at h2
        rw [if_pos (by omega), if_pos (by omega), w64 (x := bt s (n : Int)) (by omega) (by omega), if_neg (by simpa using h1), if_pos (by simpa using h2), w64 (by omega) (by omega)]
        rfl
      · refine ev_end fun k => ?_
        simp only [spec_NameOk.l0, specIn, Option.bind_some]
        have e : dec (NameFrom s n) = false := dec_false (by rw [hs]; exact fun g => g.1.elim h1 h2)
        unfold Letter at h1
        unfold Figure at h2
        rw [if_pos (by omega), if_pos (by omega), w64 (x := bt s (n : Int)) (by omega) (by omega), if_neg (by simpa using h1), if_neg (by simpa using h2), e]
theorem specNameOk (s : ByteArray) (hl : s.size ≤ 140737488351232) : Ev (fun k => spec_NameOk.f k s) (dec (IsName s)) := by
  unfold spec_NameOk.f
  simp only [specIn, Option.bind_some]
  have hb := bt_range s 0
  by_cases h1 : 1 ≤ s.size ∧ s.size ≤ 12
  · refine ev_pos (by simp; omega) (ev_pos (by omega) ?_)
    by_cases h2 : bt s 0 < 97
    · refine ev_end fun k => ?_
      simp only [spec_NameOk.j0]
      rw [if_pos (by simpa using h2), dec_false]
      intro g; have := g.2.2.1; unfold Letter at this; omega
    · have e : dec (IsName s) = dec (NameFrom s 0) := dec_congr ⟨fun g => g.2.2.2, fun g => ⟨h1.1, h1.2, (g 0 (by omega) (by omega)).elim (fun z => z) (fun z => by unfold Figure at z; simp only [Int.natCast_zero] at z; omega), g⟩⟩
      rw [e]
      refine Ev.step (fun k => ?_) (specNameOk_l0 s hl s.size 0 (by omega))
      simp only [spec_NameOk.j0]
      rw [if_neg (by simpa using h2)]
      rfl
  · refine ev_neg (by simp; omega) (ev_end fun k => ?_)
    simp only [spec_NameOk.j0]
    rw [if_pos trivial, dec_false]
    intro g; exact h1 ⟨g.1, g.2.1⟩
theorem implWithin (a b c : Int) : impl_within.f a b c = some (decide (b ≤ a ∧ a ≤ c)) := by
  unfold impl_within.f
  by_cases h : b ≤ a
  · rw [if_pos h]; simp [h]
  · rw [if_neg h]; simp [h]
theorem implNameOk_l0 (s : ByteArray) (hl : s.size ≤ 140737488351232) : ∀ (d n : Nat), n + d = s.size → Ev (fun k => impl_NameOk.l0 k s (s.size : Int) (n : Int)) (dec (NameFrom s n ∧ (n = 0 → 0 < s.size → Letter (bt s 0)) ∧ 1 ≤ s.size ∧ s.size ≤ 12)) := by
  intro d
  induction d with
  | zero =>
    intro n hn
    refine ev_end fun k => ?_
    simp only [impl_NameOk.l0, implWithin, Option.bind_some]
    obtain rfl : n = s.size := by omega
    rw [if_neg (by omega), ← dec_eq]
    congr 1
    refine dec_congr ⟨fun g => ⟨NameFrom.stop, fun h => by omega, by omega, by omega⟩, fun g => by omega⟩
  | succ d ih =>
    intro n hn
    have hs := NameFrom.step (s := s) (n := n) (by omega)
    have hb := bt_range s (n : Int)
    by_cases h1 : Letter (bt s (n : Int))
    · have e : dec (NameFrom s n ∧ (n = 0 → 0 < s.size → Letter (bt s 0)) ∧ 1 ≤ s.size ∧ s.size ≤ 12) = dec (NameFrom s (n + 1) ∧ (n + 1 = 0 → 0 < s.size → Letter (bt s 0)) ∧ 1 ≤ s.size ∧ s.size ≤ 12) :=
        dec_congr (by rw [hs]; exact ⟨fun g => ⟨g.1.2, fun h => by omega, g.2.2⟩, fun g => ⟨⟨.inl h1, g.1⟩, fun h _ => by subst h; exact h1, g.2.2⟩⟩)
      rw [e]
      refine Ev.step (fun k => ?_) (ih (n + 1) (by omega))
      simp only [impl_NameOk.l0]
      unfold Letter at h1
      rw [if_pos (by omega), if_pos (by omega), if_pos (by omega), if_pos (by omega), if_pos (by omega), w64 (by omega) (by omega)]
      rfl
    · by_cases h2 : Figure (bt s (n : Int)) ∧ n ≠ 0
      · have e : dec (NameFrom s n ∧ (n = 0 → 0 < s.size → Letter (bt s 0)) ∧ 1 ≤ s.size ∧ s.size ≤ 12) = dec (NameFrom s (n + 1) ∧ (n + 1 = 0 → 0 < s.size → Letter (bt s 0)) ∧ 1 ≤ s.size ∧ s.size ≤ 12) :=
          dec_congr (by rw [hs]; exact ⟨fun g => ⟨g.1.2, fun h => by omega, g.2.2⟩, fun g => ⟨⟨.inr h2.1, g.1⟩, fun h => absurd h h2.2, g.2.2⟩⟩)
        rw [e]
        refine Ev.step (fun k => ?_) (ih (n + 1) (by omega))
        simp only [impl_NameOk.l0]
        unfold Letter at h1
        unfold Figure at h2
        rw [if_pos (by omega), if_pos (by omega), if_pos (by omega)]
        by_cases h3 : bt s (n : Int) ≥ 97
        · rw [if_pos h3, if_neg (by omega), if_neg (by omega), if_neg (by omega), if_neg (by omega), w64 (by omega) (by omega)]
          rfl
        · rw [if_neg h3, if_neg (by omega), if_neg (by omega), if_neg (by omega), w64 (by omega) (by omega)]
          rfl
      · refine ev_end fun k => ?_
        have e : dec (NameFrom s n ∧ (n = 0 → 0 < s.size → Letter (bt s 0)) ∧ 1 ≤ s.size ∧ s.size ≤ 12) = false := dec_false (by
          rw [hs]
          intro ⟨⟨g1, _⟩, g2, _⟩
          by_cases z : n = 0
          · subst z; exact h1 (g2 rfl (by omega))
          · exact g1.elim h1 (fun y => h2 ⟨y, z⟩))
        rw [e]
        simp only [impl_NameOk.l0]
        unfold Letter at h1
        unfold Figure at h2
        rw [if_pos (by omega), if_pos (by omega), if_pos (by omega)]
        by_cases z : n = 0
        · by_cases h3 : bt s (n : Int) ≥ 97
          · rw [if_pos h3, if_neg (by omega), if_pos (by omega)]
          · rw [if_neg h3, if_pos (by omega)]
        · have h4 : bt s (n : Int) < 48 ∨ bt s (n : Int) > 57 := by omega
          by_cases h3 : bt s (n : Int) ≥ 97
          · rw [if_pos h3, if_neg (by omega), if_neg (by omega), if_neg (by omega), if_pos (by omega)]
          · rw [if_neg h3, if_neg (by omega)]
            by_cases h5 : bt s (n : Int) < 48
            · rw [if_pos h5]
            · rw [if_neg h5, if_pos (by omega)]
theorem implNameOk (s : ByteArray) (hl : s.size ≤ 140737488351232) : Ev (fun k => impl_NameOk.f k s) (dec (IsName s)) := by
  have h := implNameOk_l0 s hl s.size 0 (by omega)
  have e : dec (NameFrom s 0 ∧ ((0 : Nat) = 0 → 0 < s.size → Letter (bt s 0)) ∧ 1 ≤ s.size ∧ s.size ≤ 12) = dec (IsName s) :=
    dec_congr ⟨fun g => ⟨g.2.2.1, g.2.2.2, g.2.1 rfl (by omega), g.1⟩, fun g => ⟨g.2.2.2, fun _ _ => g.2.2.1, g.1, g.2.1⟩⟩
  rw [e] at h
  exact h

theorem FnExactNameOk : laws_FnExactNameOk.Pure := by
  intro s hs
  refine Ev.rounds ?_
  unfold laws_FnExactNameOk.f
  by_cases hb : (s.size : Int) > 1048576
  · exact ev_pos hb (Ev.now _)
  exact ev_neg hb (Ev.bind (specNameOk s hs) (Ev.bind (implNameOk s hs) (ev_neg (by simp) (Ev.now _))))

end Go.Proofs.Ytfaafegnafhllaa.Pure
