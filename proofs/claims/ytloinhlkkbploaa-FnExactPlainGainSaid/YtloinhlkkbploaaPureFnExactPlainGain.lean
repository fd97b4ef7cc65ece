/- impl.PlainGain returns what spec.PlainGain returns, for all arguments. Conditions: none but the row's own.
-/
import Derived.Test.YtloinhlkkbploaaQFnExactPlainGainx2
set_option linter.unusedVariables false
set_option linter.unusedSimpArgs false
namespace Go.Proofs.Ytloinhlkkbploaa.Pure
open Go.RowKit Go.Proofs.Ytloinhlkkbploaa.QFnExactPlainGain Go.Proofs.YtloinhlkkbploaaW.PrintWords Go.Proofs.YtloinhlkkbploaaW.PrintLast Go.Proofs.YtloinhlkkbploaaW.PrintMore

theorem w64 {x : Int} (h1 : -9223372036854775808 ≤ x) (h2 : x ≤ 9223372036854775807) : wrap64 x = x := by unfold wrap64; omega
theorem i64_wf {x : Int} (h : (Lit.int .i64 x).wf = true) : -9223372036854775808 ≤ x ∧ x ≤ 9223372036854775807 := by
  simpa [Lit.wf, IntKind.min, IntKind.max, IntKind.signed, IntKind.bits] using h
theorem u8_wf {x : Int} (h : (Lit.int .u8 x).wf = true) : 0 ≤ x ∧ x ≤ 255 := by
  simpa [Lit.wf, IntKind.min, IntKind.max, IntKind.signed, IntKind.bits] using h
theorem rd_eq {xs : List Int} {i : Int} (h0 : 0 ≤ i) (h : i < (xs.length : Int)) : xs[i.toNat]? = some (rd xs i) := by
  unfold rd
  rw [List.getD_eq_getElem?_getD, List.getElem?_eq_getElem (by omega)]
  rfl
theorem rd_mem {xs : List Int} {i : Int} (h0 : 0 ≤ i) (h : i < (xs.length : Int)) : rd xs i ∈ xs := List.mem_of_getElem? (rd_eq h0 h)
theorem rd_of {xs : List Int} {n : Nat} {v : Int} (h : xs[n]? = some v) : rd xs (n : Int) = v := by
  unfold rd
  rw [List.getD_eq_getElem?_getD, Int.toNat_natCast, h]
  rfl
theorem ev_of {α : Type} {r : α} {p : Option α} (h : p = some r) : Ev (fun _ => p) r := ⟨0, fun _ _ => h⟩
theorem ev_end {α : Type} {g : Nat → Option α} {r : α} (h : ∀ k, g (k + 1) = some r) : Ev g r := Ev.step (f := fun _ => some r) h (Ev.now r)
theorem ev_pos {α : Type} {c : Prop} [Decidable c] {f g : Nat → Option α} {r : α} (hc : c) (h : Ev f r) : Ev (fun k => if c then f k else g k) r := Ev.congr (fun _ => if_pos hc) h
theorem ev_neg {α : Type} {c : Prop} [Decidable c] {f g : Nat → Option α} {r : α} (hc : ¬ c) (h : Ev g r) : Ev (fun k => if c then f k else g k) r := Ev.congr (fun _ => if_neg hc) h
theorem rd_drop {xs : List Int} {n : Nat} (h : n < xs.length) : xs.drop n = rd xs (n : Int) :: xs.drop (n + 1) := by
  rw [List.drop_eq_getElem_cons h]
  congr 1
  unfold rd
  rw [List.getD_eq_getElem?_getD, Int.toNat_natCast, List.getElem?_eq_getElem h]
  rfl
noncomputable def dec (p : Prop) : Bool := @decide p (Classical.propDecidable p)
theorem dec_true {p : Prop} (h : p) : dec p = true := @decide_eq_true p (Classical.propDecidable p) h
theorem dec_false {p : Prop} (h : ¬ p) : dec p = false := @decide_eq_false p (Classical.propDecidable p) h
theorem dec_iff {p : Prop} : dec p = true ↔ p := @decide_eq_true_iff p (Classical.propDecidable p)
theorem dec_congr {p q : Prop} (h : p ↔ q) : dec p = dec q := by rw [propext h]
theorem dec_eq {p : Prop} [Decidable p] : dec p = decide p := by
  by_cases h : p
  · rw [dec_true h, decide_eq_true h]
  · rw [dec_false h, decide_eq_false h]
/-- The sum and true; 0 and false where it has no room. -/
def addI (a b : Int) : Int × Bool := if -9223372036854775808 ≤ a + b ∧ a + b ≤ 9223372036854775807 then (a + b, true) else (0, false)
def subI (a b : Int) : Int × Bool := if -9223372036854775808 ≤ a - b ∧ a - b ≤ 9223372036854775807 then (a - b, true) else (0, false)
def I64 (a : Int) : Prop := -9223372036854775808 ≤ a ∧ a ≤ 9223372036854775807
theorem addI_i64 (a b : Int) : I64 (addI a b).1 := by
  unfold addI I64
  split
  · assumption
  · exact ⟨by decide, by decide⟩
theorem subI_i64 (a b : Int) : I64 (subI a b).1 := by
  unfold subI I64
  split
  · assumption
  · exact ⟨by decide, by decide⟩
theorem wrap_over {x : Int} (h1 : 9223372036854775807 < x) (h2 : x < 27670116110564327424) : wrap64 x = x - 18446744073709551616 := by unfold wrap64; omega
theorem wrap_under {x : Int} (h1 : x < -9223372036854775808) (h2 : -27670116110564327424 ≤ x) : wrap64 x = x + 18446744073709551616 := by unfold wrap64; omega
theorem u64_wrap (x : Int) : IntKind.u64.wrap x = x % 18446744073709551616 := by
  simp [IntKind.wrap, IntKind.bits, IntKind.signed]
theorem u64w {x : Int} (h1 : 0 ≤ x) (h2 : x < 18446744073709551616) : IntKind.u64.wrap x = x := by
  rw [u64_wrap]; omega
theorem u64_low {x : Int} (h1 : 0 ≤ x) (h2 : x < 18446744073709551616) : Go.bits .and .u64 x 4294967295 = x % 4294967296 :=
  bits_mask .u64 64 (by decide) (fun n h0 h => by rw [u64_wrap]; omega) 32 (by decide) x h1 (by omega)
/-- The size of a number. -/
def absI (a : Int) : Int := if a < 0 then -a else a
theorem absI_range {a : Int} (h : I64 a) : 0 ≤ absI a ∧ absI a ≤ 9223372036854775808 := by unfold I64 at h; unfold absI; split <;> omega
theorem prod_range {x y : Int} (hx : 0 ≤ x ∧ x < 4294967296) (hy : 0 ≤ y ∧ y < 4294967296) : 0 ≤ x * y ∧ x * y ≤ 18446744065119617025 := by
  refine ⟨Int.mul_nonneg hx.1 hy.1, ?_⟩
  have : x * y ≤ 4294967295 * 4294967295 := Int.mul_le_mul (by omega) (by omega) hy.1 (by omega)
  omega
theorem prod_split (a b : Int) : a * b = (a / 4294967296) * (b / 4294967296) * 18446744073709551616 + ((a / 4294967296) * (b % 4294967296) + (a % 4294967296) * (b / 4294967296)) * 4294967296 + (a % 4294967296) * (b % 4294967296) := by
  have h1 : a = (a / 4294967296) * 4294967296 + a % 4294967296 := by omega
  have h2 : b = (b / 4294967296) * 4294967296 + b % 4294967296 := by omega
  generalize a / 4294967296 = p at *
  generalize a % 4294967296 = q at *
  generalize b / 4294967296 = r at *
  generalize b % 4294967296 = s at *
  subst h1 h2
  simp only [Int.add_mul, Int.mul_add]
  have e1 : p * 4294967296 * (r * 4294967296) = p * r * 18446744073709551616 := by
    rw [Int.mul_assoc, ← Int.mul_assoc 4294967296 r, Int.mul_comm 4294967296 r, Int.mul_assoc r, ← Int.mul_assoc p]; rfl
  have e2 : p * 4294967296 * s = p * s * 4294967296 := by rw [Int.mul_assoc, Int.mul_comm 4294967296 s, ← Int.mul_assoc]
  have e3 : q * (r * 4294967296) = q * r * 4294967296 := by rw [← Int.mul_assoc]
  rw [e1, e2, e3]
  omega
/-- A product, as a sign and two words. -/
def mulW (a b : Int) : Bool × Int × Int := (((decide (a < 0)) != (decide (b < 0))) && decide (0 < absI a * absI b), absI a * absI b / 18446744073709551616, absI a * absI b % 18446744073709551616)
theorem absI_mul_pos (a b : Int) : 0 < absI a * absI b ↔ a ≠ 0 ∧ b ≠ 0 := by
  have ha : 0 ≤ absI a := by unfold absI; split <;> omega
  have hb : 0 ≤ absI b := by unfold absI; split <;> omega
  constructor
  · intro h
    refine ⟨fun z => ?_, fun z => ?_⟩
    · subst z; simp [absI] at h
    · subst z; simp [absI] at h
  · intro ⟨h1, h2⟩
    exact Int.mul_pos (by unfold absI at *; split <;> omega) (by unfold absI at *; split <;> omega)
def WOk (s : Bool) (h l : Int) : Prop := h < 9223372036854775808 ∧ (s = true → 0 < h ∨ 0 < l)
def FOk (s : Bool) (h l d : Int) : Prop := WOk s h l ∧ 1 ≤ d ∧ d ≤ 1000000
open Classical in
noncomputable def fracOf (s : Bool) (h l d : Int) : Bool × Int × Int × Int × Bool := if FOk s h l d then (s, h, l, d, true) else (false, 0, 0, 0, false)
open Classical in
/-- The score of a slot. -/
noncomputable def plainG (n g lam : Int) : Bool × Int × Int × Int × Bool :=
  if (0 ≤ n ∧ n ≤ 40) ∧ (1 ≤ lam ∧ lam ≤ 100) then fracOf (mulW g g).1 (mulW g g).2.1 (mulW g g).2.2 (n + lam) else (false, 0, 0, 0, false)
theorem implWideOk (s : Bool) (h l : Int) : impl_WideOk.f s h l = some (dec (WOk s h l)) := by
  unfold impl_WideOk.f
  by_cases h1 : h < 9223372036854775808
  · rw [if_pos h1]
    by_cases h2 : s = true
    · rw [if_pos h2]
      by_cases h3 : h > 0
      · rw [if_pos h3, dec_true ⟨h1, fun _ => .inl h3⟩]
      · rw [if_neg h3, ← dec_eq]
        congr 1
        exact dec_congr ⟨fun z => ⟨h1, fun _ => .inr z⟩, fun z => (z.2 h2).elim (fun y => absurd y h3) (fun y => y)⟩
    · rw [if_neg h2, dec_true ⟨h1, fun z => absurd z h2⟩]
  · rw [if_neg h1, dec_false (fun z => h1 z.1)]
theorem implWithin (a b c : Int) : impl_within.f a b c = some (decide (b ≤ a ∧ a ≤ c)) := by
  unfold impl_within.f
  by_cases h : b ≤ a
  · rw [if_pos h]; simp [h]
  · rw [if_neg h]; simp [h]
theorem implFracOk (s : Bool) (h l d : Int) : impl_FracOk.f s h l d = some (dec (FOk s h l d)) := by
  unfold impl_FracOk.f
  simp only [implWideOk, implWithin, Option.bind_some]
  by_cases h1 : WOk s h l
  · rw [dec_true h1, if_pos rfl, ← dec_eq]
    congr 1
    exact dec_congr ⟨fun z => ⟨h1, z⟩, fun z => z.2⟩
  · rw [dec_false h1, if_neg (by decide), dec_false (fun z => h1 z.1)]
theorem mul64 {a b : Int} (ha : 0 ≤ a ∧ a < 18446744073709551616) (hb : 0 ≤ b ∧ b < 18446744073709551616) : bits_Mul64.f a b = some (a * b / 18446744073709551616, a * b % 18446744073709551616) := by
  unfold bits_Mul64.f
  have h := prod_split a b
  rw [u64_low ha.1 ha.2, u64_low hb.1 hb.2]
  have r1 := prod_range (x := a / 4294967296) (y := b / 4294967296) (by omega) (by omega)
  have r2 := prod_range (x := a / 4294967296) (y := b % 4294967296) (by omega) (by omega)
  have r3 := prod_range (x := a % 4294967296) (y := b / 4294967296) (by omega) (by omega)
  have r4 := prod_range (x := a % 4294967296) (y := b % 4294967296) (by omega) (by omega)
  have r0 : 0 ≤ a * b := Int.mul_nonneg ha.1 hb.1
  generalize (a / 4294967296) * (b / 4294967296) = p at *
  generalize (a / 4294967296) * (b % 4294967296) = q at *
  generalize (a % 4294967296) * (b / 4294967296) = r at *
  generalize (a % 4294967296) * (b % 4294967296) = s at *
  generalize a * b = t at *
  rw [u64w (x := p) (by omega) (by omega), u64w (x := q) (by omega) (by omega), u64w (x := r) (by omega) (by omega), u64w (x := s) (by omega) (by omega), u64w (x := q + s / 4294967296) (by omega) (by omega), u64_low (x := q + s / 4294967296) (by omega) (by omega),
    u64w (x := p + (q + s / 4294967296) / 4294967296) (by omega) (by omega), u64w (x := (q + s / 4294967296) % 4294967296 + r) (by omega) (by omega), u64w (by omega) (by omega), u64_wrap]
  congr 2
  omega
theorem implSize {a : Int} (h : I64 a) : impl_size.f a = some (absI a) := by
  unfold I64 at h
  unfold impl_size.f absI
  split
  · rw [u64_wrap, u64_wrap]; congr 1; omega
  · rw [u64w (by omega) (by omega)]
theorem implWideOf (s : Bool) {h l : Int} (h1 : 0 ≤ h) (h2 : 0 ≤ l) : impl_wideOf.f s h l = some (s && decide (0 < h + l), h, l) := by
  unfold impl_wideOf.f
  by_cases hs : s = true
  · rw [if_pos hs]
    by_cases g : h > 0
    · rw [if_pos g, hs]
      simp; omega
    · rw [if_neg g, hs]
      simp; omega
  · rw [if_neg hs]
    simp at hs
    simp [hs]
theorem implMulWide {a b : Int} (ha : I64 a) (hb : I64 b) : impl_MulWide.f a b = some (mulW a b) := by
  unfold impl_MulWide.f mulW
  have ra := absI_range ha
  have rb := absI_range hb
  have rp : 0 ≤ absI a * absI b := Int.mul_nonneg ra.1 rb.1
  simp only [implSize ha, implSize hb, mul64 (a := absI a) (b := absI b) (by omega) (by omega), Option.bind_some]
  rw [implWideOf _ (by omega) (by omega)]
  have e : decide (0 < absI a * absI b / 18446744073709551616 + absI a * absI b % 18446744073709551616) = decide (0 < absI a * absI b) := by
    rw [decide_eq_decide]
    omega
  rw [e]
  rfl
theorem implFracOf (s : Bool) (h l d : Int) : impl_fracOf.f s h l d = some (fracOf s h l d) := by
  unfold impl_fracOf.f fracOf
  simp only [implFracOk, Option.bind_some]
  by_cases g : FOk s h l d
  · rw [dec_true g, if_pos rfl, if_pos g]
  · rw [dec_false g, if_neg (by decide), if_neg g]
theorem implSquareOver {g : Int} (d : Int) (hg : I64 g) : impl_SquareOver.f g d = some (fracOf (mulW g g).1 (mulW g g).2.1 (mulW g g).2.2 d) := by
  unfold impl_SquareOver.f
  simp only [implMulWide hg hg, implFracOf, Option.bind_some]
theorem implCount (n lam : Int) : impl_isCount.f n lam = some (decide ((0 ≤ n ∧ n ≤ 40) ∧ (1 ≤ lam ∧ lam ≤ 100))) := by
  unfold impl_isCount.f
  simp only [implWithin, Option.bind_some]
  by_cases h1 : 0 ≤ n ∧ n ≤ 40
  · rw [if_pos (by simpa using h1)]
    simp [h1]
  · rw [if_neg (by simpa using h1)]
    simp [h1]
theorem implPlainGain {g : Int} (n lam : Int) (hg : I64 g) : impl_PlainGain.f n g lam = some (plainG n g lam) := by
  unfold impl_PlainGain.f plainG
  simp only [implCount, implSquareOver _ hg, Option.bind_some]
  by_cases h : (0 ≤ n ∧ n ≤ 40) ∧ (1 ≤ lam ∧ lam ≤ 100)
  · rw [if_pos (by simpa using h), if_pos h, w64 (by omega) (by omega)]
  · rw [if_neg (by simpa using h), if_neg h]
theorem specWideOk (s : Bool) (h l : Int) : spec_WideOk.f s h l = some (dec (WOk s h l)) := by
  unfold spec_WideOk.f
  by_cases h1 : h < 9223372036854775808
  · rw [if_pos h1]
    by_cases h2 : s = true
    · rw [if_pos h2]
      by_cases h3 : h > 0
      · rw [if_pos h3, dec_true ⟨h1, fun _ => .inl h3⟩]
      · rw [if_neg h3, ← dec_eq]
        congr 1
        exact dec_congr ⟨fun z => ⟨h1, fun _ => .inr z⟩, fun z => (z.2 h2).elim (fun y => absurd y h3) (fun y => y)⟩
    · rw [if_neg h2, dec_true ⟨h1, fun z => absurd z h2⟩]
  · rw [if_neg h1, dec_false (fun z => h1 z.1)]
theorem specIn (a b c : Int) : spec_l1In.f a b c = some (decide (b ≤ a ∧ a ≤ c)) := by
  unfold spec_l1In.f
  by_cases h : b ≤ a
  · rw [if_pos h]; simp [h]
  · rw [if_neg h]; simp [h]
theorem specFracOk (s : Bool) (h l d : Int) : spec_FracOk.f s h l d = some (dec (FOk s h l d)) := by
  unfold spec_FracOk.f
  simp only [specWideOk, specIn, Option.bind_some]
  by_cases h1 : WOk s h l
  · rw [dec_true h1, if_pos rfl, ← dec_eq]
    congr 1
    exact dec_congr ⟨fun z => ⟨h1, z⟩, fun z => z.2⟩
  · rw [dec_false h1, if_neg (by decide), dec_false (fun z => h1 z.1)]
theorem specProduct {a b : Int} (ha : 0 ≤ a ∧ a < 18446744073709551616) (hb : 0 ≤ b ∧ b < 18446744073709551616) : spec_l3Product.f a b = some (a * b / 18446744073709551616, a * b % 18446744073709551616) := by
  unfold spec_l3Product.f
  have h := prod_split a b
  rw [u64_low ha.1 ha.2, u64_low hb.1 hb.2]
  have r1 := prod_range (x := a / 4294967296) (y := b / 4294967296) (by omega) (by omega)
  have r2 := prod_range (x := a / 4294967296) (y := b % 4294967296) (by omega) (by omega)
  have r3 := prod_range (x := a % 4294967296) (y := b / 4294967296) (by omega) (by omega)
  have r4 := prod_range (x := a % 4294967296) (y := b % 4294967296) (by omega) (by omega)
  have r0 : 0 ≤ a * b := Int.mul_nonneg ha.1 hb.1
  generalize (a / 4294967296) * (b / 4294967296) = p at *
  generalize (a / 4294967296) * (b % 4294967296) = q at *
  generalize (a % 4294967296) * (b / 4294967296) = r at *
  generalize (a % 4294967296) * (b % 4294967296) = s at *
  generalize a * b = t at *
  rw [u64w (x := p) (by omega) (by omega), u64w (x := q) (by omega) (by omega), u64w (x := r) (by omega) (by omega), u64w (x := s) (by omega) (by omega), u64w (x := q + s / 4294967296) (by omega) (by omega), u64_low (x := q + s / 4294967296) (by omega) (by omega), u64_low (x := s) (by omega) (by omega),
    u64w (x := p + (q + s / 4294967296) / 4294967296) (by omega) (by omega), u64w (x := r + (q + s / 4294967296) % 4294967296) (by omega) (by omega), u64w (x := p + (q + s / 4294967296) / 4294967296 + (r + (q + s / 4294967296) % 4294967296) / 4294967296) (by omega) (by omega), u64_wrap, u64_wrap]
  congr 2
  · omega
  · omega
theorem specAbs {a : Int} (h : I64 a) : spec_l3Abs.f a = some (absI a) := by
  unfold I64 at h
  unfold spec_l3Abs.f absI
  split
  · rw [w64 (x := a + 1) (by omega) (by omega), w64 (by omega) (by omega), u64w (x := -(a + 1)) (by omega) (by omega), u64w (by omega) (by omega)]; congr 1; omega
  · rw [u64w (by omega) (by omega)]
theorem specMulWide {a b : Int} (ha : I64 a) (hb : I64 b) : spec_MulWide.f a b = some (mulW a b) := by
  unfold spec_MulWide.f mulW
  have ra := absI_range ha
  have rb := absI_range hb
  have hp := absI_mul_pos a b
  simp only [specAbs ha, specAbs hb, specProduct (a := absI a) (b := absI b) (by omega) (by omega), Option.bind_some]
  by_cases h : ((decide (a < 0)) != (decide (b < 0))) = true
  · rw [if_pos h, h]
    by_cases h1 : a = 0
    · rw [if_pos h1]
      have : ¬ (0 < absI a * absI b) := fun z => (hp.1 z).1 h1
      simp [this]
    · rw [if_neg h1]
      by_cases h2 : b = 0
      · subst h2
        simp [absI]
      · have : 0 < absI a * absI b := hp.2 ⟨h1, h2⟩
        simp [this, h2]
  · rw [if_neg h]
    simp only [Bool.not_eq_true] at h
    rw [h]
    simp
theorem specSquareOver {g : Int} (d : Int) (hg : I64 g) : spec_SquareOver.f g d = some (fracOf (mulW g g).1 (mulW g g).2.1 (mulW g g).2.2 d) := by
  unfold spec_SquareOver.f fracOf
  simp only [specMulWide hg hg, specFracOk, Option.bind_some]
  by_cases h : FOk (mulW g g).1 (mulW g g).2.1 (mulW g g).2.2 d
  · rw [dec_true h, if_pos rfl, if_pos h]
  · rw [dec_false h, if_neg (by decide), if_neg h]
theorem specPlainGain {g : Int} (n lam : Int) (hg : I64 g) : spec_PlainGain.f n g lam = some (plainG n g lam) := by
  unfold spec_PlainGain.f plainG
  simp only [specIn, specSquareOver _ hg, Option.bind_some]
  by_cases h1 : 0 ≤ n ∧ n ≤ 40
  · by_cases h2 : 1 ≤ lam ∧ lam ≤ 100
    · rw [if_pos (by simpa using h1), if_pos (by simpa using h2), if_pos ⟨h1, h2⟩, w64 (by omega) (by omega)]
    · rw [if_pos (by simpa using h1), if_neg (by simpa using h2), if_neg (fun z => h2 z.2)]
  · rw [if_neg (by simpa using h1), if_neg (fun z => h1 z.1)]
theorem eqFrac (s : Bool) (h l d : Int) : laws_eqFrac.f s h l d s h l d = some true := by
  unfold laws_eqFrac.f laws_eqWide.f
  simp

theorem FnExactPlainGain (a0_0 : Int) (a0_1 : Int) (a1 : Int)
    (w0_0 : (Lit.int .i64 a0_0).wf = true) (w0_1 : (Lit.int .i64 a0_1).wf = true) (w1 : (Lit.int .i64 a1).wf = true) : laws_FnExactPlainGain.f a0_0 a0_1 a1 = some true := by
  have h := i64_wf w0_1
  unfold laws_FnExactPlainGain.f laws_toSlot.f
  simp [specPlainGain a0_0 a1 h, implPlainGain a0_0 a1 h, eqFrac]

end Go.Proofs.Ytloinhlkkbploaa.Pure
