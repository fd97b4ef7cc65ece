/- What reads as data of a type is told by that type's kind: whole numbers, strings, slices, structs, nested as they come. Conditions: none.
-/
import Derived.Test.YtepnbcdbagjmbabDoorWWords
import Derived.WalkKit
import Derived.ProofKit
import Derived.OpenShut
import Derived.ShutString
import Derived.ChangeOld
import Derived.Below
import Derived.SizedLaws
namespace Go.Proofs.YtepnbcdbagjmbabDoor.Open
open Go.ChangeShapes Go.WideShapes Go.ChangeAt Go.RowKit Go.Proofs.YtepnbcdbagjmbabDoorW.PrintWords
set_option linter.unusedVariables false
/-- Whatever reads at type t is told by d, and good. -/
def Opens (P : Program) (t : TypeId) {α : Type} (d : Kd α) (good : α → Prop) : Prop :=
  ∀ {H : Type} (enc : TypeId × Value → H) (W : World) (fuel : Nat) (cs : List Value) (x : DataW H × List MemPlace),
    DataW.trod enc P W 0 (fun _ => true) true fuel t cs = some x → ∃ a, d.K W a cs ∧ good a
theorem opens_int {P : Program} {t : TypeId} {k : IntKind} (hu : P.underlying t = some (.int k)) : Opens P t (Kd.int k) (fun n => (Lit.int k n).wf = true) := by
  intro H enc W fuel cs x h
  obtain ⟨n, rfl, _, hw⟩ := DataW.trod_int hu h
  exact ⟨n, rfl, hw⟩
theorem opens_string {P : Program} {t : TypeId} (hu : P.underlying t = some .string) : Opens P t Kd.string (fun s => s.size ≤ maxLen) := by
  intro H enc W fuel cs x h
  obtain ⟨s, rfl, _, hw⟩ := DataW.trod_string hu h
  exact ⟨s, rfl, hw⟩
theorem opens_bool {P : Program} {t : TypeId} (hu : P.underlying t = some .bool) : Opens P t Kd.bool (fun _ => True) := by
  intro H enc W fuel cs x h
  obtain ⟨b, rfl, _⟩ := DataW.trod_bool hu h
  exact ⟨b, rfl, trivial⟩
theorem opens_iso {P : Program} {t : TypeId} {α β : Type} {d : Kd α} {good : α → Prop} {f : β → α} (g : α → β) (hg : ∀ a, f (g a) = a) (h : Opens P t d good) : Opens P t (Kd.iso d f) (fun b => good (f b)) := by
  intro H enc W fuel cs x hx
  obtain ⟨a, hK, hgood⟩ := h enc W fuel cs x hx
  refine ⟨g a, ?_, ?_⟩
  · show d.K W (f (g a)) cs
    rw [hg]; exact hK
  · show good (f (g a))
    rw [hg]; exact hgood
theorem list_of {α : Type} {P : Nat → α → Prop} : ∀ n : Nat, (∀ i, i < n → ∃ a, P i a) → ∃ xs : List α, xs.length = n ∧ ∀ i a, xs[i]? = some a → P i a := by
  intro n
  induction n with
  | zero => exact fun _ => ⟨[], rfl, fun i a h => by simp at h⟩
  | succ n ih =>
    intro h
    obtain ⟨xs, hl, hp⟩ := ih (fun i hi => h i (by omega))
    obtain ⟨a, ha⟩ := h n (by omega)
    refine ⟨xs ++ [a], by simp [hl], fun i b hb => ?_⟩
    by_cases hi : i < n
    · rw [List.getElem?_append_left (by omega)] at hb
      exact hp i b hb
    · have hlt := (List.getElem?_eq_some_iff.1 hb).1
      rw [List.length_append, hl] at hlt
      simp only [List.length_cons, List.length_nil] at hlt
      obtain rfl : i = n := by omega
      rw [List.getElem?_append_right (by omega), hl, Nat.sub_self] at hb
      simp only [List.getElem?_cons_zero, Option.some.injEq] at hb
      exact hb ▸ ha
theorem opens_slice {P : Program} {t e : TypeId} (q : Nat) {α : Type} {d : Kd α} {good : α → Prop} (hu : P.underlying t = some (.slice e)) (hsz : P.cellsOf e = d.sz) (h : Opens P e d good) :
    Opens P t (Kd.slice q d) (fun xs => xs.length ≤ maxLen ∧ ∀ x ∈ xs, good x) := by
  intro H enc W fuel cs x hx
  rcases DataW.trod_slice hu hx with ⟨rfl, _⟩ | ⟨a, len, cap, elems, rest, n, _, rfl, _, _, hl, hm, hlen, hel, _⟩
  · exact ⟨[], ⟨none, 0, rfl, Nat.le_refl _, rfl, by simp, fun h => absurd h (by simp)⟩, by simp, by simp⟩
  · obtain ⟨xs, hxl, hxp⟩ := list_of (P := fun i y => ∃ c, W.cells? 0 (a.add (i * d.sz)) d.sz = some c ∧ d.K W y c ∧ good y) len (fun i hi => by
      have hi' := hel i hi
      rw [List.getElem?_eq_getElem (by omega), Option.bind_eq_some_iff] at hi'
      obtain ⟨c, hc, ht⟩ := hi'
      obtain ⟨y, hK, hg⟩ := h enc W n c _ ht
      rw [hsz] at hc
      exact ⟨y, c, hc, hK, hg⟩)
    subst hxl
    refine ⟨xs, ⟨some a, cap, rfl, hl, rfl, by have h := Nat.le_trans hl hm; unfold maxLen at h; omega, fun _ => ⟨a, rfl, fun j p hj => ?_⟩⟩, Nat.le_trans hl hm, fun y hy => ?_⟩
    · obtain ⟨c, hc, hK, _⟩ := hxp j p hj
      refine ⟨c, d.K_len hK, hK, fun i u hu' => ?_⟩
      have hlt : i < d.sz := by rw [← d.K_len hK]; exact (List.getElem?_eq_some_iff.1 hu').1
      have := (World.cells?_some hc).2.2 i hlt
      rw [Addr.add_add] at this
      rw [this, hu']
    · obtain ⟨i, hi, rfl⟩ := List.getElem_of_mem hy
      obtain ⟨_, _, _, hg⟩ := hxp i _ (List.getElem?_eq_getElem hi)
      exact hg
/-- Fields that lie one behind the other, from o on. -/
def OpensF (P : Program) (fs : List Field) (o : Nat) {α : Type} (d : Kd α) (good : α → Prop) : Prop :=
  ∀ {H : Type} (enc : TypeId × Value → H) (W : World) (fuel : Nat) (cs : List Value),
    (∀ f ∈ fs, ∃ y, DataW.trod enc P W 0 (fun _ => true) true fuel f.type ((cs.drop f.offset).take (P.cellsOf f.type)) = some y) → ∃ a, d.K W a ((cs.drop o).take d.sz) ∧ good a
theorem opensF_one {P : Program} {f : Field} {o : Nat} {α : Type} {d : Kd α} {good : α → Prop} (ho : f.offset = o) (hsz : P.cellsOf f.type = d.sz) (h : Opens P f.type d good) : OpensF P [f] o d good := by
  intro H enc W fuel cs hf
  obtain ⟨y, hy⟩ := hf f (by simp)
  rw [ho, hsz] at hy
  exact h enc W fuel _ y hy
theorem opensF_cons {P : Program} {f : Field} {fs : List Field} {o : Nat} {α β : Type} {d : Kd α} {d' : Kd β} {good : α → Prop} {good' : β → Prop} (ho : f.offset = o) (hsz : P.cellsOf f.type = d.sz) (h : Opens P f.type d good)
    (h2 : OpensF P fs (o + d.sz) d' good') : OpensF P (f :: fs) o (Kd.pair d d') (fun x => good x.1 ∧ good' x.2) := by
  intro H enc W fuel cs hf
  obtain ⟨a, hK, hg⟩ := opensF_one ho hsz h enc W fuel cs (fun g hg => hf g (by simp at hg; simp [hg]))
  obtain ⟨b, hK', hg'⟩ := h2 enc W fuel cs (fun g hg => hf g (by simp [hg]))
  refine ⟨(a, b), ⟨_, _, ?_, hK, hK'⟩, hg, hg'⟩
  show (cs.drop o).take (d.sz + d'.sz) = _
  rw [List.take_add, List.drop_drop]
theorem opens_struct {P : Program} {t : TypeId} {fs : Array Field} {α : Type} {d : Kd α} {good : α → Prop} (hu : P.underlying t = some (.struct fs)) (hsz : P.cellsOf t = d.sz) (h : OpensF P fs.toList 0 d good) : Opens P t d good := by
  intro H enc W fuel cs x hx
  obtain ⟨xs, n, _, _, hl, hlen, hf⟩ := DataW.trod_struct hu hx
  obtain ⟨a, hK, hg⟩ := h enc W n cs (fun f hmem => by
    obtain ⟨i, hi, rfl⟩ := List.getElem_of_mem hmem
    have := hf i (fs.toList[i]) (by simp at hi ⊢)
    rw [List.getElem?_eq_getElem (by rw [hlen]; simpa using hi)] at this
    exact ⟨_, this⟩)
  refine ⟨a, ?_, hg⟩
  rw [List.drop_zero, List.take_of_length_le (by rw [hl, hsz]; exact Nat.le_refl _)] at hK
  exact hK
theorem agg_of {cs : Array Value} {l : List Value} (h : (Value.agg cs).cells.toList = l) : cs = l.toArray := by
  simpa [Value.cells] using congrArg List.toArray h
theorem slice_of {a : Option Addr} {n c : Nat} {l : List Value} (h : (Value.slice a n c).cells.toList = l) : l = [.slice a n c] := by
  simpa [Value.cells] using h.symm
end Go.Proofs.YtepnbcdbagjmbabDoor.Open
