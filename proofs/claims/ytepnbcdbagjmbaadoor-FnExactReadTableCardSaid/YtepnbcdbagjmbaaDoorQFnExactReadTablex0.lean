/- The machine side of FnExactReadTable: what each Go function that it reaches comes to. Conditions: none. -/
import Derived.Test.YtepnbcdbagjmbaaDoorProg
import Derived.Below
import Derived.Deep.Draws
import Derived.Deep.AppendLies
import Derived.Maps.AppendAt
import Derived.OwnWalk
import Derived.Laws.BytesArg
import Derived.Laws.MakeOwn
import Derived.Laws.OwnMore
import Derived.Deep.OwnRows
import Derived.Tactics
import Derived.Lib.ConvBytes
import Derived.Laws.Slices
import Derived.WalkKit
import Derived.KernelRfl
import Derived.RowKit3
import Derived.Deep.LoopGhost
import Derived.Deep.QuietTactic
import Derived.BigQuiet
import Derived.WideLaws
import Derived.Deep.DeepCutAuto
import Derived.Deep.CutBlock
import Derived.Deep.RegionHeld3
import Derived.Laws.Rows
import Derived.Lib.AppendStr
import Derived.ArgAppend
import Derived.Laws.IdiomCopy
import Derived.OrdersHeld
import Derived.Laws.BitsLemmas
import Derived.RowKit
import Derived.Laws.Externs
import Derived.Test.YtepnbcdbagjmbaaDoorShelf
import Derived.Test.YtepnbcdbagjmbaaDoorGlob
import Derived.Shelf.Strings.SlTrimAscii
import Derived.Lib.OthersKept
import Derived.Lib.DecodeN
import Derived.Test.YtepnbcdbagjmbaaDoorWWords
import Derived.Test.YtepnbcdbagjmbaaDoorWLast
import Derived.Test.YtepnbcdbagjmbaaDoorWTab
import Derived.Test.YtepnbcdbagjmbaaDoorWFour
import Derived.Test.YtepnbcdbagjmbaaDoorWQPut
import Derived.Test.YtepnbcdbagjmbaaDoorWApart
import Derived.Test.YtepnbcdbagjmbaaDoorWArr
import Derived.Test.YtepnbcdbagjmbaaDoorWZeros
import Derived.Test.YtepnbcdbagjmbaaDoorWFoot
import Derived.Test.YtepnbcdbagjmbaaDoorWKept
import Derived.Test.YtepnbcdbagjmbaaDoorWShare
import Derived.Test.YtepnbcdbagjmbaaDoorWN
import Derived.Test.YtepnbcdbagjmbaaDoorWFootNe
import Derived.Test.YtepnbcdbagjmbaaDoorWAt
import Derived.Test.YtepnbcdbagjmbaaDoorWEqStruct
import Derived.Test.YtepnbcdbagjmbaaDoorWRepsOne
import Derived.Test.YtepnbcdbagjmbaaDoorWInv
import Derived.Test.YtepnbcdbagjmbaaDoorWInvWords
import Derived.Test.YtepnbcdbagjmbaaDoorWGuard
import Derived.Test.YtepnbcdbagjmbaaDoorWNEv
import Derived.Test.YtepnbcdbagjmbaaDoorWMore
namespace Go.Proofs.YtepnbcdbagjmbaaDoor.QFnExactReadTable
open Go.RowKit Go.Proofs.YtepnbcdbagjmbaaDoorW.PrintWords Go.Proofs.YtepnbcdbagjmbaaDoorW.PrintLast Go.Proofs.YtepnbcdbagjmbaaDoorW.PrintMore
attribute [local go_sem] max2_int min2_int max_two min_two max_three min_three max_four min_four   -- for this text's walks alone
set_option linter.unusedVariables false
set_option linter.unusedSimpArgs false
section
variable {P : Program} {md : Region.Mode} {ops : Array Oper} {Q : Exit → Act → World → Prop} {S : World → Prop} {ds : List Nat} {T : Bool × List (List Nat × List Nat)} {B : List Nat} {fuel : Nat} {l : Array Bool} {a a' : Act} {w : World} {oi : Oper} {v : Value}
def qB : Nat → Nat → List Bool
  | 0, _ => []
  | n + 1, m => (m % 2 == 1) :: qB n (m / 2)
def qM (n m : Nat) : Array Bool := (qB n m).toArray
theorem ifp {α : Type} {c : Prop} [Decidable c] {x : Option α} {r : α} (h : (if c then x else none) = some r) : c ∧ x = some r := by
  by_cases k : c
  · rw [if_pos k] at h; exact ⟨k, h⟩
  · rw [if_neg k] at h; exact absurd h (by simp)
theorem zR {p : Prop} (h : p := by first | (rw [hyy];with_reducible exact H) | (have H2_ := (Option.bind_some _ _).symm.trans H;rw [hyy];with_reducible exact H2_) | (have H2_ := (Option.bind_some _ _).symm.trans H;with_reducible exact H2_) | with_reducible exact H | (rw [hyy];exact H) | exact H) : p := h
theorem dD {w : World} {m n : Nat} : (w.drewN m).drewN n = w.drewN (m + n) := World.drewN_drewN _ _ _
theorem dT {w : World} {m n k : Nat} : (w.drewN (m + n)).drewN k = w.drewN (m + (n + k)) := Eq.trans (World.drewN_drewN _ _ _) (congrArg (World.drewN _) (Nat.add_assoc _ _ _))
theorem bc {W : World} {g t : Nat} {cs : Array Value} (h : Aside0 (W.heap[g]? = some (.cells cs t (0, 0)))) (j : Nat) {v : Value} (hj : cs[j]? = some v := by rfl) : W.cell? ⟨g, j, none⟩ = some v := (blk_cell h.out j).trans hj
theorem rP (i : Nat) (N : Tmp) (n m : Nat) (HT_ : Aside0 (rtab md ops = T)) (hi : ops[i]? = some oi := by rfl) (hN : oi.dst = some N := by rfl) (hc : anyT T l.toList (qM n m).toList i = true := by kernel_rfl) (hQ : ∀ c a w, Q (.panic c) (a.put oi.dst v) w → Q (.panic c) a w := by exact fun _ _ _ h => h) (hy : Region.wanted oi (yielded ops a.tmps) = true := by rfl) (hr : ∀ w, (execOp a.eval oi).run P w = .ok (.value v) w := by intro w'; go_simp; with_reducible rfl) (ha : a.put (some N) v = a' := by simp only [Act.put, List.setIfInBounds_toArray, List.set_cons_zero, List.set_cons_succ, i64_w, i32_w]; rfl) (h : wpAnyLast P md ops Q S ds fuel (qM n m) a' w) : wpAnyLast P md ops Q S ds (fuel + 1) l a w :=
  pure_ (qM n m) hi hN (any_of HT_.out hc) hQ (Or.inl ⟨hy, hr⟩) ha h
theorem rU (i : Nat) (N : Tmp) (n m : Nat) (HT_ : Aside0 (rtab md ops = T)) (hi : ops[i]? = some oi := by rfl) (hN : oi.dst = some N := by rfl) (hc : anyT T l.toList (qM n m).toList i = true := by kernel_rfl) (hQ : ∀ c a w, Q (.panic c) (a.put oi.dst undef) w → Q (.panic c) a w := by exact fun _ _ _ h => h) (hy : Region.wanted oi (yielded ops a.tmps) = false := by rfl) (ha : a.put (some N) undef = a' := by simp only [Act.put, List.setIfInBounds_toArray, List.set_cons_zero, List.set_cons_succ, i64_w, i32_w]; rfl) (h : wpAnyLast P md ops Q S ds fuel (qM n m) a' w) : wpAnyLast P md ops Q S ds (fuel + 1) l a w :=
  pure_ (qM n m) hi hN (any_of HT_.out hc) hQ (Or.inr ⟨hy, rfl⟩) ha h
theorem rO (i : Nat) (N : Tmp) (n m : Nat) (HT_ : Aside0 (rtab md ops = T)) (hi : ops[i]? = some oi := by rfl) (hN : oi.dst = some N := by rfl) (hc : (readyT T.2 l.toList == [i] && l.toList.set i true == (qM n m).toList) = true := by kernel_rfl) (hd : i ∉ ds := by decide) (h : ∀ K : Act → World → Prop, Shut (∀ a' w', S w' → (S w' → wpAnyLast P md ops Q S ds fuel (qM n m) a' w') → K a' w') → if Region.wanted oi (yielded ops a.tmps) = true then Oper.wp P oi a w K Q else K (a.put (some N) undef) w) : wpAnyLast P md ops Q S ds (fuel + 1) l a w :=
  one_ (qM n m) hi hN (one_of HT_.out hc) hd h
theorem sP (i : Nat) (N : Tmp) (n m : Nat) (hi : ops[i]? = some oi := by rfl) (hN : oi.dst = some N := by rfl) (hc : anyB md ops l (qM n m) i = true := by kernel_rfl) (hQ : ∀ c a w, Q (.panic c) (a.put oi.dst v) w → Q (.panic c) a w := by exact fun _ _ _ h => h) (hy : Region.wanted oi (yielded ops a.tmps) = true := by rfl) (hr : ∀ w, (execOp a.eval oi).run P w = .ok (.value v) w := by intro w'; go_simp; with_reducible rfl) (ha : a.put (some N) v = a' := by simp only [Act.put, List.setIfInBounds_toArray, List.set_cons_zero, List.set_cons_succ, i64_w, i32_w]; rfl) (h : wpAnyLast P md ops Q S ds fuel (qM n m) a' w) : wpAnyLast P md ops Q S ds (fuel + 1) l a w :=
  pure_ (qM n m) hi hN hc hQ (Or.inl ⟨hy, hr⟩) ha h
theorem sU (i : Nat) (N : Tmp) (n m : Nat) (hi : ops[i]? = some oi := by rfl) (hN : oi.dst = some N := by rfl) (hc : anyB md ops l (qM n m) i = true := by kernel_rfl) (hQ : ∀ c a w, Q (.panic c) (a.put oi.dst undef) w → Q (.panic c) a w := by exact fun _ _ _ h => h) (hy : Region.wanted oi (yielded ops a.tmps) = false := by rfl) (ha : a.put (some N) undef = a' := by simp only [Act.put, List.setIfInBounds_toArray, List.set_cons_zero, List.set_cons_succ, i64_w, i32_w]; rfl) (h : wpAnyLast P md ops Q S ds fuel (qM n m) a' w) : wpAnyLast P md ops Q S ds (fuel + 1) l a w :=
  pure_ (qM n m) hi hN hc hQ (Or.inr ⟨hy, rfl⟩) ha h
theorem sO (i : Nat) (N : Tmp) (n m : Nat) (hi : ops[i]? = some oi := by rfl) (hN : oi.dst = some N := by rfl) (hc : readyB md ops l (qM n m) i = true := by kernel_rfl) (hd : i ∉ ds := by decide) (h : ∀ K : Act → World → Prop, Shut (∀ a' w', S w' → (S w' → wpAnyLast P md ops Q S ds fuel (qM n m) a' w') → K a' w') → if Region.wanted oi (yielded ops a.tmps) = true then Oper.wp P oi a w K Q else K (a.put (some N) undef) w) : wpAnyLast P md ops Q S ds (fuel + 1) l a w :=
  one_ (qM n m) hi hN hc hd h
theorem rT2 (i : Nat) (N : Tmp) (n m : Nat) (HT_ : Aside0 (rtab md ops = T)) (HW_ : Aside0 (waitsOk T.2 B = true)) (hS : S w) (hi : ops[i]? = some oi := by rfl) (hN : oi.dst = some N := by rfl) (hc : takeW T B ds l.toList (qM n m).toList i = true := by kernel_rfl) (hQ : ∀ c a w, Q (.panic c) (a.put oi.dst v) w → Q (.panic c) a w := by exact fun _ _ _ h => h) (hy : Region.wanted oi (yielded ops a.tmps) = true := by rfl) (hr : ∀ w, S w → (execOp a.eval oi).run P w = .ok (.value v) w := by rintro w' ⟨s0, s1⟩; go_simp; with_reducible rfl) (ha : a.put (some N) v = a' := by simp only [Act.put, List.setIfInBounds_toArray, List.set_cons_zero, List.set_cons_succ, i64_w, i32_w]; rfl) (h : wpAnyLast P md ops Q S ds fuel (qM n m) a' w) : wpAnyLast P md ops Q S ds (fuel + 1) l a w :=
  take_ (qM n m) hi hN (take_ofW HT_.out HW_.out hc) hQ (Or.inl ⟨hy, hr⟩) hS ha h
theorem sT3 (i : Nat) (N : Tmp) (n m : Nat) (hS : S w) (hi : ops[i]? = some oi := by rfl) (hN : oi.dst = some N := by rfl) (hc : takeB md ops ds l (qM n m) i = true := by kernel_rfl) (hQ : ∀ c a w, Q (.panic c) (a.put oi.dst v) w → Q (.panic c) a w := by exact fun _ _ _ h => h) (hy : Region.wanted oi (yielded ops a.tmps) = true := by rfl) (hr : ∀ w, S w → (execOp a.eval oi).run P w = .ok (.value v) w := by rintro w' ⟨s0, s1, s2⟩; go_simp; with_reducible rfl) (ha : a.put (some N) v = a' := by simp only [Act.put, List.setIfInBounds_toArray, List.set_cons_zero, List.set_cons_succ, i64_w, i32_w]; rfl) (h : wpAnyLast P md ops Q S ds fuel (qM n m) a' w) : wpAnyLast P md ops Q S ds (fuel + 1) l a w :=
  take_ (qM n m) hi hN hc hQ (Or.inl ⟨hy, hr⟩) hS ha h
theorem rT4 (i : Nat) (N : Tmp) (n m : Nat) (HT_ : Aside0 (rtab md ops = T)) (HW_ : Aside0 (waitsOk T.2 B = true)) (hS : S w) (hi : ops[i]? = some oi := by rfl) (hN : oi.dst = some N := by rfl) (hc : takeW T B ds l.toList (qM n m).toList i = true := by kernel_rfl) (hQ : ∀ c a w, Q (.panic c) (a.put oi.dst v) w → Q (.panic c) a w := by exact fun _ _ _ h => h) (hy : Region.wanted oi (yielded ops a.tmps) = true := by rfl) (hr : ∀ w, S w → (execOp a.eval oi).run P w = .ok (.value v) w := by rintro w' ⟨s0, s1, s2, s3⟩; go_simp; with_reducible rfl) (ha : a.put (some N) v = a' := by simp only [Act.put, List.setIfInBounds_toArray, List.set_cons_zero, List.set_cons_succ, i64_w, i32_w]; rfl) (h : wpAnyLast P md ops Q S ds fuel (qM n m) a' w) : wpAnyLast P md ops Q S ds (fuel + 1) l a w :=
  take_ (qM n m) hi hN (take_ofW HT_.out HW_.out hc) hQ (Or.inl ⟨hy, hr⟩) hS ha h
theorem rT5 (i : Nat) (N : Tmp) (n m : Nat) (HT_ : Aside0 (rtab md ops = T)) (HW_ : Aside0 (waitsOk T.2 B = true)) (hS : S w) (hi : ops[i]? = some oi := by rfl) (hN : oi.dst = some N := by rfl) (hc : takeW T B ds l.toList (qM n m).toList i = true := by kernel_rfl) (hQ : ∀ c a w, Q (.panic c) (a.put oi.dst v) w → Q (.panic c) a w := by exact fun _ _ _ h => h) (hy : Region.wanted oi (yielded ops a.tmps) = true := by rfl) (hr : ∀ w, S w → (execOp a.eval oi).run P w = .ok (.value v) w := by rintro w' ⟨s0, s1, s2, s3, s4⟩; go_simp; with_reducible rfl) (ha : a.put (some N) v = a' := by simp only [Act.put, List.setIfInBounds_toArray, List.set_cons_zero, List.set_cons_succ, i64_w, i32_w]; rfl) (h : wpAnyLast P md ops Q S ds fuel (qM n m) a' w) : wpAnyLast P md ops Q S ds (fuel + 1) l a w :=
  take_ (qM n m) hi hN (take_ofW HT_.out HW_.out hc) hQ (Or.inl ⟨hy, hr⟩) hS ha h
theorem rN (ha : a = a' := by show Act.put _ (some _) _ = _; simp only [Act.put, List.setIfInBounds_toArray, List.set_cons_zero, List.set_cons_succ, i64_w, i32_w]; rfl) (h : wpAnyLast P md ops Q S ds fuel l a' w) : wpAnyLast P md ops Q S ds fuel l a w := norm_ ha h
end
section
theorem jA {a b : Prop} (x : a) (y : b) : Aside0 a ∧ b := ⟨.mk x, y⟩
theorem jB {a b : Prop} (x : a) (y : b) : a ∧ b := ⟨x, y⟩
theorem cells3 {w : World} {g : Nat} {t : TypeId} {a0 a1 a2 : Value} (h : w.heap[g]? = some (.cells #[a0,a1,a2] t (0,0))) : w.cell? ⟨g,0,none⟩ = some a0 ∧ w.cell? ⟨g,1,none⟩ = some a1 ∧ w.cell? ⟨g,2,none⟩ = some a2 ∧ w.frozen? ⟨g,0,none⟩ = false ∧ w.frozen? ⟨g,1,none⟩ = false ∧ w.frozen? ⟨g,2,none⟩ = false := ⟨(blk_cell h 0).trans rfl,(blk_cell h 1).trans rfl,(blk_cell h 2).trans rfl,blk_frozen h 0,blk_frozen h 1,blk_frozen h 2⟩
theorem cells4 {w : World} {g : Nat} {t : TypeId} {a0 a1 a2 a3 : Value} (h : w.heap[g]? = some (.cells #[a0,a1,a2,a3] t (0,0))) : w.cell? ⟨g,0,none⟩ = some a0 ∧ w.cell? ⟨g,1,none⟩ = some a1 ∧ w.cell? ⟨g,2,none⟩ = some a2 ∧ w.cell? ⟨g,3,none⟩ = some a3 ∧ w.frozen? ⟨g,0,none⟩ = false ∧ w.frozen? ⟨g,1,none⟩ = false ∧ w.frozen? ⟨g,2,none⟩ = false ∧ w.frozen? ⟨g,3,none⟩ = false := ⟨(blk_cell h 0).trans rfl,(blk_cell h 1).trans rfl,(blk_cell h 2).trans rfl,(blk_cell h 3).trans rfl,blk_frozen h 0,blk_frozen h 1,blk_frozen h 2,blk_frozen h 3⟩
theorem bE {P : Program} {ops : Array Oper} {Q : Exit → Act → World → Prop} {rest : List Oper} {o : Oper} {a : Act} {W : World} (N : Tmp) (cs : Array Value) (t : TypeId) (hgd : o.guard = none := by rfl) (hd : o.dst = some N := by rfl)
    (hrun : (execOp a.eval o).run P W = .ok (.value (.pointer (some ⟨W.heap.size, 0, none⟩))) (W.alloc (.cells cs t (0, 0))) := by first | (go_simp; done) | (go_simp; rfl))
    (h : ∀ g, g = W.heap.size → ∀ w1, w1.heap[g]? = some (.cells cs t (0, 0)) → Below W.heap.size W w1 → wpList P ops Q rest (a.put o.dst (.pointer (some ⟨g, 0, none⟩))) w1) : wpList P ops Q (o :: rest) a W := box_event hgd hd hrun h
variable {p : Prop}
theorem Z1 (h : p := by exact jA (Kd.N_elder' Z324 (Kd.S_base ho0) hb) (jA (Kd.N_lower (Kd.N_mono (ok' := fun k_ => (w.heap.size ≤ k_) ∧ some k_ ≠ (.slice (some ad316) t309.length co44 : Value).ownBlock ∧ k_ ≠ gb307 ∧ k_ ≠ gb308 ∧ k_ ≠ gb315) (Kd.S_N (Kd.S_bound ho0)) (fun k_ hk_ => ⟨(Nat.le_trans (below_size Z268) hk_.2.1),(Kd.fresh' (Kd.N_lt Z324) k_ hk_.2.1),(Kd.freshB (g := gb307) (o := .cells #[.slice none 0 0,.string x308001_1,.slice none 0 0,.slice none 0 0] 26 (0,0)) Z352 k_ hk_.2.1),(Kd.freshB (g := gb308) (o := .cells #[.int .i64 x309000_1,.int .i64 x309001_1,.int .i64 x309002_1] 28 (0,0)) Z331 k_ hk_.2.1),(Kd.freshB (g := gb315) (o := .cells #[.int .i64 t312,.int .i64 t313,.int .i64 t314] 28 (0,0)) Z332 k_ hk_.2.1)⟩)) (below_size Z268)) (jA (blk_below (g := gb307) (o := .cells #[.slice none 0 0,.string x308001_1,.slice none 0 0,.slice none 0 0] 26 (0,0)) Z352 hb) (jA (blk_below (g := gb308) (o := .cells #[.int .i64 x309000_1,.int .i64 x309001_1,.int .i64 x309002_1] 28 (0,0)) Z331 hb) (jA (blk_below (g := gb315) (o := .cells #[.int .i64 t312,.int .i64 t313,.int .i64 t314] 28 (0,0)) Z332 hb) (jA (Kd.V_below Z313 hb) (jA (Kd.C_below Z282 hb) (Aside0.mk (below_step Z268 hb))))))))) : p := h
theorem Z2 (h : p := by exact jA (Kd.S_below Z323 hb) (jA (Kd.R_below Z322 hb) (jA (blk_below (g := gb253) (o := .cells #[.int .i64 x254000_1,.int .i64 x254001_1,.int .i64 x254002_1] 28 (0,0)) Z335 hb) (jA (IsS59.below Z273 hb) (jA (below_step Z343 hb) (jA (hbox) (jA ((Z267 : w.heap.size ≤ gb268)) (jA ((Z267 : w.heap.size ≤ gb268)) (jA ((by rw [hg];exact Nat.ne_of_lt (blk_lt (g := gb253) (o := .cells #[.int .i64 x254000_1,.int .i64 x254001_1,.int .i64 x254002_1] 28 (0,0)) Z335) : gb253 ≠ gb268)) (jA ((by rw [hg];exact Nat.ne_of_gt (blk_lt (g := gb253) (o := .cells #[.int .i64 x254000_1,.int .i64 x254001_1,.int .i64 x254002_1] 28 (0,0)) Z335) : gb268 ≠ gb253)) (jA ((by rw [hg];exact Nat.ne_of_lt (IsS59.lt (show IsS59 w _ gb254 x255000_22 x255001_22 from Z273)) : gb254 ≠ gb268)) (Aside0.mk ((by rw [hg];exact Nat.ne_of_gt (IsS59.lt (show IsS59 w _ gb254 x255000_22 x255001_22 from Z273)) : gb268 ≠ gb254)))))))))))))) : p := h
theorem Z3 (h : p := by exact jA (Kd.N_below (Kd.N_elderB Z319 gb315 (Nat.le_of_eq hg.symm)) hb) (jA (blk_below (g := gb307) (o := .cells #[.slice none 0 0,.string (⟨#[]⟩ : ByteArray),.slice none 0 0,.slice none 0 0] 26 (0,0)) Z352 hb) (jA (blk_below (g := gb308) (o := .cells #[.int .i64 0,.int .i64 0,.int .i64 0] 28 (0,0)) Z331 hb) (jA (below_step Z344 hb) (jA (hbox) (jA ((Z271 : w.heap.size ≤ gb315)) (jA ((Z271 : w.heap.size ≤ gb315)) (jA ((Z288 : gb307 ≠ gb315)) (jA ((Z289 : gb315 ≠ gb307)) (jA ((by rw [hg];exact Nat.ne_of_lt (blk_lt (g := gb308) (o := .cells #[.int .i64 0,.int .i64 0,.int .i64 0] 28 (0,0)) Z331) : gb308 ≠ gb315)) (Aside0.mk ((by rw [hg];exact Nat.ne_of_gt (blk_lt (g := gb308) (o := .cells #[.int .i64 0,.int .i64 0,.int .i64 0] 28 (0,0)) Z331) : gb315 ≠ gb308))))))))))))) : p := h
theorem Z4 (h : p := by exact jA (Kd.S_below Z318 hb) (jA (blk_below (g := gb187) (o := .cells #[.slice none 0 0,.string (⟨#[]⟩ : ByteArray),.slice none 0 0,.slice none 0 0] 26 (0,0)) Z353 hb) (jA (blk_below (g := gb188) (o := .cells #[.int .i64 0,.int .i64 0,.int .i64 0] 28 (0,0)) Z354 hb) (jA (below_step Z345 hb) (jA (hbox) (jA ((Z272 : w.heap.size ≤ gb195)) (jA ((Z272 : w.heap.size ≤ gb195)) (jA ((Z286 : gb187 ≠ gb195)) (jA ((Z287 : gb195 ≠ gb187)) (jA ((Z301 : gb188 ≠ gb195)) (Aside0.mk ((Z302 : gb195 ≠ gb188))))))))))))) : p := h
theorem Z5 (h : p := by exact jA (Kd.S_below Z321 hb) (jA (Kd.R_below Z316 hb) (jA (Kd.R_below Z311 hb) (jA (Kd.S_below Z310 hb) (jA (Kd.R_below Z309 hb) (jA (Kd.R_below Z314 hb) (jA (blk_below (g := gb187) (o := .cells #[.slice none 0 0,.string x188001_2,.slice none 0 0,.slice none 0 0] 26 (0,0)) Z353 hb) (jA (blk_below (g := gb188) (o := .cells #[.int .i64 x189000_2,.int .i64 x189001_2,.int .i64 x189002_2] 28 (0,0)) Z354 hb) (jA (blk_below (g := gb195) (o := .cells #[.int .i64 t197,.int .i64 t198,.int .i64 t199] 28 (0,0)) Z334 hb) (jA (blk_below (g := gb212) (o := .cells #[.slice Ao47 y208.length co47,.string (rdOf ByteArray.empty (rd_L2 t189 0) (ji21)),u213002,u213003] 26 (0,0)) Z337 hb) (jA (Kd.C_below Z283 hb) (Aside0.mk (below_step Z263 hb))))))))))))) : p := h
theorem Z6 (h : p := by exact jA (Kd.S_below (by (with_reducible repeat (first | apply Kd.S_alloc | apply Kd.S_drewN | apply Kd.S_drew));exact (Kd.S_mono (Kd.S_far (p := ⟨gb123,2,none⟩) (Kd.S_far (p := ⟨gb123,1,none⟩) (Kd.S_far (p := ⟨gb123,0,none⟩) (Kd.S_types HO_4.out BK123.out Z355) (fun _ hk => hk.2) (.int .i64 2)) (fun _ hk => hk.2) (.int .i64 (x4_1.length : Int))) (fun _ hk => hk.2) (.int .i64 (x6_2.length : Int))) (fun _ h_ => h_.1))) hb) (jA (Kd.R_below (by (with_reducible repeat (first | apply Kd.R_alloc | apply Kd.R_drewN | apply Kd.R_drew));exact (Kd.R_mono (Kd.R_far (p := ⟨gb123,2,none⟩) (Kd.R_far (p := ⟨gb123,1,none⟩) (Kd.R_far (p := ⟨gb123,0,none⟩) (Kd.R_types HO_6.out BK123.out Z355) (fun _ hk => hk.2) (.int .i64 2)) (fun _ hk => hk.2) (.int .i64 (x4_1.length : Int))) (fun _ hk => hk.2) (.int .i64 (x6_2.length : Int))) (fun _ h_ => h_.1))) hb) (jA (blk_below (g := gb113) (o := .cells #[.int .i64 x114000_2,.int .i64 x114001_2,.int .i64 x114002_2] 28 (0,0)) (by refine bP ?_;refine blk_far ?_ NB113_123.out _;refine bP ?_;refine blk_far ?_ NB113_123.out _;refine bP ?_;refine blk_far ?_ NB113_123.out _;refine bP ?_;exact BK113.out) hb) (jA (blk_below (g := gb123) (o := .cells #[.int .i64 2,.int .i64 (x4_1.length : Int),.int .i64 (x6_2.length : Int)] 28 (0,0)) (by refine bP ?_;refine blk_put (cs := #[.int .i64 2,.int .i64 (x4_1.length : Int),.int .i64 0]) ?_ 2 _ rfl;refine bP ?_;refine blk_put (cs := #[.int .i64 2,.int .i64 0,.int .i64 0]) ?_ 1 _ rfl;refine bP ?_;refine blk_put (cs := #[.int .i64 0,.int .i64 0,.int .i64 0]) ?_ 0 _ rfl;refine bP ?_;exact BK123.out) hb) (Aside0.mk (below_step Z274 hb)))))) : p := h
theorem Z7 (h : p := by exact (fun k_ hk => ⟨(Nat.le_trans (below_size Z262) hk),Kd.fresh' (Kd.N_lt Z315) k_ hk,Kd.fresh' (Kd.R_lt Z308) k_ hk,Kd.fresh' (Kd.R_lt Z307) k_ hk,Kd.fresh' (Kd.R_lt Z317) k_ hk,Kd.freshB (g := gb307) (o := .cells #[.slice none 0 0,.string x308001_1,.slice none 0 0,.slice none 0 0] 26 (0,0)) Z352 k_ hk,Kd.freshB (g := gb308) (o := .cells #[.int .i64 x309000_1,.int .i64 x309001_1,.int .i64 x309002_1] 28 (0,0)) Z331 k_ hk,Kd.freshB (g := gb315) (o := .cells #[.int .i64 t327,.int .i64 t328,.int .i64 t329] 28 (0,0)) Z332 k_ hk,Kd.freshB (g := gb335) (o := .cells #[.slice Ao99 t331.length co99,.string (rdOf ByteArray.empty (rd_L2 t309 0) (ji83)),.slice Ao114 x336002_2.length co114,.slice Ao115 x336003_2.length co115] 26 (0,0)) Z333 k_ hk⟩)) : p := h
theorem Z8 (h : p := by exact jA (Kd.S_below Z321 hb) (jA (Kd.R_below Z322 hb) (jA (blk_below (g := gb113) (o := .cells #[.int .i64 x114000_2,.int .i64 x114001_2,.int .i64 x114002_2] 28 (0,0)) Z336 hb) (jA (below_step Z346 hb) (jA (hbox) (jA ((Z281 : w.heap.size ≤ gb123)) (jA ((Z281 : w.heap.size ≤ gb123)) (jA ((by rw [hg];exact Nat.ne_of_lt (blk_lt (g := gb113) (o := .cells #[.int .i64 x114000_2,.int .i64 x114001_2,.int .i64 x114002_2] 28 (0,0)) Z336) : gb113 ≠ gb123)) (Aside0.mk ((by rw [hg];exact Nat.ne_of_gt (blk_lt (g := gb113) (o := .cells #[.int .i64 x114000_2,.int .i64 x114001_2,.int .i64 x114002_2] 28 (0,0)) Z336) : gb123 ≠ gb113))))))))))) : p := h
theorem Z9 (h : p := by exact jA (Kd.N_lower (Kd.N_mono (ok' := fun k_ => (w.heap.size ≤ k_) ∧ k_ ≠ gb307 ∧ k_ ≠ gb308) (Kd.S_N (Kd.S_bound hoq5)) (fun k_ hk_ => ⟨(Nat.le_trans (below_size Z344) hk_.2.1),(Kd.freshB (g := gb307) (o := .cells #[.slice none 0 0,.string (⟨#[]⟩ : ByteArray),.slice none 0 0,.slice none 0 0] 26 (0,0)) Z352 k_ hk_.2.1),(Kd.freshB (g := gb308) (o := .cells #[.int .i64 0,.int .i64 0,.int .i64 0] 28 (0,0)) Z331 k_ hk_.2.1)⟩)) (below_size Z344)) (jA (blk_below (g := gb307) (o := .cells #[.slice none 0 0,.string (⟨#[]⟩ : ByteArray),.slice none 0 0,.slice none 0 0] 26 (0,0)) Z352 hb) (jA (blk_below (g := gb308) (o := .cells #[.int .i64 0,.int .i64 0,.int .i64 0] 28 (0,0)) Z331 hb) (Aside0.mk (below_step Z344 hb))))) : p := h
theorem Z10 (h : p := by exact jA (Kd.N_lower (Kd.N_mono (ok' := fun k_ => (w.heap.size ≤ k_) ∧ k_ ≠ gb307 ∧ k_ ≠ gb308) (Kd.S_N (Kd.S_bound ho0)) (fun k_ hk_ => ⟨(Nat.le_trans (below_size Z344) hk_.2.1),(Kd.freshB (g := gb307) (o := .cells #[.slice none 0 0,.string (⟨#[]⟩ : ByteArray),.slice none 0 0,.slice none 0 0] 26 (0,0)) Z352 k_ hk_.2.1),(Kd.freshB (g := gb308) (o := .cells #[.int .i64 0,.int .i64 0,.int .i64 0] 28 (0,0)) Z331 k_ hk_.2.1)⟩)) (below_size Z344)) (jA (blk_below (g := gb307) (o := .cells #[.slice none 0 0,.string (⟨#[]⟩ : ByteArray),.slice none 0 0,.slice none 0 0] 26 (0,0)) Z352 hb) (jA (blk_below (g := gb308) (o := .cells #[.int .i64 0,.int .i64 0,.int .i64 0] 28 (0,0)) Z331 hb) (Aside0.mk (below_step Z344 hb))))) : p := h
theorem Z11 (h : p := by exact jA (Kd.S_mono (Kd.S_keep (IsS59.apartS (show IsS59 w _ gb254 x255000_22 x255001_22 from Z265) Z323 Z355) hk (fun _ h => h.2)) (fun _ h => h.1)) (jA (KeepBut.blk hk (g' := gb253) (o := .cells #[.int .i64 x254000_1,.int .i64 x254001_1,.int .i64 x254002_1] 28 (0,0)) Z335 NB253_254.out Z342) (jA (KeepBut.blk hk (g' := gb268) (o := .cells #[.int .i64 2,.int .i64 (x5_1.length : Int),.int .i64 (x6_1.length : Int)] 28 (0,0)) (by refine bP ?_;exact BK268.out) NB268_254.out Z342) (jA (Kd.R_mono (Kd.R_keep (IsS59.apart (show IsS59 w _ gb254 x255000_22 x255001_22 from Z265) Z320 Z355) hk (fun _ h => h.2)) (fun _ h => h.1)) (jA (hb) (Aside0.mk (hi))))))) : p := h
theorem Z12 (h : p := by exact jA (blk_below (g := gb365) (o := .cells #[.slice A0_0 l0_0.length c0_0,.string a0_1,.slice A0_2 l0_2.length c0_2,.slice A0_3 l0_3.length c0_3] 26 (0,0)) Z341 hb) (jA (below_step Z348 hb) (jA (hbox) (jA ((Z278 : w.heap.size ≤ gb366)) (jA ((Z278 : w.heap.size ≤ gb366)) (jA ((by rw [hg];exact Nat.ne_of_lt (blk_lt (g := gb365) (o := .cells #[.slice A0_0 l0_0.length c0_0,.string a0_1,.slice A0_2 l0_2.length c0_2,.slice A0_3 l0_3.length c0_3] 26 (0,0)) Z341) : gb365 ≠ gb366)) (Aside0.mk ((by rw [hg];exact Nat.ne_of_gt (blk_lt (g := gb365) (o := .cells #[.slice A0_0 l0_0.length c0_0,.string a0_1,.slice A0_2 l0_2.length c0_2,.slice A0_3 l0_3.length c0_3] 26 (0,0)) Z341) : gb366 ≠ gb365))))))))) : p := h
theorem Z13 (h : p := by exact jA (blk_below (g := gb187) (o := .cells #[.slice none 0 0,.string (⟨#[]⟩ : ByteArray),.slice none 0 0,.slice none 0 0] 26 (0,0)) Z353 hb) (jA (below_step Z350 hb) (jA (hbox) (jA ((Z280 : w.heap.size ≤ gb188)) (jA ((Z280 : w.heap.size ≤ gb188)) (jA ((Z286 : gb187 ≠ gb188)) (Aside0.mk ((Z287 : gb188 ≠ gb187))))))))) : p := h
theorem Z14 (h : p := by exact jA (blk_below (g := gb307) (o := .cells #[.slice none 0 0,.string (⟨#[]⟩ : ByteArray),.slice none 0 0,.slice none 0 0] 26 (0,0)) Z352 hb) (jA (below_step Z349 hb) (jA (hbox) (jA ((Z279 : w.heap.size ≤ gb308)) (jA ((Z279 : w.heap.size ≤ gb308)) (jA ((Z288 : gb307 ≠ gb308)) (Aside0.mk ((Z289 : gb308 ≠ gb307))))))))) : p := h
theorem Z15 (h : p := by exact jA (Kd.S_below Z318 hb) (jA (Kd.R_below Z312 hb) (jA (blk_below (g := gb187) (o := .cells #[.slice none 0 0,.string (⟨#[]⟩ : ByteArray),.slice none 0 0,.slice none 0 0] 26 (0,0)) Z353 hb) (jA (blk_below (g := gb188) (o := .cells #[.int .i64 0,.int .i64 0,.int .i64 0] 28 (0,0)) Z354 hb) (jA (blk_below (g := gb195) (o := .cells #[.int .i64 t192,.int .i64 t193,.int .i64 t194] 28 (0,0)) Z334 hb) (jA (Kd.C_below Z284 hb) (Aside0.mk (below_step Z269 hb)))))))) : p := h
theorem Z16 (h : p := by exact jA (blk_below (g := gb370) (o := .cells #[.int .i64 a0_0,.int .i64 a0_1,.int .i64 a0_2] 28 (0,0)) Z340 hb) (jA (below_step Z347 hb) (jA (hbox) (jA ((Z277 : w.heap.size ≤ gb371)) (jA ((Z277 : w.heap.size ≤ gb371)) (jA ((by rw [hg];exact Nat.ne_of_lt (blk_lt (g := gb370) (o := .cells #[.int .i64 a0_0,.int .i64 a0_1,.int .i64 a0_2] 28 (0,0)) Z340) : gb370 ≠ gb371)) (Aside0.mk ((by rw [hg];exact Nat.ne_of_gt (blk_lt (g := gb370) (o := .cells #[.int .i64 a0_0,.int .i64 a0_1,.int .i64 a0_2] 28 (0,0)) Z340) : gb371 ≠ gb370))))))))) : p := h
theorem Z17 (h : p := by exact (Reps.one (show Kd.M (Kd.slice 3 (Kd.int .i64)) _ _ _ t342 [.slice Ao121 t342.length co121] from ⟨_,rfl,Kd.R_mono (Kd.R_tight2 rfl (Kd.R_mono (ok' := (fun k_ => (w.heap.size ≤ k_) ∧ some k_ ≠ (.slice (some ad336) t324.length co104 : Value).ownBlock ∧ some k_ ≠ (.slice Ao99 t331.length co99 : Value).ownBlock ∧ some k_ ≠ (.slice Ao114 x336002_2.length co114 : Value).ownBlock ∧ some k_ ≠ (.slice Ao115 x336003_2.length co115 : Value).ownBlock ∧ some k_ ≠ (v353 : Value).ownBlock ∧ k_ ≠ gb307 ∧ k_ ≠ gb308 ∧ k_ ≠ gb315 ∧ k_ ≠ gb335)) (Kd.R_types (Kd.R_types (Kd.R_types (Kd.R_types (Kd.R_apart' (Kd.R_apart' (Kd.R_apart' (HO344.out) (Kd.N_typed HO_96.out) Z355) (Kd.R_typed HO_336000.out) Z355) (Zn_typed HO_336002.out) Z355) BK307.out Z355) BK308.out Z355) BK315.out Z355) BK335.out Z355) (fun k_ hk => ⟨hk.1.1.1.1.1.1.1.1.1.1,⟨hk.1.1.1.1.1.1.2,⟨hk.1.1.1.1.1.2,⟨hk.1.1.1.1.2,⟨hk.1.1.1.1.1.1.1.1.2,⟨hk.1.1.1.1.1.1.1.2,⟨hk.1.1.1.2,⟨hk.1.1.2,⟨hk.1.2,hk.2⟩⟩⟩⟩⟩⟩⟩⟩⟩))) (fun k_ hk_ => ⟨hk_.2,hk_.1⟩)⟩) (Reps.none _ _))) : p := h
theorem Z18 (h : p := by exact jA (Kd.S_mono (Kd.S_keep (IsS59.apartS (show IsS59 w _ gb254 x255000_1 x255001_1 from Z273) Z323 Z355) hk (fun _ h => h.2)) (fun _ h => h.1)) (jA (Kd.R_mono (Kd.R_keep (IsS59.apart (show IsS59 w _ gb254 x255000_1 x255001_1 from Z273) Z322 Z355) hk (fun _ h => h.2)) (fun _ h => h.1)) (jA (KeepBut.blk hk (g' := gb253) (o := .cells #[.int .i64 x254000_1,.int .i64 x254001_1,.int .i64 x254002_1] 28 (0,0)) Z335 NB253_254.out Z342) (jA (hb) (Aside0.mk (hi)))))) : p := h
theorem Z19 (h : p := by refine bP ?_;refine blk_far ?_ NB187_188.out _;refine bP ?_;refine blk_far ?_ NB187_188.out _;refine bP ?_;refine blk_far ?_ NB187_188.out _;refine bP ?_;refine blk_put (cs := #[.slice none 0 0,.string (⟨#[]⟩ : ByteArray),.slice none 0 0,.slice none 0 0]) ?_ 3 _ rfl;refine bP ?_;refine blk_put (cs := #[.slice none 0 0,.string (⟨#[]⟩ : ByteArray),.slice none 0 0,.slice none 0 0]) ?_ 2 _ rfl;refine bP ?_;refine blk_put (cs := #[.slice none 0 0,.string (⟨#[]⟩ : ByteArray),.slice none 0 0,.slice none 0 0]) ?_ 1 _ rfl;refine bP ?_;refine blk_put (cs := #[.slice none 0 0,.string (⟨#[]⟩ : ByteArray),.slice none 0 0,.slice none 0 0]) ?_ 0 _ rfl;refine bP ?_;refine blk_far ?_ NB187_195.out _;refine bP ?_;refine blk_far ?_ NB187_195.out _;refine bP ?_;refine blk_far ?_ NB187_195.out _;refine bP ?_;exact BK187.out) : p := h
theorem Z20 (h : p := by (with_reducible repeat (first | apply Kd.S_alloc | apply Kd.S_drewN | apply Kd.S_drew));exact (Kd.S_mono (Kd.S_mono (Kd.S_far (p := ⟨gb438,2,none⟩) (Kd.S_far (p := ⟨gb438,1,none⟩) (Kd.S_far (p := ⟨gb438,0,none⟩) (Kd.S_far (p := ⟨gb437,3,none⟩) (Kd.S_far (p := ⟨gb437,2,none⟩) (Kd.S_far (p := ⟨gb437,1,none⟩) (Kd.S_far (p := ⟨gb437,0,none⟩) (Kd.S_types (Kd.S_types HO_401002.out BK437.out Z355) BK438.out Z355) (fun _ hk => hk.1.2) (.slice Ao60 t424.length co60)) (fun _ hk => hk.1.2) (.string t427)) (fun _ hk => hk.1.2) (.slice Ao67 t428.length co67)) (fun _ hk => hk.1.2) (.slice Ao68 t431.length co68)) (fun _ hk => hk.2) (.int .i64 t434)) (fun _ hk => hk.2) (.int .i64 t435)) (fun _ hk => hk.2) (.int .i64 t436)) (fun _ h_ => h_.1)) (fun _ h_ => h_.1))) : p := h
theorem Z21 (h : p := by (with_reducible repeat (first | apply Kd.R_alloc | apply Kd.R_drewN | apply Kd.R_drew));exact (Kd.R_mono (Kd.R_mono (Kd.R_far (p := ⟨gb438,2,none⟩) (Kd.R_far (p := ⟨gb438,1,none⟩) (Kd.R_far (p := ⟨gb438,0,none⟩) (Kd.R_far (p := ⟨gb437,3,none⟩) (Kd.R_far (p := ⟨gb437,2,none⟩) (Kd.R_far (p := ⟨gb437,1,none⟩) (Kd.R_far (p := ⟨gb437,0,none⟩) (Kd.R_types (Kd.R_types HO_401003.out BK437.out Z355) BK438.out Z355) (fun _ hk => hk.1.2) (.slice Ao60 t424.length co60)) (fun _ hk => hk.1.2) (.string t427)) (fun _ hk => hk.1.2) (.slice Ao67 t428.length co67)) (fun _ hk => hk.1.2) (.slice Ao68 t431.length co68)) (fun _ hk => hk.2) (.int .i64 t434)) (fun _ hk => hk.2) (.int .i64 t435)) (fun _ hk => hk.2) (.int .i64 t436)) (fun _ h_ => h_.1)) (fun _ h_ => h_.1))) : p := h
theorem Z22 (h : p := by (with_reducible repeat (first | apply Kd.R_alloc | apply Kd.R_drewN | apply Kd.R_drew));exact (Kd.R_mono (Kd.R_mono (Kd.R_far (p := ⟨gb438,2,none⟩) (Kd.R_far (p := ⟨gb438,1,none⟩) (Kd.R_far (p := ⟨gb438,0,none⟩) (Kd.R_far (p := ⟨gb437,3,none⟩) (Kd.R_far (p := ⟨gb437,2,none⟩) (Kd.R_far (p := ⟨gb437,1,none⟩) (Kd.R_far (p := ⟨gb437,0,none⟩) (Kd.R_types (Kd.R_types HO_401000.out BK437.out Z355) BK438.out Z355) (fun _ hk => hk.1.2) (.slice Ao60 t424.length co60)) (fun _ hk => hk.1.2) (.string t427)) (fun _ hk => hk.1.2) (.slice Ao67 t428.length co67)) (fun _ hk => hk.1.2) (.slice Ao68 t431.length co68)) (fun _ hk => hk.2) (.int .i64 t434)) (fun _ hk => hk.2) (.int .i64 t435)) (fun _ hk => hk.2) (.int .i64 t436)) (fun _ h_ => h_.1)) (fun _ h_ => h_.1))) : p := h
theorem Z23 (h : p := by (with_reducible repeat (first | apply Kd.S_alloc | apply Kd.S_drewN | apply Kd.S_drew));exact (Kd.S_mono (Kd.S_mono (Kd.S_far (p := ⟨gb438,2,none⟩) (Kd.S_far (p := ⟨gb438,1,none⟩) (Kd.S_far (p := ⟨gb438,0,none⟩) (Kd.S_far (p := ⟨gb437,3,none⟩) (Kd.S_far (p := ⟨gb437,2,none⟩) (Kd.S_far (p := ⟨gb437,1,none⟩) (Kd.S_far (p := ⟨gb437,0,none⟩) (Kd.S_types (Kd.S_types HO430.out BK437.out Z355) BK438.out Z355) (fun _ hk => hk.1.2) (.slice Ao60 t424.length co60)) (fun _ hk => hk.1.2) (.string t427)) (fun _ hk => hk.1.2) (.slice Ao67 t428.length co67)) (fun _ hk => hk.1.2) (.slice Ao68 t431.length co68)) (fun _ hk => hk.2) (.int .i64 t434)) (fun _ hk => hk.2) (.int .i64 t435)) (fun _ hk => hk.2) (.int .i64 t436)) (fun _ h_ => h_.1)) (fun _ h_ => h_.1))) : p := h
theorem Z24 (h : p := by (with_reducible repeat (first | apply Kd.R_alloc | apply Kd.R_drewN | apply Kd.R_drew));exact (Kd.R_mono (Kd.R_mono (Kd.R_far (p := ⟨gb438,2,none⟩) (Kd.R_far (p := ⟨gb438,1,none⟩) (Kd.R_far (p := ⟨gb438,0,none⟩) (Kd.R_far (p := ⟨gb437,3,none⟩) (Kd.R_far (p := ⟨gb437,2,none⟩) (Kd.R_far (p := ⟨gb437,1,none⟩) (Kd.R_far (p := ⟨gb437,0,none⟩) (Kd.R_types (Kd.R_types HO433.out BK437.out Z355) BK438.out Z355) (fun _ hk => hk.1.2) (.slice Ao60 t424.length co60)) (fun _ hk => hk.1.2) (.string t427)) (fun _ hk => hk.1.2) (.slice Ao67 t428.length co67)) (fun _ hk => hk.1.2) (.slice Ao68 t431.length co68)) (fun _ hk => hk.2) (.int .i64 t434)) (fun _ hk => hk.2) (.int .i64 t435)) (fun _ hk => hk.2) (.int .i64 t436)) (fun _ h_ => h_.1)) (fun _ h_ => h_.1))) : p := h
theorem Z25 (h : p := by (with_reducible repeat (first | apply Kd.R_alloc | apply Kd.R_drewN | apply Kd.R_drew));exact (Kd.R_mono (Kd.R_mono (Kd.R_far (p := ⟨gb438,2,none⟩) (Kd.R_far (p := ⟨gb438,1,none⟩) (Kd.R_far (p := ⟨gb438,0,none⟩) (Kd.R_far (p := ⟨gb437,3,none⟩) (Kd.R_far (p := ⟨gb437,2,none⟩) (Kd.R_far (p := ⟨gb437,1,none⟩) (Kd.R_far (p := ⟨gb437,0,none⟩) (Kd.R_types (Kd.R_types HO426.out BK437.out Z355) BK438.out Z355) (fun _ hk => hk.1.2) (.slice Ao60 t424.length co60)) (fun _ hk => hk.1.2) (.string t427)) (fun _ hk => hk.1.2) (.slice Ao67 t428.length co67)) (fun _ hk => hk.1.2) (.slice Ao68 t431.length co68)) (fun _ hk => hk.2) (.int .i64 t434)) (fun _ hk => hk.2) (.int .i64 t435)) (fun _ hk => hk.2) (.int .i64 t436)) (fun _ h_ => h_.1)) (fun _ h_ => h_.1))) : p := h
theorem Z26 (h : p := by (with_reducible repeat (first | apply Kd.R_alloc | apply Kd.R_drewN | apply Kd.R_drew));exact (Kd.R_mono (Kd.R_mono (Kd.R_far (p := ⟨gb416,2,none⟩) (Kd.R_far (p := ⟨gb416,1,none⟩) (Kd.R_far (p := ⟨gb416,0,none⟩) (Kd.R_far (p := ⟨gb415,3,none⟩) (Kd.R_far (p := ⟨gb415,2,none⟩) (Kd.R_far (p := ⟨gb415,1,none⟩) (Kd.R_far (p := ⟨gb415,0,none⟩) (Kd.R_types (Kd.R_types HO411.out BK415.out Z355) BK416.out Z355) (fun _ hk => hk.1.2) (.slice Ao18 t402.length co18)) (fun _ hk => hk.1.2) (.string t405)) (fun _ hk => hk.1.2) (.slice Ao23 t406.length co23)) (fun _ hk => hk.1.2) (.slice Ao24 t409.length co24)) (fun _ hk => hk.2) (.int .i64 t412)) (fun _ hk => hk.2) (.int .i64 t413)) (fun _ hk => hk.2) (.int .i64 t414)) (fun _ h_ => h_.1)) (fun _ h_ => h_.1))) : p := h
theorem Z27 (h : p := by (with_reducible repeat (first | apply Kd.R_alloc | apply Kd.R_drewN | apply Kd.R_drew));exact (Kd.R_mono (Kd.R_mono (Kd.R_far (p := ⟨gb416,2,none⟩) (Kd.R_far (p := ⟨gb416,1,none⟩) (Kd.R_far (p := ⟨gb416,0,none⟩) (Kd.R_far (p := ⟨gb415,3,none⟩) (Kd.R_far (p := ⟨gb415,2,none⟩) (Kd.R_far (p := ⟨gb415,1,none⟩) (Kd.R_far (p := ⟨gb415,0,none⟩) (Kd.R_types (Kd.R_types HO404.out BK415.out Z355) BK416.out Z355) (fun _ hk => hk.1.2) (.slice Ao18 t402.length co18)) (fun _ hk => hk.1.2) (.string t405)) (fun _ hk => hk.1.2) (.slice Ao23 t406.length co23)) (fun _ hk => hk.1.2) (.slice Ao24 t409.length co24)) (fun _ hk => hk.2) (.int .i64 t412)) (fun _ hk => hk.2) (.int .i64 t413)) (fun _ hk => hk.2) (.int .i64 t414)) (fun _ h_ => h_.1)) (fun _ h_ => h_.1))) : p := h
theorem Z28 (h : p := by (with_reducible repeat (first | apply Kd.R_alloc | apply Kd.R_drewN | apply Kd.R_drew));exact (Kd.R_mono (Kd.R_mono (Kd.R_far (p := ⟨gb416,2,none⟩) (Kd.R_far (p := ⟨gb416,1,none⟩) (Kd.R_far (p := ⟨gb416,0,none⟩) (Kd.R_far (p := ⟨gb415,3,none⟩) (Kd.R_far (p := ⟨gb415,2,none⟩) (Kd.R_far (p := ⟨gb415,1,none⟩) (Kd.R_far (p := ⟨gb415,0,none⟩) (Kd.R_types (Kd.R_types HO396.out BK415.out Z355) BK416.out Z355) (fun _ hk => hk.1.2) (.slice Ao18 t402.length co18)) (fun _ hk => hk.1.2) (.string t405)) (fun _ hk => hk.1.2) (.slice Ao23 t406.length co23)) (fun _ hk => hk.1.2) (.slice Ao24 t409.length co24)) (fun _ hk => hk.2) (.int .i64 t412)) (fun _ hk => hk.2) (.int .i64 t413)) (fun _ hk => hk.2) (.int .i64 t414)) (fun _ h_ => h_.1)) (fun _ h_ => h_.1))) : p := h
theorem Z29 (h : p := by (with_reducible repeat (first | apply Kd.R_alloc | apply Kd.R_drewN | apply Kd.R_drew));exact (Kd.R_mono (Kd.R_mono (Kd.R_far (p := ⟨gb416,2,none⟩) (Kd.R_far (p := ⟨gb416,1,none⟩) (Kd.R_far (p := ⟨gb416,0,none⟩) (Kd.R_far (p := ⟨gb415,3,none⟩) (Kd.R_far (p := ⟨gb415,2,none⟩) (Kd.R_far (p := ⟨gb415,1,none⟩) (Kd.R_far (p := ⟨gb415,0,none⟩) (Kd.R_types (Kd.R_types HO389.out BK415.out Z355) BK416.out Z355) (fun _ hk => hk.1.2) (.slice Ao18 t402.length co18)) (fun _ hk => hk.1.2) (.string t405)) (fun _ hk => hk.1.2) (.slice Ao23 t406.length co23)) (fun _ hk => hk.1.2) (.slice Ao24 t409.length co24)) (fun _ hk => hk.2) (.int .i64 t412)) (fun _ hk => hk.2) (.int .i64 t413)) (fun _ hk => hk.2) (.int .i64 t414)) (fun _ h_ => h_.1)) (fun _ h_ => h_.1))) : p := h
theorem Z30 (h : p := by (with_reducible repeat (first | apply Kd.R_alloc | apply Kd.R_drewN | apply Kd.R_drew));exact (Kd.R_mono (Kd.R_mono (Kd.R_far (p := ⟨gb401,2,none⟩) (Kd.R_far (p := ⟨gb401,1,none⟩) (Kd.R_far (p := ⟨gb401,0,none⟩) (Kd.R_far (p := ⟨gb400,3,none⟩) (Kd.R_far (p := ⟨gb400,2,none⟩) (Kd.R_far (p := ⟨gb400,1,none⟩) (Kd.R_far (p := ⟨gb400,0,none⟩) (Kd.R_types (Kd.R_types HO396.out BK400.out Z355) BK401.out Z355) (fun _ hk => hk.1.2) (.slice Ao9 t387.length co9)) (fun _ hk => hk.1.2) (.string t390)) (fun _ hk => hk.1.2) (.slice Ao12 t391.length co12)) (fun _ hk => hk.1.2) (.slice Ao13 t394.length co13)) (fun _ hk => hk.2) (.int .i64 t397)) (fun _ hk => hk.2) (.int .i64 t398)) (fun _ hk => hk.2) (.int .i64 t399)) (fun _ h_ => h_.1)) (fun _ h_ => h_.1))) : p := h
theorem Z31 (h : p := by (with_reducible repeat (first | apply Kd.S_alloc | apply Kd.S_drewN | apply Kd.S_drew));exact (Kd.S_mono (Kd.S_mono (Kd.S_far (p := ⟨gb401,2,none⟩) (Kd.S_far (p := ⟨gb401,1,none⟩) (Kd.S_far (p := ⟨gb401,0,none⟩) (Kd.S_far (p := ⟨gb400,3,none⟩) (Kd.S_far (p := ⟨gb400,2,none⟩) (Kd.S_far (p := ⟨gb400,1,none⟩) (Kd.S_far (p := ⟨gb400,0,none⟩) (Kd.S_types (Kd.S_types HO393.out BK400.out Z355) BK401.out Z355) (fun _ hk => hk.1.2) (.slice Ao9 t387.length co9)) (fun _ hk => hk.1.2) (.string t390)) (fun _ hk => hk.1.2) (.slice Ao12 t391.length co12)) (fun _ hk => hk.1.2) (.slice Ao13 t394.length co13)) (fun _ hk => hk.2) (.int .i64 t397)) (fun _ hk => hk.2) (.int .i64 t398)) (fun _ hk => hk.2) (.int .i64 t399)) (fun _ h_ => h_.1)) (fun _ h_ => h_.1))) : p := h
theorem Z32 (h : p := by (with_reducible repeat (first | apply Kd.R_alloc | apply Kd.R_drewN | apply Kd.R_drew));exact (Kd.R_mono (Kd.R_mono (Kd.R_far (p := ⟨gb401,2,none⟩) (Kd.R_far (p := ⟨gb401,1,none⟩) (Kd.R_far (p := ⟨gb401,0,none⟩) (Kd.R_far (p := ⟨gb400,3,none⟩) (Kd.R_far (p := ⟨gb400,2,none⟩) (Kd.R_far (p := ⟨gb400,1,none⟩) (Kd.R_far (p := ⟨gb400,0,none⟩) (Kd.R_types (Kd.R_types HO389.out BK400.out Z355) BK401.out Z355) (fun _ hk => hk.1.2) (.slice Ao9 t387.length co9)) (fun _ hk => hk.1.2) (.string t390)) (fun _ hk => hk.1.2) (.slice Ao12 t391.length co12)) (fun _ hk => hk.1.2) (.slice Ao13 t394.length co13)) (fun _ hk => hk.2) (.int .i64 t397)) (fun _ hk => hk.2) (.int .i64 t398)) (fun _ hk => hk.2) (.int .i64 t399)) (fun _ h_ => h_.1)) (fun _ h_ => h_.1))) : p := h
theorem Z33 (h : p := by exact jA (Kd.S_lower hoq5 (below_size Z345)) (jA (blk_below (g := gb187) (o := .cells #[.slice none 0 0,.string (⟨#[]⟩ : ByteArray),.slice none 0 0,.slice none 0 0] 26 (0,0)) Z353 hb) (jA (blk_below (g := gb188) (o := .cells #[.int .i64 0,.int .i64 0,.int .i64 0] 28 (0,0)) Z354 hb) (Aside0.mk (below_step Z345 hb))))) : p := h
theorem Z34 (h : p := by exact jA (Kd.S_lower ho0 (below_size Z345)) (jA (blk_below (g := gb187) (o := .cells #[.slice none 0 0,.string (⟨#[]⟩ : ByteArray),.slice none 0 0,.slice none 0 0] 26 (0,0)) Z353 hb) (jA (blk_below (g := gb188) (o := .cells #[.int .i64 0,.int .i64 0,.int .i64 0] 28 (0,0)) Z354 hb) (Aside0.mk (below_step Z345 hb))))) : p := h
theorem Z35 (h : p := by (with_reducible repeat (first | apply Sc_alloc | apply Sc_drewN | apply Sc_drew));exact (Sc_mono (Sc_mono (Sc_far (p := ⟨gb416,2,none⟩) (Sc_far (p := ⟨gb416,1,none⟩) (Sc_far (p := ⟨gb416,0,none⟩) (Sc_far (p := ⟨gb415,3,none⟩) (Sc_far (p := ⟨gb415,2,none⟩) (Sc_far (p := ⟨gb415,1,none⟩) (Sc_far (p := ⟨gb415,0,none⟩) (Sc_types (Sc_types HO408.out BK415.out Z355) BK416.out Z355) (fun _ hk => hk.1.2) (.slice Ao18 t402.length co18)) (fun _ hk => hk.1.2) (.string t405)) (fun _ hk => hk.1.2) (.slice Ao23 t406.length co23)) (fun _ hk => hk.1.2) (.slice Ao24 t409.length co24)) (fun _ hk => hk.2) (.int .i64 t412)) (fun _ hk => hk.2) (.int .i64 t413)) (fun _ hk => hk.2) (.int .i64 t414)) (fun _ h_ => h_.1)) (fun _ h_ => h_.1))) : p := h
theorem Z36 (h : p := by (with_reducible repeat (first | apply Sc_alloc | apply Sc_drewN | apply Sc_drew));exact (Sc_mono (Sc_mono (Sc_far (p := ⟨gb416,2,none⟩) (Sc_far (p := ⟨gb416,1,none⟩) (Sc_far (p := ⟨gb416,0,none⟩) (Sc_far (p := ⟨gb415,3,none⟩) (Sc_far (p := ⟨gb415,2,none⟩) (Sc_far (p := ⟨gb415,1,none⟩) (Sc_far (p := ⟨gb415,0,none⟩) (Sc_types (Sc_types HO393.out BK415.out Z355) BK416.out Z355) (fun _ hk => hk.1.2) (.slice Ao18 t402.length co18)) (fun _ hk => hk.1.2) (.string t405)) (fun _ hk => hk.1.2) (.slice Ao23 t406.length co23)) (fun _ hk => hk.1.2) (.slice Ao24 t409.length co24)) (fun _ hk => hk.2) (.int .i64 t412)) (fun _ hk => hk.2) (.int .i64 t413)) (fun _ hk => hk.2) (.int .i64 t414)) (fun _ h_ => h_.1)) (fun _ h_ => h_.1))) : p := h
theorem Z37 (h : p := by exact (by skip;exact Zn_F (Zn_mono (ok' := (fun k_ => ((fun k_ => (w.heap.size ≤ k_) ∧ some k_ ≠ (.slice (some ad336) t324.length co104 : Value).ownBlock ∧ some k_ ≠ (.slice Ao99 t331.length co99 : Value).ownBlock ∧ some k_ ≠ (.slice Ao115 x336003_2.length co115 : Value).ownBlock ∧ some k_ ≠ (v353 : Value).ownBlock ∧ k_ ≠ gb307 ∧ k_ ≠ gb308 ∧ k_ ≠ gb315 ∧ k_ ≠ gb335)) k_ ∧ some k_ ≠ (.slice Ao114 x336002_2.length co114 : Value).ownBlock)) (HO347.out) (fun k_ hk => ⟨⟨hk.1,⟨hk.2.1,⟨hk.2.2.1,⟨hk.2.2.2.2.1,⟨hk.2.2.2.2.2.1,⟨hk.2.2.2.2.2.2.1,⟨hk.2.2.2.2.2.2.2.1,⟨hk.2.2.2.2.2.2.2.2.1,hk.2.2.2.2.2.2.2.2.2⟩⟩⟩⟩⟩⟩⟩⟩,hk.2.2.2.1⟩)))) : p := h
theorem Z38 (h : p := by refine bP ?_;refine blk_far ?_ NB307_308.out _;refine bP ?_;refine blk_far ?_ NB307_308.out _;refine bP ?_;refine blk_far ?_ NB307_308.out _;refine bP ?_;refine blk_put (cs := #[.slice none 0 0,.string (⟨#[]⟩ : ByteArray),.slice none 0 0,.slice none 0 0]) ?_ 3 _ rfl;refine bP ?_;refine blk_put (cs := #[.slice none 0 0,.string (⟨#[]⟩ : ByteArray),.slice none 0 0,.slice none 0 0]) ?_ 2 _ rfl;refine bP ?_;refine blk_put (cs := #[.slice none 0 0,.string (⟨#[]⟩ : ByteArray),.slice none 0 0,.slice none 0 0]) ?_ 1 _ rfl;refine bP ?_;refine blk_put (cs := #[.slice none 0 0,.string (⟨#[]⟩ : ByteArray),.slice none 0 0,.slice none 0 0]) ?_ 0 _ rfl;refine bP ?_;exact BK307.out) : p := h
theorem Z39 (h : p := by refine bP ?_;refine blk_far ?_ NB187_188.out _;refine bP ?_;refine blk_far ?_ NB187_188.out _;refine bP ?_;refine blk_far ?_ NB187_188.out _;refine bP ?_;refine blk_put (cs := #[.slice none 0 0,.string (⟨#[]⟩ : ByteArray),.slice none 0 0,.slice none 0 0]) ?_ 3 _ rfl;refine bP ?_;refine blk_put (cs := #[.slice none 0 0,.string (⟨#[]⟩ : ByteArray),.slice none 0 0,.slice none 0 0]) ?_ 2 _ rfl;refine bP ?_;refine blk_put (cs := #[.slice none 0 0,.string (⟨#[]⟩ : ByteArray),.slice none 0 0,.slice none 0 0]) ?_ 1 _ rfl;refine bP ?_;refine blk_put (cs := #[.slice none 0 0,.string (⟨#[]⟩ : ByteArray),.slice none 0 0,.slice none 0 0]) ?_ 0 _ rfl;refine bP ?_;exact BK187.out) : p := h
theorem Z40 (h : p := by refine bP ?_;refine blk_far ?_ NB307_308.out _;refine bP ?_;refine blk_far ?_ NB307_308.out _;refine bP ?_;refine blk_far ?_ NB307_308.out _;refine bP ?_;refine blk_put (cs := #[.slice none 0 0,.string (⟨#[]⟩ : ByteArray),.slice none 0 0,.slice none 0 0]) ?_ 3 _ rfl;refine bP ?_;refine blk_put (cs := #[.slice none 0 0,.string (⟨#[]⟩ : ByteArray),.slice none 0 0,.slice none 0 0]) ?_ 2 _ rfl;refine bP ?_;refine blk_put (cs := #[.slice none 0 0,.string x308001_1,.slice none 0 0,.slice none 0 0]) ?_ 1 _ rfl;refine bP ?_;refine blk_put (cs := #[.slice none 0 0,.string x308001_1,.slice none 0 0,.slice none 0 0]) ?_ 0 _ rfl;refine bP ?_;exact BK307.out) : p := h
theorem Z41 (h : p := by exact jA (Kd.S_after (ok := (fun _ => True)) (by (with_reducible repeat (first | apply Kd.S_alloc | apply Kd.S_drewN | apply Kd.S_drew));exact Kd.S_mono HO_4.out (fun _ hk => ⟨trivial,hk⟩)) hg hat) (jA (blk_grown (g := gb113) (o := .cells #[.int .i64 x114000_2,.int .i64 x114001_2,.int .i64 x114002_2] 28 (0,0)) Z336 hg (Kd.R_ne HO_6.out BK113.out Z355)) (jA (blk_grown (g := gb123) (o := .cells #[.int .i64 2,.int .i64 (x4_1.length : Int),.int .i64 (x6_2.length : Int)] 28 (0,0)) Z339 hg (Kd.R_ne HO_6.out BK123.out Z355)) (jA (hb) (Aside0.mk (ho)))))) : p := h
theorem Z42 (h : p := by exact jA (Kd.S_below Z327 hb) (jA (Kd.R_below Z328 hb) (jA (blk_below (g := gb286) (o := .cells #[.int .i64 x287000_2,.int .i64 x287001_2,.int .i64 x287002_2] 28 (0,0)) Z338 hb) (Aside0.mk (below_step Z295 hb))))) : p := h
theorem Z43 (h : p := by exact jA (below_step Z351 hb) (jA (hbox) (jA ((Z294 : w.heap.size ≤ gb146)) (Aside0.mk ((Z294 : w.heap.size ≤ gb146)))))) : p := h
theorem Z44 (h : p := by exact jA (below_step Z351 hb) (jA (hbox) (jA ((Z294 : w.heap.size ≤ gb365)) (Aside0.mk ((Z294 : w.heap.size ≤ gb365)))))) : p := h
theorem Z45 (h : p := by exact jA (below_step Z351 hb) (jA (hbox) (jA ((Z294 : w.heap.size ≤ gb187)) (Aside0.mk ((Z294 : w.heap.size ≤ gb187)))))) : p := h
theorem Z46 (h : p := by exact jA (below_step Z351 hb) (jA (hbox) (jA ((Z294 : w.heap.size ≤ gb383)) (Aside0.mk ((Z294 : w.heap.size ≤ gb383)))))) : p := h
theorem Z47 (h : p := by exact jA (below_step Z351 hb) (jA (hbox) (jA ((Z294 : w.heap.size ≤ gb370)) (Aside0.mk ((Z294 : w.heap.size ≤ gb370)))))) : p := h
theorem Z48 (h : p := by exact jA (below_step Z351 hb) (jA (hbox) (jA ((Z294 : w.heap.size ≤ gb307)) (Aside0.mk ((Z294 : w.heap.size ≤ gb307)))))) : p := h
theorem Z49 (h : p := by exact jA (below_step Z351 hb) (jA (hbox) (jA ((Z294 : w.heap.size ≤ gb253)) (Aside0.mk ((Z294 : w.heap.size ≤ gb253)))))) : p := h
theorem Z50 (h : p := by exact jA (below_step Z351 hb) (jA (hbox) (jA ((Z294 : w.heap.size ≤ gb113)) (Aside0.mk ((Z294 : w.heap.size ≤ gb113)))))) : p := h
theorem Z51 (h : p := by (with_reducible repeat (first | apply Kd.N_alloc | apply Kd.N_drewN | apply Kd.N_drew));exact Kd.N_mono (Kd.N_far (p := ⟨gb315,2,none⟩) (Kd.N_far (p := ⟨gb315,1,none⟩) (Kd.N_far (p := ⟨gb315,0,none⟩) (Kd.N_mono HO326.out (fun k_ hk => (⟨hk,hk.2.2.2.2⟩ : _ ∧ k_ ≠ gb315))) (fun _ hk => hk.2) (.int .i64 t327)) (fun _ hk => hk.2) (.int .i64 t328)) (fun _ hk => hk.2) (.int .i64 t329)) (fun _ hk => ⟨hk.1.1,⟨hk.1.2.1,⟨hk.1.2.2.1,⟨hk.1.2.2.2.1,hk.1.2.2.2.2⟩⟩⟩⟩)) : p := h
theorem Z52 (h : p := by (with_reducible repeat (first | apply Kd.N_alloc | apply Kd.N_drewN | apply Kd.N_drew));exact Kd.N_mono (Kd.N_far (p := ⟨gb315,2,none⟩) (Kd.N_far (p := ⟨gb315,1,none⟩) (Kd.N_far (p := ⟨gb315,0,none⟩) (Kd.N_mono HO_4.out (fun k_ hk => (⟨hk,hk.1.2.2.2⟩ : _ ∧ k_ ≠ gb315))) (fun _ hk => hk.2) (.int .i64 t327)) (fun _ hk => hk.2) (.int .i64 t328)) (fun _ hk => hk.2) (.int .i64 t329)) (fun _ hk => ⟨hk.1.1.1,⟨hk.1.2,⟨hk.1.1.2.1,⟨hk.1.1.2.2.1,hk.1.1.2.2.2⟩⟩⟩⟩)) : p := h
theorem Z53 (h : p := by rw [hw];exact Z256) : p := h
theorem Z54 (h : p := by (with_reducible repeat (first | apply Kd.S_alloc | apply Kd.S_drewN | apply Kd.S_drew));exact Kd.S_mono (Kd.S_far (p := ⟨gb268,2,none⟩) (Kd.S_far (p := ⟨gb268,1,none⟩) (Kd.S_far (p := ⟨gb268,0,none⟩) (Kd.S_types HO_5.out BK268.out Z355) (fun _ hk => hk.2) (.int .i64 2)) (fun _ hk => hk.2) (.int .i64 (x5_1.length : Int))) (fun _ hk => hk.2) (.int .i64 (x6_1.length : Int))) (fun _ hk => ⟨trivial,hk.1⟩)) : p := h
theorem Z55 (h : p := by exact Z257) : p := h
theorem Z56 (h : p := by (try simp only [List.map_toArray,List.map_cons,List.map_nil]);first | done | (rw [show ((rd_L2 t309 0).take ((ji83) : Int).toNat).length = (ji83).toNat from (by rw [List.length_take];have h_ : ((ji83) : Int) ≤ ((rd_L2 t309 0).length : Int) := of_decide_eq_true Z330;omega)] <;> rfl) | (simp only [hji83];rfl) | rfl | (simp only [List.length_drop,List.length_take];rfl)) : p := h
theorem Z57 (h : p := by rw [hw];exact Z258) : p := h
theorem Z58 (h : p := by exact jA (blk_below (g := gb383) (o := .cells #[.slice A0_0 l0_0.length c0_0,.string a0_1,.slice A0_2 l0_2.length c0_2,.slice A0_3 l0_3.length c0_3] 26 (0,0)) (by refine bP ?_;exact BK383.out) hb) (Aside0.mk (below_step Z297 hb))) : p := h
theorem Z59 (h : p := by (try simp only [List.map_toArray,List.map_cons,List.map_nil]);first | done | (rw [show ((rd_L2 t309 0).take (x45_1 : Int).toNat).length = x45_1.toNat from (by rw [List.length_take];have h_ : (x45_1 : Int) ≤ ((rd_L2 t309 0).length : Int) := of_decide_eq_true Z330;omega)] <;> rfl) | rfl | (simp only [List.length_drop,List.length_take];rfl)) : p := h
theorem Z60 (h : p := by (with_reducible repeat (first | apply Kd.R_alloc | apply Kd.R_drewN | apply Kd.R_drew));exact Kd.R_mono (Kd.R_far (p := ⟨gb195,2,none⟩) (Kd.R_far (p := ⟨gb195,1,none⟩) (Kd.R_far (p := ⟨gb195,0,none⟩) (Kd.R_types HL196_0.out BK195.out Z355) (fun _ hk => hk.2) (.int .i64 t197)) (fun _ hk => hk.2) (.int .i64 t198)) (fun _ hk => hk.2) (.int .i64 t199)) (fun _ hk => hk.1.2)) : p := h
theorem Z61 (h : p := by (with_reducible repeat (first | apply Kd.S_alloc | apply Kd.S_drewN | apply Kd.S_drew));exact Kd.S_mono (Kd.S_far (p := ⟨gb195,2,none⟩) (Kd.S_far (p := ⟨gb195,1,none⟩) (Kd.S_far (p := ⟨gb195,0,none⟩) (Kd.S_types HO191.out BK195.out Z355) (fun _ hk => hk.2) (.int .i64 t197)) (fun _ hk => hk.2) (.int .i64 t198)) (fun _ hk => hk.2) (.int .i64 t199)) (fun _ hk => trivial)) : p := h
theorem Z62 (h : p := by repeat (first | exact (Kd.C_below HR1_2.out Z275) | (with_reducible refine Kd.C_alloc ?_ _) | (with_reducible refine Kd.C_drewN ?_ _) | (with_reducible refine Kd.C_drew ?_))) : p := h
theorem Z63 (h : p := by repeat (first | exact (Kd.C_below HR0_2.out Z275) | (with_reducible refine Kd.C_alloc ?_ _) | (with_reducible refine Kd.C_drewN ?_ _) | (with_reducible refine Kd.C_drew ?_))) : p := h
theorem Z64 (h : p := by (with_reducible repeat (first | apply Kd.V_alloc | apply Kd.V_drewN | apply Kd.V_drew));exact Kd.V_mono HL336_0.out (fun _ hk => ⟨⟨hk.1.1.1.1.1,⟨hk.1.1.1.2,⟨hk.1.1.1.1.2.1,⟨hk.1.1.1.1.2.2.2.1,⟨hk.1.2,⟨hk.2,⟨hk.1.1.1.1.2.2.2.2.1,⟨hk.1.1.1.1.2.2.2.2.2.1,⟨hk.1.1.1.1.2.2.2.2.2.2.1,hk.1.1.1.1.2.2.2.2.2.2.2⟩⟩⟩⟩⟩⟩⟩⟩⟩,hk.1.1.1.1.2.2.1⟩)) : p := h
theorem Z65 (h : p := by repeat (first | exact (Kd.C_below HR1_3.out Z275) | (with_reducible refine Kd.C_alloc ?_ _) | (with_reducible refine Kd.C_drewN ?_ _) | (with_reducible refine Kd.C_drew ?_))) : p := h
theorem Z66 (h : p := by repeat (first | exact (Kd.C_below HR0_3.out Z275) | (with_reducible refine Kd.C_alloc ?_ _) | (with_reducible refine Kd.C_drewN ?_ _) | (with_reducible refine Kd.C_drew ?_))) : p := h
theorem Z67 (h : p := by (with_reducible repeat (first | apply Kd.V_alloc | apply Kd.V_drewN | apply Kd.V_drew));exact Kd.V_mono HO341.out (fun _ hk => ⟨⟨hk.1.1.1.1.1,⟨hk.1.1.1.2,⟨hk.1.1.1.1.2.1,⟨hk.1.1.1.1.2.2.2.1,⟨hk.1.2,⟨hk.2,⟨hk.1.1.1.1.2.2.2.2.1,⟨hk.1.1.1.1.2.2.2.2.2.1,⟨hk.1.1.1.1.2.2.2.2.2.2.1,hk.1.1.1.1.2.2.2.2.2.2.2⟩⟩⟩⟩⟩⟩⟩⟩⟩,hk.1.1.1.1.2.2.1⟩)) : p := h
theorem Z68 (h : p := by refine bP ?_;refine blk_put (cs := #[.int .i64 2,.int .i64 (x4_1.length : Int),.int .i64 x114002_2]) ?_ 2 _ rfl;refine bP ?_;refine blk_put (cs := #[.int .i64 2,.int .i64 x114001_2,.int .i64 x114002_2]) ?_ 1 _ rfl;refine bP ?_;refine blk_put (cs := #[.int .i64 x114000_2,.int .i64 x114001_2,.int .i64 x114002_2]) ?_ 0 _ rfl;refine bP ?_;exact BK113.out) : p := h
theorem Z69 (h : p := by refine bP ?_;refine blk_put (cs := #[.int .i64 2,.int .i64 (x5_1.length : Int),.int .i64 x254002_1]) ?_ 2 _ rfl;refine bP ?_;refine blk_put (cs := #[.int .i64 2,.int .i64 x254001_1,.int .i64 x254002_1]) ?_ 1 _ rfl;refine bP ?_;refine blk_put (cs := #[.int .i64 x254000_1,.int .i64 x254001_1,.int .i64 x254002_1]) ?_ 0 _ rfl;refine bP ?_;exact BK253.out) : p := h
theorem Z70 (h : p := by (with_reducible repeat (first | apply Kd.V_alloc | apply Kd.V_drewN | apply Kd.V_drew));exact Kd.V_mono HL336_0.out (fun _ hk => ⟨hk.1.1,⟨hk.1.2.2.2.2.2.1,⟨hk.2,⟨hk.1.2.2.2.2.1,⟨hk.1.2.2.1,⟨hk.1.2.2.2.1,⟨hk.1.2.1,⟨hk.1.2.2.2.2.2.2.1,⟨hk.1.2.2.2.2.2.2.2.1,⟨hk.1.2.2.2.2.2.2.2.2.1,hk.1.2.2.2.2.2.2.2.2.2⟩⟩⟩⟩⟩⟩⟩⟩⟩⟩)) : p := h
theorem Z71 (h : p := by (with_reducible repeat (first | apply Kd.V_alloc | apply Kd.V_drewN | apply Kd.V_drew));exact Kd.V_mono HO341.out (fun _ hk => ⟨hk.1.1,⟨hk.1.2.2.2.2.2.1,⟨hk.2,⟨hk.1.2.2.2.2.1,⟨hk.1.2.2.1,⟨hk.1.2.2.2.1,⟨hk.1.2.1,⟨hk.1.2.2.2.2.2.2.1,⟨hk.1.2.2.2.2.2.2.2.1,⟨hk.1.2.2.2.2.2.2.2.2.1,hk.1.2.2.2.2.2.2.2.2.2⟩⟩⟩⟩⟩⟩⟩⟩⟩⟩)) : p := h
theorem Z72 (h : p := by repeat (first | exact Z284 | (with_reducible refine Kd.C_alloc ?_ _) | (with_reducible refine Kd.C_drewN ?_ _) | (with_reducible refine Kd.C_drew ?_))) : p := h
theorem Z73 (h : p := by repeat (first | exact Z285 | (with_reducible refine Kd.C_alloc ?_ _) | (with_reducible refine Kd.C_drewN ?_ _) | (with_reducible refine Kd.C_drew ?_))) : p := h
theorem Z74 (h : p := by repeat (first | exact (Kd.C_below HR150.out Z296) | (with_reducible refine Kd.C_alloc ?_ _) | (with_reducible refine Kd.C_drewN ?_ _) | (with_reducible refine Kd.C_drew ?_))) : p := h
theorem Z75 (h : p := by repeat (first | exact (Kd.C_below HR0_3.out Z297) | (with_reducible refine Kd.C_alloc ?_ _) | (with_reducible refine Kd.C_drewN ?_ _) | (with_reducible refine Kd.C_drew ?_))) : p := h
theorem Z76 (h : p := by first | exact Kd.own_blk (Kd.R_ne HL196_0.out BK212.out Z355) | (rw [add_block];exact Kd.own_blk (Kd.R_ne HL196_0.out BK212.out Z355)) | (show (Addr.add _ _).block ≠ _;rw [add_block];exact Kd.own_blk (Kd.R_ne HL196_0.out BK212.out Z355)) | (dsimp only;exact Kd.own_blk (Kd.R_ne HL196_0.out BK212.out Z355))) : p := h
theorem Z77 (h : p := by (with_reducible repeat (first | apply Kd.N_alloc | apply Kd.N_drewN | apply Kd.N_drew));exact Kd.N_mono HO_96.out (fun _ hk => ⟨⟨hk.1.1.1.1,⟨hk.1.1.1.2.1,⟨hk.1.1.1.2.2.2.1,⟨hk.1.2,⟨hk.2,⟨hk.1.1.1.2.2.2.2.1,⟨hk.1.1.1.2.2.2.2.2.1,⟨hk.1.1.1.2.2.2.2.2.2.1,hk.1.1.1.2.2.2.2.2.2.2⟩⟩⟩⟩⟩⟩⟩⟩,hk.1.1.1.2.2.1⟩)) : p := h
theorem Z78 (h : p := by repeat (first | (with_reducible first | exact HB.out | apply below_alloc | apply pw_below_drewN | apply below_drew1 | refine below_set ?_ GE400.out | refine below_set ?_ GE401.out | refine below_set ?_ GE415.out | refine below_set ?_ GE416.out | refine below_set ?_ GE437.out | refine below_set ?_ GE438.out) | exact HB.out)) : p := h
theorem Z79 (h : p := by rw [hg];exact (below_size Z261)) : p := h
theorem Z80 (h : p := by (with_reducible repeat (first | apply Kd.N_alloc | apply Kd.N_drewN | apply Kd.N_drew));exact Kd.N_mono HO_96.out (fun _ hk => ⟨hk.1.1,⟨hk.1.2.2.2.2.1,⟨hk.2,⟨hk.1.2.2.2.1,⟨hk.1.2.1,⟨hk.1.2.2.1,⟨hk.1.2.2.2.2.2.1,⟨hk.1.2.2.2.2.2.2.1,⟨hk.1.2.2.2.2.2.2.2.1,hk.1.2.2.2.2.2.2.2.2⟩⟩⟩⟩⟩⟩⟩⟩⟩)) : p := h
theorem Z81 (h : p := by rw [hw];exact Z260) : p := h
theorem Z82 (h : p := by rw [hw];exact Z259) : p := h
theorem Z83 (h : p := by refine bP ?_;refine blk_put (cs := #[.int .i64 t327,.int .i64 t328,.int .i64 t314]) ?_ 2 _ rfl;refine bP ?_;refine blk_put (cs := #[.int .i64 t327,.int .i64 t313,.int .i64 t314]) ?_ 1 _ rfl;refine bP ?_;refine blk_put (cs := #[.int .i64 t312,.int .i64 t313,.int .i64 t314]) ?_ 0 _ rfl;refine bP ?_;exact BK315.out) : p := h
theorem Z84 (h : p := by refine bP ?_;refine blk_put (cs := #[.int .i64 t197,.int .i64 t198,.int .i64 t194]) ?_ 2 _ rfl;refine bP ?_;refine blk_put (cs := #[.int .i64 t197,.int .i64 t193,.int .i64 t194]) ?_ 1 _ rfl;refine bP ?_;refine blk_put (cs := #[.int .i64 t192,.int .i64 t193,.int .i64 t194]) ?_ 0 _ rfl;refine bP ?_;exact BK195.out) : p := h
theorem Z85 (h : p := by (with_reducible repeat (first | apply Zn_alloc | apply Zn_drewN | apply Zn_drew));exact Zn_mono HO347.out (fun _ hk => ⟨hk.1.1,⟨hk.2,⟨hk.1.2.2.2.2.1,⟨hk.1.2.2.1,⟨hk.1.2.2.2.1,⟨hk.1.2.1,⟨hk.1.2.2.2.2.2.1,⟨hk.1.2.2.2.2.2.2.1,⟨hk.1.2.2.2.2.2.2.2.1,hk.1.2.2.2.2.2.2.2.2⟩⟩⟩⟩⟩⟩⟩⟩⟩)) : p := h
theorem Z86 (h : p := by (with_reducible repeat (first | apply Zn_alloc | apply Zn_drewN | apply Zn_drew));exact Zn_mono HO347.out (fun _ hk => ⟨⟨hk.1,⟨hk.2.1,⟨hk.2.2.1,⟨hk.2.2.2.2.1,⟨hk.2.2.2.2.2.1,⟨hk.2.2.2.2.2.2.1,⟨hk.2.2.2.2.2.2.2.1,⟨hk.2.2.2.2.2.2.2.2.1,hk.2.2.2.2.2.2.2.2.2⟩⟩⟩⟩⟩⟩⟩⟩,hk.2.2.2.1⟩)) : p := h
theorem Z87 (h : p := by refine bP ?_;refine blk_put (cs := #[.int .i64 2,.int .i64 (x5_1.length : Int),.int .i64 0]) ?_ 2 _ rfl;refine bP ?_;refine blk_put (cs := #[.int .i64 2,.int .i64 0,.int .i64 0]) ?_ 1 _ rfl;refine bP ?_;refine blk_put (cs := #[.int .i64 0,.int .i64 0,.int .i64 0]) ?_ 0 _ rfl;refine bP ?_;exact BK268.out) : p := h
theorem Z88 (h : p := by exact (fun k_ hk => ⟨Kd.fresh' (Kd.R_lt Z316) k_ hk,Kd.fresh' (Kd.R_lt Z309) k_ hk⟩)) : p := h
theorem Z89 (h : p := by rw [hg];exact Nat.ne_of_lt (blk_lt (g := gb415) (o := .cells #[.slice Ao18 t402.length co18,.string t405,.slice Ao23 t406.length co23,.slice Ao24 t409.length co24] 26 (0,0)) Z304)) : p := h
theorem Z90 (h : p := by rw [hg];exact Nat.ne_of_gt (blk_lt (g := gb415) (o := .cells #[.slice Ao18 t402.length co18,.string t405,.slice Ao23 t406.length co23,.slice Ao24 t409.length co24] 26 (0,0)) Z304)) : p := h
theorem Z91 (h : p := by rw [hg];exact Nat.ne_of_lt (blk_lt (g := gb400) (o := .cells #[.slice Ao9 t387.length co9,.string t390,.slice Ao12 t391.length co12,.slice Ao13 t394.length co13] 26 (0,0)) Z303)) : p := h
theorem Z92 (h : p := by rw [hg];exact Nat.ne_of_gt (blk_lt (g := gb400) (o := .cells #[.slice Ao9 t387.length co9,.string t390,.slice Ao12 t391.length co12,.slice Ao13 t394.length co13] 26 (0,0)) Z303)) : p := h
theorem Z93 (h : p := by rw [hg];exact (below_size Z264)) : p := h
theorem Z94 (h : p := by exact (below_size Z263)) : p := h
theorem Z95 (h : p := by exact (below_size Z262)) : p := h
theorem Z96 (h : p := by (with_reducible repeat (first | apply Zn_alloc | apply Zn_drewN | apply Zn_drew));exact Zn_mono HO350.out (fun _ hk => ⟨hk.1,⟨hk.2.2.2.2.1,⟨hk.2.2.1,⟨hk.2.2.2.1,⟨hk.2.1,⟨hk.2.2.2.2.2.1,⟨hk.2.2.2.2.2.2.1,⟨hk.2.2.2.2.2.2.2.1,hk.2.2.2.2.2.2.2.2⟩⟩⟩⟩⟩⟩⟩⟩)) : p := h
theorem Z97 (h : p := by exact Z263) : p := h
theorem Z98 (h : p := by exact Z262) : p := h
theorem Z99 (h : p := by exact (below_size Z266)) : p := h
theorem Z100 (h : p := by rw [hg];exact (below_size Z269)) : p := h
theorem Z101 (h : p := by rw [hg];exact (below_size Z268)) : p := h
theorem Z102 (h : p := by rw [hg];exact (below_size Z270)) : p := h
theorem Z103 (h : p := by exact GT_below HG.out Z268) : p := h
theorem Z104 (h : p := by rw [← hq_];exact Z268) : p := h
theorem Z105 (h : p := by exact Z266) : p := h
theorem Z106 (h : p := by rw [hw];exact Z269) : p := h
theorem Z107 (h : p := by rw [hw];exact Z268) : p := h
theorem Z108 (h : p := by repeat (first | exact (Kd.C_of_reads (h1 := fun _ => rfl) (HA94_.out _ (Kd.reads_of_C (Kd.V_reads' HR316_0.out).2.2))) | (with_reducible refine Kd.C_alloc ?_ _) | (with_reducible refine Kd.C_drewN ?_ _) | (with_reducible refine Kd.C_drew ?_))) : p := h
theorem Z109 (h : p := by rw [hg];exact Nat.ne_of_lt (blk_lt (g := gb401) (o := .cells #[.int .i64 t397,.int .i64 t398,.int .i64 t399] 28 (0,0)) Z305)) : p := h
theorem Z110 (h : p := by rw [hg];exact Nat.ne_of_gt (blk_lt (g := gb401) (o := .cells #[.int .i64 t397,.int .i64 t398,.int .i64 t399] 28 (0,0)) Z305)) : p := h
theorem Z111 (h : p := by rw [hg];exact Nat.ne_of_lt (blk_lt (g := gb416) (o := .cells #[.int .i64 t412,.int .i64 t413,.int .i64 t414] 28 (0,0)) Z306)) : p := h
theorem Z112 (h : p := by rw [hg];exact Nat.ne_of_gt (blk_lt (g := gb416) (o := .cells #[.int .i64 t412,.int .i64 t413,.int .i64 t414] 28 (0,0)) Z306)) : p := h
theorem Z113 (h : p := by first | (rw [add_block];exact (fun e_ => ((HO203.out.1 _ e_.symm).2) rfl)) | (show some (Addr.add _ _).block ≠ _;rw [add_block];exact (fun e_ => ((HO203.out.1 _ e_.symm).2) rfl)) | exact (fun e_ => ((HO203.out.1 _ e_.symm).2) rfl)) : p := h
theorem Z114 (h : p := by rw [hg];exact (below_size Z276)) : p := h
theorem Z115 (h : p := by exact (below_size Z274)) : p := h
theorem Z116 (h : p := by rw [← hq_];exact Z282) : p := h
theorem Z117 (h : p := by exact Z274) : p := h
theorem Z118 (h : p := by exact (keep_size (w := w) (g := g) (row := none) Z300)) : p := h
theorem Z119 (h : p := by repeat (first | (with_reducible first | exact HB.out | apply below_alloc | apply pw_below_drewN | apply below_drew1 | refine below_set ?_ GE370.out | refine below_set ?_ GE371.out) | exact HB.out)) : p := h
theorem Z120 (h : p := by rw [hg];exact (below_size Z298)) : p := h
theorem Z121 (h : p := by rw [hg];exact (below_size Z299)) : p := h
theorem Z122 (h : p := by repeat (first | (with_reducible exact HR336_0.out) | (with_reducible refine Kd.C_alloc ?_ _) | (with_reducible refine Kd.C_drewN ?_ _) | (with_reducible refine Kd.C_drew ?_) | exact HR336_0.out)) : p := h
theorem Z123 (h : p := by exact GT_below HG.out Z295) : p := h
theorem Z124 (h : p := by repeat (first | (with_reducible exact HR230.out) | (with_reducible refine Kd.C_alloc ?_ _) | (with_reducible refine Kd.C_drewN ?_ _) | (with_reducible refine Kd.C_drew ?_) | exact HR230.out)) : p := h
theorem Z125 (h : p := by rw [hw];exact Z292) : p := h
theorem Z126 (h : p := by rw [hw];exact Z293) : p := h
theorem Z127 (h : p := by rw [hw];exact Z290) : p := h
theorem Z128 (h : p := by rw [hw];exact Z291) : p := h
theorem Z129 (h : p := by exact (below_size Z295)) : p := h
theorem Z130 (h : p := by repeat (first | exact (Kd.S_reads' HO_416002.out).2.2 | (with_reducible refine Kd.C_alloc ?_ _) | (with_reducible refine Kd.C_drewN ?_ _) | (with_reducible refine Kd.C_drew ?_))) : p := h
theorem Z131 (h : p := by repeat (first | exact (Kd.R_reads' HO_416003.out).2.2 | (with_reducible refine Kd.C_alloc ?_ _) | (with_reducible refine Kd.C_drewN ?_ _) | (with_reducible refine Kd.C_drew ?_))) : p := h
theorem Z132 (h : p := by repeat (first | exact (Kd.R_reads' HO_416000.out).2.2 | (with_reducible refine Kd.C_alloc ?_ _) | (with_reducible refine Kd.C_drewN ?_ _) | (with_reducible refine Kd.C_drew ?_))) : p := h
theorem Z133 (h : p := by repeat (first | exact (Kd.C_below HR0_0.out HB.out) | (with_reducible refine Kd.C_alloc ?_ _) | (with_reducible refine Kd.C_drewN ?_ _) | (with_reducible refine Kd.C_drew ?_))) : p := h
theorem Z134 (h : p := by repeat (first | exact (Kd.C_below HR1_0.out HB.out) | (with_reducible refine Kd.C_alloc ?_ _) | (with_reducible refine Kd.C_drewN ?_ _) | (with_reducible refine Kd.C_drew ?_))) : p := h
theorem Z135 (h : p := by repeat (first | exact (Kd.C_below HR0_2.out HB.out) | (with_reducible refine Kd.C_alloc ?_ _) | (with_reducible refine Kd.C_drewN ?_ _) | (with_reducible refine Kd.C_drew ?_))) : p := h
theorem Z136 (h : p := by exact Z295) : p := h
theorem Z137 (h : p := by rw [hg];exact Nat.ne_of_lt (blk_lt (g := gb307) (o := .cells #[.slice none 0 0,.string x308001_1,.slice none 0 0,.slice none 0 0] 26 (0,0)) Z352)) : p := h
theorem Z138 (h : p := by rw [hg];exact Nat.ne_of_gt (blk_lt (g := gb307) (o := .cells #[.slice none 0 0,.string x308001_1,.slice none 0 0,.slice none 0 0] 26 (0,0)) Z352)) : p := h
theorem Z139 (h : p := by repeat (first | (with_reducible first | exact HB.out | apply below_alloc | apply pw_below_drewN | apply below_drew1 | refine below_set ?_ (IsS59.ge HI0.out)) | exact HB.out)) : p := h
theorem Z140 (h : p := by repeat (first | exact (Kd.V_reads' HO341.out).2.2 | (with_reducible refine Kd.C_alloc ?_ _) | (with_reducible refine Kd.C_drewN ?_ _) | (with_reducible refine Kd.C_drew ?_))) : p := h
theorem Z141 (h : p := by repeat (first | exact (Kd.N_reads' HO_4.out).2.2 | (with_reducible refine Kd.C_alloc ?_ _) | (with_reducible refine Kd.C_drewN ?_ _) | (with_reducible refine Kd.C_drew ?_))) : p := h
theorem Z142 (h : p := by repeat (first | (with_reducible first | exact HI0.out | apply IsS59.alloc | apply IsS59.drewN | apply IsS59.drew | apply IsS59.set_0 | apply IsS59.set_1) | exact HI0.out)) : p := h
theorem Z143 (h : p := by refine bP ?_;refine blk_far ?_ NB253_268.out _;refine bP ?_;refine blk_far ?_ NB253_268.out _;refine bP ?_;refine blk_far ?_ NB253_268.out _;refine bP ?_;exact BK253.out) : p := h
theorem Z144 (h : p := by exact (Reps.one (show Kd.M (Kd.int .u8) _ _ _ ((wrap64 (48 + (Int.tmod x0_1 10))) % 256) [.int .u8 ((wrap64 (48 + (Int.tmod x0_1 10))) % 256)] from rfl) (Reps.none _ _))) : p := h
theorem Z145 (h : p := by first | rfl | (simp [errW_none,errW_some] <;> rfl) | (simp only [← hji21];first | rfl | (simp [errW_none,errW_some] <;> rfl)) | (simp [*,errW_none,errW_some] <;> rfl)) : p := h
theorem Z146 (h : p := by rw [hg];exact Nat.ne_of_lt (blk_lt (g := gb308) (o := .cells #[.int .i64 x309000_1,.int .i64 x309001_1,.int .i64 x309002_1] 28 (0,0)) Z331)) : p := h
theorem Z147 (h : p := by rw [hg];exact Nat.ne_of_gt (blk_lt (g := gb308) (o := .cells #[.int .i64 x309000_1,.int .i64 x309001_1,.int .i64 x309002_1] 28 (0,0)) Z331)) : p := h
theorem Z148 (h : p := by repeat (first | exact HR363_0.out | (with_reducible refine Kd.C_alloc ?_ _) | (with_reducible refine Kd.C_drewN ?_ _) | (with_reducible refine Kd.C_drew ?_))) : p := h
theorem Z149 (h : p := by repeat (first | exact HR362_0.out | (with_reducible refine Kd.C_alloc ?_ _) | (with_reducible refine Kd.C_drewN ?_ _) | (with_reducible refine Kd.C_drew ?_))) : p := h
theorem Z150 (h : p := by exact (fun k_ hk => Kd.fresh' (Kd.R_lt Z312) k_ hk)) : p := h
theorem Z151 (h : p := by repeat (first | exact HR381_0.out | (with_reducible refine Kd.C_alloc ?_ _) | (with_reducible refine Kd.C_drewN ?_ _) | (with_reducible refine Kd.C_drew ?_))) : p := h
theorem Z152 (h : p := by exact (below_size Z351)) : p := h
theorem Z153 (h : p := by first | exact GW335.out | (rw [add_block];exact GW335.out) | (show (Addr.add _ _).block ≠ _;rw [add_block];exact GW335.out) | (dsimp only;exact GW335.out)) : p := h
theorem Z154 (h : p := by repeat (first | exact HR321.out | (with_reducible refine Kd.C_alloc ?_ _) | (with_reducible refine Kd.C_drewN ?_ _) | (with_reducible refine Kd.C_drew ?_))) : p := h
theorem Z155 (h : p := by rw [hg];exact Nat.ne_of_lt (blk_lt (g := gb195) (o := .cells #[.int .i64 t197,.int .i64 t198,.int .i64 t199] 28 (0,0)) Z334)) : p := h
theorem Z156 (h : p := by rw [hg];exact Nat.ne_of_gt (blk_lt (g := gb195) (o := .cells #[.int .i64 t197,.int .i64 t198,.int .i64 t199] 28 (0,0)) Z334)) : p := h
theorem Z157 (h : p := by rw [hg];exact Nat.ne_of_lt (blk_lt (g := gb315) (o := .cells #[.int .i64 t327,.int .i64 t328,.int .i64 t329] 28 (0,0)) Z332)) : p := h
theorem Z158 (h : p := by rw [hg];exact Nat.ne_of_gt (blk_lt (g := gb315) (o := .cells #[.int .i64 t327,.int .i64 t328,.int .i64 t329] 28 (0,0)) Z332)) : p := h
theorem Z159 (h : p := by (with_reducible repeat (first | apply Kd.R_alloc | apply Kd.R_drewN | apply Kd.R_drew));exact Kd.R_mono HO_336003.out (fun _ hk => ⟨hk.1.1,hk.2⟩)) : p := h
theorem Z160 (h : p := by (with_reducible repeat (first | apply Kd.R_alloc | apply Kd.R_drewN | apply Kd.R_drew));exact Kd.R_mono HO354.out (fun _ hk => ⟨hk.1.1.1,hk.1.2⟩)) : p := h
theorem Z161 (h : p := by (with_reducible repeat (first | apply Kd.S_alloc | apply Kd.S_drewN | apply Kd.S_drew));exact Kd.S_mono HO_213002.out (fun _ hk => ⟨hk.2,hk.1⟩)) : p := h
theorem Z162 (h : p := by first | exact q196 | exact of_decide_eq_true Z330 | (have e_ := (Kd.S_reads' HO191.out).1;omega)) : p := h
theorem Z163 (h : p := by (with_reducible repeat (first | apply Kd.R_alloc | apply Kd.R_drewN | apply Kd.R_drew));exact Kd.R_mono HO354.out (fun _ hk => ⟨hk.1.1,hk.2⟩)) : p := h
theorem Z164 (h : p := by first | exact q217 | exact of_decide_eq_true Z330 | (have e_ := (Kd.S_reads' HO_4.out).1;omega)) : p := h
theorem Z165 (h : p := by first | exact q213 | exact of_decide_eq_true Z330 | (have e_ := (Kd.S_reads' HO_4.out).1;omega)) : p := h
theorem Z166 (h : p := by exact Z351) : p := h
theorem Z167 (h : p := by exact (Reps.one (show Kd.M (Kd.int .i64) _ _ _ (rd (rd_L4 t324 x98_2) ji83) [.int .i64 (rd (rd_L4 t324 x98_2) ji83)] from rfl) (Reps.none _ _))) : p := h
theorem Z168 (h : p := by exact (by (with_reducible repeat (first | apply Kd.R_alloc | apply Kd.R_drewN | apply Kd.R_drew));exact Kd.R_mono HO203.out (fun _ hk => hk.2))) : p := h
theorem Z169 (h : p := by first | exact Kd.R_nil _ _ _ _ _ | exact Kd.N_nil _ _ _ _ _ | exact Kd.V_nil _ _ _ _ _ | exact Kd.Q_nil _ _ _ _ _ | exact Kd.S_nil _ _ _ _ _) : p := h
theorem Z170 (h : p := by first | exact Kd.S_nil _ _ _ _ _ | exact Kd.N_nil _ _ _ _ _ | exact Kd.V_nil _ _ _ _ _ | exact Kd.Q_nil _ _ _ _ _ | exact Kd.R_nil _ _ _ _ _) : p := h
theorem Z171 (h : p := by first | exact h_.2 | exact h_.1.2 | exact h_.1.1.2 | exact h_.1.1.1.2 | exact h_.2.1 | exact h_.1.2.1 | exact h_.2.2.1 | exact h_.2.2.2.1) : p := h
theorem Z172 (h : p := by (with_reducible repeat (first | apply Kd.R_alloc | apply Kd.R_drewN | apply Kd.R_drew));exact Kd.R_mono HO_213003.out (fun _ hk => hk.2)) : p := h
theorem Z173 (h : p := by (try simp only [List.map_toArray,List.map_cons,List.map_nil]);first | done | rfl | (simp only [List.length_drop,List.length_take];rfl)) : p := h
theorem Z174 (h : p := by (with_reducible repeat (first | apply Kd.S_alloc | apply Kd.S_drewN | apply Kd.S_drew));exact Kd.S_mono HO191.out (fun _ hk => hk.2)) : p := h
theorem Z175 (h : p := by (with_reducible repeat (first | apply Kd.R_alloc | apply Kd.R_drewN | apply Kd.R_drew));exact Kd.R_mono HO333.out (fun _ hk => hk.1)) : p := h
theorem Z176 (h : p := by (with_reducible repeat (first | apply Kd.S_alloc | apply Kd.S_drewN | apply Kd.S_drew));exact Kd.S_mono HO_4.out (fun _ hk => hk.2)) : p := h
theorem Z177 (h : p := by (with_reducible repeat (first | apply Kd.S_alloc | apply Kd.S_drewN | apply Kd.S_drew));exact Kd.S_mono HO_6.out (fun _ hk => hk.2)) : p := h
theorem Z178 (h : p := by rw [← hq_];exact Z313) : p := h
theorem Z179 (h : p := by obtain ⟨ad_,e_,h_⟩ := Kd.at_string (Kd.V_reads' HR316_0.out).2.2 (ji83) (of_eq_true p334) (of_eq_true q334);cases e_;exact h_) : p := h
theorem Z180 (h : p := by rw [← hq_];exact Z324) : p := h
theorem Z181 (h : p := by repeat (first | (with_reducible first | exact HK.out | apply Kept.alloc | apply Kept.drewN | apply Kept.drew) | exact HK.out)) : p := h
theorem Z182 (h : p := by (with_reducible repeat (first | refine blk_drewN ?_ _ | refine blk_drew ?_ | refine blk_alloc ?_ _));exact BK437.out) : p := h
theorem Z183 (h : p := by (with_reducible repeat (first | refine blk_drewN ?_ _ | refine blk_drew ?_ | refine blk_alloc ?_ _));exact BK438.out) : p := h
theorem Z184 (h : p := by exact Z322) : p := h
theorem Z185 (h : p := by exact Z325) : p := h
theorem Z186 (h : p := by exact Z326) : p := h
theorem Z187 (h : p := by exact (by (with_reducible repeat (first | apply Kd.R_alloc | apply Kd.R_drewN | apply Kd.R_drew));exact HO_4.out)) : p := h
theorem Z188 (h : p := by (with_reducible repeat (first | apply Kd.R_alloc | apply Kd.R_drewN | apply Kd.R_drew));exact HO_416003.out) : p := h
theorem Z189 (h : p := by (with_reducible repeat (first | apply Kd.R_alloc | apply Kd.R_drewN | apply Kd.R_drew));exact HO_401003.out) : p := h
theorem Z190 (h : p := by (with_reducible repeat (first | apply Kd.R_alloc | apply Kd.R_drewN | apply Kd.R_drew));exact HO_416000.out) : p := h
theorem Z191 (h : p := by (with_reducible repeat (first | apply Kd.R_alloc | apply Kd.R_drewN | apply Kd.R_drew));exact HO_401000.out) : p := h
theorem Z192 (h : p := by (with_reducible repeat (first | apply Kd.S_alloc | apply Kd.S_drewN | apply Kd.S_drew));exact HO_416002.out) : p := h
theorem Z193 (h : p := by (with_reducible repeat (first | apply Kd.S_alloc | apply Kd.S_drewN | apply Kd.S_drew));exact HO_401002.out) : p := h
theorem Z194 (h : p := by (with_reducible repeat (first | apply Kd.V_alloc | apply Kd.V_drewN | apply Kd.V_drew));exact HL336_0.out) : p := h
theorem Z195 (h : p := by (with_reducible repeat (first | apply Kd.R_alloc | apply Kd.R_drewN | apply Kd.R_drew));exact HO132.out) : p := h
theorem Z196 (h : p := by (with_reducible repeat (first | apply Kd.V_alloc | apply Kd.V_drewN | apply Kd.V_drew));exact HO341.out) : p := h
theorem Z197 (h : p := by (with_reducible repeat (first | apply Kd.R_alloc | apply Kd.R_drewN | apply Kd.R_drew));exact HO396.out) : p := h
theorem Z198 (h : p := by (with_reducible repeat (first | apply Kd.R_alloc | apply Kd.R_drewN | apply Kd.R_drew));exact HO389.out) : p := h
theorem Z199 (h : p := by (with_reducible repeat (first | apply Kd.R_alloc | apply Kd.R_drewN | apply Kd.R_drew));exact HO210.out) : p := h
theorem Z200 (h : p := by (with_reducible repeat (first | apply Kd.N_alloc | apply Kd.N_drewN | apply Kd.N_drew));exact HO326.out) : p := h
theorem Z201 (h : p := by (with_reducible repeat (first | apply Kd.S_alloc | apply Kd.S_drewN | apply Kd.S_drew));exact HO430.out) : p := h
theorem Z202 (h : p := by (with_reducible repeat (first | apply Kd.R_alloc | apply Kd.R_drewN | apply Kd.R_drew));exact HO433.out) : p := h
theorem Z203 (h : p := by (with_reducible repeat (first | apply Kd.R_alloc | apply Kd.R_drewN | apply Kd.R_drew));exact HO426.out) : p := h
theorem Z204 (h : p := by (with_reducible repeat (first | apply Kd.R_alloc | apply Kd.R_drewN | apply Kd.R_drew));exact HO411.out) : p := h
theorem Z205 (h : p := by (with_reducible repeat (first | apply Kd.R_alloc | apply Kd.R_drewN | apply Kd.R_drew));exact HO404.out) : p := h
theorem Z206 (h : p := by (with_reducible repeat (first | apply Kd.R_alloc | apply Kd.R_drewN | apply Kd.R_drew));exact HO176.out) : p := h
theorem Z207 (h : p := by (with_reducible repeat (first | apply Kd.S_alloc | apply Kd.S_drewN | apply Kd.S_drew));exact HO393.out) : p := h
theorem Z208 (h : p := by (with_reducible repeat (first | apply Kd.R_alloc | apply Kd.R_drewN | apply Kd.R_drew));exact HO344.out) : p := h
theorem Z209 (h : p := by (with_reducible repeat (first | apply Kd.R_alloc | apply Kd.R_drewN | apply Kd.R_drew));exact HO226.out) : p := h
theorem Z210 (h : p := by (with_reducible repeat (first | apply Kd.R_alloc | apply Kd.R_drewN | apply Kd.R_drew));exact HO103.out) : p := h
theorem Z211 (h : p := by (with_reducible repeat (first | apply Kd.R_alloc | apply Kd.R_drewN | apply Kd.R_drew));exact HO_0.out) : p := h
theorem Z212 (h : p := by (with_reducible repeat (first | apply Kd.S_alloc | apply Kd.S_drewN | apply Kd.S_drew));exact HO_0.out) : p := h
theorem Z213 (h : p := by (with_reducible repeat (first | apply Zn_alloc | apply Zn_drewN | apply Zn_drew));exact HO_336002.out) : p := h
theorem Z214 (h : p := by (with_reducible repeat (first | apply Kd.R_alloc | apply Kd.R_drewN | apply Kd.R_drew));exact HO0.out) : p := h
theorem Z215 (h : p := by (with_reducible repeat (first | apply Sc_alloc | apply Sc_drewN | apply Sc_drew));exact HO408.out) : p := h
theorem Z216 (h : p := by (with_reducible repeat (first | apply Sc_alloc | apply Sc_drewN | apply Sc_drew));exact HO393.out) : p := h
theorem Z217 (h : p := by (with_reducible repeat (first | apply Zn_alloc | apply Zn_drewN | apply Zn_drew));exact HO347.out) : p := h
theorem Z218 (h : p := by first | rfl | (simp [errW_none,errW_some] <;> rfl) | (simp [*,errW_none,errW_some] <;> rfl)) : p := h
theorem Z219 (h : p := by simp only [putAll,Act.put,List.setIfInBounds_toArray,List.set_cons_zero,List.set_cons_succ]) : p := h
theorem Z220 (h : p := by have := HK1.out;have := HJ10.out;have := HJ16.out;first | omega | exact Nat.le_refl _) : p := h
theorem Z221 (h : p := by have := HJ1.out;have := HJ6.out;have := HK3.out;first | omega | exact Nat.le_refl _) : p := h
theorem Z222 (h : p := by refine bP ?_;refine blk_far ?_ NB195_212.out _;refine bP ?_;exact BK195.out) : p := h
theorem Z223 (h : p := by refine bP ?_;refine blk_far ?_ NB188_212.out _;refine bP ?_;exact BK188.out) : p := h
theorem Z224 (h : p := by refine bP ?_;refine blk_far ?_ NB187_212.out _;refine bP ?_;exact BK187.out) : p := h
theorem Z225 (h : p := by have := HK1.out;have := HJ10.out;have := HJ16.out;have := HJ22.out;omega) : p := h
theorem Z226 (h : p := by have := HK1.out;have := HJ10.out;first | omega | exact Nat.le_refl _) : p := h
theorem Z227 (h : p := by have := HJ2.out;have := HK2.out;first | omega | exact Nat.le_refl _) : p := h
theorem Z228 (h : p := by have := HJ2.out;have := HJ6.out;first | omega | exact Nat.le_refl _) : p := h
theorem Z229 (h : p := by rw [hg];exact Nat.ne_of_lt (World.block_lt_of_cell? _ _ hHeld)) : p := h
theorem Z230 (h : p := by have hq := hc 0 _ rfl; rwa [Nat.mul_one, Nat.add_zero] at hq) : p := h
theorem Z231 (h : p := by repeat (first | exact Drawn0.refl _ | apply Drawn0.step)) : p := h
theorem Z232 (h : p := by rw [← hq_];exact Z332) : p := h
theorem Z233 (h : p := by rw [← hq_];exact Z331) : p := h
theorem Z234 (h : p := by rw [← hq_];exact Z352) : p := h
theorem Z235 (h : p := by have := HK1.out;first | omega | exact Nat.le_refl _) : p := h
theorem Z236 (h : p := by have := HJ2.out;first | omega | exact Nat.le_refl _) : p := h
theorem Z237 (h : p := by have := HJ1.out;first | omega | exact Nat.le_refl _) : p := h
theorem Z238 (h : p := by first | rfl | (simp;done) | (simp [*];done)) : p := h
theorem Z239 (h : p := by first | (go_simp;done) | (go_simp;rfl)) : p := h
theorem Z240 (h : p := by have := HK1.out;have := HK2.out;omega) : p := h
theorem Z241 (h : p := by first | omega | exact Nat.le_refl _) : p := h
theorem Z242 (h : p := by rw [data_length];exact HLS.out) : p := h
theorem Z243 (h : p := by exact fun _ h_ h2_ => h2_.2 h_) : p := h
theorem Z244 (h : p := by exact (fun _ _ => trivial)) : p := h
theorem Z245 (h : p := by rw [data_length];exact hlt) : p := h
theorem Z246 (h : p := by have := LMc19.out;omega) : p := h
theorem Z247 (h : p := by rw [data_length];omega) : p := h
theorem Z248 (h : p := by have := HK1.out;omega) : p := h
theorem Z249 (h : p := by exact (Reps.none _ _)) : p := h
theorem Z250 (h : p := by simp [Value.ownBlock]) : p := h
theorem Z251 (h : p := by dsimp only;omega) : p := h
theorem Z252 (h : p := by go_simp; rfl) : p := h
theorem Z253 (h : p := by kernel_rfl) : p := h
theorem Z254 (h : p := by omega) : p := h
theorem Z255 (h : p := by rfl) : p := h
theorem Z256 (h : p := by (with_reducible repeat (first | apply Kd.N_alloc | apply Kd.N_drewN | apply Kd.N_drew));exact Kd.N_mono (Kd.N_far (p := ⟨gb315,2,none⟩) (Kd.N_far (p := ⟨gb315,1,none⟩) (Kd.N_far (p := ⟨gb315,0,none⟩) (Kd.N_mono HO311.out (fun k_ hk => (⟨hk,hk.2⟩ : _ ∧ k_ ≠ gb315))) (fun _ hk => hk.2) (.int .i64 t312)) (fun _ hk => hk.2) (.int .i64 t313)) (fun _ hk => hk.2) (.int .i64 t314)) (fun _ hk => ⟨hk.1.1.1,⟨hk.1.1.2.1,⟨hk.1.1.2.2,hk.1.2⟩⟩⟩)) : p := h
theorem Z257 (h : p := by (with_reducible repeat (first | apply Kd.R_alloc | apply Kd.R_drewN | apply Kd.R_drew));exact Kd.R_mono (Kd.R_far (p := ⟨gb268,2,none⟩) (Kd.R_far (p := ⟨gb268,1,none⟩) (Kd.R_far (p := ⟨gb268,0,none⟩) (Kd.R_types HO_6.out BK268.out Z355) (fun _ hk => hk.2) (.int .i64 2)) (fun _ hk => hk.2) (.int .i64 (x5_1.length : Int))) (fun _ hk => hk.2) (.int .i64 (x6_1.length : Int))) (fun _ hk => trivial)) : p := h
theorem Z258 (h : p := by (with_reducible repeat (first | apply Kd.S_alloc | apply Kd.S_drewN | apply Kd.S_drew));exact Kd.S_mono (Kd.S_far (p := ⟨gb195,2,none⟩) (Kd.S_far (p := ⟨gb195,1,none⟩) (Kd.S_far (p := ⟨gb195,0,none⟩) (Kd.S_types HO191.out BK195.out Z355) (fun _ hk => hk.2) (.int .i64 t192)) (fun _ hk => hk.2) (.int .i64 t193)) (fun _ hk => hk.2) (.int .i64 t194)) (fun _ hk => trivial)) : p := h
theorem Z259 (h : p := by refine bP ?_;refine blk_put (cs := #[.int .i64 t312,.int .i64 t313,.int .i64 0]) ?_ 2 _ rfl;refine bP ?_;refine blk_put (cs := #[.int .i64 t312,.int .i64 0,.int .i64 0]) ?_ 1 _ rfl;refine bP ?_;refine blk_put (cs := #[.int .i64 0,.int .i64 0,.int .i64 0]) ?_ 0 _ rfl;refine bP ?_;exact BK315.out) : p := h
theorem Z260 (h : p := by refine bP ?_;refine blk_put (cs := #[.int .i64 t192,.int .i64 t193,.int .i64 0]) ?_ 2 _ rfl;refine bP ?_;refine blk_put (cs := #[.int .i64 t192,.int .i64 0,.int .i64 0]) ?_ 1 _ rfl;refine bP ?_;refine blk_put (cs := #[.int .i64 0,.int .i64 0,.int .i64 0]) ?_ 0 _ rfl;refine bP ?_;exact BK195.out) : p := h
theorem Z261 (h : p := by repeat (first | (with_reducible first | exact HB.out | apply below_alloc | apply pw_below_drewN | apply below_drew1 | refine below_set ?_ GE400.out | refine below_set ?_ GE401.out | refine below_set ?_ GE415.out | refine below_set ?_ GE416.out | refine below_set ?_ GE437.out) | exact HB.out)) : p := h
theorem Z262 (h : p := by repeat (first | (with_reducible first | exact HB.out | apply below_alloc | apply pw_below_drewN | apply below_drew1 | refine below_set ?_ GE307.out | refine below_set ?_ GE308.out | refine below_set ?_ GE315.out | refine below_set ?_ GE335.out) | exact HB.out)) : p := h
theorem Z263 (h : p := by repeat (first | (with_reducible first | exact HB.out | apply below_alloc | apply pw_below_drewN | apply below_drew1 | refine below_set ?_ GE187.out | refine below_set ?_ GE188.out | refine below_set ?_ GE195.out | refine below_set ?_ GE212.out) | exact HB.out)) : p := h
theorem Z264 (h : p := by repeat (first | (with_reducible first | exact HB.out | apply below_alloc | apply pw_below_drewN | apply below_drew1 | refine below_set ?_ GE400.out | refine below_set ?_ GE401.out | refine below_set ?_ GE415.out | refine below_set ?_ GE416.out) | exact HB.out)) : p := h
theorem Z265 (h : p := by repeat (first | (with_reducible first | exact HI254.out | apply IsS59.alloc | apply IsS59.drewN | apply IsS59.drew | apply IsS59.set_0 | apply IsS59.set_1 | refine IsS59.far ?_ NB254_253.out _ | refine IsS59.far ?_ NB254_268.out _) | exact HI254.out)) : p := h
theorem Z266 (h : p := by repeat (first | (with_reducible first | exact HB.out | apply below_alloc | apply pw_below_drewN | apply below_drew1 | refine below_set ?_ (IsS59.ge HI254.out) | refine below_set ?_ GE253.out | refine below_set ?_ GE268.out) | exact HB.out)) : p := h
theorem Z267 (h : p := by rw [hg];exact (below_size Z343)) : p := h
theorem Z268 (h : p := by repeat (first | (with_reducible first | exact HB.out | apply below_alloc | apply pw_below_drewN | apply below_drew1 | refine below_set ?_ GE307.out | refine below_set ?_ GE308.out | refine below_set ?_ GE315.out) | exact HB.out)) : p := h
theorem Z269 (h : p := by repeat (first | (with_reducible first | exact HB.out | apply below_alloc | apply pw_below_drewN | apply below_drew1 | refine below_set ?_ GE187.out | refine below_set ?_ GE188.out | refine below_set ?_ GE195.out) | exact HB.out)) : p := h
theorem Z270 (h : p := by repeat (first | (with_reducible first | exact HB.out | apply below_alloc | apply pw_below_drewN | apply below_drew1 | refine below_set ?_ GE400.out | refine below_set ?_ GE401.out | refine below_set ?_ GE415.out) | exact HB.out)) : p := h
theorem Z271 (h : p := by rw [hg];exact (below_size Z344)) : p := h
theorem Z272 (h : p := by rw [hg];exact (below_size Z345)) : p := h
theorem Z273 (h : p := by repeat (first | (with_reducible first | exact HI254.out | apply IsS59.alloc | apply IsS59.drewN | apply IsS59.drew | apply IsS59.set_0 | apply IsS59.set_1 | refine IsS59.far ?_ NB254_253.out _) | exact HI254.out)) : p := h
theorem Z274 (h : p := by repeat (first | (with_reducible first | exact HB.out | apply below_alloc | apply pw_below_drewN | apply below_drew1 | refine below_set ?_ GE113.out | refine below_set ?_ GE123.out) | exact HB.out)) : p := h
theorem Z275 (h : p := by repeat (first | (with_reducible first | exact HB.out | apply below_alloc | apply pw_below_drewN | apply below_drew1 | refine below_set ?_ GE365.out | refine below_set ?_ GE366.out) | exact HB.out)) : p := h
theorem Z276 (h : p := by repeat (first | (with_reducible first | exact HB.out | apply below_alloc | apply pw_below_drewN | apply below_drew1 | refine below_set ?_ GE400.out | refine below_set ?_ GE401.out) | exact HB.out)) : p := h
theorem Z277 (h : p := by rw [hg];exact (below_size Z347)) : p := h
theorem Z278 (h : p := by rw [hg];exact (below_size Z348)) : p := h
theorem Z279 (h : p := by rw [hg];exact (below_size Z349)) : p := h
theorem Z280 (h : p := by rw [hg];exact (below_size Z350)) : p := h
theorem Z281 (h : p := by rw [hg];exact (below_size Z346)) : p := h
theorem Z282 (h : p := by repeat (first | (with_reducible exact HR318_0.out) | (with_reducible refine Kd.C_alloc ?_ _) | (with_reducible refine Kd.C_drewN ?_ _) | (with_reducible refine Kd.C_drew ?_) | exact HR318_0.out)) : p := h
theorem Z283 (h : p := by repeat (first | (with_reducible exact HR217_0.out) | (with_reducible refine Kd.C_alloc ?_ _) | (with_reducible refine Kd.C_drewN ?_ _) | (with_reducible refine Kd.C_drew ?_) | exact HR217_0.out)) : p := h
theorem Z284 (h : p := by repeat (first | (with_reducible exact HR196_0.out) | (with_reducible refine Kd.C_alloc ?_ _) | (with_reducible refine Kd.C_drewN ?_ _) | (with_reducible refine Kd.C_drew ?_) | exact HR196_0.out)) : p := h
theorem Z285 (h : p := by repeat (first | (with_reducible exact HR207.out) | (with_reducible refine Kd.C_alloc ?_ _) | (with_reducible refine Kd.C_drewN ?_ _) | (with_reducible refine Kd.C_drew ?_) | exact HR207.out)) : p := h
theorem Z286 (h : p := by rw [hg];exact Nat.ne_of_lt (blk_lt (g := gb187) (o := .cells #[.slice none 0 0,.string (⟨#[]⟩ : ByteArray),.slice none 0 0,.slice none 0 0] 26 (0,0)) Z353)) : p := h
theorem Z287 (h : p := by rw [hg];exact Nat.ne_of_gt (blk_lt (g := gb187) (o := .cells #[.slice none 0 0,.string (⟨#[]⟩ : ByteArray),.slice none 0 0,.slice none 0 0] 26 (0,0)) Z353)) : p := h
theorem Z288 (h : p := by rw [hg];exact Nat.ne_of_lt (blk_lt (g := gb307) (o := .cells #[.slice none 0 0,.string (⟨#[]⟩ : ByteArray),.slice none 0 0,.slice none 0 0] 26 (0,0)) Z352)) : p := h
theorem Z289 (h : p := by rw [hg];exact Nat.ne_of_gt (blk_lt (g := gb307) (o := .cells #[.slice none 0 0,.string (⟨#[]⟩ : ByteArray),.slice none 0 0,.slice none 0 0] 26 (0,0)) Z352)) : p := h
theorem Z290 (h : p := by refine bP ?_;refine blk_far ?_ NB308_315.out _;refine bP ?_;refine blk_far ?_ NB308_315.out _;refine bP ?_;refine blk_far ?_ NB308_315.out _;refine bP ?_;exact BK308.out) : p := h
theorem Z291 (h : p := by refine bP ?_;refine blk_far ?_ NB307_315.out _;refine bP ?_;refine blk_far ?_ NB307_315.out _;refine bP ?_;refine blk_far ?_ NB307_315.out _;refine bP ?_;exact BK307.out) : p := h
theorem Z292 (h : p := by refine bP ?_;refine blk_far ?_ NB188_195.out _;refine bP ?_;refine blk_far ?_ NB188_195.out _;refine bP ?_;refine blk_far ?_ NB188_195.out _;refine bP ?_;exact BK188.out) : p := h
theorem Z293 (h : p := by refine bP ?_;refine blk_far ?_ NB187_195.out _;refine bP ?_;refine blk_far ?_ NB187_195.out _;refine bP ?_;refine blk_far ?_ NB187_195.out _;refine bP ?_;exact BK187.out) : p := h
theorem Z294 (h : p := by rw [hg];exact (below_size Z351)) : p := h
theorem Z295 (h : p := by repeat (first | (with_reducible first | exact HB.out | apply below_alloc | apply pw_below_drewN | apply below_drew1 | refine below_set ?_ GE286.out) | exact HB.out)) : p := h
theorem Z296 (h : p := by repeat (first | (with_reducible first | exact HB.out | apply below_alloc | apply pw_below_drewN | apply below_drew1 | refine below_set ?_ GE146.out) | exact HB.out)) : p := h
theorem Z297 (h : p := by repeat (first | (with_reducible first | exact HB.out | apply below_alloc | apply pw_below_drewN | apply below_drew1 | refine below_set ?_ GE383.out) | exact HB.out)) : p := h
theorem Z298 (h : p := by repeat (first | (with_reducible first | exact HB.out | apply below_alloc | apply pw_below_drewN | apply below_drew1 | refine below_set ?_ GE253.out) | exact HB.out)) : p := h
theorem Z299 (h : p := by repeat (first | (with_reducible first | exact HB.out | apply below_alloc | apply pw_below_drewN | apply below_drew1 | refine below_set ?_ GE400.out) | exact HB.out)) : p := h
theorem Z300 (h : p := by repeat (first | (with_reducible first | exact HK.out | apply KeepBut.set_ | apply keep_drewN | apply keep_drew | apply keep_alloc) | exact HK.out)) : p := h
theorem Z301 (h : p := by rw [hg];exact Nat.ne_of_lt (blk_lt (g := gb188) (o := .cells #[.int .i64 0,.int .i64 0,.int .i64 0] 28 (0,0)) Z354)) : p := h
theorem Z302 (h : p := by rw [hg];exact Nat.ne_of_gt (blk_lt (g := gb188) (o := .cells #[.int .i64 0,.int .i64 0,.int .i64 0] 28 (0,0)) Z354)) : p := h
theorem Z303 (h : p := by (with_reducible repeat (first | refine blk_drewN ?_ _ | refine blk_drew ?_ | refine blk_alloc ?_ _));exact BK400.out) : p := h
theorem Z304 (h : p := by (with_reducible repeat (first | refine blk_drewN ?_ _ | refine blk_drew ?_ | refine blk_alloc ?_ _));exact BK415.out) : p := h
theorem Z305 (h : p := by (with_reducible repeat (first | refine blk_drewN ?_ _ | refine blk_drew ?_ | refine blk_alloc ?_ _));exact BK401.out) : p := h
theorem Z306 (h : p := by (with_reducible repeat (first | refine blk_drewN ?_ _ | refine blk_drew ?_ | refine blk_alloc ?_ _));exact BK416.out) : p := h
theorem Z307 (h : p := by (with_reducible repeat (first | apply Kd.R_alloc | apply Kd.R_drewN | apply Kd.R_drew));exact HO_336003.out) : p := h
theorem Z308 (h : p := by (with_reducible repeat (first | apply Kd.R_alloc | apply Kd.R_drewN | apply Kd.R_drew));exact HO_336000.out) : p := h
theorem Z309 (h : p := by (with_reducible repeat (first | apply Kd.R_alloc | apply Kd.R_drewN | apply Kd.R_drew));exact HO_213003.out) : p := h
theorem Z310 (h : p := by (with_reducible repeat (first | apply Kd.S_alloc | apply Kd.S_drewN | apply Kd.S_drew));exact HO_213002.out) : p := h
theorem Z311 (h : p := by (with_reducible repeat (first | apply Kd.R_alloc | apply Kd.R_drewN | apply Kd.R_drew));exact HO_213000.out) : p := h
theorem Z312 (h : p := by (with_reducible repeat (first | apply Kd.R_alloc | apply Kd.R_drewN | apply Kd.R_drew));exact HL196_0.out) : p := h
theorem Z313 (h : p := by (with_reducible repeat (first | apply Kd.V_alloc | apply Kd.V_drewN | apply Kd.V_drew));exact HR316_0.out) : p := h
theorem Z314 (h : p := by (with_reducible repeat (first | apply Kd.R_alloc | apply Kd.R_drewN | apply Kd.R_drew));exact HL217_0.out) : p := h
theorem Z315 (h : p := by (with_reducible repeat (first | apply Kd.N_alloc | apply Kd.N_drewN | apply Kd.N_drew));exact HO_96.out) : p := h
theorem Z316 (h : p := by (with_reducible repeat (first | apply Kd.R_alloc | apply Kd.R_drewN | apply Kd.R_drew));exact HO_10.out) : p := h
theorem Z317 (h : p := by (with_reducible repeat (first | apply Kd.R_alloc | apply Kd.R_drewN | apply Kd.R_drew));exact HO354.out) : p := h
theorem Z318 (h : p := by (with_reducible repeat (first | apply Kd.S_alloc | apply Kd.S_drewN | apply Kd.S_drew));exact HO191.out) : p := h
theorem Z319 (h : p := by (with_reducible repeat (first | apply Kd.N_alloc | apply Kd.N_drewN | apply Kd.N_drew));exact HO311.out) : p := h
theorem Z320 (h : p := by (with_reducible repeat (first | apply Kd.R_alloc | apply Kd.R_drewN | apply Kd.R_drew));exact HO271.out) : p := h
theorem Z321 (h : p := by (with_reducible repeat (first | apply Kd.S_alloc | apply Kd.S_drewN | apply Kd.S_drew));exact HO_4.out) : p := h
theorem Z322 (h : p := by (with_reducible repeat (first | apply Kd.R_alloc | apply Kd.R_drewN | apply Kd.R_drew));exact HO_6.out) : p := h
theorem Z323 (h : p := by (with_reducible repeat (first | apply Kd.S_alloc | apply Kd.S_drewN | apply Kd.S_drew));exact HO_5.out) : p := h
theorem Z324 (h : p := by (with_reducible repeat (first | apply Kd.N_alloc | apply Kd.N_drewN | apply Kd.N_drew));exact HO_4.out) : p := h
theorem Z325 (h : p := by (with_reducible repeat (first | apply Kd.R_alloc | apply Kd.R_drewN | apply Kd.R_drew));exact HO_7.out) : p := h
theorem Z326 (h : p := by (with_reducible repeat (first | apply Kd.R_alloc | apply Kd.R_drewN | apply Kd.R_drew));exact HO_5.out) : p := h
theorem Z327 (h : p := by (with_reducible repeat (first | apply Kd.S_alloc | apply Kd.S_drewN | apply Kd.S_drew));exact HO_6.out) : p := h
theorem Z328 (h : p := by (with_reducible repeat (first | apply Kd.R_alloc | apply Kd.R_drewN | apply Kd.R_drew));exact HO_9.out) : p := h
theorem Z329 (h : p := by (try simp only [List.map_toArray,List.map_cons,List.map_nil]);first | done | rfl) : p := h
theorem Z330 (h : p := by first | (with_reducible assumption) | assumption) : p := h
theorem Z331 (h : p := by refine bP ?_;exact BK308.out) : p := h
theorem Z332 (h : p := by refine bP ?_;exact BK315.out) : p := h
theorem Z333 (h : p := by refine bP ?_;exact BK335.out) : p := h
theorem Z334 (h : p := by refine bP ?_;exact BK195.out) : p := h
theorem Z335 (h : p := by refine bP ?_;exact BK253.out) : p := h
theorem Z336 (h : p := by refine bP ?_;exact BK113.out) : p := h
theorem Z337 (h : p := by refine bP ?_;exact BK212.out) : p := h
theorem Z338 (h : p := by refine bP ?_;exact BK286.out) : p := h
theorem Z339 (h : p := by refine bP ?_;exact BK123.out) : p := h
theorem Z340 (h : p := by refine bP ?_;exact BK370.out) : p := h
theorem Z341 (h : p := by refine bP ?_;exact BK365.out) : p := h
theorem Z342 (h : p := by simp) : p := h
theorem Z343 (h : p := by repeat (first | (with_reducible first | exact HB.out | apply below_alloc | apply pw_below_drewN | apply below_drew1 | refine below_set ?_ (IsS59.ge HI254.out) | refine below_set ?_ GE253.out) | exact HB.out)) : p := h
theorem Z344 (h : p := by repeat (first | (with_reducible first | exact HB.out | apply below_alloc | apply pw_below_drewN | apply below_drew1 | refine below_set ?_ GE307.out | refine below_set ?_ GE308.out) | exact HB.out)) : p := h
theorem Z345 (h : p := by repeat (first | (with_reducible first | exact HB.out | apply below_alloc | apply pw_below_drewN | apply below_drew1 | refine below_set ?_ GE187.out | refine below_set ?_ GE188.out) | exact HB.out)) : p := h
theorem Z346 (h : p := by repeat (first | (with_reducible first | exact HB.out | apply below_alloc | apply pw_below_drewN | apply below_drew1 | refine below_set ?_ GE113.out) | exact HB.out)) : p := h
theorem Z347 (h : p := by repeat (first | (with_reducible first | exact HB.out | apply below_alloc | apply pw_below_drewN | apply below_drew1 | refine below_set ?_ GE370.out) | exact HB.out)) : p := h
theorem Z348 (h : p := by repeat (first | (with_reducible first | exact HB.out | apply below_alloc | apply pw_below_drewN | apply below_drew1 | refine below_set ?_ GE365.out) | exact HB.out)) : p := h
theorem Z349 (h : p := by repeat (first | (with_reducible first | exact HB.out | apply below_alloc | apply pw_below_drewN | apply below_drew1 | refine below_set ?_ GE307.out) | exact HB.out)) : p := h
theorem Z350 (h : p := by repeat (first | (with_reducible first | exact HB.out | apply below_alloc | apply pw_below_drewN | apply below_drew1 | refine below_set ?_ GE187.out) | exact HB.out)) : p := h
theorem Z351 (h : p := by repeat (first | (with_reducible first | exact HB.out | apply below_alloc | apply pw_below_drewN | apply below_drew1) | exact HB.out)) : p := h
theorem Z352 (h : p := by refine bP ?_;exact BK307.out) : p := h
theorem Z353 (h : p := by refine bP ?_;exact BK187.out) : p := h
theorem Z354 (h : p := by refine bP ?_;exact BK188.out) : p := h
theorem Z355 (h : p := by decide) : p := h
end



def errW : Option Int → Value
 | none => .nilIface
 | some c => .iface 0 (.int .i64 c)
theorem errW_none : errW none = .nilIface := rfl
theorem errW_some (c : Int) : errW (some c) = .iface 0 (.int .i64 c) := rfl

theorem info3 : (Tryd.prog.info? 3).map (fun i => (i.zero, i.size, i.bytes)) = some (some (.int .i64 0), 1, 8) := by kernel_rfl
theorem info5 : (Tryd.prog.info? 5).map (fun i => (i.zero, i.size, i.bytes)) = some (some (.int .u8 0), 1, 1) := by kernel_rfl
theorem info9 : (Tryd.prog.info? 9).map (fun i => (i.zero, i.size, i.bytes)) = some (some (.string ⟨#[]⟩), 1, 16) := by kernel_rfl
theorem info22 : (Tryd.prog.info? 22).map (fun i => (i.zero, i.size, i.bytes)) = some (some (.slice none 0 0), 1, 24) := by kernel_rfl
theorem info24 : (Tryd.prog.info? 24).map (fun i => (i.zero, i.size, i.bytes)) = some (some (.slice none 0 0), 1, 24) := by kernel_rfl
-- the values' own types
def rd_L2 (xs : List (List ByteArray)) (i : Int) : (List ByteArray) := xs.getD i.toNat ([] : List ByteArray)
theorem at_L2 {w : World} {A : Option Addr} {n : Nat} {xs : List (List ByteArray)} (h : Kd.C (Kd.slice 9 Kd.string) w A n xs) (i : Int) (h0 : 0 ≤ i) (h1 : i < n) : ∃ ad A0 c0, A = some ad ∧ w.cell? (ad.add i.toNat) = some (.slice A0 (rd_L2 xs i).length c0) ∧ (rd_L2 xs i).length ≤ c0 ∧ Kd.string.C w A0 (rd_L2 xs i).length (rd_L2 xs i) := by
 obtain ⟨ad, c, e, _, hK, hc0⟩ := Kd.C_get h ([] : List ByteArray) i h0 h1
 have hc : ∀ j u, c[j]? = some u → w.cell? (ad.add (i.toNat * 1 + j)) = some u := hc0
 obtain ⟨A0, c0, rfl, l0, g0⟩ := hK
 exact ⟨ad, A0, c0, e, Z230, l0, g0⟩

def rd_L4 (xs : List (List Int)) (i : Int) : (List Int) := xs.getD i.toNat ([] : List Int)
theorem at_L4 {w : World} {A : Option Addr} {n : Nat} {xs : List (List Int)} (h : Kd.C (Kd.slice 3 (Kd.int .i64)) w A n xs) (i : Int) (h0 : 0 ≤ i) (h1 : i < n) : ∃ ad A0 c0, A = some ad ∧ w.cell? (ad.add i.toNat) = some (.slice A0 (rd_L4 xs i).length c0) ∧ (rd_L4 xs i).length ≤ c0 ∧ (Kd.int .i64).C w A0 (rd_L4 xs i).length (rd_L4 xs i) := by
 obtain ⟨ad, c, e, _, hK, hc0⟩ := Kd.C_get h ([] : List Int) i h0 h1
 have hc : ∀ j u, c[j]? = some u → w.cell? (ad.add (i.toNat * 1 + j)) = some u := hc0
 obtain ⟨A0, c0, rfl, l0, g0⟩ := hK
 exact ⟨ad, A0, c0, e, Z230, l0, g0⟩

theorem bA {w : World} {g : Nat} {o : Obj} (h : w.heap[g]? = some o) (n : Nat) : (w.drewN n).heap[g]? = some o := blk_drewN h n
theorem bB {w : World} {g : Nat} {o : Obj} (h : w.heap[g]? = some o) : w.drew.heap[g]? = some o := blk_drew h
theorem bC {w : World} {g : Nat} {o : Obj} (h : w.heap[g]? = some o) (o' : Obj) : (w.alloc o').heap[g]? = some o := blk_alloc h o'
theorem bP {p q : Prop} (x : q) (h : q → p := by (intro h_; (with_reducible repeat (first | refine bA ?_ _ | refine bB ?_ | refine bC ?_ _)); exact h_)) : p := h x
theorem take_at_ {α : Type} {P : Program} {f : Nat} {A : Option Addr} {c : Nat} {v : Value} {w : World} {Q : Ending → World → Prop} {xs : List α} {j : Int} (h0 : 0 ≤ j) (hm : j ≤ (xs.length : Int)) (g : Calls P f #[.slice A (xs.take j.toNat).length c,v] w Q) : Calls P f #[.slice A j.toNat c,v] w Q := by
 have h : (xs.take j.toNat).length = j.toNat := by rw [List.length_take]; omega
 rwa [h] at g
end Go.Proofs.YtepnbcdbagjmbaaDoor.QFnExactReadTable
