/- The machine side of FnColumn: what each Go function that it reaches comes to. Conditions: none. -/
import Derived.Test.YtiacoiiapmfaeaaProg
import Derived.Below
import Derived.Deep.Draws
import Derived.Deep.AppendLies
import Derived.Maps.AppendAt
import Derived.OwnWalk
import Derived.Laws.BytesArg
import Derived.Laws.MakeOwn
import Derived.Laws.OwnMore
import Derived.Deep.OwnRows
import Derived.Tactics
import Derived.Lib.ConvBytes
import Derived.Laws.Slices
import Derived.WalkKit
import Derived.KernelRfl
import Derived.RowKit3
import Derived.Deep.LoopGhost
import Derived.Deep.QuietTactic
import Derived.BigQuiet
import Derived.WideLaws
import Derived.Deep.DeepCutAuto
import Derived.Deep.CutBlock
import Derived.Deep.RegionHeld3
import Derived.Laws.Rows
import Derived.Lib.AppendStr
import Derived.ArgAppend
import Derived.Laws.IdiomCopy
import Derived.OrdersHeld
import Derived.Laws.BitsLemmas
import Derived.RowKit
import Derived.Laws.Externs
import Derived.Test.YtiacoiiapmfaeaaShelf
import Derived.Test.YtiacoiiapmfaeaaWWords
import Derived.Test.YtiacoiiapmfaeaaWLast
import Derived.Test.YtiacoiiapmfaeaaWTab
import Derived.Test.YtiacoiiapmfaeaaWFour
import Derived.Test.YtiacoiiapmfaeaaWQPut
import Derived.Test.YtiacoiiapmfaeaaWApart
import Derived.Test.YtiacoiiapmfaeaaWArr
import Derived.Test.YtiacoiiapmfaeaaWZeros
import Derived.Test.YtiacoiiapmfaeaaWFoot
import Derived.Test.YtiacoiiapmfaeaaWKept
import Derived.Test.YtiacoiiapmfaeaaWShare
import Derived.Test.YtiacoiiapmfaeaaWN
import Derived.Test.YtiacoiiapmfaeaaWFootNe
import Derived.Test.YtiacoiiapmfaeaaWAt
import Derived.Test.YtiacoiiapmfaeaaWEqStruct
import Derived.Test.YtiacoiiapmfaeaaWRepsOne
import Derived.Test.YtiacoiiapmfaeaaWInv
import Derived.Test.YtiacoiiapmfaeaaWInvWords
import Derived.Test.YtiacoiiapmfaeaaWGuard
import Derived.Test.YtiacoiiapmfaeaaWNEv
import Derived.Test.YtiacoiiapmfaeaaWMore
namespace Go.Proofs.Ytiacoiiapmfaeaa.QFnColumn
open Go.RowKit Go.Proofs.YtiacoiiapmfaeaaW.PrintWords Go.Proofs.YtiacoiiapmfaeaaW.PrintLast Go.Proofs.YtiacoiiapmfaeaaW.PrintMore
attribute [local go_sem] max2_int min2_int max_two min_two max_three min_three max_four min_four   -- for this text's walks alone
set_option linter.unusedVariables false
set_option linter.unusedSimpArgs false



def errW : Option Int → Value
 | none => .nilIface
 | some c => .iface 0 (.int .i64 c)
theorem errW_none : errW none = .nilIface := rfl
theorem errW_some (c : Int) : errW (some c) = .iface 0 (.int .i64 c) := rfl

theorem info3 : (Try.prog.info? 3).map (fun i => (i.zero, i.size, i.bytes)) = some (some (.int .i64 0), 1, 8) := by kernel_rfl
theorem info9 : (Try.prog.info? 9).map (fun i => (i.zero, i.size, i.bytes)) = some (some (.string ⟨#[]⟩), 1, 16) := by kernel_rfl
theorem info34 : (Try.prog.info? 34).map (fun i => (i.zero, i.size, i.bytes)) = some (some (.slice none 0 0), 1, 24) := by kernel_rfl
-- the values' own types
def rd_L3 (xs : List (List Int)) (i : Int) : (List Int) := xs.getD i.toNat ([] : List Int)
theorem at_L3 {w : World} {A : Option Addr} {n : Nat} {xs : List (List Int)} (h : Kd.C (Kd.slice 3 (Kd.int .i64)) w A n xs) (i : Int) (h0 : 0 ≤ i) (h1 : i < n) : ∃ ad A0 c0, A = some ad ∧ w.cell? (ad.add i.toNat) = some (.slice A0 (rd_L3 xs i).length c0) ∧ (rd_L3 xs i).length ≤ c0 ∧ (Kd.int .i64).C w A0 (rd_L3 xs i).length (rd_L3 xs i) := by
 obtain ⟨ad, c, e, _, hK, hc0⟩ := Kd.C_get h ([] : List Int) i h0 h1
 have hc : ∀ j u, c[j]? = some u → w.cell? (ad.add (i.toNat * 1 + j)) = some u := hc0
 obtain ⟨A0, c0, rfl, l0, g0⟩ := hK
 exact ⟨ad, A0, c0, e, by have hq := hc 0 _ rfl; rwa [Nat.mul_one, Nat.add_zero] at hq, l0, g0⟩

theorem bA {w : World} {g : Nat} {o : Obj} (h : w.heap[g]? = some o) (n : Nat) : (w.drewN n).heap[g]? = some o := blk_drewN h n
theorem bB {w : World} {g : Nat} {o : Obj} (h : w.heap[g]? = some o) : w.drew.heap[g]? = some o := blk_drew h
theorem bC {w : World} {g : Nat} {o : Obj} (h : w.heap[g]? = some o) (o' : Obj) : (w.alloc o').heap[g]? = some o := blk_alloc h o'
theorem bP {p q : Prop} (x : q) (h : q → p := by (intro h_; (with_reducible repeat (first | refine bA ?_ _ | refine bB ?_ | refine bC ?_ _)); exact h_)) : p := h x
theorem jA {a b : Prop} (x : a) (y : b) : Aside0 a ∧ b := ⟨.mk x, y⟩
theorem jB {a b : Prop} (x : a) (y : b) : a ∧ b := ⟨x, y⟩
theorem cells4 {w : World} {g : Nat} {t : TypeId} {a0 a1 a2 a3 : Value} (h : w.heap[g]? = some (.cells #[a0,a1,a2,a3] t (0,0))) : w.cell? ⟨g,0,none⟩ = some a0 ∧ w.cell? ⟨g,1,none⟩ = some a1 ∧ w.cell? ⟨g,2,none⟩ = some a2 ∧ w.cell? ⟨g,3,none⟩ = some a3 ∧ w.frozen? ⟨g,0,none⟩ = false ∧ w.frozen? ⟨g,1,none⟩ = false ∧ w.frozen? ⟨g,2,none⟩ = false ∧ w.frozen? ⟨g,3,none⟩ = false := ⟨(blk_cell h 0).trans rfl,(blk_cell h 1).trans rfl,(blk_cell h 2).trans rfl,(blk_cell h 3).trans rfl,blk_frozen h 0,blk_frozen h 1,blk_frozen h 2,blk_frozen h 3⟩
theorem bE {P : Program} {ops : Array Oper} {Q : Exit → Act → World → Prop} {rest : List Oper} {o : Oper} {a : Act} {W : World} (N : Tmp) (cs : Array Value) (t : TypeId) (hgd : o.guard = none := by rfl) (hd : o.dst = some N := by rfl)
    (hrun : (execOp a.eval o).run P W = .ok (.value (.pointer (some ⟨W.heap.size, 0, none⟩))) (W.alloc (.cells cs t (0, 0))) := by first | (go_simp; done) | (go_simp; rfl))
    (h : ∀ g, g = W.heap.size → ∀ w1, w1.heap[g]? = some (.cells cs t (0, 0)) → Below W.heap.size W w1 → wpList P ops Q rest (a.put o.dst (.pointer (some ⟨g, 0, none⟩))) w1) : wpList P ops Q (o :: rest) a W := box_event hgd hd hrun h
variable {p : Prop}
theorem Z1 (h : p := by exact jA (KeepBut.blk hk (g' := gb234) (o := .cells #[.slice none 0 0,.string (⟨#[]⟩ : ByteArray),.slice none 0 0,.slice none 0 0] 36 (0,0)) Z111 NB234_0.out Z150) (jA (Kd.R_mono (Kd.R_keep (IsS100.apart (show IsS100 w0 _ g s0_0 t245 t246 from Z107) (by (with_reducible repeat (first | apply Kd.R_alloc | apply Kd.R_drewN | apply Kd.R_drew));exact (Kd.R_mono (Kd.R_far (p := ⟨gb247,3,none⟩) (Kd.R_far (p := ⟨gb247,2,none⟩) (Kd.R_far (p := ⟨gb247,1,none⟩) (Kd.R_far (p := ⟨gb247,0,none⟩) (Kd.R_types HO237.out BK247.out Z154) (fun _ hk => hk.2) (.slice Aoq10 t235.length coq10)) (fun _ hk => hk.2) (.string t238)) (fun _ hk => hk.2) (.slice Aoq14 t239.length coq14)) (fun _ hk => hk.2) (.slice Aoq15 t242.length coq15)) (fun _ h_ => h_.1))) Z154) hk (fun _ h => h.2)) (fun _ h => h.1)) (jA (Kd.S_mono (Kd.S_keep (IsS100.apartS (show IsS100 w0 _ g s0_0 t245 t246 from Z107) (by (with_reducible repeat (first | apply Kd.S_alloc | apply Kd.S_drewN | apply Kd.S_drew));exact (Kd.S_mono (Kd.S_far (p := ⟨gb247,3,none⟩) (Kd.S_far (p := ⟨gb247,2,none⟩) (Kd.S_far (p := ⟨gb247,1,none⟩) (Kd.S_far (p := ⟨gb247,0,none⟩) (Kd.S_types HO241.out BK247.out Z154) (fun _ hk => hk.2) (.slice Aoq10 t235.length coq10)) (fun _ hk => hk.2) (.string t238)) (fun _ hk => hk.2) (.slice Aoq14 t239.length coq14)) (fun _ hk => hk.2) (.slice Aoq15 t242.length coq15)) (fun _ h_ => h_.1))) Z154) hk (fun _ h => h.2)) (fun _ h => h.1)) (jA (Kd.R_mono (Kd.R_keep (IsS100.apart (show IsS100 w0 _ g s0_0 t245 t246 from Z107) (by (with_reducible repeat (first | apply Kd.R_alloc | apply Kd.R_drewN | apply Kd.R_drew));exact (Kd.R_mono (Kd.R_far (p := ⟨gb247,3,none⟩) (Kd.R_far (p := ⟨gb247,2,none⟩) (Kd.R_far (p := ⟨gb247,1,none⟩) (Kd.R_far (p := ⟨gb247,0,none⟩) (Kd.R_types HO244.out BK247.out Z154) (fun _ hk => hk.2) (.slice Aoq10 t235.length coq10)) (fun _ hk => hk.2) (.string t238)) (fun _ hk => hk.2) (.slice Aoq14 t239.length coq14)) (fun _ hk => hk.2) (.slice Aoq15 t242.length coq15)) (fun _ h_ => h_.1))) Z154) hk (fun _ h => h.2)) (fun _ h => h.1)) (jA (KeepBut.blk hk (g' := gb247) (o := .cells #[.slice Aoq10 t235.length coq10,.string t238,.slice Aoq14 t239.length coq14,.slice Aoq15 t242.length coq15] 36 (0,0)) (by refine bP ?_;refine blk_put (cs := #[.slice Aoq10 t235.length coq10,.string t238,.slice Aoq14 t239.length coq14,.slice none 0 0]) ?_ 3 _ rfl;refine bP ?_;refine blk_put (cs := #[.slice Aoq10 t235.length coq10,.string t238,.slice none 0 0,.slice none 0 0]) ?_ 2 _ rfl;refine bP ?_;refine blk_put (cs := #[.slice Aoq10 t235.length coq10,.string (⟨#[]⟩ : ByteArray),.slice none 0 0,.slice none 0 0]) ?_ 1 _ rfl;refine bP ?_;refine blk_put (cs := #[.slice none 0 0,.string (⟨#[]⟩ : ByteArray),.slice none 0 0,.slice none 0 0]) ?_ 0 _ rfl;refine bP ?_;exact BK247.out) NB247_0.out Z150) (jA (KeepBut.trans Z112 hk (.inl rfl)) (jA (hb) (Aside0.mk (hi))))))))) : p := h
theorem Z2 (h : p := by exact jA (Kd.R_below Z106 hb) (jA (Kd.S_elder' Z105 (Kd.R_base ho0) hb) (jA (Kd.R_elder' Z104 (Kd.R_base ho0) hb) (jA (Kd.R_lower (Kd.R_new' ho0 (Kd.R_lt Z104)) (below_size Z122)) (jA (blk_below (g := gb394) (o := .cells #[.slice Ao11 t383.length co11,.string t386,.slice Ao13 t387.length co13,.slice Ao14 t390.length co14] 36 (0,0)) (by refine bP ?_;refine blk_put (cs := #[.slice Ao11 t383.length co11,.string t386,.slice Ao13 t387.length co13,.slice none 0 0]) ?_ 3 _ rfl;refine bP ?_;refine blk_put (cs := #[.slice Ao11 t383.length co11,.string t386,.slice none 0 0,.slice none 0 0]) ?_ 2 _ rfl;refine bP ?_;refine blk_put (cs := #[.slice Ao11 t383.length co11,.string (⟨#[]⟩ : ByteArray),.slice none 0 0,.slice none 0 0]) ?_ 1 _ rfl;refine bP ?_;refine blk_put (cs := #[.slice none 0 0,.string (⟨#[]⟩ : ByteArray),.slice none 0 0,.slice none 0 0]) ?_ 0 _ rfl;refine bP ?_;exact BK394.out) hb) (Aside0.mk (below_step Z122 hb))))))) : p := h
theorem Z3 (h : p := by exact jA (Kd.R_below Z134 hb) (jA (Kd.S_below Z135 hb) (jA (Kd.R_below Z133 hb) (jA (IsS100.below Z114 hb) (jA (blk_below (g := gb234) (o := .cells #[.slice none 0 0,.string (⟨#[]⟩ : ByteArray),.slice none 0 0,.slice none 0 0] 36 (0,0)) Z142 hb) (jA (KeepBut.trans Z151 (KeepBut.of_below hb g none) (.inl rfl)) (jA (below_step Z116 hb) (jA (hbox) (jA ((Z109 : w.heap.size ≤ gb247)) (jA ((Nat.le_trans HW0.out (Z109 : w.heap.size ≤ gb247) : w0.heap.size ≤ gb247)) (jA ((by rw [hg];exact Nat.ne_of_lt (blk_lt (g := gb234) (o := .cells #[.slice none 0 0,.string (⟨#[]⟩ : ByteArray),.slice none 0 0,.slice none 0 0] 36 (0,0)) Z142) : gb234 ≠ gb247)) (jA ((by rw [hg];exact Nat.ne_of_gt (blk_lt (g := gb234) (o := .cells #[.slice none 0 0,.string (⟨#[]⟩ : ByteArray),.slice none 0 0,.slice none 0 0] 36 (0,0)) Z142) : gb247 ≠ gb234)) (jA ((by rw [hg];exact Nat.ne_of_lt (IsS100.lt (show IsS100 w0 _ g s0_0 t245 t246 from Z114)) : g ≠ gb247)) (Aside0.mk ((by rw [hg];exact Nat.ne_of_gt (IsS100.lt (show IsS100 w0 _ g s0_0 t245 t246 from Z114)) : gb247 ≠ g)))))))))))))))) : p := h
theorem Z4 (h : p := by exact jA (Kd.R_mono (Kd.R_keep (IsS100.apart (show IsS100 w0 _ g s0_0 x1001_3 x1002_3 from Z108) Z141 Z154) hk (fun _ h => h.2)) (fun _ h => h.1)) (jA (Kd.R_mono (Kd.R_keep (IsS100.apart (show IsS100 w0 _ g s0_0 x1001_3 x1002_3 from Z108) Z127 Z154) hk (fun _ h => h.2)) (fun _ h => h.1)) (jA (Kd.S_mono (Kd.S_keep (IsS100.apartS (show IsS100 w0 _ g s0_0 x1001_3 x1002_3 from Z108) Z129 Z154) hk (fun _ h => h.2)) (fun _ h => h.1)) (jA (Kd.R_mono (Kd.R_keep (IsS100.apart (show IsS100 w0 _ g s0_0 x1001_3 x1002_3 from Z108) Z128 Z154) hk (fun _ h => h.2)) (fun _ h => h.1)) (jA (KeepBut.blk hk (g' := gb145) (o := .cells #[.slice none 0 0,.string (⟨#[]⟩ : ByteArray),.slice none 0 0,.slice none 0 0] 36 (0,0)) Z143 NB145_0.out Z150) (jA (KeepBut.blk hk (g' := gb162) (o := .cells #[.slice Ao19 y159.length co19,.string (⟨#[121]⟩ : ByteArray),u163002,u163003] 36 (0,0)) Z145 NB162_0.out Z150) (jA (KeepBut.trans Z113 hk (.inl rfl)) (jA (hb) (Aside0.mk (hi)))))))))) : p := h
theorem Z5 (h : p := by exact jA (KeepBut.blk hk (g' := gb234) (o := .cells #[.slice none 0 0,.string (⟨#[]⟩ : ByteArray),.slice none 0 0,.slice none 0 0] 36 (0,0)) Z142 NB234_0.out Z150) (jA (Kd.R_mono (Kd.R_keep (IsS100.apart (show IsS100 w0 _ g s0_0 t249 t250 from Z107) Z134 Z154) hk (fun _ h => h.2)) (fun _ h => h.1)) (jA (Kd.S_mono (Kd.S_keep (IsS100.apartS (show IsS100 w0 _ g s0_0 t249 t250 from Z107) Z135 Z154) hk (fun _ h => h.2)) (fun _ h => h.1)) (jA (Kd.R_mono (Kd.R_keep (IsS100.apart (show IsS100 w0 _ g s0_0 t249 t250 from Z107) Z133 Z154) hk (fun _ h => h.2)) (fun _ h => h.1)) (jA (KeepBut.blk hk (g' := gb247) (o := .cells #[.slice Aoq10 t235.length coq10,.string t238,.slice Aoq14 t239.length coq14,.slice Aoq15 t242.length coq15] 36 (0,0)) Z144 NB247_0.out Z150) (jA (KeepBut.trans Z112 hk (.inl rfl)) (jA (hb) (Aside0.mk (hi))))))))) : p := h
theorem Z6 (h : p := by exact jA (Kd.R_over' Z127 (Kd.R_typed Z141) Z154 hg) (jA (Kd.S_after (ok := (fun k_ => some k_ ≠ (u163003 : Value).ownBlock)) Z125 hg hat) (jA (Kd.R_after (ok := (fun _ => True)) (by (with_reducible repeat (first | apply Kd.R_alloc | apply Kd.R_drewN | apply Kd.R_drew));exact Kd.R_mono HO_163003.out (fun _ hk => ⟨trivial,hk⟩)) hg hat) (jA (blk_grown (g := gb145) (o := .cells #[.slice none 0 0,.string (⟨#[]⟩ : ByteArray),.slice none 0 0,.slice none 0 0] 36 (0,0)) Z143 hg (Kd.R_ne HO_8.out BK145.out Z154)) (jA (blk_grown (g := gb162) (o := .cells #[.slice Ao19 y159.length co19,.string (⟨#[121]⟩ : ByteArray),u163002,u163003] 36 (0,0)) Z145 hg (Kd.R_ne HO_8.out BK162.out Z154)) (jA (IsS100.grown Z108 hg (IsS100.own_ne HI0.out HO_8.out Z154)) (jA (below_weaken Z110 HL.out hb) (jA (KeepBut.trans Z113 (KeepBut.of_grown hg g) (Kd.R_base2 HO_8.out)) (Aside0.mk (ho)))))))))) : p := h
theorem Z7 (h : p := by exact jA (Kd.R_over' Z127 (Kd.S_typed Z129) Z154 hg) (jA (Kd.R_over' Z128 (Kd.S_typed Z129) Z154 hg) (jA (blk_grown (g := gb145) (o := .cells #[.slice none 0 0,.string (⟨#[]⟩ : ByteArray),.slice none 0 0,.slice none 0 0] 36 (0,0)) Z143 hg (Kd.S_ne HO_163002.out BK145.out Z154)) (jA (blk_grown (g := gb162) (o := .cells #[.slice Ao19 y159.length co19,.string (⟨#[121]⟩ : ByteArray),u163002,u163003] 36 (0,0)) Z145 hg (Kd.S_ne HO_163002.out BK162.out Z154)) (jA (IsS100.grown Z108 hg (IsS100.own_neS HI0.out HO_163002.out Z154)) (jA (below_weaken Z110 HL.out hb) (jA (KeepBut.trans Z113 (KeepBut.of_grown hg g) (Kd.S_base2 HO_163002.out)) (Aside0.mk (ho))))))))) : p := h
theorem Z8 (h : p := by exact jA (IsS100.below Z118 hb) (jA (KeepBut.trans Z152 (KeepBut.of_below hb g none) (.inl rfl)) (jA (below_step Z119 hb) (jA (hbox) (jA ((Z115 : w.heap.size ≤ gb234)) (jA ((Nat.le_trans HW0.out (Z115 : w.heap.size ≤ gb234) : w0.heap.size ≤ gb234)) (jA ((by rw [hg];exact Nat.ne_of_lt (IsS100.lt (show IsS100 w0 _ g s0_0 s0_1 s0_2 from Z118)) : g ≠ gb234)) (Aside0.mk ((by rw [hg];exact Nat.ne_of_gt (IsS100.lt (show IsS100 w0 _ g s0_0 s0_1 s0_2 from Z118)) : gb234 ≠ g)))))))))) : p := h
theorem Z9 (h : p := by exact jA (Kd.R_below Z137 hb) (jA (Kd.S_elder' Z138 (Kd.R_base ho0) hb) (jA (Kd.R_elder' Z136 (Kd.R_base ho0) hb) (jA (Kd.R_elder' Z139 (Kd.R_base ho0) hb) (jA (Kd.R_lower (Kd.R_new' (Kd.R_new' ho0 (Kd.R_lt Z136)) (Kd.R_lt Z139)) (below_size Z122)) (jA (blk_below (g := gb394) (o := .cells #[.slice Ao11 t383.length co11,.string t386,.slice Ao13 t387.length co13,.slice Ao14 t390.length co14] 36 (0,0)) Z148 hb) (Aside0.mk (below_step Z122 hb)))))))) : p := h
theorem Z10 (h : p := by exact jA (KeepBut.blk hk (g' := gb234) (o := .cells #[.slice none 0 0,.string (⟨#[]⟩ : ByteArray),.slice none 0 0,.slice none 0 0] 36 (0,0)) Z142 NB234_0.out Z150) (jA (Kd.R_lower hoq6 (keep_size (w := w) (g := g) (row := none) Z151)) (jA (Kd.S_lower hoq7 (keep_size (w := w) (g := g) (row := none) Z151)) (jA (Kd.R_lower hoq8 (keep_size (w := w) (g := g) (row := none) Z151)) (jA (KeepBut.trans Z151 hk (.inl rfl)) (jA (hb) (Aside0.mk (hi)))))))) : p := h
theorem Z11 (h : p := by exact jA (KeepBut.blk hk (g' := gb234) (o := .cells #[.slice none 0 0,.string (⟨#[]⟩ : ByteArray),.slice none 0 0,.slice none 0 0] 36 (0,0)) Z142 NB234_0.out Z150) (jA (Kd.R_lower ho0 (keep_size (w := w) (g := g) (row := none) Z151)) (jA (Kd.S_lower ho1 (keep_size (w := w) (g := g) (row := none) Z151)) (jA (Kd.R_lower ho2 (keep_size (w := w) (g := g) (row := none) Z151)) (jA (KeepBut.trans Z151 hk (.inl rfl)) (jA (hb) (Aside0.mk (hi)))))))) : p := h
theorem Z12 (h : p := by exact jA (Kd.R_below Z137 hb) (jA (Kd.S_below Z138 hb) (jA (Kd.R_below Z136 hb) (jA (below_step Z153 hb) (jA (hbox) (jA ((Z124 : w.heap.size ≤ gb394)) (Aside0.mk ((Z124 : w.heap.size ≤ gb394))))))))) : p := h
theorem Z13 (h : p := by exact jA (Kd.R_below Z140 hb) (jA (Kd.R_below Z132 hb) (jA (Kd.S_below Z130 hb) (jA (Kd.R_below Z131 hb) (jA (blk_below (g := gb394) (o := .cells #[.slice Ao11 t383.length co11,.string t386,.slice Ao13 t387.length co13,.slice Ao14 t390.length co14] 36 (0,0)) Z148 hb) (Aside0.mk (below_step Z122 hb))))))) : p := h
theorem Z14 (h : p := by exact jA (Kd.R_lower hoq4 (keep_size (w := w) (g := g) (row := none) Z152)) (jA (IsS100.below Z118 hb) (jA (KeepBut.trans Z152 (KeepBut.of_below hb g none) (.inl rfl)) (Aside0.mk (below_step Z119 hb))))) : p := h
theorem Z15 (h : p := by exact jA (Kd.R_lower ho0 (below_size Z153)) (jA (Kd.S_lower ho1 (below_size Z153)) (jA (Kd.R_lower ho2 (below_size Z153)) (Aside0.mk (below_step Z153 hb))))) : p := h
theorem Z16 (h : p := by refine (Kd.S_reads' (e := 34) (base := w.heap.size) (ok := fun k_ => some k_ ≠ (.slice Ao14 t390.length co14 : Value).ownBlock) (n := t387.length) (c := co13) ?_).2.2;exact Z105) : p := h
theorem Z17 (h : p := by refine (Kd.R_reads' (e := 9) (base := w.heap.size) (ok := fun k_ => True) (n := t383.length) (c := co11) ?_).2.2;exact Z106) : p := h
theorem Z18 (h : p := by refine (Kd.R_reads' (e := 3) (base := w.heap.size) (ok := fun k_ => True) (n := t390.length) (c := co14) ?_).2.2;exact Z104) : p := h
theorem Z19 (h : p := by exact jA (below_step Z153 hb) (jA (hbox) (jA ((Z124 : w.heap.size ≤ gb366)) (Aside0.mk ((Z124 : w.heap.size ≤ gb366)))))) : p := h
theorem Z20 (h : p := by exact jA (below_step Z153 hb) (jA (hbox) (jA ((Z124 : w.heap.size ≤ gb332)) (Aside0.mk ((Z124 : w.heap.size ≤ gb332)))))) : p := h
theorem Z21 (h : p := by repeat (first | exact (Kd.C_below HR0_0.out Z120) | (with_reducible refine Kd.C_alloc ?_ _) | (with_reducible refine Kd.C_drewN ?_ _) | (with_reducible refine Kd.C_drew ?_))) : p := h
theorem Z22 (h : p := by repeat (first | exact (Kd.C_below HR373.out Z120) | (with_reducible refine Kd.C_alloc ?_ _) | (with_reducible refine Kd.C_drewN ?_ _) | (with_reducible refine Kd.C_drew ?_))) : p := h
theorem Z23 (h : p := by repeat (first | (with_reducible first | exact HI0.out | exact IsS100.far HI0.out NB0_234.out _ | exact IsS100.far HI0.out NB0_247.out _ | apply IsS100.alloc | apply IsS100.drewN | apply IsS100.drew | apply IsS100.set_1 | apply IsS100.set_2 | refine IsS100.far ?_ NB0_234.out _ | refine IsS100.far ?_ NB0_247.out _) | exact HI0.out)) : p := h
theorem Z24 (h : p := by exact Kd.M_row (Kd.R_mono (Kd.R_tight rfl (Kd.R_mono (ok' := fun k_ => ((fun k_ => some k_ ≠ (u163003 : Value).ownBlock)) k_ ∧ some k_ ≠ (u163002 : Value).ownBlock) (Kd.R_apart' (HO_8.out) (Kd.S_typed HO_163002.out) Z154) (fun k_ hk => ⟨hk.1,hk.2⟩))) (fun _ h_ => h_))) : p := h
theorem Z25 (h : p := by exact jA (blk_grown (g := gb347) (o := .cells #[.slice A0_0 l0_0.length c0_0,.string a0_1,.slice (some ad352) l0_2.length c0_2,.slice A0_3 l0_3.length c0_3] 36 (0,0)) Z146 hg (Kd.R_ne HO_5.out BK347.out Z154)) (jA (hb) (Aside0.mk (ho)))) : p := h
theorem Z26 (h : p := by exact jA (blk_grown (g := gb332) (o := .cells #[.slice A0_0 l0_0.length c0_0,.string a0_1,.slice (some ad337) l0_2.length c0_2,.slice A0_3 l0_3.length c0_3] 36 (0,0)) Z147 hg (Kd.R_ne HO_5.out BK332.out Z154)) (jA (hb) (Aside0.mk (ho)))) : p := h
theorem Z27 (h : p := by exact (keep_size (w := w) (g := g) (row := none) Z113)) : p := h
theorem Z28 (h : p := by exact (keep_size (w := w) (g := g) (row := none) Z112)) : p := h
theorem Z29 (h : p := by rw [hg];exact (keep_size (w := w) (g := g) (row := none) Z117)) : p := h
theorem Z30 (h : p := by repeat (first | (with_reducible first | exact HB.out | apply below_alloc | apply pw_below_drewN | apply below_drew1 | refine below_set ?_ (IsS100.ge HI0.out) | refine below_set ?_ GE234.out | refine below_set ?_ GE247.out) | exact HB.out)) : p := h
theorem Z31 (h : p := by first | (rw [add_block];exact (fun e_ => ((HL267_0.out.1 _ e_.symm).2) rfl)) | (show some (Addr.add _ _).block ≠ _;rw [add_block];exact (fun e_ => ((HL267_0.out.1 _ e_.symm).2) rfl)) | exact (fun e_ => ((HL267_0.out.1 _ e_.symm).2) rfl)) : p := h
theorem Z32 (h : p := by repeat (first | (with_reducible first | exact HI313.out | apply IsS100.alloc | apply IsS100.drewN | apply IsS100.drew | apply IsS100.set_1 | apply IsS100.set_2 | refine IsS100.far ?_ NB313_309.out _) | exact HI313.out)) : p := h
theorem Z33 (h : p := by exact jA (KeepBut.trans Z152 hk (.inl rfl)) (jA (hb) (Aside0.mk (hi)))) : p := h
theorem Z34 (h : p := by repeat (first | (with_reducible first | exact HI0.out | apply IsS100.alloc | apply IsS100.drewN | apply IsS100.drew | apply IsS100.set_1 | apply IsS100.set_2 | refine IsS100.far ?_ NB0_145.out _) | exact HI0.out)) : p := h
theorem Z35 (h : p := by repeat (first | (with_reducible first | exact HB.out | apply below_alloc | apply pw_below_drewN | apply below_drew1 | refine below_set ?_ (IsS100.ge HI313.out) | refine below_set ?_ GE309.out) | exact HB.out)) : p := h
theorem Z36 (h : p := by repeat (first | (with_reducible first | exact HB.out | apply below_alloc | apply pw_below_drewN | apply below_drew1 | refine below_set ?_ (IsS100.ge HI0.out) | refine below_set ?_ GE145.out) | exact HB.out)) : p := h
theorem Z37 (h : p := by repeat (first | (with_reducible exact HR299_0.out) | (with_reducible refine Kd.C_alloc ?_ _) | (with_reducible refine Kd.C_drewN ?_ _) | (with_reducible refine Kd.C_drew ?_) | exact HR299_0.out)) : p := h
theorem Z38 (h : p := by repeat (first | (with_reducible exact HR158.out) | (with_reducible refine Kd.C_alloc ?_ _) | (with_reducible refine Kd.C_drewN ?_ _) | (with_reducible refine Kd.C_drew ?_) | exact HR158.out)) : p := h
theorem Z39 (h : p := by exact (below_size Z123)) : p := h
theorem Z40 (h : p := by exact (below_size Z121)) : p := h
theorem Z41 (h : p := by repeat (first | exact (Kd.S_reads' HO_395002.out).2.2 | (with_reducible refine Kd.C_alloc ?_ _) | (with_reducible refine Kd.C_drewN ?_ _) | (with_reducible refine Kd.C_drew ?_))) : p := h
theorem Z42 (h : p := by repeat (first | exact (Kd.R_reads' HO_395003.out).2.2 | (with_reducible refine Kd.C_alloc ?_ _) | (with_reducible refine Kd.C_drewN ?_ _) | (with_reducible refine Kd.C_drew ?_))) : p := h
theorem Z43 (h : p := by repeat (first | exact (Kd.R_reads' HO_395000.out).2.2 | (with_reducible refine Kd.C_alloc ?_ _) | (with_reducible refine Kd.C_drewN ?_ _) | (with_reducible refine Kd.C_drew ?_))) : p := h
theorem Z44 (h : p := by exact Z123) : p := h
theorem Z45 (h : p := by exact Z121) : p := h
theorem Z46 (h : p := by repeat (first | exact (Kd.S_reads' HO389.out).2.2 | (with_reducible refine Kd.C_alloc ?_ _) | (with_reducible refine Kd.C_drewN ?_ _) | (with_reducible refine Kd.C_drew ?_))) : p := h
theorem Z47 (h : p := by repeat (first | exact (Kd.R_reads' HO400.out).2.2 | (with_reducible refine Kd.C_alloc ?_ _) | (with_reducible refine Kd.C_drewN ?_ _) | (with_reducible refine Kd.C_drew ?_))) : p := h
theorem Z48 (h : p := by repeat (first | exact (Kd.R_reads' HO397.out).2.2 | (with_reducible refine Kd.C_alloc ?_ _) | (with_reducible refine Kd.C_drewN ?_ _) | (with_reducible refine Kd.C_drew ?_))) : p := h
theorem Z49 (h : p := by repeat (first | exact (Kd.R_reads' HO392.out).2.2 | (with_reducible refine Kd.C_alloc ?_ _) | (with_reducible refine Kd.C_drewN ?_ _) | (with_reducible refine Kd.C_drew ?_))) : p := h
theorem Z50 (h : p := by repeat (first | exact (Kd.R_reads' HO385.out).2.2 | (with_reducible refine Kd.C_alloc ?_ _) | (with_reducible refine Kd.C_drewN ?_ _) | (with_reducible refine Kd.C_drew ?_))) : p := h
theorem Z51 (h : p := by exact (by (with_reducible repeat (first | apply Kd.S_alloc | apply Kd.S_drewN | apply Kd.S_drew));exact Kd.S_mono HO_163002.out (fun k_ hk => ⟨hk.2,fun e_ => hk.1 e_⟩))) : p := h
theorem Z52 (h : p := by rw [hg];exact (below_size Z126)) : p := h
theorem Z53 (h : p := by exact (fun k_ hk => Kd.fresh' (Kd.R_lt Z128) k_ hk)) : p := h
theorem Z54 (h : p := by refine bP ?_;refine blk_put (cs := #[.slice Ao19 y159.length co19,.string (⟨#[121]⟩ : ByteArray),u163002,u163003]) ?_ 2 _ rfl;refine bP ?_;exact BK162.out) : p := h
theorem Z55 (h : p := by repeat (first | exact HR0.out | (with_reducible refine Kd.C_alloc ?_ _) | (with_reducible refine Kd.C_drewN ?_ _) | (with_reducible refine Kd.C_drew ?_))) : p := h
theorem Z56 (h : p := by exact (by (with_reducible repeat (first | apply Kd.R_alloc | apply Kd.R_drewN | apply Kd.R_drew));exact Kd.R_mono HO_163003.out (fun _ hk => trivial))) : p := h
theorem Z57 (h : p := by (with_reducible repeat (first | apply Kd.S_alloc | apply Kd.S_drewN | apply Kd.S_drew));exact Kd.S_mono HO192.out (fun _ hk => ⟨trivial,hk⟩)) : p := h
theorem Z58 (h : p := by (with_reducible repeat (first | apply Kd.R_alloc | apply Kd.R_drewN | apply Kd.R_drew));exact Kd.R_mono HO_163003.out (fun _ hk => hk.2)) : p := h
theorem Z59 (h : p := by (with_reducible repeat (first | apply Kd.R_alloc | apply Kd.R_drewN | apply Kd.R_drew));exact Kd.R_mono HO161.out (fun _ hk => trivial)) : p := h
theorem Z60 (h : p := by (try simp only [List.map_toArray,List.map_cons,List.map_nil]);first | done | rfl | (simp only [List.length_drop,List.length_take];rfl)) : p := h
theorem Z61 (h : p := by exact Z140) : p := h
theorem Z62 (h : p := by exact Z141) : p := h
theorem Z63 (h : p := by first | (rw [add_block];exact hf1 _ rfl Z149) | exact hf1 _ rfl Z149 | exact hf1 adq2 rfl Z149) : p := h
theorem Z64 (h : p := by (with_reducible repeat (first | apply Kd.R_alloc | apply Kd.R_drewN | apply Kd.R_drew));exact HO_248003.out) : p := h
theorem Z65 (h : p := by (with_reducible repeat (first | apply Kd.S_alloc | apply Kd.S_drewN | apply Kd.S_drew));exact HO_248002.out) : p := h
theorem Z66 (h : p := by (with_reducible repeat (first | apply Kd.R_alloc | apply Kd.R_drewN | apply Kd.R_drew));exact HO_248000.out) : p := h
theorem Z67 (h : p := by (with_reducible repeat (first | apply Kd.R_alloc | apply Kd.R_drewN | apply Kd.R_drew));exact HL299_0.out) : p := h
theorem Z68 (h : p := by (with_reducible repeat (first | apply Kd.R_alloc | apply Kd.R_drewN | apply Kd.R_drew));exact HL272_0.out) : p := h
theorem Z69 (h : p := by (with_reducible repeat (first | apply Kd.R_alloc | apply Kd.R_drewN | apply Kd.R_drew));exact HO154.out) : p := h
theorem Z70 (h : p := by (with_reducible repeat (first | apply Kd.S_alloc | apply Kd.S_drewN | apply Kd.S_drew));exact HO192.out) : p := h
theorem Z71 (h : p := by (with_reducible repeat (first | apply Kd.R_alloc | apply Kd.R_drewN | apply Kd.R_drew));exact HO323.out) : p := h
theorem Z72 (h : p := by (with_reducible repeat (first | apply Kd.R_alloc | apply Kd.R_drewN | apply Kd.R_drew));exact HO161.out) : p := h
theorem Z73 (h : p := by (with_reducible repeat (first | apply Kd.S_alloc | apply Kd.S_drewN | apply Kd.S_drew));exact HO320.out) : p := h
theorem Z74 (h : p := by (with_reducible repeat (first | apply Kd.R_alloc | apply Kd.R_drewN | apply Kd.R_drew));exact HO316.out) : p := h
theorem Z75 (h : p := by (with_reducible repeat (first | apply Kd.R_alloc | apply Kd.R_drewN | apply Kd.R_drew));exact HO151.out) : p := h
theorem Z76 (h : p := by (with_reducible repeat (first | apply Kd.R_alloc | apply Kd.R_drewN | apply Kd.R_drew));exact HO335.out) : p := h
theorem Z77 (h : p := by first | rfl | (simp [errW_none,errW_some] <;> rfl) | (simp [*,errW_none,errW_some] <;> rfl)) : p := h
theorem Z78 (h : p := by have := HJ1.out;have := HK2.out;have := HK3.out;have := HJ32.out;have := HK5.out;omega) : p := h
theorem Z79 (h : p := by have := HJ1.out;have := HK2.out;have := HK3.out;first | omega | exact Nat.le_refl _) : p := h
theorem Z80 (h : p := by refine bP ?_;refine blk_far ?_ NB145_162.out _;refine bP ?_;exact BK145.out) : p := h
theorem Z81 (h : p := by refine bP ?_;refine blk_far ?_ NB234_247.out _;refine bP ?_;exact BK234.out) : p := h
theorem Z82 (h : p := by repeat (first | exact Drawn0.refl _ | apply Drawn0.step)) : p := h
theorem Z83 (h : p := by have := HJ8.out;have := HK2.out;have := HK3.out;omega) : p := h
theorem Z84 (h : p := by have := HK1.out;first | omega | exact Nat.le_refl _) : p := h
theorem Z85 (h : p := by first | (with_reducible assumption) | assumption) : p := h
theorem Z86 (h : p := by first | rfl | (simp;done) | (simp [*];done)) : p := h
theorem Z87 (h : p := by first | (go_simp;done) | (go_simp;rfl)) : p := h
theorem Z88 (h : p := by have := HJ1.out;have := HK2.out;omega) : p := h
theorem Z89 (h : p := by exact (Kd.S_reads' HO_395002.out).2.1) : p := h
theorem Z90 (h : p := by exact (Kd.R_reads' HO_395003.out).2.1) : p := h
theorem Z91 (h : p := by exact (Kd.R_reads' HO_395000.out).2.1) : p := h
theorem Z92 (h : p := by first | omega | exact Nat.le_refl _) : p := h
theorem Z93 (h : p := by exact (Kd.S_reads' HO389.out).2.1) : p := h
theorem Z94 (h : p := by exact (Kd.R_reads' HO392.out).2.1) : p := h
theorem Z95 (h : p := by exact (Kd.R_reads' HO385.out).2.1) : p := h
theorem Z96 (h : p := by refine bP ?_;exact BK366.out) : p := h
theorem Z97 (h : p := by refine bP ?_;exact BK309.out) : p := h
theorem Z98 (h : p := by exact (fun _ _ => trivial)) : p := h
theorem Z99 (h : p := by have := HK1.out;omega) : p := h
theorem Z100 (h : p := by exact (Reps.none _ _)) : p := h
theorem Z101 (h : p := by rw [e_];rfl) : p := h
theorem Z102 (h : p := by kernel_rfl) : p := h
theorem Z103 (h : p := by rfl) : p := h
theorem Z104 (h : p := by (with_reducible repeat (first | apply Kd.R_alloc | apply Kd.R_drewN | apply Kd.R_drew));exact (Kd.R_mono (Kd.R_far (p := ⟨gb394,3,none⟩) (Kd.R_far (p := ⟨gb394,2,none⟩) (Kd.R_far (p := ⟨gb394,1,none⟩) (Kd.R_far (p := ⟨gb394,0,none⟩) (Kd.R_types HO392.out BK394.out Z154) (fun _ hk => hk.2) (.slice Ao11 t383.length co11)) (fun _ hk => hk.2) (.string t386)) (fun _ hk => hk.2) (.slice Ao13 t387.length co13)) (fun _ hk => hk.2) (.slice Ao14 t390.length co14)) (fun _ h_ => h_.1))) : p := h
theorem Z105 (h : p := by (with_reducible repeat (first | apply Kd.S_alloc | apply Kd.S_drewN | apply Kd.S_drew));exact (Kd.S_mono (Kd.S_far (p := ⟨gb394,3,none⟩) (Kd.S_far (p := ⟨gb394,2,none⟩) (Kd.S_far (p := ⟨gb394,1,none⟩) (Kd.S_far (p := ⟨gb394,0,none⟩) (Kd.S_types HO389.out BK394.out Z154) (fun _ hk => hk.2) (.slice Ao11 t383.length co11)) (fun _ hk => hk.2) (.string t386)) (fun _ hk => hk.2) (.slice Ao13 t387.length co13)) (fun _ hk => hk.2) (.slice Ao14 t390.length co14)) (fun _ h_ => h_.1))) : p := h
theorem Z106 (h : p := by (with_reducible repeat (first | apply Kd.R_alloc | apply Kd.R_drewN | apply Kd.R_drew));exact (Kd.R_mono (Kd.R_far (p := ⟨gb394,3,none⟩) (Kd.R_far (p := ⟨gb394,2,none⟩) (Kd.R_far (p := ⟨gb394,1,none⟩) (Kd.R_far (p := ⟨gb394,0,none⟩) (Kd.R_types HO385.out BK394.out Z154) (fun _ hk => hk.2) (.slice Ao11 t383.length co11)) (fun _ hk => hk.2) (.string t386)) (fun _ hk => hk.2) (.slice Ao13 t387.length co13)) (fun _ hk => hk.2) (.slice Ao14 t390.length co14)) (fun _ h_ => h_.1))) : p := h
theorem Z107 (h : p := by repeat (first | (with_reducible first | exact HI0.out | apply IsS100.alloc | apply IsS100.drewN | apply IsS100.drew | apply IsS100.set_1 | apply IsS100.set_2 | refine IsS100.far ?_ NB0_234.out _ | refine IsS100.far ?_ NB0_247.out _) | exact HI0.out)) : p := h
theorem Z108 (h : p := by repeat (first | (with_reducible first | exact HI0.out | apply IsS100.alloc | apply IsS100.drewN | apply IsS100.drew | apply IsS100.set_1 | apply IsS100.set_2 | refine IsS100.far ?_ NB0_145.out _ | refine IsS100.far ?_ NB0_162.out _) | exact HI0.out)) : p := h
theorem Z109 (h : p := by rw [hg];exact (keep_size (w := w) (g := g) (row := none) Z151)) : p := h
theorem Z110 (h : p := by repeat (first | (with_reducible first | exact HB.out | apply below_alloc | apply pw_below_drewN | apply below_drew1 | refine below_set ?_ (IsS100.ge HI0.out) | refine below_set ?_ GE145.out | refine below_set ?_ GE162.out) | exact HB.out)) : p := h
theorem Z111 (h : p := by refine bP ?_;refine blk_far ?_ NB234_247.out _;refine bP ?_;refine blk_far ?_ NB234_247.out _;refine bP ?_;refine blk_far ?_ NB234_247.out _;refine bP ?_;refine blk_far ?_ NB234_247.out _;refine bP ?_;exact BK234.out) : p := h
theorem Z112 (h : p := by repeat (first | (with_reducible first | exact HK.out | apply KeepBut.set_ | apply keep_drewN | apply keep_drew | apply keep_alloc | refine keep_far ?_ GW234.out _ | refine keep_far ?_ GW247.out _) | exact HK.out)) : p := h
theorem Z113 (h : p := by repeat (first | (with_reducible first | exact HK.out | apply KeepBut.set_ | apply keep_drewN | apply keep_drew | apply keep_alloc | refine keep_far ?_ GW145.out _ | refine keep_far ?_ GW162.out _) | exact HK.out)) : p := h
theorem Z114 (h : p := by repeat (first | (with_reducible first | exact HI0.out | apply IsS100.alloc | apply IsS100.drewN | apply IsS100.drew | apply IsS100.set_1 | apply IsS100.set_2 | refine IsS100.far ?_ NB0_234.out _) | exact HI0.out)) : p := h
theorem Z115 (h : p := by rw [hg];exact (keep_size (w := w) (g := g) (row := none) Z152)) : p := h
theorem Z116 (h : p := by repeat (first | (with_reducible first | exact HB.out | apply below_alloc | apply pw_below_drewN | apply below_drew1 | refine below_set ?_ (IsS100.ge HI0.out) | refine below_set ?_ GE234.out) | exact HB.out)) : p := h
theorem Z117 (h : p := by repeat (first | (with_reducible first | exact HK.out | apply KeepBut.set_ | apply keep_drewN | apply keep_drew | apply keep_alloc | refine keep_far ?_ GW145.out _) | exact HK.out)) : p := h
theorem Z118 (h : p := by repeat (first | (with_reducible first | exact HI0.out | apply IsS100.alloc | apply IsS100.drewN | apply IsS100.drew | apply IsS100.set_1 | apply IsS100.set_2) | exact HI0.out)) : p := h
theorem Z119 (h : p := by repeat (first | (with_reducible first | exact HB.out | apply below_alloc | apply pw_below_drewN | apply below_drew1 | refine below_set ?_ (IsS100.ge HI0.out)) | exact HB.out)) : p := h
theorem Z120 (h : p := by repeat (first | (with_reducible first | exact HB.out | apply below_alloc | apply pw_below_drewN | apply below_drew1 | refine below_set ?_ GE366.out) | exact HB.out)) : p := h
theorem Z121 (h : p := by repeat (first | (with_reducible first | exact HB.out | apply below_alloc | apply pw_below_drewN | apply below_drew1 | refine below_set ?_ GE332.out) | exact HB.out)) : p := h
theorem Z122 (h : p := by repeat (first | (with_reducible first | exact HB.out | apply below_alloc | apply pw_below_drewN | apply below_drew1 | refine below_set ?_ GE394.out) | exact HB.out)) : p := h
theorem Z123 (h : p := by repeat (first | (with_reducible first | exact HB.out | apply below_alloc | apply pw_below_drewN | apply below_drew1 | refine below_set ?_ GE347.out) | exact HB.out)) : p := h
theorem Z124 (h : p := by rw [hg];exact (below_size Z153)) : p := h
theorem Z125 (h : p := by (with_reducible repeat (first | apply Kd.S_alloc | apply Kd.S_drewN | apply Kd.S_drew));exact Kd.S_mono HO_163002.out (fun _ hk => ⟨hk.2,hk.1⟩)) : p := h
theorem Z126 (h : p := by repeat (first | (with_reducible first | exact HBW.out | apply below_alloc | apply pw_below_drewN | apply below_drew1) | exact HBW.out)) : p := h
theorem Z127 (h : p := by (with_reducible repeat (first | apply Kd.R_alloc | apply Kd.R_drewN | apply Kd.R_drew));exact HO_163000.out) : p := h
theorem Z128 (h : p := by (with_reducible repeat (first | apply Kd.R_alloc | apply Kd.R_drewN | apply Kd.R_drew));exact HO_163003.out) : p := h
theorem Z129 (h : p := by (with_reducible repeat (first | apply Kd.S_alloc | apply Kd.S_drewN | apply Kd.S_drew));exact HO_163002.out) : p := h
theorem Z130 (h : p := by (with_reducible repeat (first | apply Kd.S_alloc | apply Kd.S_drewN | apply Kd.S_drew));exact HO_395002.out) : p := h
theorem Z131 (h : p := by (with_reducible repeat (first | apply Kd.R_alloc | apply Kd.R_drewN | apply Kd.R_drew));exact HO_395003.out) : p := h
theorem Z132 (h : p := by (with_reducible repeat (first | apply Kd.R_alloc | apply Kd.R_drewN | apply Kd.R_drew));exact HO_395000.out) : p := h
theorem Z133 (h : p := by (with_reducible repeat (first | apply Kd.R_alloc | apply Kd.R_drewN | apply Kd.R_drew));exact HO244.out) : p := h
theorem Z134 (h : p := by (with_reducible repeat (first | apply Kd.R_alloc | apply Kd.R_drewN | apply Kd.R_drew));exact HO237.out) : p := h
theorem Z135 (h : p := by (with_reducible repeat (first | apply Kd.S_alloc | apply Kd.S_drewN | apply Kd.S_drew));exact HO241.out) : p := h
theorem Z136 (h : p := by (with_reducible repeat (first | apply Kd.R_alloc | apply Kd.R_drewN | apply Kd.R_drew));exact HO392.out) : p := h
theorem Z137 (h : p := by (with_reducible repeat (first | apply Kd.R_alloc | apply Kd.R_drewN | apply Kd.R_drew));exact HO385.out) : p := h
theorem Z138 (h : p := by (with_reducible repeat (first | apply Kd.S_alloc | apply Kd.S_drewN | apply Kd.S_drew));exact HO389.out) : p := h
theorem Z139 (h : p := by (with_reducible repeat (first | apply Kd.R_alloc | apply Kd.R_drewN | apply Kd.R_drew));exact HO397.out) : p := h
theorem Z140 (h : p := by (with_reducible repeat (first | apply Kd.R_alloc | apply Kd.R_drewN | apply Kd.R_drew));exact HO_5.out) : p := h
theorem Z141 (h : p := by (with_reducible repeat (first | apply Kd.R_alloc | apply Kd.R_drewN | apply Kd.R_drew));exact HO_8.out) : p := h
theorem Z142 (h : p := by refine bP ?_;exact BK234.out) : p := h
theorem Z143 (h : p := by refine bP ?_;exact BK145.out) : p := h
theorem Z144 (h : p := by refine bP ?_;exact BK247.out) : p := h
theorem Z145 (h : p := by refine bP ?_;exact BK162.out) : p := h
theorem Z146 (h : p := by refine bP ?_;exact BK347.out) : p := h
theorem Z147 (h : p := by refine bP ?_;exact BK332.out) : p := h
theorem Z148 (h : p := by refine bP ?_;exact BK394.out) : p := h
theorem Z149 (h : p := by omega) : p := h
theorem Z150 (h : p := by simp) : p := h
theorem Z151 (h : p := by repeat (first | (with_reducible first | exact HK.out | apply KeepBut.set_ | apply keep_drewN | apply keep_drew | apply keep_alloc | refine keep_far ?_ GW234.out _) | exact HK.out)) : p := h
theorem Z152 (h : p := by repeat (first | (with_reducible first | exact HK.out | apply KeepBut.set_ | apply keep_drewN | apply keep_drew | apply keep_alloc) | exact HK.out)) : p := h
theorem Z153 (h : p := by repeat (first | (with_reducible first | exact HB.out | apply below_alloc | apply pw_below_drewN | apply below_drew1) | exact HB.out)) : p := h
theorem Z154 (h : p := by decide) : p := h
end Go.Proofs.Ytiacoiiapmfaeaa.QFnColumn
