/- The machine side of FnGrid: what each Go function that it reaches comes to. Conditions: none. -/
import Derived.Test.YtlflcgdcegohjabQFnGridx0
import Derived.Test.YtlflcgdcegohjabQFnGridx1
import Derived.Test.YtlflcgdcegohjabQFnGridx5
import Derived.Test.YtlflcgdcegohjabQFnGridx9
import Derived.Test.YtlflcgdcegohjabQFnGridx10
import Derived.Test.YtlflcgdcegohjabQFnGridx11
import Derived.Test.YtlflcgdcegohjabQFnGridx15
import Derived.Test.YtlflcgdcegohjabQFnGridx17
import Derived.Test.YtlflcgdcegohjabQFnGridx19
namespace Go.Proofs.Ytlflcgdcegohjab.QFnGrid
open Go.RowKit Go.Proofs.YtlflcgdcegohjabW.PrintWords Go.Proofs.YtlflcgdcegohjabW.PrintLast Go.Proofs.YtlflcgdcegohjabW.PrintMore
attribute [local go_sem] max2_int min2_int max_two min_two max_three min_three max_four min_four   -- for this text's walks alone
set_option linter.unusedVariables false
set_option linter.unusedSimpArgs false

/-! ### laws_FnGrid: function 3 -/
mutual
def laws_FnGrid.j0 : Nat → Int → Bool → List ByteArray → ByteArray → List (List Int) → List Int → List (List Int) → List (List Int) → Option (Bool)
 | 0,_,_,_,_,_,_,_,_ => none
 | k + 1,x4,x29,x647000,x647001,x647002,x647003,x654000,x654001 => if x29 = true then (some false) else ((spec_TableOk.f k x647000 x647001 x647002 x647003).bind fun t668 => (if t668 = true then (if x4 < 2 then (laws_FnGrid.j1 k true x647000 x647001 x647002 x647003 x654000 x654001) else (laws_FnGrid.j1 k (decide (x4 > 8)) x647000 x647001 x647002 x647003 x654000 x654001)) else (laws_FnGrid.j1 k true x647000 x647001 x647002 x647003 x654000 x654001)))
def laws_FnGrid.j1 : Nat → Bool → List ByteArray → ByteArray → List (List Int) → List Int → List (List Int) → List (List Int) → Option (Bool)
 | 0,_,_,_,_,_,_,_ => none
 | k + 1,x40,x647000,x647001,x647002,x647003,x654000,x654001 => if x40 = true then (if (x654000.length : Int) = 0 then (some ((x654001.length : Int) == 0)) else (some false)) else ((impl_GridOk.f k x654000 x654001).bind fun t669 => (if t669 = true then ((spec_GridOk.f k x654000 x654001).bind fun t670 => (if t670 = true then ((impl_RowsIn.f x654000 x654001).bind fun t671 => (if t671 = (x647002.length : Int) then (some ((x654000.length : Int) == (x647000.length : Int))) else (some false))) else (some false))) else (some false)))
end
def laws_FnGrid.f (k : Nat) (l0 : List Int) : Option (Bool) := (laws_big.f l0).bind fun t634 => (if t634 = true then (some true) else ((spec_DrawGridOf.f k l0).bind fun bt635 => ((impl_GridOf.f k bt635.1 bt635.2.1 bt635.2.2.1 bt635.2.2.2.1 bt635.2.2.2.2).bind fun bt647 => ((spec_GridOf.f k bt635.1 bt635.2.1 bt635.2.2.1 bt635.2.2.2.1 bt635.2.2.2.2).bind fun bt654 => ((spec_SameGrid.f k bt647.1 bt647.2 bt654.1 bt654.2).bind fun t660 => (if t660 = true then ((spec_GridOf.f k bt635.1 bt635.2.1 bt635.2.2.1 bt635.2.2.2.1 bt635.2.2.2.2).bind fun bt661 => ((impl_SameGrid.f k bt647.1 bt647.2 bt661.1 bt661.2).bind fun t667 => (laws_FnGrid.j0 k bt635.2.2.2.2 (!t667) bt635.1 bt635.2.1 bt635.2.2.1 bt635.2.2.2.1 bt647.1 bt647.2))) else (laws_FnGrid.j0 k bt635.2.2.2.2 true bt635.1 bt635.2.1 bt635.2.2.1 bt635.2.2.2.1 bt647.1 bt647.2)))))))
theorem laws_FnGrid.mono_l : ∀ k,(∀ y0 y1 y2 y3 y4 y5 y6 y7,LeO (laws_FnGrid.j0 k y0 y1 y2 y3 y4 y5 y6 y7) (laws_FnGrid.j0 (k + 1) y0 y1 y2 y3 y4 y5 y6 y7)) ∧ (∀ y0 y1 y2 y3 y4 y5 y6,LeO (laws_FnGrid.j1 k y0 y1 y2 y3 y4 y5 y6) (laws_FnGrid.j1 (k + 1) y0 y1 y2 y3 y4 y5 y6))
 | 0 => ⟨fun _ _ _ _ _ _ _ _ r h => by simp [laws_FnGrid.j0] at h,fun _ _ _ _ _ _ _ r h => by simp [laws_FnGrid.j1] at h⟩
 | k + 1 => by
  obtain ⟨ih0,ih1⟩ := laws_FnGrid.mono_l k
  refine ⟨?_,?_⟩
  ·intro y0 y1 y2 y3 y4 y5 y6 y7
   unfold laws_FnGrid.j0
   repeat' first
   | (with_reducible exact ih0 _ _ _ _ _ _ _ _)
   | (with_reducible exact ih1 _ _ _ _ _ _ _)
   | (with_reducible exact impl_GridOf.mono _ _ _ _ _ _)
   | (with_reducible exact impl_GridOk.mono _ _ _)
   | (with_reducible exact impl_SameGrid.mono _ _ _ _ _)
   | (with_reducible exact spec_DrawGridOf.mono _ _)
   | (with_reducible exact spec_GridOf.mono _ _ _ _ _ _)
   | (with_reducible exact spec_GridOk.mono _ _ _)
   | (with_reducible exact spec_SameGrid.mono _ _ _ _ _)
   | (with_reducible exact spec_TableOk.mono _ _ _ _ _)
   | (with_reducible exact LeO.refl _)
   | (with_reducible exact LeO.none _)
   | (with_reducible refine LeO.ite ?_ ?_)
   | (with_reducible refine LeO.bind ?_ (fun _ => ?_))
   | exact ih0 _ _ _ _ _ _ _ _
   | exact ih1 _ _ _ _ _ _ _
   | exact impl_GridOf.mono _ _ _ _ _ _
   | exact impl_GridOk.mono _ _ _
   | exact impl_SameGrid.mono _ _ _ _ _
   | exact spec_DrawGridOf.mono _ _
   | exact spec_GridOf.mono _ _ _ _ _ _
   | exact spec_GridOk.mono _ _ _
   | exact spec_SameGrid.mono _ _ _ _ _
   | exact spec_TableOk.mono _ _ _ _ _
   | exact LeO.none _
   | refine LeO.ite ?_ ?_
   | refine LeO.bind ?_ (fun _ => ?_)
  ·intro y0 y1 y2 y3 y4 y5 y6
   unfold laws_FnGrid.j1
   repeat' first
   | (with_reducible exact ih0 _ _ _ _ _ _ _ _)
   | (with_reducible exact ih1 _ _ _ _ _ _ _)
   | (with_reducible exact impl_GridOf.mono _ _ _ _ _ _)
   | (with_reducible exact impl_GridOk.mono _ _ _)
   | (with_reducible exact impl_SameGrid.mono _ _ _ _ _)
   | (with_reducible exact spec_DrawGridOf.mono _ _)
   | (with_reducible exact spec_GridOf.mono _ _ _ _ _ _)
   | (with_reducible exact spec_GridOk.mono _ _ _)
   | (with_reducible exact spec_SameGrid.mono _ _ _ _ _)
   | (with_reducible exact spec_TableOk.mono _ _ _ _ _)
   | (with_reducible exact LeO.refl _)
   | (with_reducible exact LeO.none _)
   | (with_reducible refine LeO.ite ?_ ?_)
   | (with_reducible refine LeO.bind ?_ (fun _ => ?_))
   | exact ih0 _ _ _ _ _ _ _ _
   | exact ih1 _ _ _ _ _ _ _
   | exact impl_GridOf.mono _ _ _ _ _ _
   | exact impl_GridOk.mono _ _ _
   | exact impl_SameGrid.mono _ _ _ _ _
   | exact spec_DrawGridOf.mono _ _
   | exact spec_GridOf.mono _ _ _ _ _ _
   | exact spec_GridOk.mono _ _ _
   | exact spec_SameGrid.mono _ _ _ _ _
   | exact spec_TableOk.mono _ _ _ _ _
   | exact LeO.none _
   | refine LeO.ite ?_ ?_
   | refine LeO.bind ?_ (fun _ => ?_)
theorem laws_FnGrid.mono : ∀ a0 k,LeO (laws_FnGrid.f k a0) (laws_FnGrid.f (k + 1) a0) := by
 intro a0 k
 obtain ⟨ih0,ih1⟩ := laws_FnGrid.mono_l k
 unfold laws_FnGrid.f
 repeat' first
   | (with_reducible exact ih0 _ _ _ _ _ _ _ _)
   | (with_reducible exact ih1 _ _ _ _ _ _ _)
   | (with_reducible exact impl_GridOf.mono _ _ _ _ _ _)
   | (with_reducible exact impl_GridOk.mono _ _ _)
   | (with_reducible exact impl_SameGrid.mono _ _ _ _ _)
   | (with_reducible exact spec_DrawGridOf.mono _ _)
   | (with_reducible exact spec_GridOf.mono _ _ _ _ _ _)
   | (with_reducible exact spec_GridOk.mono _ _ _)
   | (with_reducible exact spec_SameGrid.mono _ _ _ _ _)
   | (with_reducible exact spec_TableOk.mono _ _ _ _ _)
   | (with_reducible exact LeO.refl _)
   | (with_reducible exact LeO.none _)
   | (with_reducible refine LeO.ite ?_ ?_)
   | (with_reducible refine LeO.bind ?_ (fun _ => ?_))
   | exact ih0 _ _ _ _ _ _ _ _
   | exact ih1 _ _ _ _ _ _ _
   | exact impl_GridOf.mono _ _ _ _ _ _
   | exact impl_GridOk.mono _ _ _
   | exact impl_SameGrid.mono _ _ _ _ _
   | exact spec_DrawGridOf.mono _ _
   | exact spec_GridOf.mono _ _ _ _ _ _
   | exact spec_GridOk.mono _ _ _
   | exact spec_SameGrid.mono _ _ _ _ _
   | exact spec_TableOk.mono _ _ _ _ _
   | exact LeO.none _
   | refine LeO.ite ?_ ?_
   | refine LeO.bind ?_ (fun _ => ?_)
theorem laws_FnGrid.j0_stop {k : Nat} {r : Bool} {y4 : Int} {y647000 : List ByteArray} {y647001 : ByteArray} {y647002 : List (List Int)} {y647003 : List Int} {y654000 : List (List Int)} {y654001 : List (List Int)} (h : laws_FnGrid.j0 k y4 true y647000 y647001 y647002 y647003 y654000 y654001 = some r) : r = false := by
 cases k with
 | zero => simp [laws_FnGrid.j0] at h
 | succ k =>
  simp only [laws_FnGrid.j0] at h
  rw [if_pos trivial] at h
  exact (Option.some.inj h).symm
def laws_FnGrid.T5 : Bool × List (List Nat × List Nat) := (true,[([],[]),([],[]),([],[]),([1,2],[1,2]),([0,3,3],[0,3]),([4],[4]),([5,4],[5]),([6],[6]),([6],[6]),([6],[6]),([8,9,6,6],[6,8,9]),([7,10,10,6],[6,7,10]),([11,6],[6,11]),([6,12],[6,12])])
def laws_FnGrid.B5 : List Nat := [0,0,0,6,15,31,63,127,127,127,895,2047,4095,8191]
theorem laws_FnGrid.tab5 : rtab .any (opsOf Try.f3 5) = laws_FnGrid.T5 := by kernel_rfl
theorem laws_FnGrid.bits5 : waitsOk laws_FnGrid.T5.2 laws_FnGrid.B5 = true := by kernel_rfl
def laws_FnGrid.T9 : Bool × List (List Nat × List Nat) := (true,[([],[]),([0],[0]),([1,1],[1]),([2],[2]),([3,2,2],[2,3]),([2,4],[2,4]),([5,4],[5]),([6],[6]),([7,6,6],[6,7]),([6],[6]),([9,6],[6,9]),([10,6],[6,10]),([8,11,6],[6,8,11]),([6,12],[6,12]),([13,8],[13]),([14],[14]),([15,14],[14,15]),([16,14],[14,16]),([14],[14]),([18,14],[14,18]),([19,14],[14,19]),([17,20,14],[14,17,20]),([14,21],[14,21]),([22,14,0,1,2,3,4,5,6,7,8,9,10,11,12,13,14,15,16,17,18,19,20,21,22],[22])])
def laws_FnGrid.B9 : List Nat := [0,1,3,7,15,31,63,127,255,127,639,1663,4095,8191,16383,32767,65535,131071,32767,294911,819199,2097151,4194303,8388607]
theorem laws_FnGrid.tab9 : rtab .any (opsOf Try.f3 9) = laws_FnGrid.T9 := by kernel_rfl
theorem laws_FnGrid.bits9 : waitsOk laws_FnGrid.T9.2 laws_FnGrid.B9 = true := by kernel_rfl
set_option maxHeartbeats 8000000 in
set_option maxRecDepth 100000 in
theorem laws_FnGrid.calls (k : Nat) (A0 : Option Addr) (c0 : Nat) (l0 : List Int) (r : Bool) (w : World) (hr0 : Kd.C (Kd.int .u8) w A0 l0.length l0) (hc0 : l0.length ≤ c0) (h : laws_FnGrid.f k l0 = some r) (hr_ : r = true) :
  Calls Try.prog 3 #[.slice A0 l0.length c0] w fun e w' => e = .returned (.bool r) ∧ Below w.heap.size w w' := by
 have HRT := Aside0.mk hr_
 clear hr_
 have hu28 := Try.underlying28
 have hu32 := Try.underlying32
 have HR0 := Aside0.mk hr0
 have HC0 := Aside0.mk hc0
 clear hr0 hc0
 have HB := Aside0.mk (Below.refl w.heap.size w)
 have H := h
 clear h
 unfold laws_FnGrid.f at H
 obtain ⟨t634,A20,H⟩ := Option.bind_eq_some_iff.mp H
 have A2 := Aside0.mk A20
 clear A20
 by_cases c3 : t634 = true
 ·subst c3
  rw [if_pos rfl] at H
  obtain rfl := Option.some.inj H
  go_enter Try.func3,Try.ntmps3
  go_wp2_with (first | ((with_reducible refine gate_callee (f := 4) rfl ?_);refine goesL_ (some 7) rfl rfl Try.func4 Z256 rfl #[.slice A0 l0.length c0] rfl Z159 ?_;(with_reducible refine (laws_big.calls _ _ l0 true _ ?side1 ?side2 A2.out).mono ?_);(case side1 => exact Z141);(case side2 => exact Z254);rintro e w' ⟨rfl,⟨nd,rfl⟩⟩;refine ⟨_,rfl,?_⟩))
  go_ret
  exact ⟨Z212,Z336⟩
 replace c3 := Bool.eq_false_iff.mpr c3
 subst c3
 rw [if_neg Bool.false_ne_true] at H
 obtain ⟨⟨t635,t638,t639,t642,t645⟩,A40,H⟩ := Option.bind_eq_some_iff.mp H
 try dsimp only at H
 have A4 := Aside0.mk A40
 clear A40
 obtain ⟨⟨t647,t650⟩,A50,H⟩ := Option.bind_eq_some_iff.mp H
 try dsimp only at H
 have A5 := Aside0.mk A50
 clear A50
 have HC6 := Aside0.mk H
 clear H
 go_enter Try.func3,Try.ntmps3
 go_upto_region 5 with (first | ((with_reducible refine gate_callee (f := 4) rfl ?_);refine goesL_ (some 7) rfl rfl Try.func4 Z256 rfl #[.slice A0 l0.length c0] rfl Z159 ?_;(with_reducible refine (laws_big.calls _ _ l0 false _ ?side1 ?side2 A2.out).mono ?_);(case side1 => exact Z141);(case side2 => exact Z254);rintro e w' ⟨rfl,⟨nd,rfl⟩⟩;refine ⟨_,rfl,?_⟩) | ((with_reducible refine gate_callee (f := 5) rfl ?_);refine goesL_ (some 10) rfl rfl Try.func5 Z256 rfl #[.slice A0 l0.length c0] rfl Z159 ?_;(with_reducible refine (spec_DrawGridOf.calls k _ _ l0 t635 t638 t639 t642 t645 _ ?side1 ?side2 A4.out).mono ?_);(case side1 => exact Z141);(case side2 => exact Z254);rintro e w7 ⟨v636,v640,v643,rfl,ho0,ho1,ho2,hb⟩;refine ⟨_,rfl,?_⟩;have n_ := jA (Kd.R_lower ho0 (below_size Z336)) (jA (Kd.N_lower (Kd.N_mono (ok' := fun k_ => some k_ ≠ (v636 : Value).ownBlock ∧ some k_ ≠ (v643 : Value).ownBlock) (Kd.S_N (Kd.S_bound (Kd.S_apart' ho1 (Kd.R_typed ho0) Z330))) (fun k_ hk_ => ⟨hk_.1.2,hk_.1.1⟩)) (below_size Z336)) (jA (Kd.R_lower ho2 (below_size Z336)) (Aside0.mk (below_step Z336 hb))));clear HB;obtain ⟨HO637,HO641,HO644,HB⟩ := n_;(try clear hb);(try clear hb2);(try clear hk);(try clear hi);(try clear ho0);(try clear ho1);(try clear ho2)) | ((with_reducible refine gate_dst (N := 3) rfl ?_);(try (refine gate_guard Z257 ?_;dsimp only));refine bE 3 #[.slice none 0 0,.string (⟨#[]⟩ : ByteArray),.slice none 0 0,.slice none 0 0] 28 (h := ?_);intro gb646 hg w8 hbox hb;have n_ := jA (Kd.R_below Z181 hb) (jA (Kd.N_below (Kd.N_elderB Z182 gb646 (Nat.le_of_eq hg.symm)) hb) (jA (Kd.R_below Z180 hb) (jA (below_step Z336 hb) (jA (hbox) (jA ((Z279 : w.heap.size ≤ gb646)) (Aside0.mk ((Z279 : w.heap.size ≤ gb646))))))));clear HO637 HO641 HO644 HB;obtain ⟨HO637,HO641,HO644,HB,BK646,GW646,GE646⟩ := n_;clear hb hbox hg;obtain ⟨Ao9,co9,eo9⟩ := Kd.R_slice HO637.out;subst eo9;obtain ⟨hcz10_0,hcz10_1,hcz10_2,hcz10_3,hfz10_0,hfz10_1,hfz10_2,hfz10_3⟩ := cells4 BK646.out;obtain ⟨Ao11,co11,eo11⟩ := Kd.N_slice HO641.out;subst eo11;obtain ⟨Ao12,co12,eo12⟩ := Kd.R_slice HO644.out;subst eo12) | ((with_reducible refine gate_callee (f := 6) rfl ?_);refine goesL_ (some 15) rfl rfl Try.func6 Z256 rfl #[.agg #[.slice Ao9 t635.length co9,.string t638,.slice Ao11 t639.length co11,.slice Ao12 t642.length co12],.int .i64 t645] rfl Z159 ?_;(with_reducible refine (impl_GridOf.calls k _ _ t635 t638 _ _ t639 _ _ t642 t645 t647 t650 _ ?side1 ?side2 ?side3 ?side4 ?side5 ?side6 A5.out).mono ?_);(case side1 => refine (Kd.R_reads' (e := 9) (base := w.heap.size) (ok := fun k_ => True) (n := t635.length) (c := co9) ?_).2.2;exact Z29);(case side2 => exact (Kd.R_reads' HO637.out).2.1);(case side3 => refine (Kd.N_reads' (e := 26) (base := w.heap.size) (ok := fun k_ => ((some k_ ≠ (.slice Ao9 t635.length co9 : Value).ownBlock ∧ some k_ ≠ (.slice Ao12 t642.length co12 : Value).ownBlock) ∧ k_ ≠ gb646)) (n := t639.length) (c := co11) ?_).2.2;exact Z27);(case side4 => exact (Kd.N_reads' HO641.out).2.1);(case side5 => refine (Kd.R_reads' (e := 3) (base := w.heap.size) (ok := fun k_ => True) (n := t642.length) (c := co12) ?_).2.2;exact Z28);(case side6 => exact (Kd.R_reads' HO644.out).2.1);rintro e w13 ⟨v648,v651,rfl,ho0,ho1,hb⟩;refine ⟨_,rfl,?_⟩;have n_ := jA (Kd.R_below Z29 hb) (jA (Kd.N_mono (Kd.N_told (Kd.N_told (Kd.N_old Z27 hb) (Kd.N_base ho0)) (Kd.N_base ho1)) (fun _ h_ => h_.1)) (jA (Kd.R_below Z28 hb) (jA (Kd.N_lower (Kd.N_mono (ok' := fun k_ => some k_ ≠ (v651 : Value).ownBlock ∧ some k_ ≠ (.slice Ao9 t635.length co9 : Value).ownBlock ∧ some k_ ≠ (.slice Ao11 t639.length co11 : Value).ownBlock ∧ some k_ ≠ (.slice Ao12 t642.length co12 : Value).ownBlock ∧ k_ ≠ gb646) ho0 (fun k_ hk_ => ⟨hk_.2,(Kd.fresh' (Kd.R_lt Z29) k_ hk_.1),(Kd.fresh' (Kd.N_lt Z27) k_ hk_.1),(Kd.fresh' (Kd.R_lt Z28) k_ hk_.1),(Kd.freshB (g := gb646) (o := .cells #[.slice Ao9 t635.length co9,.string t638,.slice Ao11 t639.length co11,.slice Ao12 t642.length co12] 28 (0,0)) Z25 k_ hk_.1)⟩)) (below_size Z284)) (jA (Kd.N_lower (Kd.N_mono (ok' := fun k_ => some k_ ≠ (v648 : Value).ownBlock ∧ some k_ ≠ (.slice Ao9 t635.length co9 : Value).ownBlock ∧ some k_ ≠ (.slice Ao11 t639.length co11 : Value).ownBlock ∧ some k_ ≠ (.slice Ao12 t642.length co12 : Value).ownBlock ∧ k_ ≠ gb646) ho1 (fun k_ hk_ => ⟨hk_.2,(Kd.fresh' (Kd.R_lt Z29) k_ hk_.1),(Kd.fresh' (Kd.N_lt Z27) k_ hk_.1),(Kd.fresh' (Kd.R_lt Z28) k_ hk_.1),(Kd.freshB (g := gb646) (o := .cells #[.slice Ao9 t635.length co9,.string t638,.slice Ao11 t639.length co11,.slice Ao12 t642.length co12] 28 (0,0)) Z25 k_ hk_.1)⟩)) (below_size Z284)) (jA (blk_below (g := gb646) (o := .cells #[.slice Ao9 t635.length co9,.string t638,.slice Ao11 t639.length co11,.slice Ao12 t642.length co12] 28 (0,0)) Z25 hb) (Aside0.mk (below_step Z284 hb)))))));clear HO637 HO641 HO644 BK646 HB;obtain ⟨HO637,HO641,HO644,HO649,HO652,BK646,HB⟩ := n_;(try clear hb);(try clear hb2);(try clear hk);(try clear hi);(try clear ho0);(try clear ho1)) | ((with_reducible refine gate_dst (N := 5) rfl ?_);(try (refine gate_guard Z257 ?_;dsimp only));refine bE 5 #[.slice none 0 0,.slice none 0 0] 32 (h := ?_);intro gb653 hg w14 hbox hb;have n_ := jA (Kd.R_below Z181 hb) (jA (Kd.N_below (Kd.N_elderB Z182 gb653 (Nat.le_of_eq hg.symm)) hb) (jA (Kd.R_below Z180 hb) (jA (Kd.N_below (Kd.N_elderB Z184 gb653 (Nat.le_of_eq hg.symm)) hb) (jA (Kd.N_below (Kd.N_elderB Z183 gb653 (Nat.le_of_eq hg.symm)) hb) (jA (blk_below (g := gb646) (o := .cells #[.slice Ao9 t635.length co9,.string t638,.slice Ao11 t639.length co11,.slice Ao12 t642.length co12] 28 (0,0)) Z322 hb) (jA (below_step Z284 hb) (jA (hbox) (jA ((Z90 : w.heap.size ≤ gb653)) (jA ((Z90 : w.heap.size ≤ gb653)) (jA ((by rw [hg];exact Nat.ne_of_lt (blk_lt (g := gb646) (o := .cells #[.slice Ao9 t635.length co9,.string t638,.slice Ao11 t639.length co11,.slice Ao12 t642.length co12] 28 (0,0)) Z322) : gb646 ≠ gb653)) (Aside0.mk ((by rw [hg];exact Nat.ne_of_gt (blk_lt (g := gb646) (o := .cells #[.slice Ao9 t635.length co9,.string t638,.slice Ao11 t639.length co11,.slice Ao12 t642.length co12] 28 (0,0)) Z322) : gb653 ≠ gb646)))))))))))));clear HO637 HO641 HO644 HO649 HO652 BK646 HB;obtain ⟨HO637,HO641,HO644,HO649,HO652,BK646,HB,BK653,GW653,GE653,NB646_653,NB653_646⟩ := n_;clear hb hbox hg;obtain ⟨Ao15,co15,eo15⟩ := Kd.N_slice HO649.out;subst eo15;have hnb16 := NB653_646.out;have hnc16 := NB646_653.out;obtain ⟨hcz17_0,hcz17_1,hfz17_0,hfz17_1⟩ := cells2 BK653.out;obtain ⟨Ao18,co18,eo18⟩ := Kd.N_slice HO652.out;subst eo18))
 (try simp only [Act.put,List.setIfInBounds_toArray,List.set_cons_zero,List.set_cons_succ])
 go_cut [29] (fun v29 wc => ∃ (kq : Nat) (x29_5 : Bool),v29 = .bool x29_5 ∧ Aside0 (laws_FnGrid.j0 kq t645 x29_5 t635 t638 t639 t642 t647 t650 = some r) ∧ Aside0 (kq ≤ k) ∧ Aside0 (Kd.R Kd.string 9 wc w.heap.size (fun _ => True) (.slice Ao9 t635.length co9) t635) ∧ Aside0 (Kd.N (Kd.slice 3 (Kd.int .i64)) 26 wc w.heap.size (fun k_ => some k_ ≠ ((.slice Ao9 t635.length co9) : Value).ownBlock ∧ some k_ ≠ ((.slice Ao12 t642.length co12) : Value).ownBlock ∧ some k_ ≠ ((.slice Ao15 t647.length co15) : Value).ownBlock ∧ some k_ ≠ ((.slice Ao18 t650.length co18) : Value).ownBlock ∧ k_ ≠ gb646 ∧ k_ ≠ gb653) (.slice Ao11 t639.length co11) t639) ∧ Aside0 (Kd.R (Kd.int .i64) 3 wc w.heap.size (fun _ => True) (.slice Ao12 t642.length co12) t642) ∧ Aside0 (Kd.N (Kd.slice 3 (Kd.int .i64)) 26 wc w.heap.size (fun k_ => some k_ ≠ ((.slice Ao9 t635.length co9) : Value).ownBlock ∧ some k_ ≠ ((.slice Ao11 t639.length co11) : Value).ownBlock ∧ some k_ ≠ ((.slice Ao12 t642.length co12) : Value).ownBlock ∧ some k_ ≠ ((.slice Ao18 t650.length co18) : Value).ownBlock ∧ k_ ≠ gb646 ∧ k_ ≠ gb653) (.slice Ao15 t647.length co15) t647) ∧ Aside0 (Kd.N (Kd.slice 3 (Kd.int .i64)) 26 wc w.heap.size (fun k_ => some k_ ≠ ((.slice Ao9 t635.length co9) : Value).ownBlock ∧ some k_ ≠ ((.slice Ao11 t639.length co11) : Value).ownBlock ∧ some k_ ≠ ((.slice Ao12 t642.length co12) : Value).ownBlock ∧ some k_ ≠ ((.slice Ao15 t647.length co15) : Value).ownBlock ∧ k_ ≠ gb646 ∧ k_ ≠ gb653) (.slice Ao18 t650.length co18) t650) ∧ Aside0 (wc.heap[gb646]? = some (.cells #[(.slice Ao9 t635.length co9),.string t638,(.slice Ao11 t639.length co11),(.slice Ao12 t642.length co12)] 28 (0,0))) ∧ Aside0 (wc.heap[gb653]? = some (.cells #[(.slice Ao15 t647.length co15),(.slice Ao18 t650.length co18)] 32 (0,0))) ∧ Aside0 (Below w.heap.size w wc))
 case first =>
  have H := HC6.out
  clear HC6
  obtain ⟨⟨t654,t657⟩,A190,H⟩ := Option.bind_eq_some_iff.mp H
  try dsimp only at H
  have A19 := Aside0.mk A190
  clear A190
  obtain ⟨t660,A200,H⟩ := Option.bind_eq_some_iff.mp H
  have A20 := Aside0.mk A200
  clear A200
  by_cases c21 : t660 = true
  rotate_left
  ·replace c21 := Bool.eq_false_iff.mpr c21
   subst c21
   rw [if_neg Bool.false_ne_true] at H
   exact absurd ((laws_FnGrid.j0_stop H).symm.trans HRT.out) Z330
  subst c21
  rw [if_pos rfl] at H
  obtain ⟨⟨t661,t664⟩,A220,H⟩ := Option.bind_eq_some_iff.mp H
  try dsimp only at H
  have A22 := Aside0.mk A220
  clear A220
  obtain ⟨t667,A230,H⟩ := Option.bind_eq_some_iff.mp H
  have A23 := Aside0.mk A230
  clear A230
  have H' := Aside0.mk H
  clear H
  try go_wp2
  have n0_ : Aside0 (Kd.R Kd.string 9 ((w14.setCell ⟨gb653,0,none⟩ (.slice Ao15 t647.length co15)).setCell ⟨gb653,1,none⟩ (.slice Ao18 t650.length co18)) w.heap.size (fun _ => True) (.slice Ao9 t635.length co9) t635) := ⟨by (with_reducible repeat (first | apply Kd.R_alloc | apply Kd.R_drewN | apply Kd.R_drew));exact Kd.R_mono (Kd.R_far (p := ⟨gb653,1,none⟩) (Kd.R_far (p := ⟨gb653,0,none⟩) (Kd.R_types HO637.out BK653.out Z330) (fun _ hk => hk.2) (.slice Ao15 t647.length co15)) (fun _ hk => hk.2) (.slice Ao18 t650.length co18)) (fun _ hk => trivial)⟩
  have n1_ : Aside0 (Kd.N (Kd.slice 3 (Kd.int .i64)) 26 ((w14.setCell ⟨gb653,0,none⟩ (.slice Ao15 t647.length co15)).setCell ⟨gb653,1,none⟩ (.slice Ao18 t650.length co18)) w.heap.size (fun k_ => some k_ ≠ (.slice Ao9 t635.length co9 : Value).ownBlock ∧ some k_ ≠ (.slice Ao12 t642.length co12 : Value).ownBlock ∧ some k_ ≠ (.slice Ao15 t647.length co15 : Value).ownBlock ∧ some k_ ≠ (.slice Ao18 t650.length co18 : Value).ownBlock ∧ k_ ≠ gb646 ∧ k_ ≠ gb653) (.slice Ao11 t639.length co11) t639) := ⟨by (with_reducible repeat (first | apply Kd.N_alloc | apply Kd.N_drewN | apply Kd.N_drew));exact Kd.N_mono (Kd.N_far (p := ⟨gb653,1,none⟩) (Kd.N_far (p := ⟨gb653,0,none⟩) (Kd.N_mono HO641.out (fun k_ hk => (⟨hk,hk.2⟩ : _ ∧ k_ ≠ gb653))) (fun _ hk => hk.2) (.slice Ao15 t647.length co15)) (fun _ hk => hk.2) (.slice Ao18 t650.length co18)) (fun _ hk => ⟨hk.1.1.1.1.1.1,⟨hk.1.1.1.1.1.2,⟨hk.1.1.1.2,⟨hk.1.1.2,⟨hk.1.1.1.1.2,hk.1.2⟩⟩⟩⟩⟩)⟩
  have n2_ : Aside0 (Kd.R (Kd.int .i64) 3 ((w14.setCell ⟨gb653,0,none⟩ (.slice Ao15 t647.length co15)).setCell ⟨gb653,1,none⟩ (.slice Ao18 t650.length co18)) w.heap.size (fun _ => True) (.slice Ao12 t642.length co12) t642) := ⟨by (with_reducible repeat (first | apply Kd.R_alloc | apply Kd.R_drewN | apply Kd.R_drew));exact Kd.R_mono (Kd.R_far (p := ⟨gb653,1,none⟩) (Kd.R_far (p := ⟨gb653,0,none⟩) (Kd.R_types HO644.out BK653.out Z330) (fun _ hk => hk.2) (.slice Ao15 t647.length co15)) (fun _ hk => hk.2) (.slice Ao18 t650.length co18)) (fun _ hk => trivial)⟩
  have n3_ : Aside0 (Kd.N (Kd.slice 3 (Kd.int .i64)) 26 ((w14.setCell ⟨gb653,0,none⟩ (.slice Ao15 t647.length co15)).setCell ⟨gb653,1,none⟩ (.slice Ao18 t650.length co18)) w.heap.size (fun k_ => some k_ ≠ (.slice Ao9 t635.length co9 : Value).ownBlock ∧ some k_ ≠ (.slice Ao11 t639.length co11 : Value).ownBlock ∧ some k_ ≠ (.slice Ao12 t642.length co12 : Value).ownBlock ∧ some k_ ≠ (.slice Ao18 t650.length co18 : Value).ownBlock ∧ k_ ≠ gb646 ∧ k_ ≠ gb653) (.slice Ao15 t647.length co15) t647) := ⟨by (with_reducible repeat (first | apply Kd.N_alloc | apply Kd.N_drewN | apply Kd.N_drew));exact Kd.N_mono (Kd.N_far (p := ⟨gb653,1,none⟩) (Kd.N_far (p := ⟨gb653,0,none⟩) (Kd.N_mono HO649.out (fun k_ hk => (⟨hk,hk.2⟩ : _ ∧ k_ ≠ gb653))) (fun _ hk => hk.2) (.slice Ao15 t647.length co15)) (fun _ hk => hk.2) (.slice Ao18 t650.length co18)) (fun _ hk => ⟨hk.1.1.2.1,⟨hk.1.1.2.2.1,⟨hk.1.1.2.2.2.1,⟨hk.1.1.1,⟨hk.1.1.2.2.2.2,hk.1.2⟩⟩⟩⟩⟩)⟩
  have n4_ : Aside0 (Kd.N (Kd.slice 3 (Kd.int .i64)) 26 ((w14.setCell ⟨gb653,0,none⟩ (.slice Ao15 t647.length co15)).setCell ⟨gb653,1,none⟩ (.slice Ao18 t650.length co18)) w.heap.size (fun k_ => some k_ ≠ (.slice Ao9 t635.length co9 : Value).ownBlock ∧ some k_ ≠ (.slice Ao11 t639.length co11 : Value).ownBlock ∧ some k_ ≠ (.slice Ao12 t642.length co12 : Value).ownBlock ∧ some k_ ≠ (.slice Ao15 t647.length co15 : Value).ownBlock ∧ k_ ≠ gb646 ∧ k_ ≠ gb653) (.slice Ao18 t650.length co18) t650) := ⟨by (with_reducible repeat (first | apply Kd.N_alloc | apply Kd.N_drewN | apply Kd.N_drew));exact Kd.N_mono (Kd.N_far (p := ⟨gb653,1,none⟩) (Kd.N_far (p := ⟨gb653,0,none⟩) (Kd.N_mono HO652.out (fun k_ hk => (⟨hk,hk.2⟩ : _ ∧ k_ ≠ gb653))) (fun _ hk => hk.2) (.slice Ao15 t647.length co15)) (fun _ hk => hk.2) (.slice Ao18 t650.length co18)) (fun _ hk => ⟨hk.1.1.2.1,⟨hk.1.1.2.2.1,⟨hk.1.1.2.2.2.1,⟨hk.1.1.1,⟨hk.1.1.2.2.2.2,hk.1.2⟩⟩⟩⟩⟩)⟩
  have n5_ : Aside0 (((w14.setCell ⟨gb653,0,none⟩ (.slice Ao15 t647.length co15)).setCell ⟨gb653,1,none⟩ (.slice Ao18 t650.length co18)).heap[gb646]? = some (.cells #[.slice Ao9 t635.length co9,.string t638,.slice Ao11 t639.length co11,.slice Ao12 t642.length co12] 28 (0,0))) := ⟨by refine bP ?_;refine blk_far ?_ NB646_653.out _;refine bP ?_;refine blk_far ?_ NB646_653.out _;refine bP ?_;exact BK646.out⟩
  have n6_ : Aside0 (((w14.setCell ⟨gb653,0,none⟩ (.slice Ao15 t647.length co15)).setCell ⟨gb653,1,none⟩ (.slice Ao18 t650.length co18)).heap[gb653]? = some (.cells #[.slice Ao15 t647.length co15,.slice Ao18 t650.length co18] 32 (0,0))) := ⟨by refine bP ?_;refine blk_put (cs := #[.slice Ao15 t647.length co15,.slice none 0 0]) ?_ 1 _ rfl;refine bP ?_;refine blk_put (cs := #[.slice none 0 0,.slice none 0 0]) ?_ 0 _ rfl;refine bP ?_;exact BK653.out⟩
  have n7_ : Aside0 (Below w.heap.size w ((w14.setCell ⟨gb653,0,none⟩ (.slice Ao15 t647.length co15)).setCell ⟨gb653,1,none⟩ (.slice Ao18 t650.length co18))) := ⟨Z265⟩
  (try clear HO637)
  (try clear HO641)
  (try clear HO644)
  (try clear HO649)
  (try clear HO652)
  (try clear BK646)
  (try clear BK653)
  (try clear HB)
  generalize ((w14.setCell ⟨gb653,0,none⟩ (.slice Ao15 t647.length co15)).setCell ⟨gb653,1,none⟩ (.slice Ao18 t650.length co18)) = w24 at n0_ n1_ n2_ n3_ n4_ n5_ n6_ n7_ ⊢
  have HO637 := n0_
  have HO641 := n1_
  have HO644 := n2_
  have HO649 := n3_
  have HO652 := n4_
  have BK646 := n5_
  have BK653 := n6_
  have HB := n7_
  clear n0_ n1_ n2_ n3_ n4_ n5_ n6_ n7_
  have n_ := jA (Kd.R_drew HO637.out) (jA (Kd.N_drew HO641.out) (jA (Kd.R_drew HO644.out) (jA (Kd.N_drew HO649.out) (jA (Kd.N_drew HO652.out) (jA (blk_drew BK646.out) (jA (blk_drew BK653.out) (Aside0.mk (below_drew1 HB.out))))))))
  clear HO637 HO641 HO644 HO649 HO652 BK646 BK653 HB
  obtain ⟨HO637,HO641,HO644,HO649,HO652,BK646,BK653,HB⟩ := n_
  refine start_ (n := 14) (S := fun w' => w'.cell? ⟨gb653,0,none⟩ = some (.slice Ao15 t647.length co15) ∧ w'.cell? ⟨gb653,1,none⟩ = some (.slice Ao18 t650.length co18) ∧ w'.cell? ⟨gb646,0,none⟩ = some (.slice Ao9 t635.length co9) ∧ w'.cell? ⟨gb646,1,none⟩ = some (.string t638) ∧ w'.cell? ⟨gb646,2,none⟩ = some (.slice Ao11 t639.length co11) ∧ w'.cell? ⟨gb646,3,none⟩ = some (.slice Ao12 t642.length co12)) (ds := []) (qM 14 0) Z256 rfl (by kernel_rfl) ⟨bc BK653 0,bc BK653 1,bc BK646 0,bc BK646 1,bc BK646 2,bc BK646 3⟩ (fun hHeld => ?_);refine with_tabW laws_FnGrid.tab5 laws_FnGrid.bits5 (fun HT_ HW_ => ?_)
  generalize w24.drew = w25 at HO637 HO641 HO644 HO649 HO652 BK646 BK653 HB hHeld ⊢
  refine rP 2 18 14 4 HT_ (h := ?_)
  refine rT6 0 16 14 5 HT_ HW_ hHeld (h := ?_)
  refine rT6 1 17 14 7 HT_ HW_ hHeld (h := ?_)
  refine rO 3 19 14 15 HT_ (h := fun K hK => ?_)
  refine goes_ Try.func8 Z256 rfl #[.agg #[.slice Ao9 t635.length co9,.string t638,.slice Ao11 t639.length co11,.slice Ao12 t642.length co12],.int .i64 t645] Z257 rfl rfl Z159 ?_
  with_reducible refine (spec_GridOf.calls k _ _ t635 t638 _ _ t639 _ _ t642 t645 t654 t657 _ ?side1 ?side2 ?side3 ?side4 ?side5 ?side6 A19.out).mono ?_
  (case side1 => exact Z117)
  (case side2 => exact (Kd.R_reads' HO637.out).2.1)
  (case side3 => exact Z120)
  (case side4 => exact (Kd.N_reads' HO641.out).2.1)
  (case side5 => exact Z116)
  (case side6 => exact (Kd.R_reads' HO644.out).2.1)
  rintro e w26 ⟨v655,v658,rfl,ho0,ho1,hb⟩
  refine ⟨_,rfl,?_⟩
  have n_ := jA (Kd.R_below Z181 hb) (jA (Kd.N_mono (Kd.N_told (Kd.N_told (Kd.N_old Z182 hb) (Kd.R_base (Kd.S_R ho0))) (Kd.R_base (Kd.S_R ho1))) (fun _ h_ => h_.1)) (jA (Kd.R_below Z180 hb) (jA (Kd.N_mono (Kd.N_told (Kd.N_told (Kd.N_old Z184 hb) (Kd.R_base (Kd.S_R ho0))) (Kd.R_base (Kd.S_R ho1))) (fun _ h_ => h_.1)) (jA (Kd.N_mono (Kd.N_told (Kd.N_told (Kd.N_old Z183 hb) (Kd.R_base (Kd.S_R ho0))) (Kd.R_base (Kd.S_R ho1))) (fun _ h_ => h_.1)) (jA (Kd.N_lower (Kd.N_mono (ok' := fun k_ => some k_ ≠ (v658 : Value).ownBlock ∧ some k_ ≠ (.slice Ao9 t635.length co9 : Value).ownBlock ∧ some k_ ≠ (.slice Ao11 t639.length co11 : Value).ownBlock ∧ some k_ ≠ (.slice Ao12 t642.length co12 : Value).ownBlock ∧ some k_ ≠ (.slice Ao15 t647.length co15 : Value).ownBlock ∧ some k_ ≠ (.slice Ao18 t650.length co18 : Value).ownBlock ∧ k_ ≠ gb646 ∧ k_ ≠ gb653) (Kd.S_N (Kd.S_bound ho0)) (fun k_ hk_ => ⟨hk_.1,(Kd.fresh' (Kd.R_lt Z181) k_ hk_.2.1),(Kd.fresh' (Kd.N_lt Z182) k_ hk_.2.1),(Kd.fresh' (Kd.R_lt Z180) k_ hk_.2.1),(Kd.fresh' (Kd.N_lt Z184) k_ hk_.2.1),(Kd.fresh' (Kd.N_lt Z183) k_ hk_.2.1),(Kd.freshB (g := gb646) (o := .cells #[.slice Ao9 t635.length co9,.string t638,.slice Ao11 t639.length co11,.slice Ao12 t642.length co12] 28 (0,0)) Z322 k_ hk_.2.1),(Kd.freshB (g := gb653) (o := .cells #[.slice Ao15 t647.length co15,.slice Ao18 t650.length co18] 32 (0,0)) Z323 k_ hk_.2.1)⟩)) (below_size Z265)) (jA (Kd.N_lower (Kd.N_mono (ok' := fun k_ => some k_ ≠ (v655 : Value).ownBlock ∧ some k_ ≠ (.slice Ao9 t635.length co9 : Value).ownBlock ∧ some k_ ≠ (.slice Ao11 t639.length co11 : Value).ownBlock ∧ some k_ ≠ (.slice Ao12 t642.length co12 : Value).ownBlock ∧ some k_ ≠ (.slice Ao15 t647.length co15 : Value).ownBlock ∧ some k_ ≠ (.slice Ao18 t650.length co18 : Value).ownBlock ∧ k_ ≠ gb646 ∧ k_ ≠ gb653) (Kd.S_N (Kd.S_bound ho1)) (fun k_ hk_ => ⟨hk_.1,(Kd.fresh' (Kd.R_lt Z181) k_ hk_.2.1),(Kd.fresh' (Kd.N_lt Z182) k_ hk_.2.1),(Kd.fresh' (Kd.R_lt Z180) k_ hk_.2.1),(Kd.fresh' (Kd.N_lt Z184) k_ hk_.2.1),(Kd.fresh' (Kd.N_lt Z183) k_ hk_.2.1),(Kd.freshB (g := gb646) (o := .cells #[.slice Ao9 t635.length co9,.string t638,.slice Ao11 t639.length co11,.slice Ao12 t642.length co12] 28 (0,0)) Z322 k_ hk_.2.1),(Kd.freshB (g := gb653) (o := .cells #[.slice Ao15 t647.length co15,.slice Ao18 t650.length co18] 32 (0,0)) Z323 k_ hk_.2.1)⟩)) (below_size Z265)) (jA (blk_below (g := gb646) (o := .cells #[.slice Ao9 t635.length co9,.string t638,.slice Ao11 t639.length co11,.slice Ao12 t642.length co12] 28 (0,0)) Z322 hb) (jA (blk_below (g := gb653) (o := .cells #[.slice Ao15 t647.length co15,.slice Ao18 t650.length co18] 32 (0,0)) Z323 hb) (Aside0.mk (below_step Z265 hb))))))))))
  clear HO637 HO641 HO644 HO649 HO652 BK646 BK653 HB
  obtain ⟨HO637,HO641,HO644,HO649,HO652,HO656,HO659,BK646,BK653,HB⟩ := n_
  (try clear hb)
  (try clear hb2)
  (try clear hk)
  (try clear hi)
  (try clear ho0)
  (try clear ho1)
  obtain ⟨Ao27,co27,eo27⟩ := Kd.N_slice HO656.out
  (first | subst eo27 | (injection eo27 with f1_ f2_ f3_;have f4_ := f1_.symm;have f5_ := f3_.symm;clear f1_ f2_ f3_;subst f4_;subst f5_))
  obtain ⟨Ao28,co28,eo28⟩ := Kd.N_slice HO659.out
  (first | subst eo28 | (injection eo28 with f1_ f2_ f3_;have f4_ := f1_.symm;have f5_ := f3_.symm;clear f1_ f2_ f3_;subst f4_;subst f5_))
  refine hK.out _ _ ⟨bc BK653 0,bc BK653 1,bc BK646 0,bc BK646 1,bc BK646 2,bc BK646 3⟩ (fun hHeld => ?_)
  clear hK K
  refine rN (h := ?_)
  refine rO 4 20 14 31 HT_ (h := fun K hK => ?_)
  refine goes_ Try.func7 Z256 rfl #[.agg #[.slice Ao15 t647.length co15,.slice Ao18 t650.length co18],.agg #[.slice Ao27 t654.length co27,.slice Ao28 t657.length co28]] Z257 rfl rfl Z159 ?_
  with_reducible refine (spec_SameGrid.calls k _ _ t647 _ _ t650 _ _ t654 _ _ t657 true _ ?side1 ?side2 ?side3 ?side4 ?side5 ?side6 ?side7 ?side8 A20.out).mono ?_
  (case side1 => exact Z119)
  (case side2 => exact (Kd.N_reads' HO649.out).2.1)
  (case side3 => exact Z118)
  (case side4 => exact (Kd.N_reads' HO652.out).2.1)
  (case side5 => repeat (first | exact (Kd.N_reads' HO656.out).2.2 | (with_reducible refine Kd.C_alloc ?_ _) | (with_reducible refine Kd.C_drewN ?_ _) | (with_reducible refine Kd.C_drew ?_)))
  (case side6 => exact (Kd.N_reads' HO656.out).2.1)
  (case side7 => repeat (first | exact (Kd.N_reads' HO659.out).2.2 | (with_reducible refine Kd.C_alloc ?_ _) | (with_reducible refine Kd.C_drewN ?_ _) | (with_reducible refine Kd.C_drew ?_)))
  (case side8 => exact (Kd.N_reads' HO659.out).2.1)
  rintro e w29 ⟨rfl,hb⟩
  refine ⟨_,rfl,?_⟩
  have n_ := jA (Kd.R_below Z181 hb) (jA (Kd.N_below Z182 hb) (jA (Kd.R_below Z180 hb) (jA (Kd.N_below Z184 hb) (jA (Kd.N_below Z183 hb) (jA (Kd.N_below Z187 hb) (jA (Kd.N_below Z186 hb) (jA (blk_below (g := gb646) (o := .cells #[.slice Ao9 t635.length co9,.string t638,.slice Ao11 t639.length co11,.slice Ao12 t642.length co12] 28 (0,0)) Z322 hb) (jA (blk_below (g := gb653) (o := .cells #[.slice Ao15 t647.length co15,.slice Ao18 t650.length co18] 32 (0,0)) Z323 hb) (Aside0.mk (below_step Z265 hb))))))))))
  clear HO637 HO641 HO644 HO649 HO652 HO656 HO659 BK646 BK653 HB
  obtain ⟨HO637,HO641,HO644,HO649,HO652,HO656,HO659,BK646,BK653,HB⟩ := n_
  (try clear hb)
  (try clear hb2)
  (try clear hk)
  (try clear hi)
  refine hK.out _ _ ⟨bc BK653 0,bc BK653 1,bc BK646 0,bc BK646 1,bc BK646 2,bc BK646 3⟩ (fun hHeld => ?_)
  clear hK K
  refine rN (h := ?_)
  refine rP 5 21 14 63 HT_ (h := ?_)
  refine rP 6 22 14 127 HT_ (h := ?_)
  refine rP 9 25 14 639 HT_ (h := ?_)
  refine rT6 7 23 14 767 HT_ HW_ hHeld (h := ?_)
  refine rT6 8 24 14 1023 HT_ HW_ hHeld (h := ?_)
  refine rO 10 26 14 2047 HT_ (h := fun K hK => ?_)
  refine goes_ Try.func8 Z256 rfl #[.agg #[.slice Ao9 t635.length co9,.string t638,.slice Ao11 t639.length co11,.slice Ao12 t642.length co12],.int .i64 t645] Z257 rfl rfl Z159 ?_
  with_reducible refine (spec_GridOf.calls k _ _ t635 t638 _ _ t639 _ _ t642 t645 t661 t664 _ ?side1 ?side2 ?side3 ?side4 ?side5 ?side6 A22.out).mono ?_
  (case side1 => exact Z117)
  (case side2 => exact (Kd.R_reads' HO637.out).2.1)
  (case side3 => exact Z120)
  (case side4 => exact (Kd.N_reads' HO641.out).2.1)
  (case side5 => exact Z116)
  (case side6 => exact (Kd.R_reads' HO644.out).2.1)
  rintro e w30 ⟨v662,v665,rfl,ho0,ho1,hb⟩
  refine ⟨_,rfl,?_⟩
  have n_ := jA (Kd.R_below Z181 hb) (jA (Kd.N_mono (Kd.N_told (Kd.N_told (Kd.N_old Z182 hb) (Kd.R_base (Kd.S_R ho0))) (Kd.R_base (Kd.S_R ho1))) (fun _ h_ => h_.1)) (jA (Kd.R_below Z180 hb) (jA (Kd.N_mono (Kd.N_told (Kd.N_told (Kd.N_old Z184 hb) (Kd.R_base (Kd.S_R ho0))) (Kd.R_base (Kd.S_R ho1))) (fun _ h_ => h_.1)) (jA (Kd.N_mono (Kd.N_told (Kd.N_told (Kd.N_old Z183 hb) (Kd.R_base (Kd.S_R ho0))) (Kd.R_base (Kd.S_R ho1))) (fun _ h_ => h_.1)) (jA (Kd.N_mono (Kd.N_told (Kd.N_told (Kd.N_old Z187 hb) (Kd.R_base (Kd.S_R ho0))) (Kd.R_base (Kd.S_R ho1))) (fun _ h_ => h_.1)) (jA (Kd.N_mono (Kd.N_told (Kd.N_told (Kd.N_old Z186 hb) (Kd.R_base (Kd.S_R ho0))) (Kd.R_base (Kd.S_R ho1))) (fun _ h_ => h_.1)) (jA (Kd.N_lower (Kd.N_mono (ok' := fun k_ => some k_ ≠ (v665 : Value).ownBlock ∧ some k_ ≠ (.slice Ao9 t635.length co9 : Value).ownBlock ∧ some k_ ≠ (.slice Ao11 t639.length co11 : Value).ownBlock ∧ some k_ ≠ (.slice Ao12 t642.length co12 : Value).ownBlock ∧ some k_ ≠ (.slice Ao15 t647.length co15 : Value).ownBlock ∧ some k_ ≠ (.slice Ao18 t650.length co18 : Value).ownBlock ∧ some k_ ≠ (.slice Ao27 t654.length co27 : Value).ownBlock ∧ some k_ ≠ (.slice Ao28 t657.length co28 : Value).ownBlock ∧ k_ ≠ gb646 ∧ k_ ≠ gb653) (Kd.S_N (Kd.S_bound ho0)) (fun k_ hk_ => ⟨hk_.1,(Kd.fresh' (Kd.R_lt Z181) k_ hk_.2.1),(Kd.fresh' (Kd.N_lt Z182) k_ hk_.2.1),(Kd.fresh' (Kd.R_lt Z180) k_ hk_.2.1),(Kd.fresh' (Kd.N_lt Z184) k_ hk_.2.1),(Kd.fresh' (Kd.N_lt Z183) k_ hk_.2.1),(Kd.fresh' (Kd.N_lt Z187) k_ hk_.2.1),(Kd.fresh' (Kd.N_lt Z186) k_ hk_.2.1),(Kd.freshB (g := gb646) (o := .cells #[.slice Ao9 t635.length co9,.string t638,.slice Ao11 t639.length co11,.slice Ao12 t642.length co12] 28 (0,0)) Z322 k_ hk_.2.1),(Kd.freshB (g := gb653) (o := .cells #[.slice Ao15 t647.length co15,.slice Ao18 t650.length co18] 32 (0,0)) Z323 k_ hk_.2.1)⟩)) (below_size Z265)) (jA (Kd.N_lower (Kd.N_mono (ok' := fun k_ => some k_ ≠ (v662 : Value).ownBlock ∧ some k_ ≠ (.slice Ao9 t635.length co9 : Value).ownBlock ∧ some k_ ≠ (.slice Ao11 t639.length co11 : Value).ownBlock ∧ some k_ ≠ (.slice Ao12 t642.length co12 : Value).ownBlock ∧ some k_ ≠ (.slice Ao15 t647.length co15 : Value).ownBlock ∧ some k_ ≠ (.slice Ao18 t650.length co18 : Value).ownBlock ∧ some k_ ≠ (.slice Ao27 t654.length co27 : Value).ownBlock ∧ some k_ ≠ (.slice Ao28 t657.length co28 : Value).ownBlock ∧ k_ ≠ gb646 ∧ k_ ≠ gb653) (Kd.S_N (Kd.S_bound ho1)) (fun k_ hk_ => ⟨hk_.1,(Kd.fresh' (Kd.R_lt Z181) k_ hk_.2.1),(Kd.fresh' (Kd.N_lt Z182) k_ hk_.2.1),(Kd.fresh' (Kd.R_lt Z180) k_ hk_.2.1),(Kd.fresh' (Kd.N_lt Z184) k_ hk_.2.1),(Kd.fresh' (Kd.N_lt Z183) k_ hk_.2.1),(Kd.fresh' (Kd.N_lt Z187) k_ hk_.2.1),(Kd.fresh' (Kd.N_lt Z186) k_ hk_.2.1),(Kd.freshB (g := gb646) (o := .cells #[.slice Ao9 t635.length co9,.string t638,.slice Ao11 t639.length co11,.slice Ao12 t642.length co12] 28 (0,0)) Z322 k_ hk_.2.1),(Kd.freshB (g := gb653) (o := .cells #[.slice Ao15 t647.length co15,.slice Ao18 t650.length co18] 32 (0,0)) Z323 k_ hk_.2.1)⟩)) (below_size Z265)) (jA (blk_below (g := gb646) (o := .cells #[.slice Ao9 t635.length co9,.string t638,.slice Ao11 t639.length co11,.slice Ao12 t642.length co12] 28 (0,0)) Z322 hb) (jA (blk_below (g := gb653) (o := .cells #[.slice Ao15 t647.length co15,.slice Ao18 t650.length co18] 32 (0,0)) Z323 hb) (Aside0.mk (below_step Z265 hb))))))))))))
  clear HO637 HO641 HO644 HO649 HO652 HO656 HO659 BK646 BK653 HB
  obtain ⟨HO637,HO641,HO644,HO649,HO652,HO656,HO659,HO663,HO666,BK646,BK653,HB⟩ := n_
  (try clear hb)
  (try clear hb2)
  (try clear hk)
  (try clear hi)
  (try clear ho0)
  (try clear ho1)
  obtain ⟨Ao31,co31,eo31⟩ := Kd.N_slice HO663.out
  (first | subst eo31 | (injection eo31 with f1_ f2_ f3_;have f4_ := f1_.symm;have f5_ := f3_.symm;clear f1_ f2_ f3_;subst f4_;subst f5_))
  obtain ⟨Ao32,co32,eo32⟩ := Kd.N_slice HO666.out
  (first | subst eo32 | (injection eo32 with f1_ f2_ f3_;have f4_ := f1_.symm;have f5_ := f3_.symm;clear f1_ f2_ f3_;subst f4_;subst f5_))
  refine hK.out _ _ ⟨bc BK653 0,bc BK653 1,bc BK646 0,bc BK646 1,bc BK646 2,bc BK646 3⟩ (fun hHeld => ?_)
  clear hK K
  refine rN (h := ?_)
  refine rO 11 27 14 4095 HT_ (h := fun K hK => ?_)
  refine goes_ Try.func9 Z256 rfl #[.agg #[.slice Ao15 t647.length co15,.slice Ao18 t650.length co18],.agg #[.slice Ao31 t661.length co31,.slice Ao32 t664.length co32]] Z257 rfl rfl Z159 ?_
  with_reducible refine (impl_SameGrid.calls k _ _ t647 _ _ t650 _ _ t661 _ _ t664 t667 _ ?side1 ?side2 ?side3 ?side4 ?side5 ?side6 ?side7 ?side8 A23.out).mono ?_
  (case side1 => exact Z119)
  (case side2 => exact (Kd.N_reads' HO649.out).2.1)
  (case side3 => exact Z118)
  (case side4 => exact (Kd.N_reads' HO652.out).2.1)
  (case side5 => repeat (first | exact (Kd.N_reads' HO663.out).2.2 | (with_reducible refine Kd.C_alloc ?_ _) | (with_reducible refine Kd.C_drewN ?_ _) | (with_reducible refine Kd.C_drew ?_)))
  (case side6 => exact (Kd.N_reads' HO663.out).2.1)
  (case side7 => repeat (first | exact (Kd.N_reads' HO666.out).2.2 | (with_reducible refine Kd.C_alloc ?_ _) | (with_reducible refine Kd.C_drewN ?_ _) | (with_reducible refine Kd.C_drew ?_)))
  (case side8 => exact (Kd.N_reads' HO666.out).2.1)
  rintro e w33 ⟨rfl,hb⟩
  refine ⟨_,rfl,?_⟩
  have n_ := jA (Kd.R_below Z181 hb) (jA (Kd.N_below Z182 hb) (jA (Kd.R_below Z180 hb) (jA (Kd.N_below Z184 hb) (jA (Kd.N_below Z183 hb) (jA (Kd.N_below Z187 hb) (jA (Kd.N_below Z186 hb) (jA (Kd.N_below (by (with_reducible repeat (first | apply Kd.N_alloc | apply Kd.N_drewN | apply Kd.N_drew));exact HO663.out) hb) (jA (Kd.N_below (by (with_reducible repeat (first | apply Kd.N_alloc | apply Kd.N_drewN | apply Kd.N_drew));exact HO666.out) hb) (jA (blk_below (g := gb646) (o := .cells #[.slice Ao9 t635.length co9,.string t638,.slice Ao11 t639.length co11,.slice Ao12 t642.length co12] 28 (0,0)) Z322 hb) (jA (blk_below (g := gb653) (o := .cells #[.slice Ao15 t647.length co15,.slice Ao18 t650.length co18] 32 (0,0)) Z323 hb) (Aside0.mk (below_step Z265 hb))))))))))))
  clear HO637 HO641 HO644 HO649 HO652 HO656 HO659 HO663 HO666 BK646 BK653 HB
  obtain ⟨HO637,HO641,HO644,HO649,HO652,HO656,HO659,HO663,HO666,BK646,BK653,HB⟩ := n_
  (try clear hb)
  (try clear hb2)
  (try clear hk)
  (try clear hi)
  refine hK.out _ _ ⟨bc BK653 0,bc BK653 1,bc BK646 0,bc BK646 1,bc BK646 2,bc BK646 3⟩ (fun hHeld => ?_)
  clear hK K
  refine rN (h := ?_)
  refine rP 12 28 14 8191 HT_ (h := ?_)
  refine rP 13 29 14 16383 HT_ (h := ?_)
  refine done_ (done_of HT_.out Z256) ?_
  try go_wp2
  go_meet
  case rel => exact ⟨_,(!t667),Z230,H',⟨Z240⟩,⟨Z181⟩,⟨by (with_reducible repeat (first | apply Kd.N_alloc | apply Kd.N_drewN | apply Kd.N_drew));exact Kd.N_mono HO641.out (fun _ hk => ⟨hk.1.1.1.1.1,⟨hk.1.1.1.1.2.1,⟨hk.1.1.1.1.2.2.1,⟨hk.1.1.1.1.2.2.2.1,⟨hk.1.1.1.1.2.2.2.2.1,hk.1.1.1.1.2.2.2.2.2⟩⟩⟩⟩⟩)⟩,⟨Z180⟩,⟨by (with_reducible repeat (first | apply Kd.N_alloc | apply Kd.N_drewN | apply Kd.N_drew));exact Kd.N_mono HO649.out (fun _ hk => ⟨hk.1.1.1.1.1,⟨hk.1.1.1.1.2.1,⟨hk.1.1.1.1.2.2.1,⟨hk.1.1.1.1.2.2.2.1,⟨hk.1.1.1.1.2.2.2.2.1,hk.1.1.1.1.2.2.2.2.2⟩⟩⟩⟩⟩)⟩,⟨by (with_reducible repeat (first | apply Kd.N_alloc | apply Kd.N_drewN | apply Kd.N_drew));exact Kd.N_mono HO652.out (fun _ hk => ⟨hk.1.1.1.1.1,⟨hk.1.1.1.1.2.1,⟨hk.1.1.1.1.2.2.1,⟨hk.1.1.1.1.2.2.2.1,⟨hk.1.1.1.1.2.2.2.2.1,hk.1.1.1.1.2.2.2.2.2⟩⟩⟩⟩⟩)⟩,⟨Z322⟩,⟨Z323⟩,⟨Z265⟩⟩
 case rest =>
  clear HC6
  try clear c1
  try clear c2
  try clear p2
  try clear c3
  try clear c4
  try clear c5
  try clear c6
  try clear c7
  try clear c8
  try clear c9
  try clear c16
  try clear c21
  obtain ⟨kq,x29_5,rfl,HA,HJ5,HO_647000,HO_647002,HO_647003,HO_654000,HO_654001,BK646,BK653,HB⟩ := hcut
  cases kq with
  | zero => exact absurd HA.out (by simp [laws_FnGrid.j0])
  | succ kj5 =>
   have H := HA.out
   clear HA
   simp only [laws_FnGrid.j0] at H
   by_cases c34 : x29_5 = true
   ·subst c34
    rw [if_pos rfl] at H
    exact absurd ((Option.some.inj H).trans HRT.out) Z330
   replace c34 := Bool.eq_false_iff.mpr c34
   subst c34
   rw [if_neg Bool.false_ne_true] at H
   have HC35 := Aside0.mk H
   clear H
   go_upto_region 7 with (fail)
   go_cut [40] (fun v40 wc => ∃ (kq : Nat) (x40_34 : Bool),v40 = .bool x40_34 ∧ Aside0 (laws_FnGrid.j1 kq x40_34 t635 t638 t639 t642 t647 t650 = some r) ∧ Aside0 (kq ≤ kj5) ∧ Aside0 (Kd.R Kd.string 9 wc w.heap.size (fun _ => True) (.slice Ao9 t635.length co9) t635) ∧ Aside0 (Kd.N (Kd.slice 3 (Kd.int .i64)) 26 wc w.heap.size (fun k_ => some k_ ≠ ((.slice Ao9 t635.length co9) : Value).ownBlock ∧ some k_ ≠ ((.slice Ao12 t642.length co12) : Value).ownBlock ∧ some k_ ≠ ((.slice Ao15 t647.length co15) : Value).ownBlock ∧ some k_ ≠ ((.slice Ao18 t650.length co18) : Value).ownBlock ∧ k_ ≠ gb646 ∧ k_ ≠ gb653) (.slice Ao11 t639.length co11) t639) ∧ Aside0 (Kd.R (Kd.int .i64) 3 wc w.heap.size (fun _ => True) (.slice Ao12 t642.length co12) t642) ∧ Aside0 (Kd.N (Kd.slice 3 (Kd.int .i64)) 26 wc w.heap.size (fun k_ => some k_ ≠ ((.slice Ao9 t635.length co9) : Value).ownBlock ∧ some k_ ≠ ((.slice Ao11 t639.length co11) : Value).ownBlock ∧ some k_ ≠ ((.slice Ao12 t642.length co12) : Value).ownBlock ∧ some k_ ≠ ((.slice Ao18 t650.length co18) : Value).ownBlock ∧ k_ ≠ gb646 ∧ k_ ≠ gb653) (.slice Ao15 t647.length co15) t647) ∧ Aside0 (Kd.N (Kd.slice 3 (Kd.int .i64)) 26 wc w.heap.size (fun k_ => some k_ ≠ ((.slice Ao9 t635.length co9) : Value).ownBlock ∧ some k_ ≠ ((.slice Ao11 t639.length co11) : Value).ownBlock ∧ some k_ ≠ ((.slice Ao12 t642.length co12) : Value).ownBlock ∧ some k_ ≠ ((.slice Ao15 t647.length co15) : Value).ownBlock ∧ k_ ≠ gb646 ∧ k_ ≠ gb653) (.slice Ao18 t650.length co18) t650) ∧ Aside0 (wc.heap[gb646]? = some (.cells #[(.slice Ao9 t635.length co9),.string t638,(.slice Ao11 t639.length co11),(.slice Ao12 t642.length co12)] 28 (0,0))) ∧ Aside0 (wc.heap[gb653]? = some (.cells #[(.slice Ao15 t647.length co15),(.slice Ao18 t650.length co18)] 32 (0,0))) ∧ Aside0 (Below w.heap.size w wc))
   case first =>
    have H := HC35.out
    clear HC35
    obtain ⟨t668,A360,H⟩ := Option.bind_eq_some_iff.mp H
    have A36 := Aside0.mk A360
    clear A360
    by_cases c37 : t668 = true
    rotate_left
    ·replace c37 := Bool.eq_false_iff.mpr c37
     subst c37
     rw [if_neg Bool.false_ne_true] at H
     have H' := Aside0.mk H
     clear H
     have hnb45 := NB646_653.out
     have hnc45 := NB653_646.out
     obtain ⟨hcz46_0,hcz46_1,hcz46_2,hcz46_3,hfz46_0,hfz46_1,hfz46_2,hfz46_3⟩ := cells4 BK646.out
     go_wp2_with (first | ((with_reducible refine gate_callee (f := 10) rfl ?_);refine goesL_ (some 31) rfl rfl Try.func10 Z256 rfl #[.agg #[.slice Ao9 t635.length co9,.string t638,.slice Ao11 t639.length co11,.slice Ao12 t642.length co12]] rfl Z159 ?_;(with_reducible refine (spec_TableOk.calls kj5 _ _ t635 t638 _ _ t639 _ _ t642 false _ ?side1 ?side2 ?side3 ?side4 ?side5 ?side6 A36.out).mono ?_);(case side1 => exact Z100);(case side2 => exact Z236);(case side3 => exact Z103);(case side4 => exact Z239);(case side5 => exact Z99);(case side6 => exact Z235);rintro e w47 ⟨rfl,hb⟩;refine ⟨_,rfl,?_⟩;have n_ := Z5;clear HO_647000 HO_647002 HO_647003 HO_654000 HO_654001 BK646 BK653 HB;obtain ⟨HO_647000,HO_647002,HO_647003,HO_654000,HO_654001,BK646,BK653,HB⟩ := n_;(try clear hb);(try clear hb2);(try clear hk);(try clear hi)))
     go_meet
     case rel => exact ⟨_,(true),Z230,H',⟨Z227⟩,⟨Z297⟩,⟨Z300⟩,⟨Z296⟩,⟨Z299⟩,⟨Z298⟩,⟨Z322⟩,⟨Z323⟩,⟨Z265⟩⟩
    subst c37
    rw [if_pos rfl] at H
    by_cases c38 : t645 < 2
    ·rw [if_pos c38] at H
     have c38b0 : decide (t645 < 2) = true := decide_eq_true c38
     clear c38
     (first | rw [c38b0] | (simp only [i64_w,i32_w];rw [c38b0]) | skip)
     have H' := Aside0.mk H
     clear H
     have hnb39 := NB646_653.out
     have hnc39 := NB653_646.out
     obtain ⟨hcz40_0,hcz40_1,hcz40_2,hcz40_3,hfz40_0,hfz40_1,hfz40_2,hfz40_3⟩ := cells4 BK646.out
     go_wp2_with (first | ((with_reducible refine gate_callee (f := 10) rfl ?_);refine goesL_ (some 31) rfl rfl Try.func10 Z256 rfl #[.agg #[.slice Ao9 t635.length co9,.string t638,.slice Ao11 t639.length co11,.slice Ao12 t642.length co12]] rfl Z159 ?_;(with_reducible refine (spec_TableOk.calls kj5 _ _ t635 t638 _ _ t639 _ _ t642 true _ ?side1 ?side2 ?side3 ?side4 ?side5 ?side6 A36.out).mono ?_);(case side1 => exact Z100);(case side2 => exact Z236);(case side3 => exact Z103);(case side4 => exact Z239);(case side5 => exact Z99);(case side6 => exact Z235);rintro e w41 ⟨rfl,hb⟩;refine ⟨_,rfl,?_⟩;have n_ := Z5;clear HO_647000 HO_647002 HO_647003 HO_654000 HO_654001 BK646 BK653 HB;obtain ⟨HO_647000,HO_647002,HO_647003,HO_654000,HO_654001,BK646,BK653,HB⟩ := n_;(try clear hb);(try clear hb2);(try clear hk);(try clear hi)))
     go_meet
     case rel => exact ⟨_,(true),Z230,H',⟨Z227⟩,⟨Z297⟩,⟨Z300⟩,⟨Z296⟩,⟨Z299⟩,⟨Z298⟩,⟨Z322⟩,⟨Z323⟩,⟨Z265⟩⟩
    rw [if_neg c38] at H
    have c38b0 : decide (t645 < 2) = false := decide_eq_false c38
    clear c38
    (first | rw [c38b0] | (simp only [i64_w,i32_w];rw [c38b0]) | skip)
    have H' := Aside0.mk H
    clear H
    have hnb42 := NB646_653.out
    have hnc42 := NB653_646.out
    obtain ⟨hcz43_0,hcz43_1,hcz43_2,hcz43_3,hfz43_0,hfz43_1,hfz43_2,hfz43_3⟩ := cells4 BK646.out
    go_wp2_with (first | ((with_reducible refine gate_callee (f := 10) rfl ?_);refine goesL_ (some 31) rfl rfl Try.func10 Z256 rfl #[.agg #[.slice Ao9 t635.length co9,.string t638,.slice Ao11 t639.length co11,.slice Ao12 t642.length co12]] rfl Z159 ?_;(with_reducible refine (spec_TableOk.calls kj5 _ _ t635 t638 _ _ t639 _ _ t642 true _ ?side1 ?side2 ?side3 ?side4 ?side5 ?side6 A36.out).mono ?_);(case side1 => exact Z100);(case side2 => exact Z236);(case side3 => exact Z103);(case side4 => exact Z239);(case side5 => exact Z99);(case side6 => exact Z235);rintro e w44 ⟨rfl,hb⟩;refine ⟨_,rfl,?_⟩;have n_ := Z5;clear HO_647000 HO_647002 HO_647003 HO_654000 HO_654001 BK646 BK653 HB;obtain ⟨HO_647000,HO_647002,HO_647003,HO_654000,HO_654001,BK646,BK653,HB⟩ := n_;(try clear hb);(try clear hb2);(try clear hk);(try clear hi)))
    go_meet
    case rel => exact ⟨_,(decide (t645 > 8)),Z230,H',⟨Z227⟩,⟨Z297⟩,⟨Z300⟩,⟨Z296⟩,⟨Z299⟩,⟨Z298⟩,⟨Z322⟩,⟨Z323⟩,⟨Z265⟩⟩
   case rest =>
    clear HC35
    try clear c1
    try clear c2
    try clear p2
    try clear c3
    try clear c4
    try clear c5
    try clear c6
    try clear c7
    try clear c8
    try clear c9
    try clear c10
    try clear c16
    try clear c21
    try clear c34
    try clear c37
    try clear c38
    try clear c38b0
    try clear c39
    try clear c42
    try clear c45
    try clear p2
    obtain ⟨kq,x40_34,rfl,HA,HJ34,HO_647000,HO_647002,HO_647003,HO_654000,HO_654001,BK646,BK653,HB⟩ := hcut
    cases kq with
    | zero => exact absurd HA.out (by simp [laws_FnGrid.j1])
    | succ kj34 =>
     have H := HA.out
     clear HA
     simp only [laws_FnGrid.j1] at H
     by_cases c48 : x40_34 = true
     ·subst c48
      rw [if_pos rfl] at H
      by_cases c49 : (t647.length : Int) = 0
      rotate_left
      ·rw [if_neg c49] at H
       have c49b0 : ((t647.length : Int) == 0) = false := beq_eq_false_iff_ne.mpr c49
       have c49b1 : ((t647.length : Int) != 0) = true := bne_iff_ne.mpr c49
       have c49b2 : ¬ (t647 = []) := fun h_ => c49 (by rw [h_];rfl)
       exact absurd ((Option.some.inj H).trans HRT.out) Z330
      rw [if_pos c49] at H
      have c49b0 : ((t647.length : Int) == 0) = true := beq_iff_eq.mpr c49
      have c49b1 : ((t647.length : Int) != 0) = false := bne_eq_false_iff_eq.mpr c49
      clear c49
      obtain rfl := Option.some.inj H
      have hnb50 := NB653_646.out
      have hnc50 := NB646_653.out
      obtain ⟨hcz51_0,hcz51_1,hfz51_0,hfz51_1⟩ := cells2 BK653.out
      go_wp2
      go_ret
      exact ⟨Z212,Z265⟩
     replace c48 := Bool.eq_false_iff.mpr c48
     subst c48
     rw [if_neg Bool.false_ne_true] at H
     obtain ⟨t669,A520,H⟩ := Option.bind_eq_some_iff.mp H
     have A52 := Aside0.mk A520
     clear A520
     by_cases c53 : t669 = true
     rotate_left
     ·replace c53 := Bool.eq_false_iff.mpr c53
      subst c53
      rw [if_neg Bool.false_ne_true] at H
      exact absurd ((Option.some.inj H).trans HRT.out) Z330
     subst c53
     rw [if_pos rfl] at H
     obtain ⟨t670,A540,H⟩ := Option.bind_eq_some_iff.mp H
     have A54 := Aside0.mk A540
     clear A540
     by_cases c55 : t670 = true
     rotate_left
     ·replace c55 := Bool.eq_false_iff.mpr c55
      subst c55
      rw [if_neg Bool.false_ne_true] at H
      exact absurd ((Option.some.inj H).trans HRT.out) Z330
     subst c55
     rw [if_pos rfl] at H
     obtain ⟨t671,A560,H⟩ := Option.bind_eq_some_iff.mp H
     have A56 := Aside0.mk A560
     clear A560
     by_cases c57 : t671 = (t639.length : Int)
     rotate_left
     ·rw [if_neg c57] at H
      have c57b0 : (t671 == (t639.length : Int)) = false := beq_eq_false_iff_ne.mpr c57
      have c57b1 : (t671 != (t639.length : Int)) = true := bne_iff_ne.mpr c57
      exact absurd ((Option.some.inj H).trans HRT.out) Z330
     rw [if_pos c57] at H
     have c57b0 : (t671 == (t639.length : Int)) = true := beq_iff_eq.mpr c57
     have c57b1 : (t671 != (t639.length : Int)) = false := bne_eq_false_iff_eq.mpr c57
     clear c57
     obtain rfl := Option.some.inj H
     try go_wp2
     have n_ := jA (Kd.R_drew HO_647000.out) (jA (Kd.N_drew HO_647002.out) (jA (Kd.R_drew HO_647003.out) (jA (Kd.N_drew HO_654000.out) (jA (Kd.N_drew HO_654001.out) (jA (blk_drew BK646.out) (jA (blk_drew BK653.out) (Aside0.mk (below_drew1 HB.out))))))))
     clear HO_647000 HO_647002 HO_647003 HO_654000 HO_654001 BK646 BK653 HB
     obtain ⟨HO_647000,HO_647002,HO_647003,HO_654000,HO_654001,BK646,BK653,HB⟩ := n_
     refine start_ (n := 24) (S := fun w' => w'.cell? ⟨gb653,0,none⟩ = some (.slice Ao15 t647.length co15) ∧ w'.cell? ⟨gb653,1,none⟩ = some (.slice Ao18 t650.length co18) ∧ w'.cell? ⟨gb646,0,none⟩ = some (.slice Ao9 t635.length co9) ∧ w'.cell? ⟨gb646,1,none⟩ = some (.string t638) ∧ w'.cell? ⟨gb646,2,none⟩ = some (.slice Ao11 t639.length co11) ∧ w'.cell? ⟨gb646,3,none⟩ = some (.slice Ao12 t642.length co12)) (ds := []) (qM 24 0) Z256 rfl (by kernel_rfl) ⟨bc BK653 0,bc BK653 1,bc BK646 0,bc BK646 1,bc BK646 2,bc BK646 3⟩ (fun hHeld => ?_);refine with_tabW laws_FnGrid.tab9 laws_FnGrid.bits9 (fun HT_ HW_ => ?_)
     generalize wc.drew = w58 at HO_647000 HO_647002 HO_647003 HO_654000 HO_654001 BK646 BK653 HB hHeld ⊢
     refine rT6 0 51 24 1 HT_ HW_ hHeld (h := ?_)
     refine rO 1 52 24 3 HT_ (h := fun K hK => ?_)
     refine goes_ Try.func11 Z256 rfl #[.agg #[.slice Ao15 t647.length co15,.slice Ao18 t650.length co18]] Z257 rfl rfl Z159 ?_
     with_reducible refine (impl_GridOk.calls kj34 _ _ t647 _ _ t650 true _ ?side1 ?side2 ?side3 ?side4 A52.out).mono ?_
     (case side1 => exact Z102)
     (case side2 => exact Z238)
     (case side3 => exact Z101)
     (case side4 => exact Z237)
     rintro e w59 ⟨rfl,hb⟩
     refine ⟨_,rfl,?_⟩
     have n_ := jA (Kd.R_below Z297 hb) (jA (Kd.N_below Z300 hb) (jA (Kd.R_below Z296 hb) (jA (Kd.N_below Z299 hb) (jA (Kd.N_below Z298 hb) (jA (blk_below (g := gb646) (o := .cells #[.slice Ao9 t635.length co9,.string t638,.slice Ao11 t639.length co11,.slice Ao12 t642.length co12] 28 (0,0)) Z322 hb) (jA (blk_below (g := gb653) (o := .cells #[.slice Ao15 t647.length co15,.slice Ao18 t650.length co18] 32 (0,0)) Z323 hb) (Aside0.mk (below_step Z265 hb))))))))
     clear HO_647000 HO_647002 HO_647003 HO_654000 HO_654001 BK646 BK653 HB
     obtain ⟨HO_647000,HO_647002,HO_647003,HO_654000,HO_654001,BK646,BK653,HB⟩ := n_
     (try clear hb)
     (try clear hb2)
     (try clear hk)
     (try clear hi)
     refine hK.out _ _ ⟨bc BK653 0,bc BK653 1,bc BK646 0,bc BK646 1,bc BK646 2,bc BK646 3⟩ (fun hHeld => ?_)
     clear hK K
     refine rN (h := ?_)
     refine rP 2 53 24 7 HT_ (h := ?_)
     refine rT6 3 54 24 15 HT_ HW_ hHeld (h := ?_)
     refine rO 4 55 24 31 HT_ (h := fun K hK => ?_)
     refine goes_ Try.func12 Z256 rfl #[.agg #[.slice Ao15 t647.length co15,.slice Ao18 t650.length co18]] Z257 rfl rfl Z159 ?_
     with_reducible refine (spec_GridOk.calls kj34 _ _ t647 _ _ t650 true _ ?side1 ?side2 ?side3 ?side4 A54.out).mono ?_
     (case side1 => exact Z102)
     (case side2 => exact Z238)
     (case side3 => exact Z101)
     (case side4 => exact Z237)
     rintro e w60 ⟨rfl,hb⟩
     refine ⟨_,rfl,?_⟩
     have n_ := jA (Kd.R_below Z297 hb) (jA (Kd.N_below Z300 hb) (jA (Kd.R_below Z296 hb) (jA (Kd.N_below Z299 hb) (jA (Kd.N_below Z298 hb) (jA (blk_below (g := gb646) (o := .cells #[.slice Ao9 t635.length co9,.string t638,.slice Ao11 t639.length co11,.slice Ao12 t642.length co12] 28 (0,0)) Z322 hb) (jA (blk_below (g := gb653) (o := .cells #[.slice Ao15 t647.length co15,.slice Ao18 t650.length co18] 32 (0,0)) Z323 hb) (Aside0.mk (below_step Z265 hb))))))))
     clear HO_647000 HO_647002 HO_647003 HO_654000 HO_654001 BK646 BK653 HB
     obtain ⟨HO_647000,HO_647002,HO_647003,HO_654000,HO_654001,BK646,BK653,HB⟩ := n_
     (try clear hb)
     (try clear hb2)
     (try clear hk)
     (try clear hi)
     refine hK.out _ _ ⟨bc BK653 0,bc BK653 1,bc BK646 0,bc BK646 1,bc BK646 2,bc BK646 3⟩ (fun hHeld => ?_)
     clear hK K
     refine rN (h := ?_)
     refine rP 5 56 24 63 HT_ (h := ?_)
     refine rP 6 57 24 127 HT_ (h := ?_)
     refine rP 9 60 24 639 HT_ (h := ?_)
     refine rT6 7 58 24 767 HT_ HW_ hHeld (h := ?_)
     refine rT6 10 61 24 1791 HT_ HW_ hHeld (h := ?_)
     refine rP 11 62 24 3839 HT_ (h := ?_)
     refine rO 8 59 24 4095 HT_ (h := fun K hK => ?_)
     refine goes_ Try.func13 Z256 rfl #[.agg #[.slice Ao15 t647.length co15,.slice Ao18 t650.length co18]] Z257 rfl rfl Z159 ?_
     with_reducible refine (impl_RowsIn.calls _ _ t647 _ _ t650 t671 _ ?side1 ?side2 ?side3 ?side4 A56.out).mono ?_
     (case side1 => exact Z102)
     (case side2 => exact Z238)
     (case side3 => exact Z101)
     (case side4 => exact Z237)
     rintro e w61 ⟨rfl,hb⟩
     refine ⟨_,rfl,?_⟩
     have n_ := jA (Kd.R_below Z297 hb) (jA (Kd.N_below Z300 hb) (jA (Kd.R_below Z296 hb) (jA (Kd.N_below Z299 hb) (jA (Kd.N_below Z298 hb) (jA (blk_below (g := gb646) (o := .cells #[.slice Ao9 t635.length co9,.string t638,.slice Ao11 t639.length co11,.slice Ao12 t642.length co12] 28 (0,0)) Z322 hb) (jA (blk_below (g := gb653) (o := .cells #[.slice Ao15 t647.length co15,.slice Ao18 t650.length co18] 32 (0,0)) Z323 hb) (Aside0.mk (below_step Z265 hb))))))))
     clear HO_647000 HO_647002 HO_647003 HO_654000 HO_654001 BK646 BK653 HB
     obtain ⟨HO_647000,HO_647002,HO_647003,HO_654000,HO_654001,BK646,BK653,HB⟩ := n_
     (try clear hb)
     (try clear hb2)
     (try clear hk)
     (try clear hi)
     refine hK.out _ _ ⟨bc BK653 0,bc BK653 1,bc BK646 0,bc BK646 1,bc BK646 2,bc BK646 3⟩ (fun hHeld => ?_)
     clear hK K
     refine rN (h := ?_)
     refine rP 12 63 24 8191 HT_ (h := ?_)
     refine rP 13 64 24 16383 HT_ (h := ?_)
     refine rP 14 65 24 32767 HT_ (h := ?_)
     refine rP 15 66 24 65535 HT_ (h := ?_)
     refine rP 18 69 24 327679 HT_ (h := ?_)
     refine rT6 16 67 24 393215 HT_ HW_ hHeld (h := ?_)
     refine rP 17 68 24 524287 HT_ (h := ?_)
     refine rT6 19 70 24 1048575 HT_ HW_ hHeld (h := ?_)
     refine rP 20 71 24 2097151 HT_ (h := ?_)
     refine rP 21 72 24 4194303 HT_ (h := ?_)
     refine rP 22 73 24 8388607 HT_ (h := ?_)
     refine rP 23 2 24 16777215 HT_ (h := ?_)
     refine done_ (done_of HT_.out Z256) ?_
     try go_wp2
     go_ret
     exact ⟨Z212,Z265⟩

/-- THE ONE PURE STATEMENT of laws_FnGrid: yours. -/
def laws_FnGrid.Pure : Prop := ∀ (l0 : List Int),l0.length ≤ maxLen → l0.length * 1 ≤ 140737488351232 → (∀ x ∈ l0,(Lit.int .u8 x).wf = true) → ∃ k,laws_FnGrid.f k l0 = some true
theorem laws_FnGrid.walk (P : laws_FnGrid.Pure) (a0 : Option Addr) (len0 cap0 : Nat) (z0 : List Int) (w : World) (w0 : (a0 = none ∧ len0 = 0 ∧ cap0 = 0 ∧ z0 = []) ∨ ∃ x,a0 = some x ∧ len0 ≤ cap0 ∧ cap0 ≤ maxLen ∧ z0.length = cap0 ∧ (∀ i,i < z0.length → w.cell? (x.add i) = some (.int .u8 (z0.getD i 0))) ∧ ∀ n ∈ z0,(Lit.int .u8 n).wf = true) (y0 : len0 * 1 ≤ 140737488351232) :
  Calls Try.prog 3 #[.slice a0 len0 cap0] w fun e w' => e = .returned (.bool true) ∧ Below w.heap.size w w' := by
 obtain ⟨l0,rfl,hr0,hm0,hw0,hc0⟩ := ReadsInt.ofRowC w0
 obtain ⟨k,h⟩ := P l0 hm0 y0 hw0
 refine (laws_FnGrid.calls k _ _ l0 true w (Kd.C_of_reads (d := (0 : Int)) (h1 := fun _ => rfl) hr0) hc0 h rfl).mono ?_
 rintro e w' ⟨rfl,hd⟩
 exact ⟨rfl,hd⟩

end Go.Proofs.Ytlflcgdcegohjab.QFnGrid
