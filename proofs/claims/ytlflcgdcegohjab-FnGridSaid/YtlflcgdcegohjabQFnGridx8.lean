/- The machine side of FnGrid: what each Go function that it reaches comes to. Conditions: none. -/
import Derived.Test.YtlflcgdcegohjabShelfB
import Derived.Test.YtlflcgdcegohjabQFnGridx0
import Derived.Test.YtlflcgdcegohjabQFnGridx1
namespace Go.Proofs.Ytlflcgdcegohjab.QFnGrid
open Go.RowKit Go.Proofs.YtlflcgdcegohjabW.PrintWords Go.Proofs.YtlflcgdcegohjabW.PrintLast Go.Proofs.YtlflcgdcegohjabW.PrintMore
attribute [local go_sem] max2_int min2_int max_two min_two max_three min_three max_four min_four   -- for this text's walks alone
set_option linter.unusedVariables false
set_option linter.unusedSimpArgs false

/-! ### impl_Column: function 19 -/
def impl_Column.l0 : Nat → Int → List Int → List (List Int) → Int → Int → Option (List Int)
 | 0,_,_,_,_,_ => none
 | k + 1,x1,x5,x19,x20,x21 => if x21 < x20 then (if 0 ≤ x21 then (if x21 < (x19.length : Int) then (if x1 < ((rd_L3 x19 x21).length : Int) then (if 0 ≤ x1 then (if x5.length < 17592186044416 then (impl_Column.l0 k x1 (x5 ++ [rd (rd_L3 x19 x21) x1]) x19 x20 (wrap64 (x21 + 1))) else (none)) else (none)) else (if x5.length < 17592186044416 then (impl_Column.l0 k x1 (x5 ++ [0]) x19 x20 (wrap64 (x21 + 1))) else (none))) else (none)) else (none)) else (some x5)
def impl_Column.f (k : Nat) (l0_0 : List ByteArray) (a0_1 : ByteArray) (l0_2 : List (List Int)) (l0_3 : List Int) (a1 : Int) : Option (List Int) := (some (([] : List Int) : List Int)).bind fun y364 => ((impl_within.f a1 0 (wrap64 ((l0_0.length : Int) - 1))).bind fun t367 => (if t367 = true then (impl_Column.l0 k a1 y364 l0_2 (l0_2.length : Int) 0) else (some y364)))
theorem impl_Column.mono_l : ∀ k,(∀ y0 y1 y2 y3 y4,LeO (impl_Column.l0 k y0 y1 y2 y3 y4) (impl_Column.l0 (k + 1) y0 y1 y2 y3 y4))
 | 0 => fun _ _ _ _ _ r h => by simp [impl_Column.l0] at h
 | k + 1 => by
  have ih0 := impl_Column.mono_l k
  ·intro y0 y1 y2 y3 y4
   unfold impl_Column.l0
   repeat' first
   | (with_reducible exact ih0 _ _ _ _ _)
   | (with_reducible exact LeO.refl _)
   | (with_reducible exact LeO.none _)
   | (with_reducible refine LeO.ite ?_ ?_)
   | (with_reducible refine LeO.bind ?_ (fun _ => ?_))
   | exact ih0 _ _ _ _ _
   | exact LeO.none _
   | refine LeO.ite ?_ ?_
   | refine LeO.bind ?_ (fun _ => ?_)
theorem impl_Column.mono : ∀ a0 a1 a2 a3 a4 k,LeO (impl_Column.f k a0 a1 a2 a3 a4) (impl_Column.f (k + 1) a0 a1 a2 a3 a4) := by
 intro a0 a1 a2 a3 a4 k
 have ih0 := impl_Column.mono_l k
 unfold impl_Column.f
 repeat' first
   | (with_reducible exact ih0 _ _ _ _ _)
   | (with_reducible exact LeO.refl _)
   | (with_reducible exact LeO.none _)
   | (with_reducible refine LeO.ite ?_ ?_)
   | (with_reducible refine LeO.bind ?_ (fun _ => ?_))
   | exact ih0 _ _ _ _ _
   | exact LeO.none _
   | refine LeO.ite ?_ ?_
   | refine LeO.bind ?_ (fun _ => ?_)
set_option maxHeartbeats 8000000 in
set_option maxRecDepth 100000 in
theorem impl_Column.calls (k : Nat) (A0_0 : Option Addr) (c0_0 : Nat) (l0_0 : List ByteArray) (a0_1 : ByteArray) (A0_2 : Option Addr) (c0_2 : Nat) (l0_2 : List (List Int)) (A0_3 : Option Addr) (c0_3 : Nat) (l0_3 : List Int) (a1 : Int) (r : List Int) (w : World) (hr0_0 : Kd.C Kd.string w A0_0 l0_0.length l0_0) (hc0_0 : l0_0.length ≤ c0_0) (hr0_2 : Kd.C (Kd.slice 3 (Kd.int .i64)) w A0_2 l0_2.length l0_2) (hc0_2 : l0_2.length ≤ c0_2) (hr0_3 : Kd.C (Kd.int .i64) w A0_3 l0_3.length l0_3) (hc0_3 : l0_3.length ≤ c0_3) (h : impl_Column.f k l0_0 a0_1 l0_2 l0_3 a1 = some r) :
  Calls Try.prog 19 #[.agg #[.slice A0_0 l0_0.length c0_0,.string a0_1,.slice A0_2 l0_2.length c0_2,.slice A0_3 l0_3.length c0_3],.int .i64 a1] w fun e w' => ∃ v0_ : Value,e = .returned (v0_) ∧ Kd.R (Kd.int .i64) 3 w' w.heap.size (fun _ => True) v0_ r ∧ Below w.heap.size w w' := by
 have hu28 := Try.underlying28
 have HR0_0 := Aside0.mk hr0_0
 have HC0_0 := Aside0.mk hc0_0
 clear hr0_0 hc0_0
 have HR0_2 := Aside0.mk hr0_2
 have HC0_2 := Aside0.mk hc0_2
 clear hr0_2 hc0_2
 have HR0_3 := Aside0.mk hr0_3
 have HC0_3 := Aside0.mk hc0_3
 clear hr0_3 hc0_3
 have HB := Aside0.mk (Below.refl w.heap.size w)
 have H := h
 clear h
 unfold impl_Column.f at H
 obtain ⟨y364,hyy⟩ : ∃ y_ : List Int,y_ = (([] : List Int)) := ⟨_,rfl⟩
 replace H : ((impl_within.f a1 0 (wrap64 ((l0_0.length : Int) - 1))).bind fun t367 => (if t367 = true then (impl_Column.l0 k a1 y364 l0_2 (l0_2.length : Int) 0) else (some y364))) = some r := zR
 have Ny364 := Aside0.mk hyy
 clear hyy
 obtain ⟨t367,A30,H⟩ := Option.bind_eq_some_iff.mp H
 have A3 := Aside0.mk A30
 clear A30
 by_cases c4 : t367 = true
 rotate_left
 ·replace c4 := Bool.eq_false_iff.mpr c4
  subst c4
  rw [if_neg Bool.false_ne_true] at H
  obtain rfl := Option.some.inj H
  go_enter Try.func19,Try.ntmps19
  go_wp2_with (first | ((with_reducible refine gate_dst (N := 2) rfl ?_);refine bE 2 #[.slice A0_0 l0_0.length c0_0,.string a0_1,.slice A0_2 l0_2.length c0_2,.slice A0_3 l0_3.length c0_3] 28 (h := ?_);intro gb363 hg wq1 hbox hb;have n_ := Z23;clear HB;obtain ⟨HB,BK363,GW363,GE363⟩ := n_;clear hb hbox hg) | ((with_reducible refine gate_dst (N := 9) rfl ?_);refine Kd.R_lit (Kd.int .i64) _ 3 ?hg (N := 9) ?hd (xs := ([] : List Int)) (inner := []) (ok := fun _ => True) (okp := fun _ => True) ?hr ?hp (fun _ hk => hk) trivial (Below.refl _ _) (Nat.le_refl _) Z332 ?_;(case hd => rfl);(case hg => rfl);(case hr => exact Z231);(case hp => exact Z252);intro vq2 wq3 hoq4 hb hg_ hnew_;clear hg_ hnew_;(first | rw [← Ny364.out] at hoq4 | (simp only [Int.reduceToNat] at hoq4;rw [← Ny364.out] at hoq4));have n_ := jA (Kd.R_lower hoq4 (below_size Z282)) (jA (blk_below (g := gb363) (o := .cells #[.slice A0_0 l0_0.length c0_0,.string a0_1,.slice A0_2 l0_2.length c0_2,.slice A0_3 l0_3.length c0_3] 28 (0,0)) Z327 hb) (Aside0.mk (below_step Z282 hb)));clear BK363 HB;obtain ⟨HO366,BK363,HB⟩ := n_;clear hb hoq4;obtain ⟨hczq5_0,hczq5_1,hczq5_2,hczq5_3,hfzq5_0,hfzq5_1,hfzq5_2,hfzq5_3⟩ := cells4 BK363.out) | ((with_reducible refine gate_callee (f := 18) rfl ?_);refine goesL_ (some 15) rfl rfl Try.func18 Z256 rfl #[.int .i64 a1,.int .i64 0,.int .i64 (wrap64 ((l0_0.length : Int) - 1))] rfl Z159 ?_;(with_reducible refine (impl_within.calls a1 0 (wrap64 ((l0_0.length : Int) - 1)) false _ A3.out).mono ?_);rintro e w' ⟨rfl,⟨nd,rfl⟩⟩;refine ⟨_,rfl,?_⟩))
  go_ret
  exact ⟨_,Z212,Z208,Z282⟩
 subst c4
 rw [if_pos rfl] at H
 have H' := Aside0.mk H
 clear H
 go_enter Try.func19,Try.ntmps19
 go_wp2_with (first | ((with_reducible refine gate_dst (N := 2) rfl ?_);refine bE 2 #[.slice A0_0 l0_0.length c0_0,.string a0_1,.slice A0_2 l0_2.length c0_2,.slice A0_3 l0_3.length c0_3] 28 (h := ?_);intro gb363 hg w5 hbox hb;have n_ := Z23;clear HB;obtain ⟨HB,BK363,GW363,GE363⟩ := n_;clear hb hbox hg) | ((with_reducible refine gate_dst (N := 9) rfl ?_);refine Kd.R_lit (Kd.int .i64) _ 3 ?hg (N := 9) ?hd (xs := ([] : List Int)) (inner := []) (ok := fun _ => True) (okp := fun _ => True) ?hr ?hp (fun _ hk => hk) trivial (Below.refl _ _) (Nat.le_refl _) Z332 ?_;(case hd => rfl);(case hg => rfl);(case hr => exact Z231);(case hp => exact Z252);intro v365 w6 ho7 hb hg_ hnew_;clear hg_ hnew_;(first | rw [← Ny364.out] at ho7 | (simp only [Int.reduceToNat] at ho7;rw [← Ny364.out] at ho7));have n_ := jA (Kd.R_lower ho7 (below_size Z282)) (jA (blk_below (g := gb363) (o := .cells #[.slice A0_0 l0_0.length c0_0,.string a0_1,.slice A0_2 l0_2.length c0_2,.slice A0_3 l0_3.length c0_3] 28 (0,0)) Z327 hb) (Aside0.mk (below_step Z282 hb)));clear BK363 HB;obtain ⟨HO366,BK363,HB⟩ := n_;clear hb ho7;obtain ⟨hcz8_0,hcz8_1,hcz8_2,hcz8_3,hfz8_0,hfz8_1,hfz8_2,hfz8_3⟩ := cells4 BK363.out) | ((with_reducible refine gate_callee (f := 18) rfl ?_);refine goesL_ (some 15) rfl rfl Try.func18 Z256 rfl #[.int .i64 a1,.int .i64 0,.int .i64 (wrap64 ((l0_0.length : Int) - 1))] rfl Z159 ?_;(with_reducible refine (impl_within.calls a1 0 (wrap64 ((l0_0.length : Int) - 1)) true _ A3.out).mono ?_);rintro e w' ⟨rfl,⟨nd,rfl⟩⟩;refine ⟨_,rfl,?_⟩))
 go_loopg [5,21] k (fun kq v5 v21 w' => ∃ (x5_1 : List Int) (x21_1 : Int),v21 = .int .i64 x21_1 ∧ Aside0 (impl_Column.l0 kq a1 x5_1 l0_2 (l0_2.length : Int) x21_1 = some r) ∧ Aside0 (kq ≤ k) ∧ Aside0 (Kd.R (Kd.int .i64) 3 w' w.heap.size (fun _ => True) v5 x5_1) ∧ Aside0 (w'.heap[gb363]? = some (.cells #[(.slice A0_0 l0_0.length c0_0),.string a0_1,(.slice A0_2 l0_2.length c0_2),(.slice A0_3 l0_3.length c0_3)] 28 (0,0))) ∧ Aside0 (Below w.heap.size w w'))
 case atStart => exact ⟨(y364),(0),Z230,H',⟨Nat.le_refl _⟩,⟨Z208⟩,⟨Z327⟩,⟨Z282⟩⟩
 case round =>
  clear H'
  try clear c1
  try clear p2
  try clear c4
  try clear p6
  obtain ⟨x5_1,x21_1,rfl,HA,HK1,HO_5,BK363,HB⟩ := hrel
  cases gk with
  | zero => exact absurd HA.out (by simp [impl_Column.l0])
  | succ k1 =>
   have H := HA.out
   clear HA
   simp only [impl_Column.l0] at H
   by_cases c9 : x21_1 < (l0_2.length : Int)
   rotate_left
   ·rw [if_neg c9] at H
    have c9b0 : decide (x21_1 < (l0_2.length : Int)) = false := decide_eq_false c9
    clear c9
    obtain rfl := Option.some.inj H
    go_wp2
    go_ret
    exact ⟨_,Z212,Z312,Z282⟩
   rw [if_pos c9] at H
   have c9b0 : decide (x21_1 < (l0_2.length : Int)) = true := decide_eq_true c9
   clear c9
   obtain ⟨c10,H⟩ := ifp H
   have c10b0 : decide (0 ≤ x21_1) = true := decide_eq_true c10
   clear c10
   obtain ⟨c11,H⟩ := ifp H
   have c11b0 : decide (x21_1 < (l0_2.length : Int)) = true := decide_eq_true c11
   clear c11
   by_cases c12 : a1 < ((rd_L3 l0_2 x21_1).length : Int)
   rotate_left
   ·rw [if_neg c12] at H
    have c12b0 : decide (a1 < ((rd_L3 l0_2 x21_1).length : Int)) = false := decide_eq_false c12
    clear c12
    obtain ⟨c16,H⟩ := ifp H
    have LMc16 := Aside0.mk c16
    clear c16
    obtain ⟨y373,hyy⟩ : ∃ y_ : List Int,y_ = (x5_1 ++ [0]) := ⟨_,rfl⟩
    replace H : (impl_Column.l0 k1 a1 y373 l0_2 (l0_2.length : Int) (wrap64 (x21_1 + 1))) = some r := zR
    have Ny373 := Aside0.mk hyy
    clear hyy
    have H' := Aside0.mk H
    clear H
    have p368 : 0 ≤ (x21_1 : Int) := of_decide_eq_true Z229
    have q368 : x21_1 < (l0_2.length : Int) := of_decide_eq_true Z229
    obtain ⟨ad368,A368_0,c368_0,e368,hx368_0,hl368_0,hi368_0⟩ := at_L3 HR0_2.out x21_1 p368 q368
    cases e368
    replace hx368_0 := (HB.out.cell (World.block_lt_of_cell? w _ hx368_0)).trans hx368_0
    have HR368_0 := Aside0.mk hi368_0
    have HC368_0 := Aside0.mk hl368_0
    clear hi368_0 hl368_0
    replace p368 := eq_true p368
    replace q368 := eq_true q368
    go_wp2_with (first | ((with_reducible refine gate_builtin (b := .append) (xs := #[.tmp 33,.tmp 35]) rfl ?_);at_builtin;refine Kd.R_append (Kd.int .i64) (w0 := w) w.heap.size rfl (.tmp 33) (.tmp 35) 26 3 (.int .i64 0) 8 rfl Try.underlying26 info3 rfl Z330 Z331 u5 x5_1 0 [.int .i64 0] (fun _ => True) (fun _ => False) rfl rfl ?aP (fun _ hk => hk.elim) ?aF ?aO ?aB ?aS ?aL ?_;(case aP => exact rfl);(case aB => exact Z112);(case aF => exact Z250);(case aO => exact Z166);(case aS => exact Z97);(case aL => have := LMc16.out;omega);intro v374 w17 ho hb hg hat;rw [← Ny373.out] at ho;have n_ := Z51;clear BK363 HB HO_5;obtain ⟨BK363,HB,HO375⟩ := n_;clear ho hb hg hat))
    go_roundg k1
    case measure => have := HK1.out;omega
    case rel => exact ⟨(y373),(wrap64 (x21_1 + 1)),Z230,H',⟨Z251⟩,⟨by (with_reducible repeat (first | apply Kd.R_alloc | apply Kd.R_drewN | apply Kd.R_drew));exact HO375.out⟩,⟨Z327⟩,⟨Z282⟩⟩
   rw [if_pos c12] at H
   have c12b0 : decide (a1 < ((rd_L3 l0_2 x21_1).length : Int)) = true := decide_eq_true c12
   clear c12
   obtain ⟨c13,H⟩ := ifp H
   have c13b0 : decide (0 ≤ a1) = true := decide_eq_true c13
   clear c13
   obtain ⟨c14,H⟩ := ifp H
   have LMc14 := Aside0.mk c14
   clear c14
   obtain ⟨y370,hyy⟩ : ∃ y_ : List Int,y_ = (x5_1 ++ [rd (rd_L3 l0_2 x21_1) a1]) := ⟨_,rfl⟩
   replace H : (impl_Column.l0 k1 a1 y370 l0_2 (l0_2.length : Int) (wrap64 (x21_1 + 1))) = some r := zR
   have Ny370 := Aside0.mk hyy
   clear hyy
   have H' := Aside0.mk H
   clear H
   have p368 : 0 ≤ (x21_1 : Int) := of_decide_eq_true Z229
   have q368 : x21_1 < (l0_2.length : Int) := of_decide_eq_true Z229
   obtain ⟨ad368,A368_0,c368_0,e368,hx368_0,hl368_0,hi368_0⟩ := at_L3 HR0_2.out x21_1 p368 q368
   cases e368
   replace hx368_0 := (HB.out.cell (World.block_lt_of_cell? w _ hx368_0)).trans hx368_0
   have HR368_0 := Aside0.mk hi368_0
   have HC368_0 := Aside0.mk hl368_0
   clear hi368_0 hl368_0
   replace p368 := eq_true p368
   replace q368 := eq_true q368
   have p369 : 0 ≤ (a1 : Int) := of_decide_eq_true Z229
   have q369 : a1 < ((rd_L3 l0_2 x21_1).length : Int) := of_decide_eq_true Z229
   obtain ⟨ad369,e369,hx369_0⟩ := Kd.at_int HR368_0.out a1 p369 q369
   cases e369
   replace hx369_0 := (HB.out.cell (World.block_lt_of_cell? w _ hx369_0)).trans hx369_0
   replace p369 := eq_true p369
   replace q369 := eq_true q369
   go_wp2_with (first | ((with_reducible refine gate_builtin (b := .append) (xs := #[.tmp 33,.tmp 35]) rfl ?_);at_builtin;refine Kd.R_append (Kd.int .i64) (w0 := w) w.heap.size rfl (.tmp 33) (.tmp 35) 26 3 (.int .i64 0) 8 rfl Try.underlying26 info3 rfl Z330 Z331 u5 x5_1 (rd (rd_L3 l0_2 x21_1) a1) [.int .i64 (rd (rd_L3 l0_2 x21_1) a1)] (fun _ => True) (fun _ => False) rfl rfl ?aP (fun _ hk => hk.elim) ?aF ?aO ?aB ?aS ?aL ?_;(case aP => exact rfl);(case aB => exact Z112);(case aF => exact Z250);(case aO => exact Z166);(case aS => exact Z97);(case aL => have := LMc14.out;omega);intro v371 w15 ho hb hg hat;rw [← Ny370.out] at ho;have n_ := Z51;clear BK363 HB HO_5;obtain ⟨BK363,HB,HO372⟩ := n_;clear ho hb hg hat))
   go_roundg k1
   case measure => have := HK1.out;omega
   case rel => exact ⟨(y370),(wrap64 (x21_1 + 1)),Z230,H',⟨Z251⟩,⟨by (with_reducible repeat (first | apply Kd.R_alloc | apply Kd.R_drewN | apply Kd.R_drew));exact HO372.out⟩,⟨Z327⟩,⟨Z282⟩⟩

/-! ### slices_Clone_int_int: function 62 -/
def slices_Clone_int_int.f (l0 : List Int) : Option (List Int) := if l0.length * 8 ≤ 140737488355328 then some l0 else none
theorem slices_Clone_int_int.calls (A0 : Option Addr) (c0 : Nat) (l0 : List Int) (r : List Int) (w : World) (hr0 : Kd.C (Kd.int .i64) w A0 l0.length l0) (hc0 : l0.length ≤ c0) (h : slices_Clone_int_int.f l0 = some r) :
  Calls Try.prog 62 #[.slice A0 l0.length c0] w fun e w' => ∃ v0_ : Value,e = .returned (v0_) ∧ Kd.R (Kd.int .i64) 3 w' w.heap.size (fun _ => True) v0_ r ∧ Below w.heap.size w w' := by
 unfold slices_Clone_int_int.f at h
 by_cases hb : l0.length * 8 ≤ 140737488355328
 rotate_left
 ·rw [if_neg hb] at h;cases h
 rw [if_pos hb] at h
 obtain rfl := Option.some.inj h
 rcases Nat.eq_zero_or_pos l0.length with h0 | h0
 ·obtain rfl := List.length_eq_zero_iff.mp h0
  cases A0 with
  | none => exact (Try.slices_Clone_int_nil _ _ w).mono fun e w' ⟨he,hw⟩ => ⟨_,he,Kd.R_nil _ _ _ _ _,hw ▸ Below.refl _ _⟩
  | some a => exact (Try.slices_Clone_int_zero a _ w).mono fun e w' ⟨v,he,ho,_,hb⟩ => ⟨v,he,Kd.R_of_own (enc := Value.int .i64) ho (fun _ _ => trivial),hb⟩
 obtain ⟨_,_,hc'⟩ := hr0
 obtain ⟨⟨b,off,f⟩,rfl,hc⟩ := hc' h0
 clear hc'
 have hk : ∀ j,j < l0.length → w.cell? (if j = 0 then ⟨b,off,f⟩ else ⟨b,off + j,none⟩) = some (.int .i64 (l0.getD j 0)) := by
  intro j hj
  obtain ⟨c,_,hcr,hcell⟩ := hc j _ (List.getElem?_eq_getElem hj)
  have hcr : c = [Value.int .i64 l0[j]] := hcr
  have := hcell 0 (.int .i64 l0[j]) (by rw [hcr];rfl)
  simpa [Kd.int,Kd.scalar,Addr.add,List.getD,List.getElem?_eq_getElem hj] using this
 obtain rfl : f = none := by
  have := hk 0 h0
  cases f with
  | none => rfl
  | some _ =>
   simp only [if_true,World.cell?,Option.isSome_some] at this
   split at this <;> simp at this
 have hk : ∀ j,j < l0.length → w.cell? ⟨b,off + j,none⟩ = some (.int .i64 (l0.getD j 0)) := by
  intro j hj
  have := hk j hj
  by_cases e : j = 0
  rotate_left
  ·rwa [if_neg e] at this
  subst e;simpa using this
 exact (Try.slices_Clone_int b off _ _ l0 w (Nat.le_refl _) hb hk).mono fun e w' ⟨v,he,ho,_,hb⟩ => ⟨v,he,Kd.R_of_own (enc := Value.int .i64) (by simpa [encs] using ho) (fun _ _ => trivial),hb⟩

/-! ### slices_Sort_int_int: function 63 -/
def slices_Sort_int_int.f (l0 : List Int) : Option (List Int) := if l0.length < 4611686018427387904 then some (l0.mergeSort fun x y => decide (x ≤ y)) else none
theorem slices_Sort_int_int.calls (P0_ : Nat → Prop) (u9000_ : Value) (l0 : List Int) (r : List Int) (w0 w : World) (hB : Below w0.heap.size w0 w) (ho0 : Kd.R (Kd.int .i64) 3 w w0.heap.size P0_ u9000_ l0) (h : slices_Sort_int_int.f l0 = some r) :
  Calls Try.prog 63 #[u9000_] w fun e w' => e = .returned (.tuple #[]) ∧ Kd.R (Kd.int .i64) 3 w' w0.heap.size (fun k_ => (P0_ k_ ∨ w.heap.size ≤ k_)) u9000_ r ∧ Below w0.heap.size w0 w' ∧ Kept w w' (fun k_ => P0_ k_) := by
 unfold slices_Sort_int_int.f at h
 by_cases hlt : l0.length < 4611686018427387904
 rotate_left
 ·rw [if_neg hlt] at h;cases h
 rw [if_pos hlt] at h
 obtain rfl := Option.some.inj h
 have hown := Kd.own_of_R ho0
 have hP := ho0.1
 rcases hown.2 with ⟨rfl,h0⟩ | ⟨g,cap,cur,rfl,hg,hh,h1,h2,h3,h4⟩
 ·obtain rfl := List.length_eq_zero_iff.mp h0
  refine (Try.slices_Sort_int_none none 0 w).mono fun e w' ⟨he,hw⟩ => ?_
  subst hw
  exact ⟨he,by simpa using Kd.R_nil _ _ _ _ _,hB,Nat.le_refl _,fun _ _ _ => rfl⟩
 have hH := holds_of_blockI (ss := l0) hh (by simpa [encs] using h4)
 have hgl := (Array.getElem?_eq_some_iff.1 hh).1
 have hPg : P0_ g := hP g rfl
 refine (Try.slices_Sort_int g 0 cap l0 w hH hgl hlt).mono fun e w' ⟨he,n,os,hw⟩ => ?_
 subst hw
 have hl : (l0.mergeSort fun x y => decide (x ≤ y)).length = l0.length := List.length_mergeSort _
 have hgr := grownBy_sortedI (w := w) (g := g) (n := n) (os := os) (l0.mergeSort fun x y => decide (x ≤ y)).toArray
 have ho := ownsRow_sortedI (n := n) (os := os) hl hg hh h1 h2 h3
 refine ⟨he,Kd.R_of_own (enc := Value.int .i64) (by rw [hl];simpa [encs] using ho) (fun k hk => .inl (hP k hk)),hB.grown hgr hB.size (fun k hk => by cases hk;exact hg),hgr.size,fun i hi hn => hgr.block i hi (fun e => hn (by cases e;exact hPg))⟩

/-! ### impl_SortInts: function 45 -/
def impl_SortInts.f (l0 : List Int) : Option (List Int) := (slices_Clone_int_int.f l0).bind fun t376 => ((slices_Sort_int_int.f t376).bind fun t379 => (some t379))
set_option maxHeartbeats 8000000 in
set_option maxRecDepth 100000 in
theorem impl_SortInts.calls (A0 : Option Addr) (c0 : Nat) (l0 : List Int) (r : List Int) (w : World) (hr0 : Kd.C (Kd.int .i64) w A0 l0.length l0) (hc0 : l0.length ≤ c0) (h : impl_SortInts.f l0 = some r) :
  Calls Try.prog 45 #[.slice A0 l0.length c0] w fun e w' => ∃ v0_ : Value,e = .returned (v0_) ∧ Kd.R (Kd.int .i64) 3 w' w.heap.size (fun _ => True) v0_ r ∧ Below w.heap.size w w' := by
 have HR0 := Aside0.mk hr0
 have HC0 := Aside0.mk hc0
 clear hr0 hc0
 have HB := Aside0.mk (Below.refl w.heap.size w)
 have H : ((slices_Clone_int_int.f l0).bind fun t376 => ((slices_Sort_int_int.f t376).bind fun t379 => (some t379))) = some r := h
 clear h
 obtain ⟨t376,A20,H⟩ := Option.bind_eq_some_iff.mp H
 have A2 := Aside0.mk A20
 clear A20
 obtain ⟨t379,A30,H⟩ := Option.bind_eq_some_iff.mp H
 have A3 := Aside0.mk A30
 clear A30
 obtain rfl := Option.some.inj H
 go_enter Try.func45,Try.ntmps45
 go_wp2_with (first | ((with_reducible refine gate_callee (f := 62) rfl ?_);refine goesL_ (some 5) rfl rfl Try.func62 Z256 rfl #[.slice A0 l0.length c0] rfl Z159 ?_;(with_reducible refine (slices_Clone_int_int.calls _ _ l0 t376 _ ?side1 ?side2 A2.out).mono ?_);(case side1 => exact Z141);(case side2 => exact Z254);rintro e wq1 ⟨vq2,rfl,hoq3,hb⟩;refine ⟨_,rfl,?_⟩;have n_ := Z32;clear HB;obtain ⟨HO378,HB⟩ := n_;(try clear hb);(try clear hb2);(try clear hk);(try clear hi);(try clear hoq3);obtain ⟨Aoq4,coq4,eoq4⟩ := Kd.R_slice HO378.out;subst eoq4) | ((with_reducible refine gate_callee (f := 63) rfl ?_);refine goesL_ (some 7) rfl rfl Try.func63 Z256 rfl #[.slice Aoq4 t376.length coq4] rfl Z159 ?_;(with_reducible refine (slices_Sort_int_int.calls (fun k_ => some k_ = (.slice Aoq4 t376.length coq4 : Value).ownBlock) (.slice Aoq4 t376.length coq4) t376 t379 w _ ?side1 ?side2 A3.out).mono ?_);(case side1 => exact Z336);(case side2 => exact Kd.R_tight rfl HO378.out);rintro e wq5 ⟨rfl,hyq3,hb,hkp⟩;refine ⟨_,rfl,?_⟩;have n_ := jA (Kd.R_reok rfl hyq3 (fun k_ e_ => HO378.out.1 k_ e_)) (Aside0.mk (hb));clear HO378 HB;obtain ⟨HO378,HB⟩ := n_;(try clear hb);(try clear hkp);(try clear hyq3)))
 go_ret
 exact ⟨_,Z212,by (with_reducible repeat (first | apply Kd.R_alloc | apply Kd.R_drewN | apply Kd.R_drew));exact HO378.out,Z336⟩

/-! ### slices_Compact_int_int: function 46 -/
theorem slices_Compact_int_int.heap {w : World} {g q : Nat} {cur : Array Value} {e : TypeId} {fr : Nat × Nat} (d : Array Int) (hb : w.heap[g]? = some (.cells cur e fr)) :
  (Go.Sort.putRow (Value.int .i64) (Go.Sort.ahead w q) g 0 d).heap[g]? = some (.cells (Go.Sort.putCells (Value.int .i64) 0 d cur) e fr) := by
 have := heap_sortedI (n := q) (os := #[]) d hb
 simpa [Go.Sort.grow] using this
theorem slices_Compact_int_int.grown (x : World) : Go.Sort.grow x #[] = x := by
 cases x
 simp [Go.Sort.grow]
theorem slices_Compact_int_int.len (l : List Int) : (Lib.compact l).length ≤ l.length := by
 unfold Lib.compact Lib.compactUpTo
 rw [List.length_map]
 exact Nat.le_trans (List.length_filter_le _ _) Z332
def slices_Compact_int_int.f (l0 : List Int) : Option (List Int) := if l0.length ≤ 9223372036854775807 then some (Lib.compact l0) else none
theorem slices_Compact_int_int.calls (P0_ : Nat → Prop) (u9000_ : Value) (l0 : List Int) (r : List Int) (w0 w : World) (hB : Below w0.heap.size w0 w) (ho0 : Kd.R (Kd.int .i64) 3 w w0.heap.size P0_ u9000_ l0) (h : slices_Compact_int_int.f l0 = some r) :
  Calls Try.prog 46 #[u9000_] w fun e w' => ∃ v0_ : Value,e = .returned (v0_) ∧ Kd.R (Kd.int .i64) 3 w' w0.heap.size (fun k_ => (P0_ k_ ∨ w.heap.size ≤ k_)) v0_ r ∧ Below w0.heap.size w0 w' ∧ Kept w w' (fun k_ => P0_ k_) := by
 unfold slices_Compact_int_int.f at h
 by_cases hlt : l0.length ≤ 9223372036854775807
 rotate_left
 ·rw [if_neg hlt] at h;cases h
 rw [if_pos hlt] at h
 obtain rfl := Option.some.inj h
 have hown := Kd.own_of_R ho0
 have hP := ho0.1
 rcases hown.2 with ⟨rfl,h0⟩ | ⟨g,cap,cur,rfl,hg,hh,h1,h2,h3,h4⟩
 ·obtain rfl := List.length_eq_zero_iff.mp h0
  refine (Try.slices_Compact_int_empty none 0 w).mono fun e w' ⟨he,hw⟩ => ?_
  subst hw
  exact ⟨_,he,Kd.R_nil _ _ _ _ _,hB,Nat.le_refl _,fun _ _ _ => rfl⟩
 have hH := holds_of_blockI (ss := l0) hh (by simpa [encs] using h4)
 have hPg : P0_ g := hP g rfl
 refine (Try.slices_Compact_int g 0 cap l0 w hH hlt h1).mono fun e w' ⟨he,q,hw⟩ => ?_
 have hl := slices_Compact_int_int.len l0
 have hgr : w.grownBy w' (some g) := by
  have := grownBy_sortedI (w := w) (g := g) (n := q) (os := #[]) (Lib.compact l0 ++ List.replicate (l0.length - (Lib.compact l0).length) 0).toArray
  rw [slices_Compact_int_int.grown] at this
  rw [hw]
  exact this
 have hb' := slices_Compact_int_int.heap (q := q) (Lib.compact l0 ++ List.replicate (l0.length - (Lib.compact l0).length) 0).toArray hh
 rw [← hw] at hb'
 have ho : w'.ownsRow w0.heap.size 3 1 (.slice (some ⟨g,0,none⟩) (Lib.compact l0).length cap) (Lib.compact l0).length (encs (Value.int .i64) (Lib.compact l0)) := by
  refine ⟨by simp [encs],.inr ⟨g,cap,_,rfl,hg,hb',Z331,h2,by simp [Go.Sort.putCells,h3],?_⟩⟩
  have ht := take_putCellsI cur (Lib.compact l0 ++ List.replicate (l0.length - (Lib.compact l0).length) 0) (by rw [List.length_append,List.length_replicate];omega)
  have ht2 := congrArg (List.take (Lib.compact l0).length) ht
  rw [List.take_take,List.length_append,List.length_replicate,Nat.min_eq_left Z331] at ht2
  rw [Nat.mul_one,ht2,List.map_append,List.take_left' Z332]
  rfl
 exact ⟨_,he,Kd.R_of_own (enc := Value.int .i64) ho (fun k hk => .inl (hP k hk)),hB.grown hgr hB.size (fun k hk => by cases hk;exact hg),hgr.size,fun i hi hn => hgr.block i hi (fun e => hn (by cases e;exact hPg))⟩

/-! ### impl_CutsOf: function 20 -/
mutual
def impl_CutsOf.j0 : Nat → List Int → Int → List Int → Bool → Option (List Int)
 | 0,_,_,_,_ => none
 | k + 1,x0,x1,x5,x18 => if x18 = true then (some x5) else ((impl_SortInts.f x0).bind fun t385 => (impl_CutsOf.l0 k x0 x1 x5 t385 1))
def impl_CutsOf.l0 : Nat → List Int → Int → List Int → List Int → Int → Option (List Int)
 | 0,_,_,_,_,_ => none
 | k + 1,x0,x1,x5,x6,x7 => if x7 < x1 then (if x1 = 0 then (none) else (if (wrap64 (Int.tdiv (wrap64 ((x0.length : Int) * x7)) x1)) ≥ 1 then (if 0 ≤ (wrap64 ((wrap64 (Int.tdiv (wrap64 ((x0.length : Int) * x7)) x1)) - 1)) then (if (wrap64 ((wrap64 (Int.tdiv (wrap64 ((x0.length : Int) * x7)) x1)) - 1)) < (x6.length : Int) then (if 0 ≤ (wrap64 ((x6.length : Int) - 1)) then (if (wrap64 ((x6.length : Int) - 1)) < (x6.length : Int) then (if (rd x6 (wrap64 ((wrap64 (Int.tdiv (wrap64 ((x0.length : Int) * x7)) x1)) - 1))) = (rd x6 (wrap64 ((x6.length : Int) - 1))) then (impl_CutsOf.l0 k x0 x1 x5 x6 (wrap64 (x7 + 1))) else (if x5.length < 17592186044416 then (impl_CutsOf.l0 k x0 x1 (x5 ++ [rd x6 (wrap64 ((wrap64 (Int.tdiv (wrap64 ((x0.length : Int) * x7)) x1)) - 1))]) x6 (wrap64 (x7 + 1))) else (none))) else (none)) else (none)) else (none)) else (none)) else (impl_CutsOf.l0 k x0 x1 x5 x6 (wrap64 (x7 + 1))))) else ((slices_Compact_int_int.f x5).bind fun t394 => (some t394))
end
def impl_CutsOf.f (k : Nat) (l0 : List Int) (a1 : Int) : Option (List Int) := (some (([] : List Int) : List Int)).bind fun y380 => ((impl_within.f a1 2 8).bind fun t383 => (if t383 = true then ((impl_within.f (l0.length : Int) 1 40).bind fun t384 => (impl_CutsOf.j0 k l0 a1 y380 (!t384))) else (impl_CutsOf.j0 k l0 a1 y380 true)))
theorem impl_CutsOf.mono_l : ∀ k,(∀ y0 y1 y2 y3,LeO (impl_CutsOf.j0 k y0 y1 y2 y3) (impl_CutsOf.j0 (k + 1) y0 y1 y2 y3)) ∧ (∀ y0 y1 y2 y3 y4,LeO (impl_CutsOf.l0 k y0 y1 y2 y3 y4) (impl_CutsOf.l0 (k + 1) y0 y1 y2 y3 y4))
 | 0 => ⟨fun _ _ _ _ r h => by simp [impl_CutsOf.j0] at h,fun _ _ _ _ _ r h => by simp [impl_CutsOf.l0] at h⟩
 | k + 1 => by
  obtain ⟨ih0,ih1⟩ := impl_CutsOf.mono_l k
  refine ⟨?_,?_⟩
  ·intro y0 y1 y2 y3
   unfold impl_CutsOf.j0
   repeat' first
   | (with_reducible exact ih0 _ _ _ _)
   | (with_reducible exact ih1 _ _ _ _ _)
   | (with_reducible exact LeO.refl _)
   | (with_reducible exact LeO.none _)
   | (with_reducible refine LeO.ite ?_ ?_)
   | (with_reducible refine LeO.bind ?_ (fun _ => ?_))
   | exact ih0 _ _ _ _
   | exact ih1 _ _ _ _ _
   | exact LeO.none _
   | refine LeO.ite ?_ ?_
   | refine LeO.bind ?_ (fun _ => ?_)
  ·intro y0 y1 y2 y3 y4
   unfold impl_CutsOf.l0
   repeat' first
   | (with_reducible exact ih0 _ _ _ _)
   | (with_reducible exact ih1 _ _ _ _ _)
   | (with_reducible exact LeO.refl _)
   | (with_reducible exact LeO.none _)
   | (with_reducible refine LeO.ite ?_ ?_)
   | (with_reducible refine LeO.bind ?_ (fun _ => ?_))
   | exact ih0 _ _ _ _
   | exact ih1 _ _ _ _ _
   | exact LeO.none _
   | refine LeO.ite ?_ ?_
   | refine LeO.bind ?_ (fun _ => ?_)
theorem impl_CutsOf.mono : ∀ a0 a1 k,LeO (impl_CutsOf.f k a0 a1) (impl_CutsOf.f (k + 1) a0 a1) := by
 intro a0 a1 k
 obtain ⟨ih0,ih1⟩ := impl_CutsOf.mono_l k
 unfold impl_CutsOf.f
 repeat' first
   | (with_reducible exact ih0 _ _ _ _)
   | (with_reducible exact ih1 _ _ _ _ _)
   | (with_reducible exact LeO.refl _)
   | (with_reducible exact LeO.none _)
   | (with_reducible refine LeO.ite ?_ ?_)
   | (with_reducible refine LeO.bind ?_ (fun _ => ?_))
   | exact ih0 _ _ _ _
   | exact ih1 _ _ _ _ _
   | exact LeO.none _
   | refine LeO.ite ?_ ?_
   | refine LeO.bind ?_ (fun _ => ?_)
set_option maxHeartbeats 8000000 in
set_option maxRecDepth 100000 in
theorem impl_CutsOf.calls (k : Nat) (A0 : Option Addr) (c0 : Nat) (l0 : List Int) (a1 : Int) (r : List Int) (w : World) (hr0 : Kd.C (Kd.int .i64) w A0 l0.length l0) (hc0 : l0.length ≤ c0) (h : impl_CutsOf.f k l0 a1 = some r) :
  Calls Try.prog 20 #[.slice A0 l0.length c0,.int .i64 a1] w fun e w' => ∃ v0_ : Value,e = .returned (v0_) ∧ Kd.R (Kd.int .i64) 3 w' w.heap.size (fun _ => True) v0_ r ∧ Below w.heap.size w w' := by
 have HR0 := Aside0.mk hr0
 have HC0 := Aside0.mk hc0
 clear hr0 hc0
 have HB := Aside0.mk (Below.refl w.heap.size w)
 have H : ((some (([] : List Int) : List Int)).bind fun y380 => ((impl_within.f a1 2 8).bind fun t383 => (if t383 = true then ((impl_within.f (l0.length : Int) 1 40).bind fun t384 => (impl_CutsOf.j0 k l0 a1 y380 (!t384))) else (impl_CutsOf.j0 k l0 a1 y380 true)))) = some r := h
 clear h
 obtain ⟨y380,hyy⟩ : ∃ y_ : List Int,y_ = (([] : List Int)) := ⟨_,rfl⟩
 replace H : ((impl_within.f a1 2 8).bind fun t383 => (if t383 = true then ((impl_within.f (l0.length : Int) 1 40).bind fun t384 => (impl_CutsOf.j0 k l0 a1 y380 (!t384))) else (impl_CutsOf.j0 k l0 a1 y380 true))) = some r := zR
 have Ny380 := Aside0.mk hyy
 clear hyy
 have HC3 := Aside0.mk H
 clear H
 go_enter Try.func20,Try.ntmps20
 go_upto_region 2 with (first | ((with_reducible refine gate_dst (N := 9) rfl ?_);(try (refine gate_guard Z257 ?_;dsimp only));refine Kd.R_lit (Kd.int .i64) _ 3 ?hg (N := 9) ?hd (xs := ([] : List Int)) (inner := []) (ok := fun _ => True) (okp := fun _ => True) ?hr ?hp (fun _ hk => hk) trivial (Below.refl _ _) (Nat.le_refl _) Z332 ?_;(case hd => rfl);(case hg => rfl);(case hr => exact Z231);(case hp => exact Z252);intro v381 w4 ho5 hb hg_ hnew_;clear hg_ hnew_;(first | rw [← Ny380.out] at ho5 | (simp only [Int.reduceToNat] at ho5;rw [← Ny380.out] at ho5));have n_ := Z33;clear HB;obtain ⟨HO382,HB⟩ := n_;clear hb ho5))
 repeat (go_quiet (first | ((with_reducible refine gate_dst (N := 9) rfl ?_);(try (refine gate_guard Z257 ?_;dsimp only));refine Kd.R_lit (Kd.int .i64) _ 3 ?hg (N := 9) ?hd (xs := ([] : List Int)) (inner := []) (ok := fun _ => True) (okp := fun _ => True) ?hr ?hp (fun _ hk => hk) trivial (Below.refl _ _) (Nat.le_refl _) Z332 ?_;(case hd => rfl);(case hg => rfl);(case hr => exact Z231);(case hp => exact Z252);intro v381 w4 ho5 hb hg_ hnew_;clear hg_ hnew_;(first | rw [← Ny380.out] at ho5 | (simp only [Int.reduceToNat] at ho5;rw [← Ny380.out] at ho5));have n_ := Z33;clear HB;obtain ⟨HO382,HB⟩ := n_;clear hb ho5));go_upto_region 2 with (first | ((with_reducible refine gate_dst (N := 9) rfl ?_);(try (refine gate_guard Z257 ?_;dsimp only));refine Kd.R_lit (Kd.int .i64) _ 3 ?hg (N := 9) ?hd (xs := ([] : List Int)) (inner := []) (ok := fun _ => True) (okp := fun _ => True) ?hr ?hp (fun _ hk => hk) trivial (Below.refl _ _) (Nat.le_refl _) Z332 ?_;(case hd => rfl);(case hg => rfl);(case hr => exact Z231);(case hp => exact Z252);intro v381 w4 ho5 hb hg_ hnew_;clear hg_ hnew_;(first | rw [← Ny380.out] at ho5 | (simp only [Int.reduceToNat] at ho5;rw [← Ny380.out] at ho5));have n_ := Z33;clear HB;obtain ⟨HO382,HB⟩ := n_;clear hb ho5)))
 (try simp only [Act.put,List.setIfInBounds_toArray,List.set_cons_zero,List.set_cons_succ])
 go_cut [18] (fun v18 wc => ∃ (kq : Nat) (x18_2 : Bool),v18 = .bool x18_2 ∧ Aside0 (impl_CutsOf.j0 kq l0 a1 y380 x18_2 = some r) ∧ Aside0 (kq ≤ k) ∧ Aside0 (Kd.R (Kd.int .i64) 3 wc w.heap.size (fun _ => True) v381 y380) ∧ Aside0 (Below w.heap.size w wc))
 case first =>
  have H := HC3.out
  clear HC3
  obtain ⟨t383,A60,H⟩ := Option.bind_eq_some_iff.mp H
  have A6 := Aside0.mk A60
  clear A60
  by_cases c7 : t383 = true
  rotate_left
  ·replace c7 := Bool.eq_false_iff.mpr c7
   subst c7
   rw [if_neg Bool.false_ne_true] at H
   have H' := Aside0.mk H
   clear H
   go_wp2_with (first | (go_at_call 18;(with_reducible refine (impl_within.calls a1 2 8 false _ A6.out).mono ?_);rintro e w' ⟨rfl,⟨nd,rfl⟩⟩;(try first | exact ⟨rfl,_,dD⟩ | exact ⟨rfl,_,dT⟩)))
   repeat (go_quiet (first | (go_at_call 18;(with_reducible refine (impl_within.calls a1 2 8 false _ A6.out).mono ?_);rintro e w' ⟨rfl,⟨nd,rfl⟩⟩;(try first | exact ⟨rfl,_,dD⟩ | exact ⟨rfl,_,dT⟩)));try go_wp2_with (first | (go_at_call 18;(with_reducible refine (impl_within.calls a1 2 8 false _ A6.out).mono ?_);rintro e w' ⟨rfl,⟨nd,rfl⟩⟩;(try first | exact ⟨rfl,_,dD⟩ | exact ⟨rfl,_,dT⟩))))
   go_meet
   case rel => exact ⟨_,(true),Z230,H',⟨Z240⟩,⟨Z207⟩,⟨Z336⟩⟩
  subst c7
  rw [if_pos rfl] at H
  obtain ⟨t384,A80,H⟩ := Option.bind_eq_some_iff.mp H
  have A8 := Aside0.mk A80
  clear A80
  have H' := Aside0.mk H
  clear H
  go_wp2_with (first | (go_at_call 18;(with_reducible refine (impl_within.calls a1 2 8 true _ A6.out).mono ?_);rintro e w' ⟨rfl,⟨nd,rfl⟩⟩;(try first | exact ⟨rfl,_,dD⟩ | exact ⟨rfl,_,dT⟩)) | (go_at_call 18;(with_reducible refine (impl_within.calls (l0.length : Int) 1 40 t384 _ A8.out).mono ?_);rintro e w' ⟨rfl,⟨nd,rfl⟩⟩;(try first | exact ⟨rfl,_,dD⟩ | exact ⟨rfl,_,dT⟩)))
  repeat (go_quiet (first | (go_at_call 18;(with_reducible refine (impl_within.calls a1 2 8 true _ A6.out).mono ?_);rintro e w' ⟨rfl,⟨nd,rfl⟩⟩;(try first | exact ⟨rfl,_,dD⟩ | exact ⟨rfl,_,dT⟩)) | (go_at_call 18;(with_reducible refine (impl_within.calls (l0.length : Int) 1 40 t384 _ A8.out).mono ?_);rintro e w' ⟨rfl,⟨nd,rfl⟩⟩;(try first | exact ⟨rfl,_,dD⟩ | exact ⟨rfl,_,dT⟩)));try go_wp2_with (first | (go_at_call 18;(with_reducible refine (impl_within.calls a1 2 8 true _ A6.out).mono ?_);rintro e w' ⟨rfl,⟨nd,rfl⟩⟩;(try first | exact ⟨rfl,_,dD⟩ | exact ⟨rfl,_,dT⟩)) | (go_at_call 18;(with_reducible refine (impl_within.calls (l0.length : Int) 1 40 t384 _ A8.out).mono ?_);rintro e w' ⟨rfl,⟨nd,rfl⟩⟩;(try first | exact ⟨rfl,_,dD⟩ | exact ⟨rfl,_,dT⟩))))
  go_meet
  case rel => exact ⟨_,(!t384),Z230,H',⟨Z240⟩,⟨Z207⟩,⟨Z336⟩⟩
 case rest =>
  clear HC3
  try clear c2
  try clear p2
  try clear c7
  obtain ⟨kq,x18_2,rfl,HA,HJ2,HO_5,HB⟩ := hcut
  cases kq with
  | zero => exact absurd HA.out (by simp [impl_CutsOf.j0])
  | succ kj2 =>
   have H := HA.out
   clear HA
   simp only [impl_CutsOf.j0] at H
   by_cases c9 : x18_2 = true
   ·subst c9
    rw [if_pos rfl] at H
    obtain rfl := Option.some.inj H
    go_wp2
    repeat (go_quiet (fail);try go_wp2)
    go_ret
    exact ⟨_,Z212,Z312,Z336⟩
   replace c9 := Bool.eq_false_iff.mpr c9
   subst c9
   rw [if_neg Bool.false_ne_true] at H
   obtain ⟨t385,A100,H⟩ := Option.bind_eq_some_iff.mp H
   have A10 := Aside0.mk A100
   clear A100
   have H' := Aside0.mk H
   clear H
   go_wp2_with (first | (go_at_call 45;(with_reducible refine (impl_SortInts.calls _ _ l0 t385 _ ?side1 ?side2 A10.out).mono ?_);(case side1 => exact Z113);(case side2 => exact Z254);rintro e w11 ⟨v386,rfl,ho0,hb⟩;have n_ := Z16;clear HO_5 HB;obtain ⟨HO_5,HO387,HB⟩ := n_;(try clear hb);(try clear hb2);(try clear hk);(try clear hi);(try clear ho0)))
   repeat (go_quiet (first | (go_at_call 45;(with_reducible refine (impl_SortInts.calls _ _ l0 t385 _ ?side1 ?side2 A10.out).mono ?_);(case side1 => exact Z113);(case side2 => exact Z254);rintro e w11 ⟨v386,rfl,ho0,hb⟩;have n_ := Z16;clear HO_5 HB;obtain ⟨HO_5,HO387,HB⟩ := n_;(try clear hb);(try clear hb2);(try clear hk);(try clear hi);(try clear ho0)));try go_wp2_with (first | (go_at_call 45;(with_reducible refine (impl_SortInts.calls _ _ l0 t385 _ ?side1 ?side2 A10.out).mono ?_);(case side1 => exact Z113);(case side2 => exact Z254);rintro e w11 ⟨v386,rfl,ho0,hb⟩;have n_ := Z16;clear HO_5 HB;obtain ⟨HO_5,HO387,HB⟩ := n_;(try clear hb);(try clear hb2);(try clear hk);(try clear hi);(try clear ho0))))
   go_loopg [5,7] kj2 (fun kq v5 v7 w' => ∃ (x5_2 : List Int) (x7_2 : Int),v7 = .int .i64 x7_2 ∧ Aside0 (impl_CutsOf.l0 kq l0 a1 x5_2 t385 x7_2 = some r) ∧ Aside0 (kq ≤ kj2) ∧ Aside0 (Kd.R (Kd.int .i64) 3 w' w.heap.size (fun k_ => some k_ ≠ (v386 : Value).ownBlock) v5 x5_2) ∧ Aside0 (Kd.R (Kd.int .i64) 3 w' w.heap.size (fun k_ => some k_ ≠ (v5 : Value).ownBlock) v386 t385) ∧ Aside0 (Below w.heap.size w w'))
   case atStart => exact ⟨(y380),(1),Z230,H',⟨Nat.le_refl _⟩,⟨by (with_reducible repeat (first | apply Kd.R_alloc | apply Kd.R_drewN | apply Kd.R_drew));exact Kd.R_mono HO_5.out (fun _ hk => hk.2)⟩,⟨by (with_reducible repeat (first | apply Kd.R_alloc | apply Kd.R_drewN | apply Kd.R_drew));exact Kd.R_mono HO387.out (fun _ hk => hk.2)⟩,⟨Z336⟩⟩
   case round =>
    clear H'
    try clear c2
    try clear p2
    try clear c7
    try clear c9
    try clear p2
    obtain ⟨x5_2,x7_2,rfl,HA,HK2,HO_5,HO_6,HB⟩ := hrel
    cases gk with
    | zero => exact absurd HA.out (by simp [impl_CutsOf.l0])
    | succ k2 =>
     have H := HA.out
     clear HA
     simp only [impl_CutsOf.l0] at H
     by_cases c12 : x7_2 < a1
     rotate_left
     ·rw [if_neg c12] at H
      have c12b0 : decide (x7_2 < a1) = false := decide_eq_false c12
      clear c12
      obtain ⟨t394,A260,H⟩ := Option.bind_eq_some_iff.mp H
      have A26 := Aside0.mk A260
      clear A260
      obtain rfl := Option.some.inj H
      obtain ⟨Ao27,co27,eo27⟩ := Kd.R_slice HO_5.out
      subst eo27
      go_wp2_with (first | (go_at_call 46;(with_reducible refine (slices_Compact_int_int.calls (fun k_ => some k_ = (.slice Ao27 x5_2.length co27 : Value).ownBlock) (.slice Ao27 x5_2.length co27) x5_2 t394 w _ ?side1 ?side2 A26.out).mono ?_);(case side1 => exact Z336);(case side2 => exact Kd.R_tight rfl HO_5.out);rintro e wq1 ⟨vq2,rfl,hoq3,hb,hkp⟩;have n_ := Z24;clear HO_6 HB HO_5;obtain ⟨HO_6,HO396,HB⟩ := n_;(try clear hb);(try clear hkp);(try clear hoq3)))
      repeat (go_quiet (first | (go_at_call 46;(with_reducible refine (slices_Compact_int_int.calls (fun k_ => some k_ = (.slice Ao27 x5_2.length co27 : Value).ownBlock) (.slice Ao27 x5_2.length co27) x5_2 t394 w _ ?side1 ?side2 A26.out).mono ?_);(case side1 => exact Z336);(case side2 => exact Kd.R_tight rfl HO_5.out);rintro e wq1 ⟨vq2,rfl,hoq3,hb,hkp⟩;have n_ := Z24;clear HO_6 HB HO_5;obtain ⟨HO_6,HO396,HB⟩ := n_;(try clear hb);(try clear hkp);(try clear hoq3)));try go_wp2_with (first | (go_at_call 46;(with_reducible refine (slices_Compact_int_int.calls (fun k_ => some k_ = (.slice Ao27 x5_2.length co27 : Value).ownBlock) (.slice Ao27 x5_2.length co27) x5_2 t394 w _ ?side1 ?side2 A26.out).mono ?_);(case side1 => exact Z336);(case side2 => exact Kd.R_tight rfl HO_5.out);rintro e wq1 ⟨vq2,rfl,hoq3,hb,hkp⟩;have n_ := Z24;clear HO_6 HB HO_5;obtain ⟨HO_6,HO396,HB⟩ := n_;(try clear hb);(try clear hkp);(try clear hoq3))))
      go_ret
      exact ⟨_,Z212,by (with_reducible repeat (first | apply Kd.R_alloc | apply Kd.R_drewN | apply Kd.R_drew));exact Kd.R_mono HO396.out (fun _ hk => trivial),Z336⟩
     rw [if_pos c12] at H
     have c12b0 : decide (x7_2 < a1) = true := decide_eq_true c12
     clear c12
     by_cases c13 : a1 = 0
     ·rw [if_pos c13] at H
      exact absurd H Z332
     rw [if_neg c13] at H
     have c13b0 : (a1 == 0) = false := beq_eq_false_iff_ne.mpr c13
     have c13b1 : (a1 != 0) = true := bne_iff_ne.mpr c13
     by_cases c14 : (wrap64 (Int.tdiv (wrap64 ((l0.length : Int) * x7_2)) a1)) ≥ 1
     rotate_left
     ·rw [if_neg c14] at H
      have c14b0 : decide (1 ≤ (wrap64 (Int.tdiv (wrap64 ((l0.length : Int) * x7_2)) a1))) = false := decide_eq_false c14
      clear c14
      have H' := Aside0.mk H
      clear H
      go_wp2
      repeat (go_quiet (fail);try go_wp2)
      go_roundg k2
      case measure => have := HJ2.out;have := HK2.out;omega
      case rel => exact ⟨(x5_2),(wrap64 (x7_2 + 1)),Z230,H',⟨Z232⟩,⟨Z312⟩,⟨Z313⟩,⟨Z336⟩⟩
     rw [if_pos c14] at H
     have c14b0 : decide (1 ≤ (wrap64 (Int.tdiv (wrap64 ((l0.length : Int) * x7_2)) a1))) = true := decide_eq_true c14
     clear c14
     obtain ⟨ji15,hji15⟩ : ∃ j_ : Int,(wrap64 ((wrap64 (Int.tdiv (wrap64 ((l0.length : Int) * x7_2)) a1)) - 1)) = j_ := ⟨_,rfl⟩
     replace H : (if 0 ≤ (ji15) then (if (ji15) < (t385.length : Int) then (if 0 ≤ (wrap64 ((t385.length : Int) - 1)) then (if (wrap64 ((t385.length : Int) - 1)) < (t385.length : Int) then (if (rd t385 (ji15)) = (rd t385 (wrap64 ((t385.length : Int) - 1))) then (impl_CutsOf.l0 k2 l0 a1 x5_2 t385 (wrap64 (x7_2 + 1))) else (if x5_2.length < 17592186044416 then (impl_CutsOf.l0 k2 l0 a1 (x5_2 ++ [rd t385 (ji15)]) t385 (wrap64 (x7_2 + 1))) else (none))) else (none)) else (none)) else (none)) else (none)) = some r := by first | (rw [hji15] at H;exact H) | (simp only [hji15] at H ⊢;exact H)
     have hji15w : (IntKind.i64.wrap ((wrap64 (Int.tdiv (wrap64 ((l0.length : Int) * x7_2)) a1)) - 1)) = ji15 := (i64_w _).trans hji15
     obtain ⟨c16,H⟩ := ifp H
     have c16b0 : decide (0 ≤ (ji15)) = true := decide_eq_true c16
     clear c16
     obtain ⟨c17,H⟩ := ifp H
     have c17b0 : decide ((ji15) < (t385.length : Int)) = true := decide_eq_true c17
     clear c17
     obtain ⟨ji18,hji18⟩ : ∃ j_ : Int,(wrap64 ((t385.length : Int) - 1)) = j_ := ⟨_,rfl⟩
     replace H : (if 0 ≤ (ji18) then (if (ji18) < (t385.length : Int) then (if (rd t385 (ji15)) = (rd t385 (ji18)) then (impl_CutsOf.l0 k2 l0 a1 x5_2 t385 (wrap64 (x7_2 + 1))) else (if x5_2.length < 17592186044416 then (impl_CutsOf.l0 k2 l0 a1 (x5_2 ++ [rd t385 (ji15)]) t385 (wrap64 (x7_2 + 1))) else (none))) else (none)) else (none)) = some r := by first | (rw [hji18] at H;exact H) | (simp only [hji18] at H ⊢;exact H)
     have hji18w : (IntKind.i64.wrap ((t385.length : Int) - 1)) = ji18 := (i64_w _).trans hji18
     obtain ⟨c19,H⟩ := ifp H
     have c19b0 : decide (0 ≤ (ji18)) = true := decide_eq_true c19
     clear c19
     obtain ⟨c20,H⟩ := ifp H
     have c20b0 : decide ((ji18) < (t385.length : Int)) = true := decide_eq_true c20
     clear c20
     by_cases c21 : (rd t385 (ji15)) = (rd t385 (ji18))
     ·rw [if_pos c21] at H
      have c21b0 : ((rd t385 (ji15)) == (rd t385 (ji18))) = true := beq_iff_eq.mpr c21
      have c21b1 : ((rd t385 (ji15)) != (rd t385 (ji18))) = false := bne_eq_false_iff_eq.mpr c21
      clear c21
      have H' := Aside0.mk H
      clear H
      obtain ⟨Ao22,co22,eo22⟩ := Kd.R_slice HO_6.out
      subst eo22
      have p388 : 0 ≤ ((ji15) : Int) := of_decide_eq_true Z229
      have q388 : (ji15) < (t385.length : Int) := of_decide_eq_true Z229
      obtain ⟨ad388,e388,hx388_0⟩ := Kd.at_int (Kd.R_reads' HO_6.out).2.2 (ji15) p388 q388
      cases e388
      replace p388 := eq_true p388
      replace q388 := eq_true q388
      have p389 : 0 ≤ ((ji18) : Int) := of_decide_eq_true Z229
      have q389 : (ji18) < (t385.length : Int) := of_decide_eq_true Z229
      obtain ⟨ad389,e389,hx389_0⟩ := Kd.at_int (Kd.R_reads' HO_6.out).2.2 (ji18) p389 q389
      obtain rfl : ad388 = ad389 := (by injection e389)
      replace p389 := eq_true p389
      replace q389 := eq_true q389
      go_wp2
      repeat (go_quiet (fail);try go_wp2)
      go_roundg k2
      case measure => have := HJ2.out;have := HK2.out;omega
      case rel => exact ⟨(x5_2),(wrap64 (x7_2 + 1)),Z230,H',⟨Z232⟩,⟨Z312⟩,⟨Z313⟩,⟨Z336⟩⟩
     rw [if_neg c21] at H
     have c21b0 : ((rd t385 (ji15)) == (rd t385 (ji18))) = false := beq_eq_false_iff_ne.mpr c21
     have c21b1 : ((rd t385 (ji15)) != (rd t385 (ji18))) = true := bne_iff_ne.mpr c21
     obtain ⟨c23,H⟩ := ifp H
     have LMc23 := Aside0.mk c23
     clear c23
     obtain ⟨y391,hyy⟩ : ∃ y_ : List Int,y_ = (x5_2 ++ [rd t385 (ji15)]) := ⟨_,rfl⟩
     replace H : (impl_CutsOf.l0 k2 l0 a1 y391 t385 (wrap64 (x7_2 + 1))) = some r := zR
     have Ny391 := Aside0.mk hyy
     clear hyy
     have H' := Aside0.mk H
     clear H
     obtain ⟨Ao24,co24,eo24⟩ := Kd.R_slice HO_6.out
     subst eo24
     have p388 : 0 ≤ ((ji15) : Int) := of_decide_eq_true Z229
     have q388 : (ji15) < (t385.length : Int) := of_decide_eq_true Z229
     obtain ⟨ad388,e388,hx388_0⟩ := Kd.at_int (Kd.R_reads' HO_6.out).2.2 (ji15) p388 q388
     cases e388
     replace p388 := eq_true p388
     replace q388 := eq_true q388
     have p389 : 0 ≤ ((ji18) : Int) := of_decide_eq_true Z229
     have q389 : (ji18) < (t385.length : Int) := of_decide_eq_true Z229
     obtain ⟨ad389,e389,hx389_0⟩ := Kd.at_int (Kd.R_reads' HO_6.out).2.2 (ji18) p389 q389
     obtain rfl : ad388 = ad389 := (by injection e389)
     replace p389 := eq_true p389
     replace q389 := eq_true q389
     have p390 : 0 ≤ ((ji15) : Int) := of_decide_eq_true Z229
     have q390 : (ji15) < (t385.length : Int) := of_decide_eq_true Z229
     obtain ⟨ad390,e390,hx390_0⟩ := Kd.at_int (Kd.R_reads' HO_6.out).2.2 (ji15) p390 q390
     obtain rfl : ad388 = ad390 := (by injection e390)
     replace p390 := eq_true p390
     replace q390 := eq_true q390
     go_wp2_with (first | ((with_reducible refine gate_builtin (b := .append) (xs := #[.tmp 49,.tmp 55]) rfl ?_);(try (refine gate_guard Z257 ?_;dsimp only));at_builtin;refine Kd.R_append (Kd.int .i64) (w0 := w) w.heap.size rfl (.tmp 49) (.tmp 55) 26 3 (.int .i64 0) 8 rfl Try.underlying26 info3 rfl Z330 Z331 u5 x5_2 (rd t385 (ji15)) [.int .i64 (rd t385 (ji15))] (fun k_ => some k_ ≠ (.slice (some ad388) t385.length co24 : Value).ownBlock) (fun _ => False) rfl rfl ?aP (fun _ hk => hk.elim) ?aF ?aO ?aB ?aS ?aL ?_;(case aP => exact rfl);(case aB => exact Z150);(case aF => exact Z138);(case aO => exact Z166);(case aS => exact Z133);(case aL => have := LMc23.out;omega);intro v392 w25 ho hb hg hat;rw [← Ny391.out] at ho;have n_ := Z72;clear HO_6 HB HO_5;obtain ⟨HO_6,HB,HO393⟩ := n_;clear ho hb hg hat))
     repeat (go_quiet (first | ((with_reducible refine gate_builtin (b := .append) (xs := #[.tmp 49,.tmp 55]) rfl ?_);(try (refine gate_guard Z257 ?_;dsimp only));at_builtin;refine Kd.R_append (Kd.int .i64) (w0 := w) w.heap.size rfl (.tmp 49) (.tmp 55) 26 3 (.int .i64 0) 8 rfl Try.underlying26 info3 rfl Z330 Z331 u5 x5_2 (rd t385 (ji15)) [.int .i64 (rd t385 (ji15))] (fun k_ => some k_ ≠ (.slice (some ad388) t385.length co24 : Value).ownBlock) (fun _ => False) rfl rfl ?aP (fun _ hk => hk.elim) ?aF ?aO ?aB ?aS ?aL ?_;(case aP => exact rfl);(case aB => exact Z150);(case aF => exact Z138);(case aO => exact Z166);(case aS => exact Z133);(case aL => have := LMc23.out;omega);intro v392 w25 ho hb hg hat;rw [← Ny391.out] at ho;have n_ := Z72;clear HO_6 HB HO_5;obtain ⟨HO_6,HB,HO393⟩ := n_;clear ho hb hg hat));try go_wp2_with (first | ((with_reducible refine gate_builtin (b := .append) (xs := #[.tmp 49,.tmp 55]) rfl ?_);(try (refine gate_guard Z257 ?_;dsimp only));at_builtin;refine Kd.R_append (Kd.int .i64) (w0 := w) w.heap.size rfl (.tmp 49) (.tmp 55) 26 3 (.int .i64 0) 8 rfl Try.underlying26 info3 rfl Z330 Z331 u5 x5_2 (rd t385 (ji15)) [.int .i64 (rd t385 (ji15))] (fun k_ => some k_ ≠ (.slice (some ad388) t385.length co24 : Value).ownBlock) (fun _ => False) rfl rfl ?aP (fun _ hk => hk.elim) ?aF ?aO ?aB ?aS ?aL ?_;(case aP => exact rfl);(case aB => exact Z150);(case aF => exact Z138);(case aO => exact Z166);(case aS => exact Z133);(case aL => have := LMc23.out;omega);intro v392 w25 ho hb hg hat;rw [← Ny391.out] at ho;have n_ := Z72;clear HO_6 HB HO_5;obtain ⟨HO_6,HB,HO393⟩ := n_;clear ho hb hg hat)))
     go_roundg k2
     case measure => have := HJ2.out;have := HK2.out;omega
     case rel => exact ⟨(y391),(wrap64 (x7_2 + 1)),Z230,H',⟨Z232⟩,⟨by (with_reducible repeat (first | apply Kd.R_alloc | apply Kd.R_drewN | apply Kd.R_drew));exact HO393.out⟩,⟨Z163⟩,⟨Z336⟩⟩

/-! ### impl_BinOf: function 21 -/
def impl_BinOf.l0 : Nat → Int → Int → List Int → Int → Int → Option (Int)
 | 0,_,_,_,_,_ => none
 | k + 1,x1,x5,x8,x9,x10 => if x10 < x9 then (if 0 ≤ x10 then (if x10 < (x8.length : Int) then (if (rd x8 x10) < x1 then (impl_BinOf.l0 k x1 (wrap64 (x5 + 1)) x8 x9 (wrap64 (x10 + 1))) else (impl_BinOf.l0 k x1 x5 x8 x9 (wrap64 (x10 + 1)))) else (none)) else (none)) else (some x5)
def impl_BinOf.f (k : Nat) (l0 : List Int) (a1 : Int) : Option (Int) := impl_BinOf.l0 k a1 0 l0 (l0.length : Int) 0
theorem impl_BinOf.mono_l : ∀ k,(∀ y0 y1 y2 y3 y4,LeO (impl_BinOf.l0 k y0 y1 y2 y3 y4) (impl_BinOf.l0 (k + 1) y0 y1 y2 y3 y4))
 | 0 => fun _ _ _ _ _ r h => by simp [impl_BinOf.l0] at h
 | k + 1 => by
  have ih0 := impl_BinOf.mono_l k
  ·intro y0 y1 y2 y3 y4
   unfold impl_BinOf.l0
   repeat' first
   | (with_reducible exact ih0 _ _ _ _ _)
   | (with_reducible exact LeO.refl _)
   | (with_reducible exact LeO.none _)
   | (with_reducible refine LeO.ite ?_ ?_)
   | (with_reducible refine LeO.bind ?_ (fun _ => ?_))
   | exact ih0 _ _ _ _ _
   | exact LeO.none _
   | refine LeO.ite ?_ ?_
   | refine LeO.bind ?_ (fun _ => ?_)
theorem impl_BinOf.mono : ∀ a0 a1 k,LeO (impl_BinOf.f k a0 a1) (impl_BinOf.f (k + 1) a0 a1) := by
 intro a0 a1 k
 have ih0 := impl_BinOf.mono_l k
 unfold impl_BinOf.f
 repeat' first
   | (with_reducible exact ih0 _ _ _ _ _)
   | (with_reducible exact LeO.refl _)
   | (with_reducible exact LeO.none _)
   | (with_reducible refine LeO.ite ?_ ?_)
   | (with_reducible refine LeO.bind ?_ (fun _ => ?_))
   | exact ih0 _ _ _ _ _
   | exact LeO.none _
   | refine LeO.ite ?_ ?_
   | refine LeO.bind ?_ (fun _ => ?_)
set_option maxHeartbeats 8000000 in
set_option maxRecDepth 100000 in
theorem impl_BinOf.calls (k : Nat) (A0 : Option Addr) (c0 : Nat) (l0 : List Int) (a1 : Int) (r : Int) (w : World) (hr0 : Kd.C (Kd.int .i64) w A0 l0.length l0) (hc0 : l0.length ≤ c0) (h : impl_BinOf.f k l0 a1 = some r) :
  Calls Try.prog 21 #[.slice A0 l0.length c0,.int .i64 a1] w fun e w' => e = .returned (.int .i64 r) ∧ Drawn0 w w' := by
 have HR0 := Aside0.mk hr0
 have HC0 := Aside0.mk hc0
 clear hr0 hc0
 have H := h
 clear h
 unfold impl_BinOf.f at H
 have H' := Aside0.mk H
 clear H
 go_enter Try.func21,Try.ntmps21
 go_wp2
 go_loopg [5,10] k (fun kq v5 v10 w' => ∃ (x5_1 : Int) (x10_1 : Int),v5 = .int .i64 x5_1 ∧ v10 = .int .i64 x10_1 ∧ Aside0 (impl_BinOf.l0 kq a1 x5_1 l0 (l0.length : Int) x10_1 = some r) ∧ Aside0 (kq ≤ k) ∧ Drawn0 w w')
 case atStart => exact ⟨(0),(0),Z230,Z230,H',⟨Nat.le_refl _⟩,Z224⟩
 case round =>
  clear H'
  try clear c2
  try clear p2
  obtain ⟨x5_1,x10_1,rfl,rfl,HA,HK1,⟨m1,rfl⟩⟩ := hrel
  cases gk with
  | zero => exact absurd HA.out (by simp [impl_BinOf.l0])
  | succ k1 =>
   have H := HA.out
   clear HA
   simp only [impl_BinOf.l0] at H
   by_cases c3 : x10_1 < (l0.length : Int)
   rotate_left
   ·rw [if_neg c3] at H
    have c3b0 : decide (x10_1 < (l0.length : Int)) = false := decide_eq_false c3
    clear c3
    obtain rfl := Option.some.inj H
    go_wp2
    go_ret
    exact ⟨Z230,Z224⟩
   rw [if_pos c3] at H
   have c3b0 : decide (x10_1 < (l0.length : Int)) = true := decide_eq_true c3
   clear c3
   obtain ⟨c4,H⟩ := ifp H
   have c4b0 : decide (0 ≤ x10_1) = true := decide_eq_true c4
   clear c4
   obtain ⟨c5,H⟩ := ifp H
   have c5b0 : decide (x10_1 < (l0.length : Int)) = true := decide_eq_true c5
   clear c5
   by_cases c6 : (rd l0 x10_1) < a1
   rotate_left
   ·rw [if_neg c6] at H
    have c6b0 : decide ((rd l0 x10_1) < a1) = false := decide_eq_false c6
    clear c6
    have H' := Aside0.mk H
    clear H
    have p397 : 0 ≤ (x10_1 : Int) := of_decide_eq_true Z229
    have q397 : x10_1 < (l0.length : Int) := of_decide_eq_true Z229
    obtain ⟨ad397,e397,hx397_0⟩ := Kd.at_int HR0.out x10_1 p397 q397
    cases e397
    replace p397 := eq_true p397
    replace q397 := eq_true q397
    go_wp2
    go_roundg k1
    case measure => have := HK1.out;omega
    case rel => exact ⟨(x5_1),(wrap64 (x10_1 + 1)),Z230,Z230,H',⟨Z251⟩,Z224⟩
   rw [if_pos c6] at H
   have c6b0 : decide ((rd l0 x10_1) < a1) = true := decide_eq_true c6
   clear c6
   have H' := Aside0.mk H
   clear H
   have p397 : 0 ≤ (x10_1 : Int) := of_decide_eq_true Z229
   have q397 : x10_1 < (l0.length : Int) := of_decide_eq_true Z229
   obtain ⟨ad397,e397,hx397_0⟩ := Kd.at_int HR0.out x10_1 p397 q397
   cases e397
   replace p397 := eq_true p397
   replace q397 := eq_true q397
   go_wp2
   go_roundg k1
   case measure => have := HK1.out;omega
   case rel => exact ⟨(wrap64 (x5_1 + 1)),(wrap64 (x10_1 + 1)),Z230,Z230,H',⟨Z251⟩,Z224⟩

end Go.Proofs.Ytlflcgdcegohjab.QFnGrid
