/- The machine side of FnExactGridOf: what each Go function that it reaches comes to. Conditions: none. -/
import Derived.Test.YtnidkpkfkklkaaaQFnExactGridOfx0
import Derived.Test.YtnidkpkfkklkaaaQFnExactGridOfx1
namespace Go.Proofs.Ytnidkpkfkklkaaa.QFnExactGridOf
open Go.RowKit Go.Proofs.YtnidkpkfkklkaaaW.PrintWords Go.Proofs.YtnidkpkfkklkaaaW.PrintLast Go.Proofs.YtnidkpkfkklkaaaW.PrintMore
attribute [local go_sem] max2_int min2_int max_two min_two max_three min_three max_four min_four   -- for this text's walks alone
set_option linter.unusedVariables false
set_option linter.unusedSimpArgs false

/-! ### impl_Column: function 26 -/
def impl_Column.l0 : Nat → Int → List Int → List (List Int) → Int → Int → Option (List Int)
 | 0,_,_,_,_,_ => none
 | k + 1,x1,x5,x19,x20,x21 => if x21 < x20 then (if 0 ≤ x21 then (if x21 < (x19.length : Int) then (if x1 < ((rd_L2 x19 x21).length : Int) then (if 0 ≤ x1 then (if x5.length < 17592186044416 then (impl_Column.l0 k x1 (x5 ++ [rd (rd_L2 x19 x21) x1]) x19 x20 (wrap64 (x21 + 1))) else (none)) else (none)) else (if x5.length < 17592186044416 then (impl_Column.l0 k x1 (x5 ++ [0]) x19 x20 (wrap64 (x21 + 1))) else (none))) else (none)) else (none)) else (some x5)
def impl_Column.f (k : Nat) (l0_0 : List ByteArray) (a0_1 : ByteArray) (l0_2 : List (List Int)) (l0_3 : List Int) (a1 : Int) : Option (List Int) := (some (([] : List Int) : List Int)).bind fun y317 => ((impl_within.f a1 0 (wrap64 ((l0_0.length : Int) - 1))).bind fun t320 => (if t320 = true then (impl_Column.l0 k a1 y317 l0_2 (l0_2.length : Int) 0) else (some y317)))
theorem impl_Column.mono_l : ∀ k,(∀ y0 y1 y2 y3 y4,LeO (impl_Column.l0 k y0 y1 y2 y3 y4) (impl_Column.l0 (k + 1) y0 y1 y2 y3 y4))
 | 0 => fun _ _ _ _ _ r h => by simp [impl_Column.l0] at h
 | k + 1 => by
  have ih0 := impl_Column.mono_l k
  ·intro y0 y1 y2 y3 y4
   unfold impl_Column.l0
   repeat' first
   | (with_reducible exact ih0 _ _ _ _ _)
   | (with_reducible exact LeO.refl _)
   | (with_reducible exact LeO.none _)
   | (with_reducible refine LeO.ite ?_ ?_)
   | (with_reducible refine LeO.bind ?_ (fun _ => ?_))
   | exact ih0 _ _ _ _ _
   | exact LeO.none _
   | refine LeO.ite ?_ ?_
   | refine LeO.bind ?_ (fun _ => ?_)
theorem impl_Column.mono : ∀ a0 a1 a2 a3 a4 k,LeO (impl_Column.f k a0 a1 a2 a3 a4) (impl_Column.f (k + 1) a0 a1 a2 a3 a4) := by
 intro a0 a1 a2 a3 a4 k
 have ih0 := impl_Column.mono_l k
 unfold impl_Column.f
 repeat' first
   | (with_reducible exact ih0 _ _ _ _ _)
   | (with_reducible exact LeO.refl _)
   | (with_reducible exact LeO.none _)
   | (with_reducible refine LeO.ite ?_ ?_)
   | (with_reducible refine LeO.bind ?_ (fun _ => ?_))
   | exact ih0 _ _ _ _ _
   | exact LeO.none _
   | refine LeO.ite ?_ ?_
   | refine LeO.bind ?_ (fun _ => ?_)
set_option maxHeartbeats 8000000 in
set_option maxRecDepth 100000 in
theorem impl_Column.calls (k : Nat) (A0_0 : Option Addr) (c0_0 : Nat) (l0_0 : List ByteArray) (a0_1 : ByteArray) (A0_2 : Option Addr) (c0_2 : Nat) (l0_2 : List (List Int)) (A0_3 : Option Addr) (c0_3 : Nat) (l0_3 : List Int) (a1 : Int) (r : List Int) (w : World) (hr0_0 : Kd.C Kd.string w A0_0 l0_0.length l0_0) (hc0_0 : l0_0.length ≤ c0_0) (hr0_2 : Kd.C (Kd.slice 3 (Kd.int .i64)) w A0_2 l0_2.length l0_2) (hc0_2 : l0_2.length ≤ c0_2) (hr0_3 : Kd.C (Kd.int .i64) w A0_3 l0_3.length l0_3) (hc0_3 : l0_3.length ≤ c0_3) (h : impl_Column.f k l0_0 a0_1 l0_2 l0_3 a1 = some r) :
  Calls Try.prog 26 #[.agg #[.slice A0_0 l0_0.length c0_0,.string a0_1,.slice A0_2 l0_2.length c0_2,.slice A0_3 l0_3.length c0_3],.int .i64 a1] w fun e w' => ∃ v0_ : Value,e = .returned (v0_) ∧ Kd.R (Kd.int .i64) 3 w' w.heap.size (fun _ => True) v0_ r ∧ Below w.heap.size w w' := by
 have hu31 := Try.underlying31
 have HR0_0 := Aside0.mk hr0_0
 have HC0_0 := Aside0.mk hc0_0
 clear hr0_0 hc0_0
 have HR0_2 := Aside0.mk hr0_2
 have HC0_2 := Aside0.mk hc0_2
 clear hr0_2 hc0_2
 have HR0_3 := Aside0.mk hr0_3
 have HC0_3 := Aside0.mk hc0_3
 clear hr0_3 hc0_3
 have HB := Aside0.mk (Below.refl w.heap.size w)
 have H := h
 clear h
 unfold impl_Column.f at H
 obtain ⟨y317,hyy⟩ : ∃ y_ : List Int,y_ = (([] : List Int)) := ⟨_,rfl⟩
 replace H : ((impl_within.f a1 0 (wrap64 ((l0_0.length : Int) - 1))).bind fun t320 => (if t320 = true then (impl_Column.l0 k a1 y317 l0_2 (l0_2.length : Int) 0) else (some y317))) = some r := zR
 have Ny317 := Aside0.mk hyy
 clear hyy
 obtain ⟨t320,A30,H⟩ := Option.bind_eq_some_iff.mp H
 have A3 := Aside0.mk A30
 clear A30
 by_cases c4 : t320 = true
 rotate_left
 ·replace c4 := Bool.eq_false_iff.mpr c4
  subst c4
  rw [if_neg Bool.false_ne_true] at H
  obtain rfl := Option.some.inj H
  go_enter Try.func26,Try.ntmps26
  go_wp2_with (first | ((with_reducible refine gate_dst (N := 2) rfl ?_);refine bE 2 #[.slice A0_0 l0_0.length c0_0,.string a0_1,.slice A0_2 l0_2.length c0_2,.slice A0_3 l0_3.length c0_3] 31 (h := ?_);intro gb316 hg wq1 hbox hb;have n_ := Z18;clear HB;obtain ⟨HB,BK316,GW316,GE316⟩ := n_;clear hb hbox hg) | ((with_reducible refine gate_dst (N := 9) rfl ?_);refine Kd.R_lit (Kd.int .i64) _ 3 ?hg (N := 9) ?hd (xs := ([] : List Int)) (inner := []) (ok := fun _ => True) (okp := fun _ => True) ?hr ?hp (fun _ hk => hk) trivial (Below.refl _ _) (Nat.le_refl _) Z294 ?_;(case hd => rfl);(case hg => rfl);(case hr => exact Z219);(case hp => exact Z232);intro vq2 wq3 hoq4 hb hg_ hnew_;clear hg_ hnew_;(first | rw [← Ny317.out] at hoq4 | (simp only [Int.reduceToNat] at hoq4;rw [← Ny317.out] at hoq4));have n_ := jA (Kd.R_lower hoq4 (below_size Z257)) (jA (blk_below (g := gb316) (o := .cells #[.slice A0_0 l0_0.length c0_0,.string a0_1,.slice A0_2 l0_2.length c0_2,.slice A0_3 l0_3.length c0_3] 31 (0,0)) Z289 hb) (Aside0.mk (below_step Z257 hb)));clear BK316 HB;obtain ⟨HO319,BK316,HB⟩ := n_;clear hb hoq4;obtain ⟨hczq5_0,hczq5_1,hczq5_2,hczq5_3,hfzq5_0,hfzq5_1,hfzq5_2,hfzq5_3⟩ := cells4 BK316.out) | ((with_reducible refine gate_callee (f := 25) rfl ?_);refine goesL_ (some 15) rfl rfl Try.func25 Z236 rfl #[.int .i64 a1,.int .i64 0,.int .i64 (wrap64 ((l0_0.length : Int) - 1))] rfl Z146 ?_;(with_reducible refine (impl_within.calls a1 0 (wrap64 ((l0_0.length : Int) - 1)) false _ A3.out).mono ?_);rintro e w' ⟨rfl,⟨nd,rfl⟩⟩;refine ⟨_,rfl,?_⟩))
  go_ret
  exact ⟨_,Z207,Z181,Z257⟩
 subst c4
 rw [if_pos rfl] at H
 have H' := Aside0.mk H
 clear H
 go_enter Try.func26,Try.ntmps26
 go_wp2_with (first | ((with_reducible refine gate_dst (N := 2) rfl ?_);refine bE 2 #[.slice A0_0 l0_0.length c0_0,.string a0_1,.slice A0_2 l0_2.length c0_2,.slice A0_3 l0_3.length c0_3] 31 (h := ?_);intro gb316 hg w5 hbox hb;have n_ := Z18;clear HB;obtain ⟨HB,BK316,GW316,GE316⟩ := n_;clear hb hbox hg) | ((with_reducible refine gate_dst (N := 9) rfl ?_);refine Kd.R_lit (Kd.int .i64) _ 3 ?hg (N := 9) ?hd (xs := ([] : List Int)) (inner := []) (ok := fun _ => True) (okp := fun _ => True) ?hr ?hp (fun _ hk => hk) trivial (Below.refl _ _) (Nat.le_refl _) Z294 ?_;(case hd => rfl);(case hg => rfl);(case hr => exact Z219);(case hp => exact Z232);intro v318 w6 ho7 hb hg_ hnew_;clear hg_ hnew_;(first | rw [← Ny317.out] at ho7 | (simp only [Int.reduceToNat] at ho7;rw [← Ny317.out] at ho7));have n_ := jA (Kd.R_lower ho7 (below_size Z257)) (jA (blk_below (g := gb316) (o := .cells #[.slice A0_0 l0_0.length c0_0,.string a0_1,.slice A0_2 l0_2.length c0_2,.slice A0_3 l0_3.length c0_3] 31 (0,0)) Z289 hb) (Aside0.mk (below_step Z257 hb)));clear BK316 HB;obtain ⟨HO319,BK316,HB⟩ := n_;clear hb ho7;obtain ⟨hcz8_0,hcz8_1,hcz8_2,hcz8_3,hfz8_0,hfz8_1,hfz8_2,hfz8_3⟩ := cells4 BK316.out) | ((with_reducible refine gate_callee (f := 25) rfl ?_);refine goesL_ (some 15) rfl rfl Try.func25 Z236 rfl #[.int .i64 a1,.int .i64 0,.int .i64 (wrap64 ((l0_0.length : Int) - 1))] rfl Z146 ?_;(with_reducible refine (impl_within.calls a1 0 (wrap64 ((l0_0.length : Int) - 1)) true _ A3.out).mono ?_);rintro e w' ⟨rfl,⟨nd,rfl⟩⟩;refine ⟨_,rfl,?_⟩))
 go_loopg [5,21] k (fun kq v5 v21 w' => ∃ (x5_1 : List Int) (x21_1 : Int),v21 = .int .i64 x21_1 ∧ Aside0 (impl_Column.l0 kq a1 x5_1 l0_2 (l0_2.length : Int) x21_1 = some r) ∧ Aside0 (kq ≤ k) ∧ Aside0 (Kd.R (Kd.int .i64) 3 w' w.heap.size (fun _ => True) v5 x5_1) ∧ Aside0 (w'.heap[gb316]? = some (.cells #[(.slice A0_0 l0_0.length c0_0),.string a0_1,(.slice A0_2 l0_2.length c0_2),(.slice A0_3 l0_3.length c0_3)] 31 (0,0))) ∧ Aside0 (Below w.heap.size w w'))
 case atStart => exact ⟨(y317),(0),Z218,H',⟨Nat.le_refl _⟩,⟨Z181⟩,⟨Z289⟩,⟨Z257⟩⟩
 case round =>
  clear H'
  try clear c2
  try clear p2
  try clear c4
  try clear p6
  obtain ⟨x5_1,x21_1,rfl,HA,HK1,HO_5,BK316,HB⟩ := hrel
  cases gk with
  | zero => exact absurd HA.out (by simp [impl_Column.l0])
  | succ k1 =>
   have H := HA.out
   clear HA
   simp only [impl_Column.l0] at H
   by_cases c9 : x21_1 < (l0_2.length : Int)
   rotate_left
   ·rw [if_neg c9] at H
    have c9b0 : decide (x21_1 < (l0_2.length : Int)) = false := decide_eq_false c9
    clear c9
    obtain rfl := Option.some.inj H
    go_wp2
    go_ret
    exact ⟨_,Z207,Z275,Z257⟩
   rw [if_pos c9] at H
   have c9b0 : decide (x21_1 < (l0_2.length : Int)) = true := decide_eq_true c9
   clear c9
   obtain ⟨c10,H⟩ := ifp H
   have c10b0 : decide (0 ≤ x21_1) = true := decide_eq_true c10
   clear c10
   obtain ⟨c11,H⟩ := ifp H
   have c11b0 : decide (x21_1 < (l0_2.length : Int)) = true := decide_eq_true c11
   clear c11
   by_cases c12 : a1 < ((rd_L2 l0_2 x21_1).length : Int)
   rotate_left
   ·rw [if_neg c12] at H
    have c12b0 : decide (a1 < ((rd_L2 l0_2 x21_1).length : Int)) = false := decide_eq_false c12
    clear c12
    obtain ⟨c16,H⟩ := ifp H
    have LMc16 := Aside0.mk c16
    clear c16
    obtain ⟨y326,hyy⟩ : ∃ y_ : List Int,y_ = (x5_1 ++ [0]) := ⟨_,rfl⟩
    replace H : (impl_Column.l0 k1 a1 y326 l0_2 (l0_2.length : Int) (wrap64 (x21_1 + 1))) = some r := zR
    have Ny326 := Aside0.mk hyy
    clear hyy
    have H' := Aside0.mk H
    clear H
    have p321 : 0 ≤ (x21_1 : Int) := of_decide_eq_true Z217
    have q321 : x21_1 < (l0_2.length : Int) := of_decide_eq_true Z217
    obtain ⟨ad321,A321_0,c321_0,e321,hx321_0,hl321_0,hi321_0⟩ := at_L2 HR0_2.out x21_1 p321 q321
    cases e321
    replace hx321_0 := (HB.out.cell (World.block_lt_of_cell? w _ hx321_0)).trans hx321_0
    have HR321_0 := Aside0.mk hi321_0
    have HC321_0 := Aside0.mk hl321_0
    clear hi321_0 hl321_0
    replace p321 := eq_true p321
    replace q321 := eq_true q321
    go_wp2_with (first | ((with_reducible refine gate_builtin (b := .append) (xs := #[.tmp 33,.tmp 35]) rfl ?_);at_builtin;refine Kd.R_append (Kd.int .i64) (w0 := w) w.heap.size rfl (.tmp 33) (.tmp 35) 24 3 (.int .i64 0) 8 rfl Try.underlying24 info3 rfl Z293 Z237 u5 x5_1 0 [.int .i64 0] (fun _ => True) (fun _ => False) rfl rfl ?aP (fun _ hk => hk.elim) ?aF ?aO ?aB ?aS ?aL ?_;(case aP => exact rfl);(case aB => exact Z112);(case aF => exact (fun _ _ => trivial));(case aO => exact Z154);(case aS => exact Z103);(case aL => have := LMc16.out;omega);intro v327 w17 ho hb hg hat;rw [← Ny326.out] at ho;have n_ := Z67;clear BK316 HB HO_5;obtain ⟨BK316,HB,HO328⟩ := n_;clear ho hb hg hat))
    go_roundg k1
    case measure => have := HK1.out;omega
    case rel => exact ⟨(y326),(wrap64 (x21_1 + 1)),Z218,H',⟨Z231⟩,⟨by (with_reducible repeat (first | apply Kd.R_alloc | apply Kd.R_drewN | apply Kd.R_drew));exact HO328.out⟩,⟨Z289⟩,⟨Z257⟩⟩
   rw [if_pos c12] at H
   have c12b0 : decide (a1 < ((rd_L2 l0_2 x21_1).length : Int)) = true := decide_eq_true c12
   clear c12
   obtain ⟨c13,H⟩ := ifp H
   have c13b0 : decide (0 ≤ a1) = true := decide_eq_true c13
   clear c13
   obtain ⟨c14,H⟩ := ifp H
   have LMc14 := Aside0.mk c14
   clear c14
   obtain ⟨y323,hyy⟩ : ∃ y_ : List Int,y_ = (x5_1 ++ [rd (rd_L2 l0_2 x21_1) a1]) := ⟨_,rfl⟩
   replace H : (impl_Column.l0 k1 a1 y323 l0_2 (l0_2.length : Int) (wrap64 (x21_1 + 1))) = some r := zR
   have Ny323 := Aside0.mk hyy
   clear hyy
   have H' := Aside0.mk H
   clear H
   have p321 : 0 ≤ (x21_1 : Int) := of_decide_eq_true Z217
   have q321 : x21_1 < (l0_2.length : Int) := of_decide_eq_true Z217
   obtain ⟨ad321,A321_0,c321_0,e321,hx321_0,hl321_0,hi321_0⟩ := at_L2 HR0_2.out x21_1 p321 q321
   cases e321
   replace hx321_0 := (HB.out.cell (World.block_lt_of_cell? w _ hx321_0)).trans hx321_0
   have HR321_0 := Aside0.mk hi321_0
   have HC321_0 := Aside0.mk hl321_0
   clear hi321_0 hl321_0
   replace p321 := eq_true p321
   replace q321 := eq_true q321
   have p322 : 0 ≤ (a1 : Int) := of_decide_eq_true Z217
   have q322 : a1 < ((rd_L2 l0_2 x21_1).length : Int) := of_decide_eq_true Z217
   obtain ⟨ad322,e322,hx322_0⟩ := Kd.at_int HR321_0.out a1 p322 q322
   cases e322
   replace hx322_0 := (HB.out.cell (World.block_lt_of_cell? w _ hx322_0)).trans hx322_0
   replace p322 := eq_true p322
   replace q322 := eq_true q322
   go_wp2_with (first | ((with_reducible refine gate_builtin (b := .append) (xs := #[.tmp 33,.tmp 35]) rfl ?_);at_builtin;refine Kd.R_append (Kd.int .i64) (w0 := w) w.heap.size rfl (.tmp 33) (.tmp 35) 24 3 (.int .i64 0) 8 rfl Try.underlying24 info3 rfl Z293 Z237 u5 x5_1 (rd (rd_L2 l0_2 x21_1) a1) [.int .i64 (rd (rd_L2 l0_2 x21_1) a1)] (fun _ => True) (fun _ => False) rfl rfl ?aP (fun _ hk => hk.elim) ?aF ?aO ?aB ?aS ?aL ?_;(case aP => exact rfl);(case aB => exact Z112);(case aF => exact (fun _ _ => trivial));(case aO => exact Z154);(case aS => exact Z103);(case aL => have := LMc14.out;omega);intro v324 w15 ho hb hg hat;rw [← Ny323.out] at ho;have n_ := Z67;clear BK316 HB HO_5;obtain ⟨BK316,HB,HO325⟩ := n_;clear ho hb hg hat))
   go_roundg k1
   case measure => have := HK1.out;omega
   case rel => exact ⟨(y323),(wrap64 (x21_1 + 1)),Z218,H',⟨Z231⟩,⟨by (with_reducible repeat (first | apply Kd.R_alloc | apply Kd.R_drewN | apply Kd.R_drew));exact HO325.out⟩,⟨Z289⟩,⟨Z257⟩⟩

/-! ### slices_Clone_int_int: function 56 -/
def slices_Clone_int_int.f (l0 : List Int) : Option (List Int) := if l0.length * 8 ≤ 140737488355328 then some l0 else none
theorem slices_Clone_int_int.calls (A0 : Option Addr) (c0 : Nat) (l0 : List Int) (r : List Int) (w : World) (hr0 : Kd.C (Kd.int .i64) w A0 l0.length l0) (hc0 : l0.length ≤ c0) (h : slices_Clone_int_int.f l0 = some r) :
  Calls Try.prog 56 #[.slice A0 l0.length c0] w fun e w' => ∃ v0_ : Value,e = .returned (v0_) ∧ Kd.R (Kd.int .i64) 3 w' w.heap.size (fun _ => True) v0_ r ∧ Below w.heap.size w w' := by
 unfold slices_Clone_int_int.f at h
 by_cases hb : l0.length * 8 ≤ 140737488355328
 rotate_left
 ·rw [if_neg hb] at h;cases h
 rw [if_pos hb] at h
 obtain rfl := Option.some.inj h
 rcases Nat.eq_zero_or_pos l0.length with h0 | h0
 ·obtain rfl := List.length_eq_zero_iff.mp h0
  cases A0 with
  | none => exact (Try.slices_Clone_int_nil _ _ w).mono fun e w' ⟨he,hw⟩ => ⟨_,he,Kd.R_nil _ _ _ _ _,hw ▸ Below.refl _ _⟩
  | some a => exact (Try.slices_Clone_int_zero a _ w).mono fun e w' ⟨v,he,ho,_,hb⟩ => ⟨v,he,Kd.R_of_own (enc := Value.int .i64) ho (fun _ _ => trivial),hb⟩
 obtain ⟨_,_,hc'⟩ := hr0
 obtain ⟨⟨b,off,f⟩,rfl,hc⟩ := hc' h0
 clear hc'
 have hk : ∀ j,j < l0.length → w.cell? (if j = 0 then ⟨b,off,f⟩ else ⟨b,off + j,none⟩) = some (.int .i64 (l0.getD j 0)) := by
  intro j hj
  obtain ⟨c,_,hcr,hcell⟩ := hc j _ (List.getElem?_eq_getElem hj)
  have hcr : c = [Value.int .i64 l0[j]] := hcr
  have := hcell 0 (.int .i64 l0[j]) (by rw [hcr];rfl)
  simpa [Kd.int,Kd.scalar,Addr.add,List.getD,List.getElem?_eq_getElem hj] using this
 obtain rfl : f = none := by
  have := hk 0 h0
  cases f with
  | none => rfl
  | some _ =>
   simp only [if_true,World.cell?,Option.isSome_some] at this
   split at this <;> simp at this
 have hk : ∀ j,j < l0.length → w.cell? ⟨b,off + j,none⟩ = some (.int .i64 (l0.getD j 0)) := by
  intro j hj
  have := hk j hj
  by_cases e : j = 0
  rotate_left
  ·rwa [if_neg e] at this
  subst e;simpa using this
 exact (Try.slices_Clone_int b off _ _ l0 w (Nat.le_refl _) hb hk).mono fun e w' ⟨v,he,ho,_,hb⟩ => ⟨v,he,Kd.R_of_own (enc := Value.int .i64) (by simpa [encs] using ho) (fun _ _ => trivial),hb⟩

/-! ### slices_Sort_int_int: function 57 -/
def slices_Sort_int_int.f (l0 : List Int) : Option (List Int) := if l0.length < 4611686018427387904 then some (l0.mergeSort fun x y => decide (x ≤ y)) else none
theorem slices_Sort_int_int.calls (P0_ : Nat → Prop) (u9000_ : Value) (l0 : List Int) (r : List Int) (w0 w : World) (hB : Below w0.heap.size w0 w) (ho0 : Kd.R (Kd.int .i64) 3 w w0.heap.size P0_ u9000_ l0) (h : slices_Sort_int_int.f l0 = some r) :
  Calls Try.prog 57 #[u9000_] w fun e w' => e = .returned (.tuple #[]) ∧ Kd.R (Kd.int .i64) 3 w' w0.heap.size (fun k_ => (P0_ k_ ∨ w.heap.size ≤ k_)) u9000_ r ∧ Below w0.heap.size w0 w' ∧ Kept w w' (fun k_ => P0_ k_) := by
 unfold slices_Sort_int_int.f at h
 by_cases hlt : l0.length < 4611686018427387904
 rotate_left
 ·rw [if_neg hlt] at h;cases h
 rw [if_pos hlt] at h
 obtain rfl := Option.some.inj h
 have hown := Kd.own_of_R ho0
 have hP := ho0.1
 rcases hown.2 with ⟨rfl,h0⟩ | ⟨g,cap,cur,rfl,hg,hh,h1,h2,h3,h4⟩
 ·obtain rfl := List.length_eq_zero_iff.mp h0
  refine (Try.slices_Sort_int_none none 0 w).mono fun e w' ⟨he,hw⟩ => ?_
  subst hw
  exact ⟨he,by simpa using Kd.R_nil _ _ _ _ _,hB,Nat.le_refl _,fun _ _ _ => rfl⟩
 have hH := holds_of_blockI (ss := l0) hh (by simpa [encs] using h4)
 have hgl := (Array.getElem?_eq_some_iff.1 hh).1
 have hPg : P0_ g := hP g rfl
 refine (Try.slices_Sort_int g 0 cap l0 w hH hgl hlt).mono fun e w' ⟨he,n,os,hw⟩ => ?_
 subst hw
 have hl : (l0.mergeSort fun x y => decide (x ≤ y)).length = l0.length := List.length_mergeSort _
 have hgr := grownBy_sortedI (w := w) (g := g) (n := n) (os := os) (l0.mergeSort fun x y => decide (x ≤ y)).toArray
 have ho := ownsRow_sortedI (n := n) (os := os) hl hg hh h1 h2 h3
 refine ⟨he,Kd.R_of_own (enc := Value.int .i64) (by rw [hl];simpa [encs] using ho) (fun k hk => .inl (hP k hk)),hB.grown hgr hB.size (fun k hk => by cases hk;exact hg),hgr.size,fun i hi hn => hgr.block i hi (fun e => hn (by cases e;exact hPg))⟩

/-! ### impl_SortInts: function 46 -/
def impl_SortInts.f (l0 : List Int) : Option (List Int) := (slices_Clone_int_int.f l0).bind fun t329 => ((slices_Sort_int_int.f t329).bind fun t332 => (some t332))
set_option maxHeartbeats 8000000 in
set_option maxRecDepth 100000 in
theorem impl_SortInts.calls (A0 : Option Addr) (c0 : Nat) (l0 : List Int) (r : List Int) (w : World) (hr0 : Kd.C (Kd.int .i64) w A0 l0.length l0) (hc0 : l0.length ≤ c0) (h : impl_SortInts.f l0 = some r) :
  Calls Try.prog 46 #[.slice A0 l0.length c0] w fun e w' => ∃ v0_ : Value,e = .returned (v0_) ∧ Kd.R (Kd.int .i64) 3 w' w.heap.size (fun _ => True) v0_ r ∧ Below w.heap.size w w' := by
 have HR0 := Aside0.mk hr0
 have HC0 := Aside0.mk hc0
 clear hr0 hc0
 have HB := Aside0.mk (Below.refl w.heap.size w)
 have H : ((slices_Clone_int_int.f l0).bind fun t329 => ((slices_Sort_int_int.f t329).bind fun t332 => (some t332))) = some r := h
 clear h
 obtain ⟨t329,A20,H⟩ := Option.bind_eq_some_iff.mp H
 have A2 := Aside0.mk A20
 clear A20
 obtain ⟨t332,A30,H⟩ := Option.bind_eq_some_iff.mp H
 have A3 := Aside0.mk A30
 clear A30
 obtain rfl := Option.some.inj H
 go_enter Try.func46,Try.ntmps46
 go_wp2_with (first | ((with_reducible refine gate_callee (f := 56) rfl ?_);refine goesL_ (some 5) rfl rfl Try.func56 Z236 rfl #[.slice A0 l0.length c0] rfl Z146 ?_;(with_reducible refine (slices_Clone_int_int.calls _ _ l0 t329 _ ?side1 ?side2 A2.out).mono ?_);(case side1 => exact Z132);(case side2 => exact HC0.out);rintro e wq1 ⟨vq2,rfl,hoq3,hb⟩;refine ⟨_,rfl,?_⟩;have n_ := Z34;clear HB;obtain ⟨HO331,HB⟩ := n_;(try clear hb);(try clear hb2);(try clear hk);(try clear hi);(try clear hoq3);obtain ⟨Aoq4,coq4,eoq4⟩ := Kd.R_slice HO331.out;subst eoq4) | ((with_reducible refine gate_callee (f := 57) rfl ?_);refine goesL_ (some 7) rfl rfl Try.func57 Z236 rfl #[.slice Aoq4 t329.length coq4] rfl Z146 ?_;(with_reducible refine (slices_Sort_int_int.calls (fun k_ => some k_ = (.slice Aoq4 t329.length coq4 : Value).ownBlock) (.slice Aoq4 t329.length coq4) t329 t332 w _ ?side1 ?side2 A3.out).mono ?_);(case side1 => exact Z297);(case side2 => exact Kd.R_tight rfl HO331.out);rintro e wq5 ⟨rfl,hyq3,hb,hkp⟩;refine ⟨_,rfl,?_⟩;have n_ := jA (Kd.R_reok rfl hyq3 (fun k_ e_ => HO331.out.1 k_ e_)) (Aside0.mk (hb));clear HO331 HB;obtain ⟨HO331,HB⟩ := n_;(try clear hb);(try clear hkp);(try clear hyq3)))
 go_ret
 exact ⟨_,Z207,by (with_reducible repeat (first | apply Kd.R_alloc | apply Kd.R_drewN | apply Kd.R_drew));exact HO331.out,Z297⟩

/-! ### slices_Compact_int_int: function 47 -/
theorem slices_Compact_int_int.heap {w : World} {g q : Nat} {cur : Array Value} {e : TypeId} {fr : Nat × Nat} (d : Array Int) (hb : w.heap[g]? = some (.cells cur e fr)) :
  (Go.Sort.putRow (Value.int .i64) (Go.Sort.ahead w q) g 0 d).heap[g]? = some (.cells (Go.Sort.putCells (Value.int .i64) 0 d cur) e fr) := by
 have := heap_sortedI (n := q) (os := #[]) d hb
 simpa [Go.Sort.grow] using this
theorem slices_Compact_int_int.grown (x : World) : Go.Sort.grow x #[] = x := by
 cases x
 simp [Go.Sort.grow]
theorem slices_Compact_int_int.len (l : List Int) : (Lib.compact l).length ≤ l.length := by
 unfold Lib.compact Lib.compactUpTo
 rw [List.length_map]
 exact Nat.le_trans (List.length_filter_le _ _) Z294
def slices_Compact_int_int.f (l0 : List Int) : Option (List Int) := if l0.length ≤ 9223372036854775807 then some (Lib.compact l0) else none
theorem slices_Compact_int_int.calls (P0_ : Nat → Prop) (u9000_ : Value) (l0 : List Int) (r : List Int) (w0 w : World) (hB : Below w0.heap.size w0 w) (ho0 : Kd.R (Kd.int .i64) 3 w w0.heap.size P0_ u9000_ l0) (h : slices_Compact_int_int.f l0 = some r) :
  Calls Try.prog 47 #[u9000_] w fun e w' => ∃ v0_ : Value,e = .returned (v0_) ∧ Kd.R (Kd.int .i64) 3 w' w0.heap.size (fun k_ => (P0_ k_ ∨ w.heap.size ≤ k_)) v0_ r ∧ Below w0.heap.size w0 w' ∧ Kept w w' (fun k_ => P0_ k_) := by
 unfold slices_Compact_int_int.f at h
 by_cases hlt : l0.length ≤ 9223372036854775807
 rotate_left
 ·rw [if_neg hlt] at h;cases h
 rw [if_pos hlt] at h
 obtain rfl := Option.some.inj h
 have hown := Kd.own_of_R ho0
 have hP := ho0.1
 rcases hown.2 with ⟨rfl,h0⟩ | ⟨g,cap,cur,rfl,hg,hh,h1,h2,h3,h4⟩
 ·obtain rfl := List.length_eq_zero_iff.mp h0
  refine (Try.slices_Compact_int_empty none 0 w).mono fun e w' ⟨he,hw⟩ => ?_
  subst hw
  exact ⟨_,he,Kd.R_nil _ _ _ _ _,hB,Nat.le_refl _,fun _ _ _ => rfl⟩
 have hH := holds_of_blockI (ss := l0) hh (by simpa [encs] using h4)
 have hPg : P0_ g := hP g rfl
 refine (Try.slices_Compact_int g 0 cap l0 w hH hlt h1).mono fun e w' ⟨he,q,hw⟩ => ?_
 have hl := slices_Compact_int_int.len l0
 have hgr : w.grownBy w' (some g) := by
  have := grownBy_sortedI (w := w) (g := g) (n := q) (os := #[]) (Lib.compact l0 ++ List.replicate (l0.length - (Lib.compact l0).length) 0).toArray
  rw [slices_Compact_int_int.grown] at this
  rw [hw]
  exact this
 have hb' := slices_Compact_int_int.heap (q := q) (Lib.compact l0 ++ List.replicate (l0.length - (Lib.compact l0).length) 0).toArray hh
 rw [← hw] at hb'
 have ho : w'.ownsRow w0.heap.size 3 1 (.slice (some ⟨g,0,none⟩) (Lib.compact l0).length cap) (Lib.compact l0).length (encs (Value.int .i64) (Lib.compact l0)) := by
  refine ⟨by simp [encs],.inr ⟨g,cap,_,rfl,hg,hb',Z237,h2,by simp [Go.Sort.putCells,h3],?_⟩⟩
  have ht := take_putCellsI cur (Lib.compact l0 ++ List.replicate (l0.length - (Lib.compact l0).length) 0) (by rw [List.length_append,List.length_replicate];omega)
  have ht2 := congrArg (List.take (Lib.compact l0).length) ht
  rw [List.take_take,List.length_append,List.length_replicate,Nat.min_eq_left Z237] at ht2
  rw [Nat.mul_one,ht2,List.map_append,List.take_left' Z294]
  rfl
 exact ⟨_,he,Kd.R_of_own (enc := Value.int .i64) ho (fun k hk => .inl (hP k hk)),hB.grown hgr hB.size (fun k hk => by cases hk;exact hg),hgr.size,fun i hi hn => hgr.block i hi (fun e => hn (by cases e;exact hPg))⟩

/-! ### impl_CutsOf: function 27 -/
mutual
def impl_CutsOf.j0 : Nat → List Int → Int → List Int → Bool → Option (List Int)
 | 0,_,_,_,_ => none
 | k + 1,x0,x1,x5,x18 => if x18 = true then (some x5) else ((impl_SortInts.f x0).bind fun t338 => (impl_CutsOf.l0 k x0 x1 x5 t338 1))
def impl_CutsOf.l0 : Nat → List Int → Int → List Int → List Int → Int → Option (List Int)
 | 0,_,_,_,_,_ => none
 | k + 1,x0,x1,x5,x6,x7 => if x7 < x1 then (if x1 = 0 then (none) else (if (wrap64 (Int.tdiv (wrap64 ((x0.length : Int) * x7)) x1)) ≥ 1 then (if 0 ≤ (wrap64 ((wrap64 (Int.tdiv (wrap64 ((x0.length : Int) * x7)) x1)) - 1)) then (if (wrap64 ((wrap64 (Int.tdiv (wrap64 ((x0.length : Int) * x7)) x1)) - 1)) < (x6.length : Int) then (if 0 ≤ (wrap64 ((x6.length : Int) - 1)) then (if (wrap64 ((x6.length : Int) - 1)) < (x6.length : Int) then (if (rd x6 (wrap64 ((wrap64 (Int.tdiv (wrap64 ((x0.length : Int) * x7)) x1)) - 1))) = (rd x6 (wrap64 ((x6.length : Int) - 1))) then (impl_CutsOf.l0 k x0 x1 x5 x6 (wrap64 (x7 + 1))) else (if x5.length < 17592186044416 then (impl_CutsOf.l0 k x0 x1 (x5 ++ [rd x6 (wrap64 ((wrap64 (Int.tdiv (wrap64 ((x0.length : Int) * x7)) x1)) - 1))]) x6 (wrap64 (x7 + 1))) else (none))) else (none)) else (none)) else (none)) else (none)) else (impl_CutsOf.l0 k x0 x1 x5 x6 (wrap64 (x7 + 1))))) else ((slices_Compact_int_int.f x5).bind fun t347 => (some t347))
end
def impl_CutsOf.f (k : Nat) (l0 : List Int) (a1 : Int) : Option (List Int) := (some (([] : List Int) : List Int)).bind fun y333 => ((impl_within.f a1 2 8).bind fun t336 => (if t336 = true then ((impl_within.f (l0.length : Int) 1 40).bind fun t337 => (impl_CutsOf.j0 k l0 a1 y333 (!t337))) else (impl_CutsOf.j0 k l0 a1 y333 true)))
theorem impl_CutsOf.mono_l : ∀ k,(∀ y0 y1 y2 y3,LeO (impl_CutsOf.j0 k y0 y1 y2 y3) (impl_CutsOf.j0 (k + 1) y0 y1 y2 y3)) ∧ (∀ y0 y1 y2 y3 y4,LeO (impl_CutsOf.l0 k y0 y1 y2 y3 y4) (impl_CutsOf.l0 (k + 1) y0 y1 y2 y3 y4))
 | 0 => ⟨fun _ _ _ _ r h => by simp [impl_CutsOf.j0] at h,fun _ _ _ _ _ r h => by simp [impl_CutsOf.l0] at h⟩
 | k + 1 => by
  obtain ⟨ih0,ih1⟩ := impl_CutsOf.mono_l k
  refine ⟨?_,?_⟩
  ·intro y0 y1 y2 y3
   unfold impl_CutsOf.j0
   repeat' first
   | (with_reducible exact ih0 _ _ _ _)
   | (with_reducible exact ih1 _ _ _ _ _)
   | (with_reducible exact LeO.refl _)
   | (with_reducible exact LeO.none _)
   | (with_reducible refine LeO.ite ?_ ?_)
   | (with_reducible refine LeO.bind ?_ (fun _ => ?_))
   | exact ih0 _ _ _ _
   | exact ih1 _ _ _ _ _
   | exact LeO.none _
   | refine LeO.ite ?_ ?_
   | refine LeO.bind ?_ (fun _ => ?_)
  ·intro y0 y1 y2 y3 y4
   unfold impl_CutsOf.l0
   repeat' first
   | (with_reducible exact ih0 _ _ _ _)
   | (with_reducible exact ih1 _ _ _ _ _)
   | (with_reducible exact LeO.refl _)
   | (with_reducible exact LeO.none _)
   | (with_reducible refine LeO.ite ?_ ?_)
   | (with_reducible refine LeO.bind ?_ (fun _ => ?_))
   | exact ih0 _ _ _ _
   | exact ih1 _ _ _ _ _
   | exact LeO.none _
   | refine LeO.ite ?_ ?_
   | refine LeO.bind ?_ (fun _ => ?_)
theorem impl_CutsOf.mono : ∀ a0 a1 k,LeO (impl_CutsOf.f k a0 a1) (impl_CutsOf.f (k + 1) a0 a1) := by
 intro a0 a1 k
 obtain ⟨ih0,ih1⟩ := impl_CutsOf.mono_l k
 unfold impl_CutsOf.f
 repeat' first
   | (with_reducible exact ih0 _ _ _ _)
   | (with_reducible exact ih1 _ _ _ _ _)
   | (with_reducible exact LeO.refl _)
   | (with_reducible exact LeO.none _)
   | (with_reducible refine LeO.ite ?_ ?_)
   | (with_reducible refine LeO.bind ?_ (fun _ => ?_))
   | exact ih0 _ _ _ _
   | exact ih1 _ _ _ _ _
   | exact LeO.none _
   | refine LeO.ite ?_ ?_
   | refine LeO.bind ?_ (fun _ => ?_)
set_option maxHeartbeats 8000000 in
set_option maxRecDepth 100000 in
theorem impl_CutsOf.calls (k : Nat) (A0 : Option Addr) (c0 : Nat) (l0 : List Int) (a1 : Int) (r : List Int) (w : World) (hr0 : Kd.C (Kd.int .i64) w A0 l0.length l0) (hc0 : l0.length ≤ c0) (h : impl_CutsOf.f k l0 a1 = some r) :
  Calls Try.prog 27 #[.slice A0 l0.length c0,.int .i64 a1] w fun e w' => ∃ v0_ : Value,e = .returned (v0_) ∧ Kd.R (Kd.int .i64) 3 w' w.heap.size (fun _ => True) v0_ r ∧ Below w.heap.size w w' := by
 have HR0 := Aside0.mk hr0
 have HC0 := Aside0.mk hc0
 clear hr0 hc0
 have HB := Aside0.mk (Below.refl w.heap.size w)
 have H : ((some (([] : List Int) : List Int)).bind fun y333 => ((impl_within.f a1 2 8).bind fun t336 => (if t336 = true then ((impl_within.f (l0.length : Int) 1 40).bind fun t337 => (impl_CutsOf.j0 k l0 a1 y333 (!t337))) else (impl_CutsOf.j0 k l0 a1 y333 true)))) = some r := h
 clear h
 obtain ⟨y333,hyy⟩ : ∃ y_ : List Int,y_ = (([] : List Int)) := ⟨_,rfl⟩
 replace H : ((impl_within.f a1 2 8).bind fun t336 => (if t336 = true then ((impl_within.f (l0.length : Int) 1 40).bind fun t337 => (impl_CutsOf.j0 k l0 a1 y333 (!t337))) else (impl_CutsOf.j0 k l0 a1 y333 true))) = some r := zR
 have Ny333 := Aside0.mk hyy
 clear hyy
 have HC3 := Aside0.mk H
 clear H
 go_enter Try.func27,Try.ntmps27
 go_upto_region 2 with (first | ((with_reducible refine gate_dst (N := 9) rfl ?_);(try (refine gate_guard Z238 ?_;dsimp only));refine Kd.R_lit (Kd.int .i64) _ 3 ?hg (N := 9) ?hd (xs := ([] : List Int)) (inner := []) (ok := fun _ => True) (okp := fun _ => True) ?hr ?hp (fun _ hk => hk) trivial (Below.refl _ _) (Nat.le_refl _) Z294 ?_;(case hd => rfl);(case hg => rfl);(case hr => exact Z219);(case hp => exact Z232);intro v334 w4 ho5 hb hg_ hnew_;clear hg_ hnew_;(first | rw [← Ny333.out] at ho5 | (simp only [Int.reduceToNat] at ho5;rw [← Ny333.out] at ho5));have n_ := Z37;clear HB;obtain ⟨HO335,HB⟩ := n_;clear hb ho5))
 repeat (go_quiet (first | ((with_reducible refine gate_dst (N := 9) rfl ?_);(try (refine gate_guard Z238 ?_;dsimp only));refine Kd.R_lit (Kd.int .i64) _ 3 ?hg (N := 9) ?hd (xs := ([] : List Int)) (inner := []) (ok := fun _ => True) (okp := fun _ => True) ?hr ?hp (fun _ hk => hk) trivial (Below.refl _ _) (Nat.le_refl _) Z294 ?_;(case hd => rfl);(case hg => rfl);(case hr => exact Z219);(case hp => exact Z232);intro v334 w4 ho5 hb hg_ hnew_;clear hg_ hnew_;(first | rw [← Ny333.out] at ho5 | (simp only [Int.reduceToNat] at ho5;rw [← Ny333.out] at ho5));have n_ := Z37;clear HB;obtain ⟨HO335,HB⟩ := n_;clear hb ho5));go_upto_region 2 with (first | ((with_reducible refine gate_dst (N := 9) rfl ?_);(try (refine gate_guard Z238 ?_;dsimp only));refine Kd.R_lit (Kd.int .i64) _ 3 ?hg (N := 9) ?hd (xs := ([] : List Int)) (inner := []) (ok := fun _ => True) (okp := fun _ => True) ?hr ?hp (fun _ hk => hk) trivial (Below.refl _ _) (Nat.le_refl _) Z294 ?_;(case hd => rfl);(case hg => rfl);(case hr => exact Z219);(case hp => exact Z232);intro v334 w4 ho5 hb hg_ hnew_;clear hg_ hnew_;(first | rw [← Ny333.out] at ho5 | (simp only [Int.reduceToNat] at ho5;rw [← Ny333.out] at ho5));have n_ := Z37;clear HB;obtain ⟨HO335,HB⟩ := n_;clear hb ho5)))
 (try simp only [Act.put,List.setIfInBounds_toArray,List.set_cons_zero,List.set_cons_succ])
 go_cut [18] (fun v18 wc => ∃ (kq : Nat) (x18_2 : Bool),v18 = .bool x18_2 ∧ Aside0 (impl_CutsOf.j0 kq l0 a1 y333 x18_2 = some r) ∧ Aside0 (kq ≤ k) ∧ Aside0 (Kd.R (Kd.int .i64) 3 wc w.heap.size (fun _ => True) v334 y333) ∧ Aside0 (Below w.heap.size w wc))
 case first =>
  have H := HC3.out
  clear HC3
  obtain ⟨t336,A60,H⟩ := Option.bind_eq_some_iff.mp H
  have A6 := Aside0.mk A60
  clear A60
  by_cases c7 : t336 = true
  rotate_left
  ·replace c7 := Bool.eq_false_iff.mpr c7
   subst c7
   rw [if_neg Bool.false_ne_true] at H
   have H' := Aside0.mk H
   clear H
   go_wp2_with (first | (go_at_call 25;(with_reducible refine (impl_within.calls a1 2 8 false _ A6.out).mono ?_);rintro e w' ⟨rfl,⟨nd,rfl⟩⟩;(try first | exact ⟨rfl,_,dD⟩ | exact ⟨rfl,_,dT⟩)))
   repeat (go_quiet (first | (go_at_call 25;(with_reducible refine (impl_within.calls a1 2 8 false _ A6.out).mono ?_);rintro e w' ⟨rfl,⟨nd,rfl⟩⟩;(try first | exact ⟨rfl,_,dD⟩ | exact ⟨rfl,_,dT⟩)));try go_wp2_with (first | (go_at_call 25;(with_reducible refine (impl_within.calls a1 2 8 false _ A6.out).mono ?_);rintro e w' ⟨rfl,⟨nd,rfl⟩⟩;(try first | exact ⟨rfl,_,dD⟩ | exact ⟨rfl,_,dT⟩))))
   go_meet
   case rel => exact ⟨_,(true),Z218,H',⟨Z223⟩,⟨Z180⟩,⟨Z297⟩⟩
  subst c7
  rw [if_pos rfl] at H
  obtain ⟨t337,A80,H⟩ := Option.bind_eq_some_iff.mp H
  have A8 := Aside0.mk A80
  clear A80
  have H' := Aside0.mk H
  clear H
  go_wp2_with (first | (go_at_call 25;(with_reducible refine (impl_within.calls a1 2 8 true _ A6.out).mono ?_);rintro e w' ⟨rfl,⟨nd,rfl⟩⟩;(try first | exact ⟨rfl,_,dD⟩ | exact ⟨rfl,_,dT⟩)) | (go_at_call 25;(with_reducible refine (impl_within.calls (l0.length : Int) 1 40 t337 _ A8.out).mono ?_);rintro e w' ⟨rfl,⟨nd,rfl⟩⟩;(try first | exact ⟨rfl,_,dD⟩ | exact ⟨rfl,_,dT⟩)))
  repeat (go_quiet (first | (go_at_call 25;(with_reducible refine (impl_within.calls a1 2 8 true _ A6.out).mono ?_);rintro e w' ⟨rfl,⟨nd,rfl⟩⟩;(try first | exact ⟨rfl,_,dD⟩ | exact ⟨rfl,_,dT⟩)) | (go_at_call 25;(with_reducible refine (impl_within.calls (l0.length : Int) 1 40 t337 _ A8.out).mono ?_);rintro e w' ⟨rfl,⟨nd,rfl⟩⟩;(try first | exact ⟨rfl,_,dD⟩ | exact ⟨rfl,_,dT⟩)));try go_wp2_with (first | (go_at_call 25;(with_reducible refine (impl_within.calls a1 2 8 true _ A6.out).mono ?_);rintro e w' ⟨rfl,⟨nd,rfl⟩⟩;(try first | exact ⟨rfl,_,dD⟩ | exact ⟨rfl,_,dT⟩)) | (go_at_call 25;(with_reducible refine (impl_within.calls (l0.length : Int) 1 40 t337 _ A8.out).mono ?_);rintro e w' ⟨rfl,⟨nd,rfl⟩⟩;(try first | exact ⟨rfl,_,dD⟩ | exact ⟨rfl,_,dT⟩))))
  go_meet
  case rel => exact ⟨_,(!t337),Z218,H',⟨Z223⟩,⟨Z180⟩,⟨Z297⟩⟩
 case rest =>
  clear HC3
  try clear c2
  try clear p2
  try clear c7
  obtain ⟨kq,x18_2,rfl,HA,HJ2,HO_5,HB⟩ := hcut
  cases kq with
  | zero => exact absurd HA.out (by simp [impl_CutsOf.j0])
  | succ kj2 =>
   have H := HA.out
   clear HA
   simp only [impl_CutsOf.j0] at H
   by_cases c9 : x18_2 = true
   ·subst c9
    rw [if_pos rfl] at H
    obtain rfl := Option.some.inj H
    go_wp2
    repeat (go_quiet (fail);try go_wp2)
    go_ret
    exact ⟨_,Z207,Z275,Z297⟩
   replace c9 := Bool.eq_false_iff.mpr c9
   subst c9
   rw [if_neg Bool.false_ne_true] at H
   obtain ⟨t338,A100,H⟩ := Option.bind_eq_some_iff.mp H
   have A10 := Aside0.mk A100
   clear A100
   have H' := Aside0.mk H
   clear H
   go_wp2_with (first | (go_at_call 46;(with_reducible refine (impl_SortInts.calls _ _ l0 t338 _ ?side1 ?side2 A10.out).mono ?_);(case side1 => exact Z114);(case side2 => exact HC0.out);rintro e w11 ⟨v339,rfl,ho0,hb⟩;have n_ := Z10;clear HO_5 HB;obtain ⟨HO_5,HO340,HB⟩ := n_;(try clear hb);(try clear hb2);(try clear hk);(try clear hi);(try clear ho0)))
   repeat (go_quiet (first | (go_at_call 46;(with_reducible refine (impl_SortInts.calls _ _ l0 t338 _ ?side1 ?side2 A10.out).mono ?_);(case side1 => exact Z114);(case side2 => exact HC0.out);rintro e w11 ⟨v339,rfl,ho0,hb⟩;have n_ := Z10;clear HO_5 HB;obtain ⟨HO_5,HO340,HB⟩ := n_;(try clear hb);(try clear hb2);(try clear hk);(try clear hi);(try clear ho0)));try go_wp2_with (first | (go_at_call 46;(with_reducible refine (impl_SortInts.calls _ _ l0 t338 _ ?side1 ?side2 A10.out).mono ?_);(case side1 => exact Z114);(case side2 => exact HC0.out);rintro e w11 ⟨v339,rfl,ho0,hb⟩;have n_ := Z10;clear HO_5 HB;obtain ⟨HO_5,HO340,HB⟩ := n_;(try clear hb);(try clear hb2);(try clear hk);(try clear hi);(try clear ho0))))
   go_loopg [5,7] kj2 (fun kq v5 v7 w' => ∃ (x5_2 : List Int) (x7_2 : Int),v7 = .int .i64 x7_2 ∧ Aside0 (impl_CutsOf.l0 kq l0 a1 x5_2 t338 x7_2 = some r) ∧ Aside0 (kq ≤ kj2) ∧ Aside0 (Kd.R (Kd.int .i64) 3 w' w.heap.size (fun k_ => some k_ ≠ (v339 : Value).ownBlock) v5 x5_2) ∧ Aside0 (Kd.R (Kd.int .i64) 3 w' w.heap.size (fun k_ => some k_ ≠ (v5 : Value).ownBlock) v339 t338) ∧ Aside0 (Below w.heap.size w w'))
   case atStart => exact ⟨(y333),(1),Z218,H',⟨Nat.le_refl _⟩,⟨by (with_reducible repeat (first | apply Kd.R_alloc | apply Kd.R_drewN | apply Kd.R_drew));exact Kd.R_mono HO_5.out (fun _ hk => hk.2)⟩,⟨by (with_reducible repeat (first | apply Kd.R_alloc | apply Kd.R_drewN | apply Kd.R_drew));exact Kd.R_mono HO340.out (fun _ hk => hk.2)⟩,⟨Z297⟩⟩
   case round =>
    clear H'
    try clear c2
    try clear p2
    try clear c7
    try clear c9
    try clear p2
    obtain ⟨x5_2,x7_2,rfl,HA,HK2,HO_5,HO_6,HB⟩ := hrel
    cases gk with
    | zero => exact absurd HA.out (by simp [impl_CutsOf.l0])
    | succ k2 =>
     have H := HA.out
     clear HA
     simp only [impl_CutsOf.l0] at H
     by_cases c12 : x7_2 < a1
     rotate_left
     ·rw [if_neg c12] at H
      have c12b0 : decide (x7_2 < a1) = false := decide_eq_false c12
      clear c12
      obtain ⟨t347,A260,H⟩ := Option.bind_eq_some_iff.mp H
      have A26 := Aside0.mk A260
      clear A260
      obtain rfl := Option.some.inj H
      obtain ⟨Ao27,co27,eo27⟩ := Kd.R_slice HO_5.out
      subst eo27
      go_wp2_with (first | (go_at_call 47;(with_reducible refine (slices_Compact_int_int.calls (fun k_ => some k_ = (.slice Ao27 x5_2.length co27 : Value).ownBlock) (.slice Ao27 x5_2.length co27) x5_2 t347 w _ ?side1 ?side2 A26.out).mono ?_);(case side1 => exact Z297);(case side2 => exact Kd.R_tight rfl HO_5.out);rintro e wq1 ⟨vq2,rfl,hoq3,hb,hkp⟩;have n_ := Z19;clear HO_6 HB HO_5;obtain ⟨HO_6,HO349,HB⟩ := n_;(try clear hb);(try clear hkp);(try clear hoq3)))
      repeat (go_quiet (first | (go_at_call 47;(with_reducible refine (slices_Compact_int_int.calls (fun k_ => some k_ = (.slice Ao27 x5_2.length co27 : Value).ownBlock) (.slice Ao27 x5_2.length co27) x5_2 t347 w _ ?side1 ?side2 A26.out).mono ?_);(case side1 => exact Z297);(case side2 => exact Kd.R_tight rfl HO_5.out);rintro e wq1 ⟨vq2,rfl,hoq3,hb,hkp⟩;have n_ := Z19;clear HO_6 HB HO_5;obtain ⟨HO_6,HO349,HB⟩ := n_;(try clear hb);(try clear hkp);(try clear hoq3)));try go_wp2_with (first | (go_at_call 47;(with_reducible refine (slices_Compact_int_int.calls (fun k_ => some k_ = (.slice Ao27 x5_2.length co27 : Value).ownBlock) (.slice Ao27 x5_2.length co27) x5_2 t347 w _ ?side1 ?side2 A26.out).mono ?_);(case side1 => exact Z297);(case side2 => exact Kd.R_tight rfl HO_5.out);rintro e wq1 ⟨vq2,rfl,hoq3,hb,hkp⟩;have n_ := Z19;clear HO_6 HB HO_5;obtain ⟨HO_6,HO349,HB⟩ := n_;(try clear hb);(try clear hkp);(try clear hoq3))))
      go_ret
      exact ⟨_,Z207,by (with_reducible repeat (first | apply Kd.R_alloc | apply Kd.R_drewN | apply Kd.R_drew));exact Kd.R_mono HO349.out (fun _ hk => trivial),Z297⟩
     rw [if_pos c12] at H
     have c12b0 : decide (x7_2 < a1) = true := decide_eq_true c12
     clear c12
     by_cases c13 : a1 = 0
     ·rw [if_pos c13] at H
      exact absurd H Z294
     rw [if_neg c13] at H
     have c13b0 : (a1 == 0) = false := beq_eq_false_iff_ne.mpr c13
     have c13b1 : (a1 != 0) = true := bne_iff_ne.mpr c13
     by_cases c14 : (wrap64 (Int.tdiv (wrap64 ((l0.length : Int) * x7_2)) a1)) ≥ 1
     rotate_left
     ·rw [if_neg c14] at H
      have c14b0 : decide (1 ≤ (wrap64 (Int.tdiv (wrap64 ((l0.length : Int) * x7_2)) a1))) = false := decide_eq_false c14
      clear c14
      have H' := Aside0.mk H
      clear H
      go_wp2
      repeat (go_quiet (fail);try go_wp2)
      go_roundg k2
      case measure => have := HJ2.out;have := HK2.out;omega
      case rel => exact ⟨(x5_2),(wrap64 (x7_2 + 1)),Z218,H',⟨Z220⟩,⟨Z275⟩,⟨Z276⟩,⟨Z297⟩⟩
     rw [if_pos c14] at H
     have c14b0 : decide (1 ≤ (wrap64 (Int.tdiv (wrap64 ((l0.length : Int) * x7_2)) a1))) = true := decide_eq_true c14
     clear c14
     obtain ⟨ji15,hji15⟩ : ∃ j_ : Int,(wrap64 ((wrap64 (Int.tdiv (wrap64 ((l0.length : Int) * x7_2)) a1)) - 1)) = j_ := ⟨_,rfl⟩
     replace H : (if 0 ≤ (ji15) then (if (ji15) < (t338.length : Int) then (if 0 ≤ (wrap64 ((t338.length : Int) - 1)) then (if (wrap64 ((t338.length : Int) - 1)) < (t338.length : Int) then (if (rd t338 (ji15)) = (rd t338 (wrap64 ((t338.length : Int) - 1))) then (impl_CutsOf.l0 k2 l0 a1 x5_2 t338 (wrap64 (x7_2 + 1))) else (if x5_2.length < 17592186044416 then (impl_CutsOf.l0 k2 l0 a1 (x5_2 ++ [rd t338 (ji15)]) t338 (wrap64 (x7_2 + 1))) else (none))) else (none)) else (none)) else (none)) else (none)) = some r := by first | (rw [hji15] at H;exact H) | (simp only [hji15] at H ⊢;exact H)
     have hji15w : (IntKind.i64.wrap ((wrap64 (Int.tdiv (wrap64 ((l0.length : Int) * x7_2)) a1)) - 1)) = ji15 := (i64_w _).trans hji15
     obtain ⟨c16,H⟩ := ifp H
     have c16b0 : decide (0 ≤ (ji15)) = true := decide_eq_true c16
     clear c16
     obtain ⟨c17,H⟩ := ifp H
     have c17b0 : decide ((ji15) < (t338.length : Int)) = true := decide_eq_true c17
     clear c17
     obtain ⟨ji18,hji18⟩ : ∃ j_ : Int,(wrap64 ((t338.length : Int) - 1)) = j_ := ⟨_,rfl⟩
     replace H : (if 0 ≤ (ji18) then (if (ji18) < (t338.length : Int) then (if (rd t338 (ji15)) = (rd t338 (ji18)) then (impl_CutsOf.l0 k2 l0 a1 x5_2 t338 (wrap64 (x7_2 + 1))) else (if x5_2.length < 17592186044416 then (impl_CutsOf.l0 k2 l0 a1 (x5_2 ++ [rd t338 (ji15)]) t338 (wrap64 (x7_2 + 1))) else (none))) else (none)) else (none)) = some r := by first | (rw [hji18] at H;exact H) | (simp only [hji18] at H ⊢;exact H)
     have hji18w : (IntKind.i64.wrap ((t338.length : Int) - 1)) = ji18 := (i64_w _).trans hji18
     obtain ⟨c19,H⟩ := ifp H
     have c19b0 : decide (0 ≤ (ji18)) = true := decide_eq_true c19
     clear c19
     obtain ⟨c20,H⟩ := ifp H
     have c20b0 : decide ((ji18) < (t338.length : Int)) = true := decide_eq_true c20
     clear c20
     by_cases c21 : (rd t338 (ji15)) = (rd t338 (ji18))
     ·rw [if_pos c21] at H
      have c21b0 : ((rd t338 (ji15)) == (rd t338 (ji18))) = true := beq_iff_eq.mpr c21
      have c21b1 : ((rd t338 (ji15)) != (rd t338 (ji18))) = false := bne_eq_false_iff_eq.mpr c21
      clear c21
      have H' := Aside0.mk H
      clear H
      obtain ⟨Ao22,co22,eo22⟩ := Kd.R_slice HO_6.out
      subst eo22
      have p341 : 0 ≤ ((ji15) : Int) := of_decide_eq_true Z217
      have q341 : (ji15) < (t338.length : Int) := of_decide_eq_true Z217
      obtain ⟨ad341,e341,hx341_0⟩ := Kd.at_int (Kd.R_reads' HO_6.out).2.2 (ji15) p341 q341
      cases e341
      replace p341 := eq_true p341
      replace q341 := eq_true q341
      have p342 : 0 ≤ ((ji18) : Int) := of_decide_eq_true Z217
      have q342 : (ji18) < (t338.length : Int) := of_decide_eq_true Z217
      obtain ⟨ad342,e342,hx342_0⟩ := Kd.at_int (Kd.R_reads' HO_6.out).2.2 (ji18) p342 q342
      obtain rfl : ad341 = ad342 := (by injection e342)
      replace p342 := eq_true p342
      replace q342 := eq_true q342
      go_wp2
      repeat (go_quiet (fail);try go_wp2)
      go_roundg k2
      case measure => have := HJ2.out;have := HK2.out;omega
      case rel => exact ⟨(x5_2),(wrap64 (x7_2 + 1)),Z218,H',⟨Z220⟩,⟨Z275⟩,⟨Z276⟩,⟨Z297⟩⟩
     rw [if_neg c21] at H
     have c21b0 : ((rd t338 (ji15)) == (rd t338 (ji18))) = false := beq_eq_false_iff_ne.mpr c21
     have c21b1 : ((rd t338 (ji15)) != (rd t338 (ji18))) = true := bne_iff_ne.mpr c21
     obtain ⟨c23,H⟩ := ifp H
     have LMc23 := Aside0.mk c23
     clear c23
     obtain ⟨y344,hyy⟩ : ∃ y_ : List Int,y_ = (x5_2 ++ [rd t338 (ji15)]) := ⟨_,rfl⟩
     replace H : (impl_CutsOf.l0 k2 l0 a1 y344 t338 (wrap64 (x7_2 + 1))) = some r := zR
     have Ny344 := Aside0.mk hyy
     clear hyy
     have H' := Aside0.mk H
     clear H
     obtain ⟨Ao24,co24,eo24⟩ := Kd.R_slice HO_6.out
     subst eo24
     have p341 : 0 ≤ ((ji15) : Int) := of_decide_eq_true Z217
     have q341 : (ji15) < (t338.length : Int) := of_decide_eq_true Z217
     obtain ⟨ad341,e341,hx341_0⟩ := Kd.at_int (Kd.R_reads' HO_6.out).2.2 (ji15) p341 q341
     cases e341
     replace p341 := eq_true p341
     replace q341 := eq_true q341
     have p342 : 0 ≤ ((ji18) : Int) := of_decide_eq_true Z217
     have q342 : (ji18) < (t338.length : Int) := of_decide_eq_true Z217
     obtain ⟨ad342,e342,hx342_0⟩ := Kd.at_int (Kd.R_reads' HO_6.out).2.2 (ji18) p342 q342
     obtain rfl : ad341 = ad342 := (by injection e342)
     replace p342 := eq_true p342
     replace q342 := eq_true q342
     have p343 : 0 ≤ ((ji15) : Int) := of_decide_eq_true Z217
     have q343 : (ji15) < (t338.length : Int) := of_decide_eq_true Z217
     obtain ⟨ad343,e343,hx343_0⟩ := Kd.at_int (Kd.R_reads' HO_6.out).2.2 (ji15) p343 q343
     obtain rfl : ad341 = ad343 := (by injection e343)
     replace p343 := eq_true p343
     replace q343 := eq_true q343
     go_wp2_with (first | ((with_reducible refine gate_builtin (b := .append) (xs := #[.tmp 49,.tmp 55]) rfl ?_);(try (refine gate_guard Z238 ?_;dsimp only));at_builtin;refine Kd.R_append (Kd.int .i64) (w0 := w) w.heap.size rfl (.tmp 49) (.tmp 55) 24 3 (.int .i64 0) 8 rfl Try.underlying24 info3 rfl Z293 Z237 u5 x5_2 (rd t338 (ji15)) [.int .i64 (rd t338 (ji15))] (fun k_ => some k_ ≠ (.slice (some ad341) t338.length co24 : Value).ownBlock) (fun _ => False) rfl rfl ?aP (fun _ hk => hk.elim) ?aF ?aO ?aB ?aS ?aL ?_;(case aP => exact rfl);(case aB => exact Z138);(case aF => exact Z129);(case aO => exact Z154);(case aS => exact Z124);(case aL => have := LMc23.out;omega);intro v345 w25 ho hb hg hat;rw [← Ny344.out] at ho;have n_ := Z84;clear HO_6 HB HO_5;obtain ⟨HO_6,HB,HO346⟩ := n_;clear ho hb hg hat))
     repeat (go_quiet (first | ((with_reducible refine gate_builtin (b := .append) (xs := #[.tmp 49,.tmp 55]) rfl ?_);(try (refine gate_guard Z238 ?_;dsimp only));at_builtin;refine Kd.R_append (Kd.int .i64) (w0 := w) w.heap.size rfl (.tmp 49) (.tmp 55) 24 3 (.int .i64 0) 8 rfl Try.underlying24 info3 rfl Z293 Z237 u5 x5_2 (rd t338 (ji15)) [.int .i64 (rd t338 (ji15))] (fun k_ => some k_ ≠ (.slice (some ad341) t338.length co24 : Value).ownBlock) (fun _ => False) rfl rfl ?aP (fun _ hk => hk.elim) ?aF ?aO ?aB ?aS ?aL ?_;(case aP => exact rfl);(case aB => exact Z138);(case aF => exact Z129);(case aO => exact Z154);(case aS => exact Z124);(case aL => have := LMc23.out;omega);intro v345 w25 ho hb hg hat;rw [← Ny344.out] at ho;have n_ := Z84;clear HO_6 HB HO_5;obtain ⟨HO_6,HB,HO346⟩ := n_;clear ho hb hg hat));try go_wp2_with (first | ((with_reducible refine gate_builtin (b := .append) (xs := #[.tmp 49,.tmp 55]) rfl ?_);(try (refine gate_guard Z238 ?_;dsimp only));at_builtin;refine Kd.R_append (Kd.int .i64) (w0 := w) w.heap.size rfl (.tmp 49) (.tmp 55) 24 3 (.int .i64 0) 8 rfl Try.underlying24 info3 rfl Z293 Z237 u5 x5_2 (rd t338 (ji15)) [.int .i64 (rd t338 (ji15))] (fun k_ => some k_ ≠ (.slice (some ad341) t338.length co24 : Value).ownBlock) (fun _ => False) rfl rfl ?aP (fun _ hk => hk.elim) ?aF ?aO ?aB ?aS ?aL ?_;(case aP => exact rfl);(case aB => exact Z138);(case aF => exact Z129);(case aO => exact Z154);(case aS => exact Z124);(case aL => have := LMc23.out;omega);intro v345 w25 ho hb hg hat;rw [← Ny344.out] at ho;have n_ := Z84;clear HO_6 HB HO_5;obtain ⟨HO_6,HB,HO346⟩ := n_;clear ho hb hg hat)))
     go_roundg k2
     case measure => have := HJ2.out;have := HK2.out;omega
     case rel => exact ⟨(y344),(wrap64 (x7_2 + 1)),Z218,H',⟨Z220⟩,⟨by (with_reducible repeat (first | apply Kd.R_alloc | apply Kd.R_drewN | apply Kd.R_drew));exact HO346.out⟩,⟨Z150⟩,⟨Z297⟩⟩

/-! ### impl_BinOf: function 28 -/
def impl_BinOf.l0 : Nat → Int → Int → List Int → Int → Int → Option (Int)
 | 0,_,_,_,_,_ => none
 | k + 1,x1,x5,x8,x9,x10 => if x10 < x9 then (if 0 ≤ x10 then (if x10 < (x8.length : Int) then (if (rd x8 x10) < x1 then (impl_BinOf.l0 k x1 (wrap64 (x5 + 1)) x8 x9 (wrap64 (x10 + 1))) else (impl_BinOf.l0 k x1 x5 x8 x9 (wrap64 (x10 + 1)))) else (none)) else (none)) else (some x5)
def impl_BinOf.f (k : Nat) (l0 : List Int) (a1 : Int) : Option (Int) := impl_BinOf.l0 k a1 0 l0 (l0.length : Int) 0
theorem impl_BinOf.mono_l : ∀ k,(∀ y0 y1 y2 y3 y4,LeO (impl_BinOf.l0 k y0 y1 y2 y3 y4) (impl_BinOf.l0 (k + 1) y0 y1 y2 y3 y4))
 | 0 => fun _ _ _ _ _ r h => by simp [impl_BinOf.l0] at h
 | k + 1 => by
  have ih0 := impl_BinOf.mono_l k
  ·intro y0 y1 y2 y3 y4
   unfold impl_BinOf.l0
   repeat' first
   | (with_reducible exact ih0 _ _ _ _ _)
   | (with_reducible exact LeO.refl _)
   | (with_reducible exact LeO.none _)
   | (with_reducible refine LeO.ite ?_ ?_)
   | (with_reducible refine LeO.bind ?_ (fun _ => ?_))
   | exact ih0 _ _ _ _ _
   | exact LeO.none _
   | refine LeO.ite ?_ ?_
   | refine LeO.bind ?_ (fun _ => ?_)
theorem impl_BinOf.mono : ∀ a0 a1 k,LeO (impl_BinOf.f k a0 a1) (impl_BinOf.f (k + 1) a0 a1) := by
 intro a0 a1 k
 have ih0 := impl_BinOf.mono_l k
 unfold impl_BinOf.f
 repeat' first
   | (with_reducible exact ih0 _ _ _ _ _)
   | (with_reducible exact LeO.refl _)
   | (with_reducible exact LeO.none _)
   | (with_reducible refine LeO.ite ?_ ?_)
   | (with_reducible refine LeO.bind ?_ (fun _ => ?_))
   | exact ih0 _ _ _ _ _
   | exact LeO.none _
   | refine LeO.ite ?_ ?_
   | refine LeO.bind ?_ (fun _ => ?_)
set_option maxHeartbeats 8000000 in
set_option maxRecDepth 100000 in
theorem impl_BinOf.calls (k : Nat) (A0 : Option Addr) (c0 : Nat) (l0 : List Int) (a1 : Int) (r : Int) (w : World) (hr0 : Kd.C (Kd.int .i64) w A0 l0.length l0) (hc0 : l0.length ≤ c0) (h : impl_BinOf.f k l0 a1 = some r) :
  Calls Try.prog 28 #[.slice A0 l0.length c0,.int .i64 a1] w fun e w' => e = .returned (.int .i64 r) ∧ Drawn0 w w' := by
 have HR0 := Aside0.mk hr0
 have HC0 := Aside0.mk hc0
 clear hr0 hc0
 have H := h
 clear h
 unfold impl_BinOf.f at H
 have H' := Aside0.mk H
 clear H
 go_enter Try.func28,Try.ntmps28
 go_wp2
 go_loopg [5,10] k (fun kq v5 v10 w' => ∃ (x5_1 : Int) (x10_1 : Int),v5 = .int .i64 x5_1 ∧ v10 = .int .i64 x10_1 ∧ Aside0 (impl_BinOf.l0 kq a1 x5_1 l0 (l0.length : Int) x10_1 = some r) ∧ Aside0 (kq ≤ k) ∧ Drawn0 w w')
 case atStart => exact ⟨(0),(0),Z218,Z218,H',⟨Nat.le_refl _⟩,Z214⟩
 case round =>
  clear H'
  try clear c2
  try clear p2
  obtain ⟨x5_1,x10_1,rfl,rfl,HA,HK1,⟨m1,rfl⟩⟩ := hrel
  cases gk with
  | zero => exact absurd HA.out (by simp [impl_BinOf.l0])
  | succ k1 =>
   have H := HA.out
   clear HA
   simp only [impl_BinOf.l0] at H
   by_cases c3 : x10_1 < (l0.length : Int)
   rotate_left
   ·rw [if_neg c3] at H
    have c3b0 : decide (x10_1 < (l0.length : Int)) = false := decide_eq_false c3
    clear c3
    obtain rfl := Option.some.inj H
    go_wp2
    go_ret
    exact ⟨Z218,Z214⟩
   rw [if_pos c3] at H
   have c3b0 : decide (x10_1 < (l0.length : Int)) = true := decide_eq_true c3
   clear c3
   obtain ⟨c4,H⟩ := ifp H
   have c4b0 : decide (0 ≤ x10_1) = true := decide_eq_true c4
   clear c4
   obtain ⟨c5,H⟩ := ifp H
   have c5b0 : decide (x10_1 < (l0.length : Int)) = true := decide_eq_true c5
   clear c5
   by_cases c6 : (rd l0 x10_1) < a1
   rotate_left
   ·rw [if_neg c6] at H
    have c6b0 : decide ((rd l0 x10_1) < a1) = false := decide_eq_false c6
    clear c6
    have H' := Aside0.mk H
    clear H
    have p350 : 0 ≤ (x10_1 : Int) := of_decide_eq_true Z217
    have q350 : x10_1 < (l0.length : Int) := of_decide_eq_true Z217
    obtain ⟨ad350,e350,hx350_0⟩ := Kd.at_int HR0.out x10_1 p350 q350
    cases e350
    replace p350 := eq_true p350
    replace q350 := eq_true q350
    go_wp2
    go_roundg k1
    case measure => have := HK1.out;omega
    case rel => exact ⟨(x5_1),(wrap64 (x10_1 + 1)),Z218,Z218,H',⟨Z231⟩,Z214⟩
   rw [if_pos c6] at H
   have c6b0 : decide ((rd l0 x10_1) < a1) = true := decide_eq_true c6
   clear c6
   have H' := Aside0.mk H
   clear H
   have p350 : 0 ≤ (x10_1 : Int) := of_decide_eq_true Z217
   have q350 : x10_1 < (l0.length : Int) := of_decide_eq_true Z217
   obtain ⟨ad350,e350,hx350_0⟩ := Kd.at_int HR0.out x10_1 p350 q350
   cases e350
   replace p350 := eq_true p350
   replace q350 := eq_true q350
   go_wp2
   go_roundg k1
   case measure => have := HK1.out;omega
   case rel => exact ⟨(wrap64 (x5_1 + 1)),(wrap64 (x10_1 + 1)),Z218,Z218,H',⟨Z231⟩,Z214⟩

end Go.Proofs.Ytnidkpkfkklkaaa.QFnExactGridOf
