/- The machine side of FnExactGridOf: what each Go function that it reaches comes to. Conditions: none. -/
import Derived.Test.YtnidkpkfkklkaaaQFnExactGridOfx0
import Derived.Test.YtnidkpkfkklkaaaQFnExactGridOfx1
namespace Go.Proofs.Ytnidkpkfkklkaaa.QFnExactGridOf
open Go.RowKit Go.Proofs.YtnidkpkfkklkaaaW.PrintWords Go.Proofs.YtnidkpkfkklkaaaW.PrintLast Go.Proofs.YtnidkpkfkklkaaaW.PrintMore
attribute [local go_sem] max2_int min2_int max_two min_two max_three min_three max_four min_four   -- for this text's walks alone
set_option linter.unusedVariables false
set_option linter.unusedSimpArgs false

/-! ### spec_Column: function 18 -/
mutual
def spec_Column.l0 : Nat → Int → List Int → Int → List ByteArray → ByteArray → List (List Int) → List Int → Option (List Int)
 | 0,_,_,_,_,_,_,_ => none
 | k + 1,x1,x5,x6,x132000,x132001,x132002,x132003 => if x6 < (x132002.length : Int) then ((spec_l1In.f x1 0 (wrap64 ((x132000.length : Int) - 1))).bind fun t135 => (spec_Column.j1 k x1 x5 x6 t135 x132000 x132001 x132002 x132003)) else (spec_Column.j1 k x1 x5 x6 false x132000 x132001 x132002 x132003)
def spec_Column.j1 : Nat → Int → List Int → Int → Bool → List ByteArray → ByteArray → List (List Int) → List Int → Option (List Int)
 | 0,_,_,_,_,_,_,_,_ => none
 | k + 1,x1,x5,x6,x20,x132000,x132001,x132002,x132003 => if x20 = true then (if 0 ≤ x6 then (if x6 < (x132002.length : Int) then (if x1 < ((rd_L2 x132002 x6).length : Int) then (if 0 ≤ x1 then (if x5.length < 17592186044416 then (spec_Column.l0 k x1 (x5 ++ [rd (rd_L2 x132002 x6) x1]) (wrap64 (x6 + 1)) x132000 x132001 x132002 x132003) else (none)) else (none)) else (if x5.length < 17592186044416 then (spec_Column.l0 k x1 (x5 ++ [0]) (wrap64 (x6 + 1)) x132000 x132001 x132002 x132003) else (none))) else (none)) else (none)) else (some x5)
end
def spec_Column.f (k : Nat) (l0_0 : List ByteArray) (a0_1 : ByteArray) (l0_2 : List (List Int)) (l0_3 : List Int) (a1 : Int) : Option (List Int) := spec_Column.l0 k a1 (([] : List Int)) 0 l0_0 a0_1 l0_2 l0_3
theorem spec_Column.mono_l : ∀ k,(∀ y0 y1 y2 y3 y4 y5 y6,LeO (spec_Column.l0 k y0 y1 y2 y3 y4 y5 y6) (spec_Column.l0 (k + 1) y0 y1 y2 y3 y4 y5 y6)) ∧ (∀ y0 y1 y2 y3 y4 y5 y6 y7,LeO (spec_Column.j1 k y0 y1 y2 y3 y4 y5 y6 y7) (spec_Column.j1 (k + 1) y0 y1 y2 y3 y4 y5 y6 y7))
 | 0 => ⟨fun _ _ _ _ _ _ _ r h => by simp [spec_Column.l0] at h,fun _ _ _ _ _ _ _ _ r h => by simp [spec_Column.j1] at h⟩
 | k + 1 => by
  obtain ⟨ih0,ih1⟩ := spec_Column.mono_l k
  refine ⟨?_,?_⟩
  ·intro y0 y1 y2 y3 y4 y5 y6
   unfold spec_Column.l0
   repeat' first
   | (with_reducible exact ih0 _ _ _ _ _ _ _)
   | (with_reducible exact ih1 _ _ _ _ _ _ _ _)
   | (with_reducible exact LeO.refl _)
   | (with_reducible exact LeO.none _)
   | (with_reducible refine LeO.ite ?_ ?_)
   | (with_reducible refine LeO.bind ?_ (fun _ => ?_))
   | exact ih0 _ _ _ _ _ _ _
   | exact ih1 _ _ _ _ _ _ _ _
   | exact LeO.none _
   | refine LeO.ite ?_ ?_
   | refine LeO.bind ?_ (fun _ => ?_)
  ·intro y0 y1 y2 y3 y4 y5 y6 y7
   unfold spec_Column.j1
   repeat' first
   | (with_reducible exact ih0 _ _ _ _ _ _ _)
   | (with_reducible exact ih1 _ _ _ _ _ _ _ _)
   | (with_reducible exact LeO.refl _)
   | (with_reducible exact LeO.none _)
   | (with_reducible refine LeO.ite ?_ ?_)
   | (with_reducible refine LeO.bind ?_ (fun _ => ?_))
   | exact ih0 _ _ _ _ _ _ _
   | exact ih1 _ _ _ _ _ _ _ _
   | exact LeO.none _
   | refine LeO.ite ?_ ?_
   | refine LeO.bind ?_ (fun _ => ?_)
theorem spec_Column.mono : ∀ a0 a1 a2 a3 a4 k,LeO (spec_Column.f k a0 a1 a2 a3 a4) (spec_Column.f (k + 1) a0 a1 a2 a3 a4) := by
 intro a0 a1 a2 a3 a4 k
 obtain ⟨ih0,ih1⟩ := spec_Column.mono_l k
 unfold spec_Column.f
 repeat' first
   | (with_reducible exact ih0 _ _ _ _ _ _ _)
   | (with_reducible exact ih1 _ _ _ _ _ _ _ _)
   | (with_reducible exact LeO.refl _)
   | (with_reducible exact LeO.none _)
   | (with_reducible refine LeO.ite ?_ ?_)
   | (with_reducible refine LeO.bind ?_ (fun _ => ?_))
   | exact ih0 _ _ _ _ _ _ _
   | exact ih1 _ _ _ _ _ _ _ _
   | exact LeO.none _
   | refine LeO.ite ?_ ?_
   | refine LeO.bind ?_ (fun _ => ?_)
set_option maxHeartbeats 8000000 in
set_option maxRecDepth 100000 in
theorem spec_Column.calls (k : Nat) (A0_0 : Option Addr) (c0_0 : Nat) (l0_0 : List ByteArray) (a0_1 : ByteArray) (A0_2 : Option Addr) (c0_2 : Nat) (l0_2 : List (List Int)) (A0_3 : Option Addr) (c0_3 : Nat) (l0_3 : List Int) (a1 : Int) (r : List Int) (w : World) (hr0_0 : Kd.C Kd.string w A0_0 l0_0.length l0_0) (hc0_0 : l0_0.length ≤ c0_0) (hr0_2 : Kd.C (Kd.slice 3 (Kd.int .i64)) w A0_2 l0_2.length l0_2) (hc0_2 : l0_2.length ≤ c0_2) (hr0_3 : Kd.C (Kd.int .i64) w A0_3 l0_3.length l0_3) (hc0_3 : l0_3.length ≤ c0_3) (h : spec_Column.f k l0_0 a0_1 l0_2 l0_3 a1 = some r) :
  Calls Try.prog 18 #[.agg #[.slice A0_0 l0_0.length c0_0,.string a0_1,.slice A0_2 l0_2.length c0_2,.slice A0_3 l0_3.length c0_3],.int .i64 a1] w fun e w' => ∃ v0_ : Value,e = .returned (v0_) ∧ Kd.R (Kd.int .i64) 3 w' w.heap.size (fun _ => True) v0_ r ∧ Below w.heap.size w w' := by
 have hu31 := Try.underlying31
 have HR0_0 := Aside0.mk hr0_0
 have HC0_0 := Aside0.mk hc0_0
 clear hr0_0 hc0_0
 have HR0_2 := Aside0.mk hr0_2
 have HC0_2 := Aside0.mk hc0_2
 clear hr0_2 hc0_2
 have HR0_3 := Aside0.mk hr0_3
 have HC0_3 := Aside0.mk hc0_3
 clear hr0_3 hc0_3
 have HB := Aside0.mk (Below.refl w.heap.size w)
 have H := h
 clear h
 unfold spec_Column.f at H
 obtain ⟨y132,hyy⟩ : ∃ y_ : List Int,y_ = (([] : List Int)) := ⟨_,rfl⟩
 replace H : (spec_Column.l0 k a1 y132 0 l0_0 a0_1 l0_2 l0_3) = some r := zR
 have Ny132 := Aside0.mk hyy
 clear hyy
 have H' := Aside0.mk H
 clear H
 go_enter Try.func18,Try.ntmps18
 go_wp2_with (first | ((with_reducible refine gate_dst (N := 2) rfl ?_);(try (refine gate_guard Z238 ?_;dsimp only));refine bE 2 #[.slice A0_0 l0_0.length c0_0,.string a0_1,.slice A0_2 l0_2.length c0_2,.slice A0_3 l0_3.length c0_3] 31 (h := ?_);intro gb131 hg w3 hbox hb;have n_ := jA (below_step Z297 hb) (jA (hbox) (jA ((Z254 : w.heap.size ≤ gb131)) (Aside0.mk ((Z254 : w.heap.size ≤ gb131)))));clear HB;obtain ⟨HB,BK131,GW131,GE131⟩ := n_;clear hb hbox hg) | ((with_reducible refine gate_dst (N := 7) rfl ?_);(try (refine gate_guard Z238 ?_;dsimp only));refine Kd.R_lit (Kd.int .i64) _ 3 ?hg (N := 7) ?hd (xs := ([] : List Int)) (inner := []) (ok := fun _ => True) (okp := fun _ => True) ?hr ?hp (fun _ hk => hk) trivial (Below.refl _ _) (Nat.le_refl _) Z294 ?_;(case hd => rfl);(case hg => rfl);(case hr => exact Z219);(case hp => exact Z232);intro v133 w4 ho5 hb hg_ hnew_;clear hg_ hnew_;(first | rw [← Ny132.out] at ho5 | (simp only [Int.reduceToNat] at ho5;rw [← Ny132.out] at ho5));have n_ := jA (Kd.R_lower ho5 (below_size Z258)) (jA (blk_below (g := gb131) (o := .cells #[.slice A0_0 l0_0.length c0_0,.string a0_1,.slice A0_2 l0_2.length c0_2,.slice A0_3 l0_3.length c0_3] 31 (0,0)) Z288 hb) (Aside0.mk (below_step Z258 hb)));clear BK131 HB;obtain ⟨HO134,BK131,HB⟩ := n_;clear hb ho5))
 go_loopg [5,6] k (fun kq v5 v6 w' => ∃ (x5_1 : List Int) (x6_1 : Int),v6 = .int .i64 x6_1 ∧ Aside0 (spec_Column.l0 kq a1 x5_1 x6_1 l0_0 a0_1 l0_2 l0_3 = some r) ∧ Aside0 (kq ≤ k) ∧ Aside0 (Kd.R (Kd.int .i64) 3 w' w.heap.size (fun _ => True) v5 x5_1) ∧ Aside0 (w'.heap[gb131]? = some (.cells #[(.slice A0_0 l0_0.length c0_0),.string a0_1,(.slice A0_2 l0_2.length c0_2),(.slice A0_3 l0_3.length c0_3)] 31 (0,0))) ∧ Aside0 (Below w.heap.size w w'))
 case atStart => exact ⟨(y132),(0),Z218,H',⟨Nat.le_refl _⟩,⟨by (with_reducible repeat (first | apply Kd.R_alloc | apply Kd.R_drewN | apply Kd.R_drew));exact HO134.out⟩,⟨Z288⟩,⟨Z258⟩⟩
 case round =>
  clear H'
  try clear c1
  try clear p2
  obtain ⟨x5_1,x6_1,rfl,HA,HK1,HO_5,BK131,HB⟩ := hrel
  cases gk with
  | zero => exact absurd HA.out (by simp [spec_Column.l0])
  | succ k1 =>
   have H := HA.out
   clear HA
   simp only [spec_Column.l0] at H
   have HC6 := Aside0.mk H
   clear H
   go_upto_region 3 with (fail)
   go_cut [20] (fun v20 wc => ∃ (kq : Nat) (x20_5 : Bool),v20 = .bool x20_5 ∧ Aside0 (spec_Column.j1 kq a1 x5_1 x6_1 x20_5 l0_0 a0_1 l0_2 l0_3 = some r) ∧ Aside0 (kq ≤ k1) ∧ Aside0 (Kd.R (Kd.int .i64) 3 wc w.heap.size (fun _ => True) u5 x5_1) ∧ Aside0 (wc.heap[gb131]? = some (.cells #[(.slice A0_0 l0_0.length c0_0),.string a0_1,(.slice A0_2 l0_2.length c0_2),(.slice A0_3 l0_3.length c0_3)] 31 (0,0))) ∧ Aside0 (Below w.heap.size w wc))
   case first =>
    have H := HC6.out
    clear HC6
    by_cases c7 : x6_1 < (l0_2.length : Int)
    rotate_left
    ·rw [if_neg c7] at H
     have c7b0 : decide (x6_1 < (l0_2.length : Int)) = false := decide_eq_false c7
     clear c7
     (first | rw [c7b0] | (simp only [i64_w,i32_w];rw [c7b0]) | skip)
     have H' := Aside0.mk H
     clear H
     obtain ⟨hcz10_0,hcz10_1,hcz10_2,hcz10_3,hfz10_0,hfz10_1,hfz10_2,hfz10_3⟩ := cells4 BK131.out
     go_wp2
     go_meet
     case rel => exact ⟨_,(false),Z218,H',⟨Z216⟩,⟨Z275⟩,⟨Z288⟩,⟨Z258⟩⟩
    rw [if_pos c7] at H
    have c7b0 : decide (x6_1 < (l0_2.length : Int)) = true := decide_eq_true c7
    clear c7
    (first | rw [c7b0] | (simp only [i64_w,i32_w];rw [c7b0]) | skip)
    obtain ⟨t135,A80,H⟩ := Option.bind_eq_some_iff.mp H
    have A8 := Aside0.mk A80
    clear A80
    have H' := Aside0.mk H
    clear H
    obtain ⟨hcz9_0,hcz9_1,hcz9_2,hcz9_3,hfz9_0,hfz9_1,hfz9_2,hfz9_3⟩ := cells4 BK131.out
    go_wp2_with (first | (go_at_call 17;(with_reducible refine (spec_l1In.calls a1 0 (wrap64 ((l0_0.length : Int) - 1)) t135 _ A8.out).mono ?_);rintro e w' ⟨rfl,⟨nd,rfl⟩⟩))
    go_meet
    case rel => exact ⟨_,(t135),Z218,H',⟨Z216⟩,⟨Z275⟩,⟨Z288⟩,⟨Z258⟩⟩
   case rest =>
    clear HC6
    try clear c1
    try clear p2
    try clear p6
    try clear c7
    try clear c7b0
    try clear p2
    obtain ⟨kq,x20_5,rfl,HA,HJ5,HO_5,BK131,HB⟩ := hcut
    cases kq with
    | zero => exact absurd HA.out (by simp [spec_Column.j1])
    | succ kj5 =>
     have H := HA.out
     clear HA
     simp only [spec_Column.j1] at H
     by_cases c11 : x20_5 = true
     rotate_left
     ·replace c11 := Bool.eq_false_iff.mpr c11
      subst c11
      rw [if_neg Bool.false_ne_true] at H
      obtain rfl := Option.some.inj H
      go_wp2
      go_ret
      exact ⟨_,Z207,Z275,Z258⟩
     subst c11
     rw [if_pos rfl] at H
     obtain ⟨c12,H⟩ := ifp H
     have c12b0 : decide (0 ≤ x6_1) = true := decide_eq_true c12
     clear c12
     obtain ⟨c13,H⟩ := ifp H
     have c13b0 : decide (x6_1 < (l0_2.length : Int)) = true := decide_eq_true c13
     clear c13
     by_cases c14 : a1 < ((rd_L2 l0_2 x6_1).length : Int)
     rotate_left
     ·rw [if_neg c14] at H
      have c14b0 : decide (a1 < ((rd_L2 l0_2 x6_1).length : Int)) = false := decide_eq_false c14
      clear c14
      obtain ⟨c19,H⟩ := ifp H
      have LMc19 := Aside0.mk c19
      clear c19
      obtain ⟨y142,hyy⟩ : ∃ y_ : List Int,y_ = (x5_1 ++ [0]) := ⟨_,rfl⟩
      replace H : (spec_Column.l0 kj5 a1 y142 (wrap64 (x6_1 + 1)) l0_0 a0_1 l0_2 l0_3) = some r := zR
      have Ny142 := Aside0.mk hyy
      clear hyy
      have H' := Aside0.mk H
      clear H
      obtain ⟨hcz20_0,hcz20_1,hcz20_2,hcz20_3,hfz20_0,hfz20_1,hfz20_2,hfz20_3⟩ := cells4 BK131.out
      have p136 : 0 ≤ (x6_1 : Int) := of_decide_eq_true Z217
      have q136 : x6_1 < (l0_2.length : Int) := of_decide_eq_true Z217
      obtain ⟨ad136,A136_0,c136_0,e136,hx136_0,hl136_0,hi136_0⟩ := at_L2 HR0_2.out x6_1 p136 q136
      cases e136
      replace hx136_0 := (HB.out.cell (World.block_lt_of_cell? w _ hx136_0)).trans hx136_0
      have HR136_0 := Aside0.mk hi136_0
      have HC136_0 := Aside0.mk hl136_0
      clear hi136_0 hl136_0
      replace p136 := eq_true p136
      replace q136 := eq_true q136
      go_wp2_with (first | ((with_reducible refine gate_builtin (b := .append) (xs := #[.tmp 42,.tmp 43]) rfl ?_);(try (refine gate_guard Z238 ?_;dsimp only));at_builtin;refine Kd.R_append (Kd.int .i64) (w0 := w) w.heap.size rfl (.tmp 42) (.tmp 43) 24 3 (.int .i64 0) 8 rfl Try.underlying24 info3 rfl Z293 Z237 u5 x5_1 0 [.int .i64 0] (fun _ => True) (fun _ => False) rfl rfl ?aP (fun _ hk => hk.elim) ?aF ?aO ?aB ?aS ?aL ?_;(case aP => exact rfl);(case aB => exact Z113);(case aF => exact (fun _ _ => trivial));(case aO => exact Z154);(case aS => exact Z104);(case aL => have := LMc19.out;omega);intro v143 w21 ho hb hg hat;rw [← Ny142.out] at ho;have n_ := Z68;clear BK131 HB HO_5;obtain ⟨BK131,HB,HO144⟩ := n_;clear ho hb hg hat))
      go_roundg kj5
      case measure => have := HK1.out;have := HJ5.out;omega
      case rel => exact ⟨(y142),(wrap64 (x6_1 + 1)),Z218,H',⟨by have := HK1.out;have := HJ5.out;omega⟩,⟨by (with_reducible repeat (first | apply Kd.R_alloc | apply Kd.R_drewN | apply Kd.R_drew));exact HO144.out⟩,⟨Z288⟩,⟨Z258⟩⟩
     rw [if_pos c14] at H
     have c14b0 : decide (a1 < ((rd_L2 l0_2 x6_1).length : Int)) = true := decide_eq_true c14
     clear c14
     obtain ⟨c15,H⟩ := ifp H
     have c15b0 : decide (0 ≤ a1) = true := decide_eq_true c15
     clear c15
     obtain ⟨c16,H⟩ := ifp H
     have LMc16 := Aside0.mk c16
     clear c16
     obtain ⟨y139,hyy⟩ : ∃ y_ : List Int,y_ = (x5_1 ++ [rd (rd_L2 l0_2 x6_1) a1]) := ⟨_,rfl⟩
     replace H : (spec_Column.l0 kj5 a1 y139 (wrap64 (x6_1 + 1)) l0_0 a0_1 l0_2 l0_3) = some r := zR
     have Ny139 := Aside0.mk hyy
     clear hyy
     have H' := Aside0.mk H
     clear H
     obtain ⟨hcz17_0,hcz17_1,hcz17_2,hcz17_3,hfz17_0,hfz17_1,hfz17_2,hfz17_3⟩ := cells4 BK131.out
     have p136 : 0 ≤ (x6_1 : Int) := of_decide_eq_true Z217
     have q136 : x6_1 < (l0_2.length : Int) := of_decide_eq_true Z217
     obtain ⟨ad136,A136_0,c136_0,e136,hx136_0,hl136_0,hi136_0⟩ := at_L2 HR0_2.out x6_1 p136 q136
     cases e136
     replace hx136_0 := (HB.out.cell (World.block_lt_of_cell? w _ hx136_0)).trans hx136_0
     have HR136_0 := Aside0.mk hi136_0
     have HC136_0 := Aside0.mk hl136_0
     clear hi136_0 hl136_0
     replace p136 := eq_true p136
     replace q136 := eq_true q136
     have p137 : 0 ≤ (x6_1 : Int) := of_decide_eq_true Z217
     have q137 : x6_1 < (l0_2.length : Int) := of_decide_eq_true Z217
     obtain ⟨ad137,A137_0,c137_0,e137,hx137_0,hl137_0,hi137_0⟩ := at_L2 HR0_2.out x6_1 p137 q137
     obtain rfl : ad136 = ad137 := (by injection e137)
     replace hx137_0 := (HB.out.cell (World.block_lt_of_cell? w _ hx137_0)).trans hx137_0
     have HR137_0 := Aside0.mk hi137_0
     have HC137_0 := Aside0.mk hl137_0
     clear hi137_0 hl137_0
     replace p137 := eq_true p137
     replace q137 := eq_true q137
     have ea_ := Option.some.inj (hx136_0.symm.trans hx137_0)
     injection ea_ with ea_ en_ ec_
     subst ea_
     subst ec_
     clear en_
     have p138 : 0 ≤ (a1 : Int) := of_decide_eq_true Z217
     have q138 : a1 < ((rd_L2 l0_2 x6_1).length : Int) := of_decide_eq_true Z217
     obtain ⟨ad138,e138,hx138_0⟩ := Kd.at_int HR137_0.out a1 p138 q138
     cases e138
     replace hx138_0 := (HB.out.cell (World.block_lt_of_cell? w _ hx138_0)).trans hx138_0
     replace p138 := eq_true p138
     replace q138 := eq_true q138
     go_wp2_with (first | ((with_reducible refine gate_builtin (b := .append) (xs := #[.tmp 31,.tmp 40]) rfl ?_);(try (refine gate_guard Z238 ?_;dsimp only));at_builtin;refine Kd.R_append (Kd.int .i64) (w0 := w) w.heap.size rfl (.tmp 31) (.tmp 40) 24 3 (.int .i64 0) 8 rfl Try.underlying24 info3 rfl Z293 Z237 u5 x5_1 (rd (rd_L2 l0_2 x6_1) a1) [.int .i64 (rd (rd_L2 l0_2 x6_1) a1)] (fun _ => True) (fun _ => False) rfl rfl ?aP (fun _ hk => hk.elim) ?aF ?aO ?aB ?aS ?aL ?_;(case aP => exact rfl);(case aB => exact Z113);(case aF => exact (fun _ _ => trivial));(case aO => exact Z154);(case aS => exact Z104);(case aL => have := LMc16.out;omega);intro v140 w18 ho hb hg hat;rw [← Ny139.out] at ho;have n_ := Z68;clear BK131 HB HO_5;obtain ⟨BK131,HB,HO141⟩ := n_;clear ho hb hg hat))
     go_roundg kj5
     case measure => have := HK1.out;have := HJ5.out;omega
     case rel => exact ⟨(y139),(wrap64 (x6_1 + 1)),Z218,H',⟨by have := HK1.out;have := HJ5.out;omega⟩,⟨by (with_reducible repeat (first | apply Kd.R_alloc | apply Kd.R_drewN | apply Kd.R_drew));exact HO141.out⟩,⟨Z288⟩,⟨Z258⟩⟩

end Go.Proofs.Ytnidkpkfkklkaaa.QFnExactGridOf
