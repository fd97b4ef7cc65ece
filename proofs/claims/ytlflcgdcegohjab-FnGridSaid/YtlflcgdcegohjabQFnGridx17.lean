/- The machine side of FnGrid: what each Go function that it reaches comes to. Conditions: none. -/
import Derived.Test.YtlflcgdcegohjabQFnGridx0
import Derived.Test.YtlflcgdcegohjabQFnGridx1
import Derived.Test.YtlflcgdcegohjabQFnGridx15
import Derived.Test.YtlflcgdcegohjabQFnGridx16
namespace Go.Proofs.Ytlflcgdcegohjab.QFnGrid
open Go.RowKit Go.Proofs.YtlflcgdcegohjabW.PrintWords Go.Proofs.YtlflcgdcegohjabW.PrintLast Go.Proofs.YtlflcgdcegohjabW.PrintMore
attribute [local go_sem] max2_int min2_int max_two min_two max_three min_three max_four min_four   -- for this text's walks alone
set_option linter.unusedVariables false
set_option linter.unusedSimpArgs false

/-! ### impl_GridOk: function 11 -/
mutual
def impl_GridOk.j0 : Nat → Bool → List (List Int) → List (List Int) → Option (Bool)
 | 0,_,_,_ => none
 | k + 1,x24,x605000,x605001 => if x24 = true then (some false) else (impl_GridOk.l0 k x605000 (x605000.length : Int) 0 x605000 x605001)
def impl_GridOk.l0 : Nat → List (List Int) → Int → Int → List (List Int) → List (List Int) → Option (Bool)
 | 0,_,_,_,_,_ => none
 | k + 1,x26,x27,x28,x605000,x605001 => if x28 < x27 then (if 0 ≤ x28 then (if x28 < (x26.length : Int) then ((impl_CutsOk.f k (rd_L3 x26 x28)).bind fun t610 => (if t610 = true then (if x28 < (x605001.length : Int) then ((impl_RowsIn.f x605000 x605001).bind fun t612 => (if ((rd_L3 x605001 x28).length : Int) = t612 then ((impl_GridOk_1.f (rd_L3 x605001 x28) (rd_L3 x26 x28)).bind fun t614 => (if t614 = true then (some false) else (impl_GridOk.l0 k x26 x27 (wrap64 (x28 + 1)) x605000 x605001))) else (some false))) else (none)) else (some false))) else (none)) else (none)) else (some true)
end
def impl_GridOk.f (k : Nat) (l0_0 : List (List Int)) (l0_1 : List (List Int)) : Option (Bool) := (impl_within.f (l0_0.length : Int) 1 4).bind fun t605 => (if t605 = true then (if (l0_1.length : Int) = (l0_0.length : Int) then ((impl_RowsIn.f l0_0 l0_1).bind fun t606 => ((impl_within.f t606 1 40).bind fun t607 => (impl_GridOk.j0 k (!t607) l0_0 l0_1))) else (impl_GridOk.j0 k true l0_0 l0_1)) else (impl_GridOk.j0 k true l0_0 l0_1))
theorem impl_GridOk.mono_l : ∀ k,(∀ y0 y1 y2,LeO (impl_GridOk.j0 k y0 y1 y2) (impl_GridOk.j0 (k + 1) y0 y1 y2)) ∧ (∀ y0 y1 y2 y3 y4,LeO (impl_GridOk.l0 k y0 y1 y2 y3 y4) (impl_GridOk.l0 (k + 1) y0 y1 y2 y3 y4))
 | 0 => ⟨fun _ _ _ r h => by simp [impl_GridOk.j0] at h,fun _ _ _ _ _ r h => by simp [impl_GridOk.l0] at h⟩
 | k + 1 => by
  obtain ⟨ih0,ih1⟩ := impl_GridOk.mono_l k
  refine ⟨?_,?_⟩
  ·intro y0 y1 y2
   unfold impl_GridOk.j0
   repeat' first
   | (with_reducible exact ih0 _ _ _)
   | (with_reducible exact ih1 _ _ _ _ _)
   | (with_reducible exact impl_CutsOk.mono _ _)
   | (with_reducible exact LeO.refl _)
   | (with_reducible exact LeO.none _)
   | (with_reducible refine LeO.ite ?_ ?_)
   | (with_reducible refine LeO.bind ?_ (fun _ => ?_))
   | exact ih0 _ _ _
   | exact ih1 _ _ _ _ _
   | exact impl_CutsOk.mono _ _
   | exact LeO.none _
   | refine LeO.ite ?_ ?_
   | refine LeO.bind ?_ (fun _ => ?_)
  ·intro y0 y1 y2 y3 y4
   unfold impl_GridOk.l0
   repeat' first
   | (with_reducible exact ih0 _ _ _)
   | (with_reducible exact ih1 _ _ _ _ _)
   | (with_reducible exact impl_CutsOk.mono _ _)
   | (with_reducible exact LeO.refl _)
   | (with_reducible exact LeO.none _)
   | (with_reducible refine LeO.ite ?_ ?_)
   | (with_reducible refine LeO.bind ?_ (fun _ => ?_))
   | exact ih0 _ _ _
   | exact ih1 _ _ _ _ _
   | exact impl_CutsOk.mono _ _
   | exact LeO.none _
   | refine LeO.ite ?_ ?_
   | refine LeO.bind ?_ (fun _ => ?_)
theorem impl_GridOk.mono : ∀ a0 a1 k,LeO (impl_GridOk.f k a0 a1) (impl_GridOk.f (k + 1) a0 a1) := by
 intro a0 a1 k
 obtain ⟨ih0,ih1⟩ := impl_GridOk.mono_l k
 unfold impl_GridOk.f
 repeat' first
   | (with_reducible exact ih0 _ _ _)
   | (with_reducible exact ih1 _ _ _ _ _)
   | (with_reducible exact impl_CutsOk.mono _ _)
   | (with_reducible exact LeO.refl _)
   | (with_reducible exact LeO.none _)
   | (with_reducible refine LeO.ite ?_ ?_)
   | (with_reducible refine LeO.bind ?_ (fun _ => ?_))
   | exact ih0 _ _ _
   | exact ih1 _ _ _ _ _
   | exact impl_CutsOk.mono _ _
   | exact LeO.none _
   | refine LeO.ite ?_ ?_
   | refine LeO.bind ?_ (fun _ => ?_)
def impl_GridOk.T6 : Bool × List (List Nat × List Nat) := (true,[([],[]),([0],[0]),([1],[1]),([2,1],[2]),([3],[3]),([4,3],[3,4]),([3],[3]),([5,6,3],[3,5,6]),([7,3],[3,7]),([8,3],[3,8]),([3],[3]),([10,3,3],[3,10]),([9,11,3],[3,9,11]),([3,12],[3,12]),([13,11],[13]),([14],[14]),([15,14],[14,15]),([14],[14]),([16,17,14],[14,16,17]),([18,14],[14,18]),([14],[14]),([19,20,14,14],[14,19,20]),([14,21],[14,21])])
def impl_GridOk.B6 : List Nat := [0,1,3,7,15,31,15,127,255,511,15,1039,4095,8191,16383,32767,65535,32767,262143,524287,32767,2097151,4194303]
theorem impl_GridOk.tab6 : rtab .any (opsOf Try.f11 6) = impl_GridOk.T6 := by kernel_rfl
theorem impl_GridOk.bits6 : waitsOk impl_GridOk.T6.2 impl_GridOk.B6 = true := by kernel_rfl
set_option maxHeartbeats 8000000 in
set_option maxRecDepth 100000 in
theorem impl_GridOk.calls (k : Nat) (A0_0 : Option Addr) (c0_0 : Nat) (l0_0 : List (List Int)) (A0_1 : Option Addr) (c0_1 : Nat) (l0_1 : List (List Int)) (r : Bool) (w : World) (hr0_0 : Kd.C (Kd.slice 3 (Kd.int .i64)) w A0_0 l0_0.length l0_0) (hc0_0 : l0_0.length ≤ c0_0) (hr0_1 : Kd.C (Kd.slice 3 (Kd.int .i64)) w A0_1 l0_1.length l0_1) (hc0_1 : l0_1.length ≤ c0_1) (h : impl_GridOk.f k l0_0 l0_1 = some r) :
  Calls Try.prog 11 #[.agg #[.slice A0_0 l0_0.length c0_0,.slice A0_1 l0_1.length c0_1]] w fun e w' => e = .returned (.bool r) ∧ Below w.heap.size w w' := by
 have hu32 := Try.underlying32
 have HR0_0 := Aside0.mk hr0_0
 have HC0_0 := Aside0.mk hc0_0
 clear hr0_0 hc0_0
 have HR0_1 := Aside0.mk hr0_1
 have HC0_1 := Aside0.mk hc0_1
 clear hr0_1 hc0_1
 have HB := Aside0.mk (Below.refl w.heap.size w)
 have H := h
 clear h
 unfold impl_GridOk.f at H
 have HC2 := Aside0.mk H
 clear H
 go_enter Try.func11,Try.ntmps11
 go_upto_region 1 with (first | ((with_reducible refine gate_dst (N := 1) rfl ?_);(try (refine gate_guard Z257 ?_;dsimp only));refine bE 1 #[.slice A0_0 l0_0.length c0_0,.slice A0_1 l0_1.length c0_1] 32 (h := ?_);intro gb604 hg w3 hbox hb;have n_ := jA (below_step Z336 hb) (jA (hbox) (jA ((Z279 : w.heap.size ≤ gb604)) (Aside0.mk ((Z279 : w.heap.size ≤ gb604)))));clear HB;obtain ⟨HB,BK604,GW604,GE604⟩ := n_;clear hb hbox hg))
 (try simp only [Act.put,List.setIfInBounds_toArray,List.set_cons_zero,List.set_cons_succ])
 go_cut [24] (fun v24 wc => ∃ (kq : Nat) (x24_1 : Bool),v24 = .bool x24_1 ∧ Aside0 (impl_GridOk.j0 kq x24_1 l0_0 l0_1 = some r) ∧ Aside0 (kq ≤ k) ∧ Aside0 (wc.heap[gb604]? = some (.cells #[(.slice A0_0 l0_0.length c0_0),(.slice A0_1 l0_1.length c0_1)] 32 (0,0))) ∧ Aside0 (Below w.heap.size w wc))
 case first =>
  have H := HC2.out
  clear HC2
  obtain ⟨t605,A40,H⟩ := Option.bind_eq_some_iff.mp H
  have A4 := Aside0.mk A40
  clear A40
  by_cases c5 : t605 = true
  rotate_left
  ·replace c5 := Bool.eq_false_iff.mpr c5
   subst c5
   rw [if_neg Bool.false_ne_true] at H
   have H' := Aside0.mk H
   clear H
   obtain ⟨hcz12_0,hcz12_1,hfz12_0,hfz12_1⟩ := cells2 BK604.out
   go_wp2_with (first | ((with_reducible refine gate_callee (f := 18) rfl ?_);refine goesL_ (some 8) rfl rfl Try.func18 Z256 rfl #[.int .i64 (l0_0.length : Int),.int .i64 1,.int .i64 4] rfl Z159 ?_;(with_reducible refine (impl_within.calls (l0_0.length : Int) 1 4 false _ A4.out).mono ?_);rintro e w' ⟨rfl,⟨nd,rfl⟩⟩;refine ⟨_,rfl,?_⟩))
   go_meet
   case rel => exact ⟨_,(true),Z230,H',⟨Z240⟩,⟨Z325⟩,⟨Z333⟩⟩
  subst c5
  rw [if_pos rfl] at H
  by_cases c6 : (l0_1.length : Int) = (l0_0.length : Int)
  rotate_left
  ·rw [if_neg c6] at H
   have c6b0 : ((l0_1.length : Int) == (l0_0.length : Int)) = false := beq_eq_false_iff_ne.mpr c6
   have c6b1 : ((l0_1.length : Int) != (l0_0.length : Int)) = true := bne_iff_ne.mpr c6
   have c6b2 : (l0_1.length == l0_0.length) = false := by first | simpa using c6 | (simp at c6 ⊢;omega)
   (first | rw [c6b0] | (simp only [i64_w,i32_w];rw [c6b0]) | skip)
   have H' := Aside0.mk H
   clear H
   obtain ⟨hcz11_0,hcz11_1,hfz11_0,hfz11_1⟩ := cells2 BK604.out
   go_wp2_with (first | ((with_reducible refine gate_callee (f := 18) rfl ?_);refine goesL_ (some 8) rfl rfl Try.func18 Z256 rfl #[.int .i64 (l0_0.length : Int),.int .i64 1,.int .i64 4] rfl Z159 ?_;(with_reducible refine (impl_within.calls (l0_0.length : Int) 1 4 true _ A4.out).mono ?_);rintro e w' ⟨rfl,⟨nd,rfl⟩⟩;refine ⟨_,rfl,?_⟩))
   go_meet
   case rel => exact ⟨_,(true),Z230,H',⟨Z240⟩,⟨Z325⟩,⟨Z333⟩⟩
  rw [if_pos c6] at H
  have c6b0 : ((l0_1.length : Int) == (l0_0.length : Int)) = true := beq_iff_eq.mpr c6
  have c6b1 : ((l0_1.length : Int) != (l0_0.length : Int)) = false := bne_eq_false_iff_eq.mpr c6
  have c6b2 : (l0_1.length == l0_0.length) = true := by first | simpa using c6 | (simp at c6 ⊢;omega)
  clear c6
  (first | rw [c6b0] | (simp only [i64_w,i32_w];rw [c6b0]) | skip)
  obtain ⟨t606,A70,H⟩ := Option.bind_eq_some_iff.mp H
  have A7 := Aside0.mk A70
  clear A70
  obtain ⟨t607,A80,H⟩ := Option.bind_eq_some_iff.mp H
  have A8 := Aside0.mk A80
  clear A80
  have H' := Aside0.mk H
  clear H
  obtain ⟨hcz9_0,hcz9_1,hfz9_0,hfz9_1⟩ := cells2 BK604.out
  go_wp2_with (first | ((with_reducible refine gate_callee (f := 18) rfl ?_);refine goesL_ (some 8) rfl rfl Try.func18 Z256 rfl #[.int .i64 (l0_0.length : Int),.int .i64 1,.int .i64 4] rfl Z159 ?_;(with_reducible refine (impl_within.calls (l0_0.length : Int) 1 4 true _ A4.out).mono ?_);rintro e w' ⟨rfl,⟨nd,rfl⟩⟩;refine ⟨_,rfl,?_⟩) | (go_at_call 13;(with_reducible refine (impl_RowsIn.calls _ _ l0_0 _ _ l0_1 t606 _ ?side1 ?side2 ?side3 ?side4 A7.out).mono ?_);(case side1 => repeat (first | exact (Kd.C_below HR0_0.out Z333) | (with_reducible refine Kd.C_alloc ?_ _) | (with_reducible refine Kd.C_drewN ?_ _) | (with_reducible refine Kd.C_drew ?_)));(case side2 => exact Z253);(case side3 => repeat (first | exact (Kd.C_below HR0_1.out Z333) | (with_reducible refine Kd.C_alloc ?_ _) | (with_reducible refine Kd.C_drewN ?_ _) | (with_reducible refine Kd.C_drew ?_)));(case side4 => exact HC0_1.out);rintro e w10 ⟨rfl,hb⟩;have n_ := jA (blk_below (g := gb604) (o := .cells #[.slice A0_0 l0_0.length c0_0,.slice A0_1 l0_1.length c0_1] 32 (0,0)) Z325 hb) (Aside0.mk (below_step Z333 hb));clear BK604 HB;obtain ⟨BK604,HB⟩ := n_;(try clear hb);(try clear hb2);(try clear hk);(try clear hi)) | (go_at_call 18;(with_reducible refine (impl_within.calls t606 1 40 t607 _ A8.out).mono ?_);rintro e w' ⟨rfl,⟨nd,rfl⟩⟩))
  go_meet
  case rel => exact ⟨_,(!t607),Z230,H',⟨Z240⟩,⟨Z325⟩,⟨Z333⟩⟩
 case rest =>
  clear HC2
  try clear c1
  try clear p2
  try clear c5
  try clear c6
  try clear c6b0
  try clear c6b1
  try clear c6b2
  try clear c11
  obtain ⟨kq,x24_1,rfl,HA,HJ1,BK604,HB⟩ := hcut
  cases kq with
  | zero => exact absurd HA.out (by simp [impl_GridOk.j0])
  | succ kj1 =>
   have H := HA.out
   clear HA
   simp only [impl_GridOk.j0] at H
   by_cases c13 : x24_1 = true
   ·subst c13
    rw [if_pos rfl] at H
    obtain rfl := Option.some.inj H
    go_wp2
    go_ret
    exact ⟨Z212,Z333⟩
   replace c13 := Bool.eq_false_iff.mpr c13
   subst c13
   rw [if_neg Bool.false_ne_true] at H
   have H' := Aside0.mk H
   clear H
   obtain ⟨hcz14_0,hcz14_1,hfz14_0,hfz14_1⟩ := cells2 BK604.out
   go_wp2
   go_loopg [28] kj1 (fun kq v28 w' => ∃ (x28_2 : Int),v28 = .int .i64 x28_2 ∧ Aside0 (impl_GridOk.l0 kq l0_0 (l0_0.length : Int) x28_2 l0_0 l0_1 = some r) ∧ Aside0 (kq ≤ kj1) ∧ Aside0 (w'.heap[gb604]? = some (.cells #[(.slice A0_0 l0_0.length c0_0),(.slice A0_1 l0_1.length c0_1)] 32 (0,0))) ∧ Aside0 (Below w.heap.size w w'))
   case atStart => exact ⟨(0),Z230,H',⟨Nat.le_refl _⟩,⟨Z325⟩,⟨Z333⟩⟩
   case round =>
    clear H'
    try clear c1
    try clear p2
    try clear c5
    try clear c6
    try clear c6b0
    try clear c6b1
    try clear c6b2
    try clear c11
    try clear c13
    try clear p2
    obtain ⟨x28_2,rfl,HA,HK2,BK604,HB⟩ := hrel
    cases gk with
    | zero => exact absurd HA.out (by simp [impl_GridOk.l0])
    | succ k2 =>
     have H := HA.out
     clear HA
     simp only [impl_GridOk.l0] at H
     by_cases c15 : x28_2 < (l0_0.length : Int)
     rotate_left
     ·rw [if_neg c15] at H
      have c15b0 : decide (x28_2 < (l0_0.length : Int)) = false := decide_eq_false c15
      clear c15
      obtain rfl := Option.some.inj H
      go_wp2
      go_ret
      exact ⟨Z212,Z333⟩
     rw [if_pos c15] at H
     have c15b0 : decide (x28_2 < (l0_0.length : Int)) = true := decide_eq_true c15
     clear c15
     obtain ⟨c16,H⟩ := ifp H
     have c16b0 : decide (0 ≤ x28_2) = true := decide_eq_true c16
     clear c16
     obtain ⟨c17,H⟩ := ifp H
     have c17b0 : decide (x28_2 < (l0_0.length : Int)) = true := decide_eq_true c17
     clear c17
     obtain ⟨t610,A180,H⟩ := Option.bind_eq_some_iff.mp H
     have A18 := Aside0.mk A180
     clear A180
     by_cases c19 : t610 = true
     rotate_left
     ·replace c19 := Bool.eq_false_iff.mpr c19
      subst c19
      rw [if_neg Bool.false_ne_true] at H
      obtain rfl := Option.some.inj H
      have p608 : 0 ≤ (x28_2 : Int) := of_decide_eq_true Z229
      have q608 : x28_2 < (l0_0.length : Int) := of_decide_eq_true Z229
      obtain ⟨ad608,A608_0,c608_0,e608,hx608_0,hl608_0,hi608_0⟩ := at_L3 HR0_0.out x28_2 p608 q608
      cases e608
      replace hx608_0 := (HB.out.cell (World.block_lt_of_cell? w _ hx608_0)).trans hx608_0
      have HR608_0 := Aside0.mk hi608_0
      have HC608_0 := Aside0.mk hl608_0
      clear hi608_0 hl608_0
      replace p608 := eq_true p608
      replace q608 := eq_true q608
      try go_wp2_with (first | ((with_reducible refine gate_dst (N := 4) rfl ?_);(try (refine gate_guard Z257 ?_;dsimp only));refine bE 4 #[.slice none 0 0] 26 (h := ?_);intro gb609 hg w45 hbox hb;have n_ := Z4;clear BK604 HB;obtain ⟨BK604,HB,BK609,GW609,GE609,NB604_609,NB609_604⟩ := n_;clear hb hbox hg;have hnb46 := NB609_604.out;have hnc46 := NB604_609.out;obtain ⟨hcz47_0,hfz47_0⟩ := cells1 BK609.out))
      have n0_ : Aside0 ((w45.setCell ⟨gb609,0,none⟩ (.slice A608_0 (rd_L3 l0_0 x28_2).length c608_0)).heap[gb604]? = some (.cells #[.slice (some ad608) l0_0.length c0_0,.slice A0_1 l0_1.length c0_1] 32 (0,0))) := ⟨Z218⟩
      have n1_ : Aside0 ((w45.setCell ⟨gb609,0,none⟩ (.slice A608_0 (rd_L3 l0_0 x28_2).length c608_0)).heap[gb609]? = some (.cells #[.slice A608_0 (rd_L3 l0_0 x28_2).length c608_0] 26 (0,0))) := ⟨Z210⟩
      have n2_ : Aside0 (Below w.heap.size w (w45.setCell ⟨gb609,0,none⟩ (.slice A608_0 (rd_L3 l0_0 x28_2).length c608_0))) := ⟨Z266⟩
      (try clear BK604)
      (try clear BK609)
      (try clear HB)
      generalize (w45.setCell ⟨gb609,0,none⟩ (.slice A608_0 (rd_L3 l0_0 x28_2).length c608_0)) = w48 at n0_ n1_ n2_ ⊢
      have BK604 := n0_
      have BK609 := n1_
      have HB := n2_
      clear n0_ n1_ n2_
      have n_ := jA (blk_drew BK604.out) (jA (blk_drew BK609.out) (Aside0.mk (below_drew1 HB.out)))
      clear BK604 BK609 HB
      obtain ⟨BK604,BK609,HB⟩ := n_
      refine start_ (n := 23) (S := fun w' => w'.cell? ⟨gb609,0,none⟩ = some (.slice A608_0 (rd_L3 l0_0 x28_2).length c608_0)) (ds := []) (qM 23 0) Z256 rfl (by kernel_rfl) (bc BK609 0) (fun hHeld => ?_);refine with_tabW impl_GridOk.tab6 impl_GridOk.bits6 (fun HT_ HW_ => ?_)
      generalize w48.drew = w49 at BK604 BK609 HB hHeld ⊢
      refine take_ (i := 0) (N := some 33) (v := ?_) (a' := ?_) (qM 23 1) rfl rfl (take_ofW HT_.out HW_.out Z256) (fun _ _ _ h => h) (Or.inl ⟨Z257,?_⟩) hHeld ?_ ?_
      rotate_left
      ·intro w' s0
       go_simp
       with_reducible rfl
      rotate_left
      ·simp only [Act.put,List.setIfInBounds_toArray,List.set_cons_zero,List.set_cons_succ,i64_w,i32_w]
       rfl
      refine rO 1 34 23 3 HT_ (h := fun K hK => ?_)
      refine goes_ Try.func31 Z256 rfl #[.slice A608_0 (rd_L3 l0_0 x28_2).length c608_0] Z257 rfl rfl Z159 ?_
      with_reducible refine (impl_CutsOk.calls k2 _ _ (rd_L3 l0_0 x28_2) false _ ?side1 ?side2 A18.out).mono ?_
      (case side1 => exact Z98)
      (case side2 => exact HC608_0.out)
      rintro e w' ⟨rfl,⟨nd,rfl⟩⟩
      refine ⟨_,rfl,?_⟩
      refine hK.out _ _ (bc BK609 0) (fun hHeld => ?_)
      clear hK K
      refine rN (h := ?_)
      refine rP 2 35 23 7 HT_ (h := ?_)
      refine rP 3 36 23 15 HT_ (h := ?_)
      refine rU 4 37 23 31 HT_ (h := ?_)
      refine rU 5 38 23 63 HT_ (h := ?_)
      refine rU 6 39 23 127 HT_ (h := ?_)
      refine rU 7 40 23 255 HT_ (h := ?_)
      refine rU 8 41 23 511 HT_ (h := ?_)
      refine rU 9 42 23 1023 HT_ (h := ?_)
      refine rU 10 43 23 2047 HT_ (h := ?_)
      refine rU 11 44 23 4095 HT_ (h := ?_)
      refine rU 12 45 23 8191 HT_ (h := ?_)
      refine rP 13 46 23 16383 HT_ (h := ?_)
      refine rP 14 47 23 32767 HT_ (h := ?_)
      refine rU 15 48 23 65535 HT_ (h := ?_)
      refine rU 16 49 23 131071 HT_ (h := ?_)
      refine rU 17 50 23 262143 HT_ (h := ?_)
      refine rU 18 51 23 524287 HT_ (h := ?_)
      refine rU 19 52 23 1048575 HT_ (h := ?_)
      refine rU 20 53 23 2097151 HT_ (h := ?_)
      refine rU 21 54 23 4194303 HT_ (h := ?_)
      refine rP 22 55 23 8388607 HT_ (h := ?_)
      refine done_ (done_of HT_.out Z256) ?_
      try go_wp2
      go_ret
      exact ⟨Z212,Z266⟩
     subst c19
     rw [if_pos rfl] at H
     obtain ⟨c20,H⟩ := ifp H
     have c20b0 : decide (x28_2 < (l0_1.length : Int)) = true := decide_eq_true c20
     clear c20
     obtain ⟨t612,A210,H⟩ := Option.bind_eq_some_iff.mp H
     have A21 := Aside0.mk A210
     clear A210
     by_cases c22 : ((rd_L3 l0_1 x28_2).length : Int) = t612
     rotate_left
     ·rw [if_neg c22] at H
      have c22b0 : (((rd_L3 l0_1 x28_2).length : Int) == t612) = false := beq_eq_false_iff_ne.mpr c22
      have c22b1 : (((rd_L3 l0_1 x28_2).length : Int) != t612) = true := bne_iff_ne.mpr c22
      obtain rfl := Option.some.inj H
      have p608 : 0 ≤ (x28_2 : Int) := of_decide_eq_true Z229
      have q608 : x28_2 < (l0_0.length : Int) := of_decide_eq_true Z229
      obtain ⟨ad608,A608_0,c608_0,e608,hx608_0,hl608_0,hi608_0⟩ := at_L3 HR0_0.out x28_2 p608 q608
      cases e608
      replace hx608_0 := (HB.out.cell (World.block_lt_of_cell? w _ hx608_0)).trans hx608_0
      have HR608_0 := Aside0.mk hi608_0
      have HC608_0 := Aside0.mk hl608_0
      clear hi608_0 hl608_0
      replace p608 := eq_true p608
      replace q608 := eq_true q608
      try go_wp2_with (first | ((with_reducible refine gate_dst (N := 4) rfl ?_);(try (refine gate_guard Z257 ?_;dsimp only));refine bE 4 #[.slice none 0 0] 26 (h := ?_);intro gb609 hg w39 hbox hb;have n_ := Z4;clear BK604 HB;obtain ⟨BK604,HB,BK609,GW609,GE609,NB604_609,NB609_604⟩ := n_;clear hb hbox hg;have hnb40 := NB609_604.out;have hnc40 := NB604_609.out;obtain ⟨hcz41_0,hfz41_0⟩ := cells1 BK609.out))
      have n0_ : Aside0 ((w39.setCell ⟨gb609,0,none⟩ (.slice A608_0 (rd_L3 l0_0 x28_2).length c608_0)).heap[gb604]? = some (.cells #[.slice (some ad608) l0_0.length c0_0,.slice A0_1 l0_1.length c0_1] 32 (0,0))) := ⟨Z218⟩
      have n1_ : Aside0 ((w39.setCell ⟨gb609,0,none⟩ (.slice A608_0 (rd_L3 l0_0 x28_2).length c608_0)).heap[gb609]? = some (.cells #[.slice A608_0 (rd_L3 l0_0 x28_2).length c608_0] 26 (0,0))) := ⟨Z210⟩
      have n2_ : Aside0 (Below w.heap.size w (w39.setCell ⟨gb609,0,none⟩ (.slice A608_0 (rd_L3 l0_0 x28_2).length c608_0))) := ⟨Z266⟩
      (try clear BK604)
      (try clear BK609)
      (try clear HB)
      generalize (w39.setCell ⟨gb609,0,none⟩ (.slice A608_0 (rd_L3 l0_0 x28_2).length c608_0)) = w42 at n0_ n1_ n2_ ⊢
      have BK604 := n0_
      have BK609 := n1_
      have HB := n2_
      clear n0_ n1_ n2_
      have n_ := jA (blk_drew BK604.out) (jA (blk_drew BK609.out) (Aside0.mk (below_drew1 HB.out)))
      clear BK604 BK609 HB
      obtain ⟨BK604,BK609,HB⟩ := n_
      have p611 : 0 ≤ (x28_2 : Int) := of_decide_eq_true Z229
      have q611 : x28_2 < (l0_1.length : Int) := of_decide_eq_true Z229
      obtain ⟨ad611,A611_0,c611_0,e611,hx611_0,hl611_0,hi611_0⟩ := at_L3 HR0_1.out x28_2 p611 q611
      have hw611_0 := hx611_0
      cases e611
      replace hx611_0 := (HB.out.cell (World.block_lt_of_cell? w _ hx611_0)).trans hx611_0
      have HR611_0 := Aside0.mk hi611_0
      have HC611_0 := Aside0.mk hl611_0
      clear hi611_0 hl611_0
      replace p611 := eq_true p611
      replace q611 := eq_true q611
      refine start_ (n := 23) (S := fun w' => w'.cell? ⟨gb609,0,none⟩ = some (.slice A608_0 (rd_L3 l0_0 x28_2).length c608_0) ∧ w'.cell? ⟨gb604,0,none⟩ = some (.slice (some ad608) l0_0.length c0_0) ∧ w'.cell? ⟨gb604,1,none⟩ = some (.slice (some ad611) l0_1.length c0_1) ∧ w'.cell? (ad611.add (x28_2).toNat) = some (.slice A611_0 (rd_L3 l0_1 x28_2).length c611_0)) (ds := []) (qM 23 0) Z256 rfl (by kernel_rfl) ⟨bc BK609 0,bc BK604 0,bc BK604 1,((HB.out.cell (World.block_lt_of_cell? w _ hw611_0)).trans hw611_0)⟩ (fun hHeld => ?_);refine with_tabW impl_GridOk.tab6 impl_GridOk.bits6 (fun HT_ HW_ => ?_)
      generalize w42.drew = w43 at BK604 BK609 HB HR611_0 hx611_0 hHeld ⊢
      refine rT4 0 33 23 1 HT_ HW_ hHeld (h := ?_)
      refine rO 1 34 23 3 HT_ (h := fun K hK => ?_)
      refine goes_ Try.func31 Z256 rfl #[.slice A608_0 (rd_L3 l0_0 x28_2).length c608_0] Z257 rfl rfl Z159 ?_
      with_reducible refine (impl_CutsOk.calls k2 _ _ (rd_L3 l0_0 x28_2) true _ ?side1 ?side2 A18.out).mono ?_
      (case side1 => exact Z98)
      (case side2 => exact HC608_0.out)
      rintro e w' ⟨rfl,⟨nd,rfl⟩⟩
      refine ⟨_,rfl,?_⟩
      refine hK.out _ _ ⟨bc BK609 0,bc BK604 0,bc BK604 1,((HB.out.cell (World.block_lt_of_cell? w _ hw611_0)).trans hw611_0)⟩ (fun hHeld => ?_)
      clear hK K
      refine rN (h := ?_)
      refine rP 2 35 23 7 HT_ (h := ?_)
      refine rP 3 36 23 15 HT_ (h := ?_)
      refine rP 4 37 23 31 HT_ (h := ?_)
      refine rP 6 39 23 95 HT_ (h := ?_)
      refine rT4 5 38 23 127 HT_ HW_ hHeld (h := ?_)
      refine rP 7 40 23 255 HT_ (h := ?_)
      refine rT4 8 41 23 511 HT_ HW_ hHeld (h := ?_)
      refine rP 9 42 23 1023 HT_ (h := ?_)
      refine rT4 10 43 23 2047 HT_ HW_ hHeld (h := ?_)
      refine rO 11 44 23 4095 HT_ (h := fun K hK => ?_)
      refine goes_ Try.func13 Z256 rfl #[.agg #[.slice (some ad608) l0_0.length c0_0,.slice (some ad611) l0_1.length c0_1]] Z257 rfl rfl Z159 ?_
      with_reducible refine (impl_RowsIn.calls _ _ l0_0 _ _ l0_1 t612 _ ?side1 ?side2 ?side3 ?side4 A21.out).mono ?_
      (case side1 => exact Z31)
      (case side2 => exact Z253)
      (case side3 => exact Z30)
      (case side4 => exact HC0_1.out)
      rintro e w44 ⟨rfl,hb⟩
      refine ⟨_,rfl,?_⟩
      have n_ := jA (blk_below (g := gb604) (o := .cells #[.slice (some ad608) l0_0.length c0_0,.slice (some ad611) l0_1.length c0_1] 32 (0,0)) Z325 hb) (jA (blk_below (g := gb609) (o := .cells #[.slice A608_0 (rd_L3 l0_0 x28_2).length c608_0] 26 (0,0)) Z249 hb) (Aside0.mk (below_step Z266 hb)))
      clear BK604 BK609 HB
      obtain ⟨BK604,BK609,HB⟩ := n_
      (try clear hb)
      (try clear hb2)
      (try clear hk)
      (try clear hi)
      refine hK.out _ _ ⟨bc BK609 0,bc BK604 0,bc BK604 1,((HB.out.cell (World.block_lt_of_cell? w _ hw611_0)).trans hw611_0)⟩ (fun hHeld => ?_)
      clear hK K
      refine rN (h := ?_)
      refine rP 12 45 23 8191 HT_ (h := ?_)
      refine rP 13 46 23 16383 HT_ (h := ?_)
      refine rP 14 47 23 32767 HT_ (h := ?_)
      refine rU 15 48 23 65535 HT_ (h := ?_)
      refine rU 16 49 23 131071 HT_ (h := ?_)
      refine rU 17 50 23 262143 HT_ (h := ?_)
      refine rU 18 51 23 524287 HT_ (h := ?_)
      refine rU 19 52 23 1048575 HT_ (h := ?_)
      refine rU 20 53 23 2097151 HT_ (h := ?_)
      refine rU 21 54 23 4194303 HT_ (h := ?_)
      refine rP 22 55 23 8388607 HT_ (h := ?_)
      refine done_ (done_of HT_.out Z256) ?_
      try go_wp2
      go_ret
      exact ⟨Z212,Z266⟩
     rw [if_pos c22] at H
     have c22b0 : (((rd_L3 l0_1 x28_2).length : Int) == t612) = true := beq_iff_eq.mpr c22
     have c22b1 : (((rd_L3 l0_1 x28_2).length : Int) != t612) = false := bne_eq_false_iff_eq.mpr c22
     clear c22
     obtain ⟨t614,A230,H⟩ := Option.bind_eq_some_iff.mp H
     have A23 := Aside0.mk A230
     clear A230
     by_cases c24 : t614 = true
     ·subst c24
      rw [if_pos rfl] at H
      obtain rfl := Option.some.inj H
      have p608 : 0 ≤ (x28_2 : Int) := of_decide_eq_true Z229
      have q608 : x28_2 < (l0_0.length : Int) := of_decide_eq_true Z229
      obtain ⟨ad608,A608_0,c608_0,e608,hx608_0,hl608_0,hi608_0⟩ := at_L3 HR0_0.out x28_2 p608 q608
      cases e608
      replace hx608_0 := (HB.out.cell (World.block_lt_of_cell? w _ hx608_0)).trans hx608_0
      have HR608_0 := Aside0.mk hi608_0
      have HC608_0 := Aside0.mk hl608_0
      clear hi608_0 hl608_0
      replace p608 := eq_true p608
      replace q608 := eq_true q608
      try go_wp2_with (first | ((with_reducible refine gate_dst (N := 4) rfl ?_);(try (refine gate_guard Z257 ?_;dsimp only));refine bE 4 #[.slice none 0 0] 26 (h := ?_);intro gb609 hg w25 hbox hb;have n_ := Z4;clear BK604 HB;obtain ⟨BK604,HB,BK609,GW609,GE609,NB604_609,NB609_604⟩ := n_;clear hb hbox hg;have hnb26 := NB609_604.out;have hnc26 := NB604_609.out;obtain ⟨hcz27_0,hfz27_0⟩ := cells1 BK609.out))
      have n0_ : Aside0 ((w25.setCell ⟨gb609,0,none⟩ (.slice A608_0 (rd_L3 l0_0 x28_2).length c608_0)).heap[gb604]? = some (.cells #[.slice (some ad608) l0_0.length c0_0,.slice A0_1 l0_1.length c0_1] 32 (0,0))) := ⟨Z218⟩
      have n1_ : Aside0 ((w25.setCell ⟨gb609,0,none⟩ (.slice A608_0 (rd_L3 l0_0 x28_2).length c608_0)).heap[gb609]? = some (.cells #[.slice A608_0 (rd_L3 l0_0 x28_2).length c608_0] 26 (0,0))) := ⟨Z210⟩
      have n2_ : Aside0 (Below w.heap.size w (w25.setCell ⟨gb609,0,none⟩ (.slice A608_0 (rd_L3 l0_0 x28_2).length c608_0))) := ⟨Z266⟩
      (try clear BK604)
      (try clear BK609)
      (try clear HB)
      generalize (w25.setCell ⟨gb609,0,none⟩ (.slice A608_0 (rd_L3 l0_0 x28_2).length c608_0)) = w28 at n0_ n1_ n2_ ⊢
      have BK604 := n0_
      have BK609 := n1_
      have HB := n2_
      clear n0_ n1_ n2_
      have n_ := jA (blk_drew BK604.out) (jA (blk_drew BK609.out) (Aside0.mk (below_drew1 HB.out)))
      clear BK604 BK609 HB
      obtain ⟨BK604,BK609,HB⟩ := n_
      have p611 : 0 ≤ (x28_2 : Int) := of_decide_eq_true Z229
      have q611 : x28_2 < (l0_1.length : Int) := of_decide_eq_true Z229
      obtain ⟨ad611,A611_0,c611_0,e611,hx611_0,hl611_0,hi611_0⟩ := at_L3 HR0_1.out x28_2 p611 q611
      have hw611_0 := hx611_0
      cases e611
      replace hx611_0 := (HB.out.cell (World.block_lt_of_cell? w _ hx611_0)).trans hx611_0
      have HR611_0 := Aside0.mk hi611_0
      have HC611_0 := Aside0.mk hl611_0
      clear hi611_0 hl611_0
      replace p611 := eq_true p611
      replace q611 := eq_true q611
      have p613 : 0 ≤ (x28_2 : Int) := of_decide_eq_true Z229
      have q613 : x28_2 < (l0_1.length : Int) := of_decide_eq_true Z229
      obtain ⟨ad613,A613_0,c613_0,e613,hx613_0,hl613_0,hi613_0⟩ := at_L3 HR0_1.out x28_2 p613 q613
      have hw613_0 := hx613_0
      obtain rfl : ad611 = ad613 := (by injection e613)
      have ee_ := hw611_0.symm.trans hw613_0
      simp only [Option.some.injEq, Value.slice.injEq, true_and] at ee_
      obtain ⟨rfl, rfl⟩ := ee_
      replace hx613_0 := (HB.out.cell (World.block_lt_of_cell? w _ hx613_0)).trans hx613_0
      have HR613_0 := Aside0.mk hi613_0
      have HC613_0 := Aside0.mk hl613_0
      clear hi613_0 hl613_0
      replace p613 := eq_true p613
      replace q613 := eq_true q613
      refine start_ (n := 23) (S := fun w' => w'.cell? ⟨gb609,0,none⟩ = some (.slice A608_0 (rd_L3 l0_0 x28_2).length c608_0) ∧ w'.cell? ⟨gb604,0,none⟩ = some (.slice (some ad608) l0_0.length c0_0) ∧ w'.cell? ⟨gb604,1,none⟩ = some (.slice (some ad611) l0_1.length c0_1) ∧ w'.cell? (ad611.add (x28_2).toNat) = some (.slice A611_0 (rd_L3 l0_1 x28_2).length c611_0) ∧ w'.cell? (ad611.add (x28_2).toNat) = some (.slice A611_0 (rd_L3 l0_1 x28_2).length c611_0)) (ds := []) (qM 23 0) Z256 rfl (by kernel_rfl) ⟨bc BK609 0,bc BK604 0,bc BK604 1,((HB.out.cell (World.block_lt_of_cell? w _ hw611_0)).trans hw611_0),((HB.out.cell (World.block_lt_of_cell? w _ hw613_0)).trans hw613_0)⟩ (fun hHeld => ?_);refine with_tabW impl_GridOk.tab6 impl_GridOk.bits6 (fun HT_ HW_ => ?_)
      generalize w28.drew = w29 at BK604 BK609 HB HR611_0 HR613_0 hx611_0 hx613_0 hHeld ⊢
      refine rT5 0 33 23 1 HT_ HW_ hHeld (h := ?_)
      refine rO 1 34 23 3 HT_ (h := fun K hK => ?_)
      refine goes_ Try.func31 Z256 rfl #[.slice A608_0 (rd_L3 l0_0 x28_2).length c608_0] Z257 rfl rfl Z159 ?_
      with_reducible refine (impl_CutsOk.calls k2 _ _ (rd_L3 l0_0 x28_2) true _ ?side1 ?side2 A18.out).mono ?_
      (case side1 => exact Z98)
      (case side2 => exact HC608_0.out)
      rintro e w' ⟨rfl,⟨nd,rfl⟩⟩
      refine ⟨_,rfl,?_⟩
      refine hK.out _ _ ⟨bc BK609 0,bc BK604 0,bc BK604 1,((HB.out.cell (World.block_lt_of_cell? w _ hw611_0)).trans hw611_0),((HB.out.cell (World.block_lt_of_cell? w _ hw613_0)).trans hw613_0)⟩ (fun hHeld => ?_)
      clear hK K
      refine rN (h := ?_)
      refine rP 2 35 23 7 HT_ (h := ?_)
      refine rP 3 36 23 15 HT_ (h := ?_)
      refine rP 4 37 23 31 HT_ (h := ?_)
      refine rP 6 39 23 95 HT_ (h := ?_)
      refine rT5 5 38 23 127 HT_ HW_ hHeld (h := ?_)
      refine rP 7 40 23 255 HT_ (h := ?_)
      refine rT5 8 41 23 511 HT_ HW_ hHeld (h := ?_)
      refine rP 9 42 23 1023 HT_ (h := ?_)
      refine rT5 10 43 23 2047 HT_ HW_ hHeld (h := ?_)
      refine rO 11 44 23 4095 HT_ (h := fun K hK => ?_)
      refine goes_ Try.func13 Z256 rfl #[.agg #[.slice (some ad608) l0_0.length c0_0,.slice (some ad611) l0_1.length c0_1]] Z257 rfl rfl Z159 ?_
      with_reducible refine (impl_RowsIn.calls _ _ l0_0 _ _ l0_1 t612 _ ?side1 ?side2 ?side3 ?side4 A21.out).mono ?_
      (case side1 => exact Z31)
      (case side2 => exact Z253)
      (case side3 => exact Z30)
      (case side4 => exact HC0_1.out)
      rintro e w30 ⟨rfl,hb⟩
      refine ⟨_,rfl,?_⟩
      have n_ := jA (blk_below (g := gb604) (o := .cells #[.slice (some ad608) l0_0.length c0_0,.slice (some ad611) l0_1.length c0_1] 32 (0,0)) Z325 hb) (jA (blk_below (g := gb609) (o := .cells #[.slice A608_0 (rd_L3 l0_0 x28_2).length c608_0] 26 (0,0)) Z249 hb) (Aside0.mk (below_step Z266 hb)))
      clear BK604 BK609 HB
      obtain ⟨BK604,BK609,HB⟩ := n_
      (try clear hb)
      (try clear hb2)
      (try clear hk)
      (try clear hi)
      refine hK.out _ _ ⟨bc BK609 0,bc BK604 0,bc BK604 1,((HB.out.cell (World.block_lt_of_cell? w _ hw611_0)).trans hw611_0),((HB.out.cell (World.block_lt_of_cell? w _ hw613_0)).trans hw613_0)⟩ (fun hHeld => ?_)
      clear hK K
      refine rN (h := ?_)
      refine rP 12 45 23 8191 HT_ (h := ?_)
      refine rP 13 46 23 16383 HT_ (h := ?_)
      refine rP 14 47 23 32767 HT_ (h := ?_)
      refine rP 15 48 23 65535 HT_ (h := ?_)
      refine rP 17 50 23 196607 HT_ (h := ?_)
      refine rP 20 53 23 1245183 HT_ (h := ?_)
      refine rT5 16 49 23 1310719 HT_ HW_ hHeld (h := ?_)
      refine rP 18 51 23 1572863 HT_ (h := ?_)
      refine rT5 19 52 23 2097151 HT_ HW_ hHeld (h := ?_)
      refine rO 21 54 23 4194303 HT_ (h := fun K hK => ?_)
      refine goes_ Try.func32 Z256 rfl #[.slice A611_0 (rd_L3 l0_1 x28_2).length c611_0,.func (.func 33) #[] #[.pointer (some ⟨gb609,0,none⟩)]] Z257 rfl rfl Z159 ?_
      with_reducible refine (impl_GridOk_1.calls _ _ (rd_L3 l0_1 x28_2) gb609 _ _ (rd_L3 l0_0 x28_2) true _ ?side1 ?side2 (hHeld.1) A23.out).mono ?_
      (case side1 => exact Z105)
      (case side2 => exact HC613_0.out)
      rintro e w31 ⟨rfl,hb⟩
      refine ⟨_,rfl,?_⟩
      have n_ := jA (blk_below (g := gb604) (o := .cells #[.slice (some ad608) l0_0.length c0_0,.slice (some ad611) l0_1.length c0_1] 32 (0,0)) Z325 hb) (jA (blk_below (g := gb609) (o := .cells #[.slice A608_0 (rd_L3 l0_0 x28_2).length c608_0] 26 (0,0)) Z249 hb) (Aside0.mk (below_step Z266 hb)))
      clear BK604 BK609 HB
      obtain ⟨BK604,BK609,HB⟩ := n_
      (try clear hb)
      (try clear hb2)
      (try clear hk)
      (try clear hi)
      refine hK.out _ _ ⟨bc BK609 0,bc BK604 0,bc BK604 1,((HB.out.cell (World.block_lt_of_cell? w _ hw611_0)).trans hw611_0),((HB.out.cell (World.block_lt_of_cell? w _ hw613_0)).trans hw613_0)⟩ (fun hHeld => ?_)
      clear hK K
      refine rN (h := ?_)
      refine rP 22 55 23 8388607 HT_ (h := ?_)
      refine done_ (done_of HT_.out Z256) ?_
      try go_wp2
      go_ret
      exact ⟨Z212,Z266⟩
     replace c24 := Bool.eq_false_iff.mpr c24
     subst c24
     rw [if_neg Bool.false_ne_true] at H
     have H' := Aside0.mk H
     clear H
     have p608 : 0 ≤ (x28_2 : Int) := of_decide_eq_true Z229
     have q608 : x28_2 < (l0_0.length : Int) := of_decide_eq_true Z229
     obtain ⟨ad608,A608_0,c608_0,e608,hx608_0,hl608_0,hi608_0⟩ := at_L3 HR0_0.out x28_2 p608 q608
     cases e608
     replace hx608_0 := (HB.out.cell (World.block_lt_of_cell? w _ hx608_0)).trans hx608_0
     have HR608_0 := Aside0.mk hi608_0
     have HC608_0 := Aside0.mk hl608_0
     clear hi608_0 hl608_0
     replace p608 := eq_true p608
     replace q608 := eq_true q608
     try go_wp2_with (first | ((with_reducible refine gate_dst (N := 4) rfl ?_);(try (refine gate_guard Z257 ?_;dsimp only));refine bE 4 #[.slice none 0 0] 26 (h := ?_);intro gb609 hg w32 hbox hb;have n_ := Z4;clear BK604 HB;obtain ⟨BK604,HB,BK609,GW609,GE609,NB604_609,NB609_604⟩ := n_;clear hb hbox hg;have hnb33 := NB609_604.out;have hnc33 := NB604_609.out;obtain ⟨hcz34_0,hfz34_0⟩ := cells1 BK609.out))
     have n0_ : Aside0 ((w32.setCell ⟨gb609,0,none⟩ (.slice A608_0 (rd_L3 l0_0 x28_2).length c608_0)).heap[gb604]? = some (.cells #[.slice (some ad608) l0_0.length c0_0,.slice A0_1 l0_1.length c0_1] 32 (0,0))) := ⟨Z218⟩
     have n1_ : Aside0 ((w32.setCell ⟨gb609,0,none⟩ (.slice A608_0 (rd_L3 l0_0 x28_2).length c608_0)).heap[gb609]? = some (.cells #[.slice A608_0 (rd_L3 l0_0 x28_2).length c608_0] 26 (0,0))) := ⟨Z210⟩
     have n2_ : Aside0 (Below w.heap.size w (w32.setCell ⟨gb609,0,none⟩ (.slice A608_0 (rd_L3 l0_0 x28_2).length c608_0))) := ⟨Z266⟩
     (try clear BK604)
     (try clear BK609)
     (try clear HB)
     generalize (w32.setCell ⟨gb609,0,none⟩ (.slice A608_0 (rd_L3 l0_0 x28_2).length c608_0)) = w35 at n0_ n1_ n2_ ⊢
     have BK604 := n0_
     have BK609 := n1_
     have HB := n2_
     clear n0_ n1_ n2_
     have n_ := jA (blk_drew BK604.out) (jA (blk_drew BK609.out) (Aside0.mk (below_drew1 HB.out)))
     clear BK604 BK609 HB
     obtain ⟨BK604,BK609,HB⟩ := n_
     have p611 : 0 ≤ (x28_2 : Int) := of_decide_eq_true Z229
     have q611 : x28_2 < (l0_1.length : Int) := of_decide_eq_true Z229
     obtain ⟨ad611,A611_0,c611_0,e611,hx611_0,hl611_0,hi611_0⟩ := at_L3 HR0_1.out x28_2 p611 q611
     have hw611_0 := hx611_0
     cases e611
     replace hx611_0 := (HB.out.cell (World.block_lt_of_cell? w _ hx611_0)).trans hx611_0
     have HR611_0 := Aside0.mk hi611_0
     have HC611_0 := Aside0.mk hl611_0
     clear hi611_0 hl611_0
     replace p611 := eq_true p611
     replace q611 := eq_true q611
     have p613 : 0 ≤ (x28_2 : Int) := of_decide_eq_true Z229
     have q613 : x28_2 < (l0_1.length : Int) := of_decide_eq_true Z229
     obtain ⟨ad613,A613_0,c613_0,e613,hx613_0,hl613_0,hi613_0⟩ := at_L3 HR0_1.out x28_2 p613 q613
     have hw613_0 := hx613_0
     obtain rfl : ad611 = ad613 := (by injection e613)
     have ee_ := hw611_0.symm.trans hw613_0
     simp only [Option.some.injEq, Value.slice.injEq, true_and] at ee_
     obtain ⟨rfl, rfl⟩ := ee_
     replace hx613_0 := (HB.out.cell (World.block_lt_of_cell? w _ hx613_0)).trans hx613_0
     have HR613_0 := Aside0.mk hi613_0
     have HC613_0 := Aside0.mk hl613_0
     clear hi613_0 hl613_0
     replace p613 := eq_true p613
     replace q613 := eq_true q613
     refine start_ (n := 23) (S := fun w' => w'.cell? ⟨gb609,0,none⟩ = some (.slice A608_0 (rd_L3 l0_0 x28_2).length c608_0) ∧ w'.cell? ⟨gb604,0,none⟩ = some (.slice (some ad608) l0_0.length c0_0) ∧ w'.cell? ⟨gb604,1,none⟩ = some (.slice (some ad611) l0_1.length c0_1) ∧ w'.cell? (ad611.add (x28_2).toNat) = some (.slice A611_0 (rd_L3 l0_1 x28_2).length c611_0) ∧ w'.cell? (ad611.add (x28_2).toNat) = some (.slice A611_0 (rd_L3 l0_1 x28_2).length c611_0)) (ds := []) (qM 23 0) Z256 rfl (by kernel_rfl) ⟨bc BK609 0,bc BK604 0,bc BK604 1,((HB.out.cell (World.block_lt_of_cell? w _ hw611_0)).trans hw611_0),((HB.out.cell (World.block_lt_of_cell? w _ hw613_0)).trans hw613_0)⟩ (fun hHeld => ?_);refine with_tabW impl_GridOk.tab6 impl_GridOk.bits6 (fun HT_ HW_ => ?_)
     generalize w35.drew = w36 at BK604 BK609 HB HR611_0 HR613_0 hx611_0 hx613_0 hHeld ⊢
     refine rT5 0 33 23 1 HT_ HW_ hHeld (h := ?_)
     refine rO 1 34 23 3 HT_ (h := fun K hK => ?_)
     refine goes_ Try.func31 Z256 rfl #[.slice A608_0 (rd_L3 l0_0 x28_2).length c608_0] Z257 rfl rfl Z159 ?_
     with_reducible refine (impl_CutsOk.calls k2 _ _ (rd_L3 l0_0 x28_2) true _ ?side1 ?side2 A18.out).mono ?_
     (case side1 => exact Z98)
     (case side2 => exact HC608_0.out)
     rintro e w' ⟨rfl,⟨nd,rfl⟩⟩
     refine ⟨_,rfl,?_⟩
     refine hK.out _ _ ⟨bc BK609 0,bc BK604 0,bc BK604 1,((HB.out.cell (World.block_lt_of_cell? w _ hw611_0)).trans hw611_0),((HB.out.cell (World.block_lt_of_cell? w _ hw613_0)).trans hw613_0)⟩ (fun hHeld => ?_)
     clear hK K
     refine rN (h := ?_)
     refine rP 2 35 23 7 HT_ (h := ?_)
     refine rP 3 36 23 15 HT_ (h := ?_)
     refine rP 4 37 23 31 HT_ (h := ?_)
     refine rP 6 39 23 95 HT_ (h := ?_)
     refine rT5 5 38 23 127 HT_ HW_ hHeld (h := ?_)
     refine rP 7 40 23 255 HT_ (h := ?_)
     refine rT5 8 41 23 511 HT_ HW_ hHeld (h := ?_)
     refine rP 9 42 23 1023 HT_ (h := ?_)
     refine rT5 10 43 23 2047 HT_ HW_ hHeld (h := ?_)
     refine rO 11 44 23 4095 HT_ (h := fun K hK => ?_)
     refine goes_ Try.func13 Z256 rfl #[.agg #[.slice (some ad608) l0_0.length c0_0,.slice (some ad611) l0_1.length c0_1]] Z257 rfl rfl Z159 ?_
     with_reducible refine (impl_RowsIn.calls _ _ l0_0 _ _ l0_1 t612 _ ?side1 ?side2 ?side3 ?side4 A21.out).mono ?_
     (case side1 => exact Z31)
     (case side2 => exact Z253)
     (case side3 => exact Z30)
     (case side4 => exact HC0_1.out)
     rintro e w37 ⟨rfl,hb⟩
     refine ⟨_,rfl,?_⟩
     have n_ := jA (blk_below (g := gb604) (o := .cells #[.slice (some ad608) l0_0.length c0_0,.slice (some ad611) l0_1.length c0_1] 32 (0,0)) Z325 hb) (jA (blk_below (g := gb609) (o := .cells #[.slice A608_0 (rd_L3 l0_0 x28_2).length c608_0] 26 (0,0)) Z249 hb) (Aside0.mk (below_step Z266 hb)))
     clear BK604 BK609 HB
     obtain ⟨BK604,BK609,HB⟩ := n_
     (try clear hb)
     (try clear hb2)
     (try clear hk)
     (try clear hi)
     refine hK.out _ _ ⟨bc BK609 0,bc BK604 0,bc BK604 1,((HB.out.cell (World.block_lt_of_cell? w _ hw611_0)).trans hw611_0),((HB.out.cell (World.block_lt_of_cell? w _ hw613_0)).trans hw613_0)⟩ (fun hHeld => ?_)
     clear hK K
     refine rN (h := ?_)
     refine rP 12 45 23 8191 HT_ (h := ?_)
     refine rP 13 46 23 16383 HT_ (h := ?_)
     refine rP 14 47 23 32767 HT_ (h := ?_)
     refine rP 15 48 23 65535 HT_ (h := ?_)
     refine rP 17 50 23 196607 HT_ (h := ?_)
     refine rP 20 53 23 1245183 HT_ (h := ?_)
     refine rT5 16 49 23 1310719 HT_ HW_ hHeld (h := ?_)
     refine rP 18 51 23 1572863 HT_ (h := ?_)
     refine rT5 19 52 23 2097151 HT_ HW_ hHeld (h := ?_)
     refine rO 21 54 23 4194303 HT_ (h := fun K hK => ?_)
     refine goes_ Try.func32 Z256 rfl #[.slice A611_0 (rd_L3 l0_1 x28_2).length c611_0,.func (.func 33) #[] #[.pointer (some ⟨gb609,0,none⟩)]] Z257 rfl rfl Z159 ?_
     with_reducible refine (impl_GridOk_1.calls _ _ (rd_L3 l0_1 x28_2) gb609 _ _ (rd_L3 l0_0 x28_2) false _ ?side1 ?side2 (hHeld.1) A23.out).mono ?_
     (case side1 => exact Z105)
     (case side2 => exact HC613_0.out)
     rintro e w38 ⟨rfl,hb⟩
     refine ⟨_,rfl,?_⟩
     have n_ := jA (blk_below (g := gb604) (o := .cells #[.slice (some ad608) l0_0.length c0_0,.slice (some ad611) l0_1.length c0_1] 32 (0,0)) Z325 hb) (jA (blk_below (g := gb609) (o := .cells #[.slice A608_0 (rd_L3 l0_0 x28_2).length c608_0] 26 (0,0)) Z249 hb) (Aside0.mk (below_step Z266 hb)))
     clear BK604 BK609 HB
     obtain ⟨BK604,BK609,HB⟩ := n_
     (try clear hb)
     (try clear hb2)
     (try clear hk)
     (try clear hi)
     refine hK.out _ _ ⟨bc BK609 0,bc BK604 0,bc BK604 1,((HB.out.cell (World.block_lt_of_cell? w _ hw611_0)).trans hw611_0),((HB.out.cell (World.block_lt_of_cell? w _ hw613_0)).trans hw613_0)⟩ (fun hHeld => ?_)
     clear hK K
     refine rN (h := ?_)
     refine rP 22 55 23 8388607 HT_ (h := ?_)
     refine done_ (done_of HT_.out Z256) ?_
     try go_wp2
     go_roundg k2
     case measure => have := HJ1.out;have := HK2.out;omega
     case rel => exact ⟨(wrap64 (x28_2 + 1)),Z230,H',⟨Z233⟩,⟨Z325⟩,⟨Z266⟩⟩

end Go.Proofs.Ytlflcgdcegohjab.QFnGrid
