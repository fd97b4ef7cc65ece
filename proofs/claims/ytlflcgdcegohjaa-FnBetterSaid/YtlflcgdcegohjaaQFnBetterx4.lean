/- The machine side of FnBetter: what each Go function that it reaches comes to. Conditions: none. -/
import Derived.Test.YtlflcgdcegohjaaQFnBetterx0
import Derived.Test.YtlflcgdcegohjaaQFnBetterx3
namespace Go.Proofs.Ytlflcgdcegohjaa.QFnBetter
open Go.RowKit Go.Proofs.YtlflcgdcegohjaaW.PrintWords Go.Proofs.YtlflcgdcegohjaaW.PrintLast Go.Proofs.YtlflcgdcegohjaaW.PrintMore
attribute [local go_sem] max2_int min2_int max_two min_two max_three min_three max_four min_four   -- for this text's walks alone
set_option linter.unusedVariables false
set_option linter.unusedSimpArgs false

/-! ### spec_CandsOf: function 20 -/
mutual
def spec_CandsOf.l0 : Nat → List (List (S25)) → Int → List (S27) → Int → Option ((List (S27)))
 | 0,_,_,_,_ => none
 | k + 1,x0,x1,x5,x6 => if x6 < (x0.length : Int) then (if 0 ≤ x6 then ((spec_Prefix.f k (rd_L3 x0 x6)).bind fun bt240 => (if bt240.2 = true then (spec_CandsOf.l1 k x0 x1 x5 x6 bt240.1 0) else (some (([] : List (S27)))))) else (none)) else (some x5)
def spec_CandsOf.l1 : Nat → List (List (S25)) → Int → List (S27) → Int → List (S25) → Int → Option ((List (S27)))
 | 0,_,_,_,_,_,_ => none
 | k + 1,x0,x1,x5,x6,x7,x9 => if (wrap64 (x9 + 1)) < (x7.length : Int) then (if 0 ≤ (wrap64 ((x7.length : Int) - 1)) then (if (wrap64 ((x7.length : Int) - 1)) < (x7.length : Int) then (if 0 ≤ x9 then (if x9 < (x7.length : Int) then ((spec_SubInt.f ((rd_T25 x7 (wrap64 ((x7.length : Int) - 1))).f0) ((rd_T25 x7 x9).f0)).bind fun bt250 => ((spec_SubInt.f ((rd_T25 x7 (wrap64 ((x7.length : Int) - 1))).f1) ((rd_T25 x7 x9).f1)).bind fun bt253 => (if bt250.2 = true then (spec_CandsOf.j2 k x0 x1 x5 x6 x7 x9 bt250.1 bt253.1 (!bt253.2)) else (spec_CandsOf.j2 k x0 x1 x5 x6 x7 x9 bt250.1 bt253.1 true)))) else (none)) else (none)) else (none)) else (none)) else (spec_CandsOf.l0 k x0 x1 x5 (wrap64 (x6 + 1)))
def spec_CandsOf.j2 : Nat → List (List (S25)) → Int → List (S27) → Int → List (S25) → Int → Int → Int → Bool → Option ((List (S27)))
 | 0,_,_,_,_,_,_,_,_,_ => none
 | k + 1,x0,x1,x5,x6,x7,x9,x11,x13,x73 => if x73 = true then (some (([] : List (S27)))) else (if 0 ≤ x9 then (if x9 < (x7.length : Int) then (if ((rd_T25 x7 x9).f0) ≥ x1 then (if x11 ≥ x1 then (if x5.length < 2932031007402 then (spec_CandsOf.l1 k x0 x1 (x5 ++ [(⟨x6,x9,(⟨(rd_T25 x7 x9).f0,(rd_T25 x7 x9).f1⟩ : S25),(⟨x11,x13⟩ : S25)⟩ : S27)]) x6 x7 (wrap64 (x9 + 1))) else (none)) else (spec_CandsOf.l1 k x0 x1 x5 x6 x7 (wrap64 (x9 + 1)))) else (spec_CandsOf.l1 k x0 x1 x5 x6 x7 (wrap64 (x9 + 1)))) else (none)) else (none))
end
def spec_CandsOf.f (k : Nat) (l0 : List (List (S25))) (a1 : Int) : Option ((List (S27))) := spec_CandsOf.l0 k l0 a1 (([] : List (S27))) 0
theorem spec_CandsOf.mono_l : ∀ k,(∀ y0 y1 y2 y3,LeO (spec_CandsOf.l0 k y0 y1 y2 y3) (spec_CandsOf.l0 (k + 1) y0 y1 y2 y3)) ∧ (∀ y0 y1 y2 y3 y4 y5,LeO (spec_CandsOf.l1 k y0 y1 y2 y3 y4 y5) (spec_CandsOf.l1 (k + 1) y0 y1 y2 y3 y4 y5)) ∧ (∀ y0 y1 y2 y3 y4 y5 y6 y7 y8,LeO (spec_CandsOf.j2 k y0 y1 y2 y3 y4 y5 y6 y7 y8) (spec_CandsOf.j2 (k + 1) y0 y1 y2 y3 y4 y5 y6 y7 y8))
 | 0 => ⟨fun _ _ _ _ r h => by simp [spec_CandsOf.l0] at h,fun _ _ _ _ _ _ r h => by simp [spec_CandsOf.l1] at h,fun _ _ _ _ _ _ _ _ _ r h => by simp [spec_CandsOf.j2] at h⟩
 | k + 1 => by
  obtain ⟨ih0,ih1,ih2⟩ := spec_CandsOf.mono_l k
  refine ⟨?_,?_,?_⟩
  ·intro y0 y1 y2 y3
   unfold spec_CandsOf.l0
   repeat' first
   | (with_reducible exact ih0 _ _ _ _)
   | (with_reducible exact ih1 _ _ _ _ _ _)
   | (with_reducible exact ih2 _ _ _ _ _ _ _ _ _)
   | (with_reducible exact spec_Prefix.mono _ _)
   | (with_reducible exact LeO.refl _)
   | (with_reducible exact LeO.none _)
   | (with_reducible refine LeO.ite ?_ ?_)
   | (with_reducible refine LeO.bind ?_ (fun _ => ?_))
   | exact ih0 _ _ _ _
   | exact ih1 _ _ _ _ _ _
   | exact ih2 _ _ _ _ _ _ _ _ _
   | exact spec_Prefix.mono _ _
   | exact LeO.none _
   | refine LeO.ite ?_ ?_
   | refine LeO.bind ?_ (fun _ => ?_)
  ·intro y0 y1 y2 y3 y4 y5
   unfold spec_CandsOf.l1
   repeat' first
   | (with_reducible exact ih0 _ _ _ _)
   | (with_reducible exact ih1 _ _ _ _ _ _)
   | (with_reducible exact ih2 _ _ _ _ _ _ _ _ _)
   | (with_reducible exact spec_Prefix.mono _ _)
   | (with_reducible exact LeO.refl _)
   | (with_reducible exact LeO.none _)
   | (with_reducible refine LeO.ite ?_ ?_)
   | (with_reducible refine LeO.bind ?_ (fun _ => ?_))
   | exact ih0 _ _ _ _
   | exact ih1 _ _ _ _ _ _
   | exact ih2 _ _ _ _ _ _ _ _ _
   | exact spec_Prefix.mono _ _
   | exact LeO.none _
   | refine LeO.ite ?_ ?_
   | refine LeO.bind ?_ (fun _ => ?_)
  ·intro y0 y1 y2 y3 y4 y5 y6 y7 y8
   unfold spec_CandsOf.j2
   repeat' first
   | (with_reducible exact ih0 _ _ _ _)
   | (with_reducible exact ih1 _ _ _ _ _ _)
   | (with_reducible exact ih2 _ _ _ _ _ _ _ _ _)
   | (with_reducible exact spec_Prefix.mono _ _)
   | (with_reducible exact LeO.refl _)
   | (with_reducible exact LeO.none _)
   | (with_reducible refine LeO.ite ?_ ?_)
   | (with_reducible refine LeO.bind ?_ (fun _ => ?_))
   | exact ih0 _ _ _ _
   | exact ih1 _ _ _ _ _ _
   | exact ih2 _ _ _ _ _ _ _ _ _
   | exact spec_Prefix.mono _ _
   | exact LeO.none _
   | refine LeO.ite ?_ ?_
   | refine LeO.bind ?_ (fun _ => ?_)
theorem spec_CandsOf.mono : ∀ a0 a1 k,LeO (spec_CandsOf.f k a0 a1) (spec_CandsOf.f (k + 1) a0 a1) := by
 intro a0 a1 k
 obtain ⟨ih0,ih1,ih2⟩ := spec_CandsOf.mono_l k
 unfold spec_CandsOf.f
 repeat' first
   | (with_reducible exact ih0 _ _ _ _)
   | (with_reducible exact ih1 _ _ _ _ _ _)
   | (with_reducible exact ih2 _ _ _ _ _ _ _ _ _)
   | (with_reducible exact spec_Prefix.mono _ _)
   | (with_reducible exact LeO.refl _)
   | (with_reducible exact LeO.none _)
   | (with_reducible refine LeO.ite ?_ ?_)
   | (with_reducible refine LeO.bind ?_ (fun _ => ?_))
   | exact ih0 _ _ _ _
   | exact ih1 _ _ _ _ _ _
   | exact ih2 _ _ _ _ _ _ _ _ _
   | exact spec_Prefix.mono _ _
   | exact LeO.none _
   | refine LeO.ite ?_ ?_
   | refine LeO.bind ?_ (fun _ => ?_)
set_option maxHeartbeats 8000000 in
set_option maxRecDepth 100000 in
theorem spec_CandsOf.calls (k : Nat) (A0 : Option Addr) (c0 : Nat) (l0 : List (List (S25))) (a1 : Int) (r : List (S27)) (w : World) (hr0 : Kd.C (Kd.slice 25 k25) w A0 l0.length l0) (hc0 : l0.length ≤ c0) (h : spec_CandsOf.f k l0 a1 = some r) :
  Calls Try.prog 20 #[.slice A0 l0.length c0,.int .i64 a1] w fun e w' => ∃ v0_ : Value,e = .returned (v0_) ∧ Kd.R k27 27 w' w.heap.size (fun _ => True) v0_ r ∧ Below w.heap.size w w' := by
 have hu25 := Try.underlying25
 have hu27 := Try.underlying27
 have HR0 := Aside0.mk hr0
 have HC0 := Aside0.mk hc0
 clear hr0 hc0
 have HB := Aside0.mk (Below.refl w.heap.size w)
 have H := h
 clear h
 unfold spec_CandsOf.f at H
 obtain ⟨y236,hy236⟩ : ∃ y_ : List (S27),y_ = (([] : List (S27))) := ⟨_,rfl⟩
 replace H : (spec_CandsOf.l0 k l0 a1 y236 0) = some r := by first | (rw [hy236];with_reducible exact H) | (have H2_ := (Option.bind_some _ _).symm.trans H;rw [hy236];with_reducible exact H2_) | (have H2_ := (Option.bind_some _ _).symm.trans H;with_reducible exact H2_) | with_reducible exact H | (rw [hy236];exact H) | exact H
 have Ny236 := Aside0.mk hy236
 clear hy236
 have H' := Aside0.mk H
 clear H
 go_enter Try.func20,Try.ntmps20
 go_wp2_with (first | ((with_reducible refine gate_dst (N := 15) rfl ?_);refine Kd.R_lit k27 _ 27 ?hg (N := 15) ?hd (xs := ([] : List (S27))) (inner := []) (ok := fun _ => True) (okp := fun _ => True) ?hr ?hp (fun _ hk => hk) trivial (Below.refl _ _) (Nat.le_refl _) Z524 ?_;(case hd => rfl);(case hg => rfl);(case hr => exact Z295);(case hp => exact Z308);intro v237 w3 ho4 hb hg_ hnew_;clear hg_ hnew_;(first | rw [← Ny236.out] at ho4 | (simp only [Int.reduceToNat] at ho4;rw [← Ny236.out] at ho4));have n_ := Z147;clear HB;obtain ⟨HO238,HB⟩ := n_;clear hb ho4))
 repeat (go_quiet (first | ((with_reducible refine gate_dst (N := 15) rfl ?_);refine Kd.R_lit k27 _ 27 ?hg (N := 15) ?hd (xs := ([] : List (S27))) (inner := []) (ok := fun _ => True) (okp := fun _ => True) ?hr ?hp (fun _ hk => hk) trivial (Below.refl _ _) (Nat.le_refl _) Z524 ?_;(case hd => rfl);(case hg => rfl);(case hr => exact Z295);(case hp => exact Z308);intro v237 w3 ho4 hb hg_ hnew_;clear hg_ hnew_;(first | rw [← Ny236.out] at ho4 | (simp only [Int.reduceToNat] at ho4;rw [← Ny236.out] at ho4));have n_ := Z147;clear HB;obtain ⟨HO238,HB⟩ := n_;clear hb ho4));try go_wp2_with (first | ((with_reducible refine gate_dst (N := 15) rfl ?_);refine Kd.R_lit k27 _ 27 ?hg (N := 15) ?hd (xs := ([] : List (S27))) (inner := []) (ok := fun _ => True) (okp := fun _ => True) ?hr ?hp (fun _ hk => hk) trivial (Below.refl _ _) (Nat.le_refl _) Z524 ?_;(case hd => rfl);(case hg => rfl);(case hr => exact Z295);(case hp => exact Z308);intro v237 w3 ho4 hb hg_ hnew_;clear hg_ hnew_;(first | rw [← Ny236.out] at ho4 | (simp only [Int.reduceToNat] at ho4;rw [← Ny236.out] at ho4));have n_ := Z147;clear HB;obtain ⟨HO238,HB⟩ := n_;clear hb ho4)))
 go_loopg [5,6] k (fun kq v5 v6 w' => ∃ (x5_1 : List (S27)) (x6_1 : Int),v6 = .int .i64 x6_1 ∧ Aside0 (spec_CandsOf.l0 kq l0 a1 x5_1 x6_1 = some r) ∧ Aside0 (kq ≤ k) ∧ Aside0 (Kd.R k27 27 w' w.heap.size (fun _ => True) v5 x5_1) ∧ Aside0 (Below w.heap.size w w'))
 case atStart => exact ⟨(y236),(0),Z294,H',⟨Nat.le_refl _⟩,⟨by (with_reducible repeat (first | apply Kd.R_alloc | apply Kd.R_drewN | apply Kd.R_drew));exact HO238.out⟩,⟨Z574⟩⟩
 case round =>
  clear H'
  try clear c2
  try clear p2
  obtain ⟨x5_1,x6_1,rfl,HA,HK1,HO_5,HB⟩ := hrel
  cases gk with
  | zero => exact absurd HA.out (by simp [spec_CandsOf.l0])
  | succ k1 =>
   have H := HA.out
   clear HA
   simp only [spec_CandsOf.l0] at H
   by_cases c5 : x6_1 < (l0.length : Int)
   rotate_left
   ·rw [if_neg c5] at H
    have c5b0 : decide (x6_1 < (l0.length : Int)) = false := decide_eq_false c5
    clear c5
    obtain rfl := Option.some.inj H
    go_wp2
    repeat (go_quiet (fail);try go_wp2)
    go_ret
    exact ⟨_,Z265,Z485,Z574⟩
   rw [if_pos c5] at H
   have c5b0 : decide (x6_1 < (l0.length : Int)) = true := decide_eq_true c5
   clear c5
   obtain ⟨c6,H⟩ := ifp H
   have c6b0 : decide (0 ≤ x6_1) = true := decide_eq_true c6
   clear c6
   obtain ⟨⟨t240,t241⟩,A70,H⟩ := Option.bind_eq_some_iff.mp H
   try dsimp only at H
   have A7 := Aside0.mk A70
   clear A70
   by_cases c8 : t241 = true
   rotate_left
   ·replace c8 := Bool.eq_false_iff.mpr c8
    subst c8
    rw [if_neg Bool.false_ne_true] at H
    obtain ⟨y244,hy244⟩ : ∃ y_ : List (S27),y_ = (([] : List (S27))) := ⟨_,rfl⟩
    replace H : (some y244) = some r := by first | (rw [hy244];with_reducible exact H) | (have H2_ := (Option.bind_some _ _).symm.trans H;rw [hy244];with_reducible exact H2_) | (have H2_ := (Option.bind_some _ _).symm.trans H;with_reducible exact H2_) | with_reducible exact H | (rw [hy244];exact H) | exact H
    have Ny244 := Aside0.mk hy244
    clear hy244
    obtain rfl := Option.some.inj H
    have p239 : 0 ≤ (x6_1 : Int) := of_decide_eq_true Z293
    have q239 : x6_1 < (l0.length : Int) := of_decide_eq_true Z293
    obtain ⟨ad239,A239_0,c239_0,e239,hx239_0,hl239_0,hi239_0⟩ := at_L3 HR0.out x6_1 p239 q239
    cases e239
    replace hx239_0 := (HB.out.cell (World.block_lt_of_cell? w _ hx239_0)).trans hx239_0
    have HR239_0 := Aside0.mk hi239_0
    have HC239_0 := Aside0.mk hl239_0
    clear hi239_0 hl239_0
    replace p239 := eq_true p239
    replace q239 := eq_true q239
    go_wp2_with (first | (go_at_call 34;(with_reducible refine (spec_Prefix.calls k1 _ _ (rd_L3 l0 x6_1) t240 false _ ?side1 ?side2 A7.out).mono ?_);(case side1 => exact Z224);(case side2 => exact HC239_0.out);rintro e wq1 ⟨vq2,rfl,hoq3,hb⟩;have n_ := Z129;clear HO_5 HB;obtain ⟨HO_5,HO243,HB⟩ := n_;(try clear hb);(try clear hb2);(try clear hk);(try clear hi);(try clear hoq3)) | ((with_reducible refine gate_dst (N := 32) rfl ?_);refine Kd.R_lit k27 _ 27 ?hg (N := 32) ?hd (xs := ([] : List (S27))) (inner := []) (ok := fun _ => True) (okp := fun _ => True) ?hr ?hp (fun _ hk => hk) trivial (Below.refl _ _) (Nat.le_refl _) Z524 ?_;(case hd => rfl);(case hg => rfl);(case hr => exact Z295);(case hp => exact Z308);intro vq4 wq5 hoq6 hb hg_ hnew_;clear hg_ hnew_;(first | rw [← Ny244.out] at hoq6 | (simp only [Int.reduceToNat] at hoq6;rw [← Ny244.out] at hoq6));have n_ := Z84;clear HO_5 HO243 HB;obtain ⟨HO_5,HO243,HO246,HB⟩ := n_;clear hb hoq6))
    repeat (go_quiet (first | (go_at_call 34;(with_reducible refine (spec_Prefix.calls k1 _ _ (rd_L3 l0 x6_1) t240 false _ ?side1 ?side2 A7.out).mono ?_);(case side1 => exact Z224);(case side2 => exact HC239_0.out);rintro e wq1 ⟨vq2,rfl,hoq3,hb⟩;have n_ := Z129;clear HO_5 HB;obtain ⟨HO_5,HO243,HB⟩ := n_;(try clear hb);(try clear hb2);(try clear hk);(try clear hi);(try clear hoq3)) | ((with_reducible refine gate_dst (N := 32) rfl ?_);refine Kd.R_lit k27 _ 27 ?hg (N := 32) ?hd (xs := ([] : List (S27))) (inner := []) (ok := fun _ => True) (okp := fun _ => True) ?hr ?hp (fun _ hk => hk) trivial (Below.refl _ _) (Nat.le_refl _) Z524 ?_;(case hd => rfl);(case hg => rfl);(case hr => exact Z295);(case hp => exact Z308);intro vq4 wq5 hoq6 hb hg_ hnew_;clear hg_ hnew_;(first | rw [← Ny244.out] at hoq6 | (simp only [Int.reduceToNat] at hoq6;rw [← Ny244.out] at hoq6));have n_ := Z84;clear HO_5 HO243 HB;obtain ⟨HO_5,HO243,HO246,HB⟩ := n_;clear hb hoq6));try go_wp2_with (first | (go_at_call 34;(with_reducible refine (spec_Prefix.calls k1 _ _ (rd_L3 l0 x6_1) t240 false _ ?side1 ?side2 A7.out).mono ?_);(case side1 => exact Z224);(case side2 => exact HC239_0.out);rintro e wq1 ⟨vq2,rfl,hoq3,hb⟩;have n_ := Z129;clear HO_5 HB;obtain ⟨HO_5,HO243,HB⟩ := n_;(try clear hb);(try clear hb2);(try clear hk);(try clear hi);(try clear hoq3)) | ((with_reducible refine gate_dst (N := 32) rfl ?_);refine Kd.R_lit k27 _ 27 ?hg (N := 32) ?hd (xs := ([] : List (S27))) (inner := []) (ok := fun _ => True) (okp := fun _ => True) ?hr ?hp (fun _ hk => hk) trivial (Below.refl _ _) (Nat.le_refl _) Z524 ?_;(case hd => rfl);(case hg => rfl);(case hr => exact Z295);(case hp => exact Z308);intro vq4 wq5 hoq6 hb hg_ hnew_;clear hg_ hnew_;(first | rw [← Ny244.out] at hoq6 | (simp only [Int.reduceToNat] at hoq6;rw [← Ny244.out] at hoq6));have n_ := Z84;clear HO_5 HO243 HB;obtain ⟨HO_5,HO243,HO246,HB⟩ := n_;clear hb hoq6)))
    go_ret
    exact ⟨_,Z265,by (with_reducible repeat (first | apply Kd.R_alloc | apply Kd.R_drewN | apply Kd.R_drew));exact Kd.R_mono HO246.out (fun _ hk => trivial),Z574⟩
   subst c8
   rw [if_pos rfl] at H
   have H' := Aside0.mk H
   clear H
   have p239 : 0 ≤ (x6_1 : Int) := of_decide_eq_true Z293
   have q239 : x6_1 < (l0.length : Int) := of_decide_eq_true Z293
   obtain ⟨ad239,A239_0,c239_0,e239,hx239_0,hl239_0,hi239_0⟩ := at_L3 HR0.out x6_1 p239 q239
   cases e239
   replace hx239_0 := (HB.out.cell (World.block_lt_of_cell? w _ hx239_0)).trans hx239_0
   have HR239_0 := Aside0.mk hi239_0
   have HC239_0 := Aside0.mk hl239_0
   clear hi239_0 hl239_0
   replace p239 := eq_true p239
   replace q239 := eq_true q239
   go_wp2_with (first | (go_at_call 34;(with_reducible refine (spec_Prefix.calls k1 _ _ (rd_L3 l0 x6_1) t240 true _ ?side1 ?side2 A7.out).mono ?_);(case side1 => exact Z224);(case side2 => exact HC239_0.out);rintro e w9 ⟨v242,rfl,ho0,hb⟩;have n_ := Z130;clear HO_5 HB;obtain ⟨HO_5,HO243,HB⟩ := n_;(try clear hb);(try clear hb2);(try clear hk);(try clear hi);(try clear ho0)))
   repeat (go_quiet (first | (go_at_call 34;(with_reducible refine (spec_Prefix.calls k1 _ _ (rd_L3 l0 x6_1) t240 true _ ?side1 ?side2 A7.out).mono ?_);(case side1 => exact Z224);(case side2 => exact HC239_0.out);rintro e w9 ⟨v242,rfl,ho0,hb⟩;have n_ := Z130;clear HO_5 HB;obtain ⟨HO_5,HO243,HB⟩ := n_;(try clear hb);(try clear hb2);(try clear hk);(try clear hi);(try clear ho0)));try go_wp2_with (first | (go_at_call 34;(with_reducible refine (spec_Prefix.calls k1 _ _ (rd_L3 l0 x6_1) t240 true _ ?side1 ?side2 A7.out).mono ?_);(case side1 => exact Z224);(case side2 => exact HC239_0.out);rintro e w9 ⟨v242,rfl,ho0,hb⟩;have n_ := Z130;clear HO_5 HB;obtain ⟨HO_5,HO243,HB⟩ := n_;(try clear hb);(try clear hb2);(try clear hk);(try clear hi);(try clear ho0))))
   go_loopg [5,9] k1 (fun kq v5 v9 w' => ∃ (x5_2 : List (S27)) (x9_2 : Int),v9 = .int .i64 x9_2 ∧ Aside0 (spec_CandsOf.l1 kq l0 a1 x5_2 x6_1 t240 x9_2 = some r) ∧ Aside0 (kq ≤ k1) ∧ Aside0 (Kd.R k27 27 w' w.heap.size (fun _ => True) v5 x5_2) ∧ Aside0 (Kd.R k25 25 w' w.heap.size (fun _ => True) v242 t240) ∧ Aside0 (Below w.heap.size w w'))
   case atStart => exact ⟨(x5_1),(0),Z294,H',⟨Nat.le_refl _⟩,⟨Z485⟩,⟨Z483⟩,⟨Z574⟩⟩
   case round =>
    clear H'
    try clear c2
    try clear p2
    try clear q2
    try clear hx2
    try clear c5
    try clear c5b0
    try clear c6
    try clear c6b0
    try clear c8
    try clear hx239_0
    try clear p2
    try clear p239
    try clear q239
    obtain ⟨x5_2,x9_2,rfl,HA,HK2,HO_5,HO_7,HB⟩ := hrel
    cases gk with
    | zero => exact absurd HA.out (by simp [spec_CandsOf.l1])
    | succ k2 =>
     have H := HA.out
     clear HA
     simp only [spec_CandsOf.l1] at H
     by_cases c10 : (wrap64 (x9_2 + 1)) < (t240.length : Int)
     rotate_left
     ·rw [if_neg c10] at H
      have c10b0 : decide ((wrap64 (x9_2 + 1)) < (t240.length : Int)) = false := decide_eq_false c10
      clear c10
      have H' := Aside0.mk H
      clear H
      obtain ⟨Ao32,co32,eo32⟩ := Kd.R_slice HO_7.out
      subst eo32
      go_wp2
      repeat (go_quiet (fail);try go_wp2)
      go_roundg k2
      case measure => have := HK1.out;have := HK2.out;omega
      case rel => exact ⟨(x5_2),(wrap64 (x6_1 + 1)),Z294,H',⟨by have := HK1.out;have := HK2.out;omega⟩,⟨Z485⟩,⟨Z574⟩⟩
     rw [if_pos c10] at H
     have c10b0 : decide ((wrap64 (x9_2 + 1)) < (t240.length : Int)) = true := decide_eq_true c10
     clear c10
     obtain ⟨ji11,hji11⟩ : ∃ j_ : Int,(wrap64 ((t240.length : Int) - 1)) = j_ := ⟨_,rfl⟩
     replace H : (if 0 ≤ (ji11) then (if (ji11) < (t240.length : Int) then (if 0 ≤ x9_2 then (if x9_2 < (t240.length : Int) then ((spec_SubInt.f ((rd_T25 t240 (ji11)).f0) ((rd_T25 t240 x9_2).f0)).bind fun bt250 => ((spec_SubInt.f ((rd_T25 t240 (ji11)).f1) ((rd_T25 t240 x9_2).f1)).bind fun bt253 => (if bt250.2 = true then (spec_CandsOf.j2 k2 l0 a1 x5_2 x6_1 t240 x9_2 bt250.1 bt253.1 (!bt253.2)) else (spec_CandsOf.j2 k2 l0 a1 x5_2 x6_1 t240 x9_2 bt250.1 bt253.1 true)))) else (none)) else (none)) else (none)) else (none)) = some r := by first | (rw [hji11] at H;exact H) | (simp only [hji11] at H ⊢;exact H)
     have hji11w : (IntKind.i64.wrap ((t240.length : Int) - 1)) = ji11 := (i64_w _).trans hji11
     obtain ⟨c12,H⟩ := ifp H
     have c12b0 : decide (0 ≤ (ji11)) = true := decide_eq_true c12
     clear c12
     obtain ⟨c13,H⟩ := ifp H
     have c13b0 : decide ((ji11) < (t240.length : Int)) = true := decide_eq_true c13
     clear c13
     obtain ⟨c14,H⟩ := ifp H
     have c14b0 : decide (0 ≤ x9_2) = true := decide_eq_true c14
     clear c14
     obtain ⟨c15,H⟩ := ifp H
     have c15b0 : decide (x9_2 < (t240.length : Int)) = true := decide_eq_true c15
     clear c15
     obtain ⟨⟨t250,t251⟩,A160,H⟩ := Option.bind_eq_some_iff.mp H
     try dsimp only at H
     have A16 := Aside0.mk A160
     clear A160
     obtain ⟨⟨t253,t254⟩,A170,H⟩ := Option.bind_eq_some_iff.mp H
     try dsimp only at H
     have A17 := Aside0.mk A170
     clear A170
     have HC18 := Aside0.mk H
     clear H
     obtain ⟨Ao19,co19,eo19⟩ := Kd.R_slice HO_7.out
     subst eo19
     have p247 : 0 ≤ ((ji11) : Int) := of_decide_eq_true Z293
     have q247 : (ji11) < (t240.length : Int) := of_decide_eq_true Z293
     obtain ⟨ad247,e247,hx247_0,hx247_1⟩ := at_T25 (Kd.R_reads' HO_7.out).2.2 (ji11) p247 q247
     cases e247
     replace p247 := eq_true p247
     replace q247 := eq_true q247
     go_upto_region 14 with (first | ((with_reducible refine gate_dst (N := 10) rfl ?_);refine bE 10 #[.int .i64 0,.int .i64 0] 25 (h := ?_);intro gb248 hg w20 hbox hb;have n_ := Z79;clear HO_5 HO_7 HB;obtain ⟨HO_5,HO_7,HB,BK248,GW248,GE248⟩ := n_;clear hb hbox hg;obtain ⟨hcz21_0,hcz21_1,hfz21_0,hfz21_1⟩ := cells2 BK248.out;have p249 : 0 ≤ (x9_2 : Int) := of_decide_eq_true Z293;have q249 : x9_2 < (t240.length : Int) := of_decide_eq_true Z293;obtain ⟨ad249,e249,hx249_0,hx249_1⟩ := at_T25 (Kd.R_reads' HO_7.out).2.2 x9_2 p249 q249;obtain rfl : ad247 = ad249 := (by injection e249);have hn249_0 : ad247.block ≠ gb248 := Kd.own_blk (Kd.R_away HO_7.out (fun _ hk => hk.2));have hn249_1 : ad247.block ≠ gb248 := Kd.own_blk (Kd.R_away HO_7.out (fun _ hk => hk.2));replace hx249_0 := (cell_far (p := ⟨gb248,0,none⟩) Z256 (.int .i64 ((rd_T25 t240 (ji11)).f0))).trans hx249_0;replace hx249_1 := (cell_far (p := ⟨gb248,0,none⟩) Z256 (.int .i64 ((rd_T25 t240 (ji11)).f0))).trans hx249_1;replace hx249_0 := (cell_far (p := ⟨gb248,1,none⟩) Z255 (.int .i64 ((rd_T25 t240 (ji11)).f1))).trans hx249_0;replace hx249_1 := (cell_far (p := ⟨gb248,1,none⟩) Z255 (.int .i64 ((rd_T25 t240 (ji11)).f1))).trans hx249_1;(try have hy249_0 := fun (n_ : Nat) => (show ((((w20.drewN n_).setCell ⟨gb248,0,none⟩ (.int .i64 ((rd_T25 t240 (ji11)).f0))).setCell ⟨gb248,1,none⟩ (.int .i64 ((rd_T25 t240 (ji11)).f1)))).cell? _ = some _ from hx249_0));(try have hy249_1 := fun (n_ : Nat) => (show ((((w20.drewN n_).setCell ⟨gb248,0,none⟩ (.int .i64 ((rd_T25 t240 (ji11)).f0))).setCell ⟨gb248,1,none⟩ (.int .i64 ((rd_T25 t240 (ji11)).f1)))).cell? _ = some _ from hx249_1));clear hn249_0;clear hn249_1;replace p249 := eq_true p249;replace q249 := eq_true q249) | (go_at_call 35;(with_reducible refine (spec_SubInt.calls ((rd_T25 t240 (ji11)).f0) ((rd_T25 t240 x9_2).f0) t250 t251 _ A16.out).mono ?_);rintro e w' ⟨rfl,⟨nd,rfl⟩⟩;(try first | exact ⟨rfl,_,dD⟩ | exact ⟨rfl,_,dT⟩);have p252 : 0 ≤ (x9_2 : Int) := of_decide_eq_true Z293;have q252 : x9_2 < (t240.length : Int) := of_decide_eq_true Z293;obtain ⟨ad252,e252,hx252_0,hx252_1⟩ := at_T25 (Kd.R_reads' HO_7.out).2.2 x9_2 p252 q252;obtain rfl : ad247 = ad252 := (by injection e252);have hn252_0 : ad247.block ≠ gb248 := Kd.own_blk (Kd.R_away HO_7.out (fun _ hk => hk.2));have hn252_1 : ad247.block ≠ gb248 := Kd.own_blk (Kd.R_away HO_7.out (fun _ hk => hk.2));replace hx252_0 := (cell_far (p := ⟨gb248,0,none⟩) Z254 (.int .i64 ((rd_T25 t240 (ji11)).f0))).trans hx252_0;replace hx252_1 := (cell_far (p := ⟨gb248,0,none⟩) Z254 (.int .i64 ((rd_T25 t240 (ji11)).f0))).trans hx252_1;replace hx252_0 := (cell_far (p := ⟨gb248,1,none⟩) Z253 (.int .i64 ((rd_T25 t240 (ji11)).f1))).trans hx252_0;replace hx252_1 := (cell_far (p := ⟨gb248,1,none⟩) Z253 (.int .i64 ((rd_T25 t240 (ji11)).f1))).trans hx252_1;(try have hy252_0 := fun (n_ : Nat) => (show ((((w20.drewN n_).setCell ⟨gb248,0,none⟩ (.int .i64 ((rd_T25 t240 (ji11)).f0))).setCell ⟨gb248,1,none⟩ (.int .i64 ((rd_T25 t240 (ji11)).f1)))).cell? _ = some _ from hx252_0));(try have hy252_1 := fun (n_ : Nat) => (show ((((w20.drewN n_).setCell ⟨gb248,0,none⟩ (.int .i64 ((rd_T25 t240 (ji11)).f0))).setCell ⟨gb248,1,none⟩ (.int .i64 ((rd_T25 t240 (ji11)).f1)))).cell? _ = some _ from hx252_1));clear hn252_0;clear hn252_1;replace p252 := eq_true p252;replace q252 := eq_true q252) | (go_at_call 35;(with_reducible refine (spec_SubInt.calls ((rd_T25 t240 (ji11)).f1) ((rd_T25 t240 x9_2).f1) t253 t254 _ A17.out).mono ?_);rintro e w' ⟨rfl,⟨nd,rfl⟩⟩;(try first | exact ⟨rfl,_,dD⟩ | exact ⟨rfl,_,dT⟩)))
     repeat (go_quiet (first | ((with_reducible refine gate_dst (N := 10) rfl ?_);refine bE 10 #[.int .i64 0,.int .i64 0] 25 (h := ?_);intro gb248 hg w20 hbox hb;have n_ := Z79;clear HO_5 HO_7 HB;obtain ⟨HO_5,HO_7,HB,BK248,GW248,GE248⟩ := n_;clear hb hbox hg;obtain ⟨hcz21_0,hcz21_1,hfz21_0,hfz21_1⟩ := cells2 BK248.out;have p249 : 0 ≤ (x9_2 : Int) := of_decide_eq_true Z293;have q249 : x9_2 < (t240.length : Int) := of_decide_eq_true Z293;obtain ⟨ad249,e249,hx249_0,hx249_1⟩ := at_T25 (Kd.R_reads' HO_7.out).2.2 x9_2 p249 q249;obtain rfl : ad247 = ad249 := (by injection e249);have hn249_0 : ad247.block ≠ gb248 := Kd.own_blk (Kd.R_away HO_7.out (fun _ hk => hk.2));have hn249_1 : ad247.block ≠ gb248 := Kd.own_blk (Kd.R_away HO_7.out (fun _ hk => hk.2));replace hx249_0 := (cell_far (p := ⟨gb248,0,none⟩) Z256 (.int .i64 ((rd_T25 t240 (ji11)).f0))).trans hx249_0;replace hx249_1 := (cell_far (p := ⟨gb248,0,none⟩) Z256 (.int .i64 ((rd_T25 t240 (ji11)).f0))).trans hx249_1;replace hx249_0 := (cell_far (p := ⟨gb248,1,none⟩) Z255 (.int .i64 ((rd_T25 t240 (ji11)).f1))).trans hx249_0;replace hx249_1 := (cell_far (p := ⟨gb248,1,none⟩) Z255 (.int .i64 ((rd_T25 t240 (ji11)).f1))).trans hx249_1;(try have hy249_0 := fun (n_ : Nat) => (show ((((w20.drewN n_).setCell ⟨gb248,0,none⟩ (.int .i64 ((rd_T25 t240 (ji11)).f0))).setCell ⟨gb248,1,none⟩ (.int .i64 ((rd_T25 t240 (ji11)).f1)))).cell? _ = some _ from hx249_0));(try have hy249_1 := fun (n_ : Nat) => (show ((((w20.drewN n_).setCell ⟨gb248,0,none⟩ (.int .i64 ((rd_T25 t240 (ji11)).f0))).setCell ⟨gb248,1,none⟩ (.int .i64 ((rd_T25 t240 (ji11)).f1)))).cell? _ = some _ from hx249_1));clear hn249_0;clear hn249_1;replace p249 := eq_true p249;replace q249 := eq_true q249) | (go_at_call 35;(with_reducible refine (spec_SubInt.calls ((rd_T25 t240 (ji11)).f0) ((rd_T25 t240 x9_2).f0) t250 t251 _ A16.out).mono ?_);rintro e w' ⟨rfl,⟨nd,rfl⟩⟩;(try first | exact ⟨rfl,_,dD⟩ | exact ⟨rfl,_,dT⟩);have p252 : 0 ≤ (x9_2 : Int) := of_decide_eq_true Z293;have q252 : x9_2 < (t240.length : Int) := of_decide_eq_true Z293;obtain ⟨ad252,e252,hx252_0,hx252_1⟩ := at_T25 (Kd.R_reads' HO_7.out).2.2 x9_2 p252 q252;obtain rfl : ad247 = ad252 := (by injection e252);have hn252_0 : ad247.block ≠ gb248 := Kd.own_blk (Kd.R_away HO_7.out (fun _ hk => hk.2));have hn252_1 : ad247.block ≠ gb248 := Kd.own_blk (Kd.R_away HO_7.out (fun _ hk => hk.2));replace hx252_0 := (cell_far (p := ⟨gb248,0,none⟩) Z254 (.int .i64 ((rd_T25 t240 (ji11)).f0))).trans hx252_0;replace hx252_1 := (cell_far (p := ⟨gb248,0,none⟩) Z254 (.int .i64 ((rd_T25 t240 (ji11)).f0))).trans hx252_1;replace hx252_0 := (cell_far (p := ⟨gb248,1,none⟩) Z253 (.int .i64 ((rd_T25 t240 (ji11)).f1))).trans hx252_0;replace hx252_1 := (cell_far (p := ⟨gb248,1,none⟩) Z253 (.int .i64 ((rd_T25 t240 (ji11)).f1))).trans hx252_1;(try have hy252_0 := fun (n_ : Nat) => (show ((((w20.drewN n_).setCell ⟨gb248,0,none⟩ (.int .i64 ((rd_T25 t240 (ji11)).f0))).setCell ⟨gb248,1,none⟩ (.int .i64 ((rd_T25 t240 (ji11)).f1)))).cell? _ = some _ from hx252_0));(try have hy252_1 := fun (n_ : Nat) => (show ((((w20.drewN n_).setCell ⟨gb248,0,none⟩ (.int .i64 ((rd_T25 t240 (ji11)).f0))).setCell ⟨gb248,1,none⟩ (.int .i64 ((rd_T25 t240 (ji11)).f1)))).cell? _ = some _ from hx252_1));clear hn252_0;clear hn252_1;replace p252 := eq_true p252;replace q252 := eq_true q252) | (go_at_call 35;(with_reducible refine (spec_SubInt.calls ((rd_T25 t240 (ji11)).f1) ((rd_T25 t240 x9_2).f1) t253 t254 _ A17.out).mono ?_);rintro e w' ⟨rfl,⟨nd,rfl⟩⟩;(try first | exact ⟨rfl,_,dD⟩ | exact ⟨rfl,_,dT⟩)));go_upto_region 14 with (first | ((with_reducible refine gate_dst (N := 10) rfl ?_);refine bE 10 #[.int .i64 0,.int .i64 0] 25 (h := ?_);intro gb248 hg w20 hbox hb;have n_ := Z79;clear HO_5 HO_7 HB;obtain ⟨HO_5,HO_7,HB,BK248,GW248,GE248⟩ := n_;clear hb hbox hg;obtain ⟨hcz21_0,hcz21_1,hfz21_0,hfz21_1⟩ := cells2 BK248.out;have p249 : 0 ≤ (x9_2 : Int) := of_decide_eq_true Z293;have q249 : x9_2 < (t240.length : Int) := of_decide_eq_true Z293;obtain ⟨ad249,e249,hx249_0,hx249_1⟩ := at_T25 (Kd.R_reads' HO_7.out).2.2 x9_2 p249 q249;obtain rfl : ad247 = ad249 := (by injection e249);have hn249_0 : ad247.block ≠ gb248 := Kd.own_blk (Kd.R_away HO_7.out (fun _ hk => hk.2));have hn249_1 : ad247.block ≠ gb248 := Kd.own_blk (Kd.R_away HO_7.out (fun _ hk => hk.2));replace hx249_0 := (cell_far (p := ⟨gb248,0,none⟩) Z256 (.int .i64 ((rd_T25 t240 (ji11)).f0))).trans hx249_0;replace hx249_1 := (cell_far (p := ⟨gb248,0,none⟩) Z256 (.int .i64 ((rd_T25 t240 (ji11)).f0))).trans hx249_1;replace hx249_0 := (cell_far (p := ⟨gb248,1,none⟩) Z255 (.int .i64 ((rd_T25 t240 (ji11)).f1))).trans hx249_0;replace hx249_1 := (cell_far (p := ⟨gb248,1,none⟩) Z255 (.int .i64 ((rd_T25 t240 (ji11)).f1))).trans hx249_1;(try have hy249_0 := fun (n_ : Nat) => (show ((((w20.drewN n_).setCell ⟨gb248,0,none⟩ (.int .i64 ((rd_T25 t240 (ji11)).f0))).setCell ⟨gb248,1,none⟩ (.int .i64 ((rd_T25 t240 (ji11)).f1)))).cell? _ = some _ from hx249_0));(try have hy249_1 := fun (n_ : Nat) => (show ((((w20.drewN n_).setCell ⟨gb248,0,none⟩ (.int .i64 ((rd_T25 t240 (ji11)).f0))).setCell ⟨gb248,1,none⟩ (.int .i64 ((rd_T25 t240 (ji11)).f1)))).cell? _ = some _ from hx249_1));clear hn249_0;clear hn249_1;replace p249 := eq_true p249;replace q249 := eq_true q249) | (go_at_call 35;(with_reducible refine (spec_SubInt.calls ((rd_T25 t240 (ji11)).f0) ((rd_T25 t240 x9_2).f0) t250 t251 _ A16.out).mono ?_);rintro e w' ⟨rfl,⟨nd,rfl⟩⟩;(try first | exact ⟨rfl,_,dD⟩ | exact ⟨rfl,_,dT⟩);have p252 : 0 ≤ (x9_2 : Int) := of_decide_eq_true Z293;have q252 : x9_2 < (t240.length : Int) := of_decide_eq_true Z293;obtain ⟨ad252,e252,hx252_0,hx252_1⟩ := at_T25 (Kd.R_reads' HO_7.out).2.2 x9_2 p252 q252;obtain rfl : ad247 = ad252 := (by injection e252);have hn252_0 : ad247.block ≠ gb248 := Kd.own_blk (Kd.R_away HO_7.out (fun _ hk => hk.2));have hn252_1 : ad247.block ≠ gb248 := Kd.own_blk (Kd.R_away HO_7.out (fun _ hk => hk.2));replace hx252_0 := (cell_far (p := ⟨gb248,0,none⟩) Z254 (.int .i64 ((rd_T25 t240 (ji11)).f0))).trans hx252_0;replace hx252_1 := (cell_far (p := ⟨gb248,0,none⟩) Z254 (.int .i64 ((rd_T25 t240 (ji11)).f0))).trans hx252_1;replace hx252_0 := (cell_far (p := ⟨gb248,1,none⟩) Z253 (.int .i64 ((rd_T25 t240 (ji11)).f1))).trans hx252_0;replace hx252_1 := (cell_far (p := ⟨gb248,1,none⟩) Z253 (.int .i64 ((rd_T25 t240 (ji11)).f1))).trans hx252_1;(try have hy252_0 := fun (n_ : Nat) => (show ((((w20.drewN n_).setCell ⟨gb248,0,none⟩ (.int .i64 ((rd_T25 t240 (ji11)).f0))).setCell ⟨gb248,1,none⟩ (.int .i64 ((rd_T25 t240 (ji11)).f1)))).cell? _ = some _ from hx252_0));(try have hy252_1 := fun (n_ : Nat) => (show ((((w20.drewN n_).setCell ⟨gb248,0,none⟩ (.int .i64 ((rd_T25 t240 (ji11)).f0))).setCell ⟨gb248,1,none⟩ (.int .i64 ((rd_T25 t240 (ji11)).f1)))).cell? _ = some _ from hx252_1));clear hn252_0;clear hn252_1;replace p252 := eq_true p252;replace q252 := eq_true q252) | (go_at_call 35;(with_reducible refine (spec_SubInt.calls ((rd_T25 t240 (ji11)).f1) ((rd_T25 t240 x9_2).f1) t253 t254 _ A17.out).mono ?_);rintro e w' ⟨rfl,⟨nd,rfl⟩⟩;(try first | exact ⟨rfl,_,dD⟩ | exact ⟨rfl,_,dT⟩))))
     (try simp only [Act.put,List.setIfInBounds_toArray,List.set_cons_zero,List.set_cons_succ])
     go_cut [73] (fun v73 wc => ∃ (kq : Nat) (x73_17 : Bool),v73 = .bool x73_17 ∧ Aside0 (spec_CandsOf.j2 kq l0 a1 x5_2 x6_1 t240 x9_2 t250 t253 x73_17 = some r) ∧ Aside0 (kq ≤ k2) ∧ Aside0 (Kd.R k27 27 wc w.heap.size (fun _ => True) u5 x5_2) ∧ Aside0 (Kd.R k25 25 wc w.heap.size (fun k_ => k_ ≠ gb248) (.slice (some ad247) t240.length co19) t240) ∧ Aside0 (wc.heap[gb248]? = some (.cells #[.int .i64 ((rd_T25 t240 (ji11)).f0),.int .i64 ((rd_T25 t240 (ji11)).f1)] 25 (0,0))) ∧ Aside0 (Below w.heap.size w wc))
     case first =>
      have H := HC18.out
      clear HC18
      by_cases c22 : t251 = true
      ·subst c22
       rw [if_pos rfl] at H
       have H' := Aside0.mk H
       clear H
       go_wp2
       repeat (go_quiet (fail);try go_wp2)
       go_meet
       case rel => exact ⟨_,(!t254),Z294,H',⟨Z270⟩,⟨Z142⟩,⟨Z141⟩,⟨Z197⟩,⟨Z406⟩⟩
      replace c22 := Bool.eq_false_iff.mpr c22
      subst c22
      rw [if_neg Bool.false_ne_true] at H
      have H' := Aside0.mk H
      clear H
      go_wp2
      repeat (go_quiet (fail);try go_wp2)
      go_meet
      case rel => exact ⟨_,(true),Z294,H',⟨Z270⟩,⟨Z142⟩,⟨Z141⟩,⟨Z197⟩,⟨Z406⟩⟩
     case rest =>
      clear HC18
      try clear c1
      try clear c2
      try clear p2
      try clear q2
      try clear hx2
      try clear c5
      try clear c5b0
      try clear c6
      try clear c6b0
      try clear p6
      try clear c8
      try clear c10
      try clear c10b0
      try clear c12
      try clear c12b0
      try clear c13
      try clear c13b0
      try clear c14
      try clear c14b0
      try clear c15
      try clear c15b0
      try clear c20
      try clear c22
      try clear hcz21_0
      try clear hcz21_1
      try clear hfz21_0
      try clear hfz21_1
      try clear hx239_0
      try clear hx247_0
      try clear hx247_1
      try clear hx249_0
      try clear hx249_1
      try clear hx252_0
      try clear hx252_1
      try clear p2
      try clear p239
      try clear p247
      try clear p249
      try clear p252
      try clear q2
      try clear q239
      try clear q247
      try clear q249
      try clear q252
      obtain ⟨kq,x73_17,rfl,HA,HJ17,HO_5,HO_7,BK248,HB⟩ := hcut
      cases kq with
      | zero => exact absurd HA.out (by simp [spec_CandsOf.j2])
      | succ kj17 =>
       have H := HA.out
       clear HA
       simp only [spec_CandsOf.j2] at H
       by_cases c23 : x73_17 = true
       ·subst c23
        rw [if_pos rfl] at H
        obtain ⟨y255,hy255⟩ : ∃ y_ : List (S27),y_ = (([] : List (S27))) := ⟨_,rfl⟩
        replace H : (some y255) = some r := by first | (rw [hy255];with_reducible exact H) | (have H2_ := (Option.bind_some _ _).symm.trans H;rw [hy255];with_reducible exact H2_) | (have H2_ := (Option.bind_some _ _).symm.trans H;with_reducible exact H2_) | with_reducible exact H | (rw [hy255];exact H) | exact H
        have Ny255 := Aside0.mk hy255
        clear hy255
        obtain rfl := Option.some.inj H
        go_wp2_with (first | ((with_reducible refine gate_dst (N := 74) rfl ?_);refine Kd.R_lit k27 _ 27 ?hg (N := 74) ?hd (xs := ([] : List (S27))) (inner := []) (ok := fun _ => True) (okp := fun _ => True) ?hr ?hp (fun _ hk => hk) trivial (Below.refl _ _) (Nat.le_refl _) Z524 ?_;(case hd => rfl);(case hg => rfl);(case hr => exact Z295);(case hp => exact Z308);intro vq1 wq2 hoq3 hb hg_ hnew_;clear hg_ hnew_;(first | rw [← Ny255.out] at hoq3 | (simp only [Int.reduceToNat] at hoq3;rw [← Ny255.out] at hoq3));have n_ := Z73;clear HO_5 HO_7 BK248 HB;obtain ⟨HO_5,HO_7,HO257,BK248,HB⟩ := n_;clear hb hoq3))
        repeat (go_quiet (first | ((with_reducible refine gate_dst (N := 74) rfl ?_);refine Kd.R_lit k27 _ 27 ?hg (N := 74) ?hd (xs := ([] : List (S27))) (inner := []) (ok := fun _ => True) (okp := fun _ => True) ?hr ?hp (fun _ hk => hk) trivial (Below.refl _ _) (Nat.le_refl _) Z524 ?_;(case hd => rfl);(case hg => rfl);(case hr => exact Z295);(case hp => exact Z308);intro vq1 wq2 hoq3 hb hg_ hnew_;clear hg_ hnew_;(first | rw [← Ny255.out] at hoq3 | (simp only [Int.reduceToNat] at hoq3;rw [← Ny255.out] at hoq3));have n_ := Z73;clear HO_5 HO_7 BK248 HB;obtain ⟨HO_5,HO_7,HO257,BK248,HB⟩ := n_;clear hb hoq3));try go_wp2_with (first | ((with_reducible refine gate_dst (N := 74) rfl ?_);refine Kd.R_lit k27 _ 27 ?hg (N := 74) ?hd (xs := ([] : List (S27))) (inner := []) (ok := fun _ => True) (okp := fun _ => True) ?hr ?hp (fun _ hk => hk) trivial (Below.refl _ _) (Nat.le_refl _) Z524 ?_;(case hd => rfl);(case hg => rfl);(case hr => exact Z295);(case hp => exact Z308);intro vq1 wq2 hoq3 hb hg_ hnew_;clear hg_ hnew_;(first | rw [← Ny255.out] at hoq3 | (simp only [Int.reduceToNat] at hoq3;rw [← Ny255.out] at hoq3));have n_ := Z73;clear HO_5 HO_7 BK248 HB;obtain ⟨HO_5,HO_7,HO257,BK248,HB⟩ := n_;clear hb hoq3)))
        go_ret
        exact ⟨_,by first | rfl | (simp [errW_none,errW_some] <;> rfl) | (simp only [← hji11];first | rfl | (simp [errW_none,errW_some] <;> rfl)) | (simp [*,errW_none,errW_some] <;> rfl),by (with_reducible repeat (first | apply Kd.R_alloc | apply Kd.R_drewN | apply Kd.R_drew));exact Kd.R_mono HO257.out (fun _ hk => trivial),Z406⟩
       replace c23 := Bool.eq_false_iff.mpr c23
       subst c23
       rw [if_neg Bool.false_ne_true] at H
       obtain ⟨c26,H⟩ := ifp H
       have c26b0 : decide (0 ≤ x9_2) = true := decide_eq_true c26
       clear c26
       obtain ⟨c27,H⟩ := ifp H
       have c27b0 : decide (x9_2 < (t240.length : Int)) = true := decide_eq_true c27
       clear c27
       by_cases c28 : ((rd_T25 t240 x9_2).f0) ≥ a1
       rotate_left
       ·rw [if_neg c28] at H
        have c28b0 : decide (a1 ≤ ((rd_T25 t240 x9_2).f0)) = false := decide_eq_false c28
        clear c28
        have H' := Aside0.mk H
        clear H
        have p258 : 0 ≤ (x9_2 : Int) := of_decide_eq_true Z293
        have q258 : x9_2 < (t240.length : Int) := of_decide_eq_true Z293
        obtain ⟨ad258,e258,hx258_0,hx258_1⟩ := at_T25 (Kd.R_reads' HO_7.out).2.2 x9_2 p258 q258
        obtain rfl : ad247 = ad258 := (by injection e258)
        replace p258 := eq_true p258
        replace q258 := eq_true q258
        go_wp2
        repeat (go_quiet (fail);try go_wp2)
        go_roundg kj17
        case measure => have := HK1.out;have := HK2.out;have := HJ17.out;omega
        case rel => exact ⟨(x5_2),(wrap64 (x9_2 + 1)),Z294,H',⟨Z272⟩,⟨Z485⟩,⟨Z250⟩,⟨Z406⟩⟩
       rw [if_pos c28] at H
       have c28b0 : decide (a1 ≤ ((rd_T25 t240 x9_2).f0)) = true := decide_eq_true c28
       clear c28
       by_cases c29 : t250 ≥ a1
       rotate_left
       ·rw [if_neg c29] at H
        have c29b0 : decide (a1 ≤ t250) = false := decide_eq_false c29
        clear c29
        have H' := Aside0.mk H
        clear H
        have p258 : 0 ≤ (x9_2 : Int) := of_decide_eq_true Z293
        have q258 : x9_2 < (t240.length : Int) := of_decide_eq_true Z293
        obtain ⟨ad258,e258,hx258_0,hx258_1⟩ := at_T25 (Kd.R_reads' HO_7.out).2.2 x9_2 p258 q258
        obtain rfl : ad247 = ad258 := (by injection e258)
        replace p258 := eq_true p258
        replace q258 := eq_true q258
        go_wp2
        repeat (go_quiet (fail);try go_wp2)
        go_roundg kj17
        case measure => have := HK1.out;have := HK2.out;have := HJ17.out;omega
        case rel => exact ⟨(x5_2),(wrap64 (x9_2 + 1)),Z294,H',⟨Z272⟩,⟨Z485⟩,⟨Z250⟩,⟨Z406⟩⟩
       rw [if_pos c29] at H
       have c29b0 : decide (a1 ≤ t250) = true := decide_eq_true c29
       clear c29
       obtain ⟨c30,H⟩ := ifp H
       have LMc30 := Aside0.mk c30
       clear c30
       obtain ⟨y260,hy260⟩ : ∃ y_ : List (S27),y_ = (x5_2 ++ [(⟨x6_1,x9_2,(⟨(rd_T25 t240 x9_2).f0,(rd_T25 t240 x9_2).f1⟩ : S25),(⟨t250,t253⟩ : S25)⟩ : S27)]) := ⟨_,rfl⟩
       replace H : (spec_CandsOf.l1 kj17 l0 a1 y260 x6_1 t240 (wrap64 (x9_2 + 1))) = some r := by first | (rw [hy260];with_reducible exact H) | (have H2_ := (Option.bind_some _ _).symm.trans H;rw [hy260];with_reducible exact H2_) | (have H2_ := (Option.bind_some _ _).symm.trans H;with_reducible exact H2_) | with_reducible exact H | (rw [hy260];exact H) | exact H
       have Ny260 := Aside0.mk hy260
       clear hy260
       have H' := Aside0.mk H
       clear H
       have p258 : 0 ≤ (x9_2 : Int) := of_decide_eq_true Z293
       have q258 : x9_2 < (t240.length : Int) := of_decide_eq_true Z293
       obtain ⟨ad258,e258,hx258_0,hx258_1⟩ := at_T25 (Kd.R_reads' HO_7.out).2.2 x9_2 p258 q258
       obtain rfl : ad247 = ad258 := (by injection e258)
       replace p258 := eq_true p258
       replace q258 := eq_true q258
       have p259 : 0 ≤ (x9_2 : Int) := of_decide_eq_true Z293
       have q259 : x9_2 < (t240.length : Int) := of_decide_eq_true Z293
       obtain ⟨ad259,e259,hx259_0,hx259_1⟩ := at_T25 (Kd.R_reads' HO_7.out).2.2 x9_2 p259 q259
       obtain rfl : ad247 = ad259 := (by injection e259)
       replace p259 := eq_true p259
       replace q259 := eq_true q259
       go_wp2_with (first | ((with_reducible refine gate_builtin (b := .append) (xs := #[.tmp 87,.tmp 98]) rfl ?_);at_builtin;refine Kd.R_append k27 (w0 := w) w.heap.size rfl (.tmp 87) (.tmp 98) 33 27 (.agg #[(.int .i64 0),(.int .i64 0),(.int .i64 0),(.int .i64 0),(.int .i64 0),(.int .i64 0)]) 48 rfl Try.underlying33 info27 rfl Z522 Z523 u5 x5_2 (⟨x6_1,x9_2,(⟨(rd_T25 t240 x9_2).f0,(rd_T25 t240 x9_2).f1⟩ : S25),(⟨t250,t253⟩ : S25)⟩ : S27) [.int .i64 x6_1,.int .i64 x9_2,.int .i64 ((rd_T25 t240 x9_2).f0),.int .i64 ((rd_T25 t240 x9_2).f1),.int .i64 t250,.int .i64 t253] (fun _ => True) (fun _ => False) rfl rfl ?aP (fun _ hk => hk.elim) ?aF ?aO ?aB ?aS ?aL ?_;(case aP => exact Z251);(case aB => exact Z226);(case aF => exact Z306);(case aO => exact Z258);(case aS => exact Z222);(case aL => have := LMc30.out;omega);intro v261 w31 ho hb hg hat;rw [← Ny260.out] at ho;have n_ := Z126;clear HO_7 BK248 HB HO_5;obtain ⟨HO_7,BK248,HB,HO262⟩ := n_;clear ho hb hg hat))
       repeat (go_quiet (first | ((with_reducible refine gate_builtin (b := .append) (xs := #[.tmp 87,.tmp 98]) rfl ?_);at_builtin;refine Kd.R_append k27 (w0 := w) w.heap.size rfl (.tmp 87) (.tmp 98) 33 27 (.agg #[(.int .i64 0),(.int .i64 0),(.int .i64 0),(.int .i64 0),(.int .i64 0),(.int .i64 0)]) 48 rfl Try.underlying33 info27 rfl Z522 Z523 u5 x5_2 (⟨x6_1,x9_2,(⟨(rd_T25 t240 x9_2).f0,(rd_T25 t240 x9_2).f1⟩ : S25),(⟨t250,t253⟩ : S25)⟩ : S27) [.int .i64 x6_1,.int .i64 x9_2,.int .i64 ((rd_T25 t240 x9_2).f0),.int .i64 ((rd_T25 t240 x9_2).f1),.int .i64 t250,.int .i64 t253] (fun _ => True) (fun _ => False) rfl rfl ?aP (fun _ hk => hk.elim) ?aF ?aO ?aB ?aS ?aL ?_;(case aP => exact Z251);(case aB => exact Z226);(case aF => exact Z306);(case aO => exact Z258);(case aS => exact Z222);(case aL => have := LMc30.out;omega);intro v261 w31 ho hb hg hat;rw [← Ny260.out] at ho;have n_ := Z126;clear HO_7 BK248 HB HO_5;obtain ⟨HO_7,BK248,HB,HO262⟩ := n_;clear ho hb hg hat));try go_wp2_with (first | ((with_reducible refine gate_builtin (b := .append) (xs := #[.tmp 87,.tmp 98]) rfl ?_);at_builtin;refine Kd.R_append k27 (w0 := w) w.heap.size rfl (.tmp 87) (.tmp 98) 33 27 (.agg #[(.int .i64 0),(.int .i64 0),(.int .i64 0),(.int .i64 0),(.int .i64 0),(.int .i64 0)]) 48 rfl Try.underlying33 info27 rfl Z522 Z523 u5 x5_2 (⟨x6_1,x9_2,(⟨(rd_T25 t240 x9_2).f0,(rd_T25 t240 x9_2).f1⟩ : S25),(⟨t250,t253⟩ : S25)⟩ : S27) [.int .i64 x6_1,.int .i64 x9_2,.int .i64 ((rd_T25 t240 x9_2).f0),.int .i64 ((rd_T25 t240 x9_2).f1),.int .i64 t250,.int .i64 t253] (fun _ => True) (fun _ => False) rfl rfl ?aP (fun _ hk => hk.elim) ?aF ?aO ?aB ?aS ?aL ?_;(case aP => exact Z251);(case aB => exact Z226);(case aF => exact Z306);(case aO => exact Z258);(case aS => exact Z222);(case aL => have := LMc30.out;omega);intro v261 w31 ho hb hg hat;rw [← Ny260.out] at ho;have n_ := Z126;clear HO_7 BK248 HB HO_5;obtain ⟨HO_7,BK248,HB,HO262⟩ := n_;clear ho hb hg hat)))
       go_roundg kj17
       case measure => have := HK1.out;have := HK2.out;have := HJ17.out;omega
       case rel => exact ⟨(y260),(wrap64 (x9_2 + 1)),Z294,H',⟨Z272⟩,⟨by (with_reducible repeat (first | apply Kd.R_alloc | apply Kd.R_drewN | apply Kd.R_drew));exact HO262.out⟩,⟨Z250⟩,⟨Z406⟩⟩

end Go.Proofs.Ytlflcgdcegohjaa.QFnBetter
