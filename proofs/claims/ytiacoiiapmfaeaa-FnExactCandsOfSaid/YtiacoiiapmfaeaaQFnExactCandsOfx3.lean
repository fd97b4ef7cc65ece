/- The machine side of FnExactCandsOf: what each Go function that it reaches comes to. Conditions: none. -/
import Derived.Test.YtiacoiiapmfaeaaQFnExactCandsOfx0
import Derived.Test.YtiacoiiapmfaeaaQFnExactCandsOfx2
namespace Go.Proofs.Ytiacoiiapmfaeaa.QFnExactCandsOf
open Go.RowKit Go.Proofs.YtiacoiiapmfaeaaW.PrintWords Go.Proofs.YtiacoiiapmfaeaaW.PrintLast Go.Proofs.YtiacoiiapmfaeaaW.PrintMore
attribute [local go_sem] max2_int min2_int max_two min_two max_three min_three max_four min_four   -- for this text's walks alone
set_option linter.unusedVariables false
set_option linter.unusedSimpArgs false

/-! ### spec_CandsOf: function 28 -/
theorem spec_CandsOf.cells2 {w : World} {g : Nat} {t : TypeId} {a0 a1 : Value} (h : w.heap[g]? = some (.cells #[a0,a1] t (0,0))) : w.cell? ⟨g,0,none⟩ = some a0 ∧ w.cell? ⟨g,1,none⟩ = some a1 ∧ w.frozen? ⟨g,0,none⟩ = false ∧ w.frozen? ⟨g,1,none⟩ = false := ⟨(blk_cell h 0).trans rfl,(blk_cell h 1).trans rfl,blk_frozen h 0,blk_frozen h 1⟩
mutual
def spec_CandsOf.l0 : Nat → List (List (S87)) → Int → List (S91) → Int → Option ((List (S91)))
  | 0,_,_,_,_ => none
  | k + 1,x0,x1,x5,x6 => if x6 < (x0.length : Int) then (if 0 ≤ x6 then ((spec_Prefix.f k (rd_L4 x0 x6)).bind fun bt129 => (if bt129.2 = true then (spec_CandsOf.l1 k x0 x1 x5 x6 bt129.1 0) else (some (([] : List (S91)))))) else (none)) else (some x5)
def spec_CandsOf.l1 : Nat → List (List (S87)) → Int → List (S91) → Int → List (S87) → Int → Option ((List (S91)))
  | 0,_,_,_,_,_,_ => none
  | k + 1,x0,x1,x5,x6,x7,x9 => if (wrap64 (x9 + 1)) < (x7.length : Int) then (if 0 ≤ (wrap64 ((x7.length : Int) - 1)) then (if (wrap64 ((x7.length : Int) - 1)) < (x7.length : Int) then (if 0 ≤ x9 then (if x9 < (x7.length : Int) then ((spec_SubInt.f ((rd_T87 x7 (wrap64 ((x7.length : Int) - 1))).f0) ((rd_T87 x7 x9).f0)).bind fun bt139 => ((spec_SubInt.f ((rd_T87 x7 (wrap64 ((x7.length : Int) - 1))).f1) ((rd_T87 x7 x9).f1)).bind fun bt142 => (if bt139.2 = true then (spec_CandsOf.j2 k x0 x1 x5 x6 x7 x9 bt139.1 bt142.1 (!bt142.2)) else (spec_CandsOf.j2 k x0 x1 x5 x6 x7 x9 bt139.1 bt142.1 true)))) else (none)) else (none)) else (none)) else (none)) else (spec_CandsOf.l0 k x0 x1 x5 (wrap64 (x6 + 1)))
def spec_CandsOf.j2 : Nat → List (List (S87)) → Int → List (S91) → Int → List (S87) → Int → Int → Int → Bool → Option ((List (S91)))
  | 0,_,_,_,_,_,_,_,_,_ => none
  | k + 1,x0,x1,x5,x6,x7,x9,x11,x13,x73 => if x73 = true then (some (([] : List (S91)))) else (if 0 ≤ x9 then (if x9 < (x7.length : Int) then (if ((rd_T87 x7 x9).f0) ≥ x1 then (if x11 ≥ x1 then (if x5.length < 2932031007402 then (spec_CandsOf.l1 k x0 x1 (x5 ++ [(⟨x6,x9,(⟨(rd_T87 x7 x9).f0,(rd_T87 x7 x9).f1⟩ : S87),(⟨x11,x13⟩ : S87)⟩ : S91)]) x6 x7 (wrap64 (x9 + 1))) else (none)) else (spec_CandsOf.l1 k x0 x1 x5 x6 x7 (wrap64 (x9 + 1)))) else (spec_CandsOf.l1 k x0 x1 x5 x6 x7 (wrap64 (x9 + 1)))) else (none)) else (none))
end
def spec_CandsOf.f (k : Nat) (l0 : List (List (S87))) (a1 : Int) : Option ((List (S91))) := spec_CandsOf.l0 k l0 a1 (([] : List (S91))) 0
theorem spec_CandsOf.mono_l : ∀ k,(∀ y0 y1 y2 y3,LeO (spec_CandsOf.l0 k y0 y1 y2 y3) (spec_CandsOf.l0 (k + 1) y0 y1 y2 y3)) ∧ (∀ y0 y1 y2 y3 y4 y5,LeO (spec_CandsOf.l1 k y0 y1 y2 y3 y4 y5) (spec_CandsOf.l1 (k + 1) y0 y1 y2 y3 y4 y5)) ∧ (∀ y0 y1 y2 y3 y4 y5 y6 y7 y8,LeO (spec_CandsOf.j2 k y0 y1 y2 y3 y4 y5 y6 y7 y8) (spec_CandsOf.j2 (k + 1) y0 y1 y2 y3 y4 y5 y6 y7 y8))
  | 0 => ⟨fun _ _ _ _ r h => by simp [spec_CandsOf.l0] at h,fun _ _ _ _ _ _ r h => by simp [spec_CandsOf.l1] at h,fun _ _ _ _ _ _ _ _ _ r h => by simp [spec_CandsOf.j2] at h⟩
  | k + 1 => by
    obtain ⟨ih0,ih1,ih2⟩ := spec_CandsOf.mono_l k
    refine ⟨?_,?_,?_⟩
    · intro y0 y1 y2 y3
      unfold spec_CandsOf.l0
      repeat' first
      | (with_reducible exact ih0 _ _ _ _)
      | (with_reducible exact ih1 _ _ _ _ _ _)
      | (with_reducible exact ih2 _ _ _ _ _ _ _ _ _)
      | (with_reducible exact spec_Prefix.mono _ _)
      | (with_reducible exact LeO.refl _)
      | (with_reducible exact LeO.none _)
      | (with_reducible refine LeO.ite ?_ ?_)
      | (with_reducible refine LeO.bind ?_ (fun _ => ?_))
      | exact ih0 _ _ _ _
      | exact ih1 _ _ _ _ _ _
      | exact ih2 _ _ _ _ _ _ _ _ _
      | exact spec_Prefix.mono _ _
      | exact LeO.none _
      | refine LeO.ite ?_ ?_
      | refine LeO.bind ?_ (fun _ => ?_)
    · intro y0 y1 y2 y3 y4 y5
      unfold spec_CandsOf.l1
      repeat' first
      | (with_reducible exact ih0 _ _ _ _)
      | (with_reducible exact ih1 _ _ _ _ _ _)
      | (with_reducible exact ih2 _ _ _ _ _ _ _ _ _)
      | (with_reducible exact spec_Prefix.mono _ _)
      | (with_reducible exact LeO.refl _)
      | (with_reducible exact LeO.none _)
      | (with_reducible refine LeO.ite ?_ ?_)
      | (with_reducible refine LeO.bind ?_ (fun _ => ?_))
      | exact ih0 _ _ _ _
      | exact ih1 _ _ _ _ _ _
      | exact ih2 _ _ _ _ _ _ _ _ _
      | exact spec_Prefix.mono _ _
      | exact LeO.none _
      | refine LeO.ite ?_ ?_
      | refine LeO.bind ?_ (fun _ => ?_)
    · intro y0 y1 y2 y3 y4 y5 y6 y7 y8
      unfold spec_CandsOf.j2
      repeat' first
      | (with_reducible exact ih0 _ _ _ _)
      | (with_reducible exact ih1 _ _ _ _ _ _)
      | (with_reducible exact ih2 _ _ _ _ _ _ _ _ _)
      | (with_reducible exact spec_Prefix.mono _ _)
      | (with_reducible exact LeO.refl _)
      | (with_reducible exact LeO.none _)
      | (with_reducible refine LeO.ite ?_ ?_)
      | (with_reducible refine LeO.bind ?_ (fun _ => ?_))
      | exact ih0 _ _ _ _
      | exact ih1 _ _ _ _ _ _
      | exact ih2 _ _ _ _ _ _ _ _ _
      | exact spec_Prefix.mono _ _
      | exact LeO.none _
      | refine LeO.ite ?_ ?_
      | refine LeO.bind ?_ (fun _ => ?_)
theorem spec_CandsOf.mono : ∀ a0 a1 k,LeO (spec_CandsOf.f k a0 a1) (spec_CandsOf.f (k + 1) a0 a1) := by
  intro a0 a1 k
  obtain ⟨ih0,ih1,ih2⟩ := spec_CandsOf.mono_l k
  unfold spec_CandsOf.f
  repeat' first
      | (with_reducible exact ih0 _ _ _ _)
      | (with_reducible exact ih1 _ _ _ _ _ _)
      | (with_reducible exact ih2 _ _ _ _ _ _ _ _ _)
      | (with_reducible exact spec_Prefix.mono _ _)
      | (with_reducible exact LeO.refl _)
      | (with_reducible exact LeO.none _)
      | (with_reducible refine LeO.ite ?_ ?_)
      | (with_reducible refine LeO.bind ?_ (fun _ => ?_))
      | exact ih0 _ _ _ _
      | exact ih1 _ _ _ _ _ _
      | exact ih2 _ _ _ _ _ _ _ _ _
      | exact spec_Prefix.mono _ _
      | exact LeO.none _
      | refine LeO.ite ?_ ?_
      | refine LeO.bind ?_ (fun _ => ?_)
set_option maxHeartbeats 8000000 in
set_option maxRecDepth 100000 in
theorem spec_CandsOf.calls (k : Nat) (A0 : Option Addr) (c0 : Nat) (l0 : List (List (S87))) (a1 : Int) (r : List (S91)) (w : World) (hr0 : Kd.C (Kd.slice 87 k87) w A0 l0.length l0) (hc0 : l0.length ≤ c0) (h : spec_CandsOf.f k l0 a1 = some r) :
    Calls Try.prog 28 #[.slice A0 l0.length c0,.int .i64 a1] w fun e w' => ∃ v0_ : Value,e = .returned (v0_) ∧ Kd.R k91 91 w' w.heap.size (fun _ => True) v0_ r ∧ Below w.heap.size w w' := by
  have hu87 := Try.underlying87
  have hu91 := Try.underlying91
  have HR0 := Aside0.mk hr0
  have HC0 := Aside0.mk hc0
  clear hr0 hc0
  have HB := Aside0.mk (Below.refl w.heap.size w)
  have H : (spec_CandsOf.l0 k l0 a1 (([] : List (S91))) 0) = some r := h
  clear h
  obtain ⟨y125,hy125⟩ : ∃ y_ : List (S91),y_ = (([] : List (S91))) := ⟨_,rfl⟩
  replace H : (spec_CandsOf.l0 k l0 a1 y125 0) = some r := by first | (rw [hy125];with_reducible exact H) | (have H2_ := (Option.bind_some _ _).symm.trans H;rw [hy125];with_reducible exact H2_) | (have H2_ := (Option.bind_some _ _).symm.trans H;with_reducible exact H2_) | with_reducible exact H | (rw [hy125];exact H) | exact H
  have Ny125 := Aside0.mk hy125
  clear hy125
  have H' := Aside0.mk H
  clear H
  go_enter Try.func28,Try.ntmps28
  go_wp2_with (first | ((with_reducible refine gate_dst (N := 15) rfl ?_);refine Kd.R_lit k91 _ 91 ?hg (N := 15) ?hd (xs := ([] : List (S91))) (inner := []) (ok := fun _ => True) (okp := fun _ => True) ?hr ?hp (fun _ hk => hk) trivial (Below.refl _ _) (Nat.le_refl _) (by simp) ?_;(case hd => rfl);(case hg => rfl);(case hr => first | (go_simp;done) | (go_simp;rfl));(case hp => exact (Reps.none _ _));intro v126 w3 ho4 hb hg_ hnew_;clear hg_ hnew_;(first | rw [← Ny125.out] at ho4 | (simp only [Int.reduceToNat] at ho4;rw [← Ny125.out] at ho4));have n0_ := Aside0.mk (Kd.R_lower ho4 (below_size (by repeat (first | (with_reducible first | exact HB.out | apply below_alloc | apply pw_below_drewN | apply below_drew1) | exact HB.out))));have n1_ := Aside0.mk (below_step (by repeat (first | (with_reducible first | exact HB.out | apply below_alloc | apply pw_below_drewN | apply below_drew1) | exact HB.out)) hb);clear HB;have HO127 := n0_;have HB := n1_;clear n0_ n1_;clear hb ho4))
  repeat (go_quiet (first | ((with_reducible refine gate_dst (N := 15) rfl ?_);refine Kd.R_lit k91 _ 91 ?hg (N := 15) ?hd (xs := ([] : List (S91))) (inner := []) (ok := fun _ => True) (okp := fun _ => True) ?hr ?hp (fun _ hk => hk) trivial (Below.refl _ _) (Nat.le_refl _) (by simp) ?_;(case hd => rfl);(case hg => rfl);(case hr => first | (go_simp;done) | (go_simp;rfl));(case hp => exact (Reps.none _ _));intro v126 w3 ho4 hb hg_ hnew_;clear hg_ hnew_;(first | rw [← Ny125.out] at ho4 | (simp only [Int.reduceToNat] at ho4;rw [← Ny125.out] at ho4));have n0_ := Aside0.mk (Kd.R_lower ho4 (below_size (by repeat (first | (with_reducible first | exact HB.out | apply below_alloc | apply pw_below_drewN | apply below_drew1) | exact HB.out))));have n1_ := Aside0.mk (below_step (by repeat (first | (with_reducible first | exact HB.out | apply below_alloc | apply pw_below_drewN | apply below_drew1) | exact HB.out)) hb);clear HB;have HO127 := n0_;have HB := n1_;clear n0_ n1_;clear hb ho4));try go_wp2_with (first | ((with_reducible refine gate_dst (N := 15) rfl ?_);refine Kd.R_lit k91 _ 91 ?hg (N := 15) ?hd (xs := ([] : List (S91))) (inner := []) (ok := fun _ => True) (okp := fun _ => True) ?hr ?hp (fun _ hk => hk) trivial (Below.refl _ _) (Nat.le_refl _) (by simp) ?_;(case hd => rfl);(case hg => rfl);(case hr => first | (go_simp;done) | (go_simp;rfl));(case hp => exact (Reps.none _ _));intro v126 w3 ho4 hb hg_ hnew_;clear hg_ hnew_;(first | rw [← Ny125.out] at ho4 | (simp only [Int.reduceToNat] at ho4;rw [← Ny125.out] at ho4));have n0_ := Aside0.mk (Kd.R_lower ho4 (below_size (by repeat (first | (with_reducible first | exact HB.out | apply below_alloc | apply pw_below_drewN | apply below_drew1) | exact HB.out))));have n1_ := Aside0.mk (below_step (by repeat (first | (with_reducible first | exact HB.out | apply below_alloc | apply pw_below_drewN | apply below_drew1) | exact HB.out)) hb);clear HB;have HO127 := n0_;have HB := n1_;clear n0_ n1_;clear hb ho4)))
  go_loopg [5,6] k (fun kq v5 v6 w' => ∃ (x5_1 : List (S91)) (x6_1 : Int),v6 = .int .i64 x6_1 ∧ Aside0 (spec_CandsOf.l0 kq l0 a1 x5_1 x6_1 = some r) ∧ Aside0 (kq ≤ k) ∧ Aside0 (Kd.R k91 91 w' w.heap.size (fun _ => True) v5 x5_1) ∧ Aside0 (Below w.heap.size w w'))
  case atStart => exact ⟨(y125),(0),(by first | rfl | (simp;done) | (simp [*];done)),H',⟨Nat.le_refl _⟩,⟨by (with_reducible repeat (first | apply Kd.R_alloc | apply Kd.R_drewN | apply Kd.R_drew));exact HO127.out⟩,⟨by repeat (first | (with_reducible first | exact HB.out | apply below_alloc | apply pw_below_drewN | apply below_drew1) | exact HB.out)⟩⟩
  case round =>
    clear H'
    try clear c2
    try clear p2
    obtain ⟨x5_1,x6_1,rfl,HA,HK1,HO_5,HB⟩ := hrel
    cases gk with
    | zero => exact absurd HA.out (by simp [spec_CandsOf.l0])
    | succ k1 =>
      have H := HA.out
      clear HA
      simp only [spec_CandsOf.l0] at H
      by_cases c5 : x6_1 < (l0.length : Int)
      · rw [if_pos c5] at H
        have c5b0 : decide (x6_1 < (l0.length : Int)) = true := decide_eq_true c5
        clear c5
        by_cases c6 : 0 ≤ x6_1
        · rw [if_pos c6] at H
          have c6b0 : decide (0 ≤ x6_1) = true := decide_eq_true c6
          clear c6
          replace H := Option.bind_eq_some_iff.mp H
          obtain ⟨⟨t129,t130⟩,A70,H⟩ := H
          replace H : (if t130 = true then (spec_CandsOf.l1 k1 l0 a1 x5_1 x6_1 t129 0) else (some (([] : List (S91))))) = some r := H
          have A7 := Aside0.mk A70
          clear A70
          by_cases c8 : t130 = true
          · subst c8
            have H1 : (spec_CandsOf.l1 k1 l0 a1 x5_1 x6_1 t129 0) = some r := by rw [if_pos rfl] at H;exact H
            clear H
            have H := H1
            clear H1
            have H' := Aside0.mk H
            clear H
            have p128 : 0 ≤ (x6_1 : Int) := of_decide_eq_true (by first | (with_reducible assumption) | assumption)
            have q128 : x6_1 < (l0.length : Int) := of_decide_eq_true (by first | (with_reducible assumption) | assumption)
            obtain ⟨ad128,A128_0,c128_0,e128,hx128_0,hl128_0,hi128_0⟩ := at_L4 HR0.out x6_1 p128 q128
            cases e128
            replace hx128_0 := (HB.out.cell (World.block_lt_of_cell? w _ hx128_0)).trans hx128_0
            have HR128_0 := Aside0.mk hi128_0
            have HC128_0 := Aside0.mk hl128_0
            clear hi128_0 hl128_0
            replace p128 := eq_true p128
            replace q128 := eq_true q128
            go_wp2_with (first | (go_at_call 66;(with_reducible refine (spec_Prefix.calls k1 _ _ (rd_L4 l0 x6_1) t129 true _ ?side1 ?side2 A7.out).mono ?_);(case side1 => repeat (first | exact (Kd.C_below HR128_0.out HB.out) | (with_reducible refine Kd.C_alloc ?_ _) | (with_reducible refine Kd.C_drewN ?_ _) | (with_reducible refine Kd.C_drew ?_)));(case side2 => exact HC128_0.out);rintro e w9 ⟨v131,rfl,ho0,hb⟩;have n0_ := Aside0.mk (Kd.R_below (by (with_reducible repeat (first | apply Kd.R_alloc | apply Kd.R_drewN | apply Kd.R_drew));exact HO_5.out) hb);have n1_ := Aside0.mk (Kd.R_lower ho0 (below_size (by repeat (first | (with_reducible first | exact HB.out | apply below_alloc | apply pw_below_drewN | apply below_drew1) | exact HB.out))));have n2_ := Aside0.mk (below_step (by repeat (first | (with_reducible first | exact HB.out | apply below_alloc | apply pw_below_drewN | apply below_drew1) | exact HB.out)) hb);clear HO_5;clear HB;have HO_5 := n0_;have HO132 := n1_;have HB := n2_;clear n0_ n1_ n2_;(try clear hb);(try clear hb2);(try clear hk);(try clear hi);(try clear ho0)))
            repeat (go_quiet (first | (go_at_call 66;(with_reducible refine (spec_Prefix.calls k1 _ _ (rd_L4 l0 x6_1) t129 true _ ?side1 ?side2 A7.out).mono ?_);(case side1 => repeat (first | exact (Kd.C_below HR128_0.out HB.out) | (with_reducible refine Kd.C_alloc ?_ _) | (with_reducible refine Kd.C_drewN ?_ _) | (with_reducible refine Kd.C_drew ?_)));(case side2 => exact HC128_0.out);rintro e w9 ⟨v131,rfl,ho0,hb⟩;have n0_ := Aside0.mk (Kd.R_below (by (with_reducible repeat (first | apply Kd.R_alloc | apply Kd.R_drewN | apply Kd.R_drew));exact HO_5.out) hb);have n1_ := Aside0.mk (Kd.R_lower ho0 (below_size (by repeat (first | (with_reducible first | exact HB.out | apply below_alloc | apply pw_below_drewN | apply below_drew1) | exact HB.out))));have n2_ := Aside0.mk (below_step (by repeat (first | (with_reducible first | exact HB.out | apply below_alloc | apply pw_below_drewN | apply below_drew1) | exact HB.out)) hb);clear HO_5;clear HB;have HO_5 := n0_;have HO132 := n1_;have HB := n2_;clear n0_ n1_ n2_;(try clear hb);(try clear hb2);(try clear hk);(try clear hi);(try clear ho0)));try go_wp2_with (first | (go_at_call 66;(with_reducible refine (spec_Prefix.calls k1 _ _ (rd_L4 l0 x6_1) t129 true _ ?side1 ?side2 A7.out).mono ?_);(case side1 => repeat (first | exact (Kd.C_below HR128_0.out HB.out) | (with_reducible refine Kd.C_alloc ?_ _) | (with_reducible refine Kd.C_drewN ?_ _) | (with_reducible refine Kd.C_drew ?_)));(case side2 => exact HC128_0.out);rintro e w9 ⟨v131,rfl,ho0,hb⟩;have n0_ := Aside0.mk (Kd.R_below (by (with_reducible repeat (first | apply Kd.R_alloc | apply Kd.R_drewN | apply Kd.R_drew));exact HO_5.out) hb);have n1_ := Aside0.mk (Kd.R_lower ho0 (below_size (by repeat (first | (with_reducible first | exact HB.out | apply below_alloc | apply pw_below_drewN | apply below_drew1) | exact HB.out))));have n2_ := Aside0.mk (below_step (by repeat (first | (with_reducible first | exact HB.out | apply below_alloc | apply pw_below_drewN | apply below_drew1) | exact HB.out)) hb);clear HO_5;clear HB;have HO_5 := n0_;have HO132 := n1_;have HB := n2_;clear n0_ n1_ n2_;(try clear hb);(try clear hb2);(try clear hk);(try clear hi);(try clear ho0))))
            go_loopg [5,9] k1 (fun kq v5 v9 w' => ∃ (x5_2 : List (S91)) (x9_2 : Int),v9 = .int .i64 x9_2 ∧ Aside0 (spec_CandsOf.l1 kq l0 a1 x5_2 x6_1 t129 x9_2 = some r) ∧ Aside0 (kq ≤ k1) ∧ Aside0 (Kd.R k91 91 w' w.heap.size (fun _ => True) v5 x5_2) ∧ Aside0 (Kd.R k87 87 w' w.heap.size (fun _ => True) v131 t129) ∧ Aside0 (Below w.heap.size w w'))
            case atStart => exact ⟨(x5_1),(0),(by first | rfl | (simp;done) | (simp [*];done)),H',⟨Nat.le_refl _⟩,⟨by (with_reducible repeat (first | apply Kd.R_alloc | apply Kd.R_drewN | apply Kd.R_drew));exact HO_5.out⟩,⟨by (with_reducible repeat (first | apply Kd.R_alloc | apply Kd.R_drewN | apply Kd.R_drew));exact HO132.out⟩,⟨by repeat (first | (with_reducible first | exact HB.out | apply below_alloc | apply pw_below_drewN | apply below_drew1) | exact HB.out)⟩⟩
            case round =>
              clear H'
              try clear c1
              try clear p1
              try clear q1
              try clear hx1
              try clear c2
              try clear p2
              try clear c5
              try clear c5b0
              try clear c6
              try clear c6b0
              try clear c8
              try clear hx128_0
              try clear p128
              try clear p2
              try clear q128
              obtain ⟨x5_2,x9_2,rfl,HA,HK2,HO_5,HO_7,HB⟩ := hrel
              cases gk with
              | zero => exact absurd HA.out (by simp [spec_CandsOf.l1])
              | succ k2 =>
                have H := HA.out
                clear HA
                simp only [spec_CandsOf.l1] at H
                by_cases c10 : (wrap64 (x9_2 + 1)) < (t129.length : Int)
                · rw [if_pos c10] at H
                  have c10b0 : decide ((wrap64 (x9_2 + 1)) < (t129.length : Int)) = true := decide_eq_true c10
                  clear c10
                  obtain ⟨ji11,hji11⟩ : ∃ j_ : Int,(wrap64 ((t129.length : Int) - 1)) = j_ := ⟨_,rfl⟩
                  replace H : (if 0 ≤ (ji11) then (if (ji11) < (t129.length : Int) then (if 0 ≤ x9_2 then (if x9_2 < (t129.length : Int) then ((spec_SubInt.f ((rd_T87 t129 (ji11)).f0) ((rd_T87 t129 x9_2).f0)).bind fun bt139 => ((spec_SubInt.f ((rd_T87 t129 (ji11)).f1) ((rd_T87 t129 x9_2).f1)).bind fun bt142 => (if bt139.2 = true then (spec_CandsOf.j2 k2 l0 a1 x5_2 x6_1 t129 x9_2 bt139.1 bt142.1 (!bt142.2)) else (spec_CandsOf.j2 k2 l0 a1 x5_2 x6_1 t129 x9_2 bt139.1 bt142.1 true)))) else (none)) else (none)) else (none)) else (none)) = some r := by first | (rw [hji11] at H;exact H) | (simp only [hji11] at H ⊢;exact H)
                  have hji11w : (IntKind.i64.wrap ((t129.length : Int) - 1)) = ji11 := (i64_w _).trans hji11
                  by_cases c12 : 0 ≤ (ji11)
                  · rw [if_pos c12] at H
                    have c12b0 : decide (0 ≤ (ji11)) = true := decide_eq_true c12
                    clear c12
                    by_cases c13 : (ji11) < (t129.length : Int)
                    · rw [if_pos c13] at H
                      have c13b0 : decide ((ji11) < (t129.length : Int)) = true := decide_eq_true c13
                      clear c13
                      by_cases c14 : 0 ≤ x9_2
                      · rw [if_pos c14] at H
                        have c14b0 : decide (0 ≤ x9_2) = true := decide_eq_true c14
                        clear c14
                        by_cases c15 : x9_2 < (t129.length : Int)
                        · rw [if_pos c15] at H
                          have c15b0 : decide (x9_2 < (t129.length : Int)) = true := decide_eq_true c15
                          clear c15
                          replace H := Option.bind_eq_some_iff.mp H
                          obtain ⟨⟨t139,t140⟩,A160,H⟩ := H
                          replace H : ((spec_SubInt.f ((rd_T87 t129 (ji11)).f1) ((rd_T87 t129 x9_2).f1)).bind fun bt142 => (if t140 = true then (spec_CandsOf.j2 k2 l0 a1 x5_2 x6_1 t129 x9_2 t139 bt142.1 (!bt142.2)) else (spec_CandsOf.j2 k2 l0 a1 x5_2 x6_1 t129 x9_2 t139 bt142.1 true))) = some r := H
                          have A16 := Aside0.mk A160
                          clear A160
                          replace H := Option.bind_eq_some_iff.mp H
                          obtain ⟨⟨t142,t143⟩,A170,H⟩ := H
                          replace H : (if t140 = true then (spec_CandsOf.j2 k2 l0 a1 x5_2 x6_1 t129 x9_2 t139 t142 (!t143)) else (spec_CandsOf.j2 k2 l0 a1 x5_2 x6_1 t129 x9_2 t139 t142 true)) = some r := H
                          have A17 := Aside0.mk A170
                          clear A170
                          have HC18 := Aside0.mk H
                          clear H
                          obtain ⟨Ao19,co19,eo19⟩ := Kd.R_slice HO_7.out
                          subst eo19
                          have p136 : 0 ≤ ((ji11) : Int) := of_decide_eq_true (by first | (with_reducible assumption) | assumption)
                          have q136 : (ji11) < (t129.length : Int) := of_decide_eq_true (by first | (with_reducible assumption) | assumption)
                          obtain ⟨ad136,e136,hx136_0,hx136_1⟩ := at_T87 (Kd.R_reads' HO_7.out).2.2 (ji11) p136 q136
                          cases e136
                          replace p136 := eq_true p136
                          replace q136 := eq_true q136
                          go_upto_region 14 with (first | ((with_reducible refine gate_dst (N := 10) rfl ?_);refine box_event ?hg (N := 10) ?hd (cs := #[.int .i64 0,.int .i64 0]) (t := 87) ?hr ?_;(case hd => rfl);(case hg => rfl);(case hr => first | (go_simp;done) | (go_simp;rfl));intro gb137 hg w20 hbox hb;have n0_ := Aside0.mk (Kd.R_below (by (with_reducible repeat (first | apply Kd.R_alloc | apply Kd.R_drewN | apply Kd.R_drew));exact HO_5.out) hb);have n1_ := Aside0.mk (Kd.R_below (Kd.R_elderB (by (with_reducible repeat (first | apply Kd.R_alloc | apply Kd.R_drewN | apply Kd.R_drew));exact HO_7.out) gb137 (Nat.le_of_eq hg.symm)) hb);have n2_ := Aside0.mk (below_step (by repeat (first | (with_reducible first | exact HB.out | apply below_alloc | apply pw_below_drewN | apply below_drew1) | exact HB.out)) hb);have n3_ := Aside0.mk (hbox);have n4_ := Aside0.mk ((by rw [hg];exact (below_size (by repeat (first | (with_reducible first | exact HB.out | apply below_alloc | apply pw_below_drewN | apply below_drew1) | exact HB.out))) : w.heap.size ≤ gb137));have n5_ := Aside0.mk ((by rw [hg];exact (below_size (by repeat (first | (with_reducible first | exact HB.out | apply below_alloc | apply pw_below_drewN | apply below_drew1) | exact HB.out))) : w.heap.size ≤ gb137));clear HO_5;clear HO_7;clear HB;have HO_5 := n0_;have HO_7 := n1_;have HB := n2_;have BK137 := n3_;have GW137 := n4_;have GE137 := n5_;clear n0_ n1_ n2_ n3_ n4_ n5_;clear hb hbox hg;obtain ⟨hcz21_0,hcz21_1,hfz21_0,hfz21_1⟩ := spec_CandsOf.cells2 BK137.out;have p138 : 0 ≤ (x9_2 : Int) := of_decide_eq_true (by first | (with_reducible assumption) | assumption);have q138 : x9_2 < (t129.length : Int) := of_decide_eq_true (by first | (with_reducible assumption) | assumption);obtain ⟨ad138,e138,hx138_0,hx138_1⟩ := at_T87 (Kd.R_reads' HO_7.out).2.2 x9_2 p138 q138;obtain rfl : ad136 = ad138 := (by injection e138);have hn138_0 : ad136.block ≠ gb137 := Kd.own_blk (Kd.R_away HO_7.out (fun _ hk => hk.2));have hn138_1 : ad136.block ≠ gb137 := Kd.own_blk (Kd.R_away HO_7.out (fun _ hk => hk.2));replace hx138_0 := (cell_far (p := ⟨gb137,0,none⟩) (by first | (rw [add_block];exact hn138_0) | (show (Addr.add _ _).block ≠ _;rw [add_block];exact hn138_0) | exact hn138_0) (.int .i64 ((rd_T87 t129 (ji11)).f0))).trans hx138_0;replace hx138_1 := (cell_far (p := ⟨gb137,0,none⟩) (by first | (rw [add_block];exact hn138_0) | (show (Addr.add _ _).block ≠ _;rw [add_block];exact hn138_0) | exact hn138_0) (.int .i64 ((rd_T87 t129 (ji11)).f0))).trans hx138_1;replace hx138_0 := (cell_far (p := ⟨gb137,1,none⟩) (by first | (rw [add_block];exact hn138_1) | (show (Addr.add _ _).block ≠ _;rw [add_block];exact hn138_1) | exact hn138_1) (.int .i64 ((rd_T87 t129 (ji11)).f1))).trans hx138_0;replace hx138_1 := (cell_far (p := ⟨gb137,1,none⟩) (by first | (rw [add_block];exact hn138_1) | (show (Addr.add _ _).block ≠ _;rw [add_block];exact hn138_1) | exact hn138_1) (.int .i64 ((rd_T87 t129 (ji11)).f1))).trans hx138_1;(try have hy138_0 := fun (n_ : Nat) => (show ((((w20.drewN n_).setCell ⟨gb137,0,none⟩ (.int .i64 ((rd_T87 t129 (ji11)).f0))).setCell ⟨gb137,1,none⟩ (.int .i64 ((rd_T87 t129 (ji11)).f1)))).cell? _ = some _ from hx138_0));(try have hy138_1 := fun (n_ : Nat) => (show ((((w20.drewN n_).setCell ⟨gb137,0,none⟩ (.int .i64 ((rd_T87 t129 (ji11)).f0))).setCell ⟨gb137,1,none⟩ (.int .i64 ((rd_T87 t129 (ji11)).f1)))).cell? _ = some _ from hx138_1));clear hn138_0;clear hn138_1;replace p138 := eq_true p138;replace q138 := eq_true q138) | (go_at_call 67;(with_reducible refine (spec_SubInt.calls ((rd_T87 t129 (ji11)).f0) ((rd_T87 t129 x9_2).f0) t139 t140 _ A16.out).mono ?_);rintro e w' ⟨rfl,⟨nd,rfl⟩⟩;(try first | exact ⟨rfl,_,World.drewN_drewN _ _ _⟩ | exact ⟨rfl,_,Eq.trans (World.drewN_drewN _ _ _) (congrArg (World.drewN _) (Nat.add_assoc _ _ _))⟩);have p141 : 0 ≤ (x9_2 : Int) := of_decide_eq_true (by first | (with_reducible assumption) | assumption);have q141 : x9_2 < (t129.length : Int) := of_decide_eq_true (by first | (with_reducible assumption) | assumption);obtain ⟨ad141,e141,hx141_0,hx141_1⟩ := at_T87 (Kd.R_reads' HO_7.out).2.2 x9_2 p141 q141;obtain rfl : ad136 = ad141 := (by injection e141);have hn141_0 : ad136.block ≠ gb137 := Kd.own_blk (Kd.R_away HO_7.out (fun _ hk => hk.2));have hn141_1 : ad136.block ≠ gb137 := Kd.own_blk (Kd.R_away HO_7.out (fun _ hk => hk.2));replace hx141_0 := (cell_far (p := ⟨gb137,0,none⟩) (by first | (rw [add_block];exact hn141_0) | (show (Addr.add _ _).block ≠ _;rw [add_block];exact hn141_0) | exact hn141_0) (.int .i64 ((rd_T87 t129 (ji11)).f0))).trans hx141_0;replace hx141_1 := (cell_far (p := ⟨gb137,0,none⟩) (by first | (rw [add_block];exact hn141_0) | (show (Addr.add _ _).block ≠ _;rw [add_block];exact hn141_0) | exact hn141_0) (.int .i64 ((rd_T87 t129 (ji11)).f0))).trans hx141_1;replace hx141_0 := (cell_far (p := ⟨gb137,1,none⟩) (by first | (rw [add_block];exact hn141_1) | (show (Addr.add _ _).block ≠ _;rw [add_block];exact hn141_1) | exact hn141_1) (.int .i64 ((rd_T87 t129 (ji11)).f1))).trans hx141_0;replace hx141_1 := (cell_far (p := ⟨gb137,1,none⟩) (by first | (rw [add_block];exact hn141_1) | (show (Addr.add _ _).block ≠ _;rw [add_block];exact hn141_1) | exact hn141_1) (.int .i64 ((rd_T87 t129 (ji11)).f1))).trans hx141_1;(try have hy141_0 := fun (n_ : Nat) => (show ((((w20.drewN n_).setCell ⟨gb137,0,none⟩ (.int .i64 ((rd_T87 t129 (ji11)).f0))).setCell ⟨gb137,1,none⟩ (.int .i64 ((rd_T87 t129 (ji11)).f1)))).cell? _ = some _ from hx141_0));(try have hy141_1 := fun (n_ : Nat) => (show ((((w20.drewN n_).setCell ⟨gb137,0,none⟩ (.int .i64 ((rd_T87 t129 (ji11)).f0))).setCell ⟨gb137,1,none⟩ (.int .i64 ((rd_T87 t129 (ji11)).f1)))).cell? _ = some _ from hx141_1));clear hn141_0;clear hn141_1;replace p141 := eq_true p141;replace q141 := eq_true q141) | (go_at_call 67;(with_reducible refine (spec_SubInt.calls ((rd_T87 t129 (ji11)).f1) ((rd_T87 t129 x9_2).f1) t142 t143 _ A17.out).mono ?_);rintro e w' ⟨rfl,⟨nd,rfl⟩⟩;(try first | exact ⟨rfl,_,World.drewN_drewN _ _ _⟩ | exact ⟨rfl,_,Eq.trans (World.drewN_drewN _ _ _) (congrArg (World.drewN _) (Nat.add_assoc _ _ _))⟩)))
                          repeat (go_quiet (first | ((with_reducible refine gate_dst (N := 10) rfl ?_);refine box_event ?hg (N := 10) ?hd (cs := #[.int .i64 0,.int .i64 0]) (t := 87) ?hr ?_;(case hd => rfl);(case hg => rfl);(case hr => first | (go_simp;done) | (go_simp;rfl));intro gb137 hg w20 hbox hb;have n0_ := Aside0.mk (Kd.R_below (by (with_reducible repeat (first | apply Kd.R_alloc | apply Kd.R_drewN | apply Kd.R_drew));exact HO_5.out) hb);have n1_ := Aside0.mk (Kd.R_below (Kd.R_elderB (by (with_reducible repeat (first | apply Kd.R_alloc | apply Kd.R_drewN | apply Kd.R_drew));exact HO_7.out) gb137 (Nat.le_of_eq hg.symm)) hb);have n2_ := Aside0.mk (below_step (by repeat (first | (with_reducible first | exact HB.out | apply below_alloc | apply pw_below_drewN | apply below_drew1) | exact HB.out)) hb);have n3_ := Aside0.mk (hbox);have n4_ := Aside0.mk ((by rw [hg];exact (below_size (by repeat (first | (with_reducible first | exact HB.out | apply below_alloc | apply pw_below_drewN | apply below_drew1) | exact HB.out))) : w.heap.size ≤ gb137));have n5_ := Aside0.mk ((by rw [hg];exact (below_size (by repeat (first | (with_reducible first | exact HB.out | apply below_alloc | apply pw_below_drewN | apply below_drew1) | exact HB.out))) : w.heap.size ≤ gb137));clear HO_5;clear HO_7;clear HB;have HO_5 := n0_;have HO_7 := n1_;have HB := n2_;have BK137 := n3_;have GW137 := n4_;have GE137 := n5_;clear n0_ n1_ n2_ n3_ n4_ n5_;clear hb hbox hg;obtain ⟨hcz21_0,hcz21_1,hfz21_0,hfz21_1⟩ := spec_CandsOf.cells2 BK137.out;have p138 : 0 ≤ (x9_2 : Int) := of_decide_eq_true (by first | (with_reducible assumption) | assumption);have q138 : x9_2 < (t129.length : Int) := of_decide_eq_true (by first | (with_reducible assumption) | assumption);obtain ⟨ad138,e138,hx138_0,hx138_1⟩ := at_T87 (Kd.R_reads' HO_7.out).2.2 x9_2 p138 q138;obtain rfl : ad136 = ad138 := (by injection e138);have hn138_0 : ad136.block ≠ gb137 := Kd.own_blk (Kd.R_away HO_7.out (fun _ hk => hk.2));have hn138_1 : ad136.block ≠ gb137 := Kd.own_blk (Kd.R_away HO_7.out (fun _ hk => hk.2));replace hx138_0 := (cell_far (p := ⟨gb137,0,none⟩) (by first | (rw [add_block];exact hn138_0) | (show (Addr.add _ _).block ≠ _;rw [add_block];exact hn138_0) | exact hn138_0) (.int .i64 ((rd_T87 t129 (ji11)).f0))).trans hx138_0;replace hx138_1 := (cell_far (p := ⟨gb137,0,none⟩) (by first | (rw [add_block];exact hn138_0) | (show (Addr.add _ _).block ≠ _;rw [add_block];exact hn138_0) | exact hn138_0) (.int .i64 ((rd_T87 t129 (ji11)).f0))).trans hx138_1;replace hx138_0 := (cell_far (p := ⟨gb137,1,none⟩) (by first | (rw [add_block];exact hn138_1) | (show (Addr.add _ _).block ≠ _;rw [add_block];exact hn138_1) | exact hn138_1) (.int .i64 ((rd_T87 t129 (ji11)).f1))).trans hx138_0;replace hx138_1 := (cell_far (p := ⟨gb137,1,none⟩) (by first | (rw [add_block];exact hn138_1) | (show (Addr.add _ _).block ≠ _;rw [add_block];exact hn138_1) | exact hn138_1) (.int .i64 ((rd_T87 t129 (ji11)).f1))).trans hx138_1;(try have hy138_0 := fun (n_ : Nat) => (show ((((w20.drewN n_).setCell ⟨gb137,0,none⟩ (.int .i64 ((rd_T87 t129 (ji11)).f0))).setCell ⟨gb137,1,none⟩ (.int .i64 ((rd_T87 t129 (ji11)).f1)))).cell? _ = some _ from hx138_0));(try have hy138_1 := fun (n_ : Nat) => (show ((((w20.drewN n_).setCell ⟨gb137,0,none⟩ (.int .i64 ((rd_T87 t129 (ji11)).f0))).setCell ⟨gb137,1,none⟩ (.int .i64 ((rd_T87 t129 (ji11)).f1)))).cell? _ = some _ from hx138_1));clear hn138_0;clear hn138_1;replace p138 := eq_true p138;replace q138 := eq_true q138) | (go_at_call 67;(with_reducible refine (spec_SubInt.calls ((rd_T87 t129 (ji11)).f0) ((rd_T87 t129 x9_2).f0) t139 t140 _ A16.out).mono ?_);rintro e w' ⟨rfl,⟨nd,rfl⟩⟩;(try first | exact ⟨rfl,_,World.drewN_drewN _ _ _⟩ | exact ⟨rfl,_,Eq.trans (World.drewN_drewN _ _ _) (congrArg (World.drewN _) (Nat.add_assoc _ _ _))⟩);have p141 : 0 ≤ (x9_2 : Int) := of_decide_eq_true (by first | (with_reducible assumption) | assumption);have q141 : x9_2 < (t129.length : Int) := of_decide_eq_true (by first | (with_reducible assumption) | assumption);obtain ⟨ad141,e141,hx141_0,hx141_1⟩ := at_T87 (Kd.R_reads' HO_7.out).2.2 x9_2 p141 q141;obtain rfl : ad136 = ad141 := (by injection e141);have hn141_0 : ad136.block ≠ gb137 := Kd.own_blk (Kd.R_away HO_7.out (fun _ hk => hk.2));have hn141_1 : ad136.block ≠ gb137 := Kd.own_blk (Kd.R_away HO_7.out (fun _ hk => hk.2));replace hx141_0 := (cell_far (p := ⟨gb137,0,none⟩) (by first | (rw [add_block];exact hn141_0) | (show (Addr.add _ _).block ≠ _;rw [add_block];exact hn141_0) | exact hn141_0) (.int .i64 ((rd_T87 t129 (ji11)).f0))).trans hx141_0;replace hx141_1 := (cell_far (p := ⟨gb137,0,none⟩) (by first | (rw [add_block];exact hn141_0) | (show (Addr.add _ _).block ≠ _;rw [add_block];exact hn141_0) | exact hn141_0) (.int .i64 ((rd_T87 t129 (ji11)).f0))).trans hx141_1;replace hx141_0 := (cell_far (p := ⟨gb137,1,none⟩) (by first | (rw [add_block];exact hn141_1) | (show (Addr.add _ _).block ≠ _;rw [add_block];exact hn141_1) | exact hn141_1) (.int .i64 ((rd_T87 t129 (ji11)).f1))).trans hx141_0;replace hx141_1 := (cell_far (p := ⟨gb137,1,none⟩) (by first | (rw [add_block];exact hn141_1) | (show (Addr.add _ _).block ≠ _;rw [add_block];exact hn141_1) | exact hn141_1) (.int .i64 ((rd_T87 t129 (ji11)).f1))).trans hx141_1;(try have hy141_0 := fun (n_ : Nat) => (show ((((w20.drewN n_).setCell ⟨gb137,0,none⟩ (.int .i64 ((rd_T87 t129 (ji11)).f0))).setCell ⟨gb137,1,none⟩ (.int .i64 ((rd_T87 t129 (ji11)).f1)))).cell? _ = some _ from hx141_0));(try have hy141_1 := fun (n_ : Nat) => (show ((((w20.drewN n_).setCell ⟨gb137,0,none⟩ (.int .i64 ((rd_T87 t129 (ji11)).f0))).setCell ⟨gb137,1,none⟩ (.int .i64 ((rd_T87 t129 (ji11)).f1)))).cell? _ = some _ from hx141_1));clear hn141_0;clear hn141_1;replace p141 := eq_true p141;replace q141 := eq_true q141) | (go_at_call 67;(with_reducible refine (spec_SubInt.calls ((rd_T87 t129 (ji11)).f1) ((rd_T87 t129 x9_2).f1) t142 t143 _ A17.out).mono ?_);rintro e w' ⟨rfl,⟨nd,rfl⟩⟩;(try first | exact ⟨rfl,_,World.drewN_drewN _ _ _⟩ | exact ⟨rfl,_,Eq.trans (World.drewN_drewN _ _ _) (congrArg (World.drewN _) (Nat.add_assoc _ _ _))⟩)));go_upto_region 14 with (first | ((with_reducible refine gate_dst (N := 10) rfl ?_);refine box_event ?hg (N := 10) ?hd (cs := #[.int .i64 0,.int .i64 0]) (t := 87) ?hr ?_;(case hd => rfl);(case hg => rfl);(case hr => first | (go_simp;done) | (go_simp;rfl));intro gb137 hg w20 hbox hb;have n0_ := Aside0.mk (Kd.R_below (by (with_reducible repeat (first | apply Kd.R_alloc | apply Kd.R_drewN | apply Kd.R_drew));exact HO_5.out) hb);have n1_ := Aside0.mk (Kd.R_below (Kd.R_elderB (by (with_reducible repeat (first | apply Kd.R_alloc | apply Kd.R_drewN | apply Kd.R_drew));exact HO_7.out) gb137 (Nat.le_of_eq hg.symm)) hb);have n2_ := Aside0.mk (below_step (by repeat (first | (with_reducible first | exact HB.out | apply below_alloc | apply pw_below_drewN | apply below_drew1) | exact HB.out)) hb);have n3_ := Aside0.mk (hbox);have n4_ := Aside0.mk ((by rw [hg];exact (below_size (by repeat (first | (with_reducible first | exact HB.out | apply below_alloc | apply pw_below_drewN | apply below_drew1) | exact HB.out))) : w.heap.size ≤ gb137));have n5_ := Aside0.mk ((by rw [hg];exact (below_size (by repeat (first | (with_reducible first | exact HB.out | apply below_alloc | apply pw_below_drewN | apply below_drew1) | exact HB.out))) : w.heap.size ≤ gb137));clear HO_5;clear HO_7;clear HB;have HO_5 := n0_;have HO_7 := n1_;have HB := n2_;have BK137 := n3_;have GW137 := n4_;have GE137 := n5_;clear n0_ n1_ n2_ n3_ n4_ n5_;clear hb hbox hg;obtain ⟨hcz21_0,hcz21_1,hfz21_0,hfz21_1⟩ := spec_CandsOf.cells2 BK137.out;have p138 : 0 ≤ (x9_2 : Int) := of_decide_eq_true (by first | (with_reducible assumption) | assumption);have q138 : x9_2 < (t129.length : Int) := of_decide_eq_true (by first | (with_reducible assumption) | assumption);obtain ⟨ad138,e138,hx138_0,hx138_1⟩ := at_T87 (Kd.R_reads' HO_7.out).2.2 x9_2 p138 q138;obtain rfl : ad136 = ad138 := (by injection e138);have hn138_0 : ad136.block ≠ gb137 := Kd.own_blk (Kd.R_away HO_7.out (fun _ hk => hk.2));have hn138_1 : ad136.block ≠ gb137 := Kd.own_blk (Kd.R_away HO_7.out (fun _ hk => hk.2));replace hx138_0 := (cell_far (p := ⟨gb137,0,none⟩) (by first | (rw [add_block];exact hn138_0) | (show (Addr.add _ _).block ≠ _;rw [add_block];exact hn138_0) | exact hn138_0) (.int .i64 ((rd_T87 t129 (ji11)).f0))).trans hx138_0;replace hx138_1 := (cell_far (p := ⟨gb137,0,none⟩) (by first | (rw [add_block];exact hn138_0) | (show (Addr.add _ _).block ≠ _;rw [add_block];exact hn138_0) | exact hn138_0) (.int .i64 ((rd_T87 t129 (ji11)).f0))).trans hx138_1;replace hx138_0 := (cell_far (p := ⟨gb137,1,none⟩) (by first | (rw [add_block];exact hn138_1) | (show (Addr.add _ _).block ≠ _;rw [add_block];exact hn138_1) | exact hn138_1) (.int .i64 ((rd_T87 t129 (ji11)).f1))).trans hx138_0;replace hx138_1 := (cell_far (p := ⟨gb137,1,none⟩) (by first | (rw [add_block];exact hn138_1) | (show (Addr.add _ _).block ≠ _;rw [add_block];exact hn138_1) | exact hn138_1) (.int .i64 ((rd_T87 t129 (ji11)).f1))).trans hx138_1;(try have hy138_0 := fun (n_ : Nat) => (show ((((w20.drewN n_).setCell ⟨gb137,0,none⟩ (.int .i64 ((rd_T87 t129 (ji11)).f0))).setCell ⟨gb137,1,none⟩ (.int .i64 ((rd_T87 t129 (ji11)).f1)))).cell? _ = some _ from hx138_0));(try have hy138_1 := fun (n_ : Nat) => (show ((((w20.drewN n_).setCell ⟨gb137,0,none⟩ (.int .i64 ((rd_T87 t129 (ji11)).f0))).setCell ⟨gb137,1,none⟩ (.int .i64 ((rd_T87 t129 (ji11)).f1)))).cell? _ = some _ from hx138_1));clear hn138_0;clear hn138_1;replace p138 := eq_true p138;replace q138 := eq_true q138) | (go_at_call 67;(with_reducible refine (spec_SubInt.calls ((rd_T87 t129 (ji11)).f0) ((rd_T87 t129 x9_2).f0) t139 t140 _ A16.out).mono ?_);rintro e w' ⟨rfl,⟨nd,rfl⟩⟩;(try first | exact ⟨rfl,_,World.drewN_drewN _ _ _⟩ | exact ⟨rfl,_,Eq.trans (World.drewN_drewN _ _ _) (congrArg (World.drewN _) (Nat.add_assoc _ _ _))⟩);have p141 : 0 ≤ (x9_2 : Int) := of_decide_eq_true (by first | (with_reducible assumption) | assumption);have q141 : x9_2 < (t129.length : Int) := of_decide_eq_true (by first | (with_reducible assumption) | assumption);obtain ⟨ad141,e141,hx141_0,hx141_1⟩ := at_T87 (Kd.R_reads' HO_7.out).2.2 x9_2 p141 q141;obtain rfl : ad136 = ad141 := (by injection e141);have hn141_0 : ad136.block ≠ gb137 := Kd.own_blk (Kd.R_away HO_7.out (fun _ hk => hk.2));have hn141_1 : ad136.block ≠ gb137 := Kd.own_blk (Kd.R_away HO_7.out (fun _ hk => hk.2));replace hx141_0 := (cell_far (p := ⟨gb137,0,none⟩) (by first | (rw [add_block];exact hn141_0) | (show (Addr.add _ _).block ≠ _;rw [add_block];exact hn141_0) | exact hn141_0) (.int .i64 ((rd_T87 t129 (ji11)).f0))).trans hx141_0;replace hx141_1 := (cell_far (p := ⟨gb137,0,none⟩) (by first | (rw [add_block];exact hn141_0) | (show (Addr.add _ _).block ≠ _;rw [add_block];exact hn141_0) | exact hn141_0) (.int .i64 ((rd_T87 t129 (ji11)).f0))).trans hx141_1;replace hx141_0 := (cell_far (p := ⟨gb137,1,none⟩) (by first | (rw [add_block];exact hn141_1) | (show (Addr.add _ _).block ≠ _;rw [add_block];exact hn141_1) | exact hn141_1) (.int .i64 ((rd_T87 t129 (ji11)).f1))).trans hx141_0;replace hx141_1 := (cell_far (p := ⟨gb137,1,none⟩) (by first | (rw [add_block];exact hn141_1) | (show (Addr.add _ _).block ≠ _;rw [add_block];exact hn141_1) | exact hn141_1) (.int .i64 ((rd_T87 t129 (ji11)).f1))).trans hx141_1;(try have hy141_0 := fun (n_ : Nat) => (show ((((w20.drewN n_).setCell ⟨gb137,0,none⟩ (.int .i64 ((rd_T87 t129 (ji11)).f0))).setCell ⟨gb137,1,none⟩ (.int .i64 ((rd_T87 t129 (ji11)).f1)))).cell? _ = some _ from hx141_0));(try have hy141_1 := fun (n_ : Nat) => (show ((((w20.drewN n_).setCell ⟨gb137,0,none⟩ (.int .i64 ((rd_T87 t129 (ji11)).f0))).setCell ⟨gb137,1,none⟩ (.int .i64 ((rd_T87 t129 (ji11)).f1)))).cell? _ = some _ from hx141_1));clear hn141_0;clear hn141_1;replace p141 := eq_true p141;replace q141 := eq_true q141) | (go_at_call 67;(with_reducible refine (spec_SubInt.calls ((rd_T87 t129 (ji11)).f1) ((rd_T87 t129 x9_2).f1) t142 t143 _ A17.out).mono ?_);rintro e w' ⟨rfl,⟨nd,rfl⟩⟩;(try first | exact ⟨rfl,_,World.drewN_drewN _ _ _⟩ | exact ⟨rfl,_,Eq.trans (World.drewN_drewN _ _ _) (congrArg (World.drewN _) (Nat.add_assoc _ _ _))⟩))))
                          (try simp only [Act.put,List.setIfInBounds_toArray,List.set_cons_zero,List.set_cons_succ])
                          go_cut [73] (fun v73 wc => ∃ (kq : Nat) (x73_17 : Bool),v73 = .bool x73_17 ∧ Aside0 (spec_CandsOf.j2 kq l0 a1 x5_2 x6_1 t129 x9_2 t139 t142 x73_17 = some r) ∧ Aside0 (kq ≤ k2) ∧ Aside0 (Kd.R k91 91 wc w.heap.size (fun _ => True) u5 x5_2) ∧ Aside0 (Kd.R k87 87 wc w.heap.size (fun k_ => k_ ≠ gb137) (.slice (some ad136) t129.length co19) t129) ∧ Aside0 (wc.heap[gb137]? = some (.cells #[.int .i64 ((rd_T87 t129 (ji11)).f0),.int .i64 ((rd_T87 t129 (ji11)).f1)] 87 (0,0))) ∧ Aside0 (Below w.heap.size w wc))
                          case first =>
                            have H := HC18.out
                            clear HC18
                            by_cases c22 : t140 = true
                            · subst c22
                              have H1 : (spec_CandsOf.j2 k2 l0 a1 x5_2 x6_1 t129 x9_2 t139 t142 (!t143)) = some r := by rw [if_pos rfl] at H;exact H
                              clear H
                              have H := H1
                              clear H1
                              have H' := Aside0.mk H
                              clear H
                              go_wp2
                              repeat (go_quiet (fail);try go_wp2)
                              go_meet
                              case rel => exact ⟨_,(!t143),(by first | rfl | (simp;done) | (simp [*];done)),H',⟨by have := HK1.out;have := HK2.out;first | omega | exact Nat.le_refl _⟩,⟨by (with_reducible repeat (first | apply Kd.R_alloc | apply Kd.R_drewN | apply Kd.R_drew));exact Kd.R_mono (Kd.R_far (p := ⟨gb137,1,none⟩) (Kd.R_far (p := ⟨gb137,0,none⟩) (Kd.R_types HO_5.out BK137.out (by decide)) (fun _ hk => hk.2) (.int .i64 ((rd_T87 t129 (ji11)).f0))) (fun _ hk => hk.2) (.int .i64 ((rd_T87 t129 (ji11)).f1))) (fun _ hk => trivial)⟩,⟨by (with_reducible repeat (first | apply Kd.R_alloc | apply Kd.R_drewN | apply Kd.R_drew));exact Kd.R_mono (Kd.R_far (p := ⟨gb137,1,none⟩) (Kd.R_far (p := ⟨gb137,0,none⟩) (Kd.R_mono HO_7.out (fun k_ hk => (⟨hk,hk.2⟩ : _ ∧ k_ ≠ gb137))) (fun _ hk => hk.2) (.int .i64 ((rd_T87 t129 (ji11)).f0))) (fun _ hk => hk.2) (.int .i64 ((rd_T87 t129 (ji11)).f1))) (fun _ hk => hk.1.2)⟩,⟨by refine bP ?_;refine blk_put (cs := #[.int .i64 ((rd_T87 t129 (ji11)).f0),.int .i64 0]) ?_ 1 _ rfl;refine bP ?_;refine blk_put (cs := #[.int .i64 0,.int .i64 0]) ?_ 0 _ rfl;refine bP ?_;exact BK137.out⟩,⟨by repeat (first | (with_reducible first | exact HB.out | apply below_alloc | apply pw_below_drewN | apply below_drew1 | refine below_set ?_ GE137.out) | exact HB.out)⟩⟩
                            · replace c22 := Bool.eq_false_iff.mpr c22
                              subst c22
                              have H1 : (spec_CandsOf.j2 k2 l0 a1 x5_2 x6_1 t129 x9_2 t139 t142 true) = some r := by rw [if_neg (show ¬ (false = true) by decide)] at H;exact H
                              clear H
                              have H := H1
                              clear H1
                              have H' := Aside0.mk H
                              clear H
                              go_wp2
                              repeat (go_quiet (fail);try go_wp2)
                              go_meet
                              case rel => exact ⟨_,(true),(by first | rfl | (simp;done) | (simp [*];done)),H',⟨by have := HK1.out;have := HK2.out;first | omega | exact Nat.le_refl _⟩,⟨by (with_reducible repeat (first | apply Kd.R_alloc | apply Kd.R_drewN | apply Kd.R_drew));exact Kd.R_mono (Kd.R_far (p := ⟨gb137,1,none⟩) (Kd.R_far (p := ⟨gb137,0,none⟩) (Kd.R_types HO_5.out BK137.out (by decide)) (fun _ hk => hk.2) (.int .i64 ((rd_T87 t129 (ji11)).f0))) (fun _ hk => hk.2) (.int .i64 ((rd_T87 t129 (ji11)).f1))) (fun _ hk => trivial)⟩,⟨by (with_reducible repeat (first | apply Kd.R_alloc | apply Kd.R_drewN | apply Kd.R_drew));exact Kd.R_mono (Kd.R_far (p := ⟨gb137,1,none⟩) (Kd.R_far (p := ⟨gb137,0,none⟩) (Kd.R_mono HO_7.out (fun k_ hk => (⟨hk,hk.2⟩ : _ ∧ k_ ≠ gb137))) (fun _ hk => hk.2) (.int .i64 ((rd_T87 t129 (ji11)).f0))) (fun _ hk => hk.2) (.int .i64 ((rd_T87 t129 (ji11)).f1))) (fun _ hk => hk.1.2)⟩,⟨by refine bP ?_;refine blk_put (cs := #[.int .i64 ((rd_T87 t129 (ji11)).f0),.int .i64 0]) ?_ 1 _ rfl;refine bP ?_;refine blk_put (cs := #[.int .i64 0,.int .i64 0]) ?_ 0 _ rfl;refine bP ?_;exact BK137.out⟩,⟨by repeat (first | (with_reducible first | exact HB.out | apply below_alloc | apply pw_below_drewN | apply below_drew1 | refine below_set ?_ GE137.out) | exact HB.out)⟩⟩
                          case rest =>
                            clear HC18
                            try clear c1
                            try clear p1
                            try clear q1
                            try clear hx1
                            try clear c2
                            try clear p2
                            try clear c5
                            try clear c5b0
                            try clear c6
                            try clear c6b0
                            try clear p6
                            try clear c8
                            try clear c10
                            try clear c10b0
                            try clear c12
                            try clear c12b0
                            try clear p12
                            try clear q12
                            try clear hx12
                            try clear c13
                            try clear c13b0
                            try clear p13
                            try clear q13
                            try clear hx13
                            try clear c14
                            try clear c14b0
                            try clear p14
                            try clear q14
                            try clear hx14
                            try clear c15
                            try clear c15b0
                            try clear c22
                            try clear hcz21_0
                            try clear hcz21_1
                            try clear hfz21_0
                            try clear hfz21_1
                            try clear hx128_0
                            try clear hx136_0
                            try clear hx136_1
                            try clear hx138_0
                            try clear hx138_1
                            try clear hx141_0
                            try clear hx141_1
                            try clear p1
                            try clear p128
                            try clear p136
                            try clear p138
                            try clear p141
                            try clear p2
                            try clear q1
                            try clear q128
                            try clear q136
                            try clear q138
                            try clear q141
                            obtain ⟨kq,x73_17,rfl,HA,HJ17,HO_5,HO_7,BK137,HB⟩ := hcut
                            cases kq with
                            | zero => exact absurd HA.out (by simp [spec_CandsOf.j2])
                            | succ kj17 =>
                              have H := HA.out
                              clear HA
                              simp only [spec_CandsOf.j2] at H
                              by_cases c23 : x73_17 = true
                              · subst c23
                                have H1 : (some (([] : List (S91)))) = some r := by rw [if_pos rfl] at H;exact H
                                clear H
                                have H := H1
                                clear H1
                                obtain ⟨y144,hy144⟩ : ∃ y_ : List (S91),y_ = (([] : List (S91))) := ⟨_,rfl⟩
                                replace H : (some y144) = some r := by first | (rw [hy144];with_reducible exact H) | (have H2_ := (Option.bind_some _ _).symm.trans H;rw [hy144];with_reducible exact H2_) | (have H2_ := (Option.bind_some _ _).symm.trans H;with_reducible exact H2_) | with_reducible exact H | (rw [hy144];exact H) | exact H
                                have Ny144 := Aside0.mk hy144
                                clear hy144
                                obtain rfl := Option.some.inj H
                                go_wp2_with (first | ((with_reducible refine gate_dst (N := 74) rfl ?_);refine Kd.R_lit k91 _ 91 ?hg (N := 74) ?hd (xs := ([] : List (S91))) (inner := []) (ok := fun _ => True) (okp := fun _ => True) ?hr ?hp (fun _ hk => hk) trivial (Below.refl _ _) (Nat.le_refl _) (by simp) ?_;(case hd => rfl);(case hg => rfl);(case hr => first | (go_simp;done) | (go_simp;rfl));(case hp => exact (Reps.none _ _));intro v145 w24 ho25 hb hg_ hnew_;clear hg_ hnew_;(first | rw [← Ny144.out] at ho25 | (simp only [Int.reduceToNat] at ho25;rw [← Ny144.out] at ho25));have n0_ := Aside0.mk (Kd.R_elder' (by (with_reducible repeat (first | apply Kd.R_alloc | apply Kd.R_drewN | apply Kd.R_drew));exact HO_5.out) (Kd.R_base ho25) hb);have n1_ := Aside0.mk (Kd.R_below (by (with_reducible repeat (first | apply Kd.R_alloc | apply Kd.R_drewN | apply Kd.R_drew));exact HO_7.out) hb);have n2_ := Aside0.mk (Kd.R_lower (Kd.R_new' ho25 (Kd.R_lt (by (with_reducible repeat (first | apply Kd.R_alloc | apply Kd.R_drewN | apply Kd.R_drew));exact HO_5.out))) (below_size (by repeat (first | (with_reducible first | exact HB.out | apply below_alloc | apply pw_below_drewN | apply below_drew1 | refine below_set ?_ GE137.out) | exact HB.out))));have n3_ := Aside0.mk (blk_below (g := gb137) (o := .cells #[.int .i64 ((rd_T87 t129 (ji11)).f0),.int .i64 ((rd_T87 t129 (ji11)).f1)] 87 (0,0)) (by refine bP ?_;exact BK137.out) hb);have n4_ := Aside0.mk (below_step (by repeat (first | (with_reducible first | exact HB.out | apply below_alloc | apply pw_below_drewN | apply below_drew1 | refine below_set ?_ GE137.out) | exact HB.out)) hb);clear HO_5;clear HO_7;clear BK137;clear HB;have HO_5 := n0_;have HO_7 := n1_;have HO146 := n2_;have BK137 := n3_;have HB := n4_;clear n0_ n1_ n2_ n3_ n4_;clear hb ho25))
                                repeat (go_quiet (first | ((with_reducible refine gate_dst (N := 74) rfl ?_);refine Kd.R_lit k91 _ 91 ?hg (N := 74) ?hd (xs := ([] : List (S91))) (inner := []) (ok := fun _ => True) (okp := fun _ => True) ?hr ?hp (fun _ hk => hk) trivial (Below.refl _ _) (Nat.le_refl _) (by simp) ?_;(case hd => rfl);(case hg => rfl);(case hr => first | (go_simp;done) | (go_simp;rfl));(case hp => exact (Reps.none _ _));intro v145 w24 ho25 hb hg_ hnew_;clear hg_ hnew_;(first | rw [← Ny144.out] at ho25 | (simp only [Int.reduceToNat] at ho25;rw [← Ny144.out] at ho25));have n0_ := Aside0.mk (Kd.R_elder' (by (with_reducible repeat (first | apply Kd.R_alloc | apply Kd.R_drewN | apply Kd.R_drew));exact HO_5.out) (Kd.R_base ho25) hb);have n1_ := Aside0.mk (Kd.R_below (by (with_reducible repeat (first | apply Kd.R_alloc | apply Kd.R_drewN | apply Kd.R_drew));exact HO_7.out) hb);have n2_ := Aside0.mk (Kd.R_lower (Kd.R_new' ho25 (Kd.R_lt (by (with_reducible repeat (first | apply Kd.R_alloc | apply Kd.R_drewN | apply Kd.R_drew));exact HO_5.out))) (below_size (by repeat (first | (with_reducible first | exact HB.out | apply below_alloc | apply pw_below_drewN | apply below_drew1 | refine below_set ?_ GE137.out) | exact HB.out))));have n3_ := Aside0.mk (blk_below (g := gb137) (o := .cells #[.int .i64 ((rd_T87 t129 (ji11)).f0),.int .i64 ((rd_T87 t129 (ji11)).f1)] 87 (0,0)) (by refine bP ?_;exact BK137.out) hb);have n4_ := Aside0.mk (below_step (by repeat (first | (with_reducible first | exact HB.out | apply below_alloc | apply pw_below_drewN | apply below_drew1 | refine below_set ?_ GE137.out) | exact HB.out)) hb);clear HO_5;clear HO_7;clear BK137;clear HB;have HO_5 := n0_;have HO_7 := n1_;have HO146 := n2_;have BK137 := n3_;have HB := n4_;clear n0_ n1_ n2_ n3_ n4_;clear hb ho25));try go_wp2_with (first | ((with_reducible refine gate_dst (N := 74) rfl ?_);refine Kd.R_lit k91 _ 91 ?hg (N := 74) ?hd (xs := ([] : List (S91))) (inner := []) (ok := fun _ => True) (okp := fun _ => True) ?hr ?hp (fun _ hk => hk) trivial (Below.refl _ _) (Nat.le_refl _) (by simp) ?_;(case hd => rfl);(case hg => rfl);(case hr => first | (go_simp;done) | (go_simp;rfl));(case hp => exact (Reps.none _ _));intro v145 w24 ho25 hb hg_ hnew_;clear hg_ hnew_;(first | rw [← Ny144.out] at ho25 | (simp only [Int.reduceToNat] at ho25;rw [← Ny144.out] at ho25));have n0_ := Aside0.mk (Kd.R_elder' (by (with_reducible repeat (first | apply Kd.R_alloc | apply Kd.R_drewN | apply Kd.R_drew));exact HO_5.out) (Kd.R_base ho25) hb);have n1_ := Aside0.mk (Kd.R_below (by (with_reducible repeat (first | apply Kd.R_alloc | apply Kd.R_drewN | apply Kd.R_drew));exact HO_7.out) hb);have n2_ := Aside0.mk (Kd.R_lower (Kd.R_new' ho25 (Kd.R_lt (by (with_reducible repeat (first | apply Kd.R_alloc | apply Kd.R_drewN | apply Kd.R_drew));exact HO_5.out))) (below_size (by repeat (first | (with_reducible first | exact HB.out | apply below_alloc | apply pw_below_drewN | apply below_drew1 | refine below_set ?_ GE137.out) | exact HB.out))));have n3_ := Aside0.mk (blk_below (g := gb137) (o := .cells #[.int .i64 ((rd_T87 t129 (ji11)).f0),.int .i64 ((rd_T87 t129 (ji11)).f1)] 87 (0,0)) (by refine bP ?_;exact BK137.out) hb);have n4_ := Aside0.mk (below_step (by repeat (first | (with_reducible first | exact HB.out | apply below_alloc | apply pw_below_drewN | apply below_drew1 | refine below_set ?_ GE137.out) | exact HB.out)) hb);clear HO_5;clear HO_7;clear BK137;clear HB;have HO_5 := n0_;have HO_7 := n1_;have HO146 := n2_;have BK137 := n3_;have HB := n4_;clear n0_ n1_ n2_ n3_ n4_;clear hb ho25)))
                                go_ret
                                exact ⟨_,by first | rfl | (simp [errW_none,errW_some] <;> rfl) | (simp only [← hji11];first | rfl | (simp [errW_none,errW_some] <;> rfl)) | (simp [*,errW_none,errW_some] <;> rfl),by (with_reducible repeat (first | apply Kd.R_alloc | apply Kd.R_drewN | apply Kd.R_drew));exact Kd.R_mono HO146.out (fun _ hk => trivial),by repeat (first | (with_reducible first | exact HB.out | apply below_alloc | apply pw_below_drewN | apply below_drew1 | refine below_set ?_ GE137.out) | exact HB.out)⟩
                              · replace c23 := Bool.eq_false_iff.mpr c23
                                subst c23
                                have H1 : (if 0 ≤ x9_2 then (if x9_2 < (t129.length : Int) then (if ((rd_T87 t129 x9_2).f0) ≥ a1 then (if t139 ≥ a1 then (if x5_2.length < 2932031007402 then (spec_CandsOf.l1 kj17 l0 a1 (x5_2 ++ [(⟨x6_1,x9_2,(⟨(rd_T87 t129 x9_2).f0,(rd_T87 t129 x9_2).f1⟩ : S87),(⟨t139,t142⟩ : S87)⟩ : S91)]) x6_1 t129 (wrap64 (x9_2 + 1))) else (none)) else (spec_CandsOf.l1 kj17 l0 a1 x5_2 x6_1 t129 (wrap64 (x9_2 + 1)))) else (spec_CandsOf.l1 kj17 l0 a1 x5_2 x6_1 t129 (wrap64 (x9_2 + 1)))) else (none)) else (none)) = some r := by rw [if_neg (show ¬ (false = true) by decide)] at H;exact H
                                clear H
                                have H := H1
                                clear H1
                                by_cases c26 : 0 ≤ x9_2
                                · rw [if_pos c26] at H
                                  have c26b0 : decide (0 ≤ x9_2) = true := decide_eq_true c26
                                  clear c26
                                  by_cases c27 : x9_2 < (t129.length : Int)
                                  · rw [if_pos c27] at H
                                    have c27b0 : decide (x9_2 < (t129.length : Int)) = true := decide_eq_true c27
                                    clear c27
                                    by_cases c28 : ((rd_T87 t129 x9_2).f0) ≥ a1
                                    · rw [if_pos c28] at H
                                      have c28b0 : decide (a1 ≤ ((rd_T87 t129 x9_2).f0)) = true := decide_eq_true c28
                                      clear c28
                                      by_cases c29 : t139 ≥ a1
                                      · rw [if_pos c29] at H
                                        have c29b0 : decide (a1 ≤ t139) = true := decide_eq_true c29
                                        clear c29
                                        by_cases c30 : x5_2.length < 2932031007402
                                        · rw [if_pos c30] at H
                                          have LMc30 := Aside0.mk c30
                                          clear c30
                                          obtain ⟨y149,hy149⟩ : ∃ y_ : List (S91),y_ = (x5_2 ++ [(⟨x6_1,x9_2,(⟨(rd_T87 t129 x9_2).f0,(rd_T87 t129 x9_2).f1⟩ : S87),(⟨t139,t142⟩ : S87)⟩ : S91)]) := ⟨_,rfl⟩
                                          replace H : (spec_CandsOf.l1 kj17 l0 a1 y149 x6_1 t129 (wrap64 (x9_2 + 1))) = some r := by first | (rw [hy149];with_reducible exact H) | (have H2_ := (Option.bind_some _ _).symm.trans H;rw [hy149];with_reducible exact H2_) | (have H2_ := (Option.bind_some _ _).symm.trans H;with_reducible exact H2_) | with_reducible exact H | (rw [hy149];exact H) | exact H
                                          have Ny149 := Aside0.mk hy149
                                          clear hy149
                                          have H' := Aside0.mk H
                                          clear H
                                          have p147 : 0 ≤ (x9_2 : Int) := of_decide_eq_true (by first | (with_reducible assumption) | assumption)
                                          have q147 : x9_2 < (t129.length : Int) := of_decide_eq_true (by first | (with_reducible assumption) | assumption)
                                          obtain ⟨ad147,e147,hx147_0,hx147_1⟩ := at_T87 (Kd.R_reads' HO_7.out).2.2 x9_2 p147 q147
                                          obtain rfl : ad136 = ad147 := (by injection e147)
                                          replace p147 := eq_true p147
                                          replace q147 := eq_true q147
                                          have p148 : 0 ≤ (x9_2 : Int) := of_decide_eq_true (by first | (with_reducible assumption) | assumption)
                                          have q148 : x9_2 < (t129.length : Int) := of_decide_eq_true (by first | (with_reducible assumption) | assumption)
                                          obtain ⟨ad148,e148,hx148_0,hx148_1⟩ := at_T87 (Kd.R_reads' HO_7.out).2.2 x9_2 p148 q148
                                          obtain rfl : ad136 = ad148 := (by injection e148)
                                          replace p148 := eq_true p148
                                          replace q148 := eq_true q148
                                          go_wp2_with (first | ((with_reducible refine gate_builtin (b := .append) (xs := #[.tmp 87,.tmp 98]) rfl ?_);at_builtin;refine Kd.R_append k91 (w0 := w) w.heap.size rfl (.tmp 87) (.tmp 98) 52 91 (.agg #[(.int .i64 0),(.int .i64 0),(.int .i64 0),(.int .i64 0),(.int .i64 0),(.int .i64 0)]) 48 rfl Try.underlying52 info91 rfl (by decide) (by omega) u5 x5_2 (⟨x6_1,x9_2,(⟨(rd_T87 t129 x9_2).f0,(rd_T87 t129 x9_2).f1⟩ : S87),(⟨t139,t142⟩ : S87)⟩ : S91) [.int .i64 x6_1,.int .i64 x9_2,.int .i64 ((rd_T87 t129 x9_2).f0),.int .i64 ((rd_T87 t129 x9_2).f1),.int .i64 t139,.int .i64 t142] (fun _ => True) (fun _ => False) rfl rfl ?aP (fun _ hk => hk.elim) ?aF ?aO ?aB ?aS ?aL ?_;(case aP => exact k91_mkM _ _ _ (⟨x6_1,x9_2,(⟨(rd_T87 t129 x9_2).f0,(rd_T87 t129 x9_2).f1⟩ : S87),(⟨t139,t142⟩ : S87)⟩ : S91));(case aB => exact (by repeat (first | (with_reducible first | exact HB.out | apply below_alloc | apply pw_below_drewN | apply below_drew1 | refine below_set ?_ GE137.out) | exact HB.out)));(case aF => exact (fun _ _ => trivial));(case aO => exact (by (with_reducible repeat (first | apply Kd.R_alloc | apply Kd.R_drewN | apply Kd.R_drew));exact HO_5.out));(case aS => exact (below_size (by repeat (first | (with_reducible first | exact HB.out | apply below_alloc | apply pw_below_drewN | apply below_drew1 | refine below_set ?_ GE137.out) | exact HB.out))));(case aL => have := LMc30.out;omega);intro v150 w31 ho hb hg hat;rw [← Ny149.out] at ho;have n0_ := Aside0.mk (Kd.R_over' (by (with_reducible repeat (first | apply Kd.R_alloc | apply Kd.R_drewN | apply Kd.R_drew));exact HO_7.out) (Kd.R_typed (by (with_reducible repeat (first | apply Kd.R_alloc | apply Kd.R_drewN | apply Kd.R_drew));exact HO_5.out)) (by decide) hg);have n1_ := Aside0.mk (blk_grown (g := gb137) (o := .cells #[.int .i64 ((rd_T87 t129 (ji11)).f0),.int .i64 ((rd_T87 t129 (ji11)).f1)] 87 (0,0)) (by refine bP ?_;exact BK137.out) hg (Kd.R_ne HO_5.out BK137.out (by decide)));have n2_ := Aside0.mk (hb);have n3_ := Aside0.mk (ho);clear HO_7;clear BK137;clear HB;clear HO_5;have HO_7 := n0_;have BK137 := n1_;have HB := n2_;have HO151 := n3_;clear n0_ n1_ n2_ n3_;clear ho hb hg hat))
                                          repeat (go_quiet (first | ((with_reducible refine gate_builtin (b := .append) (xs := #[.tmp 87,.tmp 98]) rfl ?_);at_builtin;refine Kd.R_append k91 (w0 := w) w.heap.size rfl (.tmp 87) (.tmp 98) 52 91 (.agg #[(.int .i64 0),(.int .i64 0),(.int .i64 0),(.int .i64 0),(.int .i64 0),(.int .i64 0)]) 48 rfl Try.underlying52 info91 rfl (by decide) (by omega) u5 x5_2 (⟨x6_1,x9_2,(⟨(rd_T87 t129 x9_2).f0,(rd_T87 t129 x9_2).f1⟩ : S87),(⟨t139,t142⟩ : S87)⟩ : S91) [.int .i64 x6_1,.int .i64 x9_2,.int .i64 ((rd_T87 t129 x9_2).f0),.int .i64 ((rd_T87 t129 x9_2).f1),.int .i64 t139,.int .i64 t142] (fun _ => True) (fun _ => False) rfl rfl ?aP (fun _ hk => hk.elim) ?aF ?aO ?aB ?aS ?aL ?_;(case aP => exact k91_mkM _ _ _ (⟨x6_1,x9_2,(⟨(rd_T87 t129 x9_2).f0,(rd_T87 t129 x9_2).f1⟩ : S87),(⟨t139,t142⟩ : S87)⟩ : S91));(case aB => exact (by repeat (first | (with_reducible first | exact HB.out | apply below_alloc | apply pw_below_drewN | apply below_drew1 | refine below_set ?_ GE137.out) | exact HB.out)));(case aF => exact (fun _ _ => trivial));(case aO => exact (by (with_reducible repeat (first | apply Kd.R_alloc | apply Kd.R_drewN | apply Kd.R_drew));exact HO_5.out));(case aS => exact (below_size (by repeat (first | (with_reducible first | exact HB.out | apply below_alloc | apply pw_below_drewN | apply below_drew1 | refine below_set ?_ GE137.out) | exact HB.out))));(case aL => have := LMc30.out;omega);intro v150 w31 ho hb hg hat;rw [← Ny149.out] at ho;have n0_ := Aside0.mk (Kd.R_over' (by (with_reducible repeat (first | apply Kd.R_alloc | apply Kd.R_drewN | apply Kd.R_drew));exact HO_7.out) (Kd.R_typed (by (with_reducible repeat (first | apply Kd.R_alloc | apply Kd.R_drewN | apply Kd.R_drew));exact HO_5.out)) (by decide) hg);have n1_ := Aside0.mk (blk_grown (g := gb137) (o := .cells #[.int .i64 ((rd_T87 t129 (ji11)).f0),.int .i64 ((rd_T87 t129 (ji11)).f1)] 87 (0,0)) (by refine bP ?_;exact BK137.out) hg (Kd.R_ne HO_5.out BK137.out (by decide)));have n2_ := Aside0.mk (hb);have n3_ := Aside0.mk (ho);clear HO_7;clear BK137;clear HB;clear HO_5;have HO_7 := n0_;have BK137 := n1_;have HB := n2_;have HO151 := n3_;clear n0_ n1_ n2_ n3_;clear ho hb hg hat));try go_wp2_with (first | ((with_reducible refine gate_builtin (b := .append) (xs := #[.tmp 87,.tmp 98]) rfl ?_);at_builtin;refine Kd.R_append k91 (w0 := w) w.heap.size rfl (.tmp 87) (.tmp 98) 52 91 (.agg #[(.int .i64 0),(.int .i64 0),(.int .i64 0),(.int .i64 0),(.int .i64 0),(.int .i64 0)]) 48 rfl Try.underlying52 info91 rfl (by decide) (by omega) u5 x5_2 (⟨x6_1,x9_2,(⟨(rd_T87 t129 x9_2).f0,(rd_T87 t129 x9_2).f1⟩ : S87),(⟨t139,t142⟩ : S87)⟩ : S91) [.int .i64 x6_1,.int .i64 x9_2,.int .i64 ((rd_T87 t129 x9_2).f0),.int .i64 ((rd_T87 t129 x9_2).f1),.int .i64 t139,.int .i64 t142] (fun _ => True) (fun _ => False) rfl rfl ?aP (fun _ hk => hk.elim) ?aF ?aO ?aB ?aS ?aL ?_;(case aP => exact k91_mkM _ _ _ (⟨x6_1,x9_2,(⟨(rd_T87 t129 x9_2).f0,(rd_T87 t129 x9_2).f1⟩ : S87),(⟨t139,t142⟩ : S87)⟩ : S91));(case aB => exact (by repeat (first | (with_reducible first | exact HB.out | apply below_alloc | apply pw_below_drewN | apply below_drew1 | refine below_set ?_ GE137.out) | exact HB.out)));(case aF => exact (fun _ _ => trivial));(case aO => exact (by (with_reducible repeat (first | apply Kd.R_alloc | apply Kd.R_drewN | apply Kd.R_drew));exact HO_5.out));(case aS => exact (below_size (by repeat (first | (with_reducible first | exact HB.out | apply below_alloc | apply pw_below_drewN | apply below_drew1 | refine below_set ?_ GE137.out) | exact HB.out))));(case aL => have := LMc30.out;omega);intro v150 w31 ho hb hg hat;rw [← Ny149.out] at ho;have n0_ := Aside0.mk (Kd.R_over' (by (with_reducible repeat (first | apply Kd.R_alloc | apply Kd.R_drewN | apply Kd.R_drew));exact HO_7.out) (Kd.R_typed (by (with_reducible repeat (first | apply Kd.R_alloc | apply Kd.R_drewN | apply Kd.R_drew));exact HO_5.out)) (by decide) hg);have n1_ := Aside0.mk (blk_grown (g := gb137) (o := .cells #[.int .i64 ((rd_T87 t129 (ji11)).f0),.int .i64 ((rd_T87 t129 (ji11)).f1)] 87 (0,0)) (by refine bP ?_;exact BK137.out) hg (Kd.R_ne HO_5.out BK137.out (by decide)));have n2_ := Aside0.mk (hb);have n3_ := Aside0.mk (ho);clear HO_7;clear BK137;clear HB;clear HO_5;have HO_7 := n0_;have BK137 := n1_;have HB := n2_;have HO151 := n3_;clear n0_ n1_ n2_ n3_;clear ho hb hg hat)))
                                          go_roundg kj17
                                          case measure => have := HK1.out;have := HK2.out;have := HJ17.out;omega
                                          case rel => exact ⟨(y149),(wrap64 (x9_2 + 1)),(by first | rfl | (simp;done) | (simp [*];done)),H',⟨by have := HK1.out;have := HK2.out;have := HJ17.out;omega⟩,⟨by (with_reducible repeat (first | apply Kd.R_alloc | apply Kd.R_drewN | apply Kd.R_drew));exact HO151.out⟩,⟨by (with_reducible repeat (first | apply Kd.R_alloc | apply Kd.R_drewN | apply Kd.R_drew));exact Kd.R_mono HO_7.out (fun _ hk => trivial)⟩,⟨by repeat (first | (with_reducible first | exact HB.out | apply below_alloc | apply pw_below_drewN | apply below_drew1 | refine below_set ?_ GE137.out) | exact HB.out)⟩⟩
                                        · rw [if_neg c30] at H
                                          exact absurd H (by simp)
                                      · rw [if_neg c29] at H
                                        have c29b0 : decide (a1 ≤ t139) = false := decide_eq_false c29
                                        clear c29
                                        have H' := Aside0.mk H
                                        clear H
                                        have p147 : 0 ≤ (x9_2 : Int) := of_decide_eq_true (by first | (with_reducible assumption) | assumption)
                                        have q147 : x9_2 < (t129.length : Int) := of_decide_eq_true (by first | (with_reducible assumption) | assumption)
                                        obtain ⟨ad147,e147,hx147_0,hx147_1⟩ := at_T87 (Kd.R_reads' HO_7.out).2.2 x9_2 p147 q147
                                        obtain rfl : ad136 = ad147 := (by injection e147)
                                        replace p147 := eq_true p147
                                        replace q147 := eq_true q147
                                        go_wp2
                                        repeat (go_quiet (fail);try go_wp2)
                                        go_roundg kj17
                                        case measure => have := HK1.out;have := HK2.out;have := HJ17.out;omega
                                        case rel => exact ⟨(x5_2),(wrap64 (x9_2 + 1)),(by first | rfl | (simp;done) | (simp [*];done)),H',⟨by have := HK1.out;have := HK2.out;have := HJ17.out;omega⟩,⟨by (with_reducible repeat (first | apply Kd.R_alloc | apply Kd.R_drewN | apply Kd.R_drew));exact HO_5.out⟩,⟨by (with_reducible repeat (first | apply Kd.R_alloc | apply Kd.R_drewN | apply Kd.R_drew));exact Kd.R_mono HO_7.out (fun _ hk => trivial)⟩,⟨by repeat (first | (with_reducible first | exact HB.out | apply below_alloc | apply pw_below_drewN | apply below_drew1 | refine below_set ?_ GE137.out) | exact HB.out)⟩⟩
                                    · rw [if_neg c28] at H
                                      have c28b0 : decide (a1 ≤ ((rd_T87 t129 x9_2).f0)) = false := decide_eq_false c28
                                      clear c28
                                      have H' := Aside0.mk H
                                      clear H
                                      have p147 : 0 ≤ (x9_2 : Int) := of_decide_eq_true (by first | (with_reducible assumption) | assumption)
                                      have q147 : x9_2 < (t129.length : Int) := of_decide_eq_true (by first | (with_reducible assumption) | assumption)
                                      obtain ⟨ad147,e147,hx147_0,hx147_1⟩ := at_T87 (Kd.R_reads' HO_7.out).2.2 x9_2 p147 q147
                                      obtain rfl : ad136 = ad147 := (by injection e147)
                                      replace p147 := eq_true p147
                                      replace q147 := eq_true q147
                                      go_wp2
                                      repeat (go_quiet (fail);try go_wp2)
                                      go_roundg kj17
                                      case measure => have := HK1.out;have := HK2.out;have := HJ17.out;omega
                                      case rel => exact ⟨(x5_2),(wrap64 (x9_2 + 1)),(by first | rfl | (simp;done) | (simp [*];done)),H',⟨by have := HK1.out;have := HK2.out;have := HJ17.out;omega⟩,⟨by (with_reducible repeat (first | apply Kd.R_alloc | apply Kd.R_drewN | apply Kd.R_drew));exact HO_5.out⟩,⟨by (with_reducible repeat (first | apply Kd.R_alloc | apply Kd.R_drewN | apply Kd.R_drew));exact Kd.R_mono HO_7.out (fun _ hk => trivial)⟩,⟨by repeat (first | (with_reducible first | exact HB.out | apply below_alloc | apply pw_below_drewN | apply below_drew1 | refine below_set ?_ GE137.out) | exact HB.out)⟩⟩
                                  · rw [if_neg c27] at H
                                    exact absurd H (by simp)
                                · rw [if_neg c26] at H
                                  exact absurd H (by simp)
                        · rw [if_neg c15] at H
                          exact absurd H (by simp)
                      · rw [if_neg c14] at H
                        exact absurd H (by simp)
                    · rw [if_neg c13] at H
                      exact absurd H (by simp)
                  · rw [if_neg c12] at H
                    exact absurd H (by simp)
                · rw [if_neg c10] at H
                  have c10b0 : decide ((wrap64 (x9_2 + 1)) < (t129.length : Int)) = false := decide_eq_false c10
                  clear c10
                  have H' := Aside0.mk H
                  clear H
                  obtain ⟨Ao32,co32,eo32⟩ := Kd.R_slice HO_7.out
                  subst eo32
                  go_wp2
                  repeat (go_quiet (fail);try go_wp2)
                  go_roundg k2
                  case measure => have := HK1.out;have := HK2.out;omega
                  case rel => exact ⟨(x5_2),(wrap64 (x6_1 + 1)),(by first | rfl | (simp;done) | (simp [*];done)),H',⟨by have := HK1.out;have := HK2.out;omega⟩,⟨by (with_reducible repeat (first | apply Kd.R_alloc | apply Kd.R_drewN | apply Kd.R_drew));exact HO_5.out⟩,⟨by repeat (first | (with_reducible first | exact HB.out | apply below_alloc | apply pw_below_drewN | apply below_drew1) | exact HB.out)⟩⟩
          · replace c8 := Bool.eq_false_iff.mpr c8
            subst c8
            have H1 : (some (([] : List (S91)))) = some r := by rw [if_neg (show ¬ (false = true) by decide)] at H;exact H
            clear H
            have H := H1
            clear H1
            obtain ⟨y133,hy133⟩ : ∃ y_ : List (S91),y_ = (([] : List (S91))) := ⟨_,rfl⟩
            replace H : (some y133) = some r := by first | (rw [hy133];with_reducible exact H) | (have H2_ := (Option.bind_some _ _).symm.trans H;rw [hy133];with_reducible exact H2_) | (have H2_ := (Option.bind_some _ _).symm.trans H;with_reducible exact H2_) | with_reducible exact H | (rw [hy133];exact H) | exact H
            have Ny133 := Aside0.mk hy133
            clear hy133
            obtain rfl := Option.some.inj H
            have p128 : 0 ≤ (x6_1 : Int) := of_decide_eq_true (by first | (with_reducible assumption) | assumption)
            have q128 : x6_1 < (l0.length : Int) := of_decide_eq_true (by first | (with_reducible assumption) | assumption)
            obtain ⟨ad128,A128_0,c128_0,e128,hx128_0,hl128_0,hi128_0⟩ := at_L4 HR0.out x6_1 p128 q128
            cases e128
            replace hx128_0 := (HB.out.cell (World.block_lt_of_cell? w _ hx128_0)).trans hx128_0
            have HR128_0 := Aside0.mk hi128_0
            have HC128_0 := Aside0.mk hl128_0
            clear hi128_0 hl128_0
            replace p128 := eq_true p128
            replace q128 := eq_true q128
            go_wp2_with (first | (go_at_call 66;(with_reducible refine (spec_Prefix.calls k1 _ _ (rd_L4 l0 x6_1) t129 false _ ?side1 ?side2 A7.out).mono ?_);(case side1 => repeat (first | exact (Kd.C_below HR128_0.out HB.out) | (with_reducible refine Kd.C_alloc ?_ _) | (with_reducible refine Kd.C_drewN ?_ _) | (with_reducible refine Kd.C_drew ?_)));(case side2 => exact HC128_0.out);rintro e w33 ⟨v131,rfl,ho0,hb⟩;have n0_ := Aside0.mk (Kd.R_below (by (with_reducible repeat (first | apply Kd.R_alloc | apply Kd.R_drewN | apply Kd.R_drew));exact HO_5.out) hb);have n1_ := Aside0.mk (Kd.R_lower ho0 (below_size (by repeat (first | (with_reducible first | exact HB.out | apply below_alloc | apply pw_below_drewN | apply below_drew1) | exact HB.out))));have n2_ := Aside0.mk (below_step (by repeat (first | (with_reducible first | exact HB.out | apply below_alloc | apply pw_below_drewN | apply below_drew1) | exact HB.out)) hb);clear HO_5;clear HB;have HO_5 := n0_;have HO132 := n1_;have HB := n2_;clear n0_ n1_ n2_;(try clear hb);(try clear hb2);(try clear hk);(try clear hi);(try clear ho0)) | ((with_reducible refine gate_dst (N := 32) rfl ?_);refine Kd.R_lit k91 _ 91 ?hg (N := 32) ?hd (xs := ([] : List (S91))) (inner := []) (ok := fun _ => True) (okp := fun _ => True) ?hr ?hp (fun _ hk => hk) trivial (Below.refl _ _) (Nat.le_refl _) (by simp) ?_;(case hd => rfl);(case hg => rfl);(case hr => first | (go_simp;done) | (go_simp;rfl));(case hp => exact (Reps.none _ _));intro v134 w34 ho35 hb hg_ hnew_;clear hg_ hnew_;(first | rw [← Ny133.out] at ho35 | (simp only [Int.reduceToNat] at ho35;rw [← Ny133.out] at ho35));have n0_ := Aside0.mk (Kd.R_elder' (by (with_reducible repeat (first | apply Kd.R_alloc | apply Kd.R_drewN | apply Kd.R_drew));exact HO_5.out) (Kd.R_base ho35) hb);have n1_ := Aside0.mk (Kd.R_below (by (with_reducible repeat (first | apply Kd.R_alloc | apply Kd.R_drewN | apply Kd.R_drew));exact HO132.out) hb);have n2_ := Aside0.mk (Kd.R_lower (Kd.R_new' ho35 (Kd.R_lt (by (with_reducible repeat (first | apply Kd.R_alloc | apply Kd.R_drewN | apply Kd.R_drew));exact HO_5.out))) (below_size (by repeat (first | (with_reducible first | exact HB.out | apply below_alloc | apply pw_below_drewN | apply below_drew1) | exact HB.out))));have n3_ := Aside0.mk (below_step (by repeat (first | (with_reducible first | exact HB.out | apply below_alloc | apply pw_below_drewN | apply below_drew1) | exact HB.out)) hb);clear HO_5;clear HO132;clear HB;have HO_5 := n0_;have HO132 := n1_;have HO135 := n2_;have HB := n3_;clear n0_ n1_ n2_ n3_;clear hb ho35))
            repeat (go_quiet (first | (go_at_call 66;(with_reducible refine (spec_Prefix.calls k1 _ _ (rd_L4 l0 x6_1) t129 false _ ?side1 ?side2 A7.out).mono ?_);(case side1 => repeat (first | exact (Kd.C_below HR128_0.out HB.out) | (with_reducible refine Kd.C_alloc ?_ _) | (with_reducible refine Kd.C_drewN ?_ _) | (with_reducible refine Kd.C_drew ?_)));(case side2 => exact HC128_0.out);rintro e w33 ⟨v131,rfl,ho0,hb⟩;have n0_ := Aside0.mk (Kd.R_below (by (with_reducible repeat (first | apply Kd.R_alloc | apply Kd.R_drewN | apply Kd.R_drew));exact HO_5.out) hb);have n1_ := Aside0.mk (Kd.R_lower ho0 (below_size (by repeat (first | (with_reducible first | exact HB.out | apply below_alloc | apply pw_below_drewN | apply below_drew1) | exact HB.out))));have n2_ := Aside0.mk (below_step (by repeat (first | (with_reducible first | exact HB.out | apply below_alloc | apply pw_below_drewN | apply below_drew1) | exact HB.out)) hb);clear HO_5;clear HB;have HO_5 := n0_;have HO132 := n1_;have HB := n2_;clear n0_ n1_ n2_;(try clear hb);(try clear hb2);(try clear hk);(try clear hi);(try clear ho0)) | ((with_reducible refine gate_dst (N := 32) rfl ?_);refine Kd.R_lit k91 _ 91 ?hg (N := 32) ?hd (xs := ([] : List (S91))) (inner := []) (ok := fun _ => True) (okp := fun _ => True) ?hr ?hp (fun _ hk => hk) trivial (Below.refl _ _) (Nat.le_refl _) (by simp) ?_;(case hd => rfl);(case hg => rfl);(case hr => first | (go_simp;done) | (go_simp;rfl));(case hp => exact (Reps.none _ _));intro v134 w34 ho35 hb hg_ hnew_;clear hg_ hnew_;(first | rw [← Ny133.out] at ho35 | (simp only [Int.reduceToNat] at ho35;rw [← Ny133.out] at ho35));have n0_ := Aside0.mk (Kd.R_elder' (by (with_reducible repeat (first | apply Kd.R_alloc | apply Kd.R_drewN | apply Kd.R_drew));exact HO_5.out) (Kd.R_base ho35) hb);have n1_ := Aside0.mk (Kd.R_below (by (with_reducible repeat (first | apply Kd.R_alloc | apply Kd.R_drewN | apply Kd.R_drew));exact HO132.out) hb);have n2_ := Aside0.mk (Kd.R_lower (Kd.R_new' ho35 (Kd.R_lt (by (with_reducible repeat (first | apply Kd.R_alloc | apply Kd.R_drewN | apply Kd.R_drew));exact HO_5.out))) (below_size (by repeat (first | (with_reducible first | exact HB.out | apply below_alloc | apply pw_below_drewN | apply below_drew1) | exact HB.out))));have n3_ := Aside0.mk (below_step (by repeat (first | (with_reducible first | exact HB.out | apply below_alloc | apply pw_below_drewN | apply below_drew1) | exact HB.out)) hb);clear HO_5;clear HO132;clear HB;have HO_5 := n0_;have HO132 := n1_;have HO135 := n2_;have HB := n3_;clear n0_ n1_ n2_ n3_;clear hb ho35));try go_wp2_with (first | (go_at_call 66;(with_reducible refine (spec_Prefix.calls k1 _ _ (rd_L4 l0 x6_1) t129 false _ ?side1 ?side2 A7.out).mono ?_);(case side1 => repeat (first | exact (Kd.C_below HR128_0.out HB.out) | (with_reducible refine Kd.C_alloc ?_ _) | (with_reducible refine Kd.C_drewN ?_ _) | (with_reducible refine Kd.C_drew ?_)));(case side2 => exact HC128_0.out);rintro e w33 ⟨v131,rfl,ho0,hb⟩;have n0_ := Aside0.mk (Kd.R_below (by (with_reducible repeat (first | apply Kd.R_alloc | apply Kd.R_drewN | apply Kd.R_drew));exact HO_5.out) hb);have n1_ := Aside0.mk (Kd.R_lower ho0 (below_size (by repeat (first | (with_reducible first | exact HB.out | apply below_alloc | apply pw_below_drewN | apply below_drew1) | exact HB.out))));have n2_ := Aside0.mk (below_step (by repeat (first | (with_reducible first | exact HB.out | apply below_alloc | apply pw_below_drewN | apply below_drew1) | exact HB.out)) hb);clear HO_5;clear HB;have HO_5 := n0_;have HO132 := n1_;have HB := n2_;clear n0_ n1_ n2_;(try clear hb);(try clear hb2);(try clear hk);(try clear hi);(try clear ho0)) | ((with_reducible refine gate_dst (N := 32) rfl ?_);refine Kd.R_lit k91 _ 91 ?hg (N := 32) ?hd (xs := ([] : List (S91))) (inner := []) (ok := fun _ => True) (okp := fun _ => True) ?hr ?hp (fun _ hk => hk) trivial (Below.refl _ _) (Nat.le_refl _) (by simp) ?_;(case hd => rfl);(case hg => rfl);(case hr => first | (go_simp;done) | (go_simp;rfl));(case hp => exact (Reps.none _ _));intro v134 w34 ho35 hb hg_ hnew_;clear hg_ hnew_;(first | rw [← Ny133.out] at ho35 | (simp only [Int.reduceToNat] at ho35;rw [← Ny133.out] at ho35));have n0_ := Aside0.mk (Kd.R_elder' (by (with_reducible repeat (first | apply Kd.R_alloc | apply Kd.R_drewN | apply Kd.R_drew));exact HO_5.out) (Kd.R_base ho35) hb);have n1_ := Aside0.mk (Kd.R_below (by (with_reducible repeat (first | apply Kd.R_alloc | apply Kd.R_drewN | apply Kd.R_drew));exact HO132.out) hb);have n2_ := Aside0.mk (Kd.R_lower (Kd.R_new' ho35 (Kd.R_lt (by (with_reducible repeat (first | apply Kd.R_alloc | apply Kd.R_drewN | apply Kd.R_drew));exact HO_5.out))) (below_size (by repeat (first | (with_reducible first | exact HB.out | apply below_alloc | apply pw_below_drewN | apply below_drew1) | exact HB.out))));have n3_ := Aside0.mk (below_step (by repeat (first | (with_reducible first | exact HB.out | apply below_alloc | apply pw_below_drewN | apply below_drew1) | exact HB.out)) hb);clear HO_5;clear HO132;clear HB;have HO_5 := n0_;have HO132 := n1_;have HO135 := n2_;have HB := n3_;clear n0_ n1_ n2_ n3_;clear hb ho35)))
            go_ret
            exact ⟨_,by first | rfl | (simp [errW_none,errW_some] <;> rfl) | (simp [*,errW_none,errW_some] <;> rfl),by (with_reducible repeat (first | apply Kd.R_alloc | apply Kd.R_drewN | apply Kd.R_drew));exact Kd.R_mono HO135.out (fun _ hk => trivial),by repeat (first | (with_reducible first | exact HB.out | apply below_alloc | apply pw_below_drewN | apply below_drew1) | exact HB.out)⟩
        · rw [if_neg c6] at H
          exact absurd H (by simp)
      · rw [if_neg c5] at H
        have c5b0 : decide (x6_1 < (l0.length : Int)) = false := decide_eq_false c5
        clear c5
        obtain rfl := Option.some.inj H
        go_wp2
        repeat (go_quiet (fail);try go_wp2)
        go_ret
        exact ⟨_,by first | rfl | (simp [errW_none,errW_some] <;> rfl) | (simp [*,errW_none,errW_some] <;> rfl),by (with_reducible repeat (first | apply Kd.R_alloc | apply Kd.R_drewN | apply Kd.R_drew));exact HO_5.out,by repeat (first | (with_reducible first | exact HB.out | apply below_alloc | apply pw_below_drewN | apply below_drew1) | exact HB.out)⟩

/-! ### laws_toSlot: function 86 -/
theorem laws_toSlot.cells2 {w : World} {g : Nat} {t : TypeId} {a0 a1 : Value} (h : w.heap[g]? = some (.cells #[a0,a1] t (0,0))) : w.cell? ⟨g,0,none⟩ = some a0 ∧ w.cell? ⟨g,1,none⟩ = some a1 ∧ w.frozen? ⟨g,0,none⟩ = false ∧ w.frozen? ⟨g,1,none⟩ = false := ⟨(blk_cell h 0).trans rfl,(blk_cell h 1).trans rfl,blk_frozen h 0,blk_frozen h 1⟩
def laws_toSlot.f (a0_0 : Int) (a0_1 : Int) : Option (Int × Int) := some (a0_0,a0_1)
set_option maxHeartbeats 8000000 in
set_option maxRecDepth 100000 in
theorem laws_toSlot.calls (a0_0 : Int) (a0_1 : Int) (r1 : Int) (r2 : Int) (w : World) (h : laws_toSlot.f a0_0 a0_1 = some (r1,r2)) :
    Calls Try.prog 86 #[.agg #[.int .i64 a0_0,.int .i64 a0_1]] w fun e w' => e = .returned (.agg #[.int .i64 r1,.int .i64 r2]) ∧ Below w.heap.size w w' := by
  have hu108 := Try.underlying108
  have hu87 := Try.underlying87
  have HB := Aside0.mk (Below.refl w.heap.size w)
  have H : (some (a0_0,a0_1)) = some (r1,r2) := h
  clear h
  simp only [Option.some.injEq,Prod.mk.injEq] at H
  obtain ⟨rfl,rfl⟩ := H
  go_enter Try.func86,Try.ntmps86
  go_wp2_with (first | ((with_reducible refine gate_dst (N := 1) rfl ?_);refine box_event ?hg (N := 1) ?hd (cs := #[.int .i64 a0_0,.int .i64 a0_1]) (t := 108) ?hr ?_;(case hd => rfl);(case hg => rfl);(case hr => first | (go_simp;done) | (go_simp;rfl));intro gb152 hg w2 hbox hb;have n0_ := Aside0.mk (below_step (by repeat (first | (with_reducible first | exact HB.out | apply below_alloc | apply pw_below_drewN | apply below_drew1) | exact HB.out)) hb);have n1_ := Aside0.mk (hbox);have n2_ := Aside0.mk ((by rw [hg];exact (below_size (by repeat (first | (with_reducible first | exact HB.out | apply below_alloc | apply pw_below_drewN | apply below_drew1) | exact HB.out))) : w.heap.size ≤ gb152));have n3_ := Aside0.mk ((by rw [hg];exact (below_size (by repeat (first | (with_reducible first | exact HB.out | apply below_alloc | apply pw_below_drewN | apply below_drew1) | exact HB.out))) : w.heap.size ≤ gb152));clear HB;have HB := n0_;have BK152 := n1_;have GW152 := n2_;have GE152 := n3_;clear n0_ n1_ n2_ n3_;clear hb hbox hg) | ((with_reducible refine gate_dst (N := 2) rfl ?_);refine box_event ?hg (N := 2) ?hd (cs := #[.int .i64 0,.int .i64 0]) (t := 87) ?hr ?_;(case hd => rfl);(case hg => rfl);(case hr => first | (go_simp;done) | (go_simp;rfl));intro gb153 hg w3 hbox hb;have n0_ := Aside0.mk (blk_below (g := gb152) (o := .cells #[.int .i64 a0_0,.int .i64 a0_1] 108 (0,0)) (by refine bP ?_;exact BK152.out) hb);have n1_ := Aside0.mk (below_step (by repeat (first | (with_reducible first | exact HB.out | apply below_alloc | apply pw_below_drewN | apply below_drew1 | refine below_set ?_ GE152.out) | exact HB.out)) hb);have n2_ := Aside0.mk (hbox);have n3_ := Aside0.mk ((by rw [hg];exact (below_size (by repeat (first | (with_reducible first | exact HB.out | apply below_alloc | apply pw_below_drewN | apply below_drew1 | refine below_set ?_ GE152.out) | exact HB.out))) : w.heap.size ≤ gb153));have n4_ := Aside0.mk ((by rw [hg];exact (below_size (by repeat (first | (with_reducible first | exact HB.out | apply below_alloc | apply pw_below_drewN | apply below_drew1 | refine below_set ?_ GE152.out) | exact HB.out))) : w.heap.size ≤ gb153));have n5_ := Aside0.mk ((by rw [hg];exact Nat.ne_of_lt (blk_lt (g := gb152) (o := .cells #[.int .i64 a0_0,.int .i64 a0_1] 108 (0,0)) (by refine bP ?_;exact BK152.out)) : gb152 ≠ gb153));have n6_ := Aside0.mk ((by rw [hg];exact Nat.ne_of_gt (blk_lt (g := gb152) (o := .cells #[.int .i64 a0_0,.int .i64 a0_1] 108 (0,0)) (by refine bP ?_;exact BK152.out)) : gb153 ≠ gb152));clear BK152;clear HB;have BK152 := n0_;have HB := n1_;have BK153 := n2_;have GW153 := n3_;have GE153 := n4_;have NB152_153 := n5_;have NB153_152 := n6_;clear n0_ n1_ n2_ n3_ n4_ n5_ n6_;clear hb hbox hg) | ((with_reducible refine gate_dst (N := 3) rfl ?_);refine box_event ?hg (N := 3) ?hd (cs := #[.int .i64 0,.int .i64 0]) (t := 87) ?hr ?_;(case hd => rfl);(case hg => rfl);(case hr => first | (go_simp;done) | (go_simp;rfl));intro gb154 hg w4 hbox hb;have n0_ := Aside0.mk (blk_below (g := gb152) (o := .cells #[.int .i64 a0_0,.int .i64 a0_1] 108 (0,0)) (by refine bP ?_;exact BK152.out) hb);have n1_ := Aside0.mk (blk_below (g := gb153) (o := .cells #[.int .i64 0,.int .i64 0] 87 (0,0)) (by refine bP ?_;exact BK153.out) hb);have n2_ := Aside0.mk (below_step (by repeat (first | (with_reducible first | exact HB.out | apply below_alloc | apply pw_below_drewN | apply below_drew1 | refine below_set ?_ GE152.out | refine below_set ?_ GE153.out) | exact HB.out)) hb);have n3_ := Aside0.mk (hbox);have n4_ := Aside0.mk ((by rw [hg];exact (below_size (by repeat (first | (with_reducible first | exact HB.out | apply below_alloc | apply pw_below_drewN | apply below_drew1 | refine below_set ?_ GE152.out | refine below_set ?_ GE153.out) | exact HB.out))) : w.heap.size ≤ gb154));have n5_ := Aside0.mk ((by rw [hg];exact (below_size (by repeat (first | (with_reducible first | exact HB.out | apply below_alloc | apply pw_below_drewN | apply below_drew1 | refine below_set ?_ GE152.out | refine below_set ?_ GE153.out) | exact HB.out))) : w.heap.size ≤ gb154));have n6_ := Aside0.mk ((by rw [hg];exact Nat.ne_of_lt (blk_lt (g := gb152) (o := .cells #[.int .i64 a0_0,.int .i64 a0_1] 108 (0,0)) (by refine bP ?_;exact BK152.out)) : gb152 ≠ gb154));have n7_ := Aside0.mk ((by rw [hg];exact Nat.ne_of_gt (blk_lt (g := gb152) (o := .cells #[.int .i64 a0_0,.int .i64 a0_1] 108 (0,0)) (by refine bP ?_;exact BK152.out)) : gb154 ≠ gb152));have n8_ := Aside0.mk ((by rw [hg];exact Nat.ne_of_lt (blk_lt (g := gb153) (o := .cells #[.int .i64 0,.int .i64 0] 87 (0,0)) (by refine bP ?_;exact BK153.out)) : gb153 ≠ gb154));have n9_ := Aside0.mk ((by rw [hg];exact Nat.ne_of_gt (blk_lt (g := gb153) (o := .cells #[.int .i64 0,.int .i64 0] 87 (0,0)) (by refine bP ?_;exact BK153.out)) : gb154 ≠ gb153));clear BK152;clear BK153;clear HB;have BK152 := n0_;have BK153 := n1_;have HB := n2_;have BK154 := n3_;have GW154 := n4_;have GE154 := n5_;have NB152_154 := n6_;have NB154_152 := n7_;have NB153_154 := n8_;have NB154_153 := n9_;clear n0_ n1_ n2_ n3_ n4_ n5_ n6_ n7_ n8_ n9_;clear hb hbox hg;have hnb5 := NB152_153.out;have hnc5 := NB153_152.out;have hnb6 := NB152_154.out;have hnc6 := NB154_152.out;obtain ⟨hcz7_0,hcz7_1,hfz7_0,hfz7_1⟩ := laws_toSlot.cells2 BK152.out;have hnb8 := NB154_153.out;have hnc8 := NB153_154.out;obtain ⟨hcz9_0,hcz9_1,hfz9_0,hfz9_1⟩ := laws_toSlot.cells2 BK154.out;obtain ⟨hcz10_0,hcz10_1,hfz10_0,hfz10_1⟩ := laws_toSlot.cells2 BK153.out))
  refine bodyPost_ret (results_cell_row rfl _ _ gb153 87 #[.int .i64 a0_0,.int .i64 a0_1] (0,0) _ rfl (by refine bP ?_;refine blk_put (cs := #[.int .i64 a0_0,.int .i64 0]) ?_ 1 _ rfl;refine bP ?_;refine blk_put (cs := #[.int .i64 0,.int .i64 0]) ?_ 0 _ rfl;refine bP ?_;refine blk_far ?_ NB153_154.out _;refine bP ?_;refine blk_far ?_ NB153_154.out _;refine bP ?_;exact BK153.out) Try.underlying87 rfl (by kernel_rfl)) rfl ?_
  exact ⟨by first | rfl | (simp [errW_none,errW_some] <;> rfl) | (simp [*,errW_none,errW_some] <;> rfl),by repeat (first | (with_reducible first | exact HB.out | apply below_alloc | apply pw_below_drewN | apply below_drew1 | refine below_set ?_ GE152.out | refine below_set ?_ GE153.out | refine below_set ?_ GE154.out) | exact HB.out)⟩

/-! ### laws_toSlotS: function 68 -/
def laws_toSlotS.l0 : Nat → List (S108) → List (S87) → Int → Option ((List (S87)))
  | 0,_,_,_ => none
  | k + 1,x0,x3,x4 => if x4 < (x0.length : Int) then (if 0 ≤ x4 then ((laws_toSlot.f ((rd_T108 x0 x4).f0) ((rd_T108 x0 x4).f1)).bind fun bt159 => (if x4 < (x3.length : Int) then (laws_toSlotS.l0 k x0 (x3.set (x4 : Int).toNat (⟨bt159.1,bt159.2⟩ : S87)) (wrap64 (x4 + 1))) else (none))) else (none)) else (some x3)
def laws_toSlotS.f (k : Nat) (l0 : List (S108)) : Option ((List (S87))) := if 0 ≤ (l0.length : Int) then (if ((l0.length : Int) : Int).toNat ≤ 17592186044416 then (laws_toSlotS.l0 k l0 (List.replicate ((l0.length : Int) : Int).toNat z87) 0) else (none)) else (none)
theorem laws_toSlotS.mono_l : ∀ k,(∀ y0 y1 y2,LeO (laws_toSlotS.l0 k y0 y1 y2) (laws_toSlotS.l0 (k + 1) y0 y1 y2))
  | 0 => fun _ _ _ r h => by simp [laws_toSlotS.l0] at h
  | k + 1 => by
    have ih0 := laws_toSlotS.mono_l k
    · intro y0 y1 y2
      unfold laws_toSlotS.l0
      repeat' first
      | (with_reducible exact ih0 _ _ _)
      | (with_reducible exact LeO.refl _)
      | (with_reducible exact LeO.none _)
      | (with_reducible refine LeO.ite ?_ ?_)
      | (with_reducible refine LeO.bind ?_ (fun _ => ?_))
      | exact ih0 _ _ _
      | exact LeO.none _
      | refine LeO.ite ?_ ?_
      | refine LeO.bind ?_ (fun _ => ?_)
theorem laws_toSlotS.mono : ∀ a0 k,LeO (laws_toSlotS.f k a0) (laws_toSlotS.f (k + 1) a0) := by
  intro a0 k
  have ih0 := laws_toSlotS.mono_l k
  unfold laws_toSlotS.f
  repeat' first
      | (with_reducible exact ih0 _ _ _)
      | (with_reducible exact LeO.refl _)
      | (with_reducible exact LeO.none _)
      | (with_reducible refine LeO.ite ?_ ?_)
      | (with_reducible refine LeO.bind ?_ (fun _ => ?_))
      | exact ih0 _ _ _
      | exact LeO.none _
      | refine LeO.ite ?_ ?_
      | refine LeO.bind ?_ (fun _ => ?_)
set_option maxHeartbeats 8000000 in
set_option maxRecDepth 100000 in
theorem laws_toSlotS.calls (k : Nat) (A0 : Option Addr) (c0 : Nat) (l0 : List (S108)) (r : List (S87)) (w : World) (hr0 : Kd.C k108 w A0 l0.length l0) (hc0 : l0.length ≤ c0) (h : laws_toSlotS.f k l0 = some r) :
    Calls Try.prog 68 #[.slice A0 l0.length c0] w fun e w' => ∃ v0_ : Value,e = .returned (v0_) ∧ Kd.R k87 87 w' w.heap.size (fun _ => True) v0_ r ∧ Below w.heap.size w w' := by
  have hu108 := Try.underlying108
  have hu87 := Try.underlying87
  have HR0 := Aside0.mk hr0
  have HC0 := Aside0.mk hc0
  clear hr0 hc0
  have HB := Aside0.mk (Below.refl w.heap.size w)
  have H : (if 0 ≤ (l0.length : Int) then (if ((l0.length : Int) : Int).toNat ≤ 17592186044416 then (laws_toSlotS.l0 k l0 (List.replicate ((l0.length : Int) : Int).toNat z87) 0) else (none)) else (none)) = some r := h
  clear h
  by_cases c2 : 0 ≤ (l0.length : Int)
  · rw [if_pos c2] at H
    have c2b0 := eq_true c2
    have c2b1 : decide (0 ≤ (l0.length : Int)) = true := decide_eq_true c2
    clear c2
    by_cases c3 : ((l0.length : Int) : Int).toNat ≤ 17592186044416
    · rw [if_pos c3] at H
      have c3b0 := eq_true c3
      have c3b1 : decide (((l0.length : Int) : Int).toNat ≤ 17592186044416) = true := decide_eq_true c3
      clear c3
      obtain ⟨y155,hy155⟩ : ∃ y_ : List (S87),y_ = (List.replicate ((l0.length : Int) : Int).toNat z87) := ⟨_,rfl⟩
      replace H : (laws_toSlotS.l0 k l0 y155 0) = some r := by first | (rw [hy155];with_reducible exact H) | (have H2_ := (Option.bind_some _ _).symm.trans H;rw [hy155];with_reducible exact H2_) | (have H2_ := (Option.bind_some _ _).symm.trans H;with_reducible exact H2_) | with_reducible exact H | (rw [hy155];exact H) | exact H
      have Ny155 := Aside0.mk hy155
      clear hy155
      have H' := Aside0.mk H
      clear H
      go_enter Try.func68,Try.ntmps68
      go_wp2_with (first | ((with_reducible refine gate_dst (N := 7) rfl ?_);refine Kd.R_make k87 _ 87 rfl (N := 7) rfl 83 _ _ rfl (l0.length : Int) rfl rfl Try.underlying83 (.agg #[(.int .i64 0),(.int .i64 0)]) 16 info87 rfl (by decide) (by omega) z87 (ok := fun _ => True) (okp := fun _ => True) (k87_mkM _ _ _ z87 ) (fun _ hk => hk) trivial (of_decide_eq_true (by first | (with_reducible assumption) | assumption)) (Nat.le_trans (Nat.mul_le_mul_right _ (of_decide_eq_true (by first | (with_reducible assumption) | assumption) : (l0.length : Int).toNat ≤ 17592186044416)) (by omega)) (Below.refl _ _) (Nat.le_refl _) ?_;intro v156 w4 ho5 hb hg_ hnew_;clear hg_ hnew_;(first | rw [← Ny155.out] at ho5 | (simp only [Int.reduceToNat] at ho5;rw [← Ny155.out] at ho5));have n0_ := Aside0.mk (Kd.R_lower ho5 (below_size (by repeat (first | (with_reducible first | exact HB.out | apply below_alloc | apply pw_below_drewN | apply below_drew1) | exact HB.out))));have n1_ := Aside0.mk (below_step (by repeat (first | (with_reducible first | exact HB.out | apply below_alloc | apply pw_below_drewN | apply below_drew1) | exact HB.out)) hb);clear HB;have HO157 := n0_;have HB := n1_;clear n0_ n1_;clear hb ho5))
      go_loopg [4] k (fun kq v4 w' => ∃ (x3_1 : List (S87)) (x4_1 : Int),v4 = .int .i64 x4_1 ∧ Aside0 (laws_toSlotS.l0 kq l0 x3_1 x4_1 = some r) ∧ Aside0 (kq ≤ k) ∧ Aside0 (Kd.R k87 87 w' w.heap.size (fun _ => True) v156 x3_1) ∧ Aside0 (Below w.heap.size w w'))
      case atStart => exact ⟨(y155),(0),(by first | rfl | (simp;done) | (simp [*];done)),H',⟨Nat.le_refl _⟩,⟨by (with_reducible repeat (first | apply Kd.R_alloc | apply Kd.R_drewN | apply Kd.R_drew));exact HO157.out⟩,⟨by repeat (first | (with_reducible first | exact HB.out | apply below_alloc | apply pw_below_drewN | apply below_drew1) | exact HB.out)⟩⟩
      case round =>
        clear H'
        try clear c2
        try clear c2b0
        try clear c2b1
        try clear p2
        try clear c3
        try clear c3b0
        try clear c3b1
        obtain ⟨x3_1,x4_1,rfl,HA,HK1,HO_3,HB⟩ := hrel
        cases gk with
        | zero => exact absurd HA.out (by simp [laws_toSlotS.l0])
        | succ k1 =>
          have H := HA.out
          clear HA
          simp only [laws_toSlotS.l0] at H
          by_cases c6 : x4_1 < (l0.length : Int)
          · rw [if_pos c6] at H
            have c6b0 : decide (x4_1 < (l0.length : Int)) = true := decide_eq_true c6
            clear c6
            by_cases c7 : 0 ≤ x4_1
            · rw [if_pos c7] at H
              have c7b0 : decide (0 ≤ x4_1) = true := decide_eq_true c7
              clear c7
              replace H := Option.bind_eq_some_iff.mp H
              obtain ⟨⟨t159,t160⟩,A80,H⟩ := H
              replace H : (if x4_1 < (x3_1.length : Int) then (laws_toSlotS.l0 k1 l0 (x3_1.set (x4_1 : Int).toNat (⟨t159,t160⟩ : S87)) (wrap64 (x4_1 + 1))) else (none)) = some r := H
              have A8 := Aside0.mk A80
              clear A80
              by_cases c9 : x4_1 < (x3_1.length : Int)
              · rw [if_pos c9] at H
                have c9b0 : decide (x4_1 < (x3_1.length : Int)) = true := decide_eq_true c9
                clear c9
                obtain ⟨y161,hy161⟩ : ∃ y_ : List (S87),y_ = (x3_1.set (x4_1 : Int).toNat (⟨t159,t160⟩ : S87)) := ⟨_,rfl⟩
                replace H : (laws_toSlotS.l0 k1 l0 y161 (wrap64 (x4_1 + 1))) = some r := by first | (rw [hy161];with_reducible exact H) | (have H2_ := (Option.bind_some _ _).symm.trans H;rw [hy161];with_reducible exact H2_) | (have H2_ := (Option.bind_some _ _).symm.trans H;with_reducible exact H2_) | with_reducible exact H | (rw [hy161];exact H) | exact H
                have Ny161 := Aside0.mk hy161
                clear hy161
                have H' := Aside0.mk H
                clear H
                have p158 : 0 ≤ (x4_1 : Int) := of_decide_eq_true (by first | (with_reducible assumption) | assumption)
                have q158 : x4_1 < (l0.length : Int) := of_decide_eq_true (by first | (with_reducible assumption) | assumption)
                obtain ⟨ad158,e158,hx158_0,hx158_1⟩ := at_T108 HR0.out x4_1 p158 q158
                cases e158
                replace hx158_0 := (HB.out.cell (World.block_lt_of_cell? w _ hx158_0)).trans hx158_0
                replace hx158_1 := (HB.out.cell (World.block_lt_of_cell? w _ hx158_1)).trans hx158_1
                replace p158 := eq_true p158
                replace q158 := eq_true q158
                go_wp2_with (first | ((with_reducible refine gate_callee (f := 86) rfl ?_);refine goesL_ (some 20) rfl rfl Try.func86 (by kernel_rfl) rfl #[.agg #[.int .i64 ((rd_T108 l0 x4_1).f0),.int .i64 ((rd_T108 l0 x4_1).f1)]] rfl (by (try simp only [List.map_toArray,List.map_cons,List.map_nil]);first | done | rfl | (simp only [List.length_drop,List.length_take];rfl)) ?_;(with_reducible refine (laws_toSlot.calls ((rd_T108 l0 x4_1).f0) ((rd_T108 l0 x4_1).f1) t159 t160 _ A8.out).mono ?_);rintro e w11 ⟨rfl,hb⟩;refine ⟨_,rfl,?_⟩;have n0_ := Aside0.mk (Kd.R_below (by (with_reducible repeat (first | apply Kd.R_alloc | apply Kd.R_drewN | apply Kd.R_drew));exact HO_3.out) hb);have n1_ := Aside0.mk (below_step (by repeat (first | (with_reducible first | exact HB.out | apply below_alloc | apply pw_below_drewN | apply below_drew1) | exact HB.out)) hb);clear HO_3;clear HB;have HO_3 := n0_;have HB := n1_;clear n0_ n1_;(try clear hb);(try clear hb2);(try clear hk);(try clear hi);have p10 : 0 ≤ (x4_1 : Int) := of_decide_eq_true (by first | (with_reducible assumption) | assumption);have q10 : (x4_1 : Int) < ((x3_1.length : Int) : Int) := of_decide_eq_true (by first | (with_reducible assumption) | assumption);obtain ⟨go10,co10,eo10,gb10,gl10,cl10,HG10⟩ := Kd.R_form HO_3.out (by omega);(first | cases eo10 | (injection eo10 with ea_ en_ ec_;(first | subst ea_ | (injection ea_ with ea_;subst ea_));subst ec_;clear en_));have GB10 := Aside0.mk gb10;have GG10 := Aside0.mk HG10;clear gb10 gl10 HG10;obtain ⟨ce10,hcl10,hM10,hcc10,hfr10⟩ := Kd.R_elem HO_3.out z87 (x4_1 : Int) p10 q10;obtain rfl := k87_openM hM10;have hx10_0 : w11.cell? ⟨go10,(x4_1 : Int).toNat * 2,none⟩ = some (.int .i64 ((rd_T87 x3_1 x4_1).f0)) := hcc10 0 _ rfl;have hx10_1 : w11.cell? ⟨go10,(x4_1 : Int).toNat * 2 + 1,none⟩ = some (.int .i64 ((rd_T87 x3_1 x4_1).f1)) := hcc10 1 _ rfl;have hf10_0 : w11.frozen? ⟨go10,(x4_1 : Int).toNat * 2,none⟩ = false := hfr10 0;have hf10_1 : w11.frozen? ⟨go10,(x4_1 : Int).toNat * 2 + 1,none⟩ = false := hfr10 1;(try clear hcl10);(try clear hcc10);(try clear hfr10);(try clear hM10);replace p10 := eq_true p10;replace q10 := eq_true q10;have HX12 := Aside0.mk (show Kd.R k87 87 w11 w.heap.size (fun _ => True) (.slice (some ⟨go10,0,none⟩) x3_1.length co10) x3_1 from (by (with_reducible repeat (first | apply Kd.R_alloc | apply Kd.R_drewN | apply Kd.R_drew));exact HO_3.out));obtain ⟨ce12,hcl12,hM12,hcc12,hfr12⟩ := Kd.R_elem HX12.out z87 (x4_1 : Int) (of_decide_eq_true (by first | (with_reducible assumption) | assumption)) (by have h_ : (x4_1 : Int) < ((x3_1.length : Int) : Int) := of_decide_eq_true (by first | (with_reducible assumption) | assumption);first | exact h_ | (have e_ := (Kd.R_reads' HO_3.out).1;omega) | simpa using h_);obtain rfl := k87_openM hM12;have HP12 := Kd.R_seg HX12.out (x4_1 : Int) (of_decide_eq_true (by first | (with_reducible assumption) | assumption)) (by have h_ : (x4_1 : Int) < ((x3_1.length : Int) : Int) := of_decide_eq_true (by first | (with_reducible assumption) | assumption);first | exact h_ | (have e_ := (Kd.R_reads' HO_3.out).1;omega) | simpa using h_) (seg := [.int .i64 t159,.int .i64 t160]) (j := 0) hcl12 hcc12 (show 2 ≤ 2 from by decide) (x' := (⟨t159,t160⟩ : S87)) (k87_mkM _ _ _ (⟨t159,t160⟩ : S87) ) (fun _ hk => hk);have hx12_0 := hcc12 0 _ rfl;(try simp only [show (k87).sz = 2 from rfl,Nat.mul_one,Nat.add_zero] at hx12_0);have hf12_0 := hfr12 0;(try simp only [show (k87).sz = 2 from rfl,Nat.mul_one,Nat.add_zero] at hf12_0);have hx12_1 := hcc12 1 _ rfl;(try simp only [show (k87).sz = 2 from rfl,Nat.mul_one,Nat.add_zero] at hx12_1);have hf12_1 := hfr12 1;(try simp only [show (k87).sz = 2 from rfl,Nat.mul_one,Nat.add_zero] at hf12_1);(try clear hcl12);(try clear hcc12);(try clear hfr12);(try clear hM12)) | ((with_reducible refine gate_store (t := 87) (p := 21) rfl ?_);refine store_event (t := 87) (p := 21) (v := ?vo_w13) (w1 := ((w11.setCell ⟨go10,(x4_1 : Int).toNat * 2,none⟩ (.int .i64 t159)).setCell ⟨go10,(x4_1 : Int).toNat * 2 + 1,none⟩ (.int .i64 t160))) ?hg ?ho ?hn ?hr ?_;(case ho => rfl);(case hg => rfl);(case hn => rfl);(case hr => first | (go_simp;done) | (go_simp;rfl));intro w13 hw;have hg : w11.grownBy w13 (some go10) := (by rw [hw];exact HP12.2);have hp_ : Kd.R k87 87 w13 w.heap.size (fun _ => True) (.slice (some ⟨go10,0,none⟩) x3_1.length co10) y161 := (by rw [hw,Ny161.out];exact HP12.1);clear HP12;have n0_ := Aside0.mk (hp_);have n1_ := Aside0.mk ((by rw [hw];exact below_set (below_set (HB.out) GB10.out) GB10.out : Below w.heap.size w w13));clear HO_3;clear HB;have HO_3 := n0_;have HB := n1_;clear n0_ n1_;clear hg hw hp_))
                go_roundg k1
                case measure => have := HK1.out;omega
                case rel => exact ⟨(y161),(wrap64 (x4_1 + 1)),(by first | rfl | (simp;done) | (simp [*];done)),H',⟨by have := HK1.out;omega⟩,⟨by (with_reducible repeat (first | apply Kd.R_alloc | apply Kd.R_drewN | apply Kd.R_drew));exact HO_3.out⟩,⟨by repeat (first | (with_reducible first | exact HB.out | apply below_alloc | apply pw_below_drewN | apply below_drew1) | exact HB.out)⟩⟩
              · rw [if_neg c9] at H
                exact absurd H (by simp)
            · rw [if_neg c7] at H
              exact absurd H (by simp)
          · rw [if_neg c6] at H
            have c6b0 : decide (x4_1 < (l0.length : Int)) = false := decide_eq_false c6
            clear c6
            obtain rfl := Option.some.inj H
            go_wp2
            go_ret
            exact ⟨_,by first | rfl | (simp [errW_none,errW_some] <;> rfl) | (simp [*,errW_none,errW_some] <;> rfl),by (with_reducible repeat (first | apply Kd.R_alloc | apply Kd.R_drewN | apply Kd.R_drew));exact HO_3.out,by repeat (first | (with_reducible first | exact HB.out | apply below_alloc | apply pw_below_drewN | apply below_drew1) | exact HB.out)⟩
    · rw [if_neg c3] at H
      exact absurd H (by simp)
  · rw [if_neg c2] at H
    exact absurd H (by simp)

/-! ### laws_toSlotSS: function 29 -/
def laws_toSlotSS.l0 : Nat → List (List (S108)) → List (List (S87)) → Int → Option ((List (List (S87))))
  | 0,_,_,_ => none
  | k + 1,x0,x3,x4 => if x4 < (x0.length : Int) then (if 0 ≤ x4 then ((laws_toSlotS.f k (rd_L2 x0 x4)).bind fun t166 => (if x4 < (x3.length : Int) then (laws_toSlotSS.l0 k x0 (x3.set (x4 : Int).toNat t166) (wrap64 (x4 + 1))) else (none))) else (none)) else (some x3)
def laws_toSlotSS.f (k : Nat) (l0 : List (List (S108))) : Option ((List (List (S87)))) := if 0 ≤ (l0.length : Int) then (if ((l0.length : Int) : Int).toNat ≤ 11728124029610 then (laws_toSlotSS.l0 k l0 (List.replicate ((l0.length : Int) : Int).toNat []) 0) else (none)) else (none)
theorem laws_toSlotSS.mono_l : ∀ k,(∀ y0 y1 y2,LeO (laws_toSlotSS.l0 k y0 y1 y2) (laws_toSlotSS.l0 (k + 1) y0 y1 y2))
  | 0 => fun _ _ _ r h => by simp [laws_toSlotSS.l0] at h
  | k + 1 => by
    have ih0 := laws_toSlotSS.mono_l k
    · intro y0 y1 y2
      unfold laws_toSlotSS.l0
      repeat' first
      | (with_reducible exact ih0 _ _ _)
      | (with_reducible exact laws_toSlotS.mono _ _)
      | (with_reducible exact LeO.refl _)
      | (with_reducible exact LeO.none _)
      | (with_reducible refine LeO.ite ?_ ?_)
      | (with_reducible refine LeO.bind ?_ (fun _ => ?_))
      | exact ih0 _ _ _
      | exact laws_toSlotS.mono _ _
      | exact LeO.none _
      | refine LeO.ite ?_ ?_
      | refine LeO.bind ?_ (fun _ => ?_)
theorem laws_toSlotSS.mono : ∀ a0 k,LeO (laws_toSlotSS.f k a0) (laws_toSlotSS.f (k + 1) a0) := by
  intro a0 k
  have ih0 := laws_toSlotSS.mono_l k
  unfold laws_toSlotSS.f
  repeat' first
      | (with_reducible exact ih0 _ _ _)
      | (with_reducible exact laws_toSlotS.mono _ _)
      | (with_reducible exact LeO.refl _)
      | (with_reducible exact LeO.none _)
      | (with_reducible refine LeO.ite ?_ ?_)
      | (with_reducible refine LeO.bind ?_ (fun _ => ?_))
      | exact ih0 _ _ _
      | exact laws_toSlotS.mono _ _
      | exact LeO.none _
      | refine LeO.ite ?_ ?_
      | refine LeO.bind ?_ (fun _ => ?_)
set_option maxHeartbeats 8000000 in
set_option maxRecDepth 100000 in
theorem laws_toSlotSS.calls (k : Nat) (A0 : Option Addr) (c0 : Nat) (l0 : List (List (S108))) (r : List (List (S87))) (w : World) (hr0 : Kd.C (Kd.slice 108 k108) w A0 l0.length l0) (hc0 : l0.length ≤ c0) (h : laws_toSlotSS.f k l0 = some r) :
    Calls Try.prog 29 #[.slice A0 l0.length c0] w fun e w' => ∃ v0_ : Value,e = .returned (v0_) ∧ Kd.S (Kd.slice 87 k87) 83 w' w.heap.size (fun _ => True) v0_ r ∧ Below w.heap.size w w' := by
  have HR0 := Aside0.mk hr0
  have HC0 := Aside0.mk hc0
  clear hr0 hc0
  have HB := Aside0.mk (Below.refl w.heap.size w)
  have H : (if 0 ≤ (l0.length : Int) then (if ((l0.length : Int) : Int).toNat ≤ 11728124029610 then (laws_toSlotSS.l0 k l0 (List.replicate ((l0.length : Int) : Int).toNat []) 0) else (none)) else (none)) = some r := h
  clear h
  by_cases c2 : 0 ≤ (l0.length : Int)
  · rw [if_pos c2] at H
    have c2b0 := eq_true c2
    have c2b1 : decide (0 ≤ (l0.length : Int)) = true := decide_eq_true c2
    clear c2
    by_cases c3 : ((l0.length : Int) : Int).toNat ≤ 11728124029610
    · rw [if_pos c3] at H
      have c3b0 := eq_true c3
      have c3b1 : decide (((l0.length : Int) : Int).toNat ≤ 11728124029610) = true := decide_eq_true c3
      clear c3
      obtain ⟨y162,hy162⟩ : ∃ y_ : List (List (S87)),y_ = (List.replicate ((l0.length : Int) : Int).toNat []) := ⟨_,rfl⟩
      replace H : (laws_toSlotSS.l0 k l0 y162 0) = some r := by first | (rw [hy162];with_reducible exact H) | (have H2_ := (Option.bind_some _ _).symm.trans H;rw [hy162];with_reducible exact H2_) | (have H2_ := (Option.bind_some _ _).symm.trans H;with_reducible exact H2_) | with_reducible exact H | (rw [hy162];exact H) | exact H
      have Ny162 := Aside0.mk hy162
      clear hy162
      have H' := Aside0.mk H
      clear H
      go_enter Try.func29,Try.ntmps29
      go_wp2_with (first | ((with_reducible refine gate_dst (N := 7) rfl ?_);refine Kd.S_make (Kd.slice 87 k87) _ 83 rfl (N := 7) rfl 54 _ _ rfl (l0.length : Int) rfl rfl Try.underlying54 (.slice none 0 0) 24 info83 rfl (by decide) (by omega) [] (ok := fun _ => True) (okp := fun _ => True) ⟨_,rfl,Kd.R_nil _ _ _ _ _⟩ (fun _ hk => hk) trivial (of_decide_eq_true (by first | (with_reducible assumption) | assumption)) (Nat.le_trans (Nat.mul_le_mul_right _ (of_decide_eq_true (by first | (with_reducible assumption) | assumption) : (l0.length : Int).toNat ≤ 11728124029610)) (by omega)) (Below.refl _ _) (Nat.le_refl _) ?_;intro v163 w4 ho5 hb hg_ hnew_;clear hg_ hnew_;(first | rw [← Ny162.out] at ho5 | (simp only [Int.reduceToNat] at ho5;rw [← Ny162.out] at ho5));have n0_ := Aside0.mk (Kd.S_lower ho5 (below_size (by repeat (first | (with_reducible first | exact HB.out | apply below_alloc | apply pw_below_drewN | apply below_drew1) | exact HB.out))));have n1_ := Aside0.mk (below_step (by repeat (first | (with_reducible first | exact HB.out | apply below_alloc | apply pw_below_drewN | apply below_drew1) | exact HB.out)) hb);clear HB;have HO164 := n0_;have HB := n1_;clear n0_ n1_;clear hb ho5))
      go_loopg [4] k (fun kq v4 w' => ∃ (x3_1 : List (List (S87))) (x4_1 : Int),v4 = .int .i64 x4_1 ∧ Aside0 (laws_toSlotSS.l0 kq l0 x3_1 x4_1 = some r) ∧ Aside0 (kq ≤ k) ∧ Aside0 (Kd.S (Kd.slice 87 k87) 83 w' w.heap.size (fun _ => True) v163 x3_1) ∧ Aside0 (Below w.heap.size w w'))
      case atStart => exact ⟨(y162),(0),(by first | rfl | (simp;done) | (simp [*];done)),H',⟨Nat.le_refl _⟩,⟨by (with_reducible repeat (first | apply Kd.S_alloc | apply Kd.S_drewN | apply Kd.S_drew));exact HO164.out⟩,⟨by repeat (first | (with_reducible first | exact HB.out | apply below_alloc | apply pw_below_drewN | apply below_drew1) | exact HB.out)⟩⟩
      case round =>
        clear H'
        try clear c2
        try clear c2b0
        try clear c2b1
        try clear p2
        try clear c3
        try clear c3b0
        try clear c3b1
        obtain ⟨x3_1,x4_1,rfl,HA,HK1,HO_3,HB⟩ := hrel
        cases gk with
        | zero => exact absurd HA.out (by simp [laws_toSlotSS.l0])
        | succ k1 =>
          have H := HA.out
          clear HA
          simp only [laws_toSlotSS.l0] at H
          by_cases c6 : x4_1 < (l0.length : Int)
          · rw [if_pos c6] at H
            have c6b0 : decide (x4_1 < (l0.length : Int)) = true := decide_eq_true c6
            clear c6
            by_cases c7 : 0 ≤ x4_1
            · rw [if_pos c7] at H
              have c7b0 : decide (0 ≤ x4_1) = true := decide_eq_true c7
              clear c7
              replace H := Option.bind_eq_some_iff.mp H
              obtain ⟨t166,A80,H⟩ := H
              replace H : (if x4_1 < (x3_1.length : Int) then (laws_toSlotSS.l0 k1 l0 (x3_1.set (x4_1 : Int).toNat t166) (wrap64 (x4_1 + 1))) else (none)) = some r := H
              have A8 := Aside0.mk A80
              clear A80
              by_cases c9 : x4_1 < (x3_1.length : Int)
              · rw [if_pos c9] at H
                have c9b0 : decide (x4_1 < (x3_1.length : Int)) = true := decide_eq_true c9
                clear c9
                obtain ⟨y169,hy169⟩ : ∃ y_ : List (List (S87)),y_ = (x3_1.set (x4_1 : Int).toNat t166) := ⟨_,rfl⟩
                replace H : (laws_toSlotSS.l0 k1 l0 y169 (wrap64 (x4_1 + 1))) = some r := by first | (rw [hy169];with_reducible exact H) | (have H2_ := (Option.bind_some _ _).symm.trans H;rw [hy169];with_reducible exact H2_) | (have H2_ := (Option.bind_some _ _).symm.trans H;with_reducible exact H2_) | with_reducible exact H | (rw [hy169];exact H) | exact H
                have Ny169 := Aside0.mk hy169
                clear hy169
                have H' := Aside0.mk H
                clear H
                have p165 : 0 ≤ (x4_1 : Int) := of_decide_eq_true (by first | (with_reducible assumption) | assumption)
                have q165 : x4_1 < (l0.length : Int) := of_decide_eq_true (by first | (with_reducible assumption) | assumption)
                obtain ⟨ad165,A165_0,c165_0,e165,hx165_0,hl165_0,hi165_0⟩ := at_L2 HR0.out x4_1 p165 q165
                cases e165
                replace hx165_0 := (HB.out.cell (World.block_lt_of_cell? w _ hx165_0)).trans hx165_0
                have HR165_0 := Aside0.mk hi165_0
                have HC165_0 := Aside0.mk hl165_0
                clear hi165_0 hl165_0
                replace p165 := eq_true p165
                replace q165 := eq_true q165
                go_wp2_with (first | ((with_reducible refine gate_callee (f := 68) rfl ?_);refine goesL_ (some 20) rfl rfl Try.func68 (by kernel_rfl) rfl #[.slice A165_0 (rd_L2 l0 x4_1).length c165_0] rfl (by (try simp only [List.map_toArray,List.map_cons,List.map_nil]);first | done | rfl | (simp only [List.length_drop,List.length_take];rfl)) ?_;(with_reducible refine (laws_toSlotS.calls k1 _ _ (rd_L2 l0 x4_1) t166 _ ?side1 ?side2 A8.out).mono ?_);(case side1 => repeat (first | exact (Kd.C_below HR165_0.out HB.out) | (with_reducible refine Kd.C_alloc ?_ _) | (with_reducible refine Kd.C_drewN ?_ _) | (with_reducible refine Kd.C_drew ?_)));(case side2 => exact HC165_0.out);rintro e w11 ⟨v167,rfl,ho0,hb⟩;refine ⟨_,rfl,?_⟩;have n0_ := Aside0.mk (Kd.S_elder' (by (with_reducible repeat (first | apply Kd.S_alloc | apply Kd.S_drewN | apply Kd.S_drew));exact HO_3.out) (Kd.R_base ho0) hb);have n1_ := Aside0.mk (Kd.R_lower ho0 (below_size (by repeat (first | (with_reducible first | exact HB.out | apply below_alloc | apply pw_below_drewN | apply below_drew1) | exact HB.out))));have n2_ := Aside0.mk (below_step (by repeat (first | (with_reducible first | exact HB.out | apply below_alloc | apply pw_below_drewN | apply below_drew1) | exact HB.out)) hb);clear HO_3;clear HB;have HO_3 := n0_;have HO168 := n1_;have HB := n2_;clear n0_ n1_ n2_;(try clear hb);(try clear hb2);(try clear hk);(try clear hi);(try clear ho0);have p10 : 0 ≤ (x4_1 : Int) := of_decide_eq_true (by first | (with_reducible assumption) | assumption);have q10 : (x4_1 : Int) < ((x3_1.length : Int) : Int) := of_decide_eq_true (by first | (with_reducible assumption) | assumption);obtain ⟨go10,co10,eo10,gb10,gl10,cl10,HG10⟩ := Kd.S_form HO_3.out (by omega);(first | cases eo10 | (injection eo10 with ea_ en_ ec_;(first | subst ea_ | (injection ea_ with ea_;subst ea_));subst ec_;clear en_));have GB10 := Aside0.mk gb10;have GG10 := Aside0.mk HG10;clear gb10 gl10 HG10;obtain ⟨_,ce10,hcl10,hM10,hcc10,hfr10,_,_⟩ := Kd.S_elem HO_3.out [] (x4_1 : Int) p10 q10;obtain ⟨ve10_0,rfl,ge10_0⟩ := hM10;have hx10_0 := hcc10 0 _ rfl;have hf10_0 := hfr10 0;(try simp only [show ((Kd.slice 87 k87)).sz = 1 from rfl,Nat.mul_one,Nat.add_zero] at hx10_0);(try simp only [show ((Kd.slice 87 k87)).sz = 1 from rfl,Nat.mul_one,Nat.add_zero] at hf10_0);(try clear hcl10);(try clear hcc10);(try clear hfr10);(try clear hM10);replace p10 := eq_true p10;replace q10 := eq_true q10;have n_ := Aside0.mk (Kd.S_mono (ok' := (fun k_ => some k_ ≠ (v167 : Value).ownBlock)) HO_3.out (fun k_ hk => hk.2));clear HO_3;have HO_3 := n_;clear n_;have HX12 := Aside0.mk (show Kd.S (Kd.slice 87 k87) 83 w11 w.heap.size (fun k_ => ((fun _ => True)) k_ ∧ ¬ ((fun k_ => some k_ = (v167 : Value).ownBlock)) k_) (.slice (some ⟨go10,0,none⟩) x3_1.length co10) x3_1 from (by (with_reducible repeat (first | apply Kd.S_alloc | apply Kd.S_drewN | apply Kd.S_drew));exact Kd.S_mono HO_3.out (fun k_ hk => ⟨trivial,fun e_ => hk e_⟩)));obtain ⟨oki12,ce12,hcl12,hM12,hcc12,hfr12,hoki12,hH12⟩ := Kd.S_elem HX12.out [] (x4_1 : Int) (of_decide_eq_true (by first | (with_reducible assumption) | assumption)) (by have h_ : (x4_1 : Int) < ((x3_1.length : Int) : Int) := of_decide_eq_true (by first | (with_reducible assumption) | assumption);first | exact h_ | (have e_ := (Kd.S_reads' HO_3.out).1;omega) | simpa using h_);obtain ⟨ve12_0,rfl,ge12_0⟩ := hM12;have HP12 := Kd.S_seg hH12 (of_decide_eq_true (by first | (with_reducible assumption) | assumption)) (by have h_ : (x4_1 : Int) < ((x3_1.length : Int) : Int) := of_decide_eq_true (by first | (with_reducible assumption) | assumption);first | exact h_ | (have e_ := (Kd.S_reads' HO_3.out).1;omega) | simpa using h_) (seg := [v167]) (j := 0) (show 1 ≤ 1 from by decide) (x' := t166) (Kd.M_row (Kd.R_mono (Kd.R_tight rfl (Kd.R_mono (ok' := fun k_ => ((fun _ => True)) k_ ∧ k_ ≠ go10) (Kd.R_apart' (HO168.out) (Kd.S_typed HO_3.out) (by decide)) (fun k_ hk => ⟨trivial,fun e_ => (hk.2) (by rw [e_];rfl)⟩))) (fun _ h_ => Or.inr (h_)))) (fun _ hk => hk) (fun k_ hk_ => ((Kd.R_mono (ok' := fun k_ => ((fun _ => True)) k_ ∧ k_ ≠ go10) (Kd.R_apart' (HO168.out) (Kd.S_typed HO_3.out) (by decide)) (fun k_ hk => ⟨trivial,fun e_ => (hk.2) (by rw [e_];rfl)⟩))).1 k_ hk_.symm);have hx12_0 := hcc12 0 _ rfl;(try simp only [show ((Kd.slice 87 k87)).sz = 1 from rfl,Nat.mul_one,Nat.add_zero] at hx12_0);have hf12_0 := hfr12 0;(try simp only [show ((Kd.slice 87 k87)).sz = 1 from rfl,Nat.mul_one,Nat.add_zero] at hf12_0);(try clear hcl12);(try clear hcc12);(try clear hfr12);(try clear hM12);(try clear hoki12);(try clear hH12);(try simp only [show ((Kd.slice 87 k87)).sz = 1 from rfl,Nat.mul_one,Nat.add_zero] at HP12)) | ((with_reducible refine gate_store (t := 83) (p := 21) rfl ?_);refine store_event (t := 83) (p := 21) (v := ?vo_w13) (w1 := (w11.setCell ⟨go10,(x4_1 : Int).toNat,none⟩ (v167))) ?hg ?ho ?hn ?hr ?_;(case ho => rfl);(case hg => rfl);(case hn => rfl);(case hr => first | (go_simp;done) | (go_simp;rfl) | (obtain ⟨A_0,c_0,e_0⟩ := Kd.R_slice HO168.out;rw [e_0];first | (go_simp;done) | (go_simp;rfl)));intro w13 hw;have hg : w11.grownBy w13 (some go10) := (by rw [hw];exact HP12.2);have hp_ : Kd.S (Kd.slice 87 k87) 83 w13 w.heap.size (fun _ => True) (.slice (some ⟨go10,0,none⟩) x3_1.length co10) y169 := (by rw [hw,Ny169.out];exact HP12.1);clear HP12;have n0_ := Aside0.mk (hp_);have n1_ := Aside0.mk ((by rw [hw];exact below_set (HB.out) GB10.out : Below w.heap.size w w13));clear HO_3;clear HB;clear HO168;have HO_3 := n0_;have HB := n1_;clear n0_ n1_;clear hg hw hp_))
                go_roundg k1
                case measure => have := HK1.out;omega
                case rel => exact ⟨(y169),(wrap64 (x4_1 + 1)),(by first | rfl | (simp;done) | (simp [*];done)),H',⟨by have := HK1.out;omega⟩,⟨by (with_reducible repeat (first | apply Kd.S_alloc | apply Kd.S_drewN | apply Kd.S_drew));exact HO_3.out⟩,⟨by repeat (first | (with_reducible first | exact HB.out | apply below_alloc | apply pw_below_drewN | apply below_drew1) | exact HB.out)⟩⟩
              · rw [if_neg c9] at H
                exact absurd H (by simp)
            · rw [if_neg c7] at H
              exact absurd H (by simp)
          · rw [if_neg c6] at H
            have c6b0 : decide (x4_1 < (l0.length : Int)) = false := decide_eq_false c6
            clear c6
            obtain rfl := Option.some.inj H
            go_wp2
            go_ret
            exact ⟨_,by first | rfl | (simp [errW_none,errW_some] <;> rfl) | (simp [*,errW_none,errW_some] <;> rfl),by (with_reducible repeat (first | apply Kd.S_alloc | apply Kd.S_drewN | apply Kd.S_drew));exact HO_3.out,by repeat (first | (with_reducible first | exact HB.out | apply below_alloc | apply pw_below_drewN | apply below_drew1) | exact HB.out)⟩
    · rw [if_neg c3] at H
      exact absurd H (by simp)
  · rw [if_neg c2] at H
    exact absurd H (by simp)

/-! ### impl_AddInt: function 95 -/
def impl_AddInt.f (a0 : Int) (a1 : Int) : Option (Int × Bool) := if ((decide (a0 < 0)) == (decide (a1 < 0))) = true then (if ((decide ((wrap64 (a0 + a1)) < 0)) != (decide (a0 < 0))) = true then (some (0,false)) else (some (wrap64 (a0 + a1),true))) else (some (wrap64 (a0 + a1),true))
set_option maxHeartbeats 8000000 in
set_option maxRecDepth 100000 in
theorem impl_AddInt.calls (a0 : Int) (a1 : Int) (r1 : Int) (r2 : Bool) (w : World) (h : impl_AddInt.f a0 a1 = some (r1,r2)) :
    Calls Try.prog 95 #[.int .i64 a0,.int .i64 a1] w fun e w' => e = .returned (.tuple #[.int .i64 r1,.bool r2]) ∧ Drawn0 w w' := by
  have H : (if ((decide (a0 < 0)) == (decide (a1 < 0))) = true then (if ((decide ((wrap64 (a0 + a1)) < 0)) != (decide (a0 < 0))) = true then (some (0,false)) else (some (wrap64 (a0 + a1),true))) else (some (wrap64 (a0 + a1),true))) = some (r1,r2) := h
  clear h
  by_cases c3 : ((decide (a0 < 0)) == (decide (a1 < 0))) = true
  · rw [if_pos c3] at H
    have c3b0 : ((decide (a0 < 0)) == (decide (a1 < 0))) = true := c3
    (try (have c3b1 : decide ((decide (a0 < 0)) = (decide (a1 < 0))) = true := by simpa using c3))
    (try (have c3b2 : ((decide (a0 < 0)) == (decide (a1 < 0))) = true := by simpa using c3))
    clear c3
    by_cases c4 : ((decide ((wrap64 (a0 + a1)) < 0)) != (decide (a0 < 0))) = true
    · rw [if_pos c4] at H
      have c4b0 : ((decide ((wrap64 (a0 + a1)) < 0)) != (decide (a0 < 0))) = true := c4
      (try (have c4b1 : decide ((decide ((wrap64 (a0 + a1)) < 0)) = (decide (a0 < 0))) = false := by simpa using c4))
      (try (have c4b2 : ((decide ((wrap64 (a0 + a1)) < 0)) == (decide (a0 < 0))) = false := by simpa using c4))
      (try (have c4b3 : ¬ ((decide ((wrap64 (a0 + a1)) < 0)) = (decide (a0 < 0))) := by simpa using c4))
      clear c4
      simp only [Option.some.injEq,Prod.mk.injEq] at H
      obtain ⟨rfl,rfl⟩ := H
      go_enter Try.func95,Try.ntmps95
      go_wp2
      go_ret2
      exact ⟨by first | rfl | (simp;done) | (simp [*];done),by repeat (first | exact Drawn0.refl _ | apply Drawn0.step)⟩
    · rw [if_neg c4] at H
      have c4b0 : ((decide ((wrap64 (a0 + a1)) < 0)) != (decide (a0 < 0))) = false := by simpa using c4
      (try (have c4b1 : decide ((decide ((wrap64 (a0 + a1)) < 0)) = (decide (a0 < 0))) = true := by simpa using c4))
      (try (have c4b2 : ((decide ((wrap64 (a0 + a1)) < 0)) == (decide (a0 < 0))) = true := by simpa using c4))
      clear c4
      simp only [Option.some.injEq,Prod.mk.injEq] at H
      obtain ⟨rfl,rfl⟩ := H
      go_enter Try.func95,Try.ntmps95
      go_wp2
      go_ret2
      exact ⟨by first | rfl | (simp;done) | (simp [*];done),by repeat (first | exact Drawn0.refl _ | apply Drawn0.step)⟩
  · rw [if_neg c3] at H
    have c3b0 : ((decide (a0 < 0)) == (decide (a1 < 0))) = false := by simpa using c3
    (try (have c3b1 : decide ((decide (a0 < 0)) = (decide (a1 < 0))) = false := by simpa using c3))
    (try (have c3b2 : ((decide (a0 < 0)) == (decide (a1 < 0))) = false := by simpa using c3))
    (try (have c3b3 : ¬ ((decide (a0 < 0)) = (decide (a1 < 0))) := by simpa using c3))
    clear c3
    simp only [Option.some.injEq,Prod.mk.injEq] at H
    obtain ⟨rfl,rfl⟩ := H
    go_enter Try.func95,Try.ntmps95
    go_wp2
    go_ret2
    exact ⟨by first | rfl | (simp;done) | (simp [*];done),by repeat (first | exact Drawn0.refl _ | apply Drawn0.step)⟩

/-! ### impl_Slot_plus: function 87 -/
theorem impl_Slot_plus.cells2 {w : World} {g : Nat} {t : TypeId} {a0 a1 : Value} (h : w.heap[g]? = some (.cells #[a0,a1] t (0,0))) : w.cell? ⟨g,0,none⟩ = some a0 ∧ w.cell? ⟨g,1,none⟩ = some a1 ∧ w.frozen? ⟨g,0,none⟩ = false ∧ w.frozen? ⟨g,1,none⟩ = false := ⟨(blk_cell h 0).trans rfl,(blk_cell h 1).trans rfl,blk_frozen h 0,blk_frozen h 1⟩
def impl_Slot_plus.f (a0_0 : Int) (a0_1 : Int) (a1_0 : Int) (a1_1 : Int) : Option (Int × Int × Bool) := (impl_AddInt.f a0_0 a1_0).bind fun bt173 => ((impl_AddInt.f a0_1 a1_1).bind fun bt175 => (if bt173.2 = true then (if bt175.2 = true then (some (bt173.1,bt175.1,true)) else (some (0,0,false))) else (some (0,0,false))))
set_option maxHeartbeats 8000000 in
set_option maxRecDepth 100000 in
theorem impl_Slot_plus.calls (a0_0 : Int) (a0_1 : Int) (a1_0 : Int) (a1_1 : Int) (r1 : Int) (r2 : Int) (r3 : Bool) (w : World) (h : impl_Slot_plus.f a0_0 a0_1 a1_0 a1_1 = some (r1,r2,r3)) :
    Calls Try.prog 87 #[.agg #[.int .i64 a0_0,.int .i64 a0_1],.agg #[.int .i64 a1_0,.int .i64 a1_1]] w fun e w' => e = .returned (.tuple #[.agg #[.int .i64 r1,.int .i64 r2],.bool r3]) ∧ Below w.heap.size w w' := by
  have hu87 := Try.underlying87
  have HB := Aside0.mk (Below.refl w.heap.size w)
  have H : ((impl_AddInt.f a0_0 a1_0).bind fun bt173 => ((impl_AddInt.f a0_1 a1_1).bind fun bt175 => (if bt173.2 = true then (if bt175.2 = true then (some (bt173.1,bt175.1,true)) else (some (0,0,false))) else (some (0,0,false))))) = some (r1,r2,r3) := h
  clear h
  replace H := Option.bind_eq_some_iff.mp H
  obtain ⟨⟨t173,t174⟩,A30,H⟩ := H
  replace H : ((impl_AddInt.f a0_1 a1_1).bind fun bt175 => (if t174 = true then (if bt175.2 = true then (some (t173,bt175.1,true)) else (some (0,0,false))) else (some (0,0,false)))) = some (r1,r2,r3) := H
  have A3 := Aside0.mk A30
  clear A30
  replace H := Option.bind_eq_some_iff.mp H
  obtain ⟨⟨t175,t176⟩,A40,H⟩ := H
  replace H : (if t174 = true then (if t176 = true then (some (t173,t175,true)) else (some (0,0,false))) else (some (0,0,false))) = some (r1,r2,r3) := H
  have A4 := Aside0.mk A40
  clear A40
  by_cases c5 : t174 = true
  · subst c5
    have H1 : (if t176 = true then (some (t173,t175,true)) else (some (0,0,false))) = some (r1,r2,r3) := by rw [if_pos rfl] at H;exact H
    clear H
    have H := H1
    clear H1
    by_cases c6 : t176 = true
    · subst c6
      have H1 : (some (t173,t175,true)) = some (r1,r2,r3) := by rw [if_pos rfl] at H;exact H
      clear H
      have H := H1
      clear H1
      simp only [Option.some.injEq,Prod.mk.injEq] at H
      obtain ⟨rfl,rfl,rfl⟩ := H
      go_enter Try.func87,Try.ntmps87
      go_wp2_with (first | ((with_reducible refine gate_dst (N := 2) rfl ?_);refine box_event ?hg (N := 2) ?hd (cs := #[.int .i64 a0_0,.int .i64 a0_1]) (t := 87) ?hr ?_;(case hd => rfl);(case hg => rfl);(case hr => first | (go_simp;done) | (go_simp;rfl));intro gb170 hg w7 hbox hb;have n0_ := Aside0.mk (below_step (by repeat (first | (with_reducible first | exact HB.out | apply below_alloc | apply pw_below_drewN | apply below_drew1) | exact HB.out)) hb);have n1_ := Aside0.mk (hbox);have n2_ := Aside0.mk ((by rw [hg];exact (below_size (by repeat (first | (with_reducible first | exact HB.out | apply below_alloc | apply pw_below_drewN | apply below_drew1) | exact HB.out))) : w.heap.size ≤ gb170));have n3_ := Aside0.mk ((by rw [hg];exact (below_size (by repeat (first | (with_reducible first | exact HB.out | apply below_alloc | apply pw_below_drewN | apply below_drew1) | exact HB.out))) : w.heap.size ≤ gb170));clear HB;have HB := n0_;have BK170 := n1_;have GW170 := n2_;have GE170 := n3_;clear n0_ n1_ n2_ n3_;clear hb hbox hg) | ((with_reducible refine gate_dst (N := 3) rfl ?_);refine box_event ?hg (N := 3) ?hd (cs := #[.int .i64 a1_0,.int .i64 a1_1]) (t := 87) ?hr ?_;(case hd => rfl);(case hg => rfl);(case hr => first | (go_simp;done) | (go_simp;rfl));intro gb171 hg w8 hbox hb;have n0_ := Aside0.mk (blk_below (g := gb170) (o := .cells #[.int .i64 a0_0,.int .i64 a0_1] 87 (0,0)) (by refine bP ?_;exact BK170.out) hb);have n1_ := Aside0.mk (below_step (by repeat (first | (with_reducible first | exact HB.out | apply below_alloc | apply pw_below_drewN | apply below_drew1 | refine below_set ?_ GE170.out) | exact HB.out)) hb);have n2_ := Aside0.mk (hbox);have n3_ := Aside0.mk ((by rw [hg];exact (below_size (by repeat (first | (with_reducible first | exact HB.out | apply below_alloc | apply pw_below_drewN | apply below_drew1 | refine below_set ?_ GE170.out) | exact HB.out))) : w.heap.size ≤ gb171));have n4_ := Aside0.mk ((by rw [hg];exact (below_size (by repeat (first | (with_reducible first | exact HB.out | apply below_alloc | apply pw_below_drewN | apply below_drew1 | refine below_set ?_ GE170.out) | exact HB.out))) : w.heap.size ≤ gb171));have n5_ := Aside0.mk ((by rw [hg];exact Nat.ne_of_lt (blk_lt (g := gb170) (o := .cells #[.int .i64 a0_0,.int .i64 a0_1] 87 (0,0)) (by refine bP ?_;exact BK170.out)) : gb170 ≠ gb171));have n6_ := Aside0.mk ((by rw [hg];exact Nat.ne_of_gt (blk_lt (g := gb170) (o := .cells #[.int .i64 a0_0,.int .i64 a0_1] 87 (0,0)) (by refine bP ?_;exact BK170.out)) : gb171 ≠ gb170));clear BK170;clear HB;have BK170 := n0_;have HB := n1_;have BK171 := n2_;have GW171 := n3_;have GE171 := n4_;have NB170_171 := n5_;have NB171_170 := n6_;clear n0_ n1_ n2_ n3_ n4_ n5_ n6_;clear hb hbox hg) | ((with_reducible refine gate_dst (N := 4) rfl ?_);refine box_event ?hg (N := 4) ?hd (cs := #[.int .i64 0,.int .i64 0]) (t := 87) ?hr ?_;(case hd => rfl);(case hg => rfl);(case hr => first | (go_simp;done) | (go_simp;rfl));intro gb172 hg w9 hbox hb;have n0_ := Aside0.mk (blk_below (g := gb170) (o := .cells #[.int .i64 a0_0,.int .i64 a0_1] 87 (0,0)) (by refine bP ?_;exact BK170.out) hb);have n1_ := Aside0.mk (blk_below (g := gb171) (o := .cells #[.int .i64 a1_0,.int .i64 a1_1] 87 (0,0)) (by refine bP ?_;exact BK171.out) hb);have n2_ := Aside0.mk (below_step (by repeat (first | (with_reducible first | exact HB.out | apply below_alloc | apply pw_below_drewN | apply below_drew1 | refine below_set ?_ GE170.out | refine below_set ?_ GE171.out) | exact HB.out)) hb);have n3_ := Aside0.mk (hbox);have n4_ := Aside0.mk ((by rw [hg];exact (below_size (by repeat (first | (with_reducible first | exact HB.out | apply below_alloc | apply pw_below_drewN | apply below_drew1 | refine below_set ?_ GE170.out | refine below_set ?_ GE171.out) | exact HB.out))) : w.heap.size ≤ gb172));have n5_ := Aside0.mk ((by rw [hg];exact (below_size (by repeat (first | (with_reducible first | exact HB.out | apply below_alloc | apply pw_below_drewN | apply below_drew1 | refine below_set ?_ GE170.out | refine below_set ?_ GE171.out) | exact HB.out))) : w.heap.size ≤ gb172));have n6_ := Aside0.mk ((by rw [hg];exact Nat.ne_of_lt (blk_lt (g := gb170) (o := .cells #[.int .i64 a0_0,.int .i64 a0_1] 87 (0,0)) (by refine bP ?_;exact BK170.out)) : gb170 ≠ gb172));have n7_ := Aside0.mk ((by rw [hg];exact Nat.ne_of_gt (blk_lt (g := gb170) (o := .cells #[.int .i64 a0_0,.int .i64 a0_1] 87 (0,0)) (by refine bP ?_;exact BK170.out)) : gb172 ≠ gb170));have n8_ := Aside0.mk ((by rw [hg];exact Nat.ne_of_lt (blk_lt (g := gb171) (o := .cells #[.int .i64 a1_0,.int .i64 a1_1] 87 (0,0)) (by refine bP ?_;exact BK171.out)) : gb171 ≠ gb172));have n9_ := Aside0.mk ((by rw [hg];exact Nat.ne_of_gt (blk_lt (g := gb171) (o := .cells #[.int .i64 a1_0,.int .i64 a1_1] 87 (0,0)) (by refine bP ?_;exact BK171.out)) : gb172 ≠ gb171));clear BK170;clear BK171;clear HB;have BK170 := n0_;have BK171 := n1_;have HB := n2_;have BK172 := n3_;have GW172 := n4_;have GE172 := n5_;have NB170_172 := n6_;have NB172_170 := n7_;have NB171_172 := n8_;have NB172_171 := n9_;clear n0_ n1_ n2_ n3_ n4_ n5_ n6_ n7_ n8_ n9_;clear hb hbox hg;have hnb10 := NB170_171.out;have hnc10 := NB171_170.out;have hnb11 := NB170_172.out;have hnc11 := NB172_170.out;obtain ⟨hcz12_0,hcz12_1,hfz12_0,hfz12_1⟩ := impl_Slot_plus.cells2 BK170.out;have hnb13 := NB171_172.out;have hnc13 := NB172_171.out;obtain ⟨hcz14_0,hcz14_1,hfz14_0,hfz14_1⟩ := impl_Slot_plus.cells2 BK171.out) | ((with_reducible refine gate_callee (f := 95) rfl ?_);refine goesL_ (some 15) rfl rfl Try.func95 (by kernel_rfl) rfl #[.int .i64 a0_0,.int .i64 a1_0] rfl (by (try simp only [List.map_toArray,List.map_cons,List.map_nil]);first | done | rfl | (simp only [List.length_drop,List.length_take];rfl)) ?_;(with_reducible refine (impl_AddInt.calls a0_0 a1_0 t173 true _ A3.out).mono ?_);rintro e w' ⟨rfl,⟨nd,rfl⟩⟩;refine ⟨_,rfl,?_⟩;(iterate 4 (try (rw [drewN_self w9];generalize hq_ : World.drewN w9 _ = w9;have n0_ : Aside0 (w9.heap[gb170]? = some (.cells #[.int .i64 a0_0,.int .i64 a0_1] 87 (0,0))) := ⟨by rw [← hq_];exact (by refine bP ?_;exact BK170.out)⟩;have n1_ : Aside0 (w9.heap[gb171]? = some (.cells #[.int .i64 a1_0,.int .i64 a1_1] 87 (0,0))) := ⟨by rw [← hq_];exact (by refine bP ?_;exact BK171.out)⟩;have n2_ : Aside0 (w9.heap[gb172]? = some (.cells #[.int .i64 0,.int .i64 0] 87 (0,0))) := ⟨by rw [← hq_];exact (by refine bP ?_;exact BK172.out)⟩;have n3_ : Aside0 (Below w.heap.size w w9) := ⟨by rw [← hq_];exact (by repeat (first | (with_reducible first | exact HB.out | apply below_alloc | apply pw_below_drewN | apply below_drew1 | refine below_set ?_ GE170.out | refine below_set ?_ GE171.out | refine below_set ?_ GE172.out) | exact HB.out))⟩;clear BK170 BK171 BK172 HB hq_;have BK170 := n0_;have BK171 := n1_;have BK172 := n2_;have HB := n3_;clear n0_ n1_ n2_ n3_)));(try (obtain ⟨hcz12_0,hcz12_1,hfz12_0,hfz12_1⟩ := impl_Slot_plus.cells2 BK170.out));(try (obtain ⟨hcz14_0,hcz14_1,hfz14_0,hfz14_1⟩ := impl_Slot_plus.cells2 BK171.out))) | ((with_reducible refine gate_callee (f := 95) rfl ?_);refine goesL_ (some 23) rfl rfl Try.func95 (by kernel_rfl) rfl #[.int .i64 a0_1,.int .i64 a1_1] rfl (by (try simp only [List.map_toArray,List.map_cons,List.map_nil]);first | done | rfl | (simp only [List.length_drop,List.length_take];rfl)) ?_;(with_reducible refine (impl_AddInt.calls a0_1 a1_1 t175 true _ A4.out).mono ?_);rintro e w' ⟨rfl,⟨nd,rfl⟩⟩;refine ⟨_,rfl,?_⟩;(iterate 4 (try (rw [drewN_self w9];generalize hq_ : World.drewN w9 _ = w9;have n0_ : Aside0 (w9.heap[gb170]? = some (.cells #[.int .i64 a0_0,.int .i64 a0_1] 87 (0,0))) := ⟨by rw [← hq_];exact (by refine bP ?_;exact BK170.out)⟩;have n1_ : Aside0 (w9.heap[gb171]? = some (.cells #[.int .i64 a1_0,.int .i64 a1_1] 87 (0,0))) := ⟨by rw [← hq_];exact (by refine bP ?_;exact BK171.out)⟩;have n2_ : Aside0 (w9.heap[gb172]? = some (.cells #[.int .i64 0,.int .i64 0] 87 (0,0))) := ⟨by rw [← hq_];exact (by refine bP ?_;exact BK172.out)⟩;have n3_ : Aside0 (Below w.heap.size w w9) := ⟨by rw [← hq_];exact (by repeat (first | (with_reducible first | exact HB.out | apply below_alloc | apply pw_below_drewN | apply below_drew1 | refine below_set ?_ GE170.out | refine below_set ?_ GE171.out | refine below_set ?_ GE172.out) | exact HB.out))⟩;clear BK170 BK171 BK172 HB hq_;have BK170 := n0_;have BK171 := n1_;have BK172 := n2_;have HB := n3_;clear n0_ n1_ n2_ n3_)));(try (obtain ⟨hcz12_0,hcz12_1,hfz12_0,hfz12_1⟩ := impl_Slot_plus.cells2 BK170.out));(try (obtain ⟨hcz14_0,hcz14_1,hfz14_0,hfz14_1⟩ := impl_Slot_plus.cells2 BK171.out));obtain ⟨hcz15_0,hcz15_1,hfz15_0,hfz15_1⟩ := impl_Slot_plus.cells2 BK172.out))
      refine bodyPost_ret (results_ct rfl _ _ gb172 87 #[.int .i64 t173,.int .i64 t175] (0,0) _ rfl (by refine bP ?_;refine blk_put (cs := #[.int .i64 t173,.int .i64 0]) ?_ 1 _ rfl;refine bP ?_;refine blk_put (cs := #[.int .i64 0,.int .i64 0]) ?_ 0 _ rfl;refine bP ?_;exact BK172.out) Try.underlying87 rfl (by kernel_rfl)) rfl ?_
      exact ⟨by first | rfl | (simp [errW_none,errW_some] <;> rfl) | (simp [*,errW_none,errW_some] <;> rfl),by repeat (first | (with_reducible first | exact HB.out | apply below_alloc | apply pw_below_drewN | apply below_drew1 | refine below_set ?_ GE170.out | refine below_set ?_ GE171.out | refine below_set ?_ GE172.out) | exact HB.out)⟩
    · replace c6 := Bool.eq_false_iff.mpr c6
      subst c6
      have H1 : (some (0,0,false)) = some (r1,r2,r3) := by rw [if_neg (show ¬ (false = true) by decide)] at H;exact H
      clear H
      have H := H1
      clear H1
      simp only [Option.some.injEq,Prod.mk.injEq] at H
      obtain ⟨rfl,rfl,rfl⟩ := H
      go_enter Try.func87,Try.ntmps87
      go_wp2_with (first | ((with_reducible refine gate_dst (N := 2) rfl ?_);refine box_event ?hg (N := 2) ?hd (cs := #[.int .i64 a0_0,.int .i64 a0_1]) (t := 87) ?hr ?_;(case hd => rfl);(case hg => rfl);(case hr => first | (go_simp;done) | (go_simp;rfl));intro gb170 hg w16 hbox hb;have n0_ := Aside0.mk (below_step (by repeat (first | (with_reducible first | exact HB.out | apply below_alloc | apply pw_below_drewN | apply below_drew1) | exact HB.out)) hb);have n1_ := Aside0.mk (hbox);have n2_ := Aside0.mk ((by rw [hg];exact (below_size (by repeat (first | (with_reducible first | exact HB.out | apply below_alloc | apply pw_below_drewN | apply below_drew1) | exact HB.out))) : w.heap.size ≤ gb170));have n3_ := Aside0.mk ((by rw [hg];exact (below_size (by repeat (first | (with_reducible first | exact HB.out | apply below_alloc | apply pw_below_drewN | apply below_drew1) | exact HB.out))) : w.heap.size ≤ gb170));clear HB;have HB := n0_;have BK170 := n1_;have GW170 := n2_;have GE170 := n3_;clear n0_ n1_ n2_ n3_;clear hb hbox hg) | ((with_reducible refine gate_dst (N := 3) rfl ?_);refine box_event ?hg (N := 3) ?hd (cs := #[.int .i64 a1_0,.int .i64 a1_1]) (t := 87) ?hr ?_;(case hd => rfl);(case hg => rfl);(case hr => first | (go_simp;done) | (go_simp;rfl));intro gb171 hg w17 hbox hb;have n0_ := Aside0.mk (blk_below (g := gb170) (o := .cells #[.int .i64 a0_0,.int .i64 a0_1] 87 (0,0)) (by refine bP ?_;exact BK170.out) hb);have n1_ := Aside0.mk (below_step (by repeat (first | (with_reducible first | exact HB.out | apply below_alloc | apply pw_below_drewN | apply below_drew1 | refine below_set ?_ GE170.out) | exact HB.out)) hb);have n2_ := Aside0.mk (hbox);have n3_ := Aside0.mk ((by rw [hg];exact (below_size (by repeat (first | (with_reducible first | exact HB.out | apply below_alloc | apply pw_below_drewN | apply below_drew1 | refine below_set ?_ GE170.out) | exact HB.out))) : w.heap.size ≤ gb171));have n4_ := Aside0.mk ((by rw [hg];exact (below_size (by repeat (first | (with_reducible first | exact HB.out | apply below_alloc | apply pw_below_drewN | apply below_drew1 | refine below_set ?_ GE170.out) | exact HB.out))) : w.heap.size ≤ gb171));have n5_ := Aside0.mk ((by rw [hg];exact Nat.ne_of_lt (blk_lt (g := gb170) (o := .cells #[.int .i64 a0_0,.int .i64 a0_1] 87 (0,0)) (by refine bP ?_;exact BK170.out)) : gb170 ≠ gb171));have n6_ := Aside0.mk ((by rw [hg];exact Nat.ne_of_gt (blk_lt (g := gb170) (o := .cells #[.int .i64 a0_0,.int .i64 a0_1] 87 (0,0)) (by refine bP ?_;exact BK170.out)) : gb171 ≠ gb170));clear BK170;clear HB;have BK170 := n0_;have HB := n1_;have BK171 := n2_;have GW171 := n3_;have GE171 := n4_;have NB170_171 := n5_;have NB171_170 := n6_;clear n0_ n1_ n2_ n3_ n4_ n5_ n6_;clear hb hbox hg) | ((with_reducible refine gate_dst (N := 4) rfl ?_);refine box_event ?hg (N := 4) ?hd (cs := #[.int .i64 0,.int .i64 0]) (t := 87) ?hr ?_;(case hd => rfl);(case hg => rfl);(case hr => first | (go_simp;done) | (go_simp;rfl));intro gb172 hg w18 hbox hb;have n0_ := Aside0.mk (blk_below (g := gb170) (o := .cells #[.int .i64 a0_0,.int .i64 a0_1] 87 (0,0)) (by refine bP ?_;exact BK170.out) hb);have n1_ := Aside0.mk (blk_below (g := gb171) (o := .cells #[.int .i64 a1_0,.int .i64 a1_1] 87 (0,0)) (by refine bP ?_;exact BK171.out) hb);have n2_ := Aside0.mk (below_step (by repeat (first | (with_reducible first | exact HB.out | apply below_alloc | apply pw_below_drewN | apply below_drew1 | refine below_set ?_ GE170.out | refine below_set ?_ GE171.out) | exact HB.out)) hb);have n3_ := Aside0.mk (hbox);have n4_ := Aside0.mk ((by rw [hg];exact (below_size (by repeat (first | (with_reducible first | exact HB.out | apply below_alloc | apply pw_below_drewN | apply below_drew1 | refine below_set ?_ GE170.out | refine below_set ?_ GE171.out) | exact HB.out))) : w.heap.size ≤ gb172));have n5_ := Aside0.mk ((by rw [hg];exact (below_size (by repeat (first | (with_reducible first | exact HB.out | apply below_alloc | apply pw_below_drewN | apply below_drew1 | refine below_set ?_ GE170.out | refine below_set ?_ GE171.out) | exact HB.out))) : w.heap.size ≤ gb172));have n6_ := Aside0.mk ((by rw [hg];exact Nat.ne_of_lt (blk_lt (g := gb170) (o := .cells #[.int .i64 a0_0,.int .i64 a0_1] 87 (0,0)) (by refine bP ?_;exact BK170.out)) : gb170 ≠ gb172));have n7_ := Aside0.mk ((by rw [hg];exact Nat.ne_of_gt (blk_lt (g := gb170) (o := .cells #[.int .i64 a0_0,.int .i64 a0_1] 87 (0,0)) (by refine bP ?_;exact BK170.out)) : gb172 ≠ gb170));have n8_ := Aside0.mk ((by rw [hg];exact Nat.ne_of_lt (blk_lt (g := gb171) (o := .cells #[.int .i64 a1_0,.int .i64 a1_1] 87 (0,0)) (by refine bP ?_;exact BK171.out)) : gb171 ≠ gb172));have n9_ := Aside0.mk ((by rw [hg];exact Nat.ne_of_gt (blk_lt (g := gb171) (o := .cells #[.int .i64 a1_0,.int .i64 a1_1] 87 (0,0)) (by refine bP ?_;exact BK171.out)) : gb172 ≠ gb171));clear BK170;clear BK171;clear HB;have BK170 := n0_;have BK171 := n1_;have HB := n2_;have BK172 := n3_;have GW172 := n4_;have GE172 := n5_;have NB170_172 := n6_;have NB172_170 := n7_;have NB171_172 := n8_;have NB172_171 := n9_;clear n0_ n1_ n2_ n3_ n4_ n5_ n6_ n7_ n8_ n9_;clear hb hbox hg;have hnb19 := NB170_171.out;have hnc19 := NB171_170.out;have hnb20 := NB170_172.out;have hnc20 := NB172_170.out;obtain ⟨hcz21_0,hcz21_1,hfz21_0,hfz21_1⟩ := impl_Slot_plus.cells2 BK170.out;have hnb22 := NB171_172.out;have hnc22 := NB172_171.out;obtain ⟨hcz23_0,hcz23_1,hfz23_0,hfz23_1⟩ := impl_Slot_plus.cells2 BK171.out) | ((with_reducible refine gate_callee (f := 95) rfl ?_);refine goesL_ (some 15) rfl rfl Try.func95 (by kernel_rfl) rfl #[.int .i64 a0_0,.int .i64 a1_0] rfl (by (try simp only [List.map_toArray,List.map_cons,List.map_nil]);first | done | rfl | (simp only [List.length_drop,List.length_take];rfl)) ?_;(with_reducible refine (impl_AddInt.calls a0_0 a1_0 t173 true _ A3.out).mono ?_);rintro e w' ⟨rfl,⟨nd,rfl⟩⟩;refine ⟨_,rfl,?_⟩;(iterate 4 (try (rw [drewN_self w18];generalize hq_ : World.drewN w18 _ = w18;have n0_ : Aside0 (w18.heap[gb170]? = some (.cells #[.int .i64 a0_0,.int .i64 a0_1] 87 (0,0))) := ⟨by rw [← hq_];exact (by refine bP ?_;exact BK170.out)⟩;have n1_ : Aside0 (w18.heap[gb171]? = some (.cells #[.int .i64 a1_0,.int .i64 a1_1] 87 (0,0))) := ⟨by rw [← hq_];exact (by refine bP ?_;exact BK171.out)⟩;have n2_ : Aside0 (w18.heap[gb172]? = some (.cells #[.int .i64 0,.int .i64 0] 87 (0,0))) := ⟨by rw [← hq_];exact (by refine bP ?_;exact BK172.out)⟩;have n3_ : Aside0 (Below w.heap.size w w18) := ⟨by rw [← hq_];exact (by repeat (first | (with_reducible first | exact HB.out | apply below_alloc | apply pw_below_drewN | apply below_drew1 | refine below_set ?_ GE170.out | refine below_set ?_ GE171.out | refine below_set ?_ GE172.out) | exact HB.out))⟩;clear BK170 BK171 BK172 HB hq_;have BK170 := n0_;have BK171 := n1_;have BK172 := n2_;have HB := n3_;clear n0_ n1_ n2_ n3_)));(try (obtain ⟨hcz21_0,hcz21_1,hfz21_0,hfz21_1⟩ := impl_Slot_plus.cells2 BK170.out));(try (obtain ⟨hcz23_0,hcz23_1,hfz23_0,hfz23_1⟩ := impl_Slot_plus.cells2 BK171.out))) | ((with_reducible refine gate_callee (f := 95) rfl ?_);refine goesL_ (some 23) rfl rfl Try.func95 (by kernel_rfl) rfl #[.int .i64 a0_1,.int .i64 a1_1] rfl (by (try simp only [List.map_toArray,List.map_cons,List.map_nil]);first | done | rfl | (simp only [List.length_drop,List.length_take];rfl)) ?_;(with_reducible refine (impl_AddInt.calls a0_1 a1_1 t175 false _ A4.out).mono ?_);rintro e w' ⟨rfl,⟨nd,rfl⟩⟩;refine ⟨_,rfl,?_⟩;(iterate 4 (try (rw [drewN_self w18];generalize hq_ : World.drewN w18 _ = w18;have n0_ : Aside0 (w18.heap[gb170]? = some (.cells #[.int .i64 a0_0,.int .i64 a0_1] 87 (0,0))) := ⟨by rw [← hq_];exact (by refine bP ?_;exact BK170.out)⟩;have n1_ : Aside0 (w18.heap[gb171]? = some (.cells #[.int .i64 a1_0,.int .i64 a1_1] 87 (0,0))) := ⟨by rw [← hq_];exact (by refine bP ?_;exact BK171.out)⟩;have n2_ : Aside0 (w18.heap[gb172]? = some (.cells #[.int .i64 0,.int .i64 0] 87 (0,0))) := ⟨by rw [← hq_];exact (by refine bP ?_;exact BK172.out)⟩;have n3_ : Aside0 (Below w.heap.size w w18) := ⟨by rw [← hq_];exact (by repeat (first | (with_reducible first | exact HB.out | apply below_alloc | apply pw_below_drewN | apply below_drew1 | refine below_set ?_ GE170.out | refine below_set ?_ GE171.out | refine below_set ?_ GE172.out) | exact HB.out))⟩;clear BK170 BK171 BK172 HB hq_;have BK170 := n0_;have BK171 := n1_;have BK172 := n2_;have HB := n3_;clear n0_ n1_ n2_ n3_)));(try (obtain ⟨hcz21_0,hcz21_1,hfz21_0,hfz21_1⟩ := impl_Slot_plus.cells2 BK170.out));(try (obtain ⟨hcz23_0,hcz23_1,hfz23_0,hfz23_1⟩ := impl_Slot_plus.cells2 BK171.out));obtain ⟨hcz24_0,hcz24_1,hfz24_0,hfz24_1⟩ := impl_Slot_plus.cells2 BK172.out))
      refine bodyPost_ret (results_ct rfl _ _ gb172 87 #[.int .i64 0,.int .i64 0] (0,0) _ rfl (by refine bP ?_;refine blk_put (cs := #[.int .i64 0,.int .i64 0]) ?_ 1 _ rfl;refine bP ?_;refine blk_put (cs := #[.int .i64 0,.int .i64 0]) ?_ 0 _ rfl;refine bP ?_;exact BK172.out) Try.underlying87 rfl (by kernel_rfl)) rfl ?_
      exact ⟨by first | rfl | (simp [errW_none,errW_some] <;> rfl) | (simp [*,errW_none,errW_some] <;> rfl),by repeat (first | (with_reducible first | exact HB.out | apply below_alloc | apply pw_below_drewN | apply below_drew1 | refine below_set ?_ GE170.out | refine below_set ?_ GE171.out | refine below_set ?_ GE172.out) | exact HB.out)⟩
  · replace c5 := Bool.eq_false_iff.mpr c5
    subst c5
    have H1 : (some (0,0,false)) = some (r1,r2,r3) := by rw [if_neg (show ¬ (false = true) by decide)] at H;exact H
    clear H
    have H := H1
    clear H1
    simp only [Option.some.injEq,Prod.mk.injEq] at H
    obtain ⟨rfl,rfl,rfl⟩ := H
    go_enter Try.func87,Try.ntmps87
    go_wp2_with (first | ((with_reducible refine gate_dst (N := 2) rfl ?_);refine box_event ?hg (N := 2) ?hd (cs := #[.int .i64 a0_0,.int .i64 a0_1]) (t := 87) ?hr ?_;(case hd => rfl);(case hg => rfl);(case hr => first | (go_simp;done) | (go_simp;rfl));intro gb170 hg w25 hbox hb;have n0_ := Aside0.mk (below_step (by repeat (first | (with_reducible first | exact HB.out | apply below_alloc | apply pw_below_drewN | apply below_drew1) | exact HB.out)) hb);have n1_ := Aside0.mk (hbox);have n2_ := Aside0.mk ((by rw [hg];exact (below_size (by repeat (first | (with_reducible first | exact HB.out | apply below_alloc | apply pw_below_drewN | apply below_drew1) | exact HB.out))) : w.heap.size ≤ gb170));have n3_ := Aside0.mk ((by rw [hg];exact (below_size (by repeat (first | (with_reducible first | exact HB.out | apply below_alloc | apply pw_below_drewN | apply below_drew1) | exact HB.out))) : w.heap.size ≤ gb170));clear HB;have HB := n0_;have BK170 := n1_;have GW170 := n2_;have GE170 := n3_;clear n0_ n1_ n2_ n3_;clear hb hbox hg) | ((with_reducible refine gate_dst (N := 3) rfl ?_);refine box_event ?hg (N := 3) ?hd (cs := #[.int .i64 a1_0,.int .i64 a1_1]) (t := 87) ?hr ?_;(case hd => rfl);(case hg => rfl);(case hr => first | (go_simp;done) | (go_simp;rfl));intro gb171 hg w26 hbox hb;have n0_ := Aside0.mk (blk_below (g := gb170) (o := .cells #[.int .i64 a0_0,.int .i64 a0_1] 87 (0,0)) (by refine bP ?_;exact BK170.out) hb);have n1_ := Aside0.mk (below_step (by repeat (first | (with_reducible first | exact HB.out | apply below_alloc | apply pw_below_drewN | apply below_drew1 | refine below_set ?_ GE170.out) | exact HB.out)) hb);have n2_ := Aside0.mk (hbox);have n3_ := Aside0.mk ((by rw [hg];exact (below_size (by repeat (first | (with_reducible first | exact HB.out | apply below_alloc | apply pw_below_drewN | apply below_drew1 | refine below_set ?_ GE170.out) | exact HB.out))) : w.heap.size ≤ gb171));have n4_ := Aside0.mk ((by rw [hg];exact (below_size (by repeat (first | (with_reducible first | exact HB.out | apply below_alloc | apply pw_below_drewN | apply below_drew1 | refine below_set ?_ GE170.out) | exact HB.out))) : w.heap.size ≤ gb171));have n5_ := Aside0.mk ((by rw [hg];exact Nat.ne_of_lt (blk_lt (g := gb170) (o := .cells #[.int .i64 a0_0,.int .i64 a0_1] 87 (0,0)) (by refine bP ?_;exact BK170.out)) : gb170 ≠ gb171));have n6_ := Aside0.mk ((by rw [hg];exact Nat.ne_of_gt (blk_lt (g := gb170) (o := .cells #[.int .i64 a0_0,.int .i64 a0_1] 87 (0,0)) (by refine bP ?_;exact BK170.out)) : gb171 ≠ gb170));clear BK170;clear HB;have BK170 := n0_;have HB := n1_;have BK171 := n2_;have GW171 := n3_;have GE171 := n4_;have NB170_171 := n5_;have NB171_170 := n6_;clear n0_ n1_ n2_ n3_ n4_ n5_ n6_;clear hb hbox hg) | ((with_reducible refine gate_dst (N := 4) rfl ?_);refine box_event ?hg (N := 4) ?hd (cs := #[.int .i64 0,.int .i64 0]) (t := 87) ?hr ?_;(case hd => rfl);(case hg => rfl);(case hr => first | (go_simp;done) | (go_simp;rfl));intro gb172 hg w27 hbox hb;have n0_ := Aside0.mk (blk_below (g := gb170) (o := .cells #[.int .i64 a0_0,.int .i64 a0_1] 87 (0,0)) (by refine bP ?_;exact BK170.out) hb);have n1_ := Aside0.mk (blk_below (g := gb171) (o := .cells #[.int .i64 a1_0,.int .i64 a1_1] 87 (0,0)) (by refine bP ?_;exact BK171.out) hb);have n2_ := Aside0.mk (below_step (by repeat (first | (with_reducible first | exact HB.out | apply below_alloc | apply pw_below_drewN | apply below_drew1 | refine below_set ?_ GE170.out | refine below_set ?_ GE171.out) | exact HB.out)) hb);have n3_ := Aside0.mk (hbox);have n4_ := Aside0.mk ((by rw [hg];exact (below_size (by repeat (first | (with_reducible first | exact HB.out | apply below_alloc | apply pw_below_drewN | apply below_drew1 | refine below_set ?_ GE170.out | refine below_set ?_ GE171.out) | exact HB.out))) : w.heap.size ≤ gb172));have n5_ := Aside0.mk ((by rw [hg];exact (below_size (by repeat (first | (with_reducible first | exact HB.out | apply below_alloc | apply pw_below_drewN | apply below_drew1 | refine below_set ?_ GE170.out | refine below_set ?_ GE171.out) | exact HB.out))) : w.heap.size ≤ gb172));have n6_ := Aside0.mk ((by rw [hg];exact Nat.ne_of_lt (blk_lt (g := gb170) (o := .cells #[.int .i64 a0_0,.int .i64 a0_1] 87 (0,0)) (by refine bP ?_;exact BK170.out)) : gb170 ≠ gb172));have n7_ := Aside0.mk ((by rw [hg];exact Nat.ne_of_gt (blk_lt (g := gb170) (o := .cells #[.int .i64 a0_0,.int .i64 a0_1] 87 (0,0)) (by refine bP ?_;exact BK170.out)) : gb172 ≠ gb170));have n8_ := Aside0.mk ((by rw [hg];exact Nat.ne_of_lt (blk_lt (g := gb171) (o := .cells #[.int .i64 a1_0,.int .i64 a1_1] 87 (0,0)) (by refine bP ?_;exact BK171.out)) : gb171 ≠ gb172));have n9_ := Aside0.mk ((by rw [hg];exact Nat.ne_of_gt (blk_lt (g := gb171) (o := .cells #[.int .i64 a1_0,.int .i64 a1_1] 87 (0,0)) (by refine bP ?_;exact BK171.out)) : gb172 ≠ gb171));clear BK170;clear BK171;clear HB;have BK170 := n0_;have BK171 := n1_;have HB := n2_;have BK172 := n3_;have GW172 := n4_;have GE172 := n5_;have NB170_172 := n6_;have NB172_170 := n7_;have NB171_172 := n8_;have NB172_171 := n9_;clear n0_ n1_ n2_ n3_ n4_ n5_ n6_ n7_ n8_ n9_;clear hb hbox hg;have hnb28 := NB170_171.out;have hnc28 := NB171_170.out;have hnb29 := NB170_172.out;have hnc29 := NB172_170.out;obtain ⟨hcz30_0,hcz30_1,hfz30_0,hfz30_1⟩ := impl_Slot_plus.cells2 BK170.out;have hnb31 := NB171_172.out;have hnc31 := NB172_171.out;obtain ⟨hcz32_0,hcz32_1,hfz32_0,hfz32_1⟩ := impl_Slot_plus.cells2 BK171.out) | ((with_reducible refine gate_callee (f := 95) rfl ?_);refine goesL_ (some 15) rfl rfl Try.func95 (by kernel_rfl) rfl #[.int .i64 a0_0,.int .i64 a1_0] rfl (by (try simp only [List.map_toArray,List.map_cons,List.map_nil]);first | done | rfl | (simp only [List.length_drop,List.length_take];rfl)) ?_;(with_reducible refine (impl_AddInt.calls a0_0 a1_0 t173 false _ A3.out).mono ?_);rintro e w' ⟨rfl,⟨nd,rfl⟩⟩;refine ⟨_,rfl,?_⟩;(iterate 4 (try (rw [drewN_self w27];generalize hq_ : World.drewN w27 _ = w27;have n0_ : Aside0 (w27.heap[gb170]? = some (.cells #[.int .i64 a0_0,.int .i64 a0_1] 87 (0,0))) := ⟨by rw [← hq_];exact (by refine bP ?_;exact BK170.out)⟩;have n1_ : Aside0 (w27.heap[gb171]? = some (.cells #[.int .i64 a1_0,.int .i64 a1_1] 87 (0,0))) := ⟨by rw [← hq_];exact (by refine bP ?_;exact BK171.out)⟩;have n2_ : Aside0 (w27.heap[gb172]? = some (.cells #[.int .i64 0,.int .i64 0] 87 (0,0))) := ⟨by rw [← hq_];exact (by refine bP ?_;exact BK172.out)⟩;have n3_ : Aside0 (Below w.heap.size w w27) := ⟨by rw [← hq_];exact (by repeat (first | (with_reducible first | exact HB.out | apply below_alloc | apply pw_below_drewN | apply below_drew1 | refine below_set ?_ GE170.out | refine below_set ?_ GE171.out | refine below_set ?_ GE172.out) | exact HB.out))⟩;clear BK170 BK171 BK172 HB hq_;have BK170 := n0_;have BK171 := n1_;have BK172 := n2_;have HB := n3_;clear n0_ n1_ n2_ n3_)));(try (obtain ⟨hcz30_0,hcz30_1,hfz30_0,hfz30_1⟩ := impl_Slot_plus.cells2 BK170.out));(try (obtain ⟨hcz32_0,hcz32_1,hfz32_0,hfz32_1⟩ := impl_Slot_plus.cells2 BK171.out))) | ((with_reducible refine gate_callee (f := 95) rfl ?_);refine goesL_ (some 23) rfl rfl Try.func95 (by kernel_rfl) rfl #[.int .i64 a0_1,.int .i64 a1_1] rfl (by (try simp only [List.map_toArray,List.map_cons,List.map_nil]);first | done | rfl | (simp only [List.length_drop,List.length_take];rfl)) ?_;(with_reducible refine (impl_AddInt.calls a0_1 a1_1 t175 t176 _ A4.out).mono ?_);rintro e w' ⟨rfl,⟨nd,rfl⟩⟩;refine ⟨_,rfl,?_⟩;(iterate 4 (try (rw [drewN_self w27];generalize hq_ : World.drewN w27 _ = w27;have n0_ : Aside0 (w27.heap[gb170]? = some (.cells #[.int .i64 a0_0,.int .i64 a0_1] 87 (0,0))) := ⟨by rw [← hq_];exact (by refine bP ?_;exact BK170.out)⟩;have n1_ : Aside0 (w27.heap[gb171]? = some (.cells #[.int .i64 a1_0,.int .i64 a1_1] 87 (0,0))) := ⟨by rw [← hq_];exact (by refine bP ?_;exact BK171.out)⟩;have n2_ : Aside0 (w27.heap[gb172]? = some (.cells #[.int .i64 0,.int .i64 0] 87 (0,0))) := ⟨by rw [← hq_];exact (by refine bP ?_;exact BK172.out)⟩;have n3_ : Aside0 (Below w.heap.size w w27) := ⟨by rw [← hq_];exact (by repeat (first | (with_reducible first | exact HB.out | apply below_alloc | apply pw_below_drewN | apply below_drew1 | refine below_set ?_ GE170.out | refine below_set ?_ GE171.out | refine below_set ?_ GE172.out) | exact HB.out))⟩;clear BK170 BK171 BK172 HB hq_;have BK170 := n0_;have BK171 := n1_;have BK172 := n2_;have HB := n3_;clear n0_ n1_ n2_ n3_)));(try (obtain ⟨hcz30_0,hcz30_1,hfz30_0,hfz30_1⟩ := impl_Slot_plus.cells2 BK170.out));(try (obtain ⟨hcz32_0,hcz32_1,hfz32_0,hfz32_1⟩ := impl_Slot_plus.cells2 BK171.out));obtain ⟨hcz33_0,hcz33_1,hfz33_0,hfz33_1⟩ := impl_Slot_plus.cells2 BK172.out))
    refine bodyPost_ret (results_ct rfl _ _ gb172 87 #[.int .i64 0,.int .i64 0] (0,0) _ rfl (by refine bP ?_;refine blk_put (cs := #[.int .i64 0,.int .i64 0]) ?_ 1 _ rfl;refine bP ?_;refine blk_put (cs := #[.int .i64 0,.int .i64 0]) ?_ 0 _ rfl;refine bP ?_;exact BK172.out) Try.underlying87 rfl (by kernel_rfl)) rfl ?_
    exact ⟨by first | rfl | (simp [errW_none,errW_some] <;> rfl) | (simp [*,errW_none,errW_some] <;> rfl),by repeat (first | (with_reducible first | exact HB.out | apply below_alloc | apply pw_below_drewN | apply below_drew1 | refine below_set ?_ GE170.out | refine below_set ?_ GE171.out | refine below_set ?_ GE172.out) | exact HB.out)⟩

end Go.Proofs.Ytiacoiiapmfaeaa.QFnExactCandsOf
