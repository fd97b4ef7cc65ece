/- The machine side of FnExactCandsOf: what each Go function that it reaches comes to. Conditions: none. -/
import Derived.Test.YtiacoiiapmfaeaaQFnExactCandsOfx0
import Derived.Test.YtiacoiiapmfaeaaQFnExactCandsOfx4
namespace Go.Proofs.Ytiacoiiapmfaeaa.QFnExactCandsOf
open Go.RowKit Go.Proofs.YtiacoiiapmfaeaaW.PrintWords Go.Proofs.YtiacoiiapmfaeaaW.PrintLast Go.Proofs.YtiacoiiapmfaeaaW.PrintMore
attribute [local go_sem] max2_int min2_int max_two min_two max_three min_three max_four min_four   -- for this text's walks alone
set_option linter.unusedVariables false
set_option linter.unusedSimpArgs false

/-! ### impl_CandsOf: function 30 -/
theorem impl_CandsOf.cells2 {w : World} {g : Nat} {t : TypeId} {a0 a1 : Value} (h : w.heap[g]? = some (.cells #[a0,a1] t (0,0))) : w.cell? ⟨g,0,none⟩ = some a0 ∧ w.cell? ⟨g,1,none⟩ = some a1 ∧ w.frozen? ⟨g,0,none⟩ = false ∧ w.frozen? ⟨g,1,none⟩ = false := ⟨(blk_cell h 0).trans rfl,(blk_cell h 1).trans rfl,blk_frozen h 0,blk_frozen h 1⟩
mutual
def impl_CandsOf.l0 : Nat → Int → List (S91) → List (List (S87)) → Int → Int → Option ((List (S91)))
  | 0,_,_,_,_,_ => none
  | k + 1,x1,x5,x14,x15,x16 => if x16 < x15 then (if 0 ≤ x16 then (if x16 < (x14.length : Int) then ((impl_Prefix.f k (rd_L4 x14 x16)).bind fun bt201 => (if bt201.2 = true then (impl_CandsOf.l1 k x1 x5 x16 bt201.1 0 x14 x15 x16) else (some ([] : List (S91))))) else (none)) else (none)) else (some x5)
def impl_CandsOf.l1 : Nat → Int → List (S91) → Int → List (S87) → Int → List (List (S87)) → Int → Int → Option ((List (S91)))
  | 0,_,_,_,_,_,_,_,_ => none
  | k + 1,x1,x5,x6,x8,x10,x14,x15,x16 => if x10 < (wrap64 ((x8.length : Int) - 1)) then (if 0 ≤ (wrap64 ((x8.length : Int) - 1)) then (if (wrap64 ((x8.length : Int) - 1)) < (x8.length : Int) then (if 0 ≤ x10 then (if x10 < (x8.length : Int) then ((impl_Slot_minus.f ((rd_T87 x8 (wrap64 ((x8.length : Int) - 1))).f0) ((rd_T87 x8 (wrap64 ((x8.length : Int) - 1))).f1) ((rd_T87 x8 x10).f0) ((rd_T87 x8 x10).f1)).bind fun bt207 => (if bt207.2.2 = true then (if ((rd_T87 x8 x10).f0) ≥ x1 then (if bt207.1 ≥ x1 then (if x5.length < 2932031007402 then (impl_CandsOf.l1 k x1 (x5 ++ [(⟨x6,x10,(⟨(rd_T87 x8 x10).f0,(rd_T87 x8 x10).f1⟩ : S87),(⟨bt207.1,bt207.2.1⟩ : S87)⟩ : S91)]) x6 x8 (wrap64 (x10 + 1)) x14 x15 x16) else (none)) else (impl_CandsOf.l1 k x1 x5 x6 x8 (wrap64 (x10 + 1)) x14 x15 x16)) else (impl_CandsOf.l1 k x1 x5 x6 x8 (wrap64 (x10 + 1)) x14 x15 x16)) else (some ([] : List (S91))))) else (none)) else (none)) else (none)) else (none)) else (impl_CandsOf.l0 k x1 x5 x14 x15 (wrap64 (x16 + 1)))
end
def impl_CandsOf.f (k : Nat) (l0 : List (List (S87))) (a1 : Int) : Option ((List (S91))) := impl_CandsOf.l0 k a1 (([] : List (S91))) l0 (l0.length : Int) 0
theorem impl_CandsOf.mono_l : ∀ k,(∀ y0 y1 y2 y3 y4,LeO (impl_CandsOf.l0 k y0 y1 y2 y3 y4) (impl_CandsOf.l0 (k + 1) y0 y1 y2 y3 y4)) ∧ (∀ y0 y1 y2 y3 y4 y5 y6 y7,LeO (impl_CandsOf.l1 k y0 y1 y2 y3 y4 y5 y6 y7) (impl_CandsOf.l1 (k + 1) y0 y1 y2 y3 y4 y5 y6 y7))
  | 0 => ⟨fun _ _ _ _ _ r h => by simp [impl_CandsOf.l0] at h,fun _ _ _ _ _ _ _ _ r h => by simp [impl_CandsOf.l1] at h⟩
  | k + 1 => by
    obtain ⟨ih0,ih1⟩ := impl_CandsOf.mono_l k
    refine ⟨?_,?_⟩
    · intro y0 y1 y2 y3 y4
      unfold impl_CandsOf.l0
      repeat' first
      | (with_reducible exact ih0 _ _ _ _ _)
      | (with_reducible exact ih1 _ _ _ _ _ _ _ _)
      | (with_reducible exact impl_Prefix.mono _ _)
      | (with_reducible exact LeO.refl _)
      | (with_reducible exact LeO.none _)
      | (with_reducible refine LeO.ite ?_ ?_)
      | (with_reducible refine LeO.bind ?_ (fun _ => ?_))
      | exact ih0 _ _ _ _ _
      | exact ih1 _ _ _ _ _ _ _ _
      | exact impl_Prefix.mono _ _
      | exact LeO.none _
      | refine LeO.ite ?_ ?_
      | refine LeO.bind ?_ (fun _ => ?_)
    · intro y0 y1 y2 y3 y4 y5 y6 y7
      unfold impl_CandsOf.l1
      repeat' first
      | (with_reducible exact ih0 _ _ _ _ _)
      | (with_reducible exact ih1 _ _ _ _ _ _ _ _)
      | (with_reducible exact impl_Prefix.mono _ _)
      | (with_reducible exact LeO.refl _)
      | (with_reducible exact LeO.none _)
      | (with_reducible refine LeO.ite ?_ ?_)
      | (with_reducible refine LeO.bind ?_ (fun _ => ?_))
      | exact ih0 _ _ _ _ _
      | exact ih1 _ _ _ _ _ _ _ _
      | exact impl_Prefix.mono _ _
      | exact LeO.none _
      | refine LeO.ite ?_ ?_
      | refine LeO.bind ?_ (fun _ => ?_)
theorem impl_CandsOf.mono : ∀ a0 a1 k,LeO (impl_CandsOf.f k a0 a1) (impl_CandsOf.f (k + 1) a0 a1) := by
  intro a0 a1 k
  obtain ⟨ih0,ih1⟩ := impl_CandsOf.mono_l k
  unfold impl_CandsOf.f
  repeat' first
      | (with_reducible exact ih0 _ _ _ _ _)
      | (with_reducible exact ih1 _ _ _ _ _ _ _ _)
      | (with_reducible exact impl_Prefix.mono _ _)
      | (with_reducible exact LeO.refl _)
      | (with_reducible exact LeO.none _)
      | (with_reducible refine LeO.ite ?_ ?_)
      | (with_reducible refine LeO.bind ?_ (fun _ => ?_))
      | exact ih0 _ _ _ _ _
      | exact ih1 _ _ _ _ _ _ _ _
      | exact impl_Prefix.mono _ _
      | exact LeO.none _
      | refine LeO.ite ?_ ?_
      | refine LeO.bind ?_ (fun _ => ?_)
def impl_CandsOf.T11 : Bool × List (List Nat × List Nat) := (true,[([],[]),([],[]),([1],[1]),([2],[2]),([0,3],[0,3]),([4],[4]),([],[]),([],[]),([6,7],[6,7]),([8],[8]),([5,9],[5,9]),([10],[10]),([11],[11]),([11],[11]),([],[]),([14,12,10,0,1,2,3,4,5,6,7,8,9,10,11,12,14],[12,14]),([13,15,0,1,2,3,4,5,6,7,8,9,10,11,12,13,14,15],[13])])
def impl_CandsOf.B11 : List Nat := [0,0,2,6,15,31,0,0,192,448,1023,2047,4095,4095,0,24575,65535]
theorem impl_CandsOf.tab11 : rtab .any (opsOf Try.f30 11) = impl_CandsOf.T11 := by kernel_rfl
theorem impl_CandsOf.bits11 : waitsOk impl_CandsOf.T11.2 impl_CandsOf.B11 = true := by kernel_rfl
def impl_CandsOf.T15 : Bool × List (List Nat × List Nat) := (true,[([],[]),([],[]),([],[]),([],[]),([],[]),([3,4],[3,4]),([5],[5]),([],[]),([1,2,6,7],[1,2,6,7]),([8],[8]),([0,9],[0,9]),([10,10,0,1,2,3,4,5,6,7,8,9,10],[0,10])])
def impl_CandsOf.B15 : List Nat := [0,0,0,0,0,24,56,0,254,510,1023,2047]
theorem impl_CandsOf.tab15 : rtab .any (opsOf Try.f30 15) = impl_CandsOf.T15 := by kernel_rfl
theorem impl_CandsOf.bits15 : waitsOk impl_CandsOf.T15.2 impl_CandsOf.B15 = true := by kernel_rfl
set_option maxHeartbeats 8000000 in
set_option maxRecDepth 100000 in
theorem impl_CandsOf.calls (k : Nat) (A0 : Option Addr) (c0 : Nat) (l0 : List (List (S87))) (a1 : Int) (r : List (S91)) (w : World) (hr0 : Kd.C (Kd.slice 87 k87) w A0 l0.length l0) (hc0 : l0.length ≤ c0) (h : impl_CandsOf.f k l0 a1 = some r) :
    Calls Try.prog 30 #[.slice A0 l0.length c0,.int .i64 a1] w fun e w' => ∃ v0_ : Value,e = .returned (v0_) ∧ Kd.R k91 91 w' w.heap.size (fun _ => True) v0_ r ∧ Below w.heap.size w w' := by
  have hu87 := Try.underlying87
  have hu91 := Try.underlying91
  have HR0 := Aside0.mk hr0
  have HC0 := Aside0.mk hc0
  clear hr0 hc0
  have HB := Aside0.mk (Below.refl w.heap.size w)
  have H : (impl_CandsOf.l0 k a1 (([] : List (S91))) l0 (l0.length : Int) 0) = some r := h
  clear h
  obtain ⟨y197,hy197⟩ : ∃ y_ : List (S91),y_ = (([] : List (S91))) := ⟨_,rfl⟩
  replace H : (impl_CandsOf.l0 k a1 y197 l0 (l0.length : Int) 0) = some r := by first | (rw [hy197];with_reducible exact H) | (have H2_ := (Option.bind_some _ _).symm.trans H;rw [hy197];with_reducible exact H2_) | (have H2_ := (Option.bind_some _ _).symm.trans H;with_reducible exact H2_) | with_reducible exact H | (rw [hy197];exact H) | exact H
  have Ny197 := Aside0.mk hy197
  clear hy197
  have H' := Aside0.mk H
  clear H
  go_enter Try.func30,Try.ntmps30
  go_wp2_with (first | ((with_reducible refine gate_dst (N := 13) rfl ?_);refine Kd.R_lit k91 _ 91 ?hg (N := 13) ?hd (xs := ([] : List (S91))) (inner := []) (ok := fun _ => True) (okp := fun _ => True) ?hr ?hp (fun _ hk => hk) trivial (Below.refl _ _) (Nat.le_refl _) (by simp) ?_;(case hd => rfl);(case hg => rfl);(case hr => first | (go_simp;done) | (go_simp;rfl));(case hp => exact (Reps.none _ _));intro v198 w3 ho4 hb hg_ hnew_;clear hg_ hnew_;(first | rw [← Ny197.out] at ho4 | (simp only [Int.reduceToNat] at ho4;rw [← Ny197.out] at ho4));have n0_ := Aside0.mk (Kd.R_lower ho4 (below_size (by repeat (first | (with_reducible first | exact HB.out | apply below_alloc | apply pw_below_drewN | apply below_drew1) | exact HB.out))));have n1_ := Aside0.mk (below_step (by repeat (first | (with_reducible first | exact HB.out | apply below_alloc | apply pw_below_drewN | apply below_drew1) | exact HB.out)) hb);clear HB;have HO199 := n0_;have HB := n1_;clear n0_ n1_;clear hb ho4))
  go_loopg [5,16] k (fun kq v5 v16 w' => ∃ (x5_1 : List (S91)) (x16_1 : Int),v16 = .int .i64 x16_1 ∧ Aside0 (impl_CandsOf.l0 kq a1 x5_1 l0 (l0.length : Int) x16_1 = some r) ∧ Aside0 (kq ≤ k) ∧ Aside0 (Kd.R k91 91 w' w.heap.size (fun _ => True) v5 x5_1) ∧ Aside0 (Below w.heap.size w w'))
  case atStart => exact ⟨(y197),(0),(by first | rfl | (simp;done) | (simp [*];done)),H',⟨Nat.le_refl _⟩,⟨by (with_reducible repeat (first | apply Kd.R_alloc | apply Kd.R_drewN | apply Kd.R_drew));exact HO199.out⟩,⟨by repeat (first | (with_reducible first | exact HB.out | apply below_alloc | apply pw_below_drewN | apply below_drew1) | exact HB.out)⟩⟩
  case round =>
    clear H'
    try clear p2
    try clear c3
    obtain ⟨x5_1,x16_1,rfl,HA,HK1,HO_5,HB⟩ := hrel
    cases gk with
    | zero => exact absurd HA.out (by simp [impl_CandsOf.l0])
    | succ k1 =>
      have H := HA.out
      clear HA
      simp only [impl_CandsOf.l0] at H
      by_cases c5 : x16_1 < (l0.length : Int)
      · rw [if_pos c5] at H
        have c5b0 : decide (x16_1 < (l0.length : Int)) = true := decide_eq_true c5
        clear c5
        by_cases c6 : 0 ≤ x16_1
        · rw [if_pos c6] at H
          have c6b0 : decide (0 ≤ x16_1) = true := decide_eq_true c6
          clear c6
          by_cases c7 : x16_1 < (l0.length : Int)
          · rw [if_pos c7] at H
            have c7b0 : decide (x16_1 < (l0.length : Int)) = true := decide_eq_true c7
            clear c7
            replace H := Option.bind_eq_some_iff.mp H
            obtain ⟨⟨t201,t202⟩,A80,H⟩ := H
            replace H : (if t202 = true then (impl_CandsOf.l1 k1 a1 x5_1 x16_1 t201 0 l0 (l0.length : Int) x16_1) else (some ([] : List (S91)))) = some r := H
            have A8 := Aside0.mk A80
            clear A80
            by_cases c9 : t202 = true
            · subst c9
              have H1 : (impl_CandsOf.l1 k1 a1 x5_1 x16_1 t201 0 l0 (l0.length : Int) x16_1) = some r := by rw [if_pos rfl] at H;exact H
              clear H
              have H := H1
              clear H1
              have H' := Aside0.mk H
              clear H
              have p200 : 0 ≤ (x16_1 : Int) := of_decide_eq_true (by first | (with_reducible assumption) | assumption)
              have q200 : x16_1 < (l0.length : Int) := of_decide_eq_true (by first | (with_reducible assumption) | assumption)
              obtain ⟨ad200,A200_0,c200_0,e200,hx200_0,hl200_0,hi200_0⟩ := at_L4 HR0.out x16_1 p200 q200
              cases e200
              replace hx200_0 := (HB.out.cell (World.block_lt_of_cell? w _ hx200_0)).trans hx200_0
              have HR200_0 := Aside0.mk hi200_0
              have HC200_0 := Aside0.mk hl200_0
              clear hi200_0 hl200_0
              replace p200 := eq_true p200
              replace q200 := eq_true q200
              go_wp2_with (first | ((with_reducible refine gate_callee (f := 69) rfl ?_);refine goesL_ (some 23) rfl rfl Try.func69 (by kernel_rfl) rfl #[.slice A200_0 (rd_L4 l0 x16_1).length c200_0] rfl (by (try simp only [List.map_toArray,List.map_cons,List.map_nil]);first | done | rfl | (simp only [List.length_drop,List.length_take];rfl)) ?_;(with_reducible refine (impl_Prefix.calls k1 _ _ (rd_L4 l0 x16_1) t201 true _ ?side1 ?side2 A8.out).mono ?_);(case side1 => repeat (first | exact (Kd.C_below HR200_0.out HB.out) | (with_reducible refine Kd.C_alloc ?_ _) | (with_reducible refine Kd.C_drewN ?_ _) | (with_reducible refine Kd.C_drew ?_)));(case side2 => exact HC200_0.out);rintro e w10 ⟨v203,rfl,ho0,hb⟩;refine ⟨_,rfl,?_⟩;have n0_ := Aside0.mk (Kd.R_below (by (with_reducible repeat (first | apply Kd.R_alloc | apply Kd.R_drewN | apply Kd.R_drew));exact HO_5.out) hb);have n1_ := Aside0.mk (Kd.R_lower ho0 (below_size (by repeat (first | (with_reducible first | exact HB.out | apply below_alloc | apply pw_below_drewN | apply below_drew1) | exact HB.out))));have n2_ := Aside0.mk (below_step (by repeat (first | (with_reducible first | exact HB.out | apply below_alloc | apply pw_below_drewN | apply below_drew1) | exact HB.out)) hb);clear HO_5;clear HB;have HO_5 := n0_;have HO204 := n1_;have HB := n2_;clear n0_ n1_ n2_;(try clear hb);(try clear hb2);(try clear hk);(try clear hi);(try clear ho0)))
              go_loopg [5,10] k1 (fun kq v5 v10 w' => ∃ (x5_2 : List (S91)) (x10_2 : Int),v10 = .int .i64 x10_2 ∧ Aside0 (impl_CandsOf.l1 kq a1 x5_2 x16_1 t201 x10_2 l0 (l0.length : Int) x16_1 = some r) ∧ Aside0 (kq ≤ k1) ∧ Aside0 (Kd.R k91 91 w' w.heap.size (fun _ => True) v5 x5_2) ∧ Aside0 (Kd.R k87 87 w' w.heap.size (fun _ => True) v203 t201) ∧ Aside0 (Below w.heap.size w w'))
              case atStart => exact ⟨(x5_1),(0),(by first | rfl | (simp;done) | (simp [*];done)),H',⟨Nat.le_refl _⟩,⟨by (with_reducible repeat (first | apply Kd.R_alloc | apply Kd.R_drewN | apply Kd.R_drew));exact HO_5.out⟩,⟨by (with_reducible repeat (first | apply Kd.R_alloc | apply Kd.R_drewN | apply Kd.R_drew));exact HO204.out⟩,⟨by repeat (first | (with_reducible first | exact HB.out | apply below_alloc | apply pw_below_drewN | apply below_drew1) | exact HB.out)⟩⟩
              case round =>
                clear H'
                try clear c2
                try clear p2
                try clear q2
                try clear hx2
                try clear c3
                try clear c5
                try clear c5b0
                try clear c6
                try clear c6b0
                try clear c7
                try clear c7b0
                try clear c9
                try clear hx200_0
                try clear p2
                try clear p200
                try clear q200
                obtain ⟨x5_2,x10_2,rfl,HA,HK2,HO_5,HO_8,HB⟩ := hrel
                cases gk with
                | zero => exact absurd HA.out (by simp [impl_CandsOf.l1])
                | succ k2 =>
                  have H := HA.out
                  clear HA
                  simp only [impl_CandsOf.l1] at H
                  by_cases c11 : x10_2 < (wrap64 ((t201.length : Int) - 1))
                  · rw [if_pos c11] at H
                    have c11b0 : decide (x10_2 < (wrap64 ((t201.length : Int) - 1))) = true := decide_eq_true c11
                    clear c11
                    obtain ⟨ji12,hji12⟩ : ∃ j_ : Int,(wrap64 ((t201.length : Int) - 1)) = j_ := ⟨_,rfl⟩
                    replace H : (if 0 ≤ (ji12) then (if (ji12) < (t201.length : Int) then (if 0 ≤ x10_2 then (if x10_2 < (t201.length : Int) then ((impl_Slot_minus.f ((rd_T87 t201 (ji12)).f0) ((rd_T87 t201 (ji12)).f1) ((rd_T87 t201 x10_2).f0) ((rd_T87 t201 x10_2).f1)).bind fun bt207 => (if bt207.2.2 = true then (if ((rd_T87 t201 x10_2).f0) ≥ a1 then (if bt207.1 ≥ a1 then (if x5_2.length < 2932031007402 then (impl_CandsOf.l1 k2 a1 (x5_2 ++ [(⟨x16_1,x10_2,(⟨(rd_T87 t201 x10_2).f0,(rd_T87 t201 x10_2).f1⟩ : S87),(⟨bt207.1,bt207.2.1⟩ : S87)⟩ : S91)]) x16_1 t201 (wrap64 (x10_2 + 1)) l0 (l0.length : Int) x16_1) else (none)) else (impl_CandsOf.l1 k2 a1 x5_2 x16_1 t201 (wrap64 (x10_2 + 1)) l0 (l0.length : Int) x16_1)) else (impl_CandsOf.l1 k2 a1 x5_2 x16_1 t201 (wrap64 (x10_2 + 1)) l0 (l0.length : Int) x16_1)) else (some ([] : List (S91))))) else (none)) else (none)) else (none)) else (none)) = some r := by first | (rw [hji12] at H;exact H) | (simp only [hji12] at H ⊢;exact H)
                    (try rw [hji12] at c11b0)
                    have hji12w : (IntKind.i64.wrap ((t201.length : Int) - 1)) = ji12 := (i64_w _).trans hji12
                    by_cases c13 : 0 ≤ (ji12)
                    · rw [if_pos c13] at H
                      have c13b0 : decide (0 ≤ (ji12)) = true := decide_eq_true c13
                      clear c13
                      by_cases c14 : (ji12) < (t201.length : Int)
                      · rw [if_pos c14] at H
                        have c14b0 : decide ((ji12) < (t201.length : Int)) = true := decide_eq_true c14
                        clear c14
                        by_cases c15 : 0 ≤ x10_2
                        · rw [if_pos c15] at H
                          have c15b0 : decide (0 ≤ x10_2) = true := decide_eq_true c15
                          clear c15
                          by_cases c16 : x10_2 < (t201.length : Int)
                          · rw [if_pos c16] at H
                            have c16b0 : decide (x10_2 < (t201.length : Int)) = true := decide_eq_true c16
                            clear c16
                            replace H := Option.bind_eq_some_iff.mp H
                            obtain ⟨⟨t207,t208,t209⟩,A170,H⟩ := H
                            replace H : (if t209 = true then (if ((rd_T87 t201 x10_2).f0) ≥ a1 then (if t207 ≥ a1 then (if x5_2.length < 2932031007402 then (impl_CandsOf.l1 k2 a1 (x5_2 ++ [(⟨x16_1,x10_2,(⟨(rd_T87 t201 x10_2).f0,(rd_T87 t201 x10_2).f1⟩ : S87),(⟨t207,t208⟩ : S87)⟩ : S91)]) x16_1 t201 (wrap64 (x10_2 + 1)) l0 (l0.length : Int) x16_1) else (none)) else (impl_CandsOf.l1 k2 a1 x5_2 x16_1 t201 (wrap64 (x10_2 + 1)) l0 (l0.length : Int) x16_1)) else (impl_CandsOf.l1 k2 a1 x5_2 x16_1 t201 (wrap64 (x10_2 + 1)) l0 (l0.length : Int) x16_1)) else (some ([] : List (S91)))) = some r := H
                            have A17 := Aside0.mk A170
                            clear A170
                            by_cases c18 : t209 = true
                            · subst c18
                              have H1 : (if ((rd_T87 t201 x10_2).f0) ≥ a1 then (if t207 ≥ a1 then (if x5_2.length < 2932031007402 then (impl_CandsOf.l1 k2 a1 (x5_2 ++ [(⟨x16_1,x10_2,(⟨(rd_T87 t201 x10_2).f0,(rd_T87 t201 x10_2).f1⟩ : S87),(⟨t207,t208⟩ : S87)⟩ : S91)]) x16_1 t201 (wrap64 (x10_2 + 1)) l0 (l0.length : Int) x16_1) else (none)) else (impl_CandsOf.l1 k2 a1 x5_2 x16_1 t201 (wrap64 (x10_2 + 1)) l0 (l0.length : Int) x16_1)) else (impl_CandsOf.l1 k2 a1 x5_2 x16_1 t201 (wrap64 (x10_2 + 1)) l0 (l0.length : Int) x16_1)) = some r := by rw [if_pos rfl] at H;exact H
                              clear H
                              have H := H1
                              clear H1
                              by_cases c19 : ((rd_T87 t201 x10_2).f0) ≥ a1
                              · rw [if_pos c19] at H
                                have c19b0 : decide (a1 ≤ ((rd_T87 t201 x10_2).f0)) = true := decide_eq_true c19
                                clear c19
                                by_cases c20 : t207 ≥ a1
                                · rw [if_pos c20] at H
                                  have c20b0 : decide (a1 ≤ t207) = true := decide_eq_true c20
                                  clear c20
                                  by_cases c21 : x5_2.length < 2932031007402
                                  · rw [if_pos c21] at H
                                    have LMc21 := Aside0.mk c21
                                    clear c21
                                    obtain ⟨y213,hy213⟩ : ∃ y_ : List (S91),y_ = (x5_2 ++ [(⟨x16_1,x10_2,(⟨(rd_T87 t201 x10_2).f0,(rd_T87 t201 x10_2).f1⟩ : S87),(⟨t207,t208⟩ : S87)⟩ : S91)]) := ⟨_,rfl⟩
                                    replace H : (impl_CandsOf.l1 k2 a1 y213 x16_1 t201 (wrap64 (x10_2 + 1)) l0 (l0.length : Int) x16_1) = some r := by first | (rw [hy213];with_reducible exact H) | (have H2_ := (Option.bind_some _ _).symm.trans H;rw [hy213];with_reducible exact H2_) | (have H2_ := (Option.bind_some _ _).symm.trans H;with_reducible exact H2_) | with_reducible exact H | (rw [hy213];exact H) | exact H
                                    have Ny213 := Aside0.mk hy213
                                    clear hy213
                                    have H' := Aside0.mk H
                                    clear H
                                    obtain ⟨Ao22,co22,eo22⟩ := Kd.R_slice HO_8.out
                                    subst eo22
                                    try go_wp2
                                    have n0_ := Aside0.mk (Kd.R_drew HO_5.out)
                                    have n1_ := Aside0.mk (Kd.R_drew HO_8.out)
                                    have n2_ := Aside0.mk (below_drew1 HB.out)
                                    clear HO_5
                                    clear HO_8
                                    clear HB
                                    have HO_5 := n0_
                                    have HO_8 := n1_
                                    have HB := n2_
                                    clear n0_ n1_ n2_
                                    have p205 : 0 ≤ ((ji12) : Int) := of_decide_eq_true (by first | (with_reducible assumption) | assumption)
                                    have q205 : (ji12) < (t201.length : Int) := of_decide_eq_true (by first | (with_reducible assumption) | assumption)
                                    obtain ⟨ad205,e205,hx205_0,hx205_1⟩ := at_T87 (Kd.R_reads' HO_8.out).2.2 (ji12) p205 q205
                                    cases e205
                                    replace p205 := eq_true p205
                                    replace q205 := eq_true q205
                                    have p206 : 0 ≤ (x10_2 : Int) := of_decide_eq_true (by first | (with_reducible assumption) | assumption)
                                    have q206 : x10_2 < (t201.length : Int) := of_decide_eq_true (by first | (with_reducible assumption) | assumption)
                                    obtain ⟨ad206,e206,hx206_0,hx206_1⟩ := at_T87 (Kd.R_reads' HO_8.out).2.2 x10_2 p206 q206
                                    obtain rfl : ad205 = ad206 := (by injection e206)
                                    replace p206 := eq_true p206
                                    replace q206 := eq_true q206
                                    refine start_ (n := 17) (S := fun w' => w'.cell? (ad205.add (((ji12)).toNat * 2)) = some (.int .i64 ((rd_T87 t201 (ji12)).f0)) ∧ w'.cell? ⟨(ad205.add (((ji12)).toNat * 2)).block,(ad205.add (((ji12)).toNat * 2)).off + 1,none⟩ = some (.int .i64 ((rd_T87 t201 (ji12)).f1)) ∧ w'.cell? (ad205.add ((x10_2).toNat * 2)) = some (.int .i64 ((rd_T87 t201 x10_2).f0)) ∧ w'.cell? ⟨(ad205.add ((x10_2).toNat * 2)).block,(ad205.add ((x10_2).toNat * 2)).off + 1,none⟩ = some (.int .i64 ((rd_T87 t201 x10_2).f1))) (ds := []) #[false,false,false,false,false,false,false,false,false,false,false,false,false,false,false,false,false] (by kernel_rfl) rfl rfl ⟨hx205_0,hx205_1,hx206_0,hx206_1⟩ (fun hHeld => ?_);refine with_tabW impl_CandsOf.tab11 impl_CandsOf.bits11 (fun HT_ HW_ => ?_)
                                    generalize wr.drew = w23 at HO_5 HO_8 HB hx205_0 hx205_1 hx206_0 hx206_1 hHeld ⊢
                                    refine pure_ (i := 0) (N := some 36) (v := ?_) (a' := ?_) #[true,false,false,false,false,false,false,false,false,false,false,false,false,false,false,false,false] rfl rfl (any_of HT_.out (by kernel_rfl)) (fun _ _ _ h => h) (Or.inl ⟨by rfl,?_⟩) ?_ ?_
                                    rotate_left
                                    · intro w'
                                      go_simp
                                      with_reducible rfl
                                    rotate_left
                                    · simp only [Act.put,List.setIfInBounds_toArray,List.set_cons_zero,List.set_cons_succ,i64_w,i32_w]
                                      rfl
                                    refine pure_ (i := 1) (N := some 37) (v := ?_) (a' := ?_) #[true,true,false,false,false,false,false,false,false,false,false,false,false,false,false,false,false] rfl rfl (any_of HT_.out (by kernel_rfl)) (fun _ _ _ h => h) (Or.inl ⟨by rfl,?_⟩) ?_ ?_
                                    rotate_left
                                    · intro w'
                                      go_simp
                                      with_reducible rfl
                                    rotate_left
                                    · simp only [Act.put,List.setIfInBounds_toArray,List.set_cons_zero,List.set_cons_succ,i64_w,i32_w]
                                      rfl
                                    refine pure_ (i := 2) (N := some 38) (v := ?_) (a' := ?_) #[true,true,true,false,false,false,false,false,false,false,false,false,false,false,false,false,false] rfl rfl (any_of HT_.out (by kernel_rfl)) (fun _ _ _ h => h) (Or.inl ⟨by rfl,?_⟩) ?_ ?_
                                    rotate_left
                                    · intro w'
                                      go_simp
                                      with_reducible rfl
                                    rotate_left
                                    · simp only [Act.put,List.setIfInBounds_toArray,List.set_cons_zero,List.set_cons_succ,i64_w,i32_w]
                                      rfl
                                    refine pure_ (i := 3) (N := some 39) (v := ?_) (a' := ?_) #[true,true,true,true,false,false,false,false,false,false,false,false,false,false,false,false,false] rfl rfl (any_of HT_.out (by kernel_rfl)) (fun _ _ _ h => h) (Or.inl ⟨by rfl,?_⟩) ?_ ?_
                                    rotate_left
                                    · intro w'
                                      go_simp
                                      with_reducible rfl
                                    rotate_left
                                    · simp only [Act.put,List.setIfInBounds_toArray,List.set_cons_zero,List.set_cons_succ,i64_w,i32_w]
                                      rfl
                                    refine pure_ (i := 4) (N := some 40) (v := ?_) (a' := ?_) #[true,true,true,true,true,false,false,false,false,false,false,false,false,false,false,false,false] rfl rfl (any_of HT_.out (by kernel_rfl)) (fun _ _ _ h => h) (Or.inl ⟨by rfl,?_⟩) ?_ ?_
                                    rotate_left
                                    · intro w'
                                      go_simp
                                      with_reducible rfl
                                    rotate_left
                                    · simp only [Act.put,List.setIfInBounds_toArray,List.set_cons_zero,List.set_cons_succ,i64_w,i32_w]
                                      rfl
                                    refine pure_ (i := 6) (N := some 42) (v := ?_) (a' := ?_) #[true,true,true,true,true,false,true,false,false,false,false,false,false,false,false,false,false] rfl rfl (any_of HT_.out (by kernel_rfl)) (fun _ _ _ h => h) (Or.inl ⟨by rfl,?_⟩) ?_ ?_
                                    rotate_left
                                    · intro w'
                                      go_simp
                                      with_reducible rfl
                                    rotate_left
                                    · simp only [Act.put,List.setIfInBounds_toArray,List.set_cons_zero,List.set_cons_succ,i64_w,i32_w]
                                      rfl
                                    refine pure_ (i := 7) (N := some 43) (v := ?_) (a' := ?_) #[true,true,true,true,true,false,true,true,false,false,false,false,false,false,false,false,false] rfl rfl (any_of HT_.out (by kernel_rfl)) (fun _ _ _ h => h) (Or.inl ⟨by rfl,?_⟩) ?_ ?_
                                    rotate_left
                                    · intro w'
                                      go_simp
                                      with_reducible rfl
                                    rotate_left
                                    · simp only [Act.put,List.setIfInBounds_toArray,List.set_cons_zero,List.set_cons_succ,i64_w,i32_w]
                                      rfl
                                    refine pure_ (i := 8) (N := some 44) (v := ?_) (a' := ?_) #[true,true,true,true,true,false,true,true,true,false,false,false,false,false,false,false,false] rfl rfl (any_of HT_.out (by kernel_rfl)) (fun _ _ _ h => h) (Or.inl ⟨by rfl,?_⟩) ?_ ?_
                                    rotate_left
                                    · intro w'
                                      go_simp
                                      with_reducible rfl
                                    rotate_left
                                    · simp only [Act.put,List.setIfInBounds_toArray,List.set_cons_zero,List.set_cons_succ,i64_w,i32_w]
                                      rfl
                                    refine take_ (i := 5) (N := some 41) (v := ?_) (a' := ?_) #[true,true,true,true,true,true,true,true,true,false,false,false,false,false,false,false,false] rfl rfl (take_ofW HT_.out HW_.out (by kernel_rfl)) (fun _ _ _ h => h) (Or.inl ⟨by rfl,?_⟩) hHeld ?_ ?_
                                    rotate_left
                                    · rintro w' ⟨s0,s1,s2,s3⟩
                                      go_simp
                                      with_reducible rfl
                                    rotate_left
                                    · simp only [Act.put,List.setIfInBounds_toArray,List.set_cons_zero,List.set_cons_succ,i64_w,i32_w]
                                      rfl
                                    refine take_ (i := 9) (N := some 45) (v := ?_) (a' := ?_) #[true,true,true,true,true,true,true,true,true,true,false,false,false,false,false,false,false] rfl rfl (take_ofW HT_.out HW_.out (by kernel_rfl)) (fun _ _ _ h => h) (Or.inl ⟨by rfl,?_⟩) hHeld ?_ ?_
                                    rotate_left
                                    · rintro w' ⟨s0,s1,s2,s3⟩
                                      go_simp
                                      with_reducible rfl
                                    rotate_left
                                    · simp only [Act.put,List.setIfInBounds_toArray,List.set_cons_zero,List.set_cons_succ,i64_w,i32_w]
                                      rfl
                                    refine join_ (σ := Nat) 2 #[true,true,true,true,true,true,true,true,true,true,true,true,true,true,true,false,false] (fun s_ => [(46,.tuple #[.agg #[.int .i64 t207,.int .i64 t208],.bool true]),(11,.pointer (some ⟨s_,0,none⟩)),(35,.tuple #[.agg #[.int .i64 t207,.int .i64 t208],.bool true]),(47,.agg #[.int .i64 t207,.int .i64 t208]),(48,.bool true)]) (fun s_ w' => (w'.cell? (ad205.add (((ji12)).toNat * 2)) = some (.int .i64 ((rd_T87 t201 (ji12)).f0)) ∧ w'.cell? ⟨(ad205.add (((ji12)).toNat * 2)).block,(ad205.add (((ji12)).toNat * 2)).off + 1,none⟩ = some (.int .i64 ((rd_T87 t201 (ji12)).f1)) ∧ w'.cell? (ad205.add ((x10_2).toNat * 2)) = some (.int .i64 ((rd_T87 t201 x10_2).f0)) ∧ w'.cell? ⟨(ad205.add ((x10_2).toNat * 2)).block,(ad205.add ((x10_2).toNat * 2)).off + 1,none⟩ = some (.int .i64 ((rd_T87 t201 x10_2).f1))) ∧ (Kd.R k91 91 w' w.heap.size (fun _ => True) u5 x5_2) ∧ (Kd.R k87 87 w' w.heap.size (fun k_ => k_ ≠ s_) (.slice (some ad205) t201.length co22) t201) ∧ (w'.heap[s_]? = some (.cells #[.int .i64 0,.int .i64 0] 87 (0,0))) ∧ (w.heap.size ≤ s_) ∧ (w.heap.size ≤ s_) ∧ (Below w.heap.size w w')) ?_ ?_
                                    rotate_left
                                    · intro hCont
                                      refine two_ (i := 10) (j := 14) (Ni := some 46) (Nj := some 11) #[true,true,true,true,true,true,true,true,true,true,true,false,false,false,false,false,false] #[true,true,true,true,true,true,true,true,true,true,false,false,false,false,true,false,false] rfl rfl rfl rfl (two_of HT_.out (by kernel_rfl)) (by decide) (by decide) (fun K hK => ?_) (fun K hK => ?_)
                                      · skip
                                        refine goes_ Try.func70 (by kernel_rfl) rfl #[.agg #[.int .i64 ((rd_T87 t201 (ji12)).f0),.int .i64 ((rd_T87 t201 (ji12)).f1)],.agg #[.int .i64 ((rd_T87 t201 x10_2).f0),.int .i64 ((rd_T87 t201 x10_2).f1)]] (by rfl) rfl rfl (by (try simp only [List.map_toArray,List.map_cons,List.map_nil]);first | done | (simp only [hji12];rfl) | rfl | (simp only [List.length_drop,List.length_take];rfl)) ?_
                                        with_reducible refine (impl_Slot_minus.calls ((rd_T87 t201 (ji12)).f0) ((rd_T87 t201 (ji12)).f1) ((rd_T87 t201 x10_2).f0) ((rd_T87 t201 x10_2).f1) t207 t208 true _ A17.out).mono ?_
                                        rintro e w24 ⟨rfl,hb⟩
                                        have HS0_ := (hb.cell (World.block_lt_of_cell? _ _ (hHeld.1))).trans (hHeld.1)
                                        have HS1_ := (hb.cell (World.block_lt_of_cell? _ _ (hHeld.2.1))).trans (hHeld.2.1)
                                        have HS2_ := (hb.cell (World.block_lt_of_cell? _ _ (hHeld.2.2.1))).trans (hHeld.2.2.1)
                                        have HS3_ := (hb.cell (World.block_lt_of_cell? _ _ (hHeld.2.2.2))).trans (hHeld.2.2.2)
                                        refine ⟨_,rfl,?_⟩
                                        have n0_ := Aside0.mk (Kd.R_below (by (with_reducible repeat (first | apply Kd.R_alloc | apply Kd.R_drewN | apply Kd.R_drew));exact HO_5.out) hb)
                                        have n1_ := Aside0.mk (Kd.R_below (by (with_reducible repeat (first | apply Kd.R_alloc | apply Kd.R_drewN | apply Kd.R_drew));exact HO_8.out) hb)
                                        have n2_ := Aside0.mk (below_step (by repeat (first | (with_reducible first | exact HB.out | apply below_alloc | apply pw_below_drewN | apply below_drew1) | exact HB.out)) hb)
                                        clear HO_5
                                        clear HO_8
                                        clear HB
                                        have HO_5 := n0_
                                        have HO_8 := n1_
                                        have HB := n2_
                                        clear n0_ n1_ n2_
                                        (try clear hb)
                                        (try clear hb2)
                                        (try clear hk)
                                        (try clear hi)
                                        refine hK.out _ _ ⟨HS0_,HS1_,HS2_,HS3_⟩ (fun hHeld => ?_)
                                        clear hK K
                                        refine norm_ (a' := ?_) ?_ ?_
                                        rotate_left
                                        · show Act.put _ (some 46) _ = _
                                          simp only [Act.put,List.setIfInBounds_toArray,List.set_cons_zero,List.set_cons_succ,i64_w,i32_w]
                                          rfl
                                        refine pure_ (i := 11) (N := some 35) (v := ?_) (a' := ?_) #[true,true,true,true,true,true,true,true,true,true,true,true,false,false,false,false,false] rfl rfl (any_of HT_.out (by kernel_rfl)) (fun _ _ _ h => h) (Or.inl ⟨by rfl,?_⟩) ?_ ?_
                                        rotate_left
                                        · intro w'
                                          go_simp
                                          with_reducible rfl
                                        rotate_left
                                        · simp only [Act.put,List.setIfInBounds_toArray,List.set_cons_zero,List.set_cons_succ,i64_w,i32_w]
                                          rfl
                                        refine pure_ (i := 12) (N := some 47) (v := ?_) (a' := ?_) #[true,true,true,true,true,true,true,true,true,true,true,true,true,false,false,false,false] rfl rfl (any_of HT_.out (by kernel_rfl)) (fun _ _ _ h => h) (Or.inl ⟨by rfl,?_⟩) ?_ ?_
                                        rotate_left
                                        · intro w'
                                          go_simp
                                          with_reducible rfl
                                        rotate_left
                                        · simp only [Act.put,List.setIfInBounds_toArray,List.set_cons_zero,List.set_cons_succ,i64_w,i32_w]
                                          rfl
                                        refine pure_ (i := 13) (N := some 48) (v := ?_) (a' := ?_) #[true,true,true,true,true,true,true,true,true,true,true,true,true,true,false,false,false] rfl rfl (any_of HT_.out (by kernel_rfl)) (fun _ _ _ h => h) (Or.inl ⟨by rfl,?_⟩) ?_ ?_
                                        rotate_left
                                        · intro w'
                                          go_simp
                                          with_reducible rfl
                                        rotate_left
                                        · simp only [Act.put,List.setIfInBounds_toArray,List.set_cons_zero,List.set_cons_succ,i64_w,i32_w]
                                          rfl
                                        refine one_ (i := 14) (N := some 11) #[true,true,true,true,true,true,true,true,true,true,true,true,true,true,true,false,false] rfl rfl (one_of HT_.out (by kernel_rfl)) (by decide) (fun K hK => ?_)
                                        refine box_step ?hg (N := 11) ?hd (cs := #[.int .i64 0,.int .i64 0]) (t := 87) ?hr ?_;(case hd => rfl);(case hg => rfl);(case hr => first | (go_simp;done) | (go_simp;rfl))
                                        intro gb210 hg w25 hbox hb
                                        have HS0_ := (hb.cell (World.block_lt_of_cell? _ _ (hHeld.1))).trans (hHeld.1)
                                        have HS1_ := (hb.cell (World.block_lt_of_cell? _ _ (hHeld.2.1))).trans (hHeld.2.1)
                                        have HS2_ := (hb.cell (World.block_lt_of_cell? _ _ (hHeld.2.2.1))).trans (hHeld.2.2.1)
                                        have HS3_ := (hb.cell (World.block_lt_of_cell? _ _ (hHeld.2.2.2))).trans (hHeld.2.2.2)
                                        have n0_ := Aside0.mk (Kd.R_below (by (with_reducible repeat (first | apply Kd.R_alloc | apply Kd.R_drewN | apply Kd.R_drew));exact HO_5.out) hb)
                                        have n1_ := Aside0.mk (Kd.R_below (Kd.R_elderB (by (with_reducible repeat (first | apply Kd.R_alloc | apply Kd.R_drewN | apply Kd.R_drew));exact HO_8.out) gb210 (Nat.le_of_eq hg.symm)) hb)
                                        have n2_ := Aside0.mk (below_step (by repeat (first | (with_reducible first | exact HB.out | apply below_alloc | apply pw_below_drewN | apply below_drew1) | exact HB.out)) hb)
                                        have n3_ := Aside0.mk (hbox)
                                        have n4_ := Aside0.mk ((by rw [hg];exact (below_size (by repeat (first | (with_reducible first | exact HB.out | apply below_alloc | apply pw_below_drewN | apply below_drew1) | exact HB.out))) : w.heap.size ≤ gb210))
                                        have n5_ := Aside0.mk ((by rw [hg];exact (below_size (by repeat (first | (with_reducible first | exact HB.out | apply below_alloc | apply pw_below_drewN | apply below_drew1) | exact HB.out))) : w.heap.size ≤ gb210))
                                        clear HO_5
                                        clear HO_8
                                        clear HB
                                        have HO_5 := n0_
                                        have HO_8 := n1_
                                        have HB := n2_
                                        have BK210 := n3_
                                        have GW210 := n4_
                                        have GE210 := n5_
                                        clear n0_ n1_ n2_ n3_ n4_ n5_
                                        clear hb hbox hg
                                        refine hK.out _ _ ⟨HS0_,HS1_,HS2_,HS3_⟩ (fun hHeld => ?_)
                                        clear hK K
                                        refine norm_ (a' := ?_) ?_ ?_
                                        rotate_left
                                        · show Act.put _ (some 11) _ = _
                                          simp only [Act.put,List.setIfInBounds_toArray,List.set_cons_zero,List.set_cons_succ,i64_w,i32_w]
                                          rfl
                                        exact norm_ (by simp only [putAll,Act.put,List.setIfInBounds_toArray,List.set_cons_zero,List.set_cons_succ]) (hCont (gb210) _ ⟨hHeld,(by (with_reducible repeat (first | apply Kd.R_alloc | apply Kd.R_drewN | apply Kd.R_drew));exact HO_5.out),(by (with_reducible repeat (first | apply Kd.R_alloc | apply Kd.R_drewN | apply Kd.R_drew));exact Kd.R_mono HO_8.out (fun _ hk => hk.2)),(by refine bP ?_;exact BK210.out),GW210.out,GE210.out,(by repeat (first | (with_reducible first | exact HB.out | apply below_alloc | apply pw_below_drewN | apply below_drew1 | refine below_set ?_ GE210.out) | exact HB.out))⟩)
                                      · skip
                                        refine box_step ?hg (N := 11) ?hd (cs := #[.int .i64 0,.int .i64 0]) (t := 87) ?hr ?_;(case hd => rfl);(case hg => rfl);(case hr => first | (go_simp;done) | (go_simp;rfl))
                                        intro gb210 hg w24 hbox hb
                                        have HS0_ := (hb.cell (World.block_lt_of_cell? _ _ (hHeld.1))).trans (hHeld.1)
                                        have HS1_ := (hb.cell (World.block_lt_of_cell? _ _ (hHeld.2.1))).trans (hHeld.2.1)
                                        have HS2_ := (hb.cell (World.block_lt_of_cell? _ _ (hHeld.2.2.1))).trans (hHeld.2.2.1)
                                        have HS3_ := (hb.cell (World.block_lt_of_cell? _ _ (hHeld.2.2.2))).trans (hHeld.2.2.2)
                                        have n0_ := Aside0.mk (Kd.R_below (by (with_reducible repeat (first | apply Kd.R_alloc | apply Kd.R_drewN | apply Kd.R_drew));exact HO_5.out) hb)
                                        have n1_ := Aside0.mk (Kd.R_below (Kd.R_elderB (by (with_reducible repeat (first | apply Kd.R_alloc | apply Kd.R_drewN | apply Kd.R_drew));exact HO_8.out) gb210 (Nat.le_of_eq hg.symm)) hb)
                                        have n2_ := Aside0.mk (below_step (by repeat (first | (with_reducible first | exact HB.out | apply below_alloc | apply pw_below_drewN | apply below_drew1) | exact HB.out)) hb)
                                        have n3_ := Aside0.mk (hbox)
                                        have n4_ := Aside0.mk ((by rw [hg];exact (below_size (by repeat (first | (with_reducible first | exact HB.out | apply below_alloc | apply pw_below_drewN | apply below_drew1) | exact HB.out))) : w.heap.size ≤ gb210))
                                        have n5_ := Aside0.mk ((by rw [hg];exact (below_size (by repeat (first | (with_reducible first | exact HB.out | apply below_alloc | apply pw_below_drewN | apply below_drew1) | exact HB.out))) : w.heap.size ≤ gb210))
                                        clear HO_5
                                        clear HO_8
                                        clear HB
                                        have HO_5 := n0_
                                        have HO_8 := n1_
                                        have HB := n2_
                                        have BK210 := n3_
                                        have GW210 := n4_
                                        have GE210 := n5_
                                        clear n0_ n1_ n2_ n3_ n4_ n5_
                                        clear hb hbox hg
                                        refine hK.out _ _ ⟨HS0_,HS1_,HS2_,HS3_⟩ (fun hHeld => ?_)
                                        clear hK K
                                        refine norm_ (a' := ?_) ?_ ?_
                                        rotate_left
                                        · show Act.put _ (some 11) _ = _
                                          simp only [Act.put,List.setIfInBounds_toArray,List.set_cons_zero,List.set_cons_succ,i64_w,i32_w]
                                          rfl
                                        refine one_ (i := 10) (N := some 46) #[true,true,true,true,true,true,true,true,true,true,true,false,false,false,true,false,false] rfl rfl (one_of HT_.out (by kernel_rfl)) (by decide) (fun K hK => ?_)
                                        refine goes_ Try.func70 (by kernel_rfl) rfl #[.agg #[.int .i64 ((rd_T87 t201 (ji12)).f0),.int .i64 ((rd_T87 t201 (ji12)).f1)],.agg #[.int .i64 ((rd_T87 t201 x10_2).f0),.int .i64 ((rd_T87 t201 x10_2).f1)]] (by rfl) rfl rfl (by (try simp only [List.map_toArray,List.map_cons,List.map_nil]);first | done | (simp only [hji12];rfl) | rfl | (simp only [List.length_drop,List.length_take];rfl)) ?_
                                        with_reducible refine (impl_Slot_minus.calls ((rd_T87 t201 (ji12)).f0) ((rd_T87 t201 (ji12)).f1) ((rd_T87 t201 x10_2).f0) ((rd_T87 t201 x10_2).f1) t207 t208 true _ A17.out).mono ?_
                                        rintro e w25 ⟨rfl,hb⟩
                                        have HS0_ := (hb.cell (World.block_lt_of_cell? _ _ (hHeld.1))).trans (hHeld.1)
                                        have HS1_ := (hb.cell (World.block_lt_of_cell? _ _ (hHeld.2.1))).trans (hHeld.2.1)
                                        have HS2_ := (hb.cell (World.block_lt_of_cell? _ _ (hHeld.2.2.1))).trans (hHeld.2.2.1)
                                        have HS3_ := (hb.cell (World.block_lt_of_cell? _ _ (hHeld.2.2.2))).trans (hHeld.2.2.2)
                                        refine ⟨_,rfl,?_⟩
                                        have n0_ := Aside0.mk (Kd.R_below (by (with_reducible repeat (first | apply Kd.R_alloc | apply Kd.R_drewN | apply Kd.R_drew));exact HO_5.out) hb)
                                        have n1_ := Aside0.mk (Kd.R_below (by (with_reducible repeat (first | apply Kd.R_alloc | apply Kd.R_drewN | apply Kd.R_drew));exact HO_8.out) hb)
                                        have n2_ := Aside0.mk (blk_below (g := gb210) (o := .cells #[.int .i64 0,.int .i64 0] 87 (0,0)) (by refine bP ?_;exact BK210.out) hb)
                                        have n3_ := Aside0.mk (below_step (by repeat (first | (with_reducible first | exact HB.out | apply below_alloc | apply pw_below_drewN | apply below_drew1 | refine below_set ?_ GE210.out) | exact HB.out)) hb)
                                        clear HO_5
                                        clear HO_8
                                        clear BK210
                                        clear HB
                                        have HO_5 := n0_
                                        have HO_8 := n1_
                                        have BK210 := n2_
                                        have HB := n3_
                                        clear n0_ n1_ n2_ n3_
                                        (try clear hb)
                                        (try clear hb2)
                                        (try clear hk)
                                        (try clear hi)
                                        refine hK.out _ _ ⟨HS0_,HS1_,HS2_,HS3_⟩ (fun hHeld => ?_)
                                        clear hK K
                                        refine norm_ (a' := ?_) ?_ ?_
                                        rotate_left
                                        · show Act.put _ (some 46) _ = _
                                          simp only [Act.put,List.setIfInBounds_toArray,List.set_cons_zero,List.set_cons_succ,i64_w,i32_w]
                                          rfl
                                        refine pure_ (i := 11) (N := some 35) (v := ?_) (a' := ?_) #[true,true,true,true,true,true,true,true,true,true,true,true,false,false,true,false,false] rfl rfl (any_of HT_.out (by kernel_rfl)) (fun _ _ _ h => h) (Or.inl ⟨by rfl,?_⟩) ?_ ?_
                                        rotate_left
                                        · intro w'
                                          go_simp
                                          with_reducible rfl
                                        rotate_left
                                        · simp only [Act.put,List.setIfInBounds_toArray,List.set_cons_zero,List.set_cons_succ,i64_w,i32_w]
                                          rfl
                                        refine pure_ (i := 12) (N := some 47) (v := ?_) (a' := ?_) #[true,true,true,true,true,true,true,true,true,true,true,true,true,false,true,false,false] rfl rfl (any_of HT_.out (by kernel_rfl)) (fun _ _ _ h => h) (Or.inl ⟨by rfl,?_⟩) ?_ ?_
                                        rotate_left
                                        · intro w'
                                          go_simp
                                          with_reducible rfl
                                        rotate_left
                                        · simp only [Act.put,List.setIfInBounds_toArray,List.set_cons_zero,List.set_cons_succ,i64_w,i32_w]
                                          rfl
                                        refine pure_ (i := 13) (N := some 48) (v := ?_) (a' := ?_) #[true,true,true,true,true,true,true,true,true,true,true,true,true,true,true,false,false] rfl rfl (any_of HT_.out (by kernel_rfl)) (fun _ _ _ h => h) (Or.inl ⟨by rfl,?_⟩) ?_ ?_
                                        rotate_left
                                        · intro w'
                                          go_simp
                                          with_reducible rfl
                                        rotate_left
                                        · simp only [Act.put,List.setIfInBounds_toArray,List.set_cons_zero,List.set_cons_succ,i64_w,i32_w]
                                          rfl
                                        exact norm_ (by simp only [putAll,Act.put,List.setIfInBounds_toArray,List.set_cons_zero,List.set_cons_succ]) (hCont (gb210) _ ⟨hHeld,(by (with_reducible repeat (first | apply Kd.R_alloc | apply Kd.R_drewN | apply Kd.R_drew));exact HO_5.out),(by (with_reducible repeat (first | apply Kd.R_alloc | apply Kd.R_drewN | apply Kd.R_drew));exact Kd.R_mono HO_8.out (fun _ hk => hk.2)),(by refine bP ?_;exact BK210.out),GW210.out,GE210.out,(by repeat (first | (with_reducible first | exact HB.out | apply below_alloc | apply pw_below_drewN | apply below_drew1 | refine below_set ?_ GE210.out) | exact HB.out))⟩)
                                    rintro gb210 w26 ⟨hS_,h0_,h1_,h2_,h3_,h4_,h5_⟩
                                    have n0_ : Aside0 (Kd.R k91 91 w26 w.heap.size (fun _ => True) u5 x5_2) := ⟨h0_⟩
                                    have n1_ : Aside0 (Kd.R k87 87 w26 w.heap.size (fun k_ => k_ ≠ gb210) (.slice (some ad205) t201.length co22) t201) := ⟨h1_⟩
                                    have n2_ : Aside0 (w26.heap[gb210]? = some (.cells #[.int .i64 0,.int .i64 0] 87 (0,0))) := ⟨h2_⟩
                                    have n3_ : Aside0 (w.heap.size ≤ gb210) := ⟨h3_⟩
                                    have n4_ : Aside0 (w.heap.size ≤ gb210) := ⟨h4_⟩
                                    have n5_ : Aside0 (Below w.heap.size w w26) := ⟨h5_⟩
                                    clear HO_5
                                    clear HO_8
                                    clear HB
                                    clear h0_ h1_ h2_ h3_ h4_ h5_
                                    have HO_5 := n0_
                                    have HO_8 := n1_
                                    have BK210 := n2_
                                    have GW210 := n3_
                                    have GE210 := n4_
                                    have HB := n5_
                                    clear n0_ n1_ n2_ n3_ n4_ n5_
                                    have hHeld : w26.cell? (ad205.add (((ji12)).toNat * 2)) = some (.int .i64 ((rd_T87 t201 (ji12)).f0)) ∧ w26.cell? ⟨(ad205.add (((ji12)).toNat * 2)).block,(ad205.add (((ji12)).toNat * 2)).off + 1,none⟩ = some (.int .i64 ((rd_T87 t201 (ji12)).f1)) ∧ w26.cell? (ad205.add ((x10_2).toNat * 2)) = some (.int .i64 ((rd_T87 t201 x10_2).f0)) ∧ w26.cell? ⟨(ad205.add ((x10_2).toNat * 2)).block,(ad205.add ((x10_2).toNat * 2)).off + 1,none⟩ = some (.int .i64 ((rd_T87 t201 x10_2).f1)) := hS_
                                    refine norm_ (a' := ?_) ?_ ?_
                                    rotate_left
                                    · simp only [putAll,Act.put,List.setIfInBounds_toArray,List.set_cons_zero,List.set_cons_succ]
                                      rfl
                                    refine one_ (i := 15) (N := none) #[true,true,true,true,true,true,true,true,true,true,true,true,true,true,true,true,false] rfl rfl (one_of HT_.out (by kernel_rfl)) (by decide) (fun K hK => ?_)
                                    have hs27 : w26.cell? ⟨gb210,0,none⟩ = some (.int .i64 0) := (blk_cell BK210.out 0).trans rfl
                                    have hfs27 := blk_frozen BK210.out 0
                                    have hs28 : w26.cell? ⟨gb210,1,none⟩ = some (.int .i64 0) := (blk_cell BK210.out 1).trans rfl
                                    have hfs28 := blk_frozen BK210.out 1
                                    refine skip_ (w1 := ?_) (by rfl) rfl ?_ ?_
                                    rotate_left
                                    · go_simp
                                      rfl
                                    refine hK.out _ _ ⟨((cell_far (p := ⟨gb210,_,none⟩) (by first | exact Kd.own_blk (Kd.R_away HO_8.out (fun _ hk => hk)) | (rw [add_block];exact Kd.own_blk (Kd.R_away HO_8.out (fun _ hk => hk))) | (show (Addr.add _ _).block ≠ _;rw [add_block];exact Kd.own_blk (Kd.R_away HO_8.out (fun _ hk => hk))) | (dsimp only;exact Kd.own_blk (Kd.R_away HO_8.out (fun _ hk => hk)))) _).trans (((cell_far (p := ⟨gb210,_,none⟩) (by first | exact Kd.own_blk (Kd.R_away HO_8.out (fun _ hk => hk)) | (rw [add_block];exact Kd.own_blk (Kd.R_away HO_8.out (fun _ hk => hk))) | (show (Addr.add _ _).block ≠ _;rw [add_block];exact Kd.own_blk (Kd.R_away HO_8.out (fun _ hk => hk))) | (dsimp only;exact Kd.own_blk (Kd.R_away HO_8.out (fun _ hk => hk)))) _).trans (hHeld.1)))),((cell_far (p := ⟨gb210,_,none⟩) (by first | exact Kd.own_blk (Kd.R_away HO_8.out (fun _ hk => hk)) | (rw [add_block];exact Kd.own_blk (Kd.R_away HO_8.out (fun _ hk => hk))) | (show (Addr.add _ _).block ≠ _;rw [add_block];exact Kd.own_blk (Kd.R_away HO_8.out (fun _ hk => hk))) | (dsimp only;exact Kd.own_blk (Kd.R_away HO_8.out (fun _ hk => hk)))) _).trans (((cell_far (p := ⟨gb210,_,none⟩) (by first | exact Kd.own_blk (Kd.R_away HO_8.out (fun _ hk => hk)) | (rw [add_block];exact Kd.own_blk (Kd.R_away HO_8.out (fun _ hk => hk))) | (show (Addr.add _ _).block ≠ _;rw [add_block];exact Kd.own_blk (Kd.R_away HO_8.out (fun _ hk => hk))) | (dsimp only;exact Kd.own_blk (Kd.R_away HO_8.out (fun _ hk => hk)))) _).trans (hHeld.2.1)))),((cell_far (p := ⟨gb210,_,none⟩) (by first | exact Kd.own_blk (Kd.R_away HO_8.out (fun _ hk => hk)) | (rw [add_block];exact Kd.own_blk (Kd.R_away HO_8.out (fun _ hk => hk))) | (show (Addr.add _ _).block ≠ _;rw [add_block];exact Kd.own_blk (Kd.R_away HO_8.out (fun _ hk => hk))) | (dsimp only;exact Kd.own_blk (Kd.R_away HO_8.out (fun _ hk => hk)))) _).trans (((cell_far (p := ⟨gb210,_,none⟩) (by first | exact Kd.own_blk (Kd.R_away HO_8.out (fun _ hk => hk)) | (rw [add_block];exact Kd.own_blk (Kd.R_away HO_8.out (fun _ hk => hk))) | (show (Addr.add _ _).block ≠ _;rw [add_block];exact Kd.own_blk (Kd.R_away HO_8.out (fun _ hk => hk))) | (dsimp only;exact Kd.own_blk (Kd.R_away HO_8.out (fun _ hk => hk)))) _).trans (hHeld.2.2.1)))),((cell_far (p := ⟨gb210,_,none⟩) (by first | exact Kd.own_blk (Kd.R_away HO_8.out (fun _ hk => hk)) | (rw [add_block];exact Kd.own_blk (Kd.R_away HO_8.out (fun _ hk => hk))) | (show (Addr.add _ _).block ≠ _;rw [add_block];exact Kd.own_blk (Kd.R_away HO_8.out (fun _ hk => hk))) | (dsimp only;exact Kd.own_blk (Kd.R_away HO_8.out (fun _ hk => hk)))) _).trans (((cell_far (p := ⟨gb210,_,none⟩) (by first | exact Kd.own_blk (Kd.R_away HO_8.out (fun _ hk => hk)) | (rw [add_block];exact Kd.own_blk (Kd.R_away HO_8.out (fun _ hk => hk))) | (show (Addr.add _ _).block ≠ _;rw [add_block];exact Kd.own_blk (Kd.R_away HO_8.out (fun _ hk => hk))) | (dsimp only;exact Kd.own_blk (Kd.R_away HO_8.out (fun _ hk => hk)))) _).trans (hHeld.2.2.2))))⟩ (fun hHeld => ?_)
                                    clear hK K
                                    refine pure_ (i := 16) (N := some 12) (v := ?_) (a' := ?_) #[true,true,true,true,true,true,true,true,true,true,true,true,true,true,true,true,true] rfl rfl (any_of HT_.out (by kernel_rfl)) (fun _ _ _ h => h) (Or.inl ⟨by rfl,?_⟩) ?_ ?_
                                    rotate_left
                                    · intro w'
                                      go_simp
                                      with_reducible rfl
                                    rotate_left
                                    · simp only [Act.put,List.setIfInBounds_toArray,List.set_cons_zero,List.set_cons_succ,i64_w,i32_w]
                                      rfl
                                    refine done_ (done_of HT_.out (by kernel_rfl)) ?_
                                    have p211 : 0 ≤ (x10_2 : Int) := of_decide_eq_true (by first | (with_reducible assumption) | assumption)
                                    have q211 : x10_2 < (t201.length : Int) := of_decide_eq_true (by first | (with_reducible assumption) | assumption)
                                    obtain ⟨ad211,e211,hx211_0,hx211_1⟩ := at_T87 (Kd.R_reads' HO_8.out).2.2 x10_2 p211 q211
                                    obtain rfl : ad205 = ad211 := (by injection e211)
                                    have hn211_0 : ad205.block ≠ gb210 := Kd.own_blk (Kd.R_away HO_8.out (fun _ hk => hk))
                                    have hn211_1 : ad205.block ≠ gb210 := Kd.own_blk (Kd.R_away HO_8.out (fun _ hk => hk))
                                    replace hx211_0 := (cell_far (p := ⟨gb210,0,none⟩) (by first | (rw [add_block];exact hn211_0) | (show (Addr.add _ _).block ≠ _;rw [add_block];exact hn211_0) | exact hn211_0) (.int .i64 t207)).trans hx211_0
                                    replace hx211_1 := (cell_far (p := ⟨gb210,0,none⟩) (by first | (rw [add_block];exact hn211_0) | (show (Addr.add _ _).block ≠ _;rw [add_block];exact hn211_0) | exact hn211_0) (.int .i64 t207)).trans hx211_1
                                    replace hx211_0 := (cell_far (p := ⟨gb210,1,none⟩) (by first | (rw [add_block];exact hn211_1) | (show (Addr.add _ _).block ≠ _;rw [add_block];exact hn211_1) | exact hn211_1) (.int .i64 t208)).trans hx211_0
                                    replace hx211_1 := (cell_far (p := ⟨gb210,1,none⟩) (by first | (rw [add_block];exact hn211_1) | (show (Addr.add _ _).block ≠ _;rw [add_block];exact hn211_1) | exact hn211_1) (.int .i64 t208)).trans hx211_1
                                    clear hn211_0
                                    clear hn211_1
                                    replace p211 := eq_true p211
                                    replace q211 := eq_true q211
                                    obtain ⟨hcz29_0,hcz29_1,hfz29_0,hfz29_1⟩ := impl_CandsOf.cells2 BK210.out
                                    try go_wp2
                                    have n0_ : Aside0 (Kd.R k91 91 ((w26.setCell ⟨gb210,0,none⟩ (.int .i64 t207)).setCell ⟨gb210,1,none⟩ (.int .i64 t208)) w.heap.size (fun _ => True) u5 x5_2) := ⟨by (with_reducible repeat (first | apply Kd.R_alloc | apply Kd.R_drewN | apply Kd.R_drew));exact Kd.R_mono (Kd.R_far (p := ⟨gb210,1,none⟩) (Kd.R_far (p := ⟨gb210,0,none⟩) (Kd.R_types HO_5.out BK210.out (by decide)) (fun _ hk => hk.2) (.int .i64 t207)) (fun _ hk => hk.2) (.int .i64 t208)) (fun _ hk => trivial)⟩
                                    have n1_ : Aside0 (Kd.R k87 87 ((w26.setCell ⟨gb210,0,none⟩ (.int .i64 t207)).setCell ⟨gb210,1,none⟩ (.int .i64 t208)) w.heap.size (fun k_ => k_ ≠ gb210) (.slice (some ad205) t201.length co22) t201) := ⟨by (with_reducible repeat (first | apply Kd.R_alloc | apply Kd.R_drewN | apply Kd.R_drew));exact Kd.R_mono (Kd.R_far (p := ⟨gb210,1,none⟩) (Kd.R_far (p := ⟨gb210,0,none⟩) (Kd.R_mono HO_8.out (fun k_ hk => (⟨hk,hk⟩ : _ ∧ k_ ≠ gb210))) (fun _ hk => hk.2) (.int .i64 t207)) (fun _ hk => hk.2) (.int .i64 t208)) (fun _ hk => hk.1)⟩
                                    have n2_ : Aside0 (((w26.setCell ⟨gb210,0,none⟩ (.int .i64 t207)).setCell ⟨gb210,1,none⟩ (.int .i64 t208)).heap[gb210]? = some (.cells #[.int .i64 t207,.int .i64 t208] 87 (0,0))) := ⟨by refine bP ?_;refine blk_put (cs := #[.int .i64 t207,.int .i64 0]) ?_ 1 _ rfl;refine bP ?_;refine blk_put (cs := #[.int .i64 0,.int .i64 0]) ?_ 0 _ rfl;refine bP ?_;exact BK210.out⟩
                                    have n3_ : Aside0 (Below w.heap.size w ((w26.setCell ⟨gb210,0,none⟩ (.int .i64 t207)).setCell ⟨gb210,1,none⟩ (.int .i64 t208))) := ⟨by repeat (first | (with_reducible first | exact HB.out | apply below_alloc | apply pw_below_drewN | apply below_drew1 | refine below_set ?_ GE210.out) | exact HB.out)⟩
                                    (try clear HO_5)
                                    (try clear HO_8)
                                    (try clear BK210)
                                    (try clear HB)
                                    generalize ((w26.setCell ⟨gb210,0,none⟩ (.int .i64 t207)).setCell ⟨gb210,1,none⟩ (.int .i64 t208)) = w30 at n0_ n1_ n2_ n3_ ⊢
                                    have HO_5 := n0_
                                    have HO_8 := n1_
                                    have BK210 := n2_
                                    have HB := n3_
                                    clear n0_ n1_ n2_ n3_
                                    have n0_ := Aside0.mk (Kd.R_drew HO_5.out)
                                    have n1_ := Aside0.mk (Kd.R_drew HO_8.out)
                                    have n2_ := Aside0.mk (blk_drew BK210.out)
                                    have n3_ := Aside0.mk (below_drew1 HB.out)
                                    clear HO_5
                                    clear HO_8
                                    clear BK210
                                    clear HB
                                    have HO_5 := n0_
                                    have HO_8 := n1_
                                    have BK210 := n2_
                                    have HB := n3_
                                    clear n0_ n1_ n2_ n3_
                                    have p212 : 0 ≤ (x10_2 : Int) := of_decide_eq_true (by first | (with_reducible assumption) | assumption)
                                    have q212 : x10_2 < (t201.length : Int) := of_decide_eq_true (by first | (with_reducible assumption) | assumption)
                                    obtain ⟨ad212,e212,hx212_0,hx212_1⟩ := at_T87 (Kd.R_reads' HO_8.out).2.2 x10_2 p212 q212
                                    obtain rfl : ad205 = ad212 := (by injection e212)
                                    replace p212 := eq_true p212
                                    replace q212 := eq_true q212
                                    refine start_ (n := 12) (S := fun w' => w'.cell? ⟨gb210,0,none⟩ = some (.int .i64 t207) ∧ w'.cell? ⟨gb210,1,none⟩ = some (.int .i64 t208) ∧ w'.cell? (ad205.add ((x10_2).toNat * 2)) = some (.int .i64 ((rd_T87 t201 x10_2).f0)) ∧ w'.cell? ⟨(ad205.add ((x10_2).toNat * 2)).block,(ad205.add ((x10_2).toNat * 2)).off + 1,none⟩ = some (.int .i64 ((rd_T87 t201 x10_2).f1))) (ds := [9]) #[false,false,false,false,false,false,false,false,false,false,false,false] (by kernel_rfl) rfl rfl ⟨(blk_cell BK210.out 0).trans rfl,(blk_cell BK210.out 1).trans rfl,hx212_0,hx212_1⟩ (fun hHeld => ?_);refine with_tabW impl_CandsOf.tab15 impl_CandsOf.bits15 (fun HT_ HW_ => ?_)
                                    generalize w30.drew = w31 at HO_5 HO_8 BK210 HB hx212_0 hx212_1 hHeld ⊢
                                    refine pure_ (i := 0) (N := some 64) (v := ?_) (a' := ?_) #[true,false,false,false,false,false,false,false,false,false,false,false] rfl rfl (any_of HT_.out (by kernel_rfl)) (fun _ _ _ h => h) (Or.inl ⟨by rfl,?_⟩) ?_ ?_
                                    rotate_left
                                    · intro w'
                                      go_simp
                                      with_reducible rfl
                                    rotate_left
                                    · simp only [Act.put,List.setIfInBounds_toArray,List.set_cons_zero,List.set_cons_succ,i64_w,i32_w]
                                      rfl
                                    refine pure_ (i := 1) (N := some 65) (v := ?_) (a' := ?_) #[true,true,false,false,false,false,false,false,false,false,false,false] rfl rfl (any_of HT_.out (by kernel_rfl)) (fun _ _ _ h => h) (Or.inl ⟨by rfl,?_⟩) ?_ ?_
                                    rotate_left
                                    · intro w'
                                      go_simp
                                      with_reducible rfl
                                    rotate_left
                                    · simp only [Act.put,List.setIfInBounds_toArray,List.set_cons_zero,List.set_cons_succ,i64_w,i32_w]
                                      rfl
                                    refine pure_ (i := 2) (N := some 66) (v := ?_) (a' := ?_) #[true,true,true,false,false,false,false,false,false,false,false,false] rfl rfl (any_of HT_.out (by kernel_rfl)) (fun _ _ _ h => h) (Or.inl ⟨by rfl,?_⟩) ?_ ?_
                                    rotate_left
                                    · intro w'
                                      go_simp
                                      with_reducible rfl
                                    rotate_left
                                    · simp only [Act.put,List.setIfInBounds_toArray,List.set_cons_zero,List.set_cons_succ,i64_w,i32_w]
                                      rfl
                                    refine pure_ (i := 3) (N := some 67) (v := ?_) (a' := ?_) #[true,true,true,true,false,false,false,false,false,false,false,false] rfl rfl (any_of HT_.out (by kernel_rfl)) (fun _ _ _ h => h) (Or.inl ⟨by rfl,?_⟩) ?_ ?_
                                    rotate_left
                                    · intro w'
                                      go_simp
                                      with_reducible rfl
                                    rotate_left
                                    · simp only [Act.put,List.setIfInBounds_toArray,List.set_cons_zero,List.set_cons_succ,i64_w,i32_w]
                                      rfl
                                    refine pure_ (i := 4) (N := some 68) (v := ?_) (a' := ?_) #[true,true,true,true,true,false,false,false,false,false,false,false] rfl rfl (any_of HT_.out (by kernel_rfl)) (fun _ _ _ h => h) (Or.inl ⟨by rfl,?_⟩) ?_ ?_
                                    rotate_left
                                    · intro w'
                                      go_simp
                                      with_reducible rfl
                                    rotate_left
                                    · simp only [Act.put,List.setIfInBounds_toArray,List.set_cons_zero,List.set_cons_succ,i64_w,i32_w]
                                      rfl
                                    refine pure_ (i := 5) (N := some 69) (v := ?_) (a' := ?_) #[true,true,true,true,true,true,false,false,false,false,false,false] rfl rfl (any_of HT_.out (by kernel_rfl)) (fun _ _ _ h => h) (Or.inl ⟨by rfl,?_⟩) ?_ ?_
                                    rotate_left
                                    · intro w'
                                      go_simp
                                      with_reducible rfl
                                    rotate_left
                                    · simp only [Act.put,List.setIfInBounds_toArray,List.set_cons_zero,List.set_cons_succ,i64_w,i32_w]
                                      rfl
                                    refine take_ (i := 6) (N := some 70) (v := ?_) (a' := ?_) #[true,true,true,true,true,true,true,false,false,false,false,false] rfl rfl (take_ofW HT_.out HW_.out (by kernel_rfl)) (fun _ _ _ h => h) (Or.inl ⟨by rfl,?_⟩) hHeld ?_ ?_
                                    rotate_left
                                    · rintro w' ⟨s0,s1,s2,s3⟩
                                      go_simp
                                      with_reducible rfl
                                    rotate_left
                                    · simp only [Act.put,List.setIfInBounds_toArray,List.set_cons_zero,List.set_cons_succ,i64_w,i32_w]
                                      rfl
                                    refine take_ (i := 7) (N := some 71) (v := ?_) (a' := ?_) #[true,true,true,true,true,true,true,true,false,false,false,false] rfl rfl (take_ofW HT_.out HW_.out (by kernel_rfl)) (fun _ _ _ h => h) (Or.inl ⟨by rfl,?_⟩) hHeld ?_ ?_
                                    rotate_left
                                    · rintro w' ⟨s0,s1,s2,s3⟩
                                      go_simp
                                      with_reducible rfl
                                    rotate_left
                                    · simp only [Act.put,List.setIfInBounds_toArray,List.set_cons_zero,List.set_cons_succ,i64_w,i32_w]
                                      rfl
                                    refine pure_ (i := 8) (N := some 72) (v := ?_) (a' := ?_) #[true,true,true,true,true,true,true,true,true,false,false,false] rfl rfl (any_of HT_.out (by kernel_rfl)) (fun _ _ _ h => h) (Or.inl ⟨by rfl,?_⟩) ?_ ?_
                                    rotate_left
                                    · intro w'
                                      go_simp
                                      with_reducible rfl
                                    rotate_left
                                    · simp only [Act.put,List.setIfInBounds_toArray,List.set_cons_zero,List.set_cons_succ,i64_w,i32_w]
                                      rfl
                                    refine last_ (i := 9) (N := some 73) #[true,true,true,true,true,true,true,true,true,true,false,false] rfl rfl (one_of HT_.out (by kernel_rfl)) (by decide) (fun K hK => ?_)
                                    refine value_ (w1 := ?_) (v := ?_) (by rfl) rfl ?_ ?_
                                    rotate_left 2
                                    · go_simp
                                      constructor
                                      · rfl
                                      · rfl
                                    refine hK.out _ _ ?_
                                    clear hK K
                                    refine norm_ (a' := ?_) ?_ ?_
                                    rotate_left
                                    · show Act.put _ (some 73) _ = _
                                      simp only [Act.put,List.setIfInBounds_toArray,List.set_cons_zero,List.set_cons_succ,i64_w,i32_w]
                                      rfl
                                    refine one_ (i := 10) (N := some 74) #[true,true,true,true,true,true,true,true,true,true,true,false] rfl rfl (one_of HT_.out (by kernel_rfl)) (by decide) (fun K hK => ?_)
                                    refine Kd.R_append_step k91 (w0 := w) w.heap.size (by rfl) (.tmp 64) (.tmp 73) 52 91 (.agg #[(.int .i64 0),(.int .i64 0),(.int .i64 0),(.int .i64 0),(.int .i64 0),(.int .i64 0)]) 48 rfl Try.underlying52 info91 rfl (by decide) (by omega) u5 x5_2 (⟨x16_1,x10_2,(⟨(rd_T87 t201 x10_2).f0,(rd_T87 t201 x10_2).f1⟩ : S87),(⟨t207,t208⟩ : S87)⟩ : S91) [.int .i64 x16_1,.int .i64 x10_2,.int .i64 ((rd_T87 t201 x10_2).f0),.int .i64 ((rd_T87 t201 x10_2).f1),.int .i64 t207,.int .i64 t208] (fun _ => True) (fun _ => False) rfl rfl ?aP (fun _ hk => hk.elim) ?aF ?aO ?aB ?aS ?aL ?_
                                    (case aP => exact k91_mkM _ _ _ (⟨x16_1,x10_2,(⟨(rd_T87 t201 x10_2).f0,(rd_T87 t201 x10_2).f1⟩ : S87),(⟨t207,t208⟩ : S87)⟩ : S91))
                                    (case aB => exact (by repeat (first | (with_reducible first | exact HB.out | apply below_alloc | apply pw_below_drewN | apply below_drew1 | refine below_set ?_ GE210.out) | exact HB.out)))
                                    (case aF => exact (fun _ _ => trivial))
                                    (case aO => exact (by (with_reducible repeat (first | apply Kd.R_alloc | apply Kd.R_drewN | apply Kd.R_drew));exact HO_5.out))
                                    (case aS => exact (below_size (by repeat (first | (with_reducible first | exact HB.out | apply below_alloc | apply pw_below_drewN | apply below_drew1 | refine below_set ?_ GE210.out) | exact HB.out))))
                                    (case aL => have := LMc21.out;omega)
                                    intro v214 w32 ho hb hg hat
                                    have HS2_ := cell_grown hg (hHeld.2.2.1) (by first | (rw [add_block];exact (Exists.elim (Kd.R_typed HO_8.out _ rfl) fun _ hb_ => Kd.R_ne HO_5.out hb_ (by decide))) | (show some (Addr.add _ _).block ≠ _;rw [add_block];exact (Exists.elim (Kd.R_typed HO_8.out _ rfl) fun _ hb_ => Kd.R_ne HO_5.out hb_ (by decide))) | exact (Exists.elim (Kd.R_typed HO_8.out _ rfl) fun _ hb_ => Kd.R_ne HO_5.out hb_ (by decide)))
                                    have HS3_ := cell_grown hg (hHeld.2.2.2) (by first | (rw [add_block];exact (Exists.elim (Kd.R_typed HO_8.out _ rfl) fun _ hb_ => Kd.R_ne HO_5.out hb_ (by decide))) | (show some (Addr.add _ _).block ≠ _;rw [add_block];exact (Exists.elim (Kd.R_typed HO_8.out _ rfl) fun _ hb_ => Kd.R_ne HO_5.out hb_ (by decide))) | exact (Exists.elim (Kd.R_typed HO_8.out _ rfl) fun _ hb_ => Kd.R_ne HO_5.out hb_ (by decide)))
                                    rw [← Ny213.out] at ho
                                    have n0_ := Aside0.mk (Kd.R_over' (by (with_reducible repeat (first | apply Kd.R_alloc | apply Kd.R_drewN | apply Kd.R_drew));exact HO_8.out) (Kd.R_typed (by (with_reducible repeat (first | apply Kd.R_alloc | apply Kd.R_drewN | apply Kd.R_drew));exact HO_5.out)) (by decide) hg)
                                    have n1_ := Aside0.mk (blk_grown (g := gb210) (o := .cells #[.int .i64 t207,.int .i64 t208] 87 (0,0)) (by refine bP ?_;exact BK210.out) hg (Kd.R_ne HO_5.out BK210.out (by decide)))
                                    have n2_ := Aside0.mk (hb)
                                    have n3_ := Aside0.mk (ho)
                                    clear HO_8
                                    clear BK210
                                    clear HB
                                    clear HO_5
                                    have HO_8 := n0_
                                    have BK210 := n1_
                                    have HB := n2_
                                    have HO215 := n3_
                                    clear n0_ n1_ n2_ n3_
                                    clear ho hb hg hat
                                    refine hK.out _ _ ⟨(blk_cell BK210.out 0).trans rfl,(blk_cell BK210.out 1).trans rfl,HS2_,HS3_⟩ (fun hHeld => ?_)
                                    clear hK K
                                    refine norm_ (a' := ?_) ?_ ?_
                                    rotate_left
                                    · show Act.put _ (some 74) _ = _
                                      simp only [Act.put,List.setIfInBounds_toArray,List.set_cons_zero,List.set_cons_succ,i64_w,i32_w]
                                      rfl
                                    refine pure_ (i := 11) (N := some 5) (v := ?_) (a' := ?_) #[true,true,true,true,true,true,true,true,true,true,true,true] rfl rfl (any_of HT_.out (by kernel_rfl)) (fun _ _ _ h => h) (Or.inl ⟨by rfl,?_⟩) ?_ ?_
                                    rotate_left
                                    · intro w'
                                      go_simp
                                      with_reducible rfl
                                    rotate_left
                                    · simp only [Act.put,List.setIfInBounds_toArray,List.set_cons_zero,List.set_cons_succ,i64_w,i32_w]
                                      rfl
                                    refine done_ (done_of HT_.out (by kernel_rfl)) ?_
                                    try go_wp2
                                    go_roundg k2
                                    case measure => have := HK1.out;have := HK2.out;omega
                                    case rel => exact ⟨(y213),(wrap64 (x10_2 + 1)),(by first | rfl | (simp;done) | (simp [*];done)),H',⟨by have := HK1.out;have := HK2.out;omega⟩,⟨by (with_reducible repeat (first | apply Kd.R_alloc | apply Kd.R_drewN | apply Kd.R_drew));exact HO215.out⟩,⟨by (with_reducible repeat (first | apply Kd.R_alloc | apply Kd.R_drewN | apply Kd.R_drew));exact Kd.R_mono HO_8.out (fun _ hk => trivial)⟩,⟨by repeat (first | (with_reducible first | exact HB.out | apply below_alloc | apply pw_below_drewN | apply below_drew1 | refine below_set ?_ GE210.out) | exact HB.out)⟩⟩
                                  · rw [if_neg c21] at H
                                    exact absurd H (by simp)
                                · rw [if_neg c20] at H
                                  have c20b0 : decide (a1 ≤ t207) = false := decide_eq_false c20
                                  clear c20
                                  have H' := Aside0.mk H
                                  clear H
                                  obtain ⟨Ao33,co33,eo33⟩ := Kd.R_slice HO_8.out
                                  subst eo33
                                  try go_wp2
                                  have n0_ := Aside0.mk (Kd.R_drew HO_5.out)
                                  have n1_ := Aside0.mk (Kd.R_drew HO_8.out)
                                  have n2_ := Aside0.mk (below_drew1 HB.out)
                                  clear HO_5
                                  clear HO_8
                                  clear HB
                                  have HO_5 := n0_
                                  have HO_8 := n1_
                                  have HB := n2_
                                  clear n0_ n1_ n2_
                                  have p205 : 0 ≤ ((ji12) : Int) := of_decide_eq_true (by first | (with_reducible assumption) | assumption)
                                  have q205 : (ji12) < (t201.length : Int) := of_decide_eq_true (by first | (with_reducible assumption) | assumption)
                                  obtain ⟨ad205,e205,hx205_0,hx205_1⟩ := at_T87 (Kd.R_reads' HO_8.out).2.2 (ji12) p205 q205
                                  cases e205
                                  replace p205 := eq_true p205
                                  replace q205 := eq_true q205
                                  have p206 : 0 ≤ (x10_2 : Int) := of_decide_eq_true (by first | (with_reducible assumption) | assumption)
                                  have q206 : x10_2 < (t201.length : Int) := of_decide_eq_true (by first | (with_reducible assumption) | assumption)
                                  obtain ⟨ad206,e206,hx206_0,hx206_1⟩ := at_T87 (Kd.R_reads' HO_8.out).2.2 x10_2 p206 q206
                                  obtain rfl : ad205 = ad206 := (by injection e206)
                                  replace p206 := eq_true p206
                                  replace q206 := eq_true q206
                                  refine start_ (n := 17) (S := fun w' => w'.cell? (ad205.add (((ji12)).toNat * 2)) = some (.int .i64 ((rd_T87 t201 (ji12)).f0)) ∧ w'.cell? ⟨(ad205.add (((ji12)).toNat * 2)).block,(ad205.add (((ji12)).toNat * 2)).off + 1,none⟩ = some (.int .i64 ((rd_T87 t201 (ji12)).f1)) ∧ w'.cell? (ad205.add ((x10_2).toNat * 2)) = some (.int .i64 ((rd_T87 t201 x10_2).f0)) ∧ w'.cell? ⟨(ad205.add ((x10_2).toNat * 2)).block,(ad205.add ((x10_2).toNat * 2)).off + 1,none⟩ = some (.int .i64 ((rd_T87 t201 x10_2).f1))) (ds := []) #[false,false,false,false,false,false,false,false,false,false,false,false,false,false,false,false,false] (by kernel_rfl) rfl rfl ⟨hx205_0,hx205_1,hx206_0,hx206_1⟩ (fun hHeld => ?_);refine with_tabW impl_CandsOf.tab11 impl_CandsOf.bits11 (fun HT_ HW_ => ?_)
                                  generalize wr.drew = w34 at HO_5 HO_8 HB hx205_0 hx205_1 hx206_0 hx206_1 hHeld ⊢
                                  refine pure_ (i := 0) (N := some 36) (v := ?_) (a' := ?_) #[true,false,false,false,false,false,false,false,false,false,false,false,false,false,false,false,false] rfl rfl (any_of HT_.out (by kernel_rfl)) (fun _ _ _ h => h) (Or.inl ⟨by rfl,?_⟩) ?_ ?_
                                  rotate_left
                                  · intro w'
                                    go_simp
                                    with_reducible rfl
                                  rotate_left
                                  · simp only [Act.put,List.setIfInBounds_toArray,List.set_cons_zero,List.set_cons_succ,i64_w,i32_w]
                                    rfl
                                  refine pure_ (i := 1) (N := some 37) (v := ?_) (a' := ?_) #[true,true,false,false,false,false,false,false,false,false,false,false,false,false,false,false,false] rfl rfl (any_of HT_.out (by kernel_rfl)) (fun _ _ _ h => h) (Or.inl ⟨by rfl,?_⟩) ?_ ?_
                                  rotate_left
                                  · intro w'
                                    go_simp
                                    with_reducible rfl
                                  rotate_left
                                  · simp only [Act.put,List.setIfInBounds_toArray,List.set_cons_zero,List.set_cons_succ,i64_w,i32_w]
                                    rfl
                                  refine pure_ (i := 2) (N := some 38) (v := ?_) (a' := ?_) #[true,true,true,false,false,false,false,false,false,false,false,false,false,false,false,false,false] rfl rfl (any_of HT_.out (by kernel_rfl)) (fun _ _ _ h => h) (Or.inl ⟨by rfl,?_⟩) ?_ ?_
                                  rotate_left
                                  · intro w'
                                    go_simp
                                    with_reducible rfl
                                  rotate_left
                                  · simp only [Act.put,List.setIfInBounds_toArray,List.set_cons_zero,List.set_cons_succ,i64_w,i32_w]
                                    rfl
                                  refine pure_ (i := 3) (N := some 39) (v := ?_) (a' := ?_) #[true,true,true,true,false,false,false,false,false,false,false,false,false,false,false,false,false] rfl rfl (any_of HT_.out (by kernel_rfl)) (fun _ _ _ h => h) (Or.inl ⟨by rfl,?_⟩) ?_ ?_
                                  rotate_left
                                  · intro w'
                                    go_simp
                                    with_reducible rfl
                                  rotate_left
                                  · simp only [Act.put,List.setIfInBounds_toArray,List.set_cons_zero,List.set_cons_succ,i64_w,i32_w]
                                    rfl
                                  refine pure_ (i := 4) (N := some 40) (v := ?_) (a' := ?_) #[true,true,true,true,true,false,false,false,false,false,false,false,false,false,false,false,false] rfl rfl (any_of HT_.out (by kernel_rfl)) (fun _ _ _ h => h) (Or.inl ⟨by rfl,?_⟩) ?_ ?_
                                  rotate_left
                                  · intro w'
                                    go_simp
                                    with_reducible rfl
                                  rotate_left
                                  · simp only [Act.put,List.setIfInBounds_toArray,List.set_cons_zero,List.set_cons_succ,i64_w,i32_w]
                                    rfl
                                  refine pure_ (i := 6) (N := some 42) (v := ?_) (a' := ?_) #[true,true,true,true,true,false,true,false,false,false,false,false,false,false,false,false,false] rfl rfl (any_of HT_.out (by kernel_rfl)) (fun _ _ _ h => h) (Or.inl ⟨by rfl,?_⟩) ?_ ?_
                                  rotate_left
                                  · intro w'
                                    go_simp
                                    with_reducible rfl
                                  rotate_left
                                  · simp only [Act.put,List.setIfInBounds_toArray,List.set_cons_zero,List.set_cons_succ,i64_w,i32_w]
                                    rfl
                                  refine pure_ (i := 7) (N := some 43) (v := ?_) (a' := ?_) #[true,true,true,true,true,false,true,true,false,false,false,false,false,false,false,false,false] rfl rfl (any_of HT_.out (by kernel_rfl)) (fun _ _ _ h => h) (Or.inl ⟨by rfl,?_⟩) ?_ ?_
                                  rotate_left
                                  · intro w'
                                    go_simp
                                    with_reducible rfl
                                  rotate_left
                                  · simp only [Act.put,List.setIfInBounds_toArray,List.set_cons_zero,List.set_cons_succ,i64_w,i32_w]
                                    rfl
                                  refine pure_ (i := 8) (N := some 44) (v := ?_) (a' := ?_) #[true,true,true,true,true,false,true,true,true,false,false,false,false,false,false,false,false] rfl rfl (any_of HT_.out (by kernel_rfl)) (fun _ _ _ h => h) (Or.inl ⟨by rfl,?_⟩) ?_ ?_
                                  rotate_left
                                  · intro w'
                                    go_simp
                                    with_reducible rfl
                                  rotate_left
                                  · simp only [Act.put,List.setIfInBounds_toArray,List.set_cons_zero,List.set_cons_succ,i64_w,i32_w]
                                    rfl
                                  refine take_ (i := 5) (N := some 41) (v := ?_) (a' := ?_) #[true,true,true,true,true,true,true,true,true,false,false,false,false,false,false,false,false] rfl rfl (take_ofW HT_.out HW_.out (by kernel_rfl)) (fun _ _ _ h => h) (Or.inl ⟨by rfl,?_⟩) hHeld ?_ ?_
                                  rotate_left
                                  · rintro w' ⟨s0,s1,s2,s3⟩
                                    go_simp
                                    with_reducible rfl
                                  rotate_left
                                  · simp only [Act.put,List.setIfInBounds_toArray,List.set_cons_zero,List.set_cons_succ,i64_w,i32_w]
                                    rfl
                                  refine take_ (i := 9) (N := some 45) (v := ?_) (a' := ?_) #[true,true,true,true,true,true,true,true,true,true,false,false,false,false,false,false,false] rfl rfl (take_ofW HT_.out HW_.out (by kernel_rfl)) (fun _ _ _ h => h) (Or.inl ⟨by rfl,?_⟩) hHeld ?_ ?_
                                  rotate_left
                                  · rintro w' ⟨s0,s1,s2,s3⟩
                                    go_simp
                                    with_reducible rfl
                                  rotate_left
                                  · simp only [Act.put,List.setIfInBounds_toArray,List.set_cons_zero,List.set_cons_succ,i64_w,i32_w]
                                    rfl
                                  refine join_ (σ := Nat) 2 #[true,true,true,true,true,true,true,true,true,true,true,true,true,true,true,false,false] (fun s_ => [(46,.tuple #[.agg #[.int .i64 t207,.int .i64 t208],.bool true]),(11,.pointer (some ⟨s_,0,none⟩)),(35,.tuple #[.agg #[.int .i64 t207,.int .i64 t208],.bool true]),(47,.agg #[.int .i64 t207,.int .i64 t208]),(48,.bool true)]) (fun s_ w' => (w'.cell? (ad205.add (((ji12)).toNat * 2)) = some (.int .i64 ((rd_T87 t201 (ji12)).f0)) ∧ w'.cell? ⟨(ad205.add (((ji12)).toNat * 2)).block,(ad205.add (((ji12)).toNat * 2)).off + 1,none⟩ = some (.int .i64 ((rd_T87 t201 (ji12)).f1)) ∧ w'.cell? (ad205.add ((x10_2).toNat * 2)) = some (.int .i64 ((rd_T87 t201 x10_2).f0)) ∧ w'.cell? ⟨(ad205.add ((x10_2).toNat * 2)).block,(ad205.add ((x10_2).toNat * 2)).off + 1,none⟩ = some (.int .i64 ((rd_T87 t201 x10_2).f1))) ∧ (Kd.R k91 91 w' w.heap.size (fun _ => True) u5 x5_2) ∧ (Kd.R k87 87 w' w.heap.size (fun k_ => k_ ≠ s_) (.slice (some ad205) t201.length co33) t201) ∧ (w'.heap[s_]? = some (.cells #[.int .i64 0,.int .i64 0] 87 (0,0))) ∧ (w.heap.size ≤ s_) ∧ (w.heap.size ≤ s_) ∧ (Below w.heap.size w w')) ?_ ?_
                                  rotate_left
                                  · intro hCont
                                    refine two_ (i := 10) (j := 14) (Ni := some 46) (Nj := some 11) #[true,true,true,true,true,true,true,true,true,true,true,false,false,false,false,false,false] #[true,true,true,true,true,true,true,true,true,true,false,false,false,false,true,false,false] rfl rfl rfl rfl (two_of HT_.out (by kernel_rfl)) (by decide) (by decide) (fun K hK => ?_) (fun K hK => ?_)
                                    · skip
                                      refine goes_ Try.func70 (by kernel_rfl) rfl #[.agg #[.int .i64 ((rd_T87 t201 (ji12)).f0),.int .i64 ((rd_T87 t201 (ji12)).f1)],.agg #[.int .i64 ((rd_T87 t201 x10_2).f0),.int .i64 ((rd_T87 t201 x10_2).f1)]] (by rfl) rfl rfl (by (try simp only [List.map_toArray,List.map_cons,List.map_nil]);first | done | (simp only [hji12];rfl) | rfl | (simp only [List.length_drop,List.length_take];rfl)) ?_
                                      with_reducible refine (impl_Slot_minus.calls ((rd_T87 t201 (ji12)).f0) ((rd_T87 t201 (ji12)).f1) ((rd_T87 t201 x10_2).f0) ((rd_T87 t201 x10_2).f1) t207 t208 true _ A17.out).mono ?_
                                      rintro e w35 ⟨rfl,hb⟩
                                      have HS0_ := (hb.cell (World.block_lt_of_cell? _ _ (hHeld.1))).trans (hHeld.1)
                                      have HS1_ := (hb.cell (World.block_lt_of_cell? _ _ (hHeld.2.1))).trans (hHeld.2.1)
                                      have HS2_ := (hb.cell (World.block_lt_of_cell? _ _ (hHeld.2.2.1))).trans (hHeld.2.2.1)
                                      have HS3_ := (hb.cell (World.block_lt_of_cell? _ _ (hHeld.2.2.2))).trans (hHeld.2.2.2)
                                      refine ⟨_,rfl,?_⟩
                                      have n0_ := Aside0.mk (Kd.R_below (by (with_reducible repeat (first | apply Kd.R_alloc | apply Kd.R_drewN | apply Kd.R_drew));exact HO_5.out) hb)
                                      have n1_ := Aside0.mk (Kd.R_below (by (with_reducible repeat (first | apply Kd.R_alloc | apply Kd.R_drewN | apply Kd.R_drew));exact HO_8.out) hb)
                                      have n2_ := Aside0.mk (below_step (by repeat (first | (with_reducible first | exact HB.out | apply below_alloc | apply pw_below_drewN | apply below_drew1) | exact HB.out)) hb)
                                      clear HO_5
                                      clear HO_8
                                      clear HB
                                      have HO_5 := n0_
                                      have HO_8 := n1_
                                      have HB := n2_
                                      clear n0_ n1_ n2_
                                      (try clear hb)
                                      (try clear hb2)
                                      (try clear hk)
                                      (try clear hi)
                                      refine hK.out _ _ ⟨HS0_,HS1_,HS2_,HS3_⟩ (fun hHeld => ?_)
                                      clear hK K
                                      refine norm_ (a' := ?_) ?_ ?_
                                      rotate_left
                                      · show Act.put _ (some 46) _ = _
                                        simp only [Act.put,List.setIfInBounds_toArray,List.set_cons_zero,List.set_cons_succ,i64_w,i32_w]
                                        rfl
                                      refine pure_ (i := 11) (N := some 35) (v := ?_) (a' := ?_) #[true,true,true,true,true,true,true,true,true,true,true,true,false,false,false,false,false] rfl rfl (any_of HT_.out (by kernel_rfl)) (fun _ _ _ h => h) (Or.inl ⟨by rfl,?_⟩) ?_ ?_
                                      rotate_left
                                      · intro w'
                                        go_simp
                                        with_reducible rfl
                                      rotate_left
                                      · simp only [Act.put,List.setIfInBounds_toArray,List.set_cons_zero,List.set_cons_succ,i64_w,i32_w]
                                        rfl
                                      refine pure_ (i := 12) (N := some 47) (v := ?_) (a' := ?_) #[true,true,true,true,true,true,true,true,true,true,true,true,true,false,false,false,false] rfl rfl (any_of HT_.out (by kernel_rfl)) (fun _ _ _ h => h) (Or.inl ⟨by rfl,?_⟩) ?_ ?_
                                      rotate_left
                                      · intro w'
                                        go_simp
                                        with_reducible rfl
                                      rotate_left
                                      · simp only [Act.put,List.setIfInBounds_toArray,List.set_cons_zero,List.set_cons_succ,i64_w,i32_w]
                                        rfl
                                      refine pure_ (i := 13) (N := some 48) (v := ?_) (a' := ?_) #[true,true,true,true,true,true,true,true,true,true,true,true,true,true,false,false,false] rfl rfl (any_of HT_.out (by kernel_rfl)) (fun _ _ _ h => h) (Or.inl ⟨by rfl,?_⟩) ?_ ?_
                                      rotate_left
                                      · intro w'
                                        go_simp
                                        with_reducible rfl
                                      rotate_left
                                      · simp only [Act.put,List.setIfInBounds_toArray,List.set_cons_zero,List.set_cons_succ,i64_w,i32_w]
                                        rfl
                                      refine one_ (i := 14) (N := some 11) #[true,true,true,true,true,true,true,true,true,true,true,true,true,true,true,false,false] rfl rfl (one_of HT_.out (by kernel_rfl)) (by decide) (fun K hK => ?_)
                                      refine box_step ?hg (N := 11) ?hd (cs := #[.int .i64 0,.int .i64 0]) (t := 87) ?hr ?_;(case hd => rfl);(case hg => rfl);(case hr => first | (go_simp;done) | (go_simp;rfl))
                                      intro gb210 hg w36 hbox hb
                                      have HS0_ := (hb.cell (World.block_lt_of_cell? _ _ (hHeld.1))).trans (hHeld.1)
                                      have HS1_ := (hb.cell (World.block_lt_of_cell? _ _ (hHeld.2.1))).trans (hHeld.2.1)
                                      have HS2_ := (hb.cell (World.block_lt_of_cell? _ _ (hHeld.2.2.1))).trans (hHeld.2.2.1)
                                      have HS3_ := (hb.cell (World.block_lt_of_cell? _ _ (hHeld.2.2.2))).trans (hHeld.2.2.2)
                                      have n0_ := Aside0.mk (Kd.R_below (by (with_reducible repeat (first | apply Kd.R_alloc | apply Kd.R_drewN | apply Kd.R_drew));exact HO_5.out) hb)
                                      have n1_ := Aside0.mk (Kd.R_below (Kd.R_elderB (by (with_reducible repeat (first | apply Kd.R_alloc | apply Kd.R_drewN | apply Kd.R_drew));exact HO_8.out) gb210 (Nat.le_of_eq hg.symm)) hb)
                                      have n2_ := Aside0.mk (below_step (by repeat (first | (with_reducible first | exact HB.out | apply below_alloc | apply pw_below_drewN | apply below_drew1) | exact HB.out)) hb)
                                      have n3_ := Aside0.mk (hbox)
                                      have n4_ := Aside0.mk ((by rw [hg];exact (below_size (by repeat (first | (with_reducible first | exact HB.out | apply below_alloc | apply pw_below_drewN | apply below_drew1) | exact HB.out))) : w.heap.size ≤ gb210))
                                      have n5_ := Aside0.mk ((by rw [hg];exact (below_size (by repeat (first | (with_reducible first | exact HB.out | apply below_alloc | apply pw_below_drewN | apply below_drew1) | exact HB.out))) : w.heap.size ≤ gb210))
                                      clear HO_5
                                      clear HO_8
                                      clear HB
                                      have HO_5 := n0_
                                      have HO_8 := n1_
                                      have HB := n2_
                                      have BK210 := n3_
                                      have GW210 := n4_
                                      have GE210 := n5_
                                      clear n0_ n1_ n2_ n3_ n4_ n5_
                                      clear hb hbox hg
                                      refine hK.out _ _ ⟨HS0_,HS1_,HS2_,HS3_⟩ (fun hHeld => ?_)
                                      clear hK K
                                      refine norm_ (a' := ?_) ?_ ?_
                                      rotate_left
                                      · show Act.put _ (some 11) _ = _
                                        simp only [Act.put,List.setIfInBounds_toArray,List.set_cons_zero,List.set_cons_succ,i64_w,i32_w]
                                        rfl
                                      exact norm_ (by simp only [putAll,Act.put,List.setIfInBounds_toArray,List.set_cons_zero,List.set_cons_succ]) (hCont (gb210) _ ⟨hHeld,(by (with_reducible repeat (first | apply Kd.R_alloc | apply Kd.R_drewN | apply Kd.R_drew));exact HO_5.out),(by (with_reducible repeat (first | apply Kd.R_alloc | apply Kd.R_drewN | apply Kd.R_drew));exact Kd.R_mono HO_8.out (fun _ hk => hk.2)),(by refine bP ?_;exact BK210.out),GW210.out,GE210.out,(by repeat (first | (with_reducible first | exact HB.out | apply below_alloc | apply pw_below_drewN | apply below_drew1 | refine below_set ?_ GE210.out) | exact HB.out))⟩)
                                    · skip
                                      refine box_step ?hg (N := 11) ?hd (cs := #[.int .i64 0,.int .i64 0]) (t := 87) ?hr ?_;(case hd => rfl);(case hg => rfl);(case hr => first | (go_simp;done) | (go_simp;rfl))
                                      intro gb210 hg w35 hbox hb
                                      have HS0_ := (hb.cell (World.block_lt_of_cell? _ _ (hHeld.1))).trans (hHeld.1)
                                      have HS1_ := (hb.cell (World.block_lt_of_cell? _ _ (hHeld.2.1))).trans (hHeld.2.1)
                                      have HS2_ := (hb.cell (World.block_lt_of_cell? _ _ (hHeld.2.2.1))).trans (hHeld.2.2.1)
                                      have HS3_ := (hb.cell (World.block_lt_of_cell? _ _ (hHeld.2.2.2))).trans (hHeld.2.2.2)
                                      have n0_ := Aside0.mk (Kd.R_below (by (with_reducible repeat (first | apply Kd.R_alloc | apply Kd.R_drewN | apply Kd.R_drew));exact HO_5.out) hb)
                                      have n1_ := Aside0.mk (Kd.R_below (Kd.R_elderB (by (with_reducible repeat (first | apply Kd.R_alloc | apply Kd.R_drewN | apply Kd.R_drew));exact HO_8.out) gb210 (Nat.le_of_eq hg.symm)) hb)
                                      have n2_ := Aside0.mk (below_step (by repeat (first | (with_reducible first | exact HB.out | apply below_alloc | apply pw_below_drewN | apply below_drew1) | exact HB.out)) hb)
                                      have n3_ := Aside0.mk (hbox)
                                      have n4_ := Aside0.mk ((by rw [hg];exact (below_size (by repeat (first | (with_reducible first | exact HB.out | apply below_alloc | apply pw_below_drewN | apply below_drew1) | exact HB.out))) : w.heap.size ≤ gb210))
                                      have n5_ := Aside0.mk ((by rw [hg];exact (below_size (by repeat (first | (with_reducible first | exact HB.out | apply below_alloc | apply pw_below_drewN | apply below_drew1) | exact HB.out))) : w.heap.size ≤ gb210))
                                      clear HO_5
                                      clear HO_8
                                      clear HB
                                      have HO_5 := n0_
                                      have HO_8 := n1_
                                      have HB := n2_
                                      have BK210 := n3_
                                      have GW210 := n4_
                                      have GE210 := n5_
                                      clear n0_ n1_ n2_ n3_ n4_ n5_
                                      clear hb hbox hg
                                      refine hK.out _ _ ⟨HS0_,HS1_,HS2_,HS3_⟩ (fun hHeld => ?_)
                                      clear hK K
                                      refine norm_ (a' := ?_) ?_ ?_
                                      rotate_left
                                      · show Act.put _ (some 11) _ = _
                                        simp only [Act.put,List.setIfInBounds_toArray,List.set_cons_zero,List.set_cons_succ,i64_w,i32_w]
                                        rfl
                                      refine one_ (i := 10) (N := some 46) #[true,true,true,true,true,true,true,true,true,true,true,false,false,false,true,false,false] rfl rfl (one_of HT_.out (by kernel_rfl)) (by decide) (fun K hK => ?_)
                                      refine goes_ Try.func70 (by kernel_rfl) rfl #[.agg #[.int .i64 ((rd_T87 t201 (ji12)).f0),.int .i64 ((rd_T87 t201 (ji12)).f1)],.agg #[.int .i64 ((rd_T87 t201 x10_2).f0),.int .i64 ((rd_T87 t201 x10_2).f1)]] (by rfl) rfl rfl (by (try simp only [List.map_toArray,List.map_cons,List.map_nil]);first | done | (simp only [hji12];rfl) | rfl | (simp only [List.length_drop,List.length_take];rfl)) ?_
                                      with_reducible refine (impl_Slot_minus.calls ((rd_T87 t201 (ji12)).f0) ((rd_T87 t201 (ji12)).f1) ((rd_T87 t201 x10_2).f0) ((rd_T87 t201 x10_2).f1) t207 t208 true _ A17.out).mono ?_
                                      rintro e w36 ⟨rfl,hb⟩
                                      have HS0_ := (hb.cell (World.block_lt_of_cell? _ _ (hHeld.1))).trans (hHeld.1)
                                      have HS1_ := (hb.cell (World.block_lt_of_cell? _ _ (hHeld.2.1))).trans (hHeld.2.1)
                                      have HS2_ := (hb.cell (World.block_lt_of_cell? _ _ (hHeld.2.2.1))).trans (hHeld.2.2.1)
                                      have HS3_ := (hb.cell (World.block_lt_of_cell? _ _ (hHeld.2.2.2))).trans (hHeld.2.2.2)
                                      refine ⟨_,rfl,?_⟩
                                      have n0_ := Aside0.mk (Kd.R_below (by (with_reducible repeat (first | apply Kd.R_alloc | apply Kd.R_drewN | apply Kd.R_drew));exact HO_5.out) hb)
                                      have n1_ := Aside0.mk (Kd.R_below (by (with_reducible repeat (first | apply Kd.R_alloc | apply Kd.R_drewN | apply Kd.R_drew));exact HO_8.out) hb)
                                      have n2_ := Aside0.mk (blk_below (g := gb210) (o := .cells #[.int .i64 0,.int .i64 0] 87 (0,0)) (by refine bP ?_;exact BK210.out) hb)
                                      have n3_ := Aside0.mk (below_step (by repeat (first | (with_reducible first | exact HB.out | apply below_alloc | apply pw_below_drewN | apply below_drew1 | refine below_set ?_ GE210.out) | exact HB.out)) hb)
                                      clear HO_5
                                      clear HO_8
                                      clear BK210
                                      clear HB
                                      have HO_5 := n0_
                                      have HO_8 := n1_
                                      have BK210 := n2_
                                      have HB := n3_
                                      clear n0_ n1_ n2_ n3_
                                      (try clear hb)
                                      (try clear hb2)
                                      (try clear hk)
                                      (try clear hi)
                                      refine hK.out _ _ ⟨HS0_,HS1_,HS2_,HS3_⟩ (fun hHeld => ?_)
                                      clear hK K
                                      refine norm_ (a' := ?_) ?_ ?_
                                      rotate_left
                                      · show Act.put _ (some 46) _ = _
                                        simp only [Act.put,List.setIfInBounds_toArray,List.set_cons_zero,List.set_cons_succ,i64_w,i32_w]
                                        rfl
                                      refine pure_ (i := 11) (N := some 35) (v := ?_) (a' := ?_) #[true,true,true,true,true,true,true,true,true,true,true,true,false,false,true,false,false] rfl rfl (any_of HT_.out (by kernel_rfl)) (fun _ _ _ h => h) (Or.inl ⟨by rfl,?_⟩) ?_ ?_
                                      rotate_left
                                      · intro w'
                                        go_simp
                                        with_reducible rfl
                                      rotate_left
                                      · simp only [Act.put,List.setIfInBounds_toArray,List.set_cons_zero,List.set_cons_succ,i64_w,i32_w]
                                        rfl
                                      refine pure_ (i := 12) (N := some 47) (v := ?_) (a' := ?_) #[true,true,true,true,true,true,true,true,true,true,true,true,true,false,true,false,false] rfl rfl (any_of HT_.out (by kernel_rfl)) (fun _ _ _ h => h) (Or.inl ⟨by rfl,?_⟩) ?_ ?_
                                      rotate_left
                                      · intro w'
                                        go_simp
                                        with_reducible rfl
                                      rotate_left
                                      · simp only [Act.put,List.setIfInBounds_toArray,List.set_cons_zero,List.set_cons_succ,i64_w,i32_w]
                                        rfl
                                      refine pure_ (i := 13) (N := some 48) (v := ?_) (a' := ?_) #[true,true,true,true,true,true,true,true,true,true,true,true,true,true,true,false,false] rfl rfl (any_of HT_.out (by kernel_rfl)) (fun _ _ _ h => h) (Or.inl ⟨by rfl,?_⟩) ?_ ?_
                                      rotate_left
                                      · intro w'
                                        go_simp
                                        with_reducible rfl
                                      rotate_left
                                      · simp only [Act.put,List.setIfInBounds_toArray,List.set_cons_zero,List.set_cons_succ,i64_w,i32_w]
                                        rfl
                                      exact norm_ (by simp only [putAll,Act.put,List.setIfInBounds_toArray,List.set_cons_zero,List.set_cons_succ]) (hCont (gb210) _ ⟨hHeld,(by (with_reducible repeat (first | apply Kd.R_alloc | apply Kd.R_drewN | apply Kd.R_drew));exact HO_5.out),(by (with_reducible repeat (first | apply Kd.R_alloc | apply Kd.R_drewN | apply Kd.R_drew));exact Kd.R_mono HO_8.out (fun _ hk => hk.2)),(by refine bP ?_;exact BK210.out),GW210.out,GE210.out,(by repeat (first | (with_reducible first | exact HB.out | apply below_alloc | apply pw_below_drewN | apply below_drew1 | refine below_set ?_ GE210.out) | exact HB.out))⟩)
                                  rintro gb210 w37 ⟨hS_,h0_,h1_,h2_,h3_,h4_,h5_⟩
                                  have n0_ : Aside0 (Kd.R k91 91 w37 w.heap.size (fun _ => True) u5 x5_2) := ⟨h0_⟩
                                  have n1_ : Aside0 (Kd.R k87 87 w37 w.heap.size (fun k_ => k_ ≠ gb210) (.slice (some ad205) t201.length co33) t201) := ⟨h1_⟩
                                  have n2_ : Aside0 (w37.heap[gb210]? = some (.cells #[.int .i64 0,.int .i64 0] 87 (0,0))) := ⟨h2_⟩
                                  have n3_ : Aside0 (w.heap.size ≤ gb210) := ⟨h3_⟩
                                  have n4_ : Aside0 (w.heap.size ≤ gb210) := ⟨h4_⟩
                                  have n5_ : Aside0 (Below w.heap.size w w37) := ⟨h5_⟩
                                  clear HO_5
                                  clear HO_8
                                  clear HB
                                  clear h0_ h1_ h2_ h3_ h4_ h5_
                                  have HO_5 := n0_
                                  have HO_8 := n1_
                                  have BK210 := n2_
                                  have GW210 := n3_
                                  have GE210 := n4_
                                  have HB := n5_
                                  clear n0_ n1_ n2_ n3_ n4_ n5_
                                  have hHeld : w37.cell? (ad205.add (((ji12)).toNat * 2)) = some (.int .i64 ((rd_T87 t201 (ji12)).f0)) ∧ w37.cell? ⟨(ad205.add (((ji12)).toNat * 2)).block,(ad205.add (((ji12)).toNat * 2)).off + 1,none⟩ = some (.int .i64 ((rd_T87 t201 (ji12)).f1)) ∧ w37.cell? (ad205.add ((x10_2).toNat * 2)) = some (.int .i64 ((rd_T87 t201 x10_2).f0)) ∧ w37.cell? ⟨(ad205.add ((x10_2).toNat * 2)).block,(ad205.add ((x10_2).toNat * 2)).off + 1,none⟩ = some (.int .i64 ((rd_T87 t201 x10_2).f1)) := hS_
                                  refine norm_ (a' := ?_) ?_ ?_
                                  rotate_left
                                  · simp only [putAll,Act.put,List.setIfInBounds_toArray,List.set_cons_zero,List.set_cons_succ]
                                    rfl
                                  refine one_ (i := 15) (N := none) #[true,true,true,true,true,true,true,true,true,true,true,true,true,true,true,true,false] rfl rfl (one_of HT_.out (by kernel_rfl)) (by decide) (fun K hK => ?_)
                                  have hs38 : w37.cell? ⟨gb210,0,none⟩ = some (.int .i64 0) := (blk_cell BK210.out 0).trans rfl
                                  have hfs38 := blk_frozen BK210.out 0
                                  have hs39 : w37.cell? ⟨gb210,1,none⟩ = some (.int .i64 0) := (blk_cell BK210.out 1).trans rfl
                                  have hfs39 := blk_frozen BK210.out 1
                                  refine skip_ (w1 := ?_) (by rfl) rfl ?_ ?_
                                  rotate_left
                                  · go_simp
                                    rfl
                                  refine hK.out _ _ ⟨((cell_far (p := ⟨gb210,_,none⟩) (by first | exact Kd.own_blk (Kd.R_away HO_8.out (fun _ hk => hk)) | (rw [add_block];exact Kd.own_blk (Kd.R_away HO_8.out (fun _ hk => hk))) | (show (Addr.add _ _).block ≠ _;rw [add_block];exact Kd.own_blk (Kd.R_away HO_8.out (fun _ hk => hk))) | (dsimp only;exact Kd.own_blk (Kd.R_away HO_8.out (fun _ hk => hk)))) _).trans (((cell_far (p := ⟨gb210,_,none⟩) (by first | exact Kd.own_blk (Kd.R_away HO_8.out (fun _ hk => hk)) | (rw [add_block];exact Kd.own_blk (Kd.R_away HO_8.out (fun _ hk => hk))) | (show (Addr.add _ _).block ≠ _;rw [add_block];exact Kd.own_blk (Kd.R_away HO_8.out (fun _ hk => hk))) | (dsimp only;exact Kd.own_blk (Kd.R_away HO_8.out (fun _ hk => hk)))) _).trans (hHeld.1)))),((cell_far (p := ⟨gb210,_,none⟩) (by first | exact Kd.own_blk (Kd.R_away HO_8.out (fun _ hk => hk)) | (rw [add_block];exact Kd.own_blk (Kd.R_away HO_8.out (fun _ hk => hk))) | (show (Addr.add _ _).block ≠ _;rw [add_block];exact Kd.own_blk (Kd.R_away HO_8.out (fun _ hk => hk))) | (dsimp only;exact Kd.own_blk (Kd.R_away HO_8.out (fun _ hk => hk)))) _).trans (((cell_far (p := ⟨gb210,_,none⟩) (by first | exact Kd.own_blk (Kd.R_away HO_8.out (fun _ hk => hk)) | (rw [add_block];exact Kd.own_blk (Kd.R_away HO_8.out (fun _ hk => hk))) | (show (Addr.add _ _).block ≠ _;rw [add_block];exact Kd.own_blk (Kd.R_away HO_8.out (fun _ hk => hk))) | (dsimp only;exact Kd.own_blk (Kd.R_away HO_8.out (fun _ hk => hk)))) _).trans (hHeld.2.1)))),((cell_far (p := ⟨gb210,_,none⟩) (by first | exact Kd.own_blk (Kd.R_away HO_8.out (fun _ hk => hk)) | (rw [add_block];exact Kd.own_blk (Kd.R_away HO_8.out (fun _ hk => hk))) | (show (Addr.add _ _).block ≠ _;rw [add_block];exact Kd.own_blk (Kd.R_away HO_8.out (fun _ hk => hk))) | (dsimp only;exact Kd.own_blk (Kd.R_away HO_8.out (fun _ hk => hk)))) _).trans (((cell_far (p := ⟨gb210,_,none⟩) (by first | exact Kd.own_blk (Kd.R_away HO_8.out (fun _ hk => hk)) | (rw [add_block];exact Kd.own_blk (Kd.R_away HO_8.out (fun _ hk => hk))) | (show (Addr.add _ _).block ≠ _;rw [add_block];exact Kd.own_blk (Kd.R_away HO_8.out (fun _ hk => hk))) | (dsimp only;exact Kd.own_blk (Kd.R_away HO_8.out (fun _ hk => hk)))) _).trans (hHeld.2.2.1)))),((cell_far (p := ⟨gb210,_,none⟩) (by first | exact Kd.own_blk (Kd.R_away HO_8.out (fun _ hk => hk)) | (rw [add_block];exact Kd.own_blk (Kd.R_away HO_8.out (fun _ hk => hk))) | (show (Addr.add _ _).block ≠ _;rw [add_block];exact Kd.own_blk (Kd.R_away HO_8.out (fun _ hk => hk))) | (dsimp only;exact Kd.own_blk (Kd.R_away HO_8.out (fun _ hk => hk)))) _).trans (((cell_far (p := ⟨gb210,_,none⟩) (by first | exact Kd.own_blk (Kd.R_away HO_8.out (fun _ hk => hk)) | (rw [add_block];exact Kd.own_blk (Kd.R_away HO_8.out (fun _ hk => hk))) | (show (Addr.add _ _).block ≠ _;rw [add_block];exact Kd.own_blk (Kd.R_away HO_8.out (fun _ hk => hk))) | (dsimp only;exact Kd.own_blk (Kd.R_away HO_8.out (fun _ hk => hk)))) _).trans (hHeld.2.2.2))))⟩ (fun hHeld => ?_)
                                  clear hK K
                                  refine pure_ (i := 16) (N := some 12) (v := ?_) (a' := ?_) #[true,true,true,true,true,true,true,true,true,true,true,true,true,true,true,true,true] rfl rfl (any_of HT_.out (by kernel_rfl)) (fun _ _ _ h => h) (Or.inl ⟨by rfl,?_⟩) ?_ ?_
                                  rotate_left
                                  · intro w'
                                    go_simp
                                    with_reducible rfl
                                  rotate_left
                                  · simp only [Act.put,List.setIfInBounds_toArray,List.set_cons_zero,List.set_cons_succ,i64_w,i32_w]
                                    rfl
                                  refine done_ (done_of HT_.out (by kernel_rfl)) ?_
                                  have p211 : 0 ≤ (x10_2 : Int) := of_decide_eq_true (by first | (with_reducible assumption) | assumption)
                                  have q211 : x10_2 < (t201.length : Int) := of_decide_eq_true (by first | (with_reducible assumption) | assumption)
                                  obtain ⟨ad211,e211,hx211_0,hx211_1⟩ := at_T87 (Kd.R_reads' HO_8.out).2.2 x10_2 p211 q211
                                  obtain rfl : ad205 = ad211 := (by injection e211)
                                  have hn211_0 : ad205.block ≠ gb210 := Kd.own_blk (Kd.R_away HO_8.out (fun _ hk => hk))
                                  have hn211_1 : ad205.block ≠ gb210 := Kd.own_blk (Kd.R_away HO_8.out (fun _ hk => hk))
                                  replace hx211_0 := (cell_far (p := ⟨gb210,0,none⟩) (by first | (rw [add_block];exact hn211_0) | (show (Addr.add _ _).block ≠ _;rw [add_block];exact hn211_0) | exact hn211_0) (.int .i64 t207)).trans hx211_0
                                  replace hx211_1 := (cell_far (p := ⟨gb210,0,none⟩) (by first | (rw [add_block];exact hn211_0) | (show (Addr.add _ _).block ≠ _;rw [add_block];exact hn211_0) | exact hn211_0) (.int .i64 t207)).trans hx211_1
                                  replace hx211_0 := (cell_far (p := ⟨gb210,1,none⟩) (by first | (rw [add_block];exact hn211_1) | (show (Addr.add _ _).block ≠ _;rw [add_block];exact hn211_1) | exact hn211_1) (.int .i64 t208)).trans hx211_0
                                  replace hx211_1 := (cell_far (p := ⟨gb210,1,none⟩) (by first | (rw [add_block];exact hn211_1) | (show (Addr.add _ _).block ≠ _;rw [add_block];exact hn211_1) | exact hn211_1) (.int .i64 t208)).trans hx211_1
                                  clear hn211_0
                                  clear hn211_1
                                  replace p211 := eq_true p211
                                  replace q211 := eq_true q211
                                  obtain ⟨hcz40_0,hcz40_1,hfz40_0,hfz40_1⟩ := impl_CandsOf.cells2 BK210.out
                                  try go_wp2
                                  go_roundg k2
                                  case measure => have := HK1.out;have := HK2.out;omega
                                  case rel => exact ⟨(x5_2),(wrap64 (x10_2 + 1)),(by first | rfl | (simp;done) | (simp [*];done)),H',⟨by have := HK1.out;have := HK2.out;omega⟩,⟨by (with_reducible repeat (first | apply Kd.R_alloc | apply Kd.R_drewN | apply Kd.R_drew));exact Kd.R_mono (Kd.R_far (p := ⟨gb210,1,none⟩) (Kd.R_far (p := ⟨gb210,0,none⟩) (Kd.R_types HO_5.out BK210.out (by decide)) (fun _ hk => hk.2) (.int .i64 t207)) (fun _ hk => hk.2) (.int .i64 t208)) (fun _ hk => trivial)⟩,⟨by (with_reducible repeat (first | apply Kd.R_alloc | apply Kd.R_drewN | apply Kd.R_drew));exact Kd.R_mono (Kd.R_far (p := ⟨gb210,1,none⟩) (Kd.R_far (p := ⟨gb210,0,none⟩) (Kd.R_mono HO_8.out (fun k_ hk => (⟨hk,hk⟩ : _ ∧ k_ ≠ gb210))) (fun _ hk => hk.2) (.int .i64 t207)) (fun _ hk => hk.2) (.int .i64 t208)) (fun _ hk => trivial)⟩,⟨by repeat (first | (with_reducible first | exact HB.out | apply below_alloc | apply pw_below_drewN | apply below_drew1 | refine below_set ?_ GE210.out) | exact HB.out)⟩⟩
                              · rw [if_neg c19] at H
                                have c19b0 : decide (a1 ≤ ((rd_T87 t201 x10_2).f0)) = false := decide_eq_false c19
                                clear c19
                                have H' := Aside0.mk H
                                clear H
                                obtain ⟨Ao41,co41,eo41⟩ := Kd.R_slice HO_8.out
                                subst eo41
                                try go_wp2
                                have n0_ := Aside0.mk (Kd.R_drew HO_5.out)
                                have n1_ := Aside0.mk (Kd.R_drew HO_8.out)
                                have n2_ := Aside0.mk (below_drew1 HB.out)
                                clear HO_5
                                clear HO_8
                                clear HB
                                have HO_5 := n0_
                                have HO_8 := n1_
                                have HB := n2_
                                clear n0_ n1_ n2_
                                have p205 : 0 ≤ ((ji12) : Int) := of_decide_eq_true (by first | (with_reducible assumption) | assumption)
                                have q205 : (ji12) < (t201.length : Int) := of_decide_eq_true (by first | (with_reducible assumption) | assumption)
                                obtain ⟨ad205,e205,hx205_0,hx205_1⟩ := at_T87 (Kd.R_reads' HO_8.out).2.2 (ji12) p205 q205
                                cases e205
                                replace p205 := eq_true p205
                                replace q205 := eq_true q205
                                have p206 : 0 ≤ (x10_2 : Int) := of_decide_eq_true (by first | (with_reducible assumption) | assumption)
                                have q206 : x10_2 < (t201.length : Int) := of_decide_eq_true (by first | (with_reducible assumption) | assumption)
                                obtain ⟨ad206,e206,hx206_0,hx206_1⟩ := at_T87 (Kd.R_reads' HO_8.out).2.2 x10_2 p206 q206
                                obtain rfl : ad205 = ad206 := (by injection e206)
                                replace p206 := eq_true p206
                                replace q206 := eq_true q206
                                refine start_ (n := 17) (S := fun w' => w'.cell? (ad205.add (((ji12)).toNat * 2)) = some (.int .i64 ((rd_T87 t201 (ji12)).f0)) ∧ w'.cell? ⟨(ad205.add (((ji12)).toNat * 2)).block,(ad205.add (((ji12)).toNat * 2)).off + 1,none⟩ = some (.int .i64 ((rd_T87 t201 (ji12)).f1)) ∧ w'.cell? (ad205.add ((x10_2).toNat * 2)) = some (.int .i64 ((rd_T87 t201 x10_2).f0)) ∧ w'.cell? ⟨(ad205.add ((x10_2).toNat * 2)).block,(ad205.add ((x10_2).toNat * 2)).off + 1,none⟩ = some (.int .i64 ((rd_T87 t201 x10_2).f1))) (ds := []) #[false,false,false,false,false,false,false,false,false,false,false,false,false,false,false,false,false] (by kernel_rfl) rfl rfl ⟨hx205_0,hx205_1,hx206_0,hx206_1⟩ (fun hHeld => ?_);refine with_tabW impl_CandsOf.tab11 impl_CandsOf.bits11 (fun HT_ HW_ => ?_)
                                generalize wr.drew = w42 at HO_5 HO_8 HB hx205_0 hx205_1 hx206_0 hx206_1 hHeld ⊢
                                refine pure_ (i := 0) (N := some 36) (v := ?_) (a' := ?_) #[true,false,false,false,false,false,false,false,false,false,false,false,false,false,false,false,false] rfl rfl (any_of HT_.out (by kernel_rfl)) (fun _ _ _ h => h) (Or.inl ⟨by rfl,?_⟩) ?_ ?_
                                rotate_left
                                · intro w'
                                  go_simp
                                  with_reducible rfl
                                rotate_left
                                · simp only [Act.put,List.setIfInBounds_toArray,List.set_cons_zero,List.set_cons_succ,i64_w,i32_w]
                                  rfl
                                refine pure_ (i := 1) (N := some 37) (v := ?_) (a' := ?_) #[true,true,false,false,false,false,false,false,false,false,false,false,false,false,false,false,false] rfl rfl (any_of HT_.out (by kernel_rfl)) (fun _ _ _ h => h) (Or.inl ⟨by rfl,?_⟩) ?_ ?_
                                rotate_left
                                · intro w'
                                  go_simp
                                  with_reducible rfl
                                rotate_left
                                · simp only [Act.put,List.setIfInBounds_toArray,List.set_cons_zero,List.set_cons_succ,i64_w,i32_w]
                                  rfl
                                refine pure_ (i := 2) (N := some 38) (v := ?_) (a' := ?_) #[true,true,true,false,false,false,false,false,false,false,false,false,false,false,false,false,false] rfl rfl (any_of HT_.out (by kernel_rfl)) (fun _ _ _ h => h) (Or.inl ⟨by rfl,?_⟩) ?_ ?_
                                rotate_left
                                · intro w'
                                  go_simp
                                  with_reducible rfl
                                rotate_left
                                · simp only [Act.put,List.setIfInBounds_toArray,List.set_cons_zero,List.set_cons_succ,i64_w,i32_w]
                                  rfl
                                refine pure_ (i := 3) (N := some 39) (v := ?_) (a' := ?_) #[true,true,true,true,false,false,false,false,false,false,false,false,false,false,false,false,false] rfl rfl (any_of HT_.out (by kernel_rfl)) (fun _ _ _ h => h) (Or.inl ⟨by rfl,?_⟩) ?_ ?_
                                rotate_left
                                · intro w'
                                  go_simp
                                  with_reducible rfl
                                rotate_left
                                · simp only [Act.put,List.setIfInBounds_toArray,List.set_cons_zero,List.set_cons_succ,i64_w,i32_w]
                                  rfl
                                refine pure_ (i := 4) (N := some 40) (v := ?_) (a' := ?_) #[true,true,true,true,true,false,false,false,false,false,false,false,false,false,false,false,false] rfl rfl (any_of HT_.out (by kernel_rfl)) (fun _ _ _ h => h) (Or.inl ⟨by rfl,?_⟩) ?_ ?_
                                rotate_left
                                · intro w'
                                  go_simp
                                  with_reducible rfl
                                rotate_left
                                · simp only [Act.put,List.setIfInBounds_toArray,List.set_cons_zero,List.set_cons_succ,i64_w,i32_w]
                                  rfl
                                refine pure_ (i := 6) (N := some 42) (v := ?_) (a' := ?_) #[true,true,true,true,true,false,true,false,false,false,false,false,false,false,false,false,false] rfl rfl (any_of HT_.out (by kernel_rfl)) (fun _ _ _ h => h) (Or.inl ⟨by rfl,?_⟩) ?_ ?_
                                rotate_left
                                · intro w'
                                  go_simp
                                  with_reducible rfl
                                rotate_left
                                · simp only [Act.put,List.setIfInBounds_toArray,List.set_cons_zero,List.set_cons_succ,i64_w,i32_w]
                                  rfl
                                refine pure_ (i := 7) (N := some 43) (v := ?_) (a' := ?_) #[true,true,true,true,true,false,true,true,false,false,false,false,false,false,false,false,false] rfl rfl (any_of HT_.out (by kernel_rfl)) (fun _ _ _ h => h) (Or.inl ⟨by rfl,?_⟩) ?_ ?_
                                rotate_left
                                · intro w'
                                  go_simp
                                  with_reducible rfl
                                rotate_left
                                · simp only [Act.put,List.setIfInBounds_toArray,List.set_cons_zero,List.set_cons_succ,i64_w,i32_w]
                                  rfl
                                refine pure_ (i := 8) (N := some 44) (v := ?_) (a' := ?_) #[true,true,true,true,true,false,true,true,true,false,false,false,false,false,false,false,false] rfl rfl (any_of HT_.out (by kernel_rfl)) (fun _ _ _ h => h) (Or.inl ⟨by rfl,?_⟩) ?_ ?_
                                rotate_left
                                · intro w'
                                  go_simp
                                  with_reducible rfl
                                rotate_left
                                · simp only [Act.put,List.setIfInBounds_toArray,List.set_cons_zero,List.set_cons_succ,i64_w,i32_w]
                                  rfl
                                refine take_ (i := 5) (N := some 41) (v := ?_) (a' := ?_) #[true,true,true,true,true,true,true,true,true,false,false,false,false,false,false,false,false] rfl rfl (take_ofW HT_.out HW_.out (by kernel_rfl)) (fun _ _ _ h => h) (Or.inl ⟨by rfl,?_⟩) hHeld ?_ ?_
                                rotate_left
                                · rintro w' ⟨s0,s1,s2,s3⟩
                                  go_simp
                                  with_reducible rfl
                                rotate_left
                                · simp only [Act.put,List.setIfInBounds_toArray,List.set_cons_zero,List.set_cons_succ,i64_w,i32_w]
                                  rfl
                                refine take_ (i := 9) (N := some 45) (v := ?_) (a' := ?_) #[true,true,true,true,true,true,true,true,true,true,false,false,false,false,false,false,false] rfl rfl (take_ofW HT_.out HW_.out (by kernel_rfl)) (fun _ _ _ h => h) (Or.inl ⟨by rfl,?_⟩) hHeld ?_ ?_
                                rotate_left
                                · rintro w' ⟨s0,s1,s2,s3⟩
                                  go_simp
                                  with_reducible rfl
                                rotate_left
                                · simp only [Act.put,List.setIfInBounds_toArray,List.set_cons_zero,List.set_cons_succ,i64_w,i32_w]
                                  rfl
                                refine join_ (σ := Nat) 2 #[true,true,true,true,true,true,true,true,true,true,true,true,true,true,true,false,false] (fun s_ => [(46,.tuple #[.agg #[.int .i64 t207,.int .i64 t208],.bool true]),(11,.pointer (some ⟨s_,0,none⟩)),(35,.tuple #[.agg #[.int .i64 t207,.int .i64 t208],.bool true]),(47,.agg #[.int .i64 t207,.int .i64 t208]),(48,.bool true)]) (fun s_ w' => (w'.cell? (ad205.add (((ji12)).toNat * 2)) = some (.int .i64 ((rd_T87 t201 (ji12)).f0)) ∧ w'.cell? ⟨(ad205.add (((ji12)).toNat * 2)).block,(ad205.add (((ji12)).toNat * 2)).off + 1,none⟩ = some (.int .i64 ((rd_T87 t201 (ji12)).f1)) ∧ w'.cell? (ad205.add ((x10_2).toNat * 2)) = some (.int .i64 ((rd_T87 t201 x10_2).f0)) ∧ w'.cell? ⟨(ad205.add ((x10_2).toNat * 2)).block,(ad205.add ((x10_2).toNat * 2)).off + 1,none⟩ = some (.int .i64 ((rd_T87 t201 x10_2).f1))) ∧ (Kd.R k91 91 w' w.heap.size (fun _ => True) u5 x5_2) ∧ (Kd.R k87 87 w' w.heap.size (fun k_ => k_ ≠ s_) (.slice (some ad205) t201.length co41) t201) ∧ (w'.heap[s_]? = some (.cells #[.int .i64 0,.int .i64 0] 87 (0,0))) ∧ (w.heap.size ≤ s_) ∧ (w.heap.size ≤ s_) ∧ (Below w.heap.size w w')) ?_ ?_
                                rotate_left
                                · intro hCont
                                  refine two_ (i := 10) (j := 14) (Ni := some 46) (Nj := some 11) #[true,true,true,true,true,true,true,true,true,true,true,false,false,false,false,false,false] #[true,true,true,true,true,true,true,true,true,true,false,false,false,false,true,false,false] rfl rfl rfl rfl (two_of HT_.out (by kernel_rfl)) (by decide) (by decide) (fun K hK => ?_) (fun K hK => ?_)
                                  · skip
                                    refine goes_ Try.func70 (by kernel_rfl) rfl #[.agg #[.int .i64 ((rd_T87 t201 (ji12)).f0),.int .i64 ((rd_T87 t201 (ji12)).f1)],.agg #[.int .i64 ((rd_T87 t201 x10_2).f0),.int .i64 ((rd_T87 t201 x10_2).f1)]] (by rfl) rfl rfl (by (try simp only [List.map_toArray,List.map_cons,List.map_nil]);first | done | (simp only [hji12];rfl) | rfl | (simp only [List.length_drop,List.length_take];rfl)) ?_
                                    with_reducible refine (impl_Slot_minus.calls ((rd_T87 t201 (ji12)).f0) ((rd_T87 t201 (ji12)).f1) ((rd_T87 t201 x10_2).f0) ((rd_T87 t201 x10_2).f1) t207 t208 true _ A17.out).mono ?_
                                    rintro e w43 ⟨rfl,hb⟩
                                    have HS0_ := (hb.cell (World.block_lt_of_cell? _ _ (hHeld.1))).trans (hHeld.1)
                                    have HS1_ := (hb.cell (World.block_lt_of_cell? _ _ (hHeld.2.1))).trans (hHeld.2.1)
                                    have HS2_ := (hb.cell (World.block_lt_of_cell? _ _ (hHeld.2.2.1))).trans (hHeld.2.2.1)
                                    have HS3_ := (hb.cell (World.block_lt_of_cell? _ _ (hHeld.2.2.2))).trans (hHeld.2.2.2)
                                    refine ⟨_,rfl,?_⟩
                                    have n0_ := Aside0.mk (Kd.R_below (by (with_reducible repeat (first | apply Kd.R_alloc | apply Kd.R_drewN | apply Kd.R_drew));exact HO_5.out) hb)
                                    have n1_ := Aside0.mk (Kd.R_below (by (with_reducible repeat (first | apply Kd.R_alloc | apply Kd.R_drewN | apply Kd.R_drew));exact HO_8.out) hb)
                                    have n2_ := Aside0.mk (below_step (by repeat (first | (with_reducible first | exact HB.out | apply below_alloc | apply pw_below_drewN | apply below_drew1) | exact HB.out)) hb)
                                    clear HO_5
                                    clear HO_8
                                    clear HB
                                    have HO_5 := n0_
                                    have HO_8 := n1_
                                    have HB := n2_
                                    clear n0_ n1_ n2_
                                    (try clear hb)
                                    (try clear hb2)
                                    (try clear hk)
                                    (try clear hi)
                                    refine hK.out _ _ ⟨HS0_,HS1_,HS2_,HS3_⟩ (fun hHeld => ?_)
                                    clear hK K
                                    refine norm_ (a' := ?_) ?_ ?_
                                    rotate_left
                                    · show Act.put _ (some 46) _ = _
                                      simp only [Act.put,List.setIfInBounds_toArray,List.set_cons_zero,List.set_cons_succ,i64_w,i32_w]
                                      rfl
                                    refine pure_ (i := 11) (N := some 35) (v := ?_) (a' := ?_) #[true,true,true,true,true,true,true,true,true,true,true,true,false,false,false,false,false] rfl rfl (any_of HT_.out (by kernel_rfl)) (fun _ _ _ h => h) (Or.inl ⟨by rfl,?_⟩) ?_ ?_
                                    rotate_left
                                    · intro w'
                                      go_simp
                                      with_reducible rfl
                                    rotate_left
                                    · simp only [Act.put,List.setIfInBounds_toArray,List.set_cons_zero,List.set_cons_succ,i64_w,i32_w]
                                      rfl
                                    refine pure_ (i := 12) (N := some 47) (v := ?_) (a' := ?_) #[true,true,true,true,true,true,true,true,true,true,true,true,true,false,false,false,false] rfl rfl (any_of HT_.out (by kernel_rfl)) (fun _ _ _ h => h) (Or.inl ⟨by rfl,?_⟩) ?_ ?_
                                    rotate_left
                                    · intro w'
                                      go_simp
                                      with_reducible rfl
                                    rotate_left
                                    · simp only [Act.put,List.setIfInBounds_toArray,List.set_cons_zero,List.set_cons_succ,i64_w,i32_w]
                                      rfl
                                    refine pure_ (i := 13) (N := some 48) (v := ?_) (a' := ?_) #[true,true,true,true,true,true,true,true,true,true,true,true,true,true,false,false,false] rfl rfl (any_of HT_.out (by kernel_rfl)) (fun _ _ _ h => h) (Or.inl ⟨by rfl,?_⟩) ?_ ?_
                                    rotate_left
                                    · intro w'
                                      go_simp
                                      with_reducible rfl
                                    rotate_left
                                    · simp only [Act.put,List.setIfInBounds_toArray,List.set_cons_zero,List.set_cons_succ,i64_w,i32_w]
                                      rfl
                                    refine one_ (i := 14) (N := some 11) #[true,true,true,true,true,true,true,true,true,true,true,true,true,true,true,false,false] rfl rfl (one_of HT_.out (by kernel_rfl)) (by decide) (fun K hK => ?_)
                                    refine box_step ?hg (N := 11) ?hd (cs := #[.int .i64 0,.int .i64 0]) (t := 87) ?hr ?_;(case hd => rfl);(case hg => rfl);(case hr => first | (go_simp;done) | (go_simp;rfl))
                                    intro gb210 hg w44 hbox hb
                                    have HS0_ := (hb.cell (World.block_lt_of_cell? _ _ (hHeld.1))).trans (hHeld.1)
                                    have HS1_ := (hb.cell (World.block_lt_of_cell? _ _ (hHeld.2.1))).trans (hHeld.2.1)
                                    have HS2_ := (hb.cell (World.block_lt_of_cell? _ _ (hHeld.2.2.1))).trans (hHeld.2.2.1)
                                    have HS3_ := (hb.cell (World.block_lt_of_cell? _ _ (hHeld.2.2.2))).trans (hHeld.2.2.2)
                                    have n0_ := Aside0.mk (Kd.R_below (by (with_reducible repeat (first | apply Kd.R_alloc | apply Kd.R_drewN | apply Kd.R_drew));exact HO_5.out) hb)
                                    have n1_ := Aside0.mk (Kd.R_below (Kd.R_elderB (by (with_reducible repeat (first | apply Kd.R_alloc | apply Kd.R_drewN | apply Kd.R_drew));exact HO_8.out) gb210 (Nat.le_of_eq hg.symm)) hb)
                                    have n2_ := Aside0.mk (below_step (by repeat (first | (with_reducible first | exact HB.out | apply below_alloc | apply pw_below_drewN | apply below_drew1) | exact HB.out)) hb)
                                    have n3_ := Aside0.mk (hbox)
                                    have n4_ := Aside0.mk ((by rw [hg];exact (below_size (by repeat (first | (with_reducible first | exact HB.out | apply below_alloc | apply pw_below_drewN | apply below_drew1) | exact HB.out))) : w.heap.size ≤ gb210))
                                    have n5_ := Aside0.mk ((by rw [hg];exact (below_size (by repeat (first | (with_reducible first | exact HB.out | apply below_alloc | apply pw_below_drewN | apply below_drew1) | exact HB.out))) : w.heap.size ≤ gb210))
                                    clear HO_5
                                    clear HO_8
                                    clear HB
                                    have HO_5 := n0_
                                    have HO_8 := n1_
                                    have HB := n2_
                                    have BK210 := n3_
                                    have GW210 := n4_
                                    have GE210 := n5_
                                    clear n0_ n1_ n2_ n3_ n4_ n5_
                                    clear hb hbox hg
                                    refine hK.out _ _ ⟨HS0_,HS1_,HS2_,HS3_⟩ (fun hHeld => ?_)
                                    clear hK K
                                    refine norm_ (a' := ?_) ?_ ?_
                                    rotate_left
                                    · show Act.put _ (some 11) _ = _
                                      simp only [Act.put,List.setIfInBounds_toArray,List.set_cons_zero,List.set_cons_succ,i64_w,i32_w]
                                      rfl
                                    exact norm_ (by simp only [putAll,Act.put,List.setIfInBounds_toArray,List.set_cons_zero,List.set_cons_succ]) (hCont (gb210) _ ⟨hHeld,(by (with_reducible repeat (first | apply Kd.R_alloc | apply Kd.R_drewN | apply Kd.R_drew));exact HO_5.out),(by (with_reducible repeat (first | apply Kd.R_alloc | apply Kd.R_drewN | apply Kd.R_drew));exact Kd.R_mono HO_8.out (fun _ hk => hk.2)),(by refine bP ?_;exact BK210.out),GW210.out,GE210.out,(by repeat (first | (with_reducible first | exact HB.out | apply below_alloc | apply pw_below_drewN | apply below_drew1 | refine below_set ?_ GE210.out) | exact HB.out))⟩)
                                  · skip
                                    refine box_step ?hg (N := 11) ?hd (cs := #[.int .i64 0,.int .i64 0]) (t := 87) ?hr ?_;(case hd => rfl);(case hg => rfl);(case hr => first | (go_simp;done) | (go_simp;rfl))
                                    intro gb210 hg w43 hbox hb
                                    have HS0_ := (hb.cell (World.block_lt_of_cell? _ _ (hHeld.1))).trans (hHeld.1)
                                    have HS1_ := (hb.cell (World.block_lt_of_cell? _ _ (hHeld.2.1))).trans (hHeld.2.1)
                                    have HS2_ := (hb.cell (World.block_lt_of_cell? _ _ (hHeld.2.2.1))).trans (hHeld.2.2.1)
                                    have HS3_ := (hb.cell (World.block_lt_of_cell? _ _ (hHeld.2.2.2))).trans (hHeld.2.2.2)
                                    have n0_ := Aside0.mk (Kd.R_below (by (with_reducible repeat (first | apply Kd.R_alloc | apply Kd.R_drewN | apply Kd.R_drew));exact HO_5.out) hb)
                                    have n1_ := Aside0.mk (Kd.R_below (Kd.R_elderB (by (with_reducible repeat (first | apply Kd.R_alloc | apply Kd.R_drewN | apply Kd.R_drew));exact HO_8.out) gb210 (Nat.le_of_eq hg.symm)) hb)
                                    have n2_ := Aside0.mk (below_step (by repeat (first | (with_reducible first | exact HB.out | apply below_alloc | apply pw_below_drewN | apply below_drew1) | exact HB.out)) hb)
                                    have n3_ := Aside0.mk (hbox)
                                    have n4_ := Aside0.mk ((by rw [hg];exact (below_size (by repeat (first | (with_reducible first | exact HB.out | apply below_alloc | apply pw_below_drewN | apply below_drew1) | exact HB.out))) : w.heap.size ≤ gb210))
                                    have n5_ := Aside0.mk ((by rw [hg];exact (below_size (by repeat (first | (with_reducible first | exact HB.out | apply below_alloc | apply pw_below_drewN | apply below_drew1) | exact HB.out))) : w.heap.size ≤ gb210))
                                    clear HO_5
                                    clear HO_8
                                    clear HB
                                    have HO_5 := n0_
                                    have HO_8 := n1_
                                    have HB := n2_
                                    have BK210 := n3_
                                    have GW210 := n4_
                                    have GE210 := n5_
                                    clear n0_ n1_ n2_ n3_ n4_ n5_
                                    clear hb hbox hg
                                    refine hK.out _ _ ⟨HS0_,HS1_,HS2_,HS3_⟩ (fun hHeld => ?_)
                                    clear hK K
                                    refine norm_ (a' := ?_) ?_ ?_
                                    rotate_left
                                    · show Act.put _ (some 11) _ = _
                                      simp only [Act.put,List.setIfInBounds_toArray,List.set_cons_zero,List.set_cons_succ,i64_w,i32_w]
                                      rfl
                                    refine one_ (i := 10) (N := some 46) #[true,true,true,true,true,true,true,true,true,true,true,false,false,false,true,false,false] rfl rfl (one_of HT_.out (by kernel_rfl)) (by decide) (fun K hK => ?_)
                                    refine goes_ Try.func70 (by kernel_rfl) rfl #[.agg #[.int .i64 ((rd_T87 t201 (ji12)).f0),.int .i64 ((rd_T87 t201 (ji12)).f1)],.agg #[.int .i64 ((rd_T87 t201 x10_2).f0),.int .i64 ((rd_T87 t201 x10_2).f1)]] (by rfl) rfl rfl (by (try simp only [List.map_toArray,List.map_cons,List.map_nil]);first | done | (simp only [hji12];rfl) | rfl | (simp only [List.length_drop,List.length_take];rfl)) ?_
                                    with_reducible refine (impl_Slot_minus.calls ((rd_T87 t201 (ji12)).f0) ((rd_T87 t201 (ji12)).f1) ((rd_T87 t201 x10_2).f0) ((rd_T87 t201 x10_2).f1) t207 t208 true _ A17.out).mono ?_
                                    rintro e w44 ⟨rfl,hb⟩
                                    have HS0_ := (hb.cell (World.block_lt_of_cell? _ _ (hHeld.1))).trans (hHeld.1)
                                    have HS1_ := (hb.cell (World.block_lt_of_cell? _ _ (hHeld.2.1))).trans (hHeld.2.1)
                                    have HS2_ := (hb.cell (World.block_lt_of_cell? _ _ (hHeld.2.2.1))).trans (hHeld.2.2.1)
                                    have HS3_ := (hb.cell (World.block_lt_of_cell? _ _ (hHeld.2.2.2))).trans (hHeld.2.2.2)
                                    refine ⟨_,rfl,?_⟩
                                    have n0_ := Aside0.mk (Kd.R_below (by (with_reducible repeat (first | apply Kd.R_alloc | apply Kd.R_drewN | apply Kd.R_drew));exact HO_5.out) hb)
                                    have n1_ := Aside0.mk (Kd.R_below (by (with_reducible repeat (first | apply Kd.R_alloc | apply Kd.R_drewN | apply Kd.R_drew));exact HO_8.out) hb)
                                    have n2_ := Aside0.mk (blk_below (g := gb210) (o := .cells #[.int .i64 0,.int .i64 0] 87 (0,0)) (by refine bP ?_;exact BK210.out) hb)
                                    have n3_ := Aside0.mk (below_step (by repeat (first | (with_reducible first | exact HB.out | apply below_alloc | apply pw_below_drewN | apply below_drew1 | refine below_set ?_ GE210.out) | exact HB.out)) hb)
                                    clear HO_5
                                    clear HO_8
                                    clear BK210
                                    clear HB
                                    have HO_5 := n0_
                                    have HO_8 := n1_
                                    have BK210 := n2_
                                    have HB := n3_
                                    clear n0_ n1_ n2_ n3_
                                    (try clear hb)
                                    (try clear hb2)
                                    (try clear hk)
                                    (try clear hi)
                                    refine hK.out _ _ ⟨HS0_,HS1_,HS2_,HS3_⟩ (fun hHeld => ?_)
                                    clear hK K
                                    refine norm_ (a' := ?_) ?_ ?_
                                    rotate_left
                                    · show Act.put _ (some 46) _ = _
                                      simp only [Act.put,List.setIfInBounds_toArray,List.set_cons_zero,List.set_cons_succ,i64_w,i32_w]
                                      rfl
                                    refine pure_ (i := 11) (N := some 35) (v := ?_) (a' := ?_) #[true,true,true,true,true,true,true,true,true,true,true,true,false,false,true,false,false] rfl rfl (any_of HT_.out (by kernel_rfl)) (fun _ _ _ h => h) (Or.inl ⟨by rfl,?_⟩) ?_ ?_
                                    rotate_left
                                    · intro w'
                                      go_simp
                                      with_reducible rfl
                                    rotate_left
                                    · simp only [Act.put,List.setIfInBounds_toArray,List.set_cons_zero,List.set_cons_succ,i64_w,i32_w]
                                      rfl
                                    refine pure_ (i := 12) (N := some 47) (v := ?_) (a' := ?_) #[true,true,true,true,true,true,true,true,true,true,true,true,true,false,true,false,false] rfl rfl (any_of HT_.out (by kernel_rfl)) (fun _ _ _ h => h) (Or.inl ⟨by rfl,?_⟩) ?_ ?_
                                    rotate_left
                                    · intro w'
                                      go_simp
                                      with_reducible rfl
                                    rotate_left
                                    · simp only [Act.put,List.setIfInBounds_toArray,List.set_cons_zero,List.set_cons_succ,i64_w,i32_w]
                                      rfl
                                    refine pure_ (i := 13) (N := some 48) (v := ?_) (a' := ?_) #[true,true,true,true,true,true,true,true,true,true,true,true,true,true,true,false,false] rfl rfl (any_of HT_.out (by kernel_rfl)) (fun _ _ _ h => h) (Or.inl ⟨by rfl,?_⟩) ?_ ?_
                                    rotate_left
                                    · intro w'
                                      go_simp
                                      with_reducible rfl
                                    rotate_left
                                    · simp only [Act.put,List.setIfInBounds_toArray,List.set_cons_zero,List.set_cons_succ,i64_w,i32_w]
                                      rfl
                                    exact norm_ (by simp only [putAll,Act.put,List.setIfInBounds_toArray,List.set_cons_zero,List.set_cons_succ]) (hCont (gb210) _ ⟨hHeld,(by (with_reducible repeat (first | apply Kd.R_alloc | apply Kd.R_drewN | apply Kd.R_drew));exact HO_5.out),(by (with_reducible repeat (first | apply Kd.R_alloc | apply Kd.R_drewN | apply Kd.R_drew));exact Kd.R_mono HO_8.out (fun _ hk => hk.2)),(by refine bP ?_;exact BK210.out),GW210.out,GE210.out,(by repeat (first | (with_reducible first | exact HB.out | apply below_alloc | apply pw_below_drewN | apply below_drew1 | refine below_set ?_ GE210.out) | exact HB.out))⟩)
                                rintro gb210 w45 ⟨hS_,h0_,h1_,h2_,h3_,h4_,h5_⟩
                                have n0_ : Aside0 (Kd.R k91 91 w45 w.heap.size (fun _ => True) u5 x5_2) := ⟨h0_⟩
                                have n1_ : Aside0 (Kd.R k87 87 w45 w.heap.size (fun k_ => k_ ≠ gb210) (.slice (some ad205) t201.length co41) t201) := ⟨h1_⟩
                                have n2_ : Aside0 (w45.heap[gb210]? = some (.cells #[.int .i64 0,.int .i64 0] 87 (0,0))) := ⟨h2_⟩
                                have n3_ : Aside0 (w.heap.size ≤ gb210) := ⟨h3_⟩
                                have n4_ : Aside0 (w.heap.size ≤ gb210) := ⟨h4_⟩
                                have n5_ : Aside0 (Below w.heap.size w w45) := ⟨h5_⟩
                                clear HO_5
                                clear HO_8
                                clear HB
                                clear h0_ h1_ h2_ h3_ h4_ h5_
                                have HO_5 := n0_
                                have HO_8 := n1_
                                have BK210 := n2_
                                have GW210 := n3_
                                have GE210 := n4_
                                have HB := n5_
                                clear n0_ n1_ n2_ n3_ n4_ n5_
                                have hHeld : w45.cell? (ad205.add (((ji12)).toNat * 2)) = some (.int .i64 ((rd_T87 t201 (ji12)).f0)) ∧ w45.cell? ⟨(ad205.add (((ji12)).toNat * 2)).block,(ad205.add (((ji12)).toNat * 2)).off + 1,none⟩ = some (.int .i64 ((rd_T87 t201 (ji12)).f1)) ∧ w45.cell? (ad205.add ((x10_2).toNat * 2)) = some (.int .i64 ((rd_T87 t201 x10_2).f0)) ∧ w45.cell? ⟨(ad205.add ((x10_2).toNat * 2)).block,(ad205.add ((x10_2).toNat * 2)).off + 1,none⟩ = some (.int .i64 ((rd_T87 t201 x10_2).f1)) := hS_
                                refine norm_ (a' := ?_) ?_ ?_
                                rotate_left
                                · simp only [putAll,Act.put,List.setIfInBounds_toArray,List.set_cons_zero,List.set_cons_succ]
                                  rfl
                                refine one_ (i := 15) (N := none) #[true,true,true,true,true,true,true,true,true,true,true,true,true,true,true,true,false] rfl rfl (one_of HT_.out (by kernel_rfl)) (by decide) (fun K hK => ?_)
                                have hs46 : w45.cell? ⟨gb210,0,none⟩ = some (.int .i64 0) := (blk_cell BK210.out 0).trans rfl
                                have hfs46 := blk_frozen BK210.out 0
                                have hs47 : w45.cell? ⟨gb210,1,none⟩ = some (.int .i64 0) := (blk_cell BK210.out 1).trans rfl
                                have hfs47 := blk_frozen BK210.out 1
                                refine skip_ (w1 := ?_) (by rfl) rfl ?_ ?_
                                rotate_left
                                · go_simp
                                  rfl
                                refine hK.out _ _ ⟨((cell_far (p := ⟨gb210,_,none⟩) (by first | exact Kd.own_blk (Kd.R_away HO_8.out (fun _ hk => hk)) | (rw [add_block];exact Kd.own_blk (Kd.R_away HO_8.out (fun _ hk => hk))) | (show (Addr.add _ _).block ≠ _;rw [add_block];exact Kd.own_blk (Kd.R_away HO_8.out (fun _ hk => hk))) | (dsimp only;exact Kd.own_blk (Kd.R_away HO_8.out (fun _ hk => hk)))) _).trans (((cell_far (p := ⟨gb210,_,none⟩) (by first | exact Kd.own_blk (Kd.R_away HO_8.out (fun _ hk => hk)) | (rw [add_block];exact Kd.own_blk (Kd.R_away HO_8.out (fun _ hk => hk))) | (show (Addr.add _ _).block ≠ _;rw [add_block];exact Kd.own_blk (Kd.R_away HO_8.out (fun _ hk => hk))) | (dsimp only;exact Kd.own_blk (Kd.R_away HO_8.out (fun _ hk => hk)))) _).trans (hHeld.1)))),((cell_far (p := ⟨gb210,_,none⟩) (by first | exact Kd.own_blk (Kd.R_away HO_8.out (fun _ hk => hk)) | (rw [add_block];exact Kd.own_blk (Kd.R_away HO_8.out (fun _ hk => hk))) | (show (Addr.add _ _).block ≠ _;rw [add_block];exact Kd.own_blk (Kd.R_away HO_8.out (fun _ hk => hk))) | (dsimp only;exact Kd.own_blk (Kd.R_away HO_8.out (fun _ hk => hk)))) _).trans (((cell_far (p := ⟨gb210,_,none⟩) (by first | exact Kd.own_blk (Kd.R_away HO_8.out (fun _ hk => hk)) | (rw [add_block];exact Kd.own_blk (Kd.R_away HO_8.out (fun _ hk => hk))) | (show (Addr.add _ _).block ≠ _;rw [add_block];exact Kd.own_blk (Kd.R_away HO_8.out (fun _ hk => hk))) | (dsimp only;exact Kd.own_blk (Kd.R_away HO_8.out (fun _ hk => hk)))) _).trans (hHeld.2.1)))),((cell_far (p := ⟨gb210,_,none⟩) (by first | exact Kd.own_blk (Kd.R_away HO_8.out (fun _ hk => hk)) | (rw [add_block];exact Kd.own_blk (Kd.R_away HO_8.out (fun _ hk => hk))) | (show (Addr.add _ _).block ≠ _;rw [add_block];exact Kd.own_blk (Kd.R_away HO_8.out (fun _ hk => hk))) | (dsimp only;exact Kd.own_blk (Kd.R_away HO_8.out (fun _ hk => hk)))) _).trans (((cell_far (p := ⟨gb210,_,none⟩) (by first | exact Kd.own_blk (Kd.R_away HO_8.out (fun _ hk => hk)) | (rw [add_block];exact Kd.own_blk (Kd.R_away HO_8.out (fun _ hk => hk))) | (show (Addr.add _ _).block ≠ _;rw [add_block];exact Kd.own_blk (Kd.R_away HO_8.out (fun _ hk => hk))) | (dsimp only;exact Kd.own_blk (Kd.R_away HO_8.out (fun _ hk => hk)))) _).trans (hHeld.2.2.1)))),((cell_far (p := ⟨gb210,_,none⟩) (by first | exact Kd.own_blk (Kd.R_away HO_8.out (fun _ hk => hk)) | (rw [add_block];exact Kd.own_blk (Kd.R_away HO_8.out (fun _ hk => hk))) | (show (Addr.add _ _).block ≠ _;rw [add_block];exact Kd.own_blk (Kd.R_away HO_8.out (fun _ hk => hk))) | (dsimp only;exact Kd.own_blk (Kd.R_away HO_8.out (fun _ hk => hk)))) _).trans (((cell_far (p := ⟨gb210,_,none⟩) (by first | exact Kd.own_blk (Kd.R_away HO_8.out (fun _ hk => hk)) | (rw [add_block];exact Kd.own_blk (Kd.R_away HO_8.out (fun _ hk => hk))) | (show (Addr.add _ _).block ≠ _;rw [add_block];exact Kd.own_blk (Kd.R_away HO_8.out (fun _ hk => hk))) | (dsimp only;exact Kd.own_blk (Kd.R_away HO_8.out (fun _ hk => hk)))) _).trans (hHeld.2.2.2))))⟩ (fun hHeld => ?_)
                                clear hK K
                                refine pure_ (i := 16) (N := some 12) (v := ?_) (a' := ?_) #[true,true,true,true,true,true,true,true,true,true,true,true,true,true,true,true,true] rfl rfl (any_of HT_.out (by kernel_rfl)) (fun _ _ _ h => h) (Or.inl ⟨by rfl,?_⟩) ?_ ?_
                                rotate_left
                                · intro w'
                                  go_simp
                                  with_reducible rfl
                                rotate_left
                                · simp only [Act.put,List.setIfInBounds_toArray,List.set_cons_zero,List.set_cons_succ,i64_w,i32_w]
                                  rfl
                                refine done_ (done_of HT_.out (by kernel_rfl)) ?_
                                have p211 : 0 ≤ (x10_2 : Int) := of_decide_eq_true (by first | (with_reducible assumption) | assumption)
                                have q211 : x10_2 < (t201.length : Int) := of_decide_eq_true (by first | (with_reducible assumption) | assumption)
                                obtain ⟨ad211,e211,hx211_0,hx211_1⟩ := at_T87 (Kd.R_reads' HO_8.out).2.2 x10_2 p211 q211
                                obtain rfl : ad205 = ad211 := (by injection e211)
                                have hn211_0 : ad205.block ≠ gb210 := Kd.own_blk (Kd.R_away HO_8.out (fun _ hk => hk))
                                have hn211_1 : ad205.block ≠ gb210 := Kd.own_blk (Kd.R_away HO_8.out (fun _ hk => hk))
                                replace hx211_0 := (cell_far (p := ⟨gb210,0,none⟩) (by first | (rw [add_block];exact hn211_0) | (show (Addr.add _ _).block ≠ _;rw [add_block];exact hn211_0) | exact hn211_0) (.int .i64 t207)).trans hx211_0
                                replace hx211_1 := (cell_far (p := ⟨gb210,0,none⟩) (by first | (rw [add_block];exact hn211_0) | (show (Addr.add _ _).block ≠ _;rw [add_block];exact hn211_0) | exact hn211_0) (.int .i64 t207)).trans hx211_1
                                replace hx211_0 := (cell_far (p := ⟨gb210,1,none⟩) (by first | (rw [add_block];exact hn211_1) | (show (Addr.add _ _).block ≠ _;rw [add_block];exact hn211_1) | exact hn211_1) (.int .i64 t208)).trans hx211_0
                                replace hx211_1 := (cell_far (p := ⟨gb210,1,none⟩) (by first | (rw [add_block];exact hn211_1) | (show (Addr.add _ _).block ≠ _;rw [add_block];exact hn211_1) | exact hn211_1) (.int .i64 t208)).trans hx211_1
                                clear hn211_0
                                clear hn211_1
                                replace p211 := eq_true p211
                                replace q211 := eq_true q211
                                try go_wp2
                                go_roundg k2
                                case measure => have := HK1.out;have := HK2.out;omega
                                case rel => exact ⟨(x5_2),(wrap64 (x10_2 + 1)),(by first | rfl | (simp;done) | (simp [*];done)),H',⟨by have := HK1.out;have := HK2.out;omega⟩,⟨by (with_reducible repeat (first | apply Kd.R_alloc | apply Kd.R_drewN | apply Kd.R_drew));exact Kd.R_mono (Kd.R_far (p := ⟨gb210,1,none⟩) (Kd.R_far (p := ⟨gb210,0,none⟩) (Kd.R_types HO_5.out BK210.out (by decide)) (fun _ hk => hk.2) (.int .i64 t207)) (fun _ hk => hk.2) (.int .i64 t208)) (fun _ hk => trivial)⟩,⟨by (with_reducible repeat (first | apply Kd.R_alloc | apply Kd.R_drewN | apply Kd.R_drew));exact Kd.R_mono (Kd.R_far (p := ⟨gb210,1,none⟩) (Kd.R_far (p := ⟨gb210,0,none⟩) (Kd.R_mono HO_8.out (fun k_ hk => (⟨hk,hk⟩ : _ ∧ k_ ≠ gb210))) (fun _ hk => hk.2) (.int .i64 t207)) (fun _ hk => hk.2) (.int .i64 t208)) (fun _ hk => trivial)⟩,⟨by repeat (first | (with_reducible first | exact HB.out | apply below_alloc | apply pw_below_drewN | apply below_drew1 | refine below_set ?_ GE210.out) | exact HB.out)⟩⟩
                            · replace c18 := Bool.eq_false_iff.mpr c18
                              subst c18
                              have H1 : (some ([] : List (S91))) = some r := by rw [if_neg (show ¬ (false = true) by decide)] at H;exact H
                              clear H
                              have H := H1
                              clear H1
                              obtain rfl := Option.some.inj H
                              obtain ⟨Ao48,co48,eo48⟩ := Kd.R_slice HO_8.out
                              subst eo48
                              try go_wp2
                              have n0_ := Aside0.mk (Kd.R_drew HO_5.out)
                              have n1_ := Aside0.mk (Kd.R_drew HO_8.out)
                              have n2_ := Aside0.mk (below_drew1 HB.out)
                              clear HO_5
                              clear HO_8
                              clear HB
                              have HO_5 := n0_
                              have HO_8 := n1_
                              have HB := n2_
                              clear n0_ n1_ n2_
                              have p205 : 0 ≤ ((ji12) : Int) := of_decide_eq_true (by first | (with_reducible assumption) | assumption)
                              have q205 : (ji12) < (t201.length : Int) := of_decide_eq_true (by first | (with_reducible assumption) | assumption)
                              obtain ⟨ad205,e205,hx205_0,hx205_1⟩ := at_T87 (Kd.R_reads' HO_8.out).2.2 (ji12) p205 q205
                              cases e205
                              replace p205 := eq_true p205
                              replace q205 := eq_true q205
                              have p206 : 0 ≤ (x10_2 : Int) := of_decide_eq_true (by first | (with_reducible assumption) | assumption)
                              have q206 : x10_2 < (t201.length : Int) := of_decide_eq_true (by first | (with_reducible assumption) | assumption)
                              obtain ⟨ad206,e206,hx206_0,hx206_1⟩ := at_T87 (Kd.R_reads' HO_8.out).2.2 x10_2 p206 q206
                              obtain rfl : ad205 = ad206 := (by injection e206)
                              replace p206 := eq_true p206
                              replace q206 := eq_true q206
                              refine start_ (n := 17) (S := fun w' => w'.cell? (ad205.add (((ji12)).toNat * 2)) = some (.int .i64 ((rd_T87 t201 (ji12)).f0)) ∧ w'.cell? ⟨(ad205.add (((ji12)).toNat * 2)).block,(ad205.add (((ji12)).toNat * 2)).off + 1,none⟩ = some (.int .i64 ((rd_T87 t201 (ji12)).f1)) ∧ w'.cell? (ad205.add ((x10_2).toNat * 2)) = some (.int .i64 ((rd_T87 t201 x10_2).f0)) ∧ w'.cell? ⟨(ad205.add ((x10_2).toNat * 2)).block,(ad205.add ((x10_2).toNat * 2)).off + 1,none⟩ = some (.int .i64 ((rd_T87 t201 x10_2).f1))) (ds := []) #[false,false,false,false,false,false,false,false,false,false,false,false,false,false,false,false,false] (by kernel_rfl) rfl rfl ⟨hx205_0,hx205_1,hx206_0,hx206_1⟩ (fun hHeld => ?_);refine with_tabW impl_CandsOf.tab11 impl_CandsOf.bits11 (fun HT_ HW_ => ?_)
                              generalize wr.drew = w49 at HO_5 HO_8 HB hx205_0 hx205_1 hx206_0 hx206_1 hHeld ⊢
                              refine pure_ (i := 0) (N := some 36) (v := ?_) (a' := ?_) #[true,false,false,false,false,false,false,false,false,false,false,false,false,false,false,false,false] rfl rfl (any_of HT_.out (by kernel_rfl)) (fun _ _ _ h => h) (Or.inl ⟨by rfl,?_⟩) ?_ ?_
                              rotate_left
                              · intro w'
                                go_simp
                                with_reducible rfl
                              rotate_left
                              · simp only [Act.put,List.setIfInBounds_toArray,List.set_cons_zero,List.set_cons_succ,i64_w,i32_w]
                                rfl
                              refine pure_ (i := 1) (N := some 37) (v := ?_) (a' := ?_) #[true,true,false,false,false,false,false,false,false,false,false,false,false,false,false,false,false] rfl rfl (any_of HT_.out (by kernel_rfl)) (fun _ _ _ h => h) (Or.inl ⟨by rfl,?_⟩) ?_ ?_
                              rotate_left
                              · intro w'
                                go_simp
                                with_reducible rfl
                              rotate_left
                              · simp only [Act.put,List.setIfInBounds_toArray,List.set_cons_zero,List.set_cons_succ,i64_w,i32_w]
                                rfl
                              refine pure_ (i := 2) (N := some 38) (v := ?_) (a' := ?_) #[true,true,true,false,false,false,false,false,false,false,false,false,false,false,false,false,false] rfl rfl (any_of HT_.out (by kernel_rfl)) (fun _ _ _ h => h) (Or.inl ⟨by rfl,?_⟩) ?_ ?_
                              rotate_left
                              · intro w'
                                go_simp
                                with_reducible rfl
                              rotate_left
                              · simp only [Act.put,List.setIfInBounds_toArray,List.set_cons_zero,List.set_cons_succ,i64_w,i32_w]
                                rfl
                              refine pure_ (i := 3) (N := some 39) (v := ?_) (a' := ?_) #[true,true,true,true,false,false,false,false,false,false,false,false,false,false,false,false,false] rfl rfl (any_of HT_.out (by kernel_rfl)) (fun _ _ _ h => h) (Or.inl ⟨by rfl,?_⟩) ?_ ?_
                              rotate_left
                              · intro w'
                                go_simp
                                with_reducible rfl
                              rotate_left
                              · simp only [Act.put,List.setIfInBounds_toArray,List.set_cons_zero,List.set_cons_succ,i64_w,i32_w]
                                rfl
                              refine pure_ (i := 4) (N := some 40) (v := ?_) (a' := ?_) #[true,true,true,true,true,false,false,false,false,false,false,false,false,false,false,false,false] rfl rfl (any_of HT_.out (by kernel_rfl)) (fun _ _ _ h => h) (Or.inl ⟨by rfl,?_⟩) ?_ ?_
                              rotate_left
                              · intro w'
                                go_simp
                                with_reducible rfl
                              rotate_left
                              · simp only [Act.put,List.setIfInBounds_toArray,List.set_cons_zero,List.set_cons_succ,i64_w,i32_w]
                                rfl
                              refine pure_ (i := 6) (N := some 42) (v := ?_) (a' := ?_) #[true,true,true,true,true,false,true,false,false,false,false,false,false,false,false,false,false] rfl rfl (any_of HT_.out (by kernel_rfl)) (fun _ _ _ h => h) (Or.inl ⟨by rfl,?_⟩) ?_ ?_
                              rotate_left
                              · intro w'
                                go_simp
                                with_reducible rfl
                              rotate_left
                              · simp only [Act.put,List.setIfInBounds_toArray,List.set_cons_zero,List.set_cons_succ,i64_w,i32_w]
                                rfl
                              refine pure_ (i := 7) (N := some 43) (v := ?_) (a' := ?_) #[true,true,true,true,true,false,true,true,false,false,false,false,false,false,false,false,false] rfl rfl (any_of HT_.out (by kernel_rfl)) (fun _ _ _ h => h) (Or.inl ⟨by rfl,?_⟩) ?_ ?_
                              rotate_left
                              · intro w'
                                go_simp
                                with_reducible rfl
                              rotate_left
                              · simp only [Act.put,List.setIfInBounds_toArray,List.set_cons_zero,List.set_cons_succ,i64_w,i32_w]
                                rfl
                              refine pure_ (i := 8) (N := some 44) (v := ?_) (a' := ?_) #[true,true,true,true,true,false,true,true,true,false,false,false,false,false,false,false,false] rfl rfl (any_of HT_.out (by kernel_rfl)) (fun _ _ _ h => h) (Or.inl ⟨by rfl,?_⟩) ?_ ?_
                              rotate_left
                              · intro w'
                                go_simp
                                with_reducible rfl
                              rotate_left
                              · simp only [Act.put,List.setIfInBounds_toArray,List.set_cons_zero,List.set_cons_succ,i64_w,i32_w]
                                rfl
                              refine take_ (i := 5) (N := some 41) (v := ?_) (a' := ?_) #[true,true,true,true,true,true,true,true,true,false,false,false,false,false,false,false,false] rfl rfl (take_ofW HT_.out HW_.out (by kernel_rfl)) (fun _ _ _ h => h) (Or.inl ⟨by rfl,?_⟩) hHeld ?_ ?_
                              rotate_left
                              · rintro w' ⟨s0,s1,s2,s3⟩
                                go_simp
                                with_reducible rfl
                              rotate_left
                              · simp only [Act.put,List.setIfInBounds_toArray,List.set_cons_zero,List.set_cons_succ,i64_w,i32_w]
                                rfl
                              refine take_ (i := 9) (N := some 45) (v := ?_) (a' := ?_) #[true,true,true,true,true,true,true,true,true,true,false,false,false,false,false,false,false] rfl rfl (take_ofW HT_.out HW_.out (by kernel_rfl)) (fun _ _ _ h => h) (Or.inl ⟨by rfl,?_⟩) hHeld ?_ ?_
                              rotate_left
                              · rintro w' ⟨s0,s1,s2,s3⟩
                                go_simp
                                with_reducible rfl
                              rotate_left
                              · simp only [Act.put,List.setIfInBounds_toArray,List.set_cons_zero,List.set_cons_succ,i64_w,i32_w]
                                rfl
                              refine join_ (σ := Nat) 2 #[true,true,true,true,true,true,true,true,true,true,true,true,true,true,true,false,false] (fun s_ => [(46,.tuple #[.agg #[.int .i64 t207,.int .i64 t208],.bool false]),(11,.pointer (some ⟨s_,0,none⟩)),(35,.tuple #[.agg #[.int .i64 t207,.int .i64 t208],.bool false]),(47,.agg #[.int .i64 t207,.int .i64 t208]),(48,.bool false)]) (fun s_ w' => (w'.cell? (ad205.add (((ji12)).toNat * 2)) = some (.int .i64 ((rd_T87 t201 (ji12)).f0)) ∧ w'.cell? ⟨(ad205.add (((ji12)).toNat * 2)).block,(ad205.add (((ji12)).toNat * 2)).off + 1,none⟩ = some (.int .i64 ((rd_T87 t201 (ji12)).f1)) ∧ w'.cell? (ad205.add ((x10_2).toNat * 2)) = some (.int .i64 ((rd_T87 t201 x10_2).f0)) ∧ w'.cell? ⟨(ad205.add ((x10_2).toNat * 2)).block,(ad205.add ((x10_2).toNat * 2)).off + 1,none⟩ = some (.int .i64 ((rd_T87 t201 x10_2).f1))) ∧ (Kd.R k91 91 w' w.heap.size (fun _ => True) u5 x5_2) ∧ (Kd.R k87 87 w' w.heap.size (fun k_ => k_ ≠ s_) (.slice (some ad205) t201.length co48) t201) ∧ (w'.heap[s_]? = some (.cells #[.int .i64 0,.int .i64 0] 87 (0,0))) ∧ (w.heap.size ≤ s_) ∧ (w.heap.size ≤ s_) ∧ (Below w.heap.size w w')) ?_ ?_
                              rotate_left
                              · intro hCont
                                refine two_ (i := 10) (j := 14) (Ni := some 46) (Nj := some 11) #[true,true,true,true,true,true,true,true,true,true,true,false,false,false,false,false,false] #[true,true,true,true,true,true,true,true,true,true,false,false,false,false,true,false,false] rfl rfl rfl rfl (two_of HT_.out (by kernel_rfl)) (by decide) (by decide) (fun K hK => ?_) (fun K hK => ?_)
                                · skip
                                  refine goes_ Try.func70 (by kernel_rfl) rfl #[.agg #[.int .i64 ((rd_T87 t201 (ji12)).f0),.int .i64 ((rd_T87 t201 (ji12)).f1)],.agg #[.int .i64 ((rd_T87 t201 x10_2).f0),.int .i64 ((rd_T87 t201 x10_2).f1)]] (by rfl) rfl rfl (by (try simp only [List.map_toArray,List.map_cons,List.map_nil]);first | done | (simp only [hji12];rfl) | rfl | (simp only [List.length_drop,List.length_take];rfl)) ?_
                                  with_reducible refine (impl_Slot_minus.calls ((rd_T87 t201 (ji12)).f0) ((rd_T87 t201 (ji12)).f1) ((rd_T87 t201 x10_2).f0) ((rd_T87 t201 x10_2).f1) t207 t208 false _ A17.out).mono ?_
                                  rintro e w50 ⟨rfl,hb⟩
                                  have HS0_ := (hb.cell (World.block_lt_of_cell? _ _ (hHeld.1))).trans (hHeld.1)
                                  have HS1_ := (hb.cell (World.block_lt_of_cell? _ _ (hHeld.2.1))).trans (hHeld.2.1)
                                  have HS2_ := (hb.cell (World.block_lt_of_cell? _ _ (hHeld.2.2.1))).trans (hHeld.2.2.1)
                                  have HS3_ := (hb.cell (World.block_lt_of_cell? _ _ (hHeld.2.2.2))).trans (hHeld.2.2.2)
                                  refine ⟨_,rfl,?_⟩
                                  have n0_ := Aside0.mk (Kd.R_below (by (with_reducible repeat (first | apply Kd.R_alloc | apply Kd.R_drewN | apply Kd.R_drew));exact HO_5.out) hb)
                                  have n1_ := Aside0.mk (Kd.R_below (by (with_reducible repeat (first | apply Kd.R_alloc | apply Kd.R_drewN | apply Kd.R_drew));exact HO_8.out) hb)
                                  have n2_ := Aside0.mk (below_step (by repeat (first | (with_reducible first | exact HB.out | apply below_alloc | apply pw_below_drewN | apply below_drew1) | exact HB.out)) hb)
                                  clear HO_5
                                  clear HO_8
                                  clear HB
                                  have HO_5 := n0_
                                  have HO_8 := n1_
                                  have HB := n2_
                                  clear n0_ n1_ n2_
                                  (try clear hb)
                                  (try clear hb2)
                                  (try clear hk)
                                  (try clear hi)
                                  refine hK.out _ _ ⟨HS0_,HS1_,HS2_,HS3_⟩ (fun hHeld => ?_)
                                  clear hK K
                                  refine norm_ (a' := ?_) ?_ ?_
                                  rotate_left
                                  · show Act.put _ (some 46) _ = _
                                    simp only [Act.put,List.setIfInBounds_toArray,List.set_cons_zero,List.set_cons_succ,i64_w,i32_w]
                                    rfl
                                  refine pure_ (i := 11) (N := some 35) (v := ?_) (a' := ?_) #[true,true,true,true,true,true,true,true,true,true,true,true,false,false,false,false,false] rfl rfl (any_of HT_.out (by kernel_rfl)) (fun _ _ _ h => h) (Or.inl ⟨by rfl,?_⟩) ?_ ?_
                                  rotate_left
                                  · intro w'
                                    go_simp
                                    with_reducible rfl
                                  rotate_left
                                  · simp only [Act.put,List.setIfInBounds_toArray,List.set_cons_zero,List.set_cons_succ,i64_w,i32_w]
                                    rfl
                                  refine pure_ (i := 12) (N := some 47) (v := ?_) (a' := ?_) #[true,true,true,true,true,true,true,true,true,true,true,true,true,false,false,false,false] rfl rfl (any_of HT_.out (by kernel_rfl)) (fun _ _ _ h => h) (Or.inl ⟨by rfl,?_⟩) ?_ ?_
                                  rotate_left
                                  · intro w'
                                    go_simp
                                    with_reducible rfl
                                  rotate_left
                                  · simp only [Act.put,List.setIfInBounds_toArray,List.set_cons_zero,List.set_cons_succ,i64_w,i32_w]
                                    rfl
                                  refine pure_ (i := 13) (N := some 48) (v := ?_) (a' := ?_) #[true,true,true,true,true,true,true,true,true,true,true,true,true,true,false,false,false] rfl rfl (any_of HT_.out (by kernel_rfl)) (fun _ _ _ h => h) (Or.inl ⟨by rfl,?_⟩) ?_ ?_
                                  rotate_left
                                  · intro w'
                                    go_simp
                                    with_reducible rfl
                                  rotate_left
                                  · simp only [Act.put,List.setIfInBounds_toArray,List.set_cons_zero,List.set_cons_succ,i64_w,i32_w]
                                    rfl
                                  refine one_ (i := 14) (N := some 11) #[true,true,true,true,true,true,true,true,true,true,true,true,true,true,true,false,false] rfl rfl (one_of HT_.out (by kernel_rfl)) (by decide) (fun K hK => ?_)
                                  refine box_step ?hg (N := 11) ?hd (cs := #[.int .i64 0,.int .i64 0]) (t := 87) ?hr ?_;(case hd => rfl);(case hg => rfl);(case hr => first | (go_simp;done) | (go_simp;rfl))
                                  intro gb210 hg w51 hbox hb
                                  have HS0_ := (hb.cell (World.block_lt_of_cell? _ _ (hHeld.1))).trans (hHeld.1)
                                  have HS1_ := (hb.cell (World.block_lt_of_cell? _ _ (hHeld.2.1))).trans (hHeld.2.1)
                                  have HS2_ := (hb.cell (World.block_lt_of_cell? _ _ (hHeld.2.2.1))).trans (hHeld.2.2.1)
                                  have HS3_ := (hb.cell (World.block_lt_of_cell? _ _ (hHeld.2.2.2))).trans (hHeld.2.2.2)
                                  have n0_ := Aside0.mk (Kd.R_below (by (with_reducible repeat (first | apply Kd.R_alloc | apply Kd.R_drewN | apply Kd.R_drew));exact HO_5.out) hb)
                                  have n1_ := Aside0.mk (Kd.R_below (Kd.R_elderB (by (with_reducible repeat (first | apply Kd.R_alloc | apply Kd.R_drewN | apply Kd.R_drew));exact HO_8.out) gb210 (Nat.le_of_eq hg.symm)) hb)
                                  have n2_ := Aside0.mk (below_step (by repeat (first | (with_reducible first | exact HB.out | apply below_alloc | apply pw_below_drewN | apply below_drew1) | exact HB.out)) hb)
                                  have n3_ := Aside0.mk (hbox)
                                  have n4_ := Aside0.mk ((by rw [hg];exact (below_size (by repeat (first | (with_reducible first | exact HB.out | apply below_alloc | apply pw_below_drewN | apply below_drew1) | exact HB.out))) : w.heap.size ≤ gb210))
                                  have n5_ := Aside0.mk ((by rw [hg];exact (below_size (by repeat (first | (with_reducible first | exact HB.out | apply below_alloc | apply pw_below_drewN | apply below_drew1) | exact HB.out))) : w.heap.size ≤ gb210))
                                  clear HO_5
                                  clear HO_8
                                  clear HB
                                  have HO_5 := n0_
                                  have HO_8 := n1_
                                  have HB := n2_
                                  have BK210 := n3_
                                  have GW210 := n4_
                                  have GE210 := n5_
                                  clear n0_ n1_ n2_ n3_ n4_ n5_
                                  clear hb hbox hg
                                  refine hK.out _ _ ⟨HS0_,HS1_,HS2_,HS3_⟩ (fun hHeld => ?_)
                                  clear hK K
                                  refine norm_ (a' := ?_) ?_ ?_
                                  rotate_left
                                  · show Act.put _ (some 11) _ = _
                                    simp only [Act.put,List.setIfInBounds_toArray,List.set_cons_zero,List.set_cons_succ,i64_w,i32_w]
                                    rfl
                                  exact norm_ (by simp only [putAll,Act.put,List.setIfInBounds_toArray,List.set_cons_zero,List.set_cons_succ]) (hCont (gb210) _ ⟨hHeld,(by (with_reducible repeat (first | apply Kd.R_alloc | apply Kd.R_drewN | apply Kd.R_drew));exact HO_5.out),(by (with_reducible repeat (first | apply Kd.R_alloc | apply Kd.R_drewN | apply Kd.R_drew));exact Kd.R_mono HO_8.out (fun _ hk => hk.2)),(by refine bP ?_;exact BK210.out),GW210.out,GE210.out,(by repeat (first | (with_reducible first | exact HB.out | apply below_alloc | apply pw_below_drewN | apply below_drew1 | refine below_set ?_ GE210.out) | exact HB.out))⟩)
                                · skip
                                  refine box_step ?hg (N := 11) ?hd (cs := #[.int .i64 0,.int .i64 0]) (t := 87) ?hr ?_;(case hd => rfl);(case hg => rfl);(case hr => first | (go_simp;done) | (go_simp;rfl))
                                  intro gb210 hg w50 hbox hb
                                  have HS0_ := (hb.cell (World.block_lt_of_cell? _ _ (hHeld.1))).trans (hHeld.1)
                                  have HS1_ := (hb.cell (World.block_lt_of_cell? _ _ (hHeld.2.1))).trans (hHeld.2.1)
                                  have HS2_ := (hb.cell (World.block_lt_of_cell? _ _ (hHeld.2.2.1))).trans (hHeld.2.2.1)
                                  have HS3_ := (hb.cell (World.block_lt_of_cell? _ _ (hHeld.2.2.2))).trans (hHeld.2.2.2)
                                  have n0_ := Aside0.mk (Kd.R_below (by (with_reducible repeat (first | apply Kd.R_alloc | apply Kd.R_drewN | apply Kd.R_drew));exact HO_5.out) hb)
                                  have n1_ := Aside0.mk (Kd.R_below (Kd.R_elderB (by (with_reducible repeat (first | apply Kd.R_alloc | apply Kd.R_drewN | apply Kd.R_drew));exact HO_8.out) gb210 (Nat.le_of_eq hg.symm)) hb)
                                  have n2_ := Aside0.mk (below_step (by repeat (first | (with_reducible first | exact HB.out | apply below_alloc | apply pw_below_drewN | apply below_drew1) | exact HB.out)) hb)
                                  have n3_ := Aside0.mk (hbox)
                                  have n4_ := Aside0.mk ((by rw [hg];exact (below_size (by repeat (first | (with_reducible first | exact HB.out | apply below_alloc | apply pw_below_drewN | apply below_drew1) | exact HB.out))) : w.heap.size ≤ gb210))
                                  have n5_ := Aside0.mk ((by rw [hg];exact (below_size (by repeat (first | (with_reducible first | exact HB.out | apply below_alloc | apply pw_below_drewN | apply below_drew1) | exact HB.out))) : w.heap.size ≤ gb210))
                                  clear HO_5
                                  clear HO_8
                                  clear HB
                                  have HO_5 := n0_
                                  have HO_8 := n1_
                                  have HB := n2_
                                  have BK210 := n3_
                                  have GW210 := n4_
                                  have GE210 := n5_
                                  clear n0_ n1_ n2_ n3_ n4_ n5_
                                  clear hb hbox hg
                                  refine hK.out _ _ ⟨HS0_,HS1_,HS2_,HS3_⟩ (fun hHeld => ?_)
                                  clear hK K
                                  refine norm_ (a' := ?_) ?_ ?_
                                  rotate_left
                                  · show Act.put _ (some 11) _ = _
                                    simp only [Act.put,List.setIfInBounds_toArray,List.set_cons_zero,List.set_cons_succ,i64_w,i32_w]
                                    rfl
                                  refine one_ (i := 10) (N := some 46) #[true,true,true,true,true,true,true,true,true,true,true,false,false,false,true,false,false] rfl rfl (one_of HT_.out (by kernel_rfl)) (by decide) (fun K hK => ?_)
                                  refine goes_ Try.func70 (by kernel_rfl) rfl #[.agg #[.int .i64 ((rd_T87 t201 (ji12)).f0),.int .i64 ((rd_T87 t201 (ji12)).f1)],.agg #[.int .i64 ((rd_T87 t201 x10_2).f0),.int .i64 ((rd_T87 t201 x10_2).f1)]] (by rfl) rfl rfl (by (try simp only [List.map_toArray,List.map_cons,List.map_nil]);first | done | (simp only [hji12];rfl) | rfl | (simp only [List.length_drop,List.length_take];rfl)) ?_
                                  with_reducible refine (impl_Slot_minus.calls ((rd_T87 t201 (ji12)).f0) ((rd_T87 t201 (ji12)).f1) ((rd_T87 t201 x10_2).f0) ((rd_T87 t201 x10_2).f1) t207 t208 false _ A17.out).mono ?_
                                  rintro e w51 ⟨rfl,hb⟩
                                  have HS0_ := (hb.cell (World.block_lt_of_cell? _ _ (hHeld.1))).trans (hHeld.1)
                                  have HS1_ := (hb.cell (World.block_lt_of_cell? _ _ (hHeld.2.1))).trans (hHeld.2.1)
                                  have HS2_ := (hb.cell (World.block_lt_of_cell? _ _ (hHeld.2.2.1))).trans (hHeld.2.2.1)
                                  have HS3_ := (hb.cell (World.block_lt_of_cell? _ _ (hHeld.2.2.2))).trans (hHeld.2.2.2)
                                  refine ⟨_,rfl,?_⟩
                                  have n0_ := Aside0.mk (Kd.R_below (by (with_reducible repeat (first | apply Kd.R_alloc | apply Kd.R_drewN | apply Kd.R_drew));exact HO_5.out) hb)
                                  have n1_ := Aside0.mk (Kd.R_below (by (with_reducible repeat (first | apply Kd.R_alloc | apply Kd.R_drewN | apply Kd.R_drew));exact HO_8.out) hb)
                                  have n2_ := Aside0.mk (blk_below (g := gb210) (o := .cells #[.int .i64 0,.int .i64 0] 87 (0,0)) (by refine bP ?_;exact BK210.out) hb)
                                  have n3_ := Aside0.mk (below_step (by repeat (first | (with_reducible first | exact HB.out | apply below_alloc | apply pw_below_drewN | apply below_drew1 | refine below_set ?_ GE210.out) | exact HB.out)) hb)
                                  clear HO_5
                                  clear HO_8
                                  clear BK210
                                  clear HB
                                  have HO_5 := n0_
                                  have HO_8 := n1_
                                  have BK210 := n2_
                                  have HB := n3_
                                  clear n0_ n1_ n2_ n3_
                                  (try clear hb)
                                  (try clear hb2)
                                  (try clear hk)
                                  (try clear hi)
                                  refine hK.out _ _ ⟨HS0_,HS1_,HS2_,HS3_⟩ (fun hHeld => ?_)
                                  clear hK K
                                  refine norm_ (a' := ?_) ?_ ?_
                                  rotate_left
                                  · show Act.put _ (some 46) _ = _
                                    simp only [Act.put,List.setIfInBounds_toArray,List.set_cons_zero,List.set_cons_succ,i64_w,i32_w]
                                    rfl
                                  refine pure_ (i := 11) (N := some 35) (v := ?_) (a' := ?_) #[true,true,true,true,true,true,true,true,true,true,true,true,false,false,true,false,false] rfl rfl (any_of HT_.out (by kernel_rfl)) (fun _ _ _ h => h) (Or.inl ⟨by rfl,?_⟩) ?_ ?_
                                  rotate_left
                                  · intro w'
                                    go_simp
                                    with_reducible rfl
                                  rotate_left
                                  · simp only [Act.put,List.setIfInBounds_toArray,List.set_cons_zero,List.set_cons_succ,i64_w,i32_w]
                                    rfl
                                  refine pure_ (i := 12) (N := some 47) (v := ?_) (a' := ?_) #[true,true,true,true,true,true,true,true,true,true,true,true,true,false,true,false,false] rfl rfl (any_of HT_.out (by kernel_rfl)) (fun _ _ _ h => h) (Or.inl ⟨by rfl,?_⟩) ?_ ?_
                                  rotate_left
                                  · intro w'
                                    go_simp
                                    with_reducible rfl
                                  rotate_left
                                  · simp only [Act.put,List.setIfInBounds_toArray,List.set_cons_zero,List.set_cons_succ,i64_w,i32_w]
                                    rfl
                                  refine pure_ (i := 13) (N := some 48) (v := ?_) (a' := ?_) #[true,true,true,true,true,true,true,true,true,true,true,true,true,true,true,false,false] rfl rfl (any_of HT_.out (by kernel_rfl)) (fun _ _ _ h => h) (Or.inl ⟨by rfl,?_⟩) ?_ ?_
                                  rotate_left
                                  · intro w'
                                    go_simp
                                    with_reducible rfl
                                  rotate_left
                                  · simp only [Act.put,List.setIfInBounds_toArray,List.set_cons_zero,List.set_cons_succ,i64_w,i32_w]
                                    rfl
                                  exact norm_ (by simp only [putAll,Act.put,List.setIfInBounds_toArray,List.set_cons_zero,List.set_cons_succ]) (hCont (gb210) _ ⟨hHeld,(by (with_reducible repeat (first | apply Kd.R_alloc | apply Kd.R_drewN | apply Kd.R_drew));exact HO_5.out),(by (with_reducible repeat (first | apply Kd.R_alloc | apply Kd.R_drewN | apply Kd.R_drew));exact Kd.R_mono HO_8.out (fun _ hk => hk.2)),(by refine bP ?_;exact BK210.out),GW210.out,GE210.out,(by repeat (first | (with_reducible first | exact HB.out | apply below_alloc | apply pw_below_drewN | apply below_drew1 | refine below_set ?_ GE210.out) | exact HB.out))⟩)
                              rintro gb210 w52 ⟨hS_,h0_,h1_,h2_,h3_,h4_,h5_⟩
                              have n0_ : Aside0 (Kd.R k91 91 w52 w.heap.size (fun _ => True) u5 x5_2) := ⟨h0_⟩
                              have n1_ : Aside0 (Kd.R k87 87 w52 w.heap.size (fun k_ => k_ ≠ gb210) (.slice (some ad205) t201.length co48) t201) := ⟨h1_⟩
                              have n2_ : Aside0 (w52.heap[gb210]? = some (.cells #[.int .i64 0,.int .i64 0] 87 (0,0))) := ⟨h2_⟩
                              have n3_ : Aside0 (w.heap.size ≤ gb210) := ⟨h3_⟩
                              have n4_ : Aside0 (w.heap.size ≤ gb210) := ⟨h4_⟩
                              have n5_ : Aside0 (Below w.heap.size w w52) := ⟨h5_⟩
                              clear HO_5
                              clear HO_8
                              clear HB
                              clear h0_ h1_ h2_ h3_ h4_ h5_
                              have HO_5 := n0_
                              have HO_8 := n1_
                              have BK210 := n2_
                              have GW210 := n3_
                              have GE210 := n4_
                              have HB := n5_
                              clear n0_ n1_ n2_ n3_ n4_ n5_
                              have hHeld : w52.cell? (ad205.add (((ji12)).toNat * 2)) = some (.int .i64 ((rd_T87 t201 (ji12)).f0)) ∧ w52.cell? ⟨(ad205.add (((ji12)).toNat * 2)).block,(ad205.add (((ji12)).toNat * 2)).off + 1,none⟩ = some (.int .i64 ((rd_T87 t201 (ji12)).f1)) ∧ w52.cell? (ad205.add ((x10_2).toNat * 2)) = some (.int .i64 ((rd_T87 t201 x10_2).f0)) ∧ w52.cell? ⟨(ad205.add ((x10_2).toNat * 2)).block,(ad205.add ((x10_2).toNat * 2)).off + 1,none⟩ = some (.int .i64 ((rd_T87 t201 x10_2).f1)) := hS_
                              refine norm_ (a' := ?_) ?_ ?_
                              rotate_left
                              · simp only [putAll,Act.put,List.setIfInBounds_toArray,List.set_cons_zero,List.set_cons_succ]
                                rfl
                              refine one_ (i := 15) (N := none) #[true,true,true,true,true,true,true,true,true,true,true,true,true,true,true,true,false] rfl rfl (one_of HT_.out (by kernel_rfl)) (by decide) (fun K hK => ?_)
                              have hs53 : w52.cell? ⟨gb210,0,none⟩ = some (.int .i64 0) := (blk_cell BK210.out 0).trans rfl
                              have hfs53 := blk_frozen BK210.out 0
                              have hs54 : w52.cell? ⟨gb210,1,none⟩ = some (.int .i64 0) := (blk_cell BK210.out 1).trans rfl
                              have hfs54 := blk_frozen BK210.out 1
                              refine skip_ (w1 := ?_) (by rfl) rfl ?_ ?_
                              rotate_left
                              · go_simp
                                rfl
                              refine hK.out _ _ ⟨((cell_far (p := ⟨gb210,_,none⟩) (by first | exact Kd.own_blk (Kd.R_away HO_8.out (fun _ hk => hk)) | (rw [add_block];exact Kd.own_blk (Kd.R_away HO_8.out (fun _ hk => hk))) | (show (Addr.add _ _).block ≠ _;rw [add_block];exact Kd.own_blk (Kd.R_away HO_8.out (fun _ hk => hk))) | (dsimp only;exact Kd.own_blk (Kd.R_away HO_8.out (fun _ hk => hk)))) _).trans (((cell_far (p := ⟨gb210,_,none⟩) (by first | exact Kd.own_blk (Kd.R_away HO_8.out (fun _ hk => hk)) | (rw [add_block];exact Kd.own_blk (Kd.R_away HO_8.out (fun _ hk => hk))) | (show (Addr.add _ _).block ≠ _;rw [add_block];exact Kd.own_blk (Kd.R_away HO_8.out (fun _ hk => hk))) | (dsimp only;exact Kd.own_blk (Kd.R_away HO_8.out (fun _ hk => hk)))) _).trans (hHeld.1)))),((cell_far (p := ⟨gb210,_,none⟩) (by first | exact Kd.own_blk (Kd.R_away HO_8.out (fun _ hk => hk)) | (rw [add_block];exact Kd.own_blk (Kd.R_away HO_8.out (fun _ hk => hk))) | (show (Addr.add _ _).block ≠ _;rw [add_block];exact Kd.own_blk (Kd.R_away HO_8.out (fun _ hk => hk))) | (dsimp only;exact Kd.own_blk (Kd.R_away HO_8.out (fun _ hk => hk)))) _).trans (((cell_far (p := ⟨gb210,_,none⟩) (by first | exact Kd.own_blk (Kd.R_away HO_8.out (fun _ hk => hk)) | (rw [add_block];exact Kd.own_blk (Kd.R_away HO_8.out (fun _ hk => hk))) | (show (Addr.add _ _).block ≠ _;rw [add_block];exact Kd.own_blk (Kd.R_away HO_8.out (fun _ hk => hk))) | (dsimp only;exact Kd.own_blk (Kd.R_away HO_8.out (fun _ hk => hk)))) _).trans (hHeld.2.1)))),((cell_far (p := ⟨gb210,_,none⟩) (by first | exact Kd.own_blk (Kd.R_away HO_8.out (fun _ hk => hk)) | (rw [add_block];exact Kd.own_blk (Kd.R_away HO_8.out (fun _ hk => hk))) | (show (Addr.add _ _).block ≠ _;rw [add_block];exact Kd.own_blk (Kd.R_away HO_8.out (fun _ hk => hk))) | (dsimp only;exact Kd.own_blk (Kd.R_away HO_8.out (fun _ hk => hk)))) _).trans (((cell_far (p := ⟨gb210,_,none⟩) (by first | exact Kd.own_blk (Kd.R_away HO_8.out (fun _ hk => hk)) | (rw [add_block];exact Kd.own_blk (Kd.R_away HO_8.out (fun _ hk => hk))) | (show (Addr.add _ _).block ≠ _;rw [add_block];exact Kd.own_blk (Kd.R_away HO_8.out (fun _ hk => hk))) | (dsimp only;exact Kd.own_blk (Kd.R_away HO_8.out (fun _ hk => hk)))) _).trans (hHeld.2.2.1)))),((cell_far (p := ⟨gb210,_,none⟩) (by first | exact Kd.own_blk (Kd.R_away HO_8.out (fun _ hk => hk)) | (rw [add_block];exact Kd.own_blk (Kd.R_away HO_8.out (fun _ hk => hk))) | (show (Addr.add _ _).block ≠ _;rw [add_block];exact Kd.own_blk (Kd.R_away HO_8.out (fun _ hk => hk))) | (dsimp only;exact Kd.own_blk (Kd.R_away HO_8.out (fun _ hk => hk)))) _).trans (((cell_far (p := ⟨gb210,_,none⟩) (by first | exact Kd.own_blk (Kd.R_away HO_8.out (fun _ hk => hk)) | (rw [add_block];exact Kd.own_blk (Kd.R_away HO_8.out (fun _ hk => hk))) | (show (Addr.add _ _).block ≠ _;rw [add_block];exact Kd.own_blk (Kd.R_away HO_8.out (fun _ hk => hk))) | (dsimp only;exact Kd.own_blk (Kd.R_away HO_8.out (fun _ hk => hk)))) _).trans (hHeld.2.2.2))))⟩ (fun hHeld => ?_)
                              clear hK K
                              refine pure_ (i := 16) (N := some 12) (v := ?_) (a' := ?_) #[true,true,true,true,true,true,true,true,true,true,true,true,true,true,true,true,true] rfl rfl (any_of HT_.out (by kernel_rfl)) (fun _ _ _ h => h) (Or.inl ⟨by rfl,?_⟩) ?_ ?_
                              rotate_left
                              · intro w'
                                go_simp
                                with_reducible rfl
                              rotate_left
                              · simp only [Act.put,List.setIfInBounds_toArray,List.set_cons_zero,List.set_cons_succ,i64_w,i32_w]
                                rfl
                              refine done_ (done_of HT_.out (by kernel_rfl)) ?_
                              try go_wp2
                              go_ret
                              exact ⟨_,by first | rfl | (simp [errW_none,errW_some] <;> rfl) | (simp only [← hji12];first | rfl | (simp [errW_none,errW_some] <;> rfl)) | (simp [*,errW_none,errW_some] <;> rfl),by first | exact Kd.R_nil _ _ _ _ _ | exact Kd.N_nil _ _ _ _ _ | exact Kd.V_nil _ _ _ _ _ | exact Kd.Q_nil _ _ _ _ _ | exact Kd.S_nil _ _ _ _ _,by repeat (first | (with_reducible first | exact HB.out | apply below_alloc | apply pw_below_drewN | apply below_drew1 | refine below_set ?_ GE210.out) | exact HB.out)⟩
                          · rw [if_neg c16] at H
                            exact absurd H (by simp)
                        · rw [if_neg c15] at H
                          exact absurd H (by simp)
                      · rw [if_neg c14] at H
                        exact absurd H (by simp)
                    · rw [if_neg c13] at H
                      exact absurd H (by simp)
                  · rw [if_neg c11] at H
                    have c11b0 : decide (x10_2 < (wrap64 ((t201.length : Int) - 1))) = false := decide_eq_false c11
                    clear c11
                    have H' := Aside0.mk H
                    clear H
                    obtain ⟨Ao55,co55,eo55⟩ := Kd.R_slice HO_8.out
                    subst eo55
                    go_wp2
                    go_roundg k2
                    case measure => have := HK1.out;have := HK2.out;omega
                    case rel => exact ⟨(x5_2),(wrap64 (x16_1 + 1)),(by first | rfl | (simp;done) | (simp [*];done)),H',⟨by have := HK1.out;have := HK2.out;omega⟩,⟨by (with_reducible repeat (first | apply Kd.R_alloc | apply Kd.R_drewN | apply Kd.R_drew));exact HO_5.out⟩,⟨by repeat (first | (with_reducible first | exact HB.out | apply below_alloc | apply pw_below_drewN | apply below_drew1) | exact HB.out)⟩⟩
            · replace c9 := Bool.eq_false_iff.mpr c9
              subst c9
              have H1 : (some ([] : List (S91))) = some r := by rw [if_neg (show ¬ (false = true) by decide)] at H;exact H
              clear H
              have H := H1
              clear H1
              obtain rfl := Option.some.inj H
              have p200 : 0 ≤ (x16_1 : Int) := of_decide_eq_true (by first | (with_reducible assumption) | assumption)
              have q200 : x16_1 < (l0.length : Int) := of_decide_eq_true (by first | (with_reducible assumption) | assumption)
              obtain ⟨ad200,A200_0,c200_0,e200,hx200_0,hl200_0,hi200_0⟩ := at_L4 HR0.out x16_1 p200 q200
              cases e200
              replace hx200_0 := (HB.out.cell (World.block_lt_of_cell? w _ hx200_0)).trans hx200_0
              have HR200_0 := Aside0.mk hi200_0
              have HC200_0 := Aside0.mk hl200_0
              clear hi200_0 hl200_0
              replace p200 := eq_true p200
              replace q200 := eq_true q200
              go_wp2_with (first | ((with_reducible refine gate_callee (f := 69) rfl ?_);refine goesL_ (some 23) rfl rfl Try.func69 (by kernel_rfl) rfl #[.slice A200_0 (rd_L4 l0 x16_1).length c200_0] rfl (by (try simp only [List.map_toArray,List.map_cons,List.map_nil]);first | done | rfl | (simp only [List.length_drop,List.length_take];rfl)) ?_;(with_reducible refine (impl_Prefix.calls k1 _ _ (rd_L4 l0 x16_1) t201 false _ ?side1 ?side2 A8.out).mono ?_);(case side1 => repeat (first | exact (Kd.C_below HR200_0.out HB.out) | (with_reducible refine Kd.C_alloc ?_ _) | (with_reducible refine Kd.C_drewN ?_ _) | (with_reducible refine Kd.C_drew ?_)));(case side2 => exact HC200_0.out);rintro e w56 ⟨v203,rfl,ho0,hb⟩;refine ⟨_,rfl,?_⟩;have n0_ := Aside0.mk (Kd.R_below (by (with_reducible repeat (first | apply Kd.R_alloc | apply Kd.R_drewN | apply Kd.R_drew));exact HO_5.out) hb);have n1_ := Aside0.mk (Kd.R_lower ho0 (below_size (by repeat (first | (with_reducible first | exact HB.out | apply below_alloc | apply pw_below_drewN | apply below_drew1) | exact HB.out))));have n2_ := Aside0.mk (below_step (by repeat (first | (with_reducible first | exact HB.out | apply below_alloc | apply pw_below_drewN | apply below_drew1) | exact HB.out)) hb);clear HO_5;clear HB;have HO_5 := n0_;have HO204 := n1_;have HB := n2_;clear n0_ n1_ n2_;(try clear hb);(try clear hb2);(try clear hk);(try clear hi);(try clear ho0)))
              go_ret
              exact ⟨_,by first | rfl | (simp [errW_none,errW_some] <;> rfl) | (simp [*,errW_none,errW_some] <;> rfl),by first | exact Kd.R_nil _ _ _ _ _ | exact Kd.N_nil _ _ _ _ _ | exact Kd.V_nil _ _ _ _ _ | exact Kd.Q_nil _ _ _ _ _ | exact Kd.S_nil _ _ _ _ _,by repeat (first | (with_reducible first | exact HB.out | apply below_alloc | apply pw_below_drewN | apply below_drew1) | exact HB.out)⟩
          · rw [if_neg c7] at H
            exact absurd H (by simp)
        · rw [if_neg c6] at H
          exact absurd H (by simp)
      · rw [if_neg c5] at H
        have c5b0 : decide (x16_1 < (l0.length : Int)) = false := decide_eq_false c5
        clear c5
        obtain rfl := Option.some.inj H
        go_wp2
        go_ret
        exact ⟨_,by first | rfl | (simp [errW_none,errW_some] <;> rfl) | (simp [*,errW_none,errW_some] <;> rfl),by (with_reducible repeat (first | apply Kd.R_alloc | apply Kd.R_drewN | apply Kd.R_drew));exact HO_5.out,by repeat (first | (with_reducible first | exact HB.out | apply below_alloc | apply pw_below_drewN | apply below_drew1) | exact HB.out)⟩

end Go.Proofs.Ytiacoiiapmfaeaa.QFnExactCandsOf
