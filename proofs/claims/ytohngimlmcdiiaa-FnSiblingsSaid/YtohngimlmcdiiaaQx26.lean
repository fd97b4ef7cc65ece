/- The machine side of this seat's laws: what each Go function that they reach comes to. Conditions: none. -/
import Derived.Test.YtohngimlmcdiiaaQx0
import Derived.Test.YtohngimlmcdiiaaQx3
import Derived.Test.YtohngimlmcdiiaaQx6
namespace Go.Proofs.Ytohngimlmcdiiaa.Q
open Go.RowKit Go.Proofs.YtohngimlmcdiiaaW.PrintWords Go.Proofs.YtohngimlmcdiiaaW.PrintLast Go.Proofs.YtohngimlmcdiiaaW.PrintMore
attribute [local go_sem] max2_int min2_int max_two min_two max_three min_three max_four min_four   -- for this text's walks alone
set_option linter.unusedVariables false
set_option linter.unusedSimpArgs false

/-! ### impl_HistOf: function 36 -/
mutual
def impl_HistOf.l0 : Nat → List Int → List Int → Int → List (S41) → List Int → Int → Int → Option ((List (S41)) × Bool)
 | 0,_,_,_,_,_,_,_ => none
 | k + 1,x0,x1,x3,x10,x20,x21,x22 => if x22 < x21 then (if 0 ≤ x22 then (if x22 < (x20.length : Int) then ((impl_within.f (rd x20 x22) 0 (wrap64 ((mn (x0.length : Int) (x1.length : Int)) - 1))).bind fun t456 => (if t456 = true then (if 0 ≤ (rd x20 x22) then (if (rd x20 x22) < (x0.length : Int) then ((impl_within.f (rd x0 (rd x20 x22)) 0 (wrap64 (x3 - 1))).bind fun t458 => (impl_HistOf.j1 k x0 x1 x3 x10 (rd x20 x22) x20 x21 x22 (!t458))) else (none)) else (none)) else (impl_HistOf.j1 k x0 x1 x3 x10 (rd x20 x22) x20 x21 x22 true))) else (none)) else (none)) else (some (x10,true))
def impl_HistOf.j1 : Nat → List Int → List Int → Int → List (S41) → Int → List Int → Int → Int → Bool → Option ((List (S41)) × Bool)
 | 0,_,_,_,_,_,_,_,_,_ => none
 | k + 1,x0,x1,x3,x10,x12,x20,x21,x22,x44 => if x44 = true then (some (([] : List (S41)),false)) else (if 0 ≤ x12 then (if x12 < (x0.length : Int) then (if 0 ≤ (rd x0 x12) then (if (rd x0 x12) < (x10.length : Int) then (if x12 < (x1.length : Int) then ((impl_Slot_plus.f ((rd_T41 x10 (rd x0 x12)).f0) ((rd_T41 x10 (rd x0 x12)).f1) 1 (rd x1 x12)).bind fun bt462 => (if bt462.2.2 = true then (impl_HistOf.l0 k x0 x1 x3 (x10.set ((rd x0 x12) : Int).toNat (⟨bt462.1,bt462.2.1⟩ : S41)) x20 x21 (wrap64 (x22 + 1))) else (some (([] : List (S41)),false)))) else (none)) else (none)) else (none)) else (none)) else (none))
end
def impl_HistOf.f (k : Nat) (l0 : List Int) (l1 : List Int) (l2 : List Int) (a3 : Int) : Option ((List (S41)) × Bool) := (impl_within.f a3 1 8).bind fun t451 => (if t451 = true then (if 0 ≤ a3 then (if (a3 : Int).toNat ≤ 17592186044416 then (impl_HistOf.l0 k l0 l1 a3 (List.replicate (a3 : Int).toNat z41) l2 (l2.length : Int) 0) else (none)) else (none)) else (some (([] : List (S41)),false)))
theorem impl_HistOf.mono_l : ∀ k,(∀ y0 y1 y2 y3 y4 y5 y6,LeO (impl_HistOf.l0 k y0 y1 y2 y3 y4 y5 y6) (impl_HistOf.l0 (k + 1) y0 y1 y2 y3 y4 y5 y6)) ∧ (∀ y0 y1 y2 y3 y4 y5 y6 y7 y8,LeO (impl_HistOf.j1 k y0 y1 y2 y3 y4 y5 y6 y7 y8) (impl_HistOf.j1 (k + 1) y0 y1 y2 y3 y4 y5 y6 y7 y8))
 | 0 => ⟨fun _ _ _ _ _ _ _ r h => by simp [impl_HistOf.l0] at h,fun _ _ _ _ _ _ _ _ _ r h => by simp [impl_HistOf.j1] at h⟩
 | k + 1 => by
   obtain ⟨ih0,ih1⟩ := impl_HistOf.mono_l k
   refine ⟨?_,?_⟩
   · intro y0 y1 y2 y3 y4 y5 y6
     unfold impl_HistOf.l0
     repeat' first
     | (with_reducible exact ih0 _ _ _ _ _ _ _)
     | (with_reducible exact ih1 _ _ _ _ _ _ _ _ _)
     | (with_reducible exact LeO.refl _)
     | (with_reducible exact LeO.none _)
     | (with_reducible refine LeO.ite ?_ ?_)
     | (with_reducible refine LeO.bind ?_ (fun _ => ?_))
     | exact ih0 _ _ _ _ _ _ _
     | exact ih1 _ _ _ _ _ _ _ _ _
     | exact LeO.none _
     | refine LeO.ite ?_ ?_
     | refine LeO.bind ?_ (fun _ => ?_)
   · intro y0 y1 y2 y3 y4 y5 y6 y7 y8
     unfold impl_HistOf.j1
     repeat' first
     | (with_reducible exact ih0 _ _ _ _ _ _ _)
     | (with_reducible exact ih1 _ _ _ _ _ _ _ _ _)
     | (with_reducible exact LeO.refl _)
     | (with_reducible exact LeO.none _)
     | (with_reducible refine LeO.ite ?_ ?_)
     | (with_reducible refine LeO.bind ?_ (fun _ => ?_))
     | exact ih0 _ _ _ _ _ _ _
     | exact ih1 _ _ _ _ _ _ _ _ _
     | exact LeO.none _
     | refine LeO.ite ?_ ?_
     | refine LeO.bind ?_ (fun _ => ?_)
theorem impl_HistOf.mono : ∀ a0 a1 a2 a3 k,LeO (impl_HistOf.f k a0 a1 a2 a3) (impl_HistOf.f (k + 1) a0 a1 a2 a3) := by
 intro a0 a1 a2 a3 k
 obtain ⟨ih0,ih1⟩ := impl_HistOf.mono_l k
 unfold impl_HistOf.f
 repeat' first
     | (with_reducible exact ih0 _ _ _ _ _ _ _)
     | (with_reducible exact ih1 _ _ _ _ _ _ _ _ _)
     | (with_reducible exact LeO.refl _)
     | (with_reducible exact LeO.none _)
     | (with_reducible refine LeO.ite ?_ ?_)
     | (with_reducible refine LeO.bind ?_ (fun _ => ?_))
     | exact ih0 _ _ _ _ _ _ _
     | exact ih1 _ _ _ _ _ _ _ _ _
     | exact LeO.none _
     | refine LeO.ite ?_ ?_
     | refine LeO.bind ?_ (fun _ => ?_)
def impl_HistOf.T9 : Bool × List (List Nat × List Nat) := (true,[([],[]),([],[]),([],[]),([1,2],[1,2]),([3],[3]),([0,4],[0,4]),([5],[5]),([],[]),([],[]),([7,8],[7,8]),([9],[9]),([10],[10]),([6,11],[6,11]),([12],[12]),([13],[13]),([13],[13]),([],[]),([16,14,12,0,1,2,3,4,5,6,7,8,9,10,11,12,13,14,16],[14,16]),([15,17,0,1,2,3,4,5,6,7,8,9,10,11,12,13,14,15,16,17],[15])])
def impl_HistOf.B9 : List Nat := [0,0,0,6,14,31,63,0,0,384,896,1920,4095,8191,16383,16383,0,98303,262143]
theorem impl_HistOf.tab9 : rtab .any (opsOf Try.f36 9) = impl_HistOf.T9 := by kernel_rfl
theorem impl_HistOf.bits9 : waitsOk impl_HistOf.T9.2 impl_HistOf.B9 = true := by kernel_rfl
def impl_HistOf.T12 : Bool × List (List Nat × List Nat) := (true,[([],[]),([],[]),([],[]),([1,2],[1,2]),([3],[3]),([],[]),([0,4,0,1,2,3,4,5],[0,4]),([6,5,0,1,2,3,4,5],[5,6])])
def impl_HistOf.B12 : List Nat := [0,0,0,6,14,0,63,127]
theorem impl_HistOf.tab12 : rtab .any (opsOf Try.f36 12) = impl_HistOf.T12 := by kernel_rfl
theorem impl_HistOf.bits12 : waitsOk impl_HistOf.T12.2 impl_HistOf.B12 = true := by kernel_rfl
set_option maxHeartbeats 8000000 in
set_option maxRecDepth 100000 in
theorem impl_HistOf.calls (k : Nat) (A0 : Option Addr) (c0 : Nat) (l0 : List Int) (A1 : Option Addr) (c1 : Nat) (l1 : List Int) (A2 : Option Addr) (c2 : Nat) (l2 : List Int) (a3 : Int) (r1 : List (S41)) (r2 : Bool) (w : World) (hr0 : Kd.C (Kd.int .i64) w A0 l0.length l0) (hc0 : l0.length ≤ c0) (hr1 : Kd.C (Kd.int .i64) w A1 l1.length l1) (hc1 : l1.length ≤ c1) (hr2 : Kd.C (Kd.int .i64) w A2 l2.length l2) (hc2 : l2.length ≤ c2) (h : impl_HistOf.f k l0 l1 l2 a3 = some (r1,r2)) :
   Calls Try.prog 36 #[.slice A0 l0.length c0,.slice A1 l1.length c1,.slice A2 l2.length c2,.int .i64 a3] w fun e w' => ∃ v0_ : Value,e = .returned (.tuple #[v0_,.bool r2]) ∧ Kd.R k41 41 w' w.heap.size (fun _ => True) v0_ r1 ∧ Below w.heap.size w w' := by
 have hu41 := Try.underlying41
 have HR0 := Aside0.mk hr0
 have HC0 := Aside0.mk hc0
 clear hr0 hc0
 have HR1 := Aside0.mk hr1
 have HC1 := Aside0.mk hc1
 clear hr1 hc1
 have HR2 := Aside0.mk hr2
 have HC2 := Aside0.mk hc2
 clear hr2 hc2
 have HB := Aside0.mk (Below.refl w.heap.size w)
 have H : ((impl_within.f a3 1 8).bind fun t451 => (if t451 = true then (if 0 ≤ a3 then (if (a3 : Int).toNat ≤ 17592186044416 then (impl_HistOf.l0 k l0 l1 a3 (List.replicate (a3 : Int).toNat z41) l2 (l2.length : Int) 0) else (none)) else (none)) else (some (([] : List (S41)),false)))) = some (r1,r2) := h
 clear h
 replace H := Option.bind_eq_some_iff.mp H
 obtain ⟨t451,A50,H⟩ := H
 replace H : (if t451 = true then (if 0 ≤ a3 then (if (a3 : Int).toNat ≤ 17592186044416 then (impl_HistOf.l0 k l0 l1 a3 (List.replicate (a3 : Int).toNat z41) l2 (l2.length : Int) 0) else (none)) else (none)) else (some (([] : List (S41)),false))) = some (r1,r2) := H
 have A5 := Aside0.mk A50
 clear A50
 by_cases c6 : t451 = true
 · subst c6
   have H1 : (if 0 ≤ a3 then (if (a3 : Int).toNat ≤ 17592186044416 then (impl_HistOf.l0 k l0 l1 a3 (List.replicate (a3 : Int).toNat z41) l2 (l2.length : Int) 0) else (none)) else (none)) = some (r1,r2) := by rw [if_pos rfl] at H;exact H
   clear H
   have H := H1
   clear H1
   by_cases c7 : 0 ≤ a3
   · rw [if_pos c7] at H
     have c7b0 := eq_true c7
     have c7b1 : decide (0 ≤ a3) = true := decide_eq_true c7
     clear c7
     by_cases c8 : (a3 : Int).toNat ≤ 17592186044416
     · rw [if_pos c8] at H
       have c8b0 := eq_true c8
       have c8b1 : decide ((a3 : Int).toNat ≤ 17592186044416) = true := decide_eq_true c8
       clear c8
       obtain ⟨y452,hy452⟩ : ∃ y_ : List (S41),y_ = (List.replicate (a3 : Int).toNat z41) := ⟨_,rfl⟩
       replace H : (impl_HistOf.l0 k l0 l1 a3 y452 l2 (l2.length : Int) 0) = some (r1,r2) := by first | (rw [hy452];with_reducible exact H) | (have H2_ := (Option.bind_some _ _).symm.trans H;rw [hy452];with_reducible exact H2_) | (have H2_ := (Option.bind_some _ _).symm.trans H;with_reducible exact H2_) | with_reducible exact H | (rw [hy452];exact H) | exact H
       have Ny452 := Aside0.mk hy452
       clear hy452
       have H' := Aside0.mk H
       clear H
       go_enter Try.func36,Try.ntmps36
       go_wp2_with (first | ((with_reducible refine gate_callee (f := 90) rfl ?_);refine goesL_ (some 16) rfl rfl Try.func90 (by kernel_rfl) rfl #[.int .i64 a3,.int .i64 1,.int .i64 8] rfl (by (try simp only [List.map_toArray,List.map_cons,List.map_nil]);first | done | rfl | (simp only [List.length_drop,List.length_take];rfl)) ?_;(with_reducible refine (impl_within.calls a3 1 8 true _ A5.out).mono ?_);rintro e w' ⟨rfl,⟨nd,rfl⟩⟩;refine ⟨_,rfl,?_⟩) | ((with_reducible refine gate_dst (N := 19) rfl ?_);refine Kd.R_make k41 _ 41 rfl (N := 19) rfl 24 _ _ rfl a3 rfl rfl Try.underlying24 (.agg #[(.int .i64 0),(.int .i64 0)]) 16 info41 rfl (by decide) (by omega) z41 (ok := fun _ => True) (okp := fun _ => True) (k41_mkM _ _ _ z41 ) (fun _ hk => hk) trivial (of_decide_eq_true (by first | (with_reducible assumption) | assumption)) (Nat.le_trans (Nat.mul_le_mul_right _ (of_decide_eq_true (by first | (with_reducible assumption) | assumption) : a3.toNat ≤ 17592186044416)) (by omega)) (Below.refl _ _) (Nat.le_refl _) ?_;intro v453 w9 ho10 hb hg_ hnew_;clear hg_ hnew_;(first | rw [← Ny452.out] at ho10 | (simp only [Int.reduceToNat] at ho10;rw [← Ny452.out] at ho10));have n0_ := Aside0.mk (Kd.R_lower ho10 (below_size (by repeat (first | (with_reducible first | exact HB.out | apply below_alloc | apply pw_below_drewN | apply below_drew1) | exact HB.out))));have n1_ := Aside0.mk (below_step (by repeat (first | (with_reducible first | exact HB.out | apply below_alloc | apply pw_below_drewN | apply below_drew1) | exact HB.out)) hb);clear HB;have HO454 := n0_;have HB := n1_;clear n0_ n1_;clear hb ho10))
       go_loopg [22] k (fun kq v22 w' => ∃ (x10_1 : List (S41)) (x22_1 : Int),v22 = .int .i64 x22_1 ∧ Aside0 (impl_HistOf.l0 kq l0 l1 a3 x10_1 l2 (l2.length : Int) x22_1 = some (r1,r2)) ∧ Aside0 (kq ≤ k) ∧ Aside0 (Kd.R k41 41 w' w.heap.size (fun _ => True) v453 x10_1) ∧ Aside0 (Below w.heap.size w w'))
       case atStart => exact ⟨(y452),(0),(by first | rfl | (simp;done) | (simp [*];done)),H',⟨Nat.le_refl _⟩,⟨by (with_reducible repeat (first | apply Kd.R_alloc | apply Kd.R_drewN | apply Kd.R_drew));exact HO454.out⟩,⟨by repeat (first | (with_reducible first | exact HB.out | apply below_alloc | apply pw_below_drewN | apply below_drew1) | exact HB.out)⟩⟩
       case round =>
         clear H'
         try clear c1
         try clear c2
         try clear p2
         try clear c3
         try clear c6
         try clear c7
         try clear c7b0
         try clear c7b1
         try clear c8
         try clear c8b0
         try clear c8b1
         try clear c9
         obtain ⟨x10_1,x22_1,rfl,HA,HK1,HO_10,HB⟩ := hrel
         cases gk with
         | zero => exact absurd HA.out (by simp [impl_HistOf.l0])
         | succ k1 =>
           have H := HA.out
           clear HA
           simp only [impl_HistOf.l0] at H
           by_cases c11 : x22_1 < (l2.length : Int)
           · rw [if_pos c11] at H
             have c11b0 : decide (x22_1 < (l2.length : Int)) = true := decide_eq_true c11
             clear c11
             by_cases c12 : 0 ≤ x22_1
             · rw [if_pos c12] at H
               have c12b0 : decide (0 ≤ x22_1) = true := decide_eq_true c12
               clear c12
               by_cases c13 : x22_1 < (l2.length : Int)
               · rw [if_pos c13] at H
                 have c13b0 : decide (x22_1 < (l2.length : Int)) = true := decide_eq_true c13
                 clear c13
                 have HC14 := Aside0.mk H
                 clear H
                 have p455 : 0 ≤ (x22_1 : Int) := of_decide_eq_true (by first | (with_reducible assumption) | assumption)
                 have q455 : x22_1 < (l2.length : Int) := of_decide_eq_true (by first | (with_reducible assumption) | assumption)
                 obtain ⟨ad455,e455,hx455_0⟩ := Kd.at_int HR2.out x22_1 p455 q455
                 cases e455
                 replace hx455_0 := (HB.out.cell (World.block_lt_of_cell? w _ hx455_0)).trans hx455_0
                 replace p455 := eq_true p455
                 replace q455 := eq_true q455
                 go_upto_region 7 with (fail)
                 go_cut [44] (fun v44 wc => ∃ (kq : Nat) (x44_13 : Bool),v44 = .bool x44_13 ∧ Aside0 (impl_HistOf.j1 kq l0 l1 a3 x10_1 (rd l2 x22_1) l2 (l2.length : Int) x22_1 x44_13 = some (r1,r2)) ∧ Aside0 (kq ≤ k1) ∧ Aside0 (Kd.R k41 41 wc w.heap.size (fun _ => True) v453 x10_1) ∧ Aside0 (Below w.heap.size w wc))
                 case first =>
                   have H := HC14.out
                   clear HC14
                   obtain ⟨ji15,hji15⟩ : ∃ j_ : Int,(mn (l0.length : Int) (l1.length : Int)) = j_ := ⟨_,rfl⟩
                   replace H : ((impl_within.f (rd l2 x22_1) 0 (wrap64 ((ji15) - 1))).bind fun t456 => (if t456 = true then (if 0 ≤ (rd l2 x22_1) then (if (rd l2 x22_1) < (l0.length : Int) then ((impl_within.f (rd l0 (rd l2 x22_1)) 0 (wrap64 (a3 - 1))).bind fun t458 => (impl_HistOf.j1 k1 l0 l1 a3 x10_1 (rd l2 x22_1) l2 (l2.length : Int) x22_1 (!t458))) else (none)) else (none)) else (impl_HistOf.j1 k1 l0 l1 a3 x10_1 (rd l2 x22_1) l2 (l2.length : Int) x22_1 true))) = some (r1,r2) := by first | (rw [hji15] at H;exact H) | (simp only [hji15] at H ⊢;exact H)
                   have hji15_ : (if (l1.length : Int) < (l0.length : Int) then (l1.length : Int) else (l0.length : Int)) = ji15 := hji15
                   have hji15n : (if l1.length < l0.length then (l1.length : Int) else (l0.length : Int)) = ji15 := (by have e_ := hji15_;simpa only [Int.ofNat_lt] using e_)
                   replace H := Option.bind_eq_some_iff.mp H
                   obtain ⟨t456,A160,H⟩ := H
                   replace H : (if t456 = true then (if 0 ≤ (rd l2 x22_1) then (if (rd l2 x22_1) < (l0.length : Int) then ((impl_within.f (rd l0 (rd l2 x22_1)) 0 (wrap64 (a3 - 1))).bind fun t458 => (impl_HistOf.j1 k1 l0 l1 a3 x10_1 (rd l2 x22_1) l2 (l2.length : Int) x22_1 (!t458))) else (none)) else (none)) else (impl_HistOf.j1 k1 l0 l1 a3 x10_1 (rd l2 x22_1) l2 (l2.length : Int) x22_1 true)) = some (r1,r2) := H
                   have A16 := Aside0.mk A160
                   clear A160
                   by_cases c17 : t456 = true
                   · subst c17
                     have H1 : (if 0 ≤ (rd l2 x22_1) then (if (rd l2 x22_1) < (l0.length : Int) then ((impl_within.f (rd l0 (rd l2 x22_1)) 0 (wrap64 (a3 - 1))).bind fun t458 => (impl_HistOf.j1 k1 l0 l1 a3 x10_1 (rd l2 x22_1) l2 (l2.length : Int) x22_1 (!t458))) else (none)) else (none)) = some (r1,r2) := by rw [if_pos rfl] at H;exact H
                     clear H
                     have H := H1
                     clear H1
                     by_cases c18 : 0 ≤ (rd l2 x22_1)
                     · rw [if_pos c18] at H
                       have c18b0 : decide (0 ≤ (rd l2 x22_1)) = true := decide_eq_true c18
                       clear c18
                       (first | rw [c18b0] | (simp only [i64_w,i32_w];rw [c18b0]) | skip)
                       by_cases c19 : (rd l2 x22_1) < (l0.length : Int)
                       · rw [if_pos c19] at H
                         have c19b0 : decide ((rd l2 x22_1) < (l0.length : Int)) = true := decide_eq_true c19
                         clear c19
                         replace H := Option.bind_eq_some_iff.mp H
                         obtain ⟨t458,A200,H⟩ := H
                         replace H : (impl_HistOf.j1 k1 l0 l1 a3 x10_1 (rd l2 x22_1) l2 (l2.length : Int) x22_1 (!t458)) = some (r1,r2) := H
                         have A20 := Aside0.mk A200
                         clear A200
                         have H' := Aside0.mk H
                         clear H
                         go_wp2_with (first | ((with_reducible refine gate_callee (f := 90) rfl ?_);refine goesL_ (some 33) rfl rfl Try.func90 (by kernel_rfl) rfl #[.int .i64 (rd l2 x22_1),.int .i64 0,.int .i64 (wrap64 ((ji15) - 1))] rfl (by (try simp only [List.map_toArray,List.map_cons,List.map_nil]);first | done | (simp only [hji15];rfl) | rfl | (simp only [List.length_drop,List.length_take];rfl)) ?_;(with_reducible refine (impl_within.calls (rd l2 x22_1) 0 (wrap64 ((ji15) - 1)) true _ A16.out).mono ?_);rintro e w' ⟨rfl,⟨nd,rfl⟩⟩;refine ⟨_,rfl,?_⟩;have p457 : 0 ≤ ((rd l2 x22_1) : Int) := of_decide_eq_true (by first | (with_reducible assumption) | assumption);have q457 : (rd l2 x22_1) < (l0.length : Int) := of_decide_eq_true (by first | (with_reducible assumption) | assumption);obtain ⟨ad457,e457,hx457_0⟩ := Kd.at_int HR0.out (rd l2 x22_1) p457 q457;cases e457;replace hx457_0 := (HB.out.cell (World.block_lt_of_cell? w _ hx457_0)).trans hx457_0;replace p457 := eq_true p457;replace q457 := eq_true q457) | (go_at_call 90;(with_reducible refine (impl_within.calls (rd l0 (rd l2 x22_1)) 0 (wrap64 (a3 - 1)) t458 _ A20.out).mono ?_);rintro e w' ⟨rfl,⟨nd,rfl⟩⟩))
                         go_meet
                         case rel => exact ⟨_,(!t458),(by first | rfl | (simp;done) | (simp [*];done)),H',⟨by have := HK1.out;first | omega | exact Nat.le_refl _⟩,⟨by (with_reducible repeat (first | apply Kd.R_alloc | apply Kd.R_drewN | apply Kd.R_drew));exact HO_10.out⟩,⟨by repeat (first | (with_reducible first | exact HB.out | apply below_alloc | apply pw_below_drewN | apply below_drew1) | exact HB.out)⟩⟩
                       · rw [if_neg c19] at H
                         exact absurd H (by simp)
                     · rw [if_neg c18] at H
                       exact absurd H (by simp)
                   · replace c17 := Bool.eq_false_iff.mpr c17
                     subst c17
                     have H1 : (impl_HistOf.j1 k1 l0 l1 a3 x10_1 (rd l2 x22_1) l2 (l2.length : Int) x22_1 true) = some (r1,r2) := by rw [if_neg (show ¬ (false = true) by decide)] at H;exact H
                     clear H
                     have H := H1
                     clear H1
                     have H' := Aside0.mk H
                     clear H
                     go_wp2_with (first | ((with_reducible refine gate_callee (f := 90) rfl ?_);refine goesL_ (some 33) rfl rfl Try.func90 (by kernel_rfl) rfl #[.int .i64 (rd l2 x22_1),.int .i64 0,.int .i64 (wrap64 ((ji15) - 1))] rfl (by (try simp only [List.map_toArray,List.map_cons,List.map_nil]);first | done | (simp only [hji15];rfl) | rfl | (simp only [List.length_drop,List.length_take];rfl)) ?_;(with_reducible refine (impl_within.calls (rd l2 x22_1) 0 (wrap64 ((ji15) - 1)) false _ A16.out).mono ?_);rintro e w' ⟨rfl,⟨nd,rfl⟩⟩;refine ⟨_,rfl,?_⟩))
                     go_meet
                     case rel => exact ⟨_,(true),(by first | rfl | (simp;done) | (simp [*];done)),H',⟨by have := HK1.out;first | omega | exact Nat.le_refl _⟩,⟨by (with_reducible repeat (first | apply Kd.R_alloc | apply Kd.R_drewN | apply Kd.R_drew));exact HO_10.out⟩,⟨by repeat (first | (with_reducible first | exact HB.out | apply below_alloc | apply pw_below_drewN | apply below_drew1) | exact HB.out)⟩⟩
                 case rest =>
                   clear HC14
                   try clear c1
                   try clear c2
                   try clear p2
                   try clear c3
                   try clear p4
                   try clear q4
                   try clear hx4
                   try clear c6
                   try clear p6
                   try clear c7
                   try clear c7b0
                   try clear c7b1
                   try clear c8
                   try clear c8b0
                   try clear c8b1
                   try clear c9
                   try clear c11
                   try clear c11b0
                   try clear c12
                   try clear c12b0
                   try clear c13
                   try clear c13b0
                   try clear c17
                   try clear c18
                   try clear c18b0
                   try clear c19
                   try clear c19b0
                   try clear hx455_0
                   try clear hx457_0
                   try clear p2
                   try clear p455
                   try clear p457
                   try clear q455
                   try clear q457
                   obtain ⟨kq,x44_13,rfl,HA,HJ13,HO_10,HB⟩ := hcut
                   cases kq with
                   | zero => exact absurd HA.out (by simp [impl_HistOf.j1])
                   | succ kj13 =>
                     have H := HA.out
                     clear HA
                     simp only [impl_HistOf.j1] at H
                     by_cases c21 : x44_13 = true
                     · subst c21
                       have H1 : (some (([] : List (S41)),false)) = some (r1,r2) := by rw [if_pos rfl] at H;exact H
                       clear H
                       have H := H1
                       clear H1
                       simp only [Option.some.injEq,Prod.mk.injEq] at H
                       obtain ⟨rfl,rfl⟩ := H
                       go_wp2
                       go_ret2
                       exact ⟨_,by first | rfl | (simp [errW_none,errW_some] <;> rfl) | (simp [*,errW_none,errW_some] <;> rfl),by first | exact Kd.R_nil _ _ _ _ _ | exact Kd.N_nil _ _ _ _ _ | exact Kd.V_nil _ _ _ _ _ | exact Kd.Q_nil _ _ _ _ _ | exact Kd.S_nil _ _ _ _ _,by repeat (first | (with_reducible first | exact HB.out | apply below_alloc | apply pw_below_drewN | apply below_drew1) | exact HB.out)⟩
                     · replace c21 := Bool.eq_false_iff.mpr c21
                       subst c21
                       have H1 : (if 0 ≤ (rd l2 x22_1) then (if (rd l2 x22_1) < (l0.length : Int) then (if 0 ≤ (rd l0 (rd l2 x22_1)) then (if (rd l0 (rd l2 x22_1)) < (x10_1.length : Int) then (if (rd l2 x22_1) < (l1.length : Int) then ((impl_Slot_plus.f ((rd_T41 x10_1 (rd l0 (rd l2 x22_1))).f0) ((rd_T41 x10_1 (rd l0 (rd l2 x22_1))).f1) 1 (rd l1 (rd l2 x22_1))).bind fun bt462 => (if bt462.2.2 = true then (impl_HistOf.l0 kj13 l0 l1 a3 (x10_1.set ((rd l0 (rd l2 x22_1)) : Int).toNat (⟨bt462.1,bt462.2.1⟩ : S41)) l2 (l2.length : Int) (wrap64 (x22_1 + 1))) else (some (([] : List (S41)),false)))) else (none)) else (none)) else (none)) else (none)) else (none)) = some (r1,r2) := by rw [if_neg (show ¬ (false = true) by decide)] at H;exact H
                       clear H
                       have H := H1
                       clear H1
                       by_cases c22 : 0 ≤ (rd l2 x22_1)
                       · rw [if_pos c22] at H
                         have c22b0 : decide (0 ≤ (rd l2 x22_1)) = true := decide_eq_true c22
                         clear c22
                         by_cases c23 : (rd l2 x22_1) < (l0.length : Int)
                         · rw [if_pos c23] at H
                           have c23b0 : decide ((rd l2 x22_1) < (l0.length : Int)) = true := decide_eq_true c23
                           clear c23
                           by_cases c24 : 0 ≤ (rd l0 (rd l2 x22_1))
                           · rw [if_pos c24] at H
                             have c24b0 : decide (0 ≤ (rd l0 (rd l2 x22_1))) = true := decide_eq_true c24
                             clear c24
                             by_cases c25 : (rd l0 (rd l2 x22_1)) < (x10_1.length : Int)
                             · rw [if_pos c25] at H
                               have c25b0 : decide ((rd l0 (rd l2 x22_1)) < (x10_1.length : Int)) = true := decide_eq_true c25
                               clear c25
                               by_cases c26 : (rd l2 x22_1) < (l1.length : Int)
                               · rw [if_pos c26] at H
                                 have c26b0 : decide ((rd l2 x22_1) < (l1.length : Int)) = true := decide_eq_true c26
                                 clear c26
                                 replace H := Option.bind_eq_some_iff.mp H
                                 obtain ⟨⟨t462,t463,t464⟩,A270,H⟩ := H
                                 replace H : (if t464 = true then (impl_HistOf.l0 kj13 l0 l1 a3 (x10_1.set ((rd l0 (rd l2 x22_1)) : Int).toNat (⟨t462,t463⟩ : S41)) l2 (l2.length : Int) (wrap64 (x22_1 + 1))) else (some (([] : List (S41)),false))) = some (r1,r2) := H
                                 have A27 := Aside0.mk A270
                                 clear A270
                                 by_cases c28 : t464 = true
                                 · subst c28
                                   have H1 : (impl_HistOf.l0 kj13 l0 l1 a3 (x10_1.set ((rd l0 (rd l2 x22_1)) : Int).toNat (⟨t462,t463⟩ : S41)) l2 (l2.length : Int) (wrap64 (x22_1 + 1))) = some (r1,r2) := by rw [if_pos rfl] at H;exact H
                                   clear H
                                   have H := H1
                                   clear H1
                                   obtain ⟨y467,hy467⟩ : ∃ y_ : List (S41),y_ = (x10_1.set ((rd l0 (rd l2 x22_1)) : Int).toNat (⟨t462,t463⟩ : S41)) := ⟨_,rfl⟩
                                   replace H : (impl_HistOf.l0 kj13 l0 l1 a3 y467 l2 (l2.length : Int) (wrap64 (x22_1 + 1))) = some (r1,r2) := by first | (rw [hy467];with_reducible exact H) | (have H2_ := (Option.bind_some _ _).symm.trans H;rw [hy467];with_reducible exact H2_) | (have H2_ := (Option.bind_some _ _).symm.trans H;with_reducible exact H2_) | with_reducible exact H | (rw [hy467];exact H) | exact H
                                   have Ny467 := Aside0.mk hy467
                                   clear hy467
                                   have H' := Aside0.mk H
                                   clear H
                                   try go_wp2
                                   have n0_ := Aside0.mk (Kd.R_drew HO_10.out)
                                   have n1_ := Aside0.mk (below_drew1 HB.out)
                                   clear HO_10
                                   clear HB
                                   have HO_10 := n0_
                                   have HB := n1_
                                   clear n0_ n1_
                                   have p459 : 0 ≤ ((rd l2 x22_1) : Int) := of_decide_eq_true (by first | (with_reducible assumption) | assumption)
                                   have q459 : (rd l2 x22_1) < (l0.length : Int) := of_decide_eq_true (by first | (with_reducible assumption) | assumption)
                                   obtain ⟨ad459,e459,hx459_0⟩ := Kd.at_int HR0.out (rd l2 x22_1) p459 q459
                                   have hw459_0 := hx459_0
                                   cases e459
                                   replace hx459_0 := (HB.out.cell (World.block_lt_of_cell? w _ hx459_0)).trans hx459_0
                                   replace p459 := eq_true p459
                                   replace q459 := eq_true q459
                                   obtain ⟨Ao31,co31,eo31⟩ := Kd.R_slice HO_10.out
                                   (first | subst eo31 | (injection eo31 with f1_ f2_ f3_;have f4_ := f1_.symm;have f5_ := f3_.symm;clear f1_ f2_ f3_;subst f4_;subst f5_))
                                   have p460 : 0 ≤ ((rd l0 (rd l2 x22_1)) : Int) := of_decide_eq_true (by first | (with_reducible assumption) | assumption)
                                   have q460 : (rd l0 (rd l2 x22_1)) < (x10_1.length : Int) := of_decide_eq_true (by first | (with_reducible assumption) | assumption)
                                   obtain ⟨ad460,e460,hx460_0,hx460_1⟩ := at_T41 (Kd.R_reads' HO_10.out).2.2 (rd l0 (rd l2 x22_1)) p460 q460
                                   cases e460
                                   replace p460 := eq_true p460
                                   replace q460 := eq_true q460
                                   have p461 : 0 ≤ ((rd l2 x22_1) : Int) := of_decide_eq_true (by first | (with_reducible assumption) | assumption)
                                   have q461 : (rd l2 x22_1) < (l1.length : Int) := of_decide_eq_true (by first | (with_reducible assumption) | assumption)
                                   obtain ⟨ad461,e461,hx461_0⟩ := Kd.at_int HR1.out (rd l2 x22_1) p461 q461
                                   have hw461_0 := hx461_0
                                   cases e461
                                   replace hx461_0 := (HB.out.cell (World.block_lt_of_cell? w _ hx461_0)).trans hx461_0
                                   replace p461 := eq_true p461
                                   replace q461 := eq_true q461
                                   refine start_ (n := 19) (S := fun w' => w'.cell? (ad459.add ((rd l2 x22_1)).toNat) = some (.int .i64 (rd l0 (rd l2 x22_1))) ∧ w'.cell? (ad460.add (((rd l0 (rd l2 x22_1))).toNat * 2)) = some (.int .i64 ((rd_T41 x10_1 (rd l0 (rd l2 x22_1))).f0)) ∧ w'.cell? ⟨(ad460.add (((rd l0 (rd l2 x22_1))).toNat * 2)).block,(ad460.add (((rd l0 (rd l2 x22_1))).toNat * 2)).off + 1,none⟩ = some (.int .i64 ((rd_T41 x10_1 (rd l0 (rd l2 x22_1))).f1)) ∧ w'.cell? (ad461.add ((rd l2 x22_1)).toNat) = some (.int .i64 (rd l1 (rd l2 x22_1)))) (ds := []) #[false,false,false,false,false,false,false,false,false,false,false,false,false,false,false,false,false,false,false] (by kernel_rfl) rfl rfl ⟨((HB.out.cell (World.block_lt_of_cell? w _ hw459_0)).trans hw459_0),hx460_0,hx460_1,((HB.out.cell (World.block_lt_of_cell? w _ hw461_0)).trans hw461_0)⟩ (fun hHeld => ?_);refine with_tabW impl_HistOf.tab9 impl_HistOf.bits9 (fun HT_ HW_ => ?_)
                                   generalize wc.drew = w30 at HO_10 HB hx459_0 hx460_0 hx460_1 hx461_0 hHeld ⊢
                                   refine pure_ (i := 0) (N := some 46) (v := ?_) (a' := ?_) #[true,false,false,false,false,false,false,false,false,false,false,false,false,false,false,false,false,false,false] rfl rfl (any_of HT_.out (by kernel_rfl)) (fun _ _ _ h => h) (Or.inl ⟨by rfl,?_⟩) ?_ ?_
                                   rotate_left
                                   · intro w'
                                     go_simp
                                     with_reducible rfl
                                   rotate_left
                                   · simp only [Act.put,List.setIfInBounds_toArray,List.set_cons_zero,List.set_cons_succ,i64_w,i32_w]
                                     rfl
                                   refine pure_ (i := 1) (N := some 47) (v := ?_) (a' := ?_) #[true,true,false,false,false,false,false,false,false,false,false,false,false,false,false,false,false,false,false] rfl rfl (any_of HT_.out (by kernel_rfl)) (fun _ _ _ h => h) (Or.inl ⟨by rfl,?_⟩) ?_ ?_
                                   rotate_left
                                   · intro w'
                                     go_simp
                                     with_reducible rfl
                                   rotate_left
                                   · simp only [Act.put,List.setIfInBounds_toArray,List.set_cons_zero,List.set_cons_succ,i64_w,i32_w]
                                     rfl
                                   refine pure_ (i := 2) (N := some 48) (v := ?_) (a' := ?_) #[true,true,true,false,false,false,false,false,false,false,false,false,false,false,false,false,false,false,false] rfl rfl (any_of HT_.out (by kernel_rfl)) (fun _ _ _ h => h) (Or.inl ⟨by rfl,?_⟩) ?_ ?_
                                   rotate_left
                                   · intro w'
                                     go_simp
                                     with_reducible rfl
                                   rotate_left
                                   · simp only [Act.put,List.setIfInBounds_toArray,List.set_cons_zero,List.set_cons_succ,i64_w,i32_w]
                                     rfl
                                   refine pure_ (i := 3) (N := some 49) (v := ?_) (a' := ?_) #[true,true,true,true,false,false,false,false,false,false,false,false,false,false,false,false,false,false,false] rfl rfl (any_of HT_.out (by kernel_rfl)) (fun _ _ _ h => h) (Or.inl ⟨by rfl,?_⟩) ?_ ?_
                                   rotate_left
                                   · intro w'
                                     go_simp
                                     with_reducible rfl
                                   rotate_left
                                   · simp only [Act.put,List.setIfInBounds_toArray,List.set_cons_zero,List.set_cons_succ,i64_w,i32_w]
                                     rfl
                                   refine pure_ (i := 7) (N := some 53) (v := ?_) (a' := ?_) #[true,true,true,true,false,false,false,true,false,false,false,false,false,false,false,false,false,false,false] rfl rfl (any_of HT_.out (by kernel_rfl)) (fun _ _ _ h => h) (Or.inl ⟨by rfl,?_⟩) ?_ ?_
                                   rotate_left
                                   · intro w'
                                     go_simp
                                     with_reducible rfl
                                   rotate_left
                                   · simp only [Act.put,List.setIfInBounds_toArray,List.set_cons_zero,List.set_cons_succ,i64_w,i32_w]
                                     rfl
                                   refine pure_ (i := 8) (N := some 54) (v := ?_) (a' := ?_) #[true,true,true,true,false,false,false,true,true,false,false,false,false,false,false,false,false,false,false] rfl rfl (any_of HT_.out (by kernel_rfl)) (fun _ _ _ h => h) (Or.inl ⟨by rfl,?_⟩) ?_ ?_
                                   rotate_left
                                   · intro w'
                                     go_simp
                                     with_reducible rfl
                                   rotate_left
                                   · simp only [Act.put,List.setIfInBounds_toArray,List.set_cons_zero,List.set_cons_succ,i64_w,i32_w]
                                     rfl
                                   refine pure_ (i := 9) (N := some 55) (v := ?_) (a' := ?_) #[true,true,true,true,false,false,false,true,true,true,false,false,false,false,false,false,false,false,false] rfl rfl (any_of HT_.out (by kernel_rfl)) (fun _ _ _ h => h) (Or.inl ⟨by rfl,?_⟩) ?_ ?_
                                   rotate_left
                                   · intro w'
                                     go_simp
                                     with_reducible rfl
                                   rotate_left
                                   · simp only [Act.put,List.setIfInBounds_toArray,List.set_cons_zero,List.set_cons_succ,i64_w,i32_w]
                                     rfl
                                   refine take_ (i := 4) (N := some 50) (v := ?_) (a' := ?_) #[true,true,true,true,true,false,false,true,true,true,false,false,false,false,false,false,false,false,false] rfl rfl (take_ofW HT_.out HW_.out (by kernel_rfl)) (fun _ _ _ h => h) (Or.inl ⟨by rfl,?_⟩) hHeld ?_ ?_
                                   rotate_left
                                   · rintro w' ⟨s0,s1,s2,s3⟩
                                     go_simp
                                     with_reducible rfl
                                   rotate_left
                                   · simp only [Act.put,List.setIfInBounds_toArray,List.set_cons_zero,List.set_cons_succ,i64_w,i32_w]
                                     rfl
                                   refine pure_ (i := 5) (N := some 51) (v := ?_) (a' := ?_) #[true,true,true,true,true,true,false,true,true,true,false,false,false,false,false,false,false,false,false] rfl rfl (any_of HT_.out (by kernel_rfl)) (fun _ _ _ h => h) (Or.inl ⟨by rfl,?_⟩) ?_ ?_
                                   rotate_left
                                   · intro w'
                                     go_simp
                                     with_reducible rfl
                                   rotate_left
                                   · simp only [Act.put,List.setIfInBounds_toArray,List.set_cons_zero,List.set_cons_succ,i64_w,i32_w]
                                     rfl
                                   refine take_ (i := 6) (N := some 52) (v := ?_) (a' := ?_) #[true,true,true,true,true,true,true,true,true,true,false,false,false,false,false,false,false,false,false] rfl rfl (take_ofW HT_.out HW_.out (by kernel_rfl)) (fun _ _ _ h => h) (Or.inl ⟨by rfl,?_⟩) hHeld ?_ ?_
                                   rotate_left
                                   · rintro w' ⟨s0,s1,s2,s3⟩
                                     go_simp
                                     with_reducible rfl
                                   rotate_left
                                   · simp only [Act.put,List.setIfInBounds_toArray,List.set_cons_zero,List.set_cons_succ,i64_w,i32_w]
                                     rfl
                                   refine take_ (i := 10) (N := some 56) (v := ?_) (a' := ?_) #[true,true,true,true,true,true,true,true,true,true,true,false,false,false,false,false,false,false,false] rfl rfl (take_ofW HT_.out HW_.out (by kernel_rfl)) (fun _ _ _ h => h) (Or.inl ⟨by rfl,?_⟩) hHeld ?_ ?_
                                   rotate_left
                                   · rintro w' ⟨s0,s1,s2,s3⟩
                                     go_simp
                                     with_reducible rfl
                                   rotate_left
                                   · simp only [Act.put,List.setIfInBounds_toArray,List.set_cons_zero,List.set_cons_succ,i64_w,i32_w]
                                     rfl
                                   refine pure_ (i := 11) (N := some 57) (v := ?_) (a' := ?_) #[true,true,true,true,true,true,true,true,true,true,true,true,false,false,false,false,false,false,false] rfl rfl (any_of HT_.out (by kernel_rfl)) (fun _ _ _ h => h) (Or.inl ⟨by rfl,?_⟩) ?_ ?_
                                   rotate_left
                                   · intro w'
                                     go_simp
                                     with_reducible rfl
                                   rotate_left
                                   · simp only [Act.put,List.setIfInBounds_toArray,List.set_cons_zero,List.set_cons_succ,i64_w,i32_w]
                                     rfl
                                   refine join_ (σ := Nat) 2 #[true,true,true,true,true,true,true,true,true,true,true,true,true,true,true,true,true,false,false] (fun s_ => [(58,.tuple #[.agg #[.int .i64 t462,.int .i64 t463],.bool true]),(13,.pointer (some ⟨s_,0,none⟩)),(45,.tuple #[.agg #[.int .i64 t462,.int .i64 t463],.bool true]),(59,.agg #[.int .i64 t462,.int .i64 t463]),(60,.bool true)]) (fun s_ w' => (w'.cell? (ad459.add ((rd l2 x22_1)).toNat) = some (.int .i64 (rd l0 (rd l2 x22_1))) ∧ w'.cell? (ad460.add (((rd l0 (rd l2 x22_1))).toNat * 2)) = some (.int .i64 ((rd_T41 x10_1 (rd l0 (rd l2 x22_1))).f0)) ∧ w'.cell? ⟨(ad460.add (((rd l0 (rd l2 x22_1))).toNat * 2)).block,(ad460.add (((rd l0 (rd l2 x22_1))).toNat * 2)).off + 1,none⟩ = some (.int .i64 ((rd_T41 x10_1 (rd l0 (rd l2 x22_1))).f1)) ∧ w'.cell? (ad461.add ((rd l2 x22_1)).toNat) = some (.int .i64 (rd l1 (rd l2 x22_1)))) ∧ (Kd.R k41 41 w' w.heap.size (fun k_ => k_ ≠ s_) (.slice (some ad460) x10_1.length co31) x10_1) ∧ (w'.heap[s_]? = some (.cells #[.int .i64 0,.int .i64 0] 41 (0,0))) ∧ (w.heap.size ≤ s_) ∧ (w.heap.size ≤ s_) ∧ (Below w.heap.size w w')) ?_ ?_
                                   rotate_left
                                   · intro hCont
                                     refine two_ (i := 12) (j := 16) (Ni := some 58) (Nj := some 13) #[true,true,true,true,true,true,true,true,true,true,true,true,true,false,false,false,false,false,false] #[true,true,true,true,true,true,true,true,true,true,true,true,false,false,false,false,true,false,false] rfl rfl rfl rfl (two_of HT_.out (by kernel_rfl)) (by decide) (by decide) (fun K hK => ?_) (fun K hK => ?_)
                                     · skip
                                       refine goes_ Try.func72 (by kernel_rfl) rfl #[.agg #[.int .i64 ((rd_T41 x10_1 (rd l0 (rd l2 x22_1))).f0),.int .i64 ((rd_T41 x10_1 (rd l0 (rd l2 x22_1))).f1)],.agg #[.int .i64 1,.int .i64 (rd l1 (rd l2 x22_1))]] (by rfl) rfl rfl (by (try simp only [List.map_toArray,List.map_cons,List.map_nil]);first | done | rfl | (simp only [List.length_drop,List.length_take];rfl)) ?_
                                       with_reducible refine (impl_Slot_plus.calls ((rd_T41 x10_1 (rd l0 (rd l2 x22_1))).f0) ((rd_T41 x10_1 (rd l0 (rd l2 x22_1))).f1) 1 (rd l1 (rd l2 x22_1)) t462 t463 true _ A27.out).mono ?_
                                       rintro e w32 ⟨rfl,hb⟩
                                       have HS1_ := (hb.cell (World.block_lt_of_cell? _ _ (hHeld.2.1))).trans (hHeld.2.1)
                                       have HS2_ := (hb.cell (World.block_lt_of_cell? _ _ (hHeld.2.2.1))).trans (hHeld.2.2.1)
                                       refine ⟨_,rfl,?_⟩
                                       have n0_ := Aside0.mk (Kd.R_below (by (with_reducible repeat (first | apply Kd.R_alloc | apply Kd.R_drewN | apply Kd.R_drew));exact HO_10.out) hb)
                                       have n1_ := Aside0.mk (below_step (by repeat (first | (with_reducible first | exact HB.out | apply below_alloc | apply pw_below_drewN | apply below_drew1) | exact HB.out)) hb)
                                       clear HO_10
                                       clear HB
                                       have HO_10 := n0_
                                       have HB := n1_
                                       clear n0_ n1_
                                       (try clear hb)
                                       (try clear hb2)
                                       (try clear hk)
                                       (try clear hi)
                                       refine hK.out _ _ ⟨((HB.out.cell (World.block_lt_of_cell? w _ hw459_0)).trans hw459_0),HS1_,HS2_,((HB.out.cell (World.block_lt_of_cell? w _ hw461_0)).trans hw461_0)⟩ (fun hHeld => ?_)
                                       clear hK K
                                       refine norm_ (a' := ?_) ?_ ?_
                                       rotate_left
                                       · show Act.put _ (some 58) _ = _
                                         simp only [Act.put,List.setIfInBounds_toArray,List.set_cons_zero,List.set_cons_succ,i64_w,i32_w]
                                         rfl
                                       refine pure_ (i := 13) (N := some 45) (v := ?_) (a' := ?_) #[true,true,true,true,true,true,true,true,true,true,true,true,true,true,false,false,false,false,false] rfl rfl (any_of HT_.out (by kernel_rfl)) (fun _ _ _ h => h) (Or.inl ⟨by rfl,?_⟩) ?_ ?_
                                       rotate_left
                                       · intro w'
                                         go_simp
                                         with_reducible rfl
                                       rotate_left
                                       · simp only [Act.put,List.setIfInBounds_toArray,List.set_cons_zero,List.set_cons_succ,i64_w,i32_w]
                                         rfl
                                       refine pure_ (i := 14) (N := some 59) (v := ?_) (a' := ?_) #[true,true,true,true,true,true,true,true,true,true,true,true,true,true,true,false,false,false,false] rfl rfl (any_of HT_.out (by kernel_rfl)) (fun _ _ _ h => h) (Or.inl ⟨by rfl,?_⟩) ?_ ?_
                                       rotate_left
                                       · intro w'
                                         go_simp
                                         with_reducible rfl
                                       rotate_left
                                       · simp only [Act.put,List.setIfInBounds_toArray,List.set_cons_zero,List.set_cons_succ,i64_w,i32_w]
                                         rfl
                                       refine pure_ (i := 15) (N := some 60) (v := ?_) (a' := ?_) #[true,true,true,true,true,true,true,true,true,true,true,true,true,true,true,true,false,false,false] rfl rfl (any_of HT_.out (by kernel_rfl)) (fun _ _ _ h => h) (Or.inl ⟨by rfl,?_⟩) ?_ ?_
                                       rotate_left
                                       · intro w'
                                         go_simp
                                         with_reducible rfl
                                       rotate_left
                                       · simp only [Act.put,List.setIfInBounds_toArray,List.set_cons_zero,List.set_cons_succ,i64_w,i32_w]
                                         rfl
                                       refine one_ (i := 16) (N := some 13) #[true,true,true,true,true,true,true,true,true,true,true,true,true,true,true,true,true,false,false] rfl rfl (one_of HT_.out (by kernel_rfl)) (by decide) (fun K hK => ?_)
                                       refine box_step ?hg (N := 13) ?hd (cs := #[.int .i64 0,.int .i64 0]) (t := 41) ?hr ?_;(case hd => rfl);(case hg => rfl);(case hr => first | (go_simp;done) | (go_simp;rfl))
                                       intro gb465 hg w33 hbox hb
                                       have HS1_ := (hb.cell (World.block_lt_of_cell? _ _ (hHeld.2.1))).trans (hHeld.2.1)
                                       have HS2_ := (hb.cell (World.block_lt_of_cell? _ _ (hHeld.2.2.1))).trans (hHeld.2.2.1)
                                       have n0_ := Aside0.mk (Kd.R_below (Kd.R_elderB (by (with_reducible repeat (first | apply Kd.R_alloc | apply Kd.R_drewN | apply Kd.R_drew));exact HO_10.out) gb465 (Nat.le_of_eq hg.symm)) hb)
                                       have n1_ := Aside0.mk (below_step (by repeat (first | (with_reducible first | exact HB.out | apply below_alloc | apply pw_below_drewN | apply below_drew1) | exact HB.out)) hb)
                                       have n2_ := Aside0.mk (hbox)
                                       have n3_ := Aside0.mk ((by rw [hg];exact (below_size (by repeat (first | (with_reducible first | exact HB.out | apply below_alloc | apply pw_below_drewN | apply below_drew1) | exact HB.out))) : w.heap.size ≤ gb465))
                                       have n4_ := Aside0.mk ((by rw [hg];exact (below_size (by repeat (first | (with_reducible first | exact HB.out | apply below_alloc | apply pw_below_drewN | apply below_drew1) | exact HB.out))) : w.heap.size ≤ gb465))
                                       clear HO_10
                                       clear HB
                                       have HO_10 := n0_
                                       have HB := n1_
                                       have BK465 := n2_
                                       have GW465 := n3_
                                       have GE465 := n4_
                                       clear n0_ n1_ n2_ n3_ n4_
                                       clear hb hbox hg
                                       refine hK.out _ _ ⟨((HB.out.cell (World.block_lt_of_cell? w _ hw459_0)).trans hw459_0),HS1_,HS2_,((HB.out.cell (World.block_lt_of_cell? w _ hw461_0)).trans hw461_0)⟩ (fun hHeld => ?_)
                                       clear hK K
                                       refine norm_ (a' := ?_) ?_ ?_
                                       rotate_left
                                       · show Act.put _ (some 13) _ = _
                                         simp only [Act.put,List.setIfInBounds_toArray,List.set_cons_zero,List.set_cons_succ,i64_w,i32_w]
                                         rfl
                                       exact norm_ (by simp only [putAll,Act.put,List.setIfInBounds_toArray,List.set_cons_zero,List.set_cons_succ]) (hCont (gb465) _ ⟨hHeld,(by (with_reducible repeat (first | apply Kd.R_alloc | apply Kd.R_drewN | apply Kd.R_drew));exact Kd.R_mono HO_10.out (fun _ hk => hk.2)),(by (with_reducible repeat (first | refine blk_drewN ?_ _ | refine blk_drew ?_ | refine blk_alloc ?_ _));exact BK465.out),GW465.out,GE465.out,(by repeat (first | (with_reducible first | exact HB.out | apply below_alloc | apply pw_below_drewN | apply below_drew1 | refine below_set ?_ GE465.out) | exact HB.out))⟩)
                                     · skip
                                       refine box_step ?hg (N := 13) ?hd (cs := #[.int .i64 0,.int .i64 0]) (t := 41) ?hr ?_;(case hd => rfl);(case hg => rfl);(case hr => first | (go_simp;done) | (go_simp;rfl))
                                       intro gb465 hg w32 hbox hb
                                       have HS1_ := (hb.cell (World.block_lt_of_cell? _ _ (hHeld.2.1))).trans (hHeld.2.1)
                                       have HS2_ := (hb.cell (World.block_lt_of_cell? _ _ (hHeld.2.2.1))).trans (hHeld.2.2.1)
                                       have n0_ := Aside0.mk (Kd.R_below (Kd.R_elderB (by (with_reducible repeat (first | apply Kd.R_alloc | apply Kd.R_drewN | apply Kd.R_drew));exact HO_10.out) gb465 (Nat.le_of_eq hg.symm)) hb)
                                       have n1_ := Aside0.mk (below_step (by repeat (first | (with_reducible first | exact HB.out | apply below_alloc | apply pw_below_drewN | apply below_drew1) | exact HB.out)) hb)
                                       have n2_ := Aside0.mk (hbox)
                                       have n3_ := Aside0.mk ((by rw [hg];exact (below_size (by repeat (first | (with_reducible first | exact HB.out | apply below_alloc | apply pw_below_drewN | apply below_drew1) | exact HB.out))) : w.heap.size ≤ gb465))
                                       have n4_ := Aside0.mk ((by rw [hg];exact (below_size (by repeat (first | (with_reducible first | exact HB.out | apply below_alloc | apply pw_below_drewN | apply below_drew1) | exact HB.out))) : w.heap.size ≤ gb465))
                                       clear HO_10
                                       clear HB
                                       have HO_10 := n0_
                                       have HB := n1_
                                       have BK465 := n2_
                                       have GW465 := n3_
                                       have GE465 := n4_
                                       clear n0_ n1_ n2_ n3_ n4_
                                       clear hb hbox hg
                                       refine hK.out _ _ ⟨((HB.out.cell (World.block_lt_of_cell? w _ hw459_0)).trans hw459_0),HS1_,HS2_,((HB.out.cell (World.block_lt_of_cell? w _ hw461_0)).trans hw461_0)⟩ (fun hHeld => ?_)
                                       clear hK K
                                       refine norm_ (a' := ?_) ?_ ?_
                                       rotate_left
                                       · show Act.put _ (some 13) _ = _
                                         simp only [Act.put,List.setIfInBounds_toArray,List.set_cons_zero,List.set_cons_succ,i64_w,i32_w]
                                         rfl
                                       refine one_ (i := 12) (N := some 58) #[true,true,true,true,true,true,true,true,true,true,true,true,true,false,false,false,true,false,false] rfl rfl (one_of HT_.out (by kernel_rfl)) (by decide) (fun K hK => ?_)
                                       refine goes_ Try.func72 (by kernel_rfl) rfl #[.agg #[.int .i64 ((rd_T41 x10_1 (rd l0 (rd l2 x22_1))).f0),.int .i64 ((rd_T41 x10_1 (rd l0 (rd l2 x22_1))).f1)],.agg #[.int .i64 1,.int .i64 (rd l1 (rd l2 x22_1))]] (by rfl) rfl rfl (by (try simp only [List.map_toArray,List.map_cons,List.map_nil]);first | done | rfl | (simp only [List.length_drop,List.length_take];rfl)) ?_
                                       with_reducible refine (impl_Slot_plus.calls ((rd_T41 x10_1 (rd l0 (rd l2 x22_1))).f0) ((rd_T41 x10_1 (rd l0 (rd l2 x22_1))).f1) 1 (rd l1 (rd l2 x22_1)) t462 t463 true _ A27.out).mono ?_
                                       rintro e w33 ⟨rfl,hb⟩
                                       have HS1_ := (hb.cell (World.block_lt_of_cell? _ _ (hHeld.2.1))).trans (hHeld.2.1)
                                       have HS2_ := (hb.cell (World.block_lt_of_cell? _ _ (hHeld.2.2.1))).trans (hHeld.2.2.1)
                                       refine ⟨_,rfl,?_⟩
                                       have n0_ := Aside0.mk (Kd.R_below (by (with_reducible repeat (first | apply Kd.R_alloc | apply Kd.R_drewN | apply Kd.R_drew));exact HO_10.out) hb)
                                       have n1_ := Aside0.mk (blk_below (g := gb465) (o := .cells #[.int .i64 0,.int .i64 0] 41 (0,0)) (by (with_reducible repeat (first | refine blk_drewN ?_ _ | refine blk_drew ?_ | refine blk_alloc ?_ _));exact BK465.out) hb)
                                       have n2_ := Aside0.mk (below_step (by repeat (first | (with_reducible first | exact HB.out | apply below_alloc | apply pw_below_drewN | apply below_drew1 | refine below_set ?_ GE465.out) | exact HB.out)) hb)
                                       clear HO_10
                                       clear BK465
                                       clear HB
                                       have HO_10 := n0_
                                       have BK465 := n1_
                                       have HB := n2_
                                       clear n0_ n1_ n2_
                                       (try clear hb)
                                       (try clear hb2)
                                       (try clear hk)
                                       (try clear hi)
                                       refine hK.out _ _ ⟨((HB.out.cell (World.block_lt_of_cell? w _ hw459_0)).trans hw459_0),HS1_,HS2_,((HB.out.cell (World.block_lt_of_cell? w _ hw461_0)).trans hw461_0)⟩ (fun hHeld => ?_)
                                       clear hK K
                                       refine norm_ (a' := ?_) ?_ ?_
                                       rotate_left
                                       · show Act.put _ (some 58) _ = _
                                         simp only [Act.put,List.setIfInBounds_toArray,List.set_cons_zero,List.set_cons_succ,i64_w,i32_w]
                                         rfl
                                       refine pure_ (i := 13) (N := some 45) (v := ?_) (a' := ?_) #[true,true,true,true,true,true,true,true,true,true,true,true,true,true,false,false,true,false,false] rfl rfl (any_of HT_.out (by kernel_rfl)) (fun _ _ _ h => h) (Or.inl ⟨by rfl,?_⟩) ?_ ?_
                                       rotate_left
                                       · intro w'
                                         go_simp
                                         with_reducible rfl
                                       rotate_left
                                       · simp only [Act.put,List.setIfInBounds_toArray,List.set_cons_zero,List.set_cons_succ,i64_w,i32_w]
                                         rfl
                                       refine pure_ (i := 14) (N := some 59) (v := ?_) (a' := ?_) #[true,true,true,true,true,true,true,true,true,true,true,true,true,true,true,false,true,false,false] rfl rfl (any_of HT_.out (by kernel_rfl)) (fun _ _ _ h => h) (Or.inl ⟨by rfl,?_⟩) ?_ ?_
                                       rotate_left
                                       · intro w'
                                         go_simp
                                         with_reducible rfl
                                       rotate_left
                                       · simp only [Act.put,List.setIfInBounds_toArray,List.set_cons_zero,List.set_cons_succ,i64_w,i32_w]
                                         rfl
                                       refine pure_ (i := 15) (N := some 60) (v := ?_) (a' := ?_) #[true,true,true,true,true,true,true,true,true,true,true,true,true,true,true,true,true,false,false] rfl rfl (any_of HT_.out (by kernel_rfl)) (fun _ _ _ h => h) (Or.inl ⟨by rfl,?_⟩) ?_ ?_
                                       rotate_left
                                       · intro w'
                                         go_simp
                                         with_reducible rfl
                                       rotate_left
                                       · simp only [Act.put,List.setIfInBounds_toArray,List.set_cons_zero,List.set_cons_succ,i64_w,i32_w]
                                         rfl
                                       exact norm_ (by simp only [putAll,Act.put,List.setIfInBounds_toArray,List.set_cons_zero,List.set_cons_succ]) (hCont (gb465) _ ⟨hHeld,(by (with_reducible repeat (first | apply Kd.R_alloc | apply Kd.R_drewN | apply Kd.R_drew));exact Kd.R_mono HO_10.out (fun _ hk => hk.2)),(by (with_reducible repeat (first | refine blk_drewN ?_ _ | refine blk_drew ?_ | refine blk_alloc ?_ _));exact BK465.out),GW465.out,GE465.out,(by repeat (first | (with_reducible first | exact HB.out | apply below_alloc | apply pw_below_drewN | apply below_drew1 | refine below_set ?_ GE465.out) | exact HB.out))⟩)
                                   rintro gb465 w34 ⟨hS_,h0_,h1_,h2_,h3_,h4_⟩
                                   have n0_ : Aside0 (Kd.R k41 41 w34 w.heap.size (fun k_ => k_ ≠ gb465) (.slice (some ad460) x10_1.length co31) x10_1) := ⟨h0_⟩
                                   have n1_ : Aside0 (w34.heap[gb465]? = some (.cells #[.int .i64 0,.int .i64 0] 41 (0,0))) := ⟨h1_⟩
                                   have n2_ : Aside0 (w.heap.size ≤ gb465) := ⟨h2_⟩
                                   have n3_ : Aside0 (w.heap.size ≤ gb465) := ⟨h3_⟩
                                   have n4_ : Aside0 (Below w.heap.size w w34) := ⟨h4_⟩
                                   clear HO_10
                                   clear HB
                                   clear h0_ h1_ h2_ h3_ h4_
                                   have HO_10 := n0_
                                   have BK465 := n1_
                                   have GW465 := n2_
                                   have GE465 := n3_
                                   have HB := n4_
                                   clear n0_ n1_ n2_ n3_ n4_
                                   have hHeld : w34.cell? (ad459.add ((rd l2 x22_1)).toNat) = some (.int .i64 (rd l0 (rd l2 x22_1))) ∧ w34.cell? (ad460.add (((rd l0 (rd l2 x22_1))).toNat * 2)) = some (.int .i64 ((rd_T41 x10_1 (rd l0 (rd l2 x22_1))).f0)) ∧ w34.cell? ⟨(ad460.add (((rd l0 (rd l2 x22_1))).toNat * 2)).block,(ad460.add (((rd l0 (rd l2 x22_1))).toNat * 2)).off + 1,none⟩ = some (.int .i64 ((rd_T41 x10_1 (rd l0 (rd l2 x22_1))).f1)) ∧ w34.cell? (ad461.add ((rd l2 x22_1)).toNat) = some (.int .i64 (rd l1 (rd l2 x22_1))) := hS_
                                   refine norm_ (a' := ?_) ?_ ?_
                                   rotate_left
                                   · simp only [putAll,Act.put,List.setIfInBounds_toArray,List.set_cons_zero,List.set_cons_succ]
                                     rfl
                                   refine one_ (i := 17) (N := none) #[true,true,true,true,true,true,true,true,true,true,true,true,true,true,true,true,true,true,false] rfl rfl (one_of HT_.out (by kernel_rfl)) (by decide) (fun K hK => ?_)
                                   have hs35 : w34.cell? ⟨gb465,0,none⟩ = some (.int .i64 0) := (blk_cell BK465.out 0).trans rfl
                                   have hfs35 := blk_frozen BK465.out 0
                                   have hs36 : w34.cell? ⟨gb465,1,none⟩ = some (.int .i64 0) := (blk_cell BK465.out 1).trans rfl
                                   have hfs36 := blk_frozen BK465.out 1
                                   refine skip_ (w1 := ?_) (by rfl) rfl ?_ ?_
                                   rotate_left
                                   · go_simp
                                     rfl
                                   refine hK.out _ _ ⟨((cell_far (p := ⟨gb465,_,none⟩) (by first | exact Nat.ne_of_lt (Nat.lt_of_lt_of_le (by have := World.block_lt_of_cell? _ _ hw459_0;first | rwa [add_block] at this | exact this) GW465.out) | (rw [add_block];exact Nat.ne_of_lt (Nat.lt_of_lt_of_le (by have := World.block_lt_of_cell? _ _ hw459_0;first | rwa [add_block] at this | exact this) GW465.out)) | (show (Addr.add _ _).block ≠ _;rw [add_block];exact Nat.ne_of_lt (Nat.lt_of_lt_of_le (by have := World.block_lt_of_cell? _ _ hw459_0;first | rwa [add_block] at this | exact this) GW465.out)) | (dsimp only;exact Nat.ne_of_lt (Nat.lt_of_lt_of_le (by have := World.block_lt_of_cell? _ _ hw459_0;first | rwa [add_block] at this | exact this) GW465.out))) _).trans (((cell_far (p := ⟨gb465,_,none⟩) (by first | exact Nat.ne_of_lt (Nat.lt_of_lt_of_le (by have := World.block_lt_of_cell? _ _ hw459_0;first | rwa [add_block] at this | exact this) GW465.out) | (rw [add_block];exact Nat.ne_of_lt (Nat.lt_of_lt_of_le (by have := World.block_lt_of_cell? _ _ hw459_0;first | rwa [add_block] at this | exact this) GW465.out)) | (show (Addr.add _ _).block ≠ _;rw [add_block];exact Nat.ne_of_lt (Nat.lt_of_lt_of_le (by have := World.block_lt_of_cell? _ _ hw459_0;first | rwa [add_block] at this | exact this) GW465.out)) | (dsimp only;exact Nat.ne_of_lt (Nat.lt_of_lt_of_le (by have := World.block_lt_of_cell? _ _ hw459_0;first | rwa [add_block] at this | exact this) GW465.out))) _).trans (hHeld.1)))),((cell_far (p := ⟨gb465,_,none⟩) (by first | exact Kd.own_blk (Kd.R_away HO_10.out (fun _ hk => hk)) | (rw [add_block];exact Kd.own_blk (Kd.R_away HO_10.out (fun _ hk => hk))) | (show (Addr.add _ _).block ≠ _;rw [add_block];exact Kd.own_blk (Kd.R_away HO_10.out (fun _ hk => hk))) | (dsimp only;exact Kd.own_blk (Kd.R_away HO_10.out (fun _ hk => hk)))) _).trans (((cell_far (p := ⟨gb465,_,none⟩) (by first | exact Kd.own_blk (Kd.R_away HO_10.out (fun _ hk => hk)) | (rw [add_block];exact Kd.own_blk (Kd.R_away HO_10.out (fun _ hk => hk))) | (show (Addr.add _ _).block ≠ _;rw [add_block];exact Kd.own_blk (Kd.R_away HO_10.out (fun _ hk => hk))) | (dsimp only;exact Kd.own_blk (Kd.R_away HO_10.out (fun _ hk => hk)))) _).trans (hHeld.2.1)))),((cell_far (p := ⟨gb465,_,none⟩) (by first | exact Kd.own_blk (Kd.R_away HO_10.out (fun _ hk => hk)) | (rw [add_block];exact Kd.own_blk (Kd.R_away HO_10.out (fun _ hk => hk))) | (show (Addr.add _ _).block ≠ _;rw [add_block];exact Kd.own_blk (Kd.R_away HO_10.out (fun _ hk => hk))) | (dsimp only;exact Kd.own_blk (Kd.R_away HO_10.out (fun _ hk => hk)))) _).trans (((cell_far (p := ⟨gb465,_,none⟩) (by first | exact Kd.own_blk (Kd.R_away HO_10.out (fun _ hk => hk)) | (rw [add_block];exact Kd.own_blk (Kd.R_away HO_10.out (fun _ hk => hk))) | (show (Addr.add _ _).block ≠ _;rw [add_block];exact Kd.own_blk (Kd.R_away HO_10.out (fun _ hk => hk))) | (dsimp only;exact Kd.own_blk (Kd.R_away HO_10.out (fun _ hk => hk)))) _).trans (hHeld.2.2.1)))),((cell_far (p := ⟨gb465,_,none⟩) (by first | exact Nat.ne_of_lt (Nat.lt_of_lt_of_le (by have := World.block_lt_of_cell? _ _ hw461_0;first | rwa [add_block] at this | exact this) GW465.out) | (rw [add_block];exact Nat.ne_of_lt (Nat.lt_of_lt_of_le (by have := World.block_lt_of_cell? _ _ hw461_0;first | rwa [add_block] at this | exact this) GW465.out)) | (show (Addr.add _ _).block ≠ _;rw [add_block];exact Nat.ne_of_lt (Nat.lt_of_lt_of_le (by have := World.block_lt_of_cell? _ _ hw461_0;first | rwa [add_block] at this | exact this) GW465.out)) | (dsimp only;exact Nat.ne_of_lt (Nat.lt_of_lt_of_le (by have := World.block_lt_of_cell? _ _ hw461_0;first | rwa [add_block] at this | exact this) GW465.out))) _).trans (((cell_far (p := ⟨gb465,_,none⟩) (by first | exact Nat.ne_of_lt (Nat.lt_of_lt_of_le (by have := World.block_lt_of_cell? _ _ hw461_0;first | rwa [add_block] at this | exact this) GW465.out) | (rw [add_block];exact Nat.ne_of_lt (Nat.lt_of_lt_of_le (by have := World.block_lt_of_cell? _ _ hw461_0;first | rwa [add_block] at this | exact this) GW465.out)) | (show (Addr.add _ _).block ≠ _;rw [add_block];exact Nat.ne_of_lt (Nat.lt_of_lt_of_le (by have := World.block_lt_of_cell? _ _ hw461_0;first | rwa [add_block] at this | exact this) GW465.out)) | (dsimp only;exact Nat.ne_of_lt (Nat.lt_of_lt_of_le (by have := World.block_lt_of_cell? _ _ hw461_0;first | rwa [add_block] at this | exact this) GW465.out))) _).trans (hHeld.2.2.2))))⟩ (fun hHeld => ?_)
                                   clear hK K
                                   refine pure_ (i := 18) (N := some 14) (v := ?_) (a' := ?_) #[true,true,true,true,true,true,true,true,true,true,true,true,true,true,true,true,true,true,true] rfl rfl (any_of HT_.out (by kernel_rfl)) (fun _ _ _ h => h) (Or.inl ⟨by rfl,?_⟩) ?_ ?_
                                   rotate_left
                                   · intro w'
                                     go_simp
                                     with_reducible rfl
                                   rotate_left
                                   · simp only [Act.put,List.setIfInBounds_toArray,List.set_cons_zero,List.set_cons_succ,i64_w,i32_w]
                                     rfl
                                   refine done_ (done_of HT_.out (by kernel_rfl)) ?_
                                   try go_wp2
                                   have n0_ : Aside0 (Kd.R k41 41 ((w34.setCell ⟨gb465,0,none⟩ (.int .i64 t462)).setCell ⟨gb465,1,none⟩ (.int .i64 t463)) w.heap.size (fun k_ => k_ ≠ gb465) (.slice (some ad460) x10_1.length co31) x10_1) := ⟨by (with_reducible repeat (first | apply Kd.R_alloc | apply Kd.R_drewN | apply Kd.R_drew));exact Kd.R_mono (Kd.R_far (p := ⟨gb465,1,none⟩) (Kd.R_far (p := ⟨gb465,0,none⟩) (Kd.R_mono HO_10.out (fun k_ hk => (⟨hk,hk⟩ : _ ∧ k_ ≠ gb465))) (fun _ hk => hk.2) (.int .i64 t462)) (fun _ hk => hk.2) (.int .i64 t463)) (fun _ hk => hk.1)⟩
                                   have n1_ : Aside0 (((w34.setCell ⟨gb465,0,none⟩ (.int .i64 t462)).setCell ⟨gb465,1,none⟩ (.int .i64 t463)).heap[gb465]? = some (.cells #[.int .i64 t462,.int .i64 t463] 41 (0,0))) := ⟨by (with_reducible repeat (first | refine blk_drewN ?_ _ | refine blk_drew ?_ | refine blk_alloc ?_ _));refine blk_put (cs := #[.int .i64 t462,.int .i64 0]) ?_ 1 _ rfl;(with_reducible repeat (first | refine blk_drewN ?_ _ | refine blk_drew ?_ | refine blk_alloc ?_ _));refine blk_put (cs := #[.int .i64 0,.int .i64 0]) ?_ 0 _ rfl;(with_reducible repeat (first | refine blk_drewN ?_ _ | refine blk_drew ?_ | refine blk_alloc ?_ _));exact BK465.out⟩
                                   have n2_ : Aside0 (Below w.heap.size w ((w34.setCell ⟨gb465,0,none⟩ (.int .i64 t462)).setCell ⟨gb465,1,none⟩ (.int .i64 t463))) := ⟨by repeat (first | (with_reducible first | exact HB.out | apply below_alloc | apply pw_below_drewN | apply below_drew1 | refine below_set ?_ GE465.out) | exact HB.out)⟩
                                   (try clear HO_10)
                                   (try clear BK465)
                                   (try clear HB)
                                   generalize ((w34.setCell ⟨gb465,0,none⟩ (.int .i64 t462)).setCell ⟨gb465,1,none⟩ (.int .i64 t463)) = w37 at n0_ n1_ n2_ ⊢
                                   have HO_10 := n0_
                                   have BK465 := n1_
                                   have HB := n2_
                                   clear n0_ n1_ n2_
                                   have n0_ := Aside0.mk (Kd.R_drew HO_10.out)
                                   have n1_ := Aside0.mk (blk_drew BK465.out)
                                   have n2_ := Aside0.mk (below_drew1 HB.out)
                                   clear HO_10
                                   clear BK465
                                   clear HB
                                   have HO_10 := n0_
                                   have BK465 := n1_
                                   have HB := n2_
                                   clear n0_ n1_ n2_
                                   have p466 : 0 ≤ ((rd l2 x22_1) : Int) := of_decide_eq_true (by first | (with_reducible assumption) | assumption)
                                   have q466 : (rd l2 x22_1) < (l0.length : Int) := of_decide_eq_true (by first | (with_reducible assumption) | assumption)
                                   obtain ⟨ad466,e466,hx466_0⟩ := Kd.at_int HR0.out (rd l2 x22_1) p466 q466
                                   have hw466_0 := hx466_0
                                   obtain rfl : ad459 = ad466 := (by injection e466)
                                   replace hx466_0 := (HB.out.cell (World.block_lt_of_cell? w _ hx466_0)).trans hx466_0
                                   replace p466 := eq_true p466
                                   replace q466 := eq_true q466
                                   have p29 : 0 ≤ ((rd l0 (rd l2 x22_1)) : Int) := of_decide_eq_true (by first | (with_reducible assumption) | assumption)
                                   have q29 : ((rd l0 (rd l2 x22_1)) : Int) < ((x10_1.length : Int) : Int) := of_decide_eq_true (by first | (with_reducible assumption) | assumption)
                                   obtain ⟨go29,co29,eo29,gb29,gl29,cl29,HG29⟩ := Kd.R_form HO_10.out (by omega)
                                   (first | cases eo29 | (injection eo29 with ea_ en_ ec_;(first | subst ea_ | (injection ea_ with ea_;subst ea_));subst ec_;clear en_))
                                   have GB29 := Aside0.mk gb29
                                   have GG29 := Aside0.mk HG29
                                   clear gb29 gl29 HG29
                                   (first | simp only [add_plain] at hx460_0 | skip)
                                   (first | simp only [add_plain] at hx460_1 | skip)
                                   obtain ⟨ce29,hcl29,hM29,hcc29,hfr29⟩ := Kd.R_elem HO_10.out z41 ((rd l0 (rd l2 x22_1)) : Int) p29 q29
                                   obtain rfl := k41_openM hM29
                                   have hx29_0 : World.cell? _ ⟨go29,((rd l0 (rd l2 x22_1)) : Int).toNat * 2,none⟩ = some (.int .i64 ((rd_T41 x10_1 (rd l0 (rd l2 x22_1))).f0)) := hcc29 0 _ rfl
                                   have hx29_1 : World.cell? _ ⟨go29,((rd l0 (rd l2 x22_1)) : Int).toNat * 2 + 1,none⟩ = some (.int .i64 ((rd_T41 x10_1 (rd l0 (rd l2 x22_1))).f1)) := hcc29 1 _ rfl
                                   have hf29_0 : World.frozen? _ ⟨go29,((rd l0 (rd l2 x22_1)) : Int).toNat * 2,none⟩ = false := hfr29 0
                                   have hf29_1 : World.frozen? _ ⟨go29,((rd l0 (rd l2 x22_1)) : Int).toNat * 2 + 1,none⟩ = false := hfr29 1
                                   (try clear hcl29);(try clear hcc29);(try clear hfr29);(try clear hM29)
                                   replace p29 := eq_true p29
                                   replace q29 := eq_true q29
                                   obtain ⟨ce39,hcl39,hM39,hcc39,hfr39⟩ := Kd.R_elem HO_10.out z41 ((rd l0 (rd l2 x22_1)) : Int) (of_decide_eq_true (by first | (with_reducible assumption) | assumption)) (by have h_ : ((rd l0 (rd l2 x22_1)) : Int) < ((x10_1.length : Int) : Int) := of_decide_eq_true (by first | (with_reducible assumption) | assumption);first | exact h_ | (have e_ := (Kd.R_reads' HO_10.out).1;omega) | simpa using h_)
                                   obtain rfl := k41_openM hM39
                                   have HP39 := (Kd.R_seg HO_10.out ((rd l0 (rd l2 x22_1)) : Int) (of_decide_eq_true (by first | (with_reducible assumption) | assumption)) (by have h_ : ((rd l0 (rd l2 x22_1)) : Int) < ((x10_1.length : Int) : Int) := of_decide_eq_true (by first | (with_reducible assumption) | assumption);first | exact h_ | (have e_ := (Kd.R_reads' HO_10.out).1;omega) | simpa using h_) (seg := [.int .i64 t462,.int .i64 t463]) (j := 0) hcl39 hcc39 (show 2 ≤ 2 from by decide) (x' := (⟨t462,t463⟩ : S41)) (k41_mkM _ _ _ (⟨t462,t463⟩ : S41) ) (fun _ hk => hk)).1
                                   rw [← Ny467.out] at HP39
                                   have HQ39 := Aside0.mk HP39
                                   (try clear hcl39);(try clear hcc39);(try clear hfr39);(try clear hM39);(try clear HP39)
                                   refine start_ (n := 8) (S := fun w' => w'.cell? ⟨gb465,0,none⟩ = some (.int .i64 t462) ∧ w'.cell? ⟨gb465,1,none⟩ = some (.int .i64 t463) ∧ w'.cell? (ad459.add ((rd l2 x22_1)).toNat) = some (.int .i64 (rd l0 (rd l2 x22_1)))) (ds := [7]) #[false,false,false,false,false,false,false,false] (by kernel_rfl) rfl rfl ⟨(blk_cell BK465.out 0).trans rfl,(blk_cell BK465.out 1).trans rfl,((HB.out.cell (World.block_lt_of_cell? w _ hw466_0)).trans hw466_0)⟩ (fun hHeld => ?_);refine with_tabW impl_HistOf.tab12 impl_HistOf.bits12 (fun HT_ HW_ => ?_)
                                   generalize w37.drew = w38 at HO_10 BK465 HB GG29 HQ39 hf29_0 hf29_1 hx29_0 hx29_1 hx460_0 hx460_1 hx466_0 hHeld ⊢
                                   refine pure_ (i := 0) (N := some 63) (v := ?_) (a' := ?_) #[true,false,false,false,false,false,false,false] rfl rfl (any_of HT_.out (by kernel_rfl)) (fun _ _ _ h => h) (Or.inl ⟨by rfl,?_⟩) ?_ ?_
                                   rotate_left
                                   · intro w'
                                     go_simp
                                     with_reducible rfl
                                   rotate_left
                                   · simp only [Act.put,List.setIfInBounds_toArray,List.set_cons_zero,List.set_cons_succ,i64_w,i32_w]
                                     rfl
                                   refine pure_ (i := 1) (N := some 64) (v := ?_) (a' := ?_) #[true,true,false,false,false,false,false,false] rfl rfl (any_of HT_.out (by kernel_rfl)) (fun _ _ _ h => h) (Or.inl ⟨by rfl,?_⟩) ?_ ?_
                                   rotate_left
                                   · intro w'
                                     go_simp
                                     with_reducible rfl
                                   rotate_left
                                   · simp only [Act.put,List.setIfInBounds_toArray,List.set_cons_zero,List.set_cons_succ,i64_w,i32_w]
                                     rfl
                                   refine pure_ (i := 2) (N := some 65) (v := ?_) (a' := ?_) #[true,true,true,false,false,false,false,false] rfl rfl (any_of HT_.out (by kernel_rfl)) (fun _ _ _ h => h) (Or.inl ⟨by rfl,?_⟩) ?_ ?_
                                   rotate_left
                                   · intro w'
                                     go_simp
                                     with_reducible rfl
                                   rotate_left
                                   · simp only [Act.put,List.setIfInBounds_toArray,List.set_cons_zero,List.set_cons_succ,i64_w,i32_w]
                                     rfl
                                   refine pure_ (i := 3) (N := some 66) (v := ?_) (a' := ?_) #[true,true,true,true,false,false,false,false] rfl rfl (any_of HT_.out (by kernel_rfl)) (fun _ _ _ h => h) (Or.inl ⟨by rfl,?_⟩) ?_ ?_
                                   rotate_left
                                   · intro w'
                                     go_simp
                                     with_reducible rfl
                                   rotate_left
                                   · simp only [Act.put,List.setIfInBounds_toArray,List.set_cons_zero,List.set_cons_succ,i64_w,i32_w]
                                     rfl
                                   refine take_ (i := 4) (N := some 67) (v := ?_) (a' := ?_) #[true,true,true,true,true,false,false,false] rfl rfl (take_ofW HT_.out HW_.out (by kernel_rfl)) (fun _ _ _ h => h) (Or.inl ⟨by rfl,?_⟩) hHeld ?_ ?_
                                   rotate_left
                                   · rintro w' ⟨s0,s1,s2⟩
                                     go_simp
                                     with_reducible rfl
                                   rotate_left
                                   · simp only [Act.put,List.setIfInBounds_toArray,List.set_cons_zero,List.set_cons_succ,i64_w,i32_w]
                                     rfl
                                   refine take_ (i := 5) (N := some 68) (v := ?_) (a' := ?_) #[true,true,true,true,true,true,false,false] rfl rfl (take_ofW HT_.out HW_.out (by kernel_rfl)) (fun _ _ _ h => h) (Or.inl ⟨by rfl,?_⟩) hHeld ?_ ?_
                                   rotate_left
                                   · rintro w' ⟨s0,s1,s2⟩
                                     go_simp
                                     with_reducible rfl
                                   rotate_left
                                   · simp only [Act.put,List.setIfInBounds_toArray,List.set_cons_zero,List.set_cons_succ,i64_w,i32_w]
                                     rfl
                                   refine pure_ (i := 6) (N := some 69) (v := ?_) (a' := ?_) #[true,true,true,true,true,true,true,false] rfl rfl (any_of HT_.out (by kernel_rfl)) (fun _ _ _ h => h) (Or.inl ⟨by rfl,?_⟩) ?_ ?_
                                   rotate_left
                                   · intro w'
                                     go_simp
                                     with_reducible rfl
                                   rotate_left
                                   · simp only [Act.put,List.setIfInBounds_toArray,List.set_cons_zero,List.set_cons_succ,i64_w,i32_w]
                                     rfl
                                   refine last_ (i := 7) (N := none) #[true,true,true,true,true,true,true,true] rfl rfl (one_of HT_.out (by kernel_rfl)) (by decide) (fun K hK => ?_)
                                   refine skip_ (w1 := ?_) (by rfl) rfl ?_ ?_
                                   rotate_left
                                   · go_simp
                                     rfl
                                   refine hK.out _ _ ?_
                                   clear hK K
                                   refine done_ (done_of HT_.out (by kernel_rfl)) ?_
                                   try go_wp2
                                   go_roundg kj13
                                   case measure => have := HK1.out;have := HJ13.out;omega
                                   case rel => exact ⟨(y467),(wrap64 (x22_1 + 1)),(by first | rfl | (simp;done) | (simp [*];done)),H',⟨by have := HK1.out;have := HJ13.out;omega⟩,⟨by (with_reducible repeat (first | apply Kd.R_alloc | apply Kd.R_drewN | apply Kd.R_drew));exact Kd.R_mono HQ39.out (fun _ hk => trivial)⟩,⟨by repeat (first | (with_reducible first | exact HB.out | apply below_alloc | apply pw_below_drewN | apply below_drew1 | refine below_set ?_ GB29.out | refine below_set ?_ GB29.out | refine below_set ?_ GE465.out) | exact HB.out)⟩⟩
                                 · replace c28 := Bool.eq_false_iff.mpr c28
                                   subst c28
                                   have H1 : (some (([] : List (S41)),false)) = some (r1,r2) := by rw [if_neg (show ¬ (false = true) by decide)] at H;exact H
                                   clear H
                                   have H := H1
                                   clear H1
                                   simp only [Option.some.injEq,Prod.mk.injEq] at H
                                   obtain ⟨rfl,rfl⟩ := H
                                   try go_wp2
                                   have n0_ := Aside0.mk (Kd.R_drew HO_10.out)
                                   have n1_ := Aside0.mk (below_drew1 HB.out)
                                   clear HO_10
                                   clear HB
                                   have HO_10 := n0_
                                   have HB := n1_
                                   clear n0_ n1_
                                   have p459 : 0 ≤ ((rd l2 x22_1) : Int) := of_decide_eq_true (by first | (with_reducible assumption) | assumption)
                                   have q459 : (rd l2 x22_1) < (l0.length : Int) := of_decide_eq_true (by first | (with_reducible assumption) | assumption)
                                   obtain ⟨ad459,e459,hx459_0⟩ := Kd.at_int HR0.out (rd l2 x22_1) p459 q459
                                   have hw459_0 := hx459_0
                                   cases e459
                                   replace hx459_0 := (HB.out.cell (World.block_lt_of_cell? w _ hx459_0)).trans hx459_0
                                   replace p459 := eq_true p459
                                   replace q459 := eq_true q459
                                   obtain ⟨Ao41,co41,eo41⟩ := Kd.R_slice HO_10.out
                                   (first | subst eo41 | (injection eo41 with f1_ f2_ f3_;have f4_ := f1_.symm;have f5_ := f3_.symm;clear f1_ f2_ f3_;subst f4_;subst f5_))
                                   have p460 : 0 ≤ ((rd l0 (rd l2 x22_1)) : Int) := of_decide_eq_true (by first | (with_reducible assumption) | assumption)
                                   have q460 : (rd l0 (rd l2 x22_1)) < (x10_1.length : Int) := of_decide_eq_true (by first | (with_reducible assumption) | assumption)
                                   obtain ⟨ad460,e460,hx460_0,hx460_1⟩ := at_T41 (Kd.R_reads' HO_10.out).2.2 (rd l0 (rd l2 x22_1)) p460 q460
                                   cases e460
                                   replace p460 := eq_true p460
                                   replace q460 := eq_true q460
                                   have p461 : 0 ≤ ((rd l2 x22_1) : Int) := of_decide_eq_true (by first | (with_reducible assumption) | assumption)
                                   have q461 : (rd l2 x22_1) < (l1.length : Int) := of_decide_eq_true (by first | (with_reducible assumption) | assumption)
                                   obtain ⟨ad461,e461,hx461_0⟩ := Kd.at_int HR1.out (rd l2 x22_1) p461 q461
                                   have hw461_0 := hx461_0
                                   cases e461
                                   replace hx461_0 := (HB.out.cell (World.block_lt_of_cell? w _ hx461_0)).trans hx461_0
                                   replace p461 := eq_true p461
                                   replace q461 := eq_true q461
                                   refine start_ (n := 19) (S := fun w' => w'.cell? (ad459.add ((rd l2 x22_1)).toNat) = some (.int .i64 (rd l0 (rd l2 x22_1))) ∧ w'.cell? (ad460.add (((rd l0 (rd l2 x22_1))).toNat * 2)) = some (.int .i64 ((rd_T41 x10_1 (rd l0 (rd l2 x22_1))).f0)) ∧ w'.cell? ⟨(ad460.add (((rd l0 (rd l2 x22_1))).toNat * 2)).block,(ad460.add (((rd l0 (rd l2 x22_1))).toNat * 2)).off + 1,none⟩ = some (.int .i64 ((rd_T41 x10_1 (rd l0 (rd l2 x22_1))).f1)) ∧ w'.cell? (ad461.add ((rd l2 x22_1)).toNat) = some (.int .i64 (rd l1 (rd l2 x22_1)))) (ds := []) #[false,false,false,false,false,false,false,false,false,false,false,false,false,false,false,false,false,false,false] (by kernel_rfl) rfl rfl ⟨((HB.out.cell (World.block_lt_of_cell? w _ hw459_0)).trans hw459_0),hx460_0,hx460_1,((HB.out.cell (World.block_lt_of_cell? w _ hw461_0)).trans hw461_0)⟩ (fun hHeld => ?_);refine with_tabW impl_HistOf.tab9 impl_HistOf.bits9 (fun HT_ HW_ => ?_)
                                   generalize wc.drew = w40 at HO_10 HB hx459_0 hx460_0 hx460_1 hx461_0 hHeld ⊢
                                   refine pure_ (i := 0) (N := some 46) (v := ?_) (a' := ?_) #[true,false,false,false,false,false,false,false,false,false,false,false,false,false,false,false,false,false,false] rfl rfl (any_of HT_.out (by kernel_rfl)) (fun _ _ _ h => h) (Or.inl ⟨by rfl,?_⟩) ?_ ?_
                                   rotate_left
                                   · intro w'
                                     go_simp
                                     with_reducible rfl
                                   rotate_left
                                   · simp only [Act.put,List.setIfInBounds_toArray,List.set_cons_zero,List.set_cons_succ,i64_w,i32_w]
                                     rfl
                                   refine pure_ (i := 1) (N := some 47) (v := ?_) (a' := ?_) #[true,true,false,false,false,false,false,false,false,false,false,false,false,false,false,false,false,false,false] rfl rfl (any_of HT_.out (by kernel_rfl)) (fun _ _ _ h => h) (Or.inl ⟨by rfl,?_⟩) ?_ ?_
                                   rotate_left
                                   · intro w'
                                     go_simp
                                     with_reducible rfl
                                   rotate_left
                                   · simp only [Act.put,List.setIfInBounds_toArray,List.set_cons_zero,List.set_cons_succ,i64_w,i32_w]
                                     rfl
                                   refine pure_ (i := 2) (N := some 48) (v := ?_) (a' := ?_) #[true,true,true,false,false,false,false,false,false,false,false,false,false,false,false,false,false,false,false] rfl rfl (any_of HT_.out (by kernel_rfl)) (fun _ _ _ h => h) (Or.inl ⟨by rfl,?_⟩) ?_ ?_
                                   rotate_left
                                   · intro w'
                                     go_simp
                                     with_reducible rfl
                                   rotate_left
                                   · simp only [Act.put,List.setIfInBounds_toArray,List.set_cons_zero,List.set_cons_succ,i64_w,i32_w]
                                     rfl
                                   refine pure_ (i := 3) (N := some 49) (v := ?_) (a' := ?_) #[true,true,true,true,false,false,false,false,false,false,false,false,false,false,false,false,false,false,false] rfl rfl (any_of HT_.out (by kernel_rfl)) (fun _ _ _ h => h) (Or.inl ⟨by rfl,?_⟩) ?_ ?_
                                   rotate_left
                                   · intro w'
                                     go_simp
                                     with_reducible rfl
                                   rotate_left
                                   · simp only [Act.put,List.setIfInBounds_toArray,List.set_cons_zero,List.set_cons_succ,i64_w,i32_w]
                                     rfl
                                   refine pure_ (i := 7) (N := some 53) (v := ?_) (a' := ?_) #[true,true,true,true,false,false,false,true,false,false,false,false,false,false,false,false,false,false,false] rfl rfl (any_of HT_.out (by kernel_rfl)) (fun _ _ _ h => h) (Or.inl ⟨by rfl,?_⟩) ?_ ?_
                                   rotate_left
                                   · intro w'
                                     go_simp
                                     with_reducible rfl
                                   rotate_left
                                   · simp only [Act.put,List.setIfInBounds_toArray,List.set_cons_zero,List.set_cons_succ,i64_w,i32_w]
                                     rfl
                                   refine pure_ (i := 8) (N := some 54) (v := ?_) (a' := ?_) #[true,true,true,true,false,false,false,true,true,false,false,false,false,false,false,false,false,false,false] rfl rfl (any_of HT_.out (by kernel_rfl)) (fun _ _ _ h => h) (Or.inl ⟨by rfl,?_⟩) ?_ ?_
                                   rotate_left
                                   · intro w'
                                     go_simp
                                     with_reducible rfl
                                   rotate_left
                                   · simp only [Act.put,List.setIfInBounds_toArray,List.set_cons_zero,List.set_cons_succ,i64_w,i32_w]
                                     rfl
                                   refine pure_ (i := 9) (N := some 55) (v := ?_) (a' := ?_) #[true,true,true,true,false,false,false,true,true,true,false,false,false,false,false,false,false,false,false] rfl rfl (any_of HT_.out (by kernel_rfl)) (fun _ _ _ h => h) (Or.inl ⟨by rfl,?_⟩) ?_ ?_
                                   rotate_left
                                   · intro w'
                                     go_simp
                                     with_reducible rfl
                                   rotate_left
                                   · simp only [Act.put,List.setIfInBounds_toArray,List.set_cons_zero,List.set_cons_succ,i64_w,i32_w]
                                     rfl
                                   refine take_ (i := 4) (N := some 50) (v := ?_) (a' := ?_) #[true,true,true,true,true,false,false,true,true,true,false,false,false,false,false,false,false,false,false] rfl rfl (take_ofW HT_.out HW_.out (by kernel_rfl)) (fun _ _ _ h => h) (Or.inl ⟨by rfl,?_⟩) hHeld ?_ ?_
                                   rotate_left
                                   · rintro w' ⟨s0,s1,s2,s3⟩
                                     go_simp
                                     with_reducible rfl
                                   rotate_left
                                   · simp only [Act.put,List.setIfInBounds_toArray,List.set_cons_zero,List.set_cons_succ,i64_w,i32_w]
                                     rfl
                                   refine pure_ (i := 5) (N := some 51) (v := ?_) (a' := ?_) #[true,true,true,true,true,true,false,true,true,true,false,false,false,false,false,false,false,false,false] rfl rfl (any_of HT_.out (by kernel_rfl)) (fun _ _ _ h => h) (Or.inl ⟨by rfl,?_⟩) ?_ ?_
                                   rotate_left
                                   · intro w'
                                     go_simp
                                     with_reducible rfl
                                   rotate_left
                                   · simp only [Act.put,List.setIfInBounds_toArray,List.set_cons_zero,List.set_cons_succ,i64_w,i32_w]
                                     rfl
                                   refine take_ (i := 6) (N := some 52) (v := ?_) (a' := ?_) #[true,true,true,true,true,true,true,true,true,true,false,false,false,false,false,false,false,false,false] rfl rfl (take_ofW HT_.out HW_.out (by kernel_rfl)) (fun _ _ _ h => h) (Or.inl ⟨by rfl,?_⟩) hHeld ?_ ?_
                                   rotate_left
                                   · rintro w' ⟨s0,s1,s2,s3⟩
                                     go_simp
                                     with_reducible rfl
                                   rotate_left
                                   · simp only [Act.put,List.setIfInBounds_toArray,List.set_cons_zero,List.set_cons_succ,i64_w,i32_w]
                                     rfl
                                   refine take_ (i := 10) (N := some 56) (v := ?_) (a' := ?_) #[true,true,true,true,true,true,true,true,true,true,true,false,false,false,false,false,false,false,false] rfl rfl (take_ofW HT_.out HW_.out (by kernel_rfl)) (fun _ _ _ h => h) (Or.inl ⟨by rfl,?_⟩) hHeld ?_ ?_
                                   rotate_left
                                   · rintro w' ⟨s0,s1,s2,s3⟩
                                     go_simp
                                     with_reducible rfl
                                   rotate_left
                                   · simp only [Act.put,List.setIfInBounds_toArray,List.set_cons_zero,List.set_cons_succ,i64_w,i32_w]
                                     rfl
                                   refine pure_ (i := 11) (N := some 57) (v := ?_) (a' := ?_) #[true,true,true,true,true,true,true,true,true,true,true,true,false,false,false,false,false,false,false] rfl rfl (any_of HT_.out (by kernel_rfl)) (fun _ _ _ h => h) (Or.inl ⟨by rfl,?_⟩) ?_ ?_
                                   rotate_left
                                   · intro w'
                                     go_simp
                                     with_reducible rfl
                                   rotate_left
                                   · simp only [Act.put,List.setIfInBounds_toArray,List.set_cons_zero,List.set_cons_succ,i64_w,i32_w]
                                     rfl
                                   refine join_ (σ := Nat) 2 #[true,true,true,true,true,true,true,true,true,true,true,true,true,true,true,true,true,false,false] (fun s_ => [(58,.tuple #[.agg #[.int .i64 t462,.int .i64 t463],.bool false]),(13,.pointer (some ⟨s_,0,none⟩)),(45,.tuple #[.agg #[.int .i64 t462,.int .i64 t463],.bool false]),(59,.agg #[.int .i64 t462,.int .i64 t463]),(60,.bool false)]) (fun s_ w' => (w'.cell? (ad459.add ((rd l2 x22_1)).toNat) = some (.int .i64 (rd l0 (rd l2 x22_1))) ∧ w'.cell? (ad460.add (((rd l0 (rd l2 x22_1))).toNat * 2)) = some (.int .i64 ((rd_T41 x10_1 (rd l0 (rd l2 x22_1))).f0)) ∧ w'.cell? ⟨(ad460.add (((rd l0 (rd l2 x22_1))).toNat * 2)).block,(ad460.add (((rd l0 (rd l2 x22_1))).toNat * 2)).off + 1,none⟩ = some (.int .i64 ((rd_T41 x10_1 (rd l0 (rd l2 x22_1))).f1)) ∧ w'.cell? (ad461.add ((rd l2 x22_1)).toNat) = some (.int .i64 (rd l1 (rd l2 x22_1)))) ∧ (Kd.R k41 41 w' w.heap.size (fun k_ => k_ ≠ s_) (.slice (some ad460) x10_1.length co41) x10_1) ∧ (w'.heap[s_]? = some (.cells #[.int .i64 0,.int .i64 0] 41 (0,0))) ∧ (w.heap.size ≤ s_) ∧ (w.heap.size ≤ s_) ∧ (Below w.heap.size w w')) ?_ ?_
                                   rotate_left
                                   · intro hCont
                                     refine two_ (i := 12) (j := 16) (Ni := some 58) (Nj := some 13) #[true,true,true,true,true,true,true,true,true,true,true,true,true,false,false,false,false,false,false] #[true,true,true,true,true,true,true,true,true,true,true,true,false,false,false,false,true,false,false] rfl rfl rfl rfl (two_of HT_.out (by kernel_rfl)) (by decide) (by decide) (fun K hK => ?_) (fun K hK => ?_)
                                     · skip
                                       refine goes_ Try.func72 (by kernel_rfl) rfl #[.agg #[.int .i64 ((rd_T41 x10_1 (rd l0 (rd l2 x22_1))).f0),.int .i64 ((rd_T41 x10_1 (rd l0 (rd l2 x22_1))).f1)],.agg #[.int .i64 1,.int .i64 (rd l1 (rd l2 x22_1))]] (by rfl) rfl rfl (by (try simp only [List.map_toArray,List.map_cons,List.map_nil]);first | done | rfl | (simp only [List.length_drop,List.length_take];rfl)) ?_
                                       with_reducible refine (impl_Slot_plus.calls ((rd_T41 x10_1 (rd l0 (rd l2 x22_1))).f0) ((rd_T41 x10_1 (rd l0 (rd l2 x22_1))).f1) 1 (rd l1 (rd l2 x22_1)) t462 t463 false _ A27.out).mono ?_
                                       rintro e w42 ⟨rfl,hb⟩
                                       have HS1_ := (hb.cell (World.block_lt_of_cell? _ _ (hHeld.2.1))).trans (hHeld.2.1)
                                       have HS2_ := (hb.cell (World.block_lt_of_cell? _ _ (hHeld.2.2.1))).trans (hHeld.2.2.1)
                                       refine ⟨_,rfl,?_⟩
                                       have n0_ := Aside0.mk (Kd.R_below (by (with_reducible repeat (first | apply Kd.R_alloc | apply Kd.R_drewN | apply Kd.R_drew));exact HO_10.out) hb)
                                       have n1_ := Aside0.mk (below_step (by repeat (first | (with_reducible first | exact HB.out | apply below_alloc | apply pw_below_drewN | apply below_drew1) | exact HB.out)) hb)
                                       clear HO_10
                                       clear HB
                                       have HO_10 := n0_
                                       have HB := n1_
                                       clear n0_ n1_
                                       (try clear hb)
                                       (try clear hb2)
                                       (try clear hk)
                                       (try clear hi)
                                       refine hK.out _ _ ⟨((HB.out.cell (World.block_lt_of_cell? w _ hw459_0)).trans hw459_0),HS1_,HS2_,((HB.out.cell (World.block_lt_of_cell? w _ hw461_0)).trans hw461_0)⟩ (fun hHeld => ?_)
                                       clear hK K
                                       refine norm_ (a' := ?_) ?_ ?_
                                       rotate_left
                                       · show Act.put _ (some 58) _ = _
                                         simp only [Act.put,List.setIfInBounds_toArray,List.set_cons_zero,List.set_cons_succ,i64_w,i32_w]
                                         rfl
                                       refine pure_ (i := 13) (N := some 45) (v := ?_) (a' := ?_) #[true,true,true,true,true,true,true,true,true,true,true,true,true,true,false,false,false,false,false] rfl rfl (any_of HT_.out (by kernel_rfl)) (fun _ _ _ h => h) (Or.inl ⟨by rfl,?_⟩) ?_ ?_
                                       rotate_left
                                       · intro w'
                                         go_simp
                                         with_reducible rfl
                                       rotate_left
                                       · simp only [Act.put,List.setIfInBounds_toArray,List.set_cons_zero,List.set_cons_succ,i64_w,i32_w]
                                         rfl
                                       refine pure_ (i := 14) (N := some 59) (v := ?_) (a' := ?_) #[true,true,true,true,true,true,true,true,true,true,true,true,true,true,true,false,false,false,false] rfl rfl (any_of HT_.out (by kernel_rfl)) (fun _ _ _ h => h) (Or.inl ⟨by rfl,?_⟩) ?_ ?_
                                       rotate_left
                                       · intro w'
                                         go_simp
                                         with_reducible rfl
                                       rotate_left
                                       · simp only [Act.put,List.setIfInBounds_toArray,List.set_cons_zero,List.set_cons_succ,i64_w,i32_w]
                                         rfl
                                       refine pure_ (i := 15) (N := some 60) (v := ?_) (a' := ?_) #[true,true,true,true,true,true,true,true,true,true,true,true,true,true,true,true,false,false,false] rfl rfl (any_of HT_.out (by kernel_rfl)) (fun _ _ _ h => h) (Or.inl ⟨by rfl,?_⟩) ?_ ?_
                                       rotate_left
                                       · intro w'
                                         go_simp
                                         with_reducible rfl
                                       rotate_left
                                       · simp only [Act.put,List.setIfInBounds_toArray,List.set_cons_zero,List.set_cons_succ,i64_w,i32_w]
                                         rfl
                                       refine one_ (i := 16) (N := some 13) #[true,true,true,true,true,true,true,true,true,true,true,true,true,true,true,true,true,false,false] rfl rfl (one_of HT_.out (by kernel_rfl)) (by decide) (fun K hK => ?_)
                                       refine box_step ?hg (N := 13) ?hd (cs := #[.int .i64 0,.int .i64 0]) (t := 41) ?hr ?_;(case hd => rfl);(case hg => rfl);(case hr => first | (go_simp;done) | (go_simp;rfl))
                                       intro gb465 hg w43 hbox hb
                                       have HS1_ := (hb.cell (World.block_lt_of_cell? _ _ (hHeld.2.1))).trans (hHeld.2.1)
                                       have HS2_ := (hb.cell (World.block_lt_of_cell? _ _ (hHeld.2.2.1))).trans (hHeld.2.2.1)
                                       have n0_ := Aside0.mk (Kd.R_below (Kd.R_elderB (by (with_reducible repeat (first | apply Kd.R_alloc | apply Kd.R_drewN | apply Kd.R_drew));exact HO_10.out) gb465 (Nat.le_of_eq hg.symm)) hb)
                                       have n1_ := Aside0.mk (below_step (by repeat (first | (with_reducible first | exact HB.out | apply below_alloc | apply pw_below_drewN | apply below_drew1) | exact HB.out)) hb)
                                       have n2_ := Aside0.mk (hbox)
                                       have n3_ := Aside0.mk ((by rw [hg];exact (below_size (by repeat (first | (with_reducible first | exact HB.out | apply below_alloc | apply pw_below_drewN | apply below_drew1) | exact HB.out))) : w.heap.size ≤ gb465))
                                       have n4_ := Aside0.mk ((by rw [hg];exact (below_size (by repeat (first | (with_reducible first | exact HB.out | apply below_alloc | apply pw_below_drewN | apply below_drew1) | exact HB.out))) : w.heap.size ≤ gb465))
                                       clear HO_10
                                       clear HB
                                       have HO_10 := n0_
                                       have HB := n1_
                                       have BK465 := n2_
                                       have GW465 := n3_
                                       have GE465 := n4_
                                       clear n0_ n1_ n2_ n3_ n4_
                                       clear hb hbox hg
                                       refine hK.out _ _ ⟨((HB.out.cell (World.block_lt_of_cell? w _ hw459_0)).trans hw459_0),HS1_,HS2_,((HB.out.cell (World.block_lt_of_cell? w _ hw461_0)).trans hw461_0)⟩ (fun hHeld => ?_)
                                       clear hK K
                                       refine norm_ (a' := ?_) ?_ ?_
                                       rotate_left
                                       · show Act.put _ (some 13) _ = _
                                         simp only [Act.put,List.setIfInBounds_toArray,List.set_cons_zero,List.set_cons_succ,i64_w,i32_w]
                                         rfl
                                       exact norm_ (by simp only [putAll,Act.put,List.setIfInBounds_toArray,List.set_cons_zero,List.set_cons_succ]) (hCont (gb465) _ ⟨hHeld,(by (with_reducible repeat (first | apply Kd.R_alloc | apply Kd.R_drewN | apply Kd.R_drew));exact Kd.R_mono HO_10.out (fun _ hk => hk.2)),(by (with_reducible repeat (first | refine blk_drewN ?_ _ | refine blk_drew ?_ | refine blk_alloc ?_ _));exact BK465.out),GW465.out,GE465.out,(by repeat (first | (with_reducible first | exact HB.out | apply below_alloc | apply pw_below_drewN | apply below_drew1 | refine below_set ?_ GE465.out) | exact HB.out))⟩)
                                     · skip
                                       refine box_step ?hg (N := 13) ?hd (cs := #[.int .i64 0,.int .i64 0]) (t := 41) ?hr ?_;(case hd => rfl);(case hg => rfl);(case hr => first | (go_simp;done) | (go_simp;rfl))
                                       intro gb465 hg w42 hbox hb
                                       have HS1_ := (hb.cell (World.block_lt_of_cell? _ _ (hHeld.2.1))).trans (hHeld.2.1)
                                       have HS2_ := (hb.cell (World.block_lt_of_cell? _ _ (hHeld.2.2.1))).trans (hHeld.2.2.1)
                                       have n0_ := Aside0.mk (Kd.R_below (Kd.R_elderB (by (with_reducible repeat (first | apply Kd.R_alloc | apply Kd.R_drewN | apply Kd.R_drew));exact HO_10.out) gb465 (Nat.le_of_eq hg.symm)) hb)
                                       have n1_ := Aside0.mk (below_step (by repeat (first | (with_reducible first | exact HB.out | apply below_alloc | apply pw_below_drewN | apply below_drew1) | exact HB.out)) hb)
                                       have n2_ := Aside0.mk (hbox)
                                       have n3_ := Aside0.mk ((by rw [hg];exact (below_size (by repeat (first | (with_reducible first | exact HB.out | apply below_alloc | apply pw_below_drewN | apply below_drew1) | exact HB.out))) : w.heap.size ≤ gb465))
                                       have n4_ := Aside0.mk ((by rw [hg];exact (below_size (by repeat (first | (with_reducible first | exact HB.out | apply below_alloc | apply pw_below_drewN | apply below_drew1) | exact HB.out))) : w.heap.size ≤ gb465))
                                       clear HO_10
                                       clear HB
                                       have HO_10 := n0_
                                       have HB := n1_
                                       have BK465 := n2_
                                       have GW465 := n3_
                                       have GE465 := n4_
                                       clear n0_ n1_ n2_ n3_ n4_
                                       clear hb hbox hg
                                       refine hK.out _ _ ⟨((HB.out.cell (World.block_lt_of_cell? w _ hw459_0)).trans hw459_0),HS1_,HS2_,((HB.out.cell (World.block_lt_of_cell? w _ hw461_0)).trans hw461_0)⟩ (fun hHeld => ?_)
                                       clear hK K
                                       refine norm_ (a' := ?_) ?_ ?_
                                       rotate_left
                                       · show Act.put _ (some 13) _ = _
                                         simp only [Act.put,List.setIfInBounds_toArray,List.set_cons_zero,List.set_cons_succ,i64_w,i32_w]
                                         rfl
                                       refine one_ (i := 12) (N := some 58) #[true,true,true,true,true,true,true,true,true,true,true,true,true,false,false,false,true,false,false] rfl rfl (one_of HT_.out (by kernel_rfl)) (by decide) (fun K hK => ?_)
                                       refine goes_ Try.func72 (by kernel_rfl) rfl #[.agg #[.int .i64 ((rd_T41 x10_1 (rd l0 (rd l2 x22_1))).f0),.int .i64 ((rd_T41 x10_1 (rd l0 (rd l2 x22_1))).f1)],.agg #[.int .i64 1,.int .i64 (rd l1 (rd l2 x22_1))]] (by rfl) rfl rfl (by (try simp only [List.map_toArray,List.map_cons,List.map_nil]);first | done | rfl | (simp only [List.length_drop,List.length_take];rfl)) ?_
                                       with_reducible refine (impl_Slot_plus.calls ((rd_T41 x10_1 (rd l0 (rd l2 x22_1))).f0) ((rd_T41 x10_1 (rd l0 (rd l2 x22_1))).f1) 1 (rd l1 (rd l2 x22_1)) t462 t463 false _ A27.out).mono ?_
                                       rintro e w43 ⟨rfl,hb⟩
                                       have HS1_ := (hb.cell (World.block_lt_of_cell? _ _ (hHeld.2.1))).trans (hHeld.2.1)
                                       have HS2_ := (hb.cell (World.block_lt_of_cell? _ _ (hHeld.2.2.1))).trans (hHeld.2.2.1)
                                       refine ⟨_,rfl,?_⟩
                                       have n0_ := Aside0.mk (Kd.R_below (by (with_reducible repeat (first | apply Kd.R_alloc | apply Kd.R_drewN | apply Kd.R_drew));exact HO_10.out) hb)
                                       have n1_ := Aside0.mk (blk_below (g := gb465) (o := .cells #[.int .i64 0,.int .i64 0] 41 (0,0)) (by (with_reducible repeat (first | refine blk_drewN ?_ _ | refine blk_drew ?_ | refine blk_alloc ?_ _));exact BK465.out) hb)
                                       have n2_ := Aside0.mk (below_step (by repeat (first | (with_reducible first | exact HB.out | apply below_alloc | apply pw_below_drewN | apply below_drew1 | refine below_set ?_ GE465.out) | exact HB.out)) hb)
                                       clear HO_10
                                       clear BK465
                                       clear HB
                                       have HO_10 := n0_
                                       have BK465 := n1_
                                       have HB := n2_
                                       clear n0_ n1_ n2_
                                       (try clear hb)
                                       (try clear hb2)
                                       (try clear hk)
                                       (try clear hi)
                                       refine hK.out _ _ ⟨((HB.out.cell (World.block_lt_of_cell? w _ hw459_0)).trans hw459_0),HS1_,HS2_,((HB.out.cell (World.block_lt_of_cell? w _ hw461_0)).trans hw461_0)⟩ (fun hHeld => ?_)
                                       clear hK K
                                       refine norm_ (a' := ?_) ?_ ?_
                                       rotate_left
                                       · show Act.put _ (some 58) _ = _
                                         simp only [Act.put,List.setIfInBounds_toArray,List.set_cons_zero,List.set_cons_succ,i64_w,i32_w]
                                         rfl
                                       refine pure_ (i := 13) (N := some 45) (v := ?_) (a' := ?_) #[true,true,true,true,true,true,true,true,true,true,true,true,true,true,false,false,true,false,false] rfl rfl (any_of HT_.out (by kernel_rfl)) (fun _ _ _ h => h) (Or.inl ⟨by rfl,?_⟩) ?_ ?_
                                       rotate_left
                                       · intro w'
                                         go_simp
                                         with_reducible rfl
                                       rotate_left
                                       · simp only [Act.put,List.setIfInBounds_toArray,List.set_cons_zero,List.set_cons_succ,i64_w,i32_w]
                                         rfl
                                       refine pure_ (i := 14) (N := some 59) (v := ?_) (a' := ?_) #[true,true,true,true,true,true,true,true,true,true,true,true,true,true,true,false,true,false,false] rfl rfl (any_of HT_.out (by kernel_rfl)) (fun _ _ _ h => h) (Or.inl ⟨by rfl,?_⟩) ?_ ?_
                                       rotate_left
                                       · intro w'
                                         go_simp
                                         with_reducible rfl
                                       rotate_left
                                       · simp only [Act.put,List.setIfInBounds_toArray,List.set_cons_zero,List.set_cons_succ,i64_w,i32_w]
                                         rfl
                                       refine pure_ (i := 15) (N := some 60) (v := ?_) (a' := ?_) #[true,true,true,true,true,true,true,true,true,true,true,true,true,true,true,true,true,false,false] rfl rfl (any_of HT_.out (by kernel_rfl)) (fun _ _ _ h => h) (Or.inl ⟨by rfl,?_⟩) ?_ ?_
                                       rotate_left
                                       · intro w'
                                         go_simp
                                         with_reducible rfl
                                       rotate_left
                                       · simp only [Act.put,List.setIfInBounds_toArray,List.set_cons_zero,List.set_cons_succ,i64_w,i32_w]
                                         rfl
                                       exact norm_ (by simp only [putAll,Act.put,List.setIfInBounds_toArray,List.set_cons_zero,List.set_cons_succ]) (hCont (gb465) _ ⟨hHeld,(by (with_reducible repeat (first | apply Kd.R_alloc | apply Kd.R_drewN | apply Kd.R_drew));exact Kd.R_mono HO_10.out (fun _ hk => hk.2)),(by (with_reducible repeat (first | refine blk_drewN ?_ _ | refine blk_drew ?_ | refine blk_alloc ?_ _));exact BK465.out),GW465.out,GE465.out,(by repeat (first | (with_reducible first | exact HB.out | apply below_alloc | apply pw_below_drewN | apply below_drew1 | refine below_set ?_ GE465.out) | exact HB.out))⟩)
                                   rintro gb465 w44 ⟨hS_,h0_,h1_,h2_,h3_,h4_⟩
                                   have n0_ : Aside0 (Kd.R k41 41 w44 w.heap.size (fun k_ => k_ ≠ gb465) (.slice (some ad460) x10_1.length co41) x10_1) := ⟨h0_⟩
                                   have n1_ : Aside0 (w44.heap[gb465]? = some (.cells #[.int .i64 0,.int .i64 0] 41 (0,0))) := ⟨h1_⟩
                                   have n2_ : Aside0 (w.heap.size ≤ gb465) := ⟨h2_⟩
                                   have n3_ : Aside0 (w.heap.size ≤ gb465) := ⟨h3_⟩
                                   have n4_ : Aside0 (Below w.heap.size w w44) := ⟨h4_⟩
                                   clear HO_10
                                   clear HB
                                   clear h0_ h1_ h2_ h3_ h4_
                                   have HO_10 := n0_
                                   have BK465 := n1_
                                   have GW465 := n2_
                                   have GE465 := n3_
                                   have HB := n4_
                                   clear n0_ n1_ n2_ n3_ n4_
                                   have hHeld : w44.cell? (ad459.add ((rd l2 x22_1)).toNat) = some (.int .i64 (rd l0 (rd l2 x22_1))) ∧ w44.cell? (ad460.add (((rd l0 (rd l2 x22_1))).toNat * 2)) = some (.int .i64 ((rd_T41 x10_1 (rd l0 (rd l2 x22_1))).f0)) ∧ w44.cell? ⟨(ad460.add (((rd l0 (rd l2 x22_1))).toNat * 2)).block,(ad460.add (((rd l0 (rd l2 x22_1))).toNat * 2)).off + 1,none⟩ = some (.int .i64 ((rd_T41 x10_1 (rd l0 (rd l2 x22_1))).f1)) ∧ w44.cell? (ad461.add ((rd l2 x22_1)).toNat) = some (.int .i64 (rd l1 (rd l2 x22_1))) := hS_
                                   refine norm_ (a' := ?_) ?_ ?_
                                   rotate_left
                                   · simp only [putAll,Act.put,List.setIfInBounds_toArray,List.set_cons_zero,List.set_cons_succ]
                                     rfl
                                   refine one_ (i := 17) (N := none) #[true,true,true,true,true,true,true,true,true,true,true,true,true,true,true,true,true,true,false] rfl rfl (one_of HT_.out (by kernel_rfl)) (by decide) (fun K hK => ?_)
                                   have hs45 : w44.cell? ⟨gb465,0,none⟩ = some (.int .i64 0) := (blk_cell BK465.out 0).trans rfl
                                   have hfs45 := blk_frozen BK465.out 0
                                   have hs46 : w44.cell? ⟨gb465,1,none⟩ = some (.int .i64 0) := (blk_cell BK465.out 1).trans rfl
                                   have hfs46 := blk_frozen BK465.out 1
                                   refine skip_ (w1 := ?_) (by rfl) rfl ?_ ?_
                                   rotate_left
                                   · go_simp
                                     rfl
                                   refine hK.out _ _ ⟨((cell_far (p := ⟨gb465,_,none⟩) (by first | exact Nat.ne_of_lt (Nat.lt_of_lt_of_le (by have := World.block_lt_of_cell? _ _ hw459_0;first | rwa [add_block] at this | exact this) GW465.out) | (rw [add_block];exact Nat.ne_of_lt (Nat.lt_of_lt_of_le (by have := World.block_lt_of_cell? _ _ hw459_0;first | rwa [add_block] at this | exact this) GW465.out)) | (show (Addr.add _ _).block ≠ _;rw [add_block];exact Nat.ne_of_lt (Nat.lt_of_lt_of_le (by have := World.block_lt_of_cell? _ _ hw459_0;first | rwa [add_block] at this | exact this) GW465.out)) | (dsimp only;exact Nat.ne_of_lt (Nat.lt_of_lt_of_le (by have := World.block_lt_of_cell? _ _ hw459_0;first | rwa [add_block] at this | exact this) GW465.out))) _).trans (((cell_far (p := ⟨gb465,_,none⟩) (by first | exact Nat.ne_of_lt (Nat.lt_of_lt_of_le (by have := World.block_lt_of_cell? _ _ hw459_0;first | rwa [add_block] at this | exact this) GW465.out) | (rw [add_block];exact Nat.ne_of_lt (Nat.lt_of_lt_of_le (by have := World.block_lt_of_cell? _ _ hw459_0;first | rwa [add_block] at this | exact this) GW465.out)) | (show (Addr.add _ _).block ≠ _;rw [add_block];exact Nat.ne_of_lt (Nat.lt_of_lt_of_le (by have := World.block_lt_of_cell? _ _ hw459_0;first | rwa [add_block] at this | exact this) GW465.out)) | (dsimp only;exact Nat.ne_of_lt (Nat.lt_of_lt_of_le (by have := World.block_lt_of_cell? _ _ hw459_0;first | rwa [add_block] at this | exact this) GW465.out))) _).trans (hHeld.1)))),((cell_far (p := ⟨gb465,_,none⟩) (by first | exact Kd.own_blk (Kd.R_away HO_10.out (fun _ hk => hk)) | (rw [add_block];exact Kd.own_blk (Kd.R_away HO_10.out (fun _ hk => hk))) | (show (Addr.add _ _).block ≠ _;rw [add_block];exact Kd.own_blk (Kd.R_away HO_10.out (fun _ hk => hk))) | (dsimp only;exact Kd.own_blk (Kd.R_away HO_10.out (fun _ hk => hk)))) _).trans (((cell_far (p := ⟨gb465,_,none⟩) (by first | exact Kd.own_blk (Kd.R_away HO_10.out (fun _ hk => hk)) | (rw [add_block];exact Kd.own_blk (Kd.R_away HO_10.out (fun _ hk => hk))) | (show (Addr.add _ _).block ≠ _;rw [add_block];exact Kd.own_blk (Kd.R_away HO_10.out (fun _ hk => hk))) | (dsimp only;exact Kd.own_blk (Kd.R_away HO_10.out (fun _ hk => hk)))) _).trans (hHeld.2.1)))),((cell_far (p := ⟨gb465,_,none⟩) (by first | exact Kd.own_blk (Kd.R_away HO_10.out (fun _ hk => hk)) | (rw [add_block];exact Kd.own_blk (Kd.R_away HO_10.out (fun _ hk => hk))) | (show (Addr.add _ _).block ≠ _;rw [add_block];exact Kd.own_blk (Kd.R_away HO_10.out (fun _ hk => hk))) | (dsimp only;exact Kd.own_blk (Kd.R_away HO_10.out (fun _ hk => hk)))) _).trans (((cell_far (p := ⟨gb465,_,none⟩) (by first | exact Kd.own_blk (Kd.R_away HO_10.out (fun _ hk => hk)) | (rw [add_block];exact Kd.own_blk (Kd.R_away HO_10.out (fun _ hk => hk))) | (show (Addr.add _ _).block ≠ _;rw [add_block];exact Kd.own_blk (Kd.R_away HO_10.out (fun _ hk => hk))) | (dsimp only;exact Kd.own_blk (Kd.R_away HO_10.out (fun _ hk => hk)))) _).trans (hHeld.2.2.1)))),((cell_far (p := ⟨gb465,_,none⟩) (by first | exact Nat.ne_of_lt (Nat.lt_of_lt_of_le (by have := World.block_lt_of_cell? _ _ hw461_0;first | rwa [add_block] at this | exact this) GW465.out) | (rw [add_block];exact Nat.ne_of_lt (Nat.lt_of_lt_of_le (by have := World.block_lt_of_cell? _ _ hw461_0;first | rwa [add_block] at this | exact this) GW465.out)) | (show (Addr.add _ _).block ≠ _;rw [add_block];exact Nat.ne_of_lt (Nat.lt_of_lt_of_le (by have := World.block_lt_of_cell? _ _ hw461_0;first | rwa [add_block] at this | exact this) GW465.out)) | (dsimp only;exact Nat.ne_of_lt (Nat.lt_of_lt_of_le (by have := World.block_lt_of_cell? _ _ hw461_0;first | rwa [add_block] at this | exact this) GW465.out))) _).trans (((cell_far (p := ⟨gb465,_,none⟩) (by first | exact Nat.ne_of_lt (Nat.lt_of_lt_of_le (by have := World.block_lt_of_cell? _ _ hw461_0;first | rwa [add_block] at this | exact this) GW465.out) | (rw [add_block];exact Nat.ne_of_lt (Nat.lt_of_lt_of_le (by have := World.block_lt_of_cell? _ _ hw461_0;first | rwa [add_block] at this | exact this) GW465.out)) | (show (Addr.add _ _).block ≠ _;rw [add_block];exact Nat.ne_of_lt (Nat.lt_of_lt_of_le (by have := World.block_lt_of_cell? _ _ hw461_0;first | rwa [add_block] at this | exact this) GW465.out)) | (dsimp only;exact Nat.ne_of_lt (Nat.lt_of_lt_of_le (by have := World.block_lt_of_cell? _ _ hw461_0;first | rwa [add_block] at this | exact this) GW465.out))) _).trans (hHeld.2.2.2))))⟩ (fun hHeld => ?_)
                                   clear hK K
                                   refine pure_ (i := 18) (N := some 14) (v := ?_) (a' := ?_) #[true,true,true,true,true,true,true,true,true,true,true,true,true,true,true,true,true,true,true] rfl rfl (any_of HT_.out (by kernel_rfl)) (fun _ _ _ h => h) (Or.inl ⟨by rfl,?_⟩) ?_ ?_
                                   rotate_left
                                   · intro w'
                                     go_simp
                                     with_reducible rfl
                                   rotate_left
                                   · simp only [Act.put,List.setIfInBounds_toArray,List.set_cons_zero,List.set_cons_succ,i64_w,i32_w]
                                     rfl
                                   refine done_ (done_of HT_.out (by kernel_rfl)) ?_
                                   try go_wp2
                                   go_ret2
                                   exact ⟨_,by first | rfl | (simp [errW_none,errW_some] <;> rfl) | (simp [*,errW_none,errW_some] <;> rfl),by first | exact Kd.R_nil _ _ _ _ _ | exact Kd.N_nil _ _ _ _ _ | exact Kd.V_nil _ _ _ _ _ | exact Kd.Q_nil _ _ _ _ _ | exact Kd.S_nil _ _ _ _ _,by repeat (first | (with_reducible first | exact HB.out | apply below_alloc | apply pw_below_drewN | apply below_drew1 | refine below_set ?_ GE465.out) | exact HB.out)⟩
                               · rw [if_neg c26] at H
                                 exact absurd H (by simp)
                             · rw [if_neg c25] at H
                               exact absurd H (by simp)
                           · rw [if_neg c24] at H
                             exact absurd H (by simp)
                         · rw [if_neg c23] at H
                           exact absurd H (by simp)
                       · rw [if_neg c22] at H
                         exact absurd H (by simp)
               · rw [if_neg c13] at H
                 exact absurd H (by simp)
             · rw [if_neg c12] at H
               exact absurd H (by simp)
           · rw [if_neg c11] at H
             have c11b0 : decide (x22_1 < (l2.length : Int)) = false := decide_eq_false c11
             clear c11
             simp only [Option.some.injEq,Prod.mk.injEq] at H
             obtain ⟨rfl,rfl⟩ := H
             go_wp2
             go_ret2
             exact ⟨_,by first | rfl | (simp [errW_none,errW_some] <;> rfl) | (simp [*,errW_none,errW_some] <;> rfl),by (with_reducible repeat (first | apply Kd.R_alloc | apply Kd.R_drewN | apply Kd.R_drew));exact HO_10.out,by repeat (first | (with_reducible first | exact HB.out | apply below_alloc | apply pw_below_drewN | apply below_drew1) | exact HB.out)⟩
     · rw [if_neg c8] at H
       exact absurd H (by simp)
   · rw [if_neg c7] at H
     exact absurd H (by simp)
 · replace c6 := Bool.eq_false_iff.mpr c6
   subst c6
   have H1 : (some (([] : List (S41)),false)) = some (r1,r2) := by rw [if_neg (show ¬ (false = true) by decide)] at H;exact H
   clear H
   have H := H1
   clear H1
   simp only [Option.some.injEq,Prod.mk.injEq] at H
   obtain ⟨rfl,rfl⟩ := H
   go_enter Try.func36,Try.ntmps36
   go_wp2_with (first | ((with_reducible refine gate_callee (f := 90) rfl ?_);refine goesL_ (some 16) rfl rfl Try.func90 (by kernel_rfl) rfl #[.int .i64 a3,.int .i64 1,.int .i64 8] rfl (by (try simp only [List.map_toArray,List.map_cons,List.map_nil]);first | done | rfl | (simp only [List.length_drop,List.length_take];rfl)) ?_;(with_reducible refine (impl_within.calls a3 1 8 false _ A5.out).mono ?_);rintro e w' ⟨rfl,⟨nd,rfl⟩⟩;refine ⟨_,rfl,?_⟩))
   go_ret2
   exact ⟨_,by first | rfl | (simp [errW_none,errW_some] <;> rfl) | (simp [*,errW_none,errW_some] <;> rfl),by first | exact Kd.R_nil _ _ _ _ _ | exact Kd.N_nil _ _ _ _ _ | exact Kd.V_nil _ _ _ _ _ | exact Kd.Q_nil _ _ _ _ _ | exact Kd.S_nil _ _ _ _ _,by repeat (first | (with_reducible first | exact HB.out | apply below_alloc | apply pw_below_drewN | apply below_drew1) | exact HB.out)⟩

end Go.Proofs.Ytohngimlmcdiiaa.Q
