/- The machine side of this seat's laws: what each Go function that they reach comes to. Conditions: none. -/
import Derived.Test.YtohngimlmcdiiaaQx0
import Derived.Test.YtohngimlmcdiiaaQx4
import Derived.Test.YtohngimlmcdiiaaQx17
namespace Go.Proofs.Ytohngimlmcdiiaa.Q
open Go.RowKit Go.Proofs.YtohngimlmcdiiaaW.PrintWords Go.Proofs.YtohngimlmcdiiaaW.PrintLast Go.Proofs.YtohngimlmcdiiaaW.PrintMore
attribute [local go_sem] max2_int min2_int max_two min_two max_three min_three max_four min_four   -- for this text's walks alone
set_option linter.unusedVariables false
set_option linter.unusedSimpArgs false

/-! ### spec_HistOf: function 34 -/
mutual
def spec_HistOf.l0 : Nat → List Int → List Int → List Int → Int → List (S41) → List (S41) → Int → Option ((List (S41)) × Bool)
 | 0,_,_,_,_,_,_,_ => none
 | k + 1,x0,x1,x2,x3,x10,x11,x12 => if x12 < (x2.length : Int) then (if 0 ≤ x12 then ((spec_l1In.f (rd x2 x12) 0 (wrap64 ((x0.length : Int) - 1))).bind fun t433 => (if t433 = true then ((spec_l1In.f (rd x2 x12) 0 (wrap64 ((x1.length : Int) - 1))).bind fun t434 => (if t434 = true then (if 0 ≤ (rd x2 x12) then (if (rd x2 x12) < (x0.length : Int) then ((spec_l1In.f (rd x0 (rd x2 x12)) 0 (wrap64 (x3 - 1))).bind fun t436 => (spec_HistOf.j1 k x0 x1 x2 x3 x10 x11 x12 (rd x2 x12) (!t436))) else (none)) else (none)) else (spec_HistOf.j1 k x0 x1 x2 x3 x10 x11 x12 (rd x2 x12) true))) else (spec_HistOf.j1 k x0 x1 x2 x3 x10 x11 x12 (rd x2 x12) true))) else (none)) else (some (x11,true))
def spec_HistOf.j1 : Nat → List Int → List Int → List Int → Int → List (S41) → List (S41) → Int → Int → Bool → Option ((List (S41)) × Bool)
 | 0,_,_,_,_,_,_,_,_,_ => none
 | k + 1,x0,x1,x2,x3,x10,x11,x12,x13,x56 => if x56 = true then (some (x10,false)) else (if 0 ≤ x13 then (if x13 < (x0.length : Int) then (if 0 ≤ (rd x0 x13) then (if (rd x0 x13) < (x11.length : Int) then (if x13 < (x1.length : Int) then ((spec_l13Add.f ((rd_T41 x11 (rd x0 x13)).f0) ((rd_T41 x11 (rd x0 x13)).f1) 1 (rd x1 x13)).bind fun bt440 => (if bt440.2.2 = true then (spec_HistOf.l0 k x0 x1 x2 x3 x10 (x11.set ((rd x0 x13) : Int).toNat (⟨bt440.1,bt440.2.1⟩ : S41)) (wrap64 (x12 + 1))) else (some (x10,false)))) else (none)) else (none)) else (none)) else (none)) else (none))
end
def spec_HistOf.f (k : Nat) (l0 : List Int) (l1 : List Int) (l2 : List Int) (a3 : Int) : Option ((List (S41)) × Bool) := (some (([] : List (S41)) : List (S41))).bind fun y425 => ((spec_l1In.f a3 1 8).bind fun t428 => (if t428 = true then (if 0 ≤ a3 then (if (a3 : Int).toNat ≤ 17592186044416 then (spec_HistOf.l0 k l0 l1 l2 a3 y425 (List.replicate (a3 : Int).toNat z41) 0) else (none)) else (none)) else (some (y425,false))))
theorem spec_HistOf.mono_l : ∀ k,(∀ y0 y1 y2 y3 y4 y5 y6,LeO (spec_HistOf.l0 k y0 y1 y2 y3 y4 y5 y6) (spec_HistOf.l0 (k + 1) y0 y1 y2 y3 y4 y5 y6)) ∧ (∀ y0 y1 y2 y3 y4 y5 y6 y7 y8,LeO (spec_HistOf.j1 k y0 y1 y2 y3 y4 y5 y6 y7 y8) (spec_HistOf.j1 (k + 1) y0 y1 y2 y3 y4 y5 y6 y7 y8))
 | 0 => ⟨fun _ _ _ _ _ _ _ r h => by simp [spec_HistOf.l0] at h,fun _ _ _ _ _ _ _ _ _ r h => by simp [spec_HistOf.j1] at h⟩
 | k + 1 => by
   obtain ⟨ih0,ih1⟩ := spec_HistOf.mono_l k
   refine ⟨?_,?_⟩
   · intro y0 y1 y2 y3 y4 y5 y6
     unfold spec_HistOf.l0
     repeat' first
     | (with_reducible exact ih0 _ _ _ _ _ _ _)
     | (with_reducible exact ih1 _ _ _ _ _ _ _ _ _)
     | (with_reducible exact LeO.refl _)
     | (with_reducible exact LeO.none _)
     | (with_reducible refine LeO.ite ?_ ?_)
     | (with_reducible refine LeO.bind ?_ (fun _ => ?_))
     | exact ih0 _ _ _ _ _ _ _
     | exact ih1 _ _ _ _ _ _ _ _ _
     | exact LeO.none _
     | refine LeO.ite ?_ ?_
     | refine LeO.bind ?_ (fun _ => ?_)
   · intro y0 y1 y2 y3 y4 y5 y6 y7 y8
     unfold spec_HistOf.j1
     repeat' first
     | (with_reducible exact ih0 _ _ _ _ _ _ _)
     | (with_reducible exact ih1 _ _ _ _ _ _ _ _ _)
     | (with_reducible exact LeO.refl _)
     | (with_reducible exact LeO.none _)
     | (with_reducible refine LeO.ite ?_ ?_)
     | (with_reducible refine LeO.bind ?_ (fun _ => ?_))
     | exact ih0 _ _ _ _ _ _ _
     | exact ih1 _ _ _ _ _ _ _ _ _
     | exact LeO.none _
     | refine LeO.ite ?_ ?_
     | refine LeO.bind ?_ (fun _ => ?_)
theorem spec_HistOf.mono : ∀ a0 a1 a2 a3 k,LeO (spec_HistOf.f k a0 a1 a2 a3) (spec_HistOf.f (k + 1) a0 a1 a2 a3) := by
 intro a0 a1 a2 a3 k
 obtain ⟨ih0,ih1⟩ := spec_HistOf.mono_l k
 unfold spec_HistOf.f
 repeat' first
     | (with_reducible exact ih0 _ _ _ _ _ _ _)
     | (with_reducible exact ih1 _ _ _ _ _ _ _ _ _)
     | (with_reducible exact LeO.refl _)
     | (with_reducible exact LeO.none _)
     | (with_reducible refine LeO.ite ?_ ?_)
     | (with_reducible refine LeO.bind ?_ (fun _ => ?_))
     | exact ih0 _ _ _ _ _ _ _
     | exact ih1 _ _ _ _ _ _ _ _ _
     | exact LeO.none _
     | refine LeO.ite ?_ ?_
     | refine LeO.bind ?_ (fun _ => ?_)
def spec_HistOf.T11 : Bool × List (List Nat × List Nat) := (true,[([],[]),([],[]),([],[]),([1,2],[1,2]),([3],[3]),([0,4],[0,4]),([5],[5]),([],[]),([],[]),([7,8],[7,8]),([9],[9]),([10],[10]),([6,11],[6,11]),([12],[12]),([13],[13]),([13],[13]),([],[]),([16,14,12,0,1,2,3,4,5,6,7,8,9,10,11,12,13,14,16],[14,16]),([15,17,0,1,2,3,4,5,6,7,8,9,10,11,12,13,14,15,16,17],[15])])
def spec_HistOf.B11 : List Nat := [0,0,0,6,14,31,63,0,0,384,896,1920,4095,8191,16383,16383,0,98303,262143]
theorem spec_HistOf.tab11 : rtab .any (opsOf Try.f34 11) = spec_HistOf.T11 := by kernel_rfl
theorem spec_HistOf.bits11 : waitsOk spec_HistOf.T11.2 spec_HistOf.B11 = true := by kernel_rfl
def spec_HistOf.T14 : Bool × List (List Nat × List Nat) := (true,[([],[]),([],[]),([],[]),([1,2],[1,2]),([3],[3]),([],[]),([0,4,0,1,2,3,4,5],[0,4]),([6,5,0,1,2,3,4,5],[5,6])])
def spec_HistOf.B14 : List Nat := [0,0,0,6,14,0,63,127]
theorem spec_HistOf.tab14 : rtab .any (opsOf Try.f34 14) = spec_HistOf.T14 := by kernel_rfl
theorem spec_HistOf.bits14 : waitsOk spec_HistOf.T14.2 spec_HistOf.B14 = true := by kernel_rfl
set_option maxHeartbeats 8000000 in
set_option maxRecDepth 100000 in
theorem spec_HistOf.calls (k : Nat) (A0 : Option Addr) (c0 : Nat) (l0 : List Int) (A1 : Option Addr) (c1 : Nat) (l1 : List Int) (A2 : Option Addr) (c2 : Nat) (l2 : List Int) (a3 : Int) (r1 : List (S41)) (r2 : Bool) (w : World) (hr0 : Kd.C (Kd.int .i64) w A0 l0.length l0) (hc0 : l0.length ≤ c0) (hr1 : Kd.C (Kd.int .i64) w A1 l1.length l1) (hc1 : l1.length ≤ c1) (hr2 : Kd.C (Kd.int .i64) w A2 l2.length l2) (hc2 : l2.length ≤ c2) (h : spec_HistOf.f k l0 l1 l2 a3 = some (r1,r2)) :
   Calls Try.prog 34 #[.slice A0 l0.length c0,.slice A1 l1.length c1,.slice A2 l2.length c2,.int .i64 a3] w fun e w' => ∃ v0_ : Value,e = .returned (.tuple #[v0_,.bool r2]) ∧ Kd.R k41 41 w' w.heap.size (fun _ => True) v0_ r1 ∧ Below w.heap.size w w' := by
 have hu41 := Try.underlying41
 have HR0 := Aside0.mk hr0
 have HC0 := Aside0.mk hc0
 clear hr0 hc0
 have HR1 := Aside0.mk hr1
 have HC1 := Aside0.mk hc1
 clear hr1 hc1
 have HR2 := Aside0.mk hr2
 have HC2 := Aside0.mk hc2
 clear hr2 hc2
 have HB := Aside0.mk (Below.refl w.heap.size w)
 have H : ((some (([] : List (S41)) : List (S41))).bind fun y425 => ((spec_l1In.f a3 1 8).bind fun t428 => (if t428 = true then (if 0 ≤ a3 then (if (a3 : Int).toNat ≤ 17592186044416 then (spec_HistOf.l0 k l0 l1 l2 a3 y425 (List.replicate (a3 : Int).toNat z41) 0) else (none)) else (none)) else (some (y425,false))))) = some (r1,r2) := h
 clear h
 obtain ⟨y425,hy425⟩ : ∃ y_ : List (S41),y_ = (([] : List (S41))) := ⟨_,rfl⟩
 replace H : ((spec_l1In.f a3 1 8).bind fun t428 => (if t428 = true then (if 0 ≤ a3 then (if (a3 : Int).toNat ≤ 17592186044416 then (spec_HistOf.l0 k l0 l1 l2 a3 y425 (List.replicate (a3 : Int).toNat z41) 0) else (none)) else (none)) else (some (y425,false)))) = some (r1,r2) := by first | (rw [hy425];with_reducible exact H) | (have H2_ := (Option.bind_some _ _).symm.trans H;rw [hy425];with_reducible exact H2_) | (have H2_ := (Option.bind_some _ _).symm.trans H;with_reducible exact H2_) | with_reducible exact H | (rw [hy425];exact H) | exact H
 have Ny425 := Aside0.mk hy425
 clear hy425
 replace H := Option.bind_eq_some_iff.mp H
 obtain ⟨t428,A50,H⟩ := H
 replace H : (if t428 = true then (if 0 ≤ a3 then (if (a3 : Int).toNat ≤ 17592186044416 then (spec_HistOf.l0 k l0 l1 l2 a3 y425 (List.replicate (a3 : Int).toNat z41) 0) else (none)) else (none)) else (some (y425,false))) = some (r1,r2) := H
 have A5 := Aside0.mk A50
 clear A50
 by_cases c6 : t428 = true
 · subst c6
   have H1 : (if 0 ≤ a3 then (if (a3 : Int).toNat ≤ 17592186044416 then (spec_HistOf.l0 k l0 l1 l2 a3 y425 (List.replicate (a3 : Int).toNat z41) 0) else (none)) else (none)) = some (r1,r2) := by rw [if_pos rfl] at H;exact H
   clear H
   have H := H1
   clear H1
   by_cases c7 : 0 ≤ a3
   · rw [if_pos c7] at H
     have c7b0 := eq_true c7
     have c7b1 : decide (0 ≤ a3) = true := decide_eq_true c7
     clear c7
     by_cases c8 : (a3 : Int).toNat ≤ 17592186044416
     · rw [if_pos c8] at H
       have c8b0 := eq_true c8
       have c8b1 : decide ((a3 : Int).toNat ≤ 17592186044416) = true := decide_eq_true c8
       clear c8
       obtain ⟨y429,hy429⟩ : ∃ y_ : List (S41),y_ = (List.replicate (a3 : Int).toNat z41) := ⟨_,rfl⟩
       replace H : (spec_HistOf.l0 k l0 l1 l2 a3 y425 y429 0) = some (r1,r2) := by first | (rw [hy429];with_reducible exact H) | (have H2_ := (Option.bind_some _ _).symm.trans H;rw [hy429];with_reducible exact H2_) | (have H2_ := (Option.bind_some _ _).symm.trans H;with_reducible exact H2_) | with_reducible exact H | (rw [hy429];exact H) | exact H
       have Ny429 := Aside0.mk hy429
       clear hy429
       have H' := Aside0.mk H
       clear H
       go_enter Try.func34,Try.ntmps34
       go_wp2_with (first | ((with_reducible refine gate_dst (N := 16) rfl ?_);(try (refine gate_guard (by rfl) ?_;dsimp only));refine Kd.R_lit k41 _ 41 ?hg (N := 16) ?hd (xs := ([] : List (S41))) (inner := []) (ok := fun _ => True) (okp := fun _ => True) ?hr ?hp (fun _ hk => hk) trivial (Below.refl _ _) (Nat.le_refl _) (by simp) ?_;(case hd => rfl);(case hg => rfl);(case hr => first | (go_simp;done) | (go_simp;rfl));(case hp => exact (Reps.none _ _));intro v426 w9 ho10 hb hg_ hnew_;clear hg_ hnew_;(first | rw [← Ny425.out] at ho10 | (simp only [Int.reduceToNat] at ho10;rw [← Ny425.out] at ho10));have n0_ := Aside0.mk (Kd.R_lower ho10 (below_size (by repeat (first | (with_reducible first | exact HB.out | apply below_alloc | apply pw_below_drewN | apply below_drew1) | exact HB.out))));have n1_ := Aside0.mk (below_step (by repeat (first | (with_reducible first | exact HB.out | apply below_alloc | apply pw_below_drewN | apply below_drew1) | exact HB.out)) hb);clear HB;have HO427 := n0_;have HB := n1_;clear n0_ n1_;clear hb ho10) | ((with_reducible refine gate_callee (f := 89) rfl ?_);refine goesL_ (some 18) rfl rfl Try.func89 (by kernel_rfl) rfl #[.int .i64 a3,.int .i64 1,.int .i64 8] rfl (by (try simp only [List.map_toArray,List.map_cons,List.map_nil]);first | done | rfl | (simp only [List.length_drop,List.length_take];rfl)) ?_;(with_reducible refine (spec_l1In.calls a3 1 8 true _ A5.out).mono ?_);rintro e w' ⟨rfl,⟨nd,rfl⟩⟩;refine ⟨_,rfl,?_⟩) | ((with_reducible refine gate_dst (N := 22) rfl ?_);(try (refine gate_guard (by rfl) ?_;dsimp only));refine Kd.R_make k41 _ 41 rfl (N := 22) rfl 24 _ _ rfl a3 rfl rfl Try.underlying24 (.agg #[(.int .i64 0),(.int .i64 0)]) 16 info41 rfl (by decide) (by omega) z41 (ok := fun _ => True) (okp := fun _ => True) (k41_mkM _ _ _ z41 ) (fun _ hk => hk) trivial (of_decide_eq_true (by first | (with_reducible assumption) | assumption)) (Nat.le_trans (Nat.mul_le_mul_right _ (of_decide_eq_true (by first | (with_reducible assumption) | assumption) : a3.toNat ≤ 17592186044416)) (by omega)) (Below.refl _ _) (Nat.le_refl _) ?_;intro v430 w11 ho12 hb hg_ hnew_;clear hg_ hnew_;(first | rw [← Ny429.out] at ho12 | (simp only [Int.reduceToNat] at ho12;rw [← Ny429.out] at ho12));have n0_ := Aside0.mk (Kd.R_elder' (by (with_reducible repeat (first | apply Kd.R_alloc | apply Kd.R_drewN | apply Kd.R_drew));exact HO427.out) (Kd.R_base ho12) hb);have n1_ := Aside0.mk (Kd.R_lower (Kd.R_new' ho12 (Kd.R_lt (by (with_reducible repeat (first | apply Kd.R_alloc | apply Kd.R_drewN | apply Kd.R_drew));exact HO427.out))) (below_size (by repeat (first | (with_reducible first | exact HB.out | apply below_alloc | apply pw_below_drewN | apply below_drew1) | exact HB.out))));have n2_ := Aside0.mk (below_step (by repeat (first | (with_reducible first | exact HB.out | apply below_alloc | apply pw_below_drewN | apply below_drew1) | exact HB.out)) hb);clear HO427;clear HB;have HO427 := n0_;have HO431 := n1_;have HB := n2_;clear n0_ n1_ n2_;clear hb ho12))
       go_loopg [12] k (fun kq v12 w' => ∃ (x11_1 : List (S41)) (x12_1 : Int),v12 = .int .i64 x12_1 ∧ Aside0 (spec_HistOf.l0 kq l0 l1 l2 a3 y425 x11_1 x12_1 = some (r1,r2)) ∧ Aside0 (kq ≤ k) ∧ Aside0 (Kd.R k41 41 w' w.heap.size (fun k_ => some k_ ≠ (v430 : Value).ownBlock) v426 y425) ∧ Aside0 (Kd.R k41 41 w' w.heap.size (fun k_ => some k_ ≠ (v426 : Value).ownBlock) v430 x11_1) ∧ Aside0 (Below w.heap.size w w'))
       case atStart => exact ⟨(y429),(0),(by first | rfl | (simp;done) | (simp [*];done)),H',⟨Nat.le_refl _⟩,⟨by (with_reducible repeat (first | apply Kd.R_alloc | apply Kd.R_drewN | apply Kd.R_drew));exact Kd.R_mono HO427.out (fun _ hk => hk.2)⟩,⟨by (with_reducible repeat (first | apply Kd.R_alloc | apply Kd.R_drewN | apply Kd.R_drew));exact Kd.R_mono HO431.out (fun _ hk => hk.2)⟩,⟨by repeat (first | (with_reducible first | exact HB.out | apply below_alloc | apply pw_below_drewN | apply below_drew1) | exact HB.out)⟩⟩
       case round =>
         clear H'
         try clear c1
         try clear c2
         try clear p2
         try clear c3
         try clear c6
         try clear c7
         try clear c7b0
         try clear c7b1
         try clear c8
         try clear c8b0
         try clear c8b1
         obtain ⟨x11_1,x12_1,rfl,HA,HK1,HO_10,HO_11,HB⟩ := hrel
         cases gk with
         | zero => exact absurd HA.out (by simp [spec_HistOf.l0])
         | succ k1 =>
           have H := HA.out
           clear HA
           simp only [spec_HistOf.l0] at H
           by_cases c13 : x12_1 < (l2.length : Int)
           · rw [if_pos c13] at H
             have c13b0 : decide (x12_1 < (l2.length : Int)) = true := decide_eq_true c13
             clear c13
             by_cases c14 : 0 ≤ x12_1
             · rw [if_pos c14] at H
               have c14b0 : decide (0 ≤ x12_1) = true := decide_eq_true c14
               clear c14
               have HC15 := Aside0.mk H
               clear H
               have p432 : 0 ≤ (x12_1 : Int) := of_decide_eq_true (by first | (with_reducible assumption) | assumption)
               have q432 : x12_1 < (l2.length : Int) := of_decide_eq_true (by first | (with_reducible assumption) | assumption)
               obtain ⟨ad432,e432,hx432_0⟩ := Kd.at_int HR2.out x12_1 p432 q432
               cases e432
               replace hx432_0 := (HB.out.cell (World.block_lt_of_cell? w _ hx432_0)).trans hx432_0
               replace p432 := eq_true p432
               replace q432 := eq_true q432
               go_upto_region 9 with (fail)
               go_cut [56] (fun v56 wc => ∃ (kq : Nat) (x56_14 : Bool),v56 = .bool x56_14 ∧ Aside0 (spec_HistOf.j1 kq l0 l1 l2 a3 y425 x11_1 x12_1 (rd l2 x12_1) x56_14 = some (r1,r2)) ∧ Aside0 (kq ≤ k1) ∧ Aside0 (Kd.R k41 41 wc w.heap.size (fun k_ => some k_ ≠ (v430 : Value).ownBlock) v426 y425) ∧ Aside0 (Kd.R k41 41 wc w.heap.size (fun k_ => some k_ ≠ (v426 : Value).ownBlock) v430 x11_1) ∧ Aside0 (Below w.heap.size w wc))
               case first =>
                 have H := HC15.out
                 clear HC15
                 replace H := Option.bind_eq_some_iff.mp H
                 obtain ⟨t433,A160,H⟩ := H
                 replace H : (if t433 = true then ((spec_l1In.f (rd l2 x12_1) 0 (wrap64 ((l1.length : Int) - 1))).bind fun t434 => (if t434 = true then (if 0 ≤ (rd l2 x12_1) then (if (rd l2 x12_1) < (l0.length : Int) then ((spec_l1In.f (rd l0 (rd l2 x12_1)) 0 (wrap64 (a3 - 1))).bind fun t436 => (spec_HistOf.j1 k1 l0 l1 l2 a3 y425 x11_1 x12_1 (rd l2 x12_1) (!t436))) else (none)) else (none)) else (spec_HistOf.j1 k1 l0 l1 l2 a3 y425 x11_1 x12_1 (rd l2 x12_1) true))) else (spec_HistOf.j1 k1 l0 l1 l2 a3 y425 x11_1 x12_1 (rd l2 x12_1) true)) = some (r1,r2) := H
                 have A16 := Aside0.mk A160
                 clear A160
                 by_cases c17 : t433 = true
                 · subst c17
                   have H1 : ((spec_l1In.f (rd l2 x12_1) 0 (wrap64 ((l1.length : Int) - 1))).bind fun t434 => (if t434 = true then (if 0 ≤ (rd l2 x12_1) then (if (rd l2 x12_1) < (l0.length : Int) then ((spec_l1In.f (rd l0 (rd l2 x12_1)) 0 (wrap64 (a3 - 1))).bind fun t436 => (spec_HistOf.j1 k1 l0 l1 l2 a3 y425 x11_1 x12_1 (rd l2 x12_1) (!t436))) else (none)) else (none)) else (spec_HistOf.j1 k1 l0 l1 l2 a3 y425 x11_1 x12_1 (rd l2 x12_1) true))) = some (r1,r2) := by rw [if_pos rfl] at H;exact H
                   clear H
                   have H := H1
                   clear H1
                   replace H := Option.bind_eq_some_iff.mp H
                   obtain ⟨t434,A180,H⟩ := H
                   replace H : (if t434 = true then (if 0 ≤ (rd l2 x12_1) then (if (rd l2 x12_1) < (l0.length : Int) then ((spec_l1In.f (rd l0 (rd l2 x12_1)) 0 (wrap64 (a3 - 1))).bind fun t436 => (spec_HistOf.j1 k1 l0 l1 l2 a3 y425 x11_1 x12_1 (rd l2 x12_1) (!t436))) else (none)) else (none)) else (spec_HistOf.j1 k1 l0 l1 l2 a3 y425 x11_1 x12_1 (rd l2 x12_1) true)) = some (r1,r2) := H
                   have A18 := Aside0.mk A180
                   clear A180
                   by_cases c19 : t434 = true
                   · subst c19
                     have H1 : (if 0 ≤ (rd l2 x12_1) then (if (rd l2 x12_1) < (l0.length : Int) then ((spec_l1In.f (rd l0 (rd l2 x12_1)) 0 (wrap64 (a3 - 1))).bind fun t436 => (spec_HistOf.j1 k1 l0 l1 l2 a3 y425 x11_1 x12_1 (rd l2 x12_1) (!t436))) else (none)) else (none)) = some (r1,r2) := by rw [if_pos rfl] at H;exact H
                     clear H
                     have H := H1
                     clear H1
                     by_cases c20 : 0 ≤ (rd l2 x12_1)
                     · rw [if_pos c20] at H
                       have c20b0 : decide (0 ≤ (rd l2 x12_1)) = true := decide_eq_true c20
                       clear c20
                       (first | rw [c20b0] | (simp only [i64_w,i32_w];rw [c20b0]) | skip)
                       by_cases c21 : (rd l2 x12_1) < (l0.length : Int)
                       · rw [if_pos c21] at H
                         have c21b0 : decide ((rd l2 x12_1) < (l0.length : Int)) = true := decide_eq_true c21
                         clear c21
                         replace H := Option.bind_eq_some_iff.mp H
                         obtain ⟨t436,A220,H⟩ := H
                         replace H : (spec_HistOf.j1 k1 l0 l1 l2 a3 y425 x11_1 x12_1 (rd l2 x12_1) (!t436)) = some (r1,r2) := H
                         have A22 := Aside0.mk A220
                         clear A220
                         have H' := Aside0.mk H
                         clear H
                         go_wp2_with (first | ((with_reducible refine gate_callee (f := 89) rfl ?_);refine goesL_ (some 37) rfl rfl Try.func89 (by kernel_rfl) rfl #[.int .i64 (rd l2 x12_1),.int .i64 0,.int .i64 (wrap64 ((l0.length : Int) - 1))] rfl (by (try simp only [List.map_toArray,List.map_cons,List.map_nil]);first | done | rfl | (simp only [List.length_drop,List.length_take];rfl)) ?_;(with_reducible refine (spec_l1In.calls (rd l2 x12_1) 0 (wrap64 ((l0.length : Int) - 1)) true _ A16.out).mono ?_);rintro e w' ⟨rfl,⟨nd,rfl⟩⟩;refine ⟨_,rfl,?_⟩) | (go_at_call 89;(with_reducible refine (spec_l1In.calls (rd l2 x12_1) 0 (wrap64 ((l1.length : Int) - 1)) true _ A18.out).mono ?_);rintro e w' ⟨rfl,⟨nd,rfl⟩⟩;have p435 : 0 ≤ ((rd l2 x12_1) : Int) := of_decide_eq_true (by first | (with_reducible assumption) | assumption);have q435 : (rd l2 x12_1) < (l0.length : Int) := of_decide_eq_true (by first | (with_reducible assumption) | assumption);obtain ⟨ad435,e435,hx435_0⟩ := Kd.at_int HR0.out (rd l2 x12_1) p435 q435;cases e435;replace hx435_0 := (HB.out.cell (World.block_lt_of_cell? w _ hx435_0)).trans hx435_0;replace p435 := eq_true p435;replace q435 := eq_true q435) | (go_at_call 89;(with_reducible refine (spec_l1In.calls (rd l0 (rd l2 x12_1)) 0 (wrap64 (a3 - 1)) t436 _ A22.out).mono ?_);rintro e w' ⟨rfl,⟨nd,rfl⟩⟩))
                         go_meet
                         case rel => exact ⟨_,(!t436),(by first | rfl | (simp;done) | (simp [*];done)),H',⟨by have := HK1.out;first | omega | exact Nat.le_refl _⟩,⟨by (with_reducible repeat (first | apply Kd.R_alloc | apply Kd.R_drewN | apply Kd.R_drew));exact HO_10.out⟩,⟨by (with_reducible repeat (first | apply Kd.R_alloc | apply Kd.R_drewN | apply Kd.R_drew));exact HO_11.out⟩,⟨by repeat (first | (with_reducible first | exact HB.out | apply below_alloc | apply pw_below_drewN | apply below_drew1) | exact HB.out)⟩⟩
                       · rw [if_neg c21] at H
                         exact absurd H (by simp)
                     · rw [if_neg c20] at H
                       exact absurd H (by simp)
                   · replace c19 := Bool.eq_false_iff.mpr c19
                     subst c19
                     have H1 : (spec_HistOf.j1 k1 l0 l1 l2 a3 y425 x11_1 x12_1 (rd l2 x12_1) true) = some (r1,r2) := by rw [if_neg (show ¬ (false = true) by decide)] at H;exact H
                     clear H
                     have H := H1
                     clear H1
                     have H' := Aside0.mk H
                     clear H
                     go_wp2_with (first | ((with_reducible refine gate_callee (f := 89) rfl ?_);refine goesL_ (some 37) rfl rfl Try.func89 (by kernel_rfl) rfl #[.int .i64 (rd l2 x12_1),.int .i64 0,.int .i64 (wrap64 ((l0.length : Int) - 1))] rfl (by (try simp only [List.map_toArray,List.map_cons,List.map_nil]);first | done | rfl | (simp only [List.length_drop,List.length_take];rfl)) ?_;(with_reducible refine (spec_l1In.calls (rd l2 x12_1) 0 (wrap64 ((l0.length : Int) - 1)) true _ A16.out).mono ?_);rintro e w' ⟨rfl,⟨nd,rfl⟩⟩;refine ⟨_,rfl,?_⟩) | (go_at_call 89;(with_reducible refine (spec_l1In.calls (rd l2 x12_1) 0 (wrap64 ((l1.length : Int) - 1)) false _ A18.out).mono ?_);rintro e w' ⟨rfl,⟨nd,rfl⟩⟩))
                     go_meet
                     case rel => exact ⟨_,(true),(by first | rfl | (simp;done) | (simp [*];done)),H',⟨by have := HK1.out;first | omega | exact Nat.le_refl _⟩,⟨by (with_reducible repeat (first | apply Kd.R_alloc | apply Kd.R_drewN | apply Kd.R_drew));exact HO_10.out⟩,⟨by (with_reducible repeat (first | apply Kd.R_alloc | apply Kd.R_drewN | apply Kd.R_drew));exact HO_11.out⟩,⟨by repeat (first | (with_reducible first | exact HB.out | apply below_alloc | apply pw_below_drewN | apply below_drew1) | exact HB.out)⟩⟩
                 · replace c17 := Bool.eq_false_iff.mpr c17
                   subst c17
                   have H1 : (spec_HistOf.j1 k1 l0 l1 l2 a3 y425 x11_1 x12_1 (rd l2 x12_1) true) = some (r1,r2) := by rw [if_neg (show ¬ (false = true) by decide)] at H;exact H
                   clear H
                   have H := H1
                   clear H1
                   have H' := Aside0.mk H
                   clear H
                   go_wp2_with (first | ((with_reducible refine gate_callee (f := 89) rfl ?_);refine goesL_ (some 37) rfl rfl Try.func89 (by kernel_rfl) rfl #[.int .i64 (rd l2 x12_1),.int .i64 0,.int .i64 (wrap64 ((l0.length : Int) - 1))] rfl (by (try simp only [List.map_toArray,List.map_cons,List.map_nil]);first | done | rfl | (simp only [List.length_drop,List.length_take];rfl)) ?_;(with_reducible refine (spec_l1In.calls (rd l2 x12_1) 0 (wrap64 ((l0.length : Int) - 1)) false _ A16.out).mono ?_);rintro e w' ⟨rfl,⟨nd,rfl⟩⟩;refine ⟨_,rfl,?_⟩))
                   go_meet
                   case rel => exact ⟨_,(true),(by first | rfl | (simp;done) | (simp [*];done)),H',⟨by have := HK1.out;first | omega | exact Nat.le_refl _⟩,⟨by (with_reducible repeat (first | apply Kd.R_alloc | apply Kd.R_drewN | apply Kd.R_drew));exact HO_10.out⟩,⟨by (with_reducible repeat (first | apply Kd.R_alloc | apply Kd.R_drewN | apply Kd.R_drew));exact HO_11.out⟩,⟨by repeat (first | (with_reducible first | exact HB.out | apply below_alloc | apply pw_below_drewN | apply below_drew1) | exact HB.out)⟩⟩
               case rest =>
                 clear HC15
                 try clear c1
                 try clear c2
                 try clear p2
                 try clear c3
                 try clear p4
                 try clear q4
                 try clear hx4
                 try clear c6
                 try clear p6
                 try clear c7
                 try clear c7b0
                 try clear c7b1
                 try clear c8
                 try clear c8b0
                 try clear c8b1
                 try clear c13
                 try clear c13b0
                 try clear c14
                 try clear c14b0
                 try clear c17
                 try clear c19
                 try clear c20
                 try clear c20b0
                 try clear c21
                 try clear c21b0
                 try clear hx432_0
                 try clear hx435_0
                 try clear p2
                 try clear p432
                 try clear p435
                 try clear q432
                 try clear q435
                 obtain ⟨kq,x56_14,rfl,HA,HJ14,HO_10,HO_11,HB⟩ := hcut
                 cases kq with
                 | zero => exact absurd HA.out (by simp [spec_HistOf.j1])
                 | succ kj14 =>
                   have H := HA.out
                   clear HA
                   simp only [spec_HistOf.j1] at H
                   by_cases c23 : x56_14 = true
                   · subst c23
                     have H1 : (some (y425,false)) = some (r1,r2) := by rw [if_pos rfl] at H;exact H
                     clear H
                     have H := H1
                     clear H1
                     simp only [Option.some.injEq,Prod.mk.injEq] at H
                     obtain ⟨rfl,rfl⟩ := H
                     go_wp2
                     go_ret2
                     exact ⟨_,by first | rfl | (simp [errW_none,errW_some] <;> rfl) | (simp [*,errW_none,errW_some] <;> rfl),by (with_reducible repeat (first | apply Kd.R_alloc | apply Kd.R_drewN | apply Kd.R_drew));exact Kd.R_mono HO_10.out (fun _ hk => trivial),by repeat (first | (with_reducible first | exact HB.out | apply below_alloc | apply pw_below_drewN | apply below_drew1) | exact HB.out)⟩
                   · replace c23 := Bool.eq_false_iff.mpr c23
                     subst c23
                     have H1 : (if 0 ≤ (rd l2 x12_1) then (if (rd l2 x12_1) < (l0.length : Int) then (if 0 ≤ (rd l0 (rd l2 x12_1)) then (if (rd l0 (rd l2 x12_1)) < (x11_1.length : Int) then (if (rd l2 x12_1) < (l1.length : Int) then ((spec_l13Add.f ((rd_T41 x11_1 (rd l0 (rd l2 x12_1))).f0) ((rd_T41 x11_1 (rd l0 (rd l2 x12_1))).f1) 1 (rd l1 (rd l2 x12_1))).bind fun bt440 => (if bt440.2.2 = true then (spec_HistOf.l0 kj14 l0 l1 l2 a3 y425 (x11_1.set ((rd l0 (rd l2 x12_1)) : Int).toNat (⟨bt440.1,bt440.2.1⟩ : S41)) (wrap64 (x12_1 + 1))) else (some (y425,false)))) else (none)) else (none)) else (none)) else (none)) else (none)) = some (r1,r2) := by rw [if_neg (show ¬ (false = true) by decide)] at H;exact H
                     clear H
                     have H := H1
                     clear H1
                     by_cases c24 : 0 ≤ (rd l2 x12_1)
                     · rw [if_pos c24] at H
                       have c24b0 : decide (0 ≤ (rd l2 x12_1)) = true := decide_eq_true c24
                       clear c24
                       by_cases c25 : (rd l2 x12_1) < (l0.length : Int)
                       · rw [if_pos c25] at H
                         have c25b0 : decide ((rd l2 x12_1) < (l0.length : Int)) = true := decide_eq_true c25
                         clear c25
                         by_cases c26 : 0 ≤ (rd l0 (rd l2 x12_1))
                         · rw [if_pos c26] at H
                           have c26b0 : decide (0 ≤ (rd l0 (rd l2 x12_1))) = true := decide_eq_true c26
                           clear c26
                           by_cases c27 : (rd l0 (rd l2 x12_1)) < (x11_1.length : Int)
                           · rw [if_pos c27] at H
                             have c27b0 : decide ((rd l0 (rd l2 x12_1)) < (x11_1.length : Int)) = true := decide_eq_true c27
                             clear c27
                             by_cases c28 : (rd l2 x12_1) < (l1.length : Int)
                             · rw [if_pos c28] at H
                               have c28b0 : decide ((rd l2 x12_1) < (l1.length : Int)) = true := decide_eq_true c28
                               clear c28
                               replace H := Option.bind_eq_some_iff.mp H
                               obtain ⟨⟨t440,t441,t442⟩,A290,H⟩ := H
                               replace H : (if t442 = true then (spec_HistOf.l0 kj14 l0 l1 l2 a3 y425 (x11_1.set ((rd l0 (rd l2 x12_1)) : Int).toNat (⟨t440,t441⟩ : S41)) (wrap64 (x12_1 + 1))) else (some (y425,false))) = some (r1,r2) := H
                               have A29 := Aside0.mk A290
                               clear A290
                               by_cases c30 : t442 = true
                               · subst c30
                                 have H1 : (spec_HistOf.l0 kj14 l0 l1 l2 a3 y425 (x11_1.set ((rd l0 (rd l2 x12_1)) : Int).toNat (⟨t440,t441⟩ : S41)) (wrap64 (x12_1 + 1))) = some (r1,r2) := by rw [if_pos rfl] at H;exact H
                                 clear H
                                 have H := H1
                                 clear H1
                                 obtain ⟨y445,hy445⟩ : ∃ y_ : List (S41),y_ = (x11_1.set ((rd l0 (rd l2 x12_1)) : Int).toNat (⟨t440,t441⟩ : S41)) := ⟨_,rfl⟩
                                 replace H : (spec_HistOf.l0 kj14 l0 l1 l2 a3 y425 y445 (wrap64 (x12_1 + 1))) = some (r1,r2) := by first | (rw [hy445];with_reducible exact H) | (have H2_ := (Option.bind_some _ _).symm.trans H;rw [hy445];with_reducible exact H2_) | (have H2_ := (Option.bind_some _ _).symm.trans H;with_reducible exact H2_) | with_reducible exact H | (rw [hy445];exact H) | exact H
                                 have Ny445 := Aside0.mk hy445
                                 clear hy445
                                 have H' := Aside0.mk H
                                 clear H
                                 try go_wp2
                                 have n0_ := Aside0.mk (Kd.R_drew HO_10.out)
                                 have n1_ := Aside0.mk (Kd.R_drew HO_11.out)
                                 have n2_ := Aside0.mk (below_drew1 HB.out)
                                 clear HO_10
                                 clear HO_11
                                 clear HB
                                 have HO_10 := n0_
                                 have HO_11 := n1_
                                 have HB := n2_
                                 clear n0_ n1_ n2_
                                 have p437 : 0 ≤ ((rd l2 x12_1) : Int) := of_decide_eq_true (by first | (with_reducible assumption) | assumption)
                                 have q437 : (rd l2 x12_1) < (l0.length : Int) := of_decide_eq_true (by first | (with_reducible assumption) | assumption)
                                 obtain ⟨ad437,e437,hx437_0⟩ := Kd.at_int HR0.out (rd l2 x12_1) p437 q437
                                 have hw437_0 := hx437_0
                                 cases e437
                                 replace hx437_0 := (HB.out.cell (World.block_lt_of_cell? w _ hx437_0)).trans hx437_0
                                 replace p437 := eq_true p437
                                 replace q437 := eq_true q437
                                 obtain ⟨Ao33,co33,eo33⟩ := Kd.R_slice HO_11.out
                                 (first | subst eo33 | (injection eo33 with f1_ f2_ f3_;have f4_ := f1_.symm;have f5_ := f3_.symm;clear f1_ f2_ f3_;subst f4_;subst f5_))
                                 have p438 : 0 ≤ ((rd l0 (rd l2 x12_1)) : Int) := of_decide_eq_true (by first | (with_reducible assumption) | assumption)
                                 have q438 : (rd l0 (rd l2 x12_1)) < (x11_1.length : Int) := of_decide_eq_true (by first | (with_reducible assumption) | assumption)
                                 obtain ⟨ad438,e438,hx438_0,hx438_1⟩ := at_T41 (Kd.R_reads' HO_11.out).2.2 (rd l0 (rd l2 x12_1)) p438 q438
                                 cases e438
                                 replace p438 := eq_true p438
                                 replace q438 := eq_true q438
                                 have p439 : 0 ≤ ((rd l2 x12_1) : Int) := of_decide_eq_true (by first | (with_reducible assumption) | assumption)
                                 have q439 : (rd l2 x12_1) < (l1.length : Int) := of_decide_eq_true (by first | (with_reducible assumption) | assumption)
                                 obtain ⟨ad439,e439,hx439_0⟩ := Kd.at_int HR1.out (rd l2 x12_1) p439 q439
                                 have hw439_0 := hx439_0
                                 cases e439
                                 replace hx439_0 := (HB.out.cell (World.block_lt_of_cell? w _ hx439_0)).trans hx439_0
                                 replace p439 := eq_true p439
                                 replace q439 := eq_true q439
                                 refine start_ (n := 19) (S := fun w' => w'.cell? (ad437.add ((rd l2 x12_1)).toNat) = some (.int .i64 (rd l0 (rd l2 x12_1))) ∧ w'.cell? (ad438.add (((rd l0 (rd l2 x12_1))).toNat * 2)) = some (.int .i64 ((rd_T41 x11_1 (rd l0 (rd l2 x12_1))).f0)) ∧ w'.cell? ⟨(ad438.add (((rd l0 (rd l2 x12_1))).toNat * 2)).block,(ad438.add (((rd l0 (rd l2 x12_1))).toNat * 2)).off + 1,none⟩ = some (.int .i64 ((rd_T41 x11_1 (rd l0 (rd l2 x12_1))).f1)) ∧ w'.cell? (ad439.add ((rd l2 x12_1)).toNat) = some (.int .i64 (rd l1 (rd l2 x12_1)))) (ds := []) #[false,false,false,false,false,false,false,false,false,false,false,false,false,false,false,false,false,false,false] (by kernel_rfl) rfl rfl ⟨((HB.out.cell (World.block_lt_of_cell? w _ hw437_0)).trans hw437_0),hx438_0,hx438_1,((HB.out.cell (World.block_lt_of_cell? w _ hw439_0)).trans hw439_0)⟩ (fun hHeld => ?_);refine with_tabW spec_HistOf.tab11 spec_HistOf.bits11 (fun HT_ HW_ => ?_)
                                 generalize wc.drew = w32 at HO_10 HO_11 HB hx437_0 hx438_0 hx438_1 hx439_0 hHeld ⊢
                                 refine pure_ (i := 0) (N := some 59) (v := ?_) (a' := ?_) #[true,false,false,false,false,false,false,false,false,false,false,false,false,false,false,false,false,false,false] rfl rfl (any_of HT_.out (by kernel_rfl)) (fun _ _ _ h => h) (Or.inl ⟨by rfl,?_⟩) ?_ ?_
                                 rotate_left
                                 · intro w'
                                   go_simp
                                   with_reducible rfl
                                 rotate_left
                                 · simp only [Act.put,List.setIfInBounds_toArray,List.set_cons_zero,List.set_cons_succ,i64_w,i32_w]
                                   rfl
                                 refine pure_ (i := 1) (N := some 60) (v := ?_) (a' := ?_) #[true,true,false,false,false,false,false,false,false,false,false,false,false,false,false,false,false,false,false] rfl rfl (any_of HT_.out (by kernel_rfl)) (fun _ _ _ h => h) (Or.inl ⟨by rfl,?_⟩) ?_ ?_
                                 rotate_left
                                 · intro w'
                                   go_simp
                                   with_reducible rfl
                                 rotate_left
                                 · simp only [Act.put,List.setIfInBounds_toArray,List.set_cons_zero,List.set_cons_succ,i64_w,i32_w]
                                   rfl
                                 refine pure_ (i := 2) (N := some 61) (v := ?_) (a' := ?_) #[true,true,true,false,false,false,false,false,false,false,false,false,false,false,false,false,false,false,false] rfl rfl (any_of HT_.out (by kernel_rfl)) (fun _ _ _ h => h) (Or.inl ⟨by rfl,?_⟩) ?_ ?_
                                 rotate_left
                                 · intro w'
                                   go_simp
                                   with_reducible rfl
                                 rotate_left
                                 · simp only [Act.put,List.setIfInBounds_toArray,List.set_cons_zero,List.set_cons_succ,i64_w,i32_w]
                                   rfl
                                 refine pure_ (i := 3) (N := some 62) (v := ?_) (a' := ?_) #[true,true,true,true,false,false,false,false,false,false,false,false,false,false,false,false,false,false,false] rfl rfl (any_of HT_.out (by kernel_rfl)) (fun _ _ _ h => h) (Or.inl ⟨by rfl,?_⟩) ?_ ?_
                                 rotate_left
                                 · intro w'
                                   go_simp
                                   with_reducible rfl
                                 rotate_left
                                 · simp only [Act.put,List.setIfInBounds_toArray,List.set_cons_zero,List.set_cons_succ,i64_w,i32_w]
                                   rfl
                                 refine pure_ (i := 7) (N := some 66) (v := ?_) (a' := ?_) #[true,true,true,true,false,false,false,true,false,false,false,false,false,false,false,false,false,false,false] rfl rfl (any_of HT_.out (by kernel_rfl)) (fun _ _ _ h => h) (Or.inl ⟨by rfl,?_⟩) ?_ ?_
                                 rotate_left
                                 · intro w'
                                   go_simp
                                   with_reducible rfl
                                 rotate_left
                                 · simp only [Act.put,List.setIfInBounds_toArray,List.set_cons_zero,List.set_cons_succ,i64_w,i32_w]
                                   rfl
                                 refine pure_ (i := 8) (N := some 67) (v := ?_) (a' := ?_) #[true,true,true,true,false,false,false,true,true,false,false,false,false,false,false,false,false,false,false] rfl rfl (any_of HT_.out (by kernel_rfl)) (fun _ _ _ h => h) (Or.inl ⟨by rfl,?_⟩) ?_ ?_
                                 rotate_left
                                 · intro w'
                                   go_simp
                                   with_reducible rfl
                                 rotate_left
                                 · simp only [Act.put,List.setIfInBounds_toArray,List.set_cons_zero,List.set_cons_succ,i64_w,i32_w]
                                   rfl
                                 refine pure_ (i := 9) (N := some 68) (v := ?_) (a' := ?_) #[true,true,true,true,false,false,false,true,true,true,false,false,false,false,false,false,false,false,false] rfl rfl (any_of HT_.out (by kernel_rfl)) (fun _ _ _ h => h) (Or.inl ⟨by rfl,?_⟩) ?_ ?_
                                 rotate_left
                                 · intro w'
                                   go_simp
                                   with_reducible rfl
                                 rotate_left
                                 · simp only [Act.put,List.setIfInBounds_toArray,List.set_cons_zero,List.set_cons_succ,i64_w,i32_w]
                                   rfl
                                 refine take_ (i := 4) (N := some 63) (v := ?_) (a' := ?_) #[true,true,true,true,true,false,false,true,true,true,false,false,false,false,false,false,false,false,false] rfl rfl (take_ofW HT_.out HW_.out (by kernel_rfl)) (fun _ _ _ h => h) (Or.inl ⟨by rfl,?_⟩) hHeld ?_ ?_
                                 rotate_left
                                 · rintro w' ⟨s0,s1,s2,s3⟩
                                   go_simp
                                   with_reducible rfl
                                 rotate_left
                                 · simp only [Act.put,List.setIfInBounds_toArray,List.set_cons_zero,List.set_cons_succ,i64_w,i32_w]
                                   rfl
                                 refine pure_ (i := 5) (N := some 64) (v := ?_) (a' := ?_) #[true,true,true,true,true,true,false,true,true,true,false,false,false,false,false,false,false,false,false] rfl rfl (any_of HT_.out (by kernel_rfl)) (fun _ _ _ h => h) (Or.inl ⟨by rfl,?_⟩) ?_ ?_
                                 rotate_left
                                 · intro w'
                                   go_simp
                                   with_reducible rfl
                                 rotate_left
                                 · simp only [Act.put,List.setIfInBounds_toArray,List.set_cons_zero,List.set_cons_succ,i64_w,i32_w]
                                   rfl
                                 refine take_ (i := 6) (N := some 65) (v := ?_) (a' := ?_) #[true,true,true,true,true,true,true,true,true,true,false,false,false,false,false,false,false,false,false] rfl rfl (take_ofW HT_.out HW_.out (by kernel_rfl)) (fun _ _ _ h => h) (Or.inl ⟨by rfl,?_⟩) hHeld ?_ ?_
                                 rotate_left
                                 · rintro w' ⟨s0,s1,s2,s3⟩
                                   go_simp
                                   with_reducible rfl
                                 rotate_left
                                 · simp only [Act.put,List.setIfInBounds_toArray,List.set_cons_zero,List.set_cons_succ,i64_w,i32_w]
                                   rfl
                                 refine take_ (i := 10) (N := some 69) (v := ?_) (a' := ?_) #[true,true,true,true,true,true,true,true,true,true,true,false,false,false,false,false,false,false,false] rfl rfl (take_ofW HT_.out HW_.out (by kernel_rfl)) (fun _ _ _ h => h) (Or.inl ⟨by rfl,?_⟩) hHeld ?_ ?_
                                 rotate_left
                                 · rintro w' ⟨s0,s1,s2,s3⟩
                                   go_simp
                                   with_reducible rfl
                                 rotate_left
                                 · simp only [Act.put,List.setIfInBounds_toArray,List.set_cons_zero,List.set_cons_succ,i64_w,i32_w]
                                   rfl
                                 refine pure_ (i := 11) (N := some 70) (v := ?_) (a' := ?_) #[true,true,true,true,true,true,true,true,true,true,true,true,false,false,false,false,false,false,false] rfl rfl (any_of HT_.out (by kernel_rfl)) (fun _ _ _ h => h) (Or.inl ⟨by rfl,?_⟩) ?_ ?_
                                 rotate_left
                                 · intro w'
                                   go_simp
                                   with_reducible rfl
                                 rotate_left
                                 · simp only [Act.put,List.setIfInBounds_toArray,List.set_cons_zero,List.set_cons_succ,i64_w,i32_w]
                                   rfl
                                 refine join_ (σ := Nat) 2 #[true,true,true,true,true,true,true,true,true,true,true,true,true,true,true,true,true,false,false] (fun s_ => [(71,.tuple #[.agg #[.int .i64 t440,.int .i64 t441],.bool true]),(14,.pointer (some ⟨s_,0,none⟩)),(58,.tuple #[.agg #[.int .i64 t440,.int .i64 t441],.bool true]),(72,.agg #[.int .i64 t440,.int .i64 t441]),(73,.bool true)]) (fun s_ w' => (w'.cell? (ad437.add ((rd l2 x12_1)).toNat) = some (.int .i64 (rd l0 (rd l2 x12_1))) ∧ w'.cell? (ad438.add (((rd l0 (rd l2 x12_1))).toNat * 2)) = some (.int .i64 ((rd_T41 x11_1 (rd l0 (rd l2 x12_1))).f0)) ∧ w'.cell? ⟨(ad438.add (((rd l0 (rd l2 x12_1))).toNat * 2)).block,(ad438.add (((rd l0 (rd l2 x12_1))).toNat * 2)).off + 1,none⟩ = some (.int .i64 ((rd_T41 x11_1 (rd l0 (rd l2 x12_1))).f1)) ∧ w'.cell? (ad439.add ((rd l2 x12_1)).toNat) = some (.int .i64 (rd l1 (rd l2 x12_1)))) ∧ (Kd.R k41 41 w' w.heap.size (fun k_ => some k_ ≠ (.slice (some ad438) x11_1.length co33 : Value).ownBlock ∧ k_ ≠ s_) v426 y425) ∧ (Kd.R k41 41 w' w.heap.size (fun k_ => some k_ ≠ (v426 : Value).ownBlock ∧ k_ ≠ s_) (.slice (some ad438) x11_1.length co33) x11_1) ∧ (w'.heap[s_]? = some (.cells #[.int .i64 0,.int .i64 0] 41 (0,0))) ∧ (w.heap.size ≤ s_) ∧ (w.heap.size ≤ s_) ∧ (Below w.heap.size w w')) ?_ ?_
                                 rotate_left
                                 · intro hCont
                                   refine two_ (i := 12) (j := 16) (Ni := some 71) (Nj := some 14) #[true,true,true,true,true,true,true,true,true,true,true,true,true,false,false,false,false,false,false] #[true,true,true,true,true,true,true,true,true,true,true,true,false,false,false,false,true,false,false] rfl rfl rfl rfl (two_of HT_.out (by kernel_rfl)) (by decide) (by decide) (fun K hK => ?_) (fun K hK => ?_)
                                   · skip
                                     refine goes_ Try.func70 (by kernel_rfl) rfl #[.agg #[.int .i64 ((rd_T41 x11_1 (rd l0 (rd l2 x12_1))).f0),.int .i64 ((rd_T41 x11_1 (rd l0 (rd l2 x12_1))).f1)],.agg #[.int .i64 1,.int .i64 (rd l1 (rd l2 x12_1))]] (by rfl) rfl rfl (by (try simp only [List.map_toArray,List.map_cons,List.map_nil]);first | done | rfl | (simp only [List.length_drop,List.length_take];rfl)) ?_
                                     with_reducible refine (spec_l13Add.calls ((rd_T41 x11_1 (rd l0 (rd l2 x12_1))).f0) ((rd_T41 x11_1 (rd l0 (rd l2 x12_1))).f1) 1 (rd l1 (rd l2 x12_1)) t440 t441 true _ A29.out).mono ?_
                                     rintro e w34 ⟨rfl,hb⟩
                                     have HS1_ := (hb.cell (World.block_lt_of_cell? _ _ (hHeld.2.1))).trans (hHeld.2.1)
                                     have HS2_ := (hb.cell (World.block_lt_of_cell? _ _ (hHeld.2.2.1))).trans (hHeld.2.2.1)
                                     refine ⟨_,rfl,?_⟩
                                     have n0_ := Aside0.mk (Kd.R_below (by (with_reducible repeat (first | apply Kd.R_alloc | apply Kd.R_drewN | apply Kd.R_drew));exact HO_10.out) hb)
                                     have n1_ := Aside0.mk (Kd.R_below (by (with_reducible repeat (first | apply Kd.R_alloc | apply Kd.R_drewN | apply Kd.R_drew));exact HO_11.out) hb)
                                     have n2_ := Aside0.mk (below_step (by repeat (first | (with_reducible first | exact HB.out | apply below_alloc | apply pw_below_drewN | apply below_drew1) | exact HB.out)) hb)
                                     clear HO_10
                                     clear HO_11
                                     clear HB
                                     have HO_10 := n0_
                                     have HO_11 := n1_
                                     have HB := n2_
                                     clear n0_ n1_ n2_
                                     (try clear hb)
                                     (try clear hb2)
                                     (try clear hk)
                                     (try clear hi)
                                     refine hK.out _ _ ⟨((HB.out.cell (World.block_lt_of_cell? w _ hw437_0)).trans hw437_0),HS1_,HS2_,((HB.out.cell (World.block_lt_of_cell? w _ hw439_0)).trans hw439_0)⟩ (fun hHeld => ?_)
                                     clear hK K
                                     refine norm_ (a' := ?_) ?_ ?_
                                     rotate_left
                                     · show Act.put _ (some 71) _ = _
                                       simp only [Act.put,List.setIfInBounds_toArray,List.set_cons_zero,List.set_cons_succ,i64_w,i32_w]
                                       rfl
                                     refine pure_ (i := 13) (N := some 58) (v := ?_) (a' := ?_) #[true,true,true,true,true,true,true,true,true,true,true,true,true,true,false,false,false,false,false] rfl rfl (any_of HT_.out (by kernel_rfl)) (fun _ _ _ h => h) (Or.inl ⟨by rfl,?_⟩) ?_ ?_
                                     rotate_left
                                     · intro w'
                                       go_simp
                                       with_reducible rfl
                                     rotate_left
                                     · simp only [Act.put,List.setIfInBounds_toArray,List.set_cons_zero,List.set_cons_succ,i64_w,i32_w]
                                       rfl
                                     refine pure_ (i := 14) (N := some 72) (v := ?_) (a' := ?_) #[true,true,true,true,true,true,true,true,true,true,true,true,true,true,true,false,false,false,false] rfl rfl (any_of HT_.out (by kernel_rfl)) (fun _ _ _ h => h) (Or.inl ⟨by rfl,?_⟩) ?_ ?_
                                     rotate_left
                                     · intro w'
                                       go_simp
                                       with_reducible rfl
                                     rotate_left
                                     · simp only [Act.put,List.setIfInBounds_toArray,List.set_cons_zero,List.set_cons_succ,i64_w,i32_w]
                                       rfl
                                     refine pure_ (i := 15) (N := some 73) (v := ?_) (a' := ?_) #[true,true,true,true,true,true,true,true,true,true,true,true,true,true,true,true,false,false,false] rfl rfl (any_of HT_.out (by kernel_rfl)) (fun _ _ _ h => h) (Or.inl ⟨by rfl,?_⟩) ?_ ?_
                                     rotate_left
                                     · intro w'
                                       go_simp
                                       with_reducible rfl
                                     rotate_left
                                     · simp only [Act.put,List.setIfInBounds_toArray,List.set_cons_zero,List.set_cons_succ,i64_w,i32_w]
                                       rfl
                                     refine one_ (i := 16) (N := some 14) #[true,true,true,true,true,true,true,true,true,true,true,true,true,true,true,true,true,false,false] rfl rfl (one_of HT_.out (by kernel_rfl)) (by decide) (fun K hK => ?_)
                                     refine box_step ?hg (N := 14) ?hd (cs := #[.int .i64 0,.int .i64 0]) (t := 41) ?hr ?_;(case hd => rfl);(case hg => rfl);(case hr => first | (go_simp;done) | (go_simp;rfl))
                                     intro gb443 hg w35 hbox hb
                                     have HS1_ := (hb.cell (World.block_lt_of_cell? _ _ (hHeld.2.1))).trans (hHeld.2.1)
                                     have HS2_ := (hb.cell (World.block_lt_of_cell? _ _ (hHeld.2.2.1))).trans (hHeld.2.2.1)
                                     have n0_ := Aside0.mk (Kd.R_below (Kd.R_elderB (by (with_reducible repeat (first | apply Kd.R_alloc | apply Kd.R_drewN | apply Kd.R_drew));exact HO_10.out) gb443 (Nat.le_of_eq hg.symm)) hb)
                                     have n1_ := Aside0.mk (Kd.R_below (Kd.R_elderB (by (with_reducible repeat (first | apply Kd.R_alloc | apply Kd.R_drewN | apply Kd.R_drew));exact HO_11.out) gb443 (Nat.le_of_eq hg.symm)) hb)
                                     have n2_ := Aside0.mk (below_step (by repeat (first | (with_reducible first | exact HB.out | apply below_alloc | apply pw_below_drewN | apply below_drew1) | exact HB.out)) hb)
                                     have n3_ := Aside0.mk (hbox)
                                     have n4_ := Aside0.mk ((by rw [hg];exact (below_size (by repeat (first | (with_reducible first | exact HB.out | apply below_alloc | apply pw_below_drewN | apply below_drew1) | exact HB.out))) : w.heap.size ≤ gb443))
                                     have n5_ := Aside0.mk ((by rw [hg];exact (below_size (by repeat (first | (with_reducible first | exact HB.out | apply below_alloc | apply pw_below_drewN | apply below_drew1) | exact HB.out))) : w.heap.size ≤ gb443))
                                     clear HO_10
                                     clear HO_11
                                     clear HB
                                     have HO_10 := n0_
                                     have HO_11 := n1_
                                     have HB := n2_
                                     have BK443 := n3_
                                     have GW443 := n4_
                                     have GE443 := n5_
                                     clear n0_ n1_ n2_ n3_ n4_ n5_
                                     clear hb hbox hg
                                     refine hK.out _ _ ⟨((HB.out.cell (World.block_lt_of_cell? w _ hw437_0)).trans hw437_0),HS1_,HS2_,((HB.out.cell (World.block_lt_of_cell? w _ hw439_0)).trans hw439_0)⟩ (fun hHeld => ?_)
                                     clear hK K
                                     refine norm_ (a' := ?_) ?_ ?_
                                     rotate_left
                                     · show Act.put _ (some 14) _ = _
                                       simp only [Act.put,List.setIfInBounds_toArray,List.set_cons_zero,List.set_cons_succ,i64_w,i32_w]
                                       rfl
                                     exact norm_ (by simp only [putAll,Act.put,List.setIfInBounds_toArray,List.set_cons_zero,List.set_cons_succ]) (hCont (gb443) _ ⟨hHeld,(by (with_reducible repeat (first | apply Kd.R_alloc | apply Kd.R_drewN | apply Kd.R_drew));exact HO_10.out),(by (with_reducible repeat (first | apply Kd.R_alloc | apply Kd.R_drewN | apply Kd.R_drew));exact HO_11.out),(by (with_reducible repeat (first | refine blk_drewN ?_ _ | refine blk_drew ?_ | refine blk_alloc ?_ _));exact BK443.out),GW443.out,GE443.out,(by repeat (first | (with_reducible first | exact HB.out | apply below_alloc | apply pw_below_drewN | apply below_drew1 | refine below_set ?_ GE443.out) | exact HB.out))⟩)
                                   · skip
                                     refine box_step ?hg (N := 14) ?hd (cs := #[.int .i64 0,.int .i64 0]) (t := 41) ?hr ?_;(case hd => rfl);(case hg => rfl);(case hr => first | (go_simp;done) | (go_simp;rfl))
                                     intro gb443 hg w34 hbox hb
                                     have HS1_ := (hb.cell (World.block_lt_of_cell? _ _ (hHeld.2.1))).trans (hHeld.2.1)
                                     have HS2_ := (hb.cell (World.block_lt_of_cell? _ _ (hHeld.2.2.1))).trans (hHeld.2.2.1)
                                     have n0_ := Aside0.mk (Kd.R_below (Kd.R_elderB (by (with_reducible repeat (first | apply Kd.R_alloc | apply Kd.R_drewN | apply Kd.R_drew));exact HO_10.out) gb443 (Nat.le_of_eq hg.symm)) hb)
                                     have n1_ := Aside0.mk (Kd.R_below (Kd.R_elderB (by (with_reducible repeat (first | apply Kd.R_alloc | apply Kd.R_drewN | apply Kd.R_drew));exact HO_11.out) gb443 (Nat.le_of_eq hg.symm)) hb)
                                     have n2_ := Aside0.mk (below_step (by repeat (first | (with_reducible first | exact HB.out | apply below_alloc | apply pw_below_drewN | apply below_drew1) | exact HB.out)) hb)
                                     have n3_ := Aside0.mk (hbox)
                                     have n4_ := Aside0.mk ((by rw [hg];exact (below_size (by repeat (first | (with_reducible first | exact HB.out | apply below_alloc | apply pw_below_drewN | apply below_drew1) | exact HB.out))) : w.heap.size ≤ gb443))
                                     have n5_ := Aside0.mk ((by rw [hg];exact (below_size (by repeat (first | (with_reducible first | exact HB.out | apply below_alloc | apply pw_below_drewN | apply below_drew1) | exact HB.out))) : w.heap.size ≤ gb443))
                                     clear HO_10
                                     clear HO_11
                                     clear HB
                                     have HO_10 := n0_
                                     have HO_11 := n1_
                                     have HB := n2_
                                     have BK443 := n3_
                                     have GW443 := n4_
                                     have GE443 := n5_
                                     clear n0_ n1_ n2_ n3_ n4_ n5_
                                     clear hb hbox hg
                                     refine hK.out _ _ ⟨((HB.out.cell (World.block_lt_of_cell? w _ hw437_0)).trans hw437_0),HS1_,HS2_,((HB.out.cell (World.block_lt_of_cell? w _ hw439_0)).trans hw439_0)⟩ (fun hHeld => ?_)
                                     clear hK K
                                     refine norm_ (a' := ?_) ?_ ?_
                                     rotate_left
                                     · show Act.put _ (some 14) _ = _
                                       simp only [Act.put,List.setIfInBounds_toArray,List.set_cons_zero,List.set_cons_succ,i64_w,i32_w]
                                       rfl
                                     refine one_ (i := 12) (N := some 71) #[true,true,true,true,true,true,true,true,true,true,true,true,true,false,false,false,true,false,false] rfl rfl (one_of HT_.out (by kernel_rfl)) (by decide) (fun K hK => ?_)
                                     refine goes_ Try.func70 (by kernel_rfl) rfl #[.agg #[.int .i64 ((rd_T41 x11_1 (rd l0 (rd l2 x12_1))).f0),.int .i64 ((rd_T41 x11_1 (rd l0 (rd l2 x12_1))).f1)],.agg #[.int .i64 1,.int .i64 (rd l1 (rd l2 x12_1))]] (by rfl) rfl rfl (by (try simp only [List.map_toArray,List.map_cons,List.map_nil]);first | done | rfl | (simp only [List.length_drop,List.length_take];rfl)) ?_
                                     with_reducible refine (spec_l13Add.calls ((rd_T41 x11_1 (rd l0 (rd l2 x12_1))).f0) ((rd_T41 x11_1 (rd l0 (rd l2 x12_1))).f1) 1 (rd l1 (rd l2 x12_1)) t440 t441 true _ A29.out).mono ?_
                                     rintro e w35 ⟨rfl,hb⟩
                                     have HS1_ := (hb.cell (World.block_lt_of_cell? _ _ (hHeld.2.1))).trans (hHeld.2.1)
                                     have HS2_ := (hb.cell (World.block_lt_of_cell? _ _ (hHeld.2.2.1))).trans (hHeld.2.2.1)
                                     refine ⟨_,rfl,?_⟩
                                     have n0_ := Aside0.mk (Kd.R_below (by (with_reducible repeat (first | apply Kd.R_alloc | apply Kd.R_drewN | apply Kd.R_drew));exact HO_10.out) hb)
                                     have n1_ := Aside0.mk (Kd.R_below (by (with_reducible repeat (first | apply Kd.R_alloc | apply Kd.R_drewN | apply Kd.R_drew));exact HO_11.out) hb)
                                     have n2_ := Aside0.mk (blk_below (g := gb443) (o := .cells #[.int .i64 0,.int .i64 0] 41 (0,0)) (by (with_reducible repeat (first | refine blk_drewN ?_ _ | refine blk_drew ?_ | refine blk_alloc ?_ _));exact BK443.out) hb)
                                     have n3_ := Aside0.mk (below_step (by repeat (first | (with_reducible first | exact HB.out | apply below_alloc | apply pw_below_drewN | apply below_drew1 | refine below_set ?_ GE443.out) | exact HB.out)) hb)
                                     clear HO_10
                                     clear HO_11
                                     clear BK443
                                     clear HB
                                     have HO_10 := n0_
                                     have HO_11 := n1_
                                     have BK443 := n2_
                                     have HB := n3_
                                     clear n0_ n1_ n2_ n3_
                                     (try clear hb)
                                     (try clear hb2)
                                     (try clear hk)
                                     (try clear hi)
                                     refine hK.out _ _ ⟨((HB.out.cell (World.block_lt_of_cell? w _ hw437_0)).trans hw437_0),HS1_,HS2_,((HB.out.cell (World.block_lt_of_cell? w _ hw439_0)).trans hw439_0)⟩ (fun hHeld => ?_)
                                     clear hK K
                                     refine norm_ (a' := ?_) ?_ ?_
                                     rotate_left
                                     · show Act.put _ (some 71) _ = _
                                       simp only [Act.put,List.setIfInBounds_toArray,List.set_cons_zero,List.set_cons_succ,i64_w,i32_w]
                                       rfl
                                     refine pure_ (i := 13) (N := some 58) (v := ?_) (a' := ?_) #[true,true,true,true,true,true,true,true,true,true,true,true,true,true,false,false,true,false,false] rfl rfl (any_of HT_.out (by kernel_rfl)) (fun _ _ _ h => h) (Or.inl ⟨by rfl,?_⟩) ?_ ?_
                                     rotate_left
                                     · intro w'
                                       go_simp
                                       with_reducible rfl
                                     rotate_left
                                     · simp only [Act.put,List.setIfInBounds_toArray,List.set_cons_zero,List.set_cons_succ,i64_w,i32_w]
                                       rfl
                                     refine pure_ (i := 14) (N := some 72) (v := ?_) (a' := ?_) #[true,true,true,true,true,true,true,true,true,true,true,true,true,true,true,false,true,false,false] rfl rfl (any_of HT_.out (by kernel_rfl)) (fun _ _ _ h => h) (Or.inl ⟨by rfl,?_⟩) ?_ ?_
                                     rotate_left
                                     · intro w'
                                       go_simp
                                       with_reducible rfl
                                     rotate_left
                                     · simp only [Act.put,List.setIfInBounds_toArray,List.set_cons_zero,List.set_cons_succ,i64_w,i32_w]
                                       rfl
                                     refine pure_ (i := 15) (N := some 73) (v := ?_) (a' := ?_) #[true,true,true,true,true,true,true,true,true,true,true,true,true,true,true,true,true,false,false] rfl rfl (any_of HT_.out (by kernel_rfl)) (fun _ _ _ h => h) (Or.inl ⟨by rfl,?_⟩) ?_ ?_
                                     rotate_left
                                     · intro w'
                                       go_simp
                                       with_reducible rfl
                                     rotate_left
                                     · simp only [Act.put,List.setIfInBounds_toArray,List.set_cons_zero,List.set_cons_succ,i64_w,i32_w]
                                       rfl
                                     exact norm_ (by simp only [putAll,Act.put,List.setIfInBounds_toArray,List.set_cons_zero,List.set_cons_succ]) (hCont (gb443) _ ⟨hHeld,(by (with_reducible repeat (first | apply Kd.R_alloc | apply Kd.R_drewN | apply Kd.R_drew));exact HO_10.out),(by (with_reducible repeat (first | apply Kd.R_alloc | apply Kd.R_drewN | apply Kd.R_drew));exact HO_11.out),(by (with_reducible repeat (first | refine blk_drewN ?_ _ | refine blk_drew ?_ | refine blk_alloc ?_ _));exact BK443.out),GW443.out,GE443.out,(by repeat (first | (with_reducible first | exact HB.out | apply below_alloc | apply pw_below_drewN | apply below_drew1 | refine below_set ?_ GE443.out) | exact HB.out))⟩)
                                 rintro gb443 w36 ⟨hS_,h0_,h1_,h2_,h3_,h4_,h5_⟩
                                 have n0_ : Aside0 (Kd.R k41 41 w36 w.heap.size (fun k_ => some k_ ≠ (.slice (some ad438) x11_1.length co33 : Value).ownBlock ∧ k_ ≠ gb443) v426 y425) := ⟨h0_⟩
                                 have n1_ : Aside0 (Kd.R k41 41 w36 w.heap.size (fun k_ => some k_ ≠ (v426 : Value).ownBlock ∧ k_ ≠ gb443) (.slice (some ad438) x11_1.length co33) x11_1) := ⟨h1_⟩
                                 have n2_ : Aside0 (w36.heap[gb443]? = some (.cells #[.int .i64 0,.int .i64 0] 41 (0,0))) := ⟨h2_⟩
                                 have n3_ : Aside0 (w.heap.size ≤ gb443) := ⟨h3_⟩
                                 have n4_ : Aside0 (w.heap.size ≤ gb443) := ⟨h4_⟩
                                 have n5_ : Aside0 (Below w.heap.size w w36) := ⟨h5_⟩
                                 clear HO_10
                                 clear HO_11
                                 clear HB
                                 clear h0_ h1_ h2_ h3_ h4_ h5_
                                 have HO_10 := n0_
                                 have HO_11 := n1_
                                 have BK443 := n2_
                                 have GW443 := n3_
                                 have GE443 := n4_
                                 have HB := n5_
                                 clear n0_ n1_ n2_ n3_ n4_ n5_
                                 have hHeld : w36.cell? (ad437.add ((rd l2 x12_1)).toNat) = some (.int .i64 (rd l0 (rd l2 x12_1))) ∧ w36.cell? (ad438.add (((rd l0 (rd l2 x12_1))).toNat * 2)) = some (.int .i64 ((rd_T41 x11_1 (rd l0 (rd l2 x12_1))).f0)) ∧ w36.cell? ⟨(ad438.add (((rd l0 (rd l2 x12_1))).toNat * 2)).block,(ad438.add (((rd l0 (rd l2 x12_1))).toNat * 2)).off + 1,none⟩ = some (.int .i64 ((rd_T41 x11_1 (rd l0 (rd l2 x12_1))).f1)) ∧ w36.cell? (ad439.add ((rd l2 x12_1)).toNat) = some (.int .i64 (rd l1 (rd l2 x12_1))) := hS_
                                 refine norm_ (a' := ?_) ?_ ?_
                                 rotate_left
                                 · simp only [putAll,Act.put,List.setIfInBounds_toArray,List.set_cons_zero,List.set_cons_succ]
                                   rfl
                                 refine one_ (i := 17) (N := none) #[true,true,true,true,true,true,true,true,true,true,true,true,true,true,true,true,true,true,false] rfl rfl (one_of HT_.out (by kernel_rfl)) (by decide) (fun K hK => ?_)
                                 have hs37 : w36.cell? ⟨gb443,0,none⟩ = some (.int .i64 0) := (blk_cell BK443.out 0).trans rfl
                                 have hfs37 := blk_frozen BK443.out 0
                                 have hs38 : w36.cell? ⟨gb443,1,none⟩ = some (.int .i64 0) := (blk_cell BK443.out 1).trans rfl
                                 have hfs38 := blk_frozen BK443.out 1
                                 refine skip_ (w1 := ?_) (by rfl) rfl ?_ ?_
                                 rotate_left
                                 · go_simp
                                   rfl
                                 refine hK.out _ _ ⟨((cell_far (p := ⟨gb443,_,none⟩) (by first | exact Nat.ne_of_lt (Nat.lt_of_lt_of_le (by have := World.block_lt_of_cell? _ _ hw437_0;first | rwa [add_block] at this | exact this) GW443.out) | (rw [add_block];exact Nat.ne_of_lt (Nat.lt_of_lt_of_le (by have := World.block_lt_of_cell? _ _ hw437_0;first | rwa [add_block] at this | exact this) GW443.out)) | (show (Addr.add _ _).block ≠ _;rw [add_block];exact Nat.ne_of_lt (Nat.lt_of_lt_of_le (by have := World.block_lt_of_cell? _ _ hw437_0;first | rwa [add_block] at this | exact this) GW443.out)) | (dsimp only;exact Nat.ne_of_lt (Nat.lt_of_lt_of_le (by have := World.block_lt_of_cell? _ _ hw437_0;first | rwa [add_block] at this | exact this) GW443.out))) _).trans (((cell_far (p := ⟨gb443,_,none⟩) (by first | exact Nat.ne_of_lt (Nat.lt_of_lt_of_le (by have := World.block_lt_of_cell? _ _ hw437_0;first | rwa [add_block] at this | exact this) GW443.out) | (rw [add_block];exact Nat.ne_of_lt (Nat.lt_of_lt_of_le (by have := World.block_lt_of_cell? _ _ hw437_0;first | rwa [add_block] at this | exact this) GW443.out)) | (show (Addr.add _ _).block ≠ _;rw [add_block];exact Nat.ne_of_lt (Nat.lt_of_lt_of_le (by have := World.block_lt_of_cell? _ _ hw437_0;first | rwa [add_block] at this | exact this) GW443.out)) | (dsimp only;exact Nat.ne_of_lt (Nat.lt_of_lt_of_le (by have := World.block_lt_of_cell? _ _ hw437_0;first | rwa [add_block] at this | exact this) GW443.out))) _).trans (hHeld.1)))),((cell_far (p := ⟨gb443,_,none⟩) (by first | exact Kd.own_blk (Kd.R_away HO_11.out (fun _ hk => hk.2)) | (rw [add_block];exact Kd.own_blk (Kd.R_away HO_11.out (fun _ hk => hk.2))) | (show (Addr.add _ _).block ≠ _;rw [add_block];exact Kd.own_blk (Kd.R_away HO_11.out (fun _ hk => hk.2))) | (dsimp only;exact Kd.own_blk (Kd.R_away HO_11.out (fun _ hk => hk.2)))) _).trans (((cell_far (p := ⟨gb443,_,none⟩) (by first | exact Kd.own_blk (Kd.R_away HO_11.out (fun _ hk => hk.2)) | (rw [add_block];exact Kd.own_blk (Kd.R_away HO_11.out (fun _ hk => hk.2))) | (show (Addr.add _ _).block ≠ _;rw [add_block];exact Kd.own_blk (Kd.R_away HO_11.out (fun _ hk => hk.2))) | (dsimp only;exact Kd.own_blk (Kd.R_away HO_11.out (fun _ hk => hk.2)))) _).trans (hHeld.2.1)))),((cell_far (p := ⟨gb443,_,none⟩) (by first | exact Kd.own_blk (Kd.R_away HO_11.out (fun _ hk => hk.2)) | (rw [add_block];exact Kd.own_blk (Kd.R_away HO_11.out (fun _ hk => hk.2))) | (show (Addr.add _ _).block ≠ _;rw [add_block];exact Kd.own_blk (Kd.R_away HO_11.out (fun _ hk => hk.2))) | (dsimp only;exact Kd.own_blk (Kd.R_away HO_11.out (fun _ hk => hk.2)))) _).trans (((cell_far (p := ⟨gb443,_,none⟩) (by first | exact Kd.own_blk (Kd.R_away HO_11.out (fun _ hk => hk.2)) | (rw [add_block];exact Kd.own_blk (Kd.R_away HO_11.out (fun _ hk => hk.2))) | (show (Addr.add _ _).block ≠ _;rw [add_block];exact Kd.own_blk (Kd.R_away HO_11.out (fun _ hk => hk.2))) | (dsimp only;exact Kd.own_blk (Kd.R_away HO_11.out (fun _ hk => hk.2)))) _).trans (hHeld.2.2.1)))),((cell_far (p := ⟨gb443,_,none⟩) (by first | exact Nat.ne_of_lt (Nat.lt_of_lt_of_le (by have := World.block_lt_of_cell? _ _ hw439_0;first | rwa [add_block] at this | exact this) GW443.out) | (rw [add_block];exact Nat.ne_of_lt (Nat.lt_of_lt_of_le (by have := World.block_lt_of_cell? _ _ hw439_0;first | rwa [add_block] at this | exact this) GW443.out)) | (show (Addr.add _ _).block ≠ _;rw [add_block];exact Nat.ne_of_lt (Nat.lt_of_lt_of_le (by have := World.block_lt_of_cell? _ _ hw439_0;first | rwa [add_block] at this | exact this) GW443.out)) | (dsimp only;exact Nat.ne_of_lt (Nat.lt_of_lt_of_le (by have := World.block_lt_of_cell? _ _ hw439_0;first | rwa [add_block] at this | exact this) GW443.out))) _).trans (((cell_far (p := ⟨gb443,_,none⟩) (by first | exact Nat.ne_of_lt (Nat.lt_of_lt_of_le (by have := World.block_lt_of_cell? _ _ hw439_0;first | rwa [add_block] at this | exact this) GW443.out) | (rw [add_block];exact Nat.ne_of_lt (Nat.lt_of_lt_of_le (by have := World.block_lt_of_cell? _ _ hw439_0;first | rwa [add_block] at this | exact this) GW443.out)) | (show (Addr.add _ _).block ≠ _;rw [add_block];exact Nat.ne_of_lt (Nat.lt_of_lt_of_le (by have := World.block_lt_of_cell? _ _ hw439_0;first | rwa [add_block] at this | exact this) GW443.out)) | (dsimp only;exact Nat.ne_of_lt (Nat.lt_of_lt_of_le (by have := World.block_lt_of_cell? _ _ hw439_0;first | rwa [add_block] at this | exact this) GW443.out))) _).trans (hHeld.2.2.2))))⟩ (fun hHeld => ?_)
                                 clear hK K
                                 refine pure_ (i := 18) (N := some 15) (v := ?_) (a' := ?_) #[true,true,true,true,true,true,true,true,true,true,true,true,true,true,true,true,true,true,true] rfl rfl (any_of HT_.out (by kernel_rfl)) (fun _ _ _ h => h) (Or.inl ⟨by rfl,?_⟩) ?_ ?_
                                 rotate_left
                                 · intro w'
                                   go_simp
                                   with_reducible rfl
                                 rotate_left
                                 · simp only [Act.put,List.setIfInBounds_toArray,List.set_cons_zero,List.set_cons_succ,i64_w,i32_w]
                                   rfl
                                 refine done_ (done_of HT_.out (by kernel_rfl)) ?_
                                 try go_wp2
                                 have n0_ : Aside0 (Kd.R k41 41 ((w36.setCell ⟨gb443,0,none⟩ (.int .i64 t440)).setCell ⟨gb443,1,none⟩ (.int .i64 t441)) w.heap.size (fun k_ => some k_ ≠ (.slice (some ad438) x11_1.length co33 : Value).ownBlock ∧ k_ ≠ gb443) v426 y425) := ⟨by (with_reducible repeat (first | apply Kd.R_alloc | apply Kd.R_drewN | apply Kd.R_drew));exact Kd.R_mono (Kd.R_far (p := ⟨gb443,1,none⟩) (Kd.R_far (p := ⟨gb443,0,none⟩) (Kd.R_mono HO_10.out (fun k_ hk => (⟨hk,hk.2⟩ : _ ∧ k_ ≠ gb443))) (fun _ hk => hk.2) (.int .i64 t440)) (fun _ hk => hk.2) (.int .i64 t441)) (fun _ hk => ⟨hk.1.1,hk.1.2⟩)⟩
                                 have n1_ : Aside0 (Kd.R k41 41 ((w36.setCell ⟨gb443,0,none⟩ (.int .i64 t440)).setCell ⟨gb443,1,none⟩ (.int .i64 t441)) w.heap.size (fun k_ => some k_ ≠ (v426 : Value).ownBlock ∧ k_ ≠ gb443) (.slice (some ad438) x11_1.length co33) x11_1) := ⟨by (with_reducible repeat (first | apply Kd.R_alloc | apply Kd.R_drewN | apply Kd.R_drew));exact Kd.R_mono (Kd.R_far (p := ⟨gb443,1,none⟩) (Kd.R_far (p := ⟨gb443,0,none⟩) (Kd.R_mono HO_11.out (fun k_ hk => (⟨hk,hk.2⟩ : _ ∧ k_ ≠ gb443))) (fun _ hk => hk.2) (.int .i64 t440)) (fun _ hk => hk.2) (.int .i64 t441)) (fun _ hk => ⟨hk.1.1,hk.1.2⟩)⟩
                                 have n2_ : Aside0 (((w36.setCell ⟨gb443,0,none⟩ (.int .i64 t440)).setCell ⟨gb443,1,none⟩ (.int .i64 t441)).heap[gb443]? = some (.cells #[.int .i64 t440,.int .i64 t441] 41 (0,0))) := ⟨by (with_reducible repeat (first | refine blk_drewN ?_ _ | refine blk_drew ?_ | refine blk_alloc ?_ _));refine blk_put (cs := #[.int .i64 t440,.int .i64 0]) ?_ 1 _ rfl;(with_reducible repeat (first | refine blk_drewN ?_ _ | refine blk_drew ?_ | refine blk_alloc ?_ _));refine blk_put (cs := #[.int .i64 0,.int .i64 0]) ?_ 0 _ rfl;(with_reducible repeat (first | refine blk_drewN ?_ _ | refine blk_drew ?_ | refine blk_alloc ?_ _));exact BK443.out⟩
                                 have n3_ : Aside0 (Below w.heap.size w ((w36.setCell ⟨gb443,0,none⟩ (.int .i64 t440)).setCell ⟨gb443,1,none⟩ (.int .i64 t441))) := ⟨by repeat (first | (with_reducible first | exact HB.out | apply below_alloc | apply pw_below_drewN | apply below_drew1 | refine below_set ?_ GE443.out) | exact HB.out)⟩
                                 (try clear HO_10)
                                 (try clear HO_11)
                                 (try clear BK443)
                                 (try clear HB)
                                 generalize ((w36.setCell ⟨gb443,0,none⟩ (.int .i64 t440)).setCell ⟨gb443,1,none⟩ (.int .i64 t441)) = w39 at n0_ n1_ n2_ n3_ ⊢
                                 have HO_10 := n0_
                                 have HO_11 := n1_
                                 have BK443 := n2_
                                 have HB := n3_
                                 clear n0_ n1_ n2_ n3_
                                 have n0_ := Aside0.mk (Kd.R_drew HO_10.out)
                                 have n1_ := Aside0.mk (Kd.R_drew HO_11.out)
                                 have n2_ := Aside0.mk (blk_drew BK443.out)
                                 have n3_ := Aside0.mk (below_drew1 HB.out)
                                 clear HO_10
                                 clear HO_11
                                 clear BK443
                                 clear HB
                                 have HO_10 := n0_
                                 have HO_11 := n1_
                                 have BK443 := n2_
                                 have HB := n3_
                                 clear n0_ n1_ n2_ n3_
                                 have p444 : 0 ≤ ((rd l2 x12_1) : Int) := of_decide_eq_true (by first | (with_reducible assumption) | assumption)
                                 have q444 : (rd l2 x12_1) < (l0.length : Int) := of_decide_eq_true (by first | (with_reducible assumption) | assumption)
                                 obtain ⟨ad444,e444,hx444_0⟩ := Kd.at_int HR0.out (rd l2 x12_1) p444 q444
                                 have hw444_0 := hx444_0
                                 obtain rfl : ad437 = ad444 := (by injection e444)
                                 replace hx444_0 := (HB.out.cell (World.block_lt_of_cell? w _ hx444_0)).trans hx444_0
                                 replace p444 := eq_true p444
                                 replace q444 := eq_true q444
                                 have p31 : 0 ≤ ((rd l0 (rd l2 x12_1)) : Int) := of_decide_eq_true (by first | (with_reducible assumption) | assumption)
                                 have q31 : ((rd l0 (rd l2 x12_1)) : Int) < ((x11_1.length : Int) : Int) := of_decide_eq_true (by first | (with_reducible assumption) | assumption)
                                 obtain ⟨go31,co31,eo31,gb31,gl31,cl31,HG31⟩ := Kd.R_form HO_11.out (by omega)
                                 (first | cases eo31 | (injection eo31 with ea_ en_ ec_;(first | subst ea_ | (injection ea_ with ea_;subst ea_));subst ec_;clear en_))
                                 have GB31 := Aside0.mk gb31
                                 have GG31 := Aside0.mk HG31
                                 clear gb31 gl31 HG31
                                 (first | simp only [add_plain] at hx438_0 | skip)
                                 (first | simp only [add_plain] at hx438_1 | skip)
                                 obtain ⟨ce31,hcl31,hM31,hcc31,hfr31⟩ := Kd.R_elem HO_11.out z41 ((rd l0 (rd l2 x12_1)) : Int) p31 q31
                                 obtain rfl := k41_openM hM31
                                 have hx31_0 : World.cell? _ ⟨go31,((rd l0 (rd l2 x12_1)) : Int).toNat * 2,none⟩ = some (.int .i64 ((rd_T41 x11_1 (rd l0 (rd l2 x12_1))).f0)) := hcc31 0 _ rfl
                                 have hx31_1 : World.cell? _ ⟨go31,((rd l0 (rd l2 x12_1)) : Int).toNat * 2 + 1,none⟩ = some (.int .i64 ((rd_T41 x11_1 (rd l0 (rd l2 x12_1))).f1)) := hcc31 1 _ rfl
                                 have hf31_0 : World.frozen? _ ⟨go31,((rd l0 (rd l2 x12_1)) : Int).toNat * 2,none⟩ = false := hfr31 0
                                 have hf31_1 : World.frozen? _ ⟨go31,((rd l0 (rd l2 x12_1)) : Int).toNat * 2 + 1,none⟩ = false := hfr31 1
                                 (try clear hcl31);(try clear hcc31);(try clear hfr31);(try clear hM31)
                                 replace p31 := eq_true p31
                                 replace q31 := eq_true q31
                                 obtain ⟨ce41,hcl41,hM41,hcc41,hfr41⟩ := Kd.R_elem HO_11.out z41 ((rd l0 (rd l2 x12_1)) : Int) (of_decide_eq_true (by first | (with_reducible assumption) | assumption)) (by have h_ : ((rd l0 (rd l2 x12_1)) : Int) < ((x11_1.length : Int) : Int) := of_decide_eq_true (by first | (with_reducible assumption) | assumption);first | exact h_ | (have e_ := (Kd.R_reads' HO_11.out).1;omega) | simpa using h_)
                                 obtain rfl := k41_openM hM41
                                 have HP41 := (Kd.R_seg HO_11.out ((rd l0 (rd l2 x12_1)) : Int) (of_decide_eq_true (by first | (with_reducible assumption) | assumption)) (by have h_ : ((rd l0 (rd l2 x12_1)) : Int) < ((x11_1.length : Int) : Int) := of_decide_eq_true (by first | (with_reducible assumption) | assumption);first | exact h_ | (have e_ := (Kd.R_reads' HO_11.out).1;omega) | simpa using h_) (seg := [.int .i64 t440,.int .i64 t441]) (j := 0) hcl41 hcc41 (show 2 ≤ 2 from by decide) (x' := (⟨t440,t441⟩ : S41)) (k41_mkM _ _ _ (⟨t440,t441⟩ : S41) ) (fun _ hk => hk)).1
                                 rw [← Ny445.out] at HP41
                                 have HQ41 := Aside0.mk HP41
                                 (try clear hcl41);(try clear hcc41);(try clear hfr41);(try clear hM41);(try clear HP41)
                                 refine start_ (n := 8) (S := fun w' => w'.cell? ⟨gb443,0,none⟩ = some (.int .i64 t440) ∧ w'.cell? ⟨gb443,1,none⟩ = some (.int .i64 t441) ∧ w'.cell? (ad437.add ((rd l2 x12_1)).toNat) = some (.int .i64 (rd l0 (rd l2 x12_1)))) (ds := [7]) #[false,false,false,false,false,false,false,false] (by kernel_rfl) rfl rfl ⟨(blk_cell BK443.out 0).trans rfl,(blk_cell BK443.out 1).trans rfl,((HB.out.cell (World.block_lt_of_cell? w _ hw444_0)).trans hw444_0)⟩ (fun hHeld => ?_);refine with_tabW spec_HistOf.tab14 spec_HistOf.bits14 (fun HT_ HW_ => ?_)
                                 generalize w39.drew = w40 at HO_10 HO_11 BK443 HB GG31 HQ41 hf31_0 hf31_1 hx31_0 hx31_1 hx438_0 hx438_1 hx444_0 hHeld ⊢
                                 refine pure_ (i := 0) (N := some 77) (v := ?_) (a' := ?_) #[true,false,false,false,false,false,false,false] rfl rfl (any_of HT_.out (by kernel_rfl)) (fun _ _ _ h => h) (Or.inl ⟨by rfl,?_⟩) ?_ ?_
                                 rotate_left
                                 · intro w'
                                   go_simp
                                   with_reducible rfl
                                 rotate_left
                                 · simp only [Act.put,List.setIfInBounds_toArray,List.set_cons_zero,List.set_cons_succ,i64_w,i32_w]
                                   rfl
                                 refine pure_ (i := 1) (N := some 78) (v := ?_) (a' := ?_) #[true,true,false,false,false,false,false,false] rfl rfl (any_of HT_.out (by kernel_rfl)) (fun _ _ _ h => h) (Or.inl ⟨by rfl,?_⟩) ?_ ?_
                                 rotate_left
                                 · intro w'
                                   go_simp
                                   with_reducible rfl
                                 rotate_left
                                 · simp only [Act.put,List.setIfInBounds_toArray,List.set_cons_zero,List.set_cons_succ,i64_w,i32_w]
                                   rfl
                                 refine pure_ (i := 2) (N := some 79) (v := ?_) (a' := ?_) #[true,true,true,false,false,false,false,false] rfl rfl (any_of HT_.out (by kernel_rfl)) (fun _ _ _ h => h) (Or.inl ⟨by rfl,?_⟩) ?_ ?_
                                 rotate_left
                                 · intro w'
                                   go_simp
                                   with_reducible rfl
                                 rotate_left
                                 · simp only [Act.put,List.setIfInBounds_toArray,List.set_cons_zero,List.set_cons_succ,i64_w,i32_w]
                                   rfl
                                 refine pure_ (i := 3) (N := some 80) (v := ?_) (a' := ?_) #[true,true,true,true,false,false,false,false] rfl rfl (any_of HT_.out (by kernel_rfl)) (fun _ _ _ h => h) (Or.inl ⟨by rfl,?_⟩) ?_ ?_
                                 rotate_left
                                 · intro w'
                                   go_simp
                                   with_reducible rfl
                                 rotate_left
                                 · simp only [Act.put,List.setIfInBounds_toArray,List.set_cons_zero,List.set_cons_succ,i64_w,i32_w]
                                   rfl
                                 refine take_ (i := 4) (N := some 81) (v := ?_) (a' := ?_) #[true,true,true,true,true,false,false,false] rfl rfl (take_ofW HT_.out HW_.out (by kernel_rfl)) (fun _ _ _ h => h) (Or.inl ⟨by rfl,?_⟩) hHeld ?_ ?_
                                 rotate_left
                                 · rintro w' ⟨s0,s1,s2⟩
                                   go_simp
                                   with_reducible rfl
                                 rotate_left
                                 · simp only [Act.put,List.setIfInBounds_toArray,List.set_cons_zero,List.set_cons_succ,i64_w,i32_w]
                                   rfl
                                 refine take_ (i := 5) (N := some 82) (v := ?_) (a' := ?_) #[true,true,true,true,true,true,false,false] rfl rfl (take_ofW HT_.out HW_.out (by kernel_rfl)) (fun _ _ _ h => h) (Or.inl ⟨by rfl,?_⟩) hHeld ?_ ?_
                                 rotate_left
                                 · rintro w' ⟨s0,s1,s2⟩
                                   go_simp
                                   with_reducible rfl
                                 rotate_left
                                 · simp only [Act.put,List.setIfInBounds_toArray,List.set_cons_zero,List.set_cons_succ,i64_w,i32_w]
                                   rfl
                                 refine pure_ (i := 6) (N := some 83) (v := ?_) (a' := ?_) #[true,true,true,true,true,true,true,false] rfl rfl (any_of HT_.out (by kernel_rfl)) (fun _ _ _ h => h) (Or.inl ⟨by rfl,?_⟩) ?_ ?_
                                 rotate_left
                                 · intro w'
                                   go_simp
                                   with_reducible rfl
                                 rotate_left
                                 · simp only [Act.put,List.setIfInBounds_toArray,List.set_cons_zero,List.set_cons_succ,i64_w,i32_w]
                                   rfl
                                 refine last_ (i := 7) (N := none) #[true,true,true,true,true,true,true,true] rfl rfl (one_of HT_.out (by kernel_rfl)) (by decide) (fun K hK => ?_)
                                 refine skip_ (w1 := ?_) (by rfl) rfl ?_ ?_
                                 rotate_left
                                 · go_simp
                                   rfl
                                 refine hK.out _ _ ?_
                                 clear hK K
                                 refine done_ (done_of HT_.out (by kernel_rfl)) ?_
                                 try go_wp2
                                 go_roundg kj14
                                 case measure => have := HK1.out;have := HJ14.out;omega
                                 case rel => exact ⟨(y445),(wrap64 (x12_1 + 1)),(by first | rfl | (simp;done) | (simp [*];done)),H',⟨by have := HK1.out;have := HJ14.out;omega⟩,⟨by (with_reducible repeat (first | apply Kd.R_alloc | apply Kd.R_drewN | apply Kd.R_drew));exact Kd.R_mono (Kd.R_far (p := ⟨go31,((rd l0 (rd l2 x12_1)) : Int).toNat * 2 + 1,none⟩) (Kd.R_far (p := ⟨go31,((rd l0 (rd l2 x12_1)) : Int).toNat * 2,none⟩) (Kd.R_mono HO_10.out (fun k_ hk => (⟨hk,fun e_ => hk.1 (by rw [e_];rfl)⟩ : _ ∧ k_ ≠ go31))) (fun _ hk => hk.2) (.int .i64 t440)) (fun _ hk => hk.2) (.int .i64 t441)) (fun _ hk => hk.1.1)⟩,⟨by (with_reducible repeat (first | apply Kd.R_alloc | apply Kd.R_drewN | apply Kd.R_drew));exact Kd.R_mono HQ41.out (fun _ hk => hk.1)⟩,⟨by repeat (first | (with_reducible first | exact HB.out | apply below_alloc | apply pw_below_drewN | apply below_drew1 | refine below_set ?_ GB31.out | refine below_set ?_ GB31.out | refine below_set ?_ GE443.out) | exact HB.out)⟩⟩
                               · replace c30 := Bool.eq_false_iff.mpr c30
                                 subst c30
                                 have H1 : (some (y425,false)) = some (r1,r2) := by rw [if_neg (show ¬ (false = true) by decide)] at H;exact H
                                 clear H
                                 have H := H1
                                 clear H1
                                 simp only [Option.some.injEq,Prod.mk.injEq] at H
                                 obtain ⟨rfl,rfl⟩ := H
                                 try go_wp2
                                 have n0_ := Aside0.mk (Kd.R_drew HO_10.out)
                                 have n1_ := Aside0.mk (Kd.R_drew HO_11.out)
                                 have n2_ := Aside0.mk (below_drew1 HB.out)
                                 clear HO_10
                                 clear HO_11
                                 clear HB
                                 have HO_10 := n0_
                                 have HO_11 := n1_
                                 have HB := n2_
                                 clear n0_ n1_ n2_
                                 have p437 : 0 ≤ ((rd l2 x12_1) : Int) := of_decide_eq_true (by first | (with_reducible assumption) | assumption)
                                 have q437 : (rd l2 x12_1) < (l0.length : Int) := of_decide_eq_true (by first | (with_reducible assumption) | assumption)
                                 obtain ⟨ad437,e437,hx437_0⟩ := Kd.at_int HR0.out (rd l2 x12_1) p437 q437
                                 have hw437_0 := hx437_0
                                 cases e437
                                 replace hx437_0 := (HB.out.cell (World.block_lt_of_cell? w _ hx437_0)).trans hx437_0
                                 replace p437 := eq_true p437
                                 replace q437 := eq_true q437
                                 obtain ⟨Ao43,co43,eo43⟩ := Kd.R_slice HO_11.out
                                 (first | subst eo43 | (injection eo43 with f1_ f2_ f3_;have f4_ := f1_.symm;have f5_ := f3_.symm;clear f1_ f2_ f3_;subst f4_;subst f5_))
                                 have p438 : 0 ≤ ((rd l0 (rd l2 x12_1)) : Int) := of_decide_eq_true (by first | (with_reducible assumption) | assumption)
                                 have q438 : (rd l0 (rd l2 x12_1)) < (x11_1.length : Int) := of_decide_eq_true (by first | (with_reducible assumption) | assumption)
                                 obtain ⟨ad438,e438,hx438_0,hx438_1⟩ := at_T41 (Kd.R_reads' HO_11.out).2.2 (rd l0 (rd l2 x12_1)) p438 q438
                                 cases e438
                                 replace p438 := eq_true p438
                                 replace q438 := eq_true q438
                                 have p439 : 0 ≤ ((rd l2 x12_1) : Int) := of_decide_eq_true (by first | (with_reducible assumption) | assumption)
                                 have q439 : (rd l2 x12_1) < (l1.length : Int) := of_decide_eq_true (by first | (with_reducible assumption) | assumption)
                                 obtain ⟨ad439,e439,hx439_0⟩ := Kd.at_int HR1.out (rd l2 x12_1) p439 q439
                                 have hw439_0 := hx439_0
                                 cases e439
                                 replace hx439_0 := (HB.out.cell (World.block_lt_of_cell? w _ hx439_0)).trans hx439_0
                                 replace p439 := eq_true p439
                                 replace q439 := eq_true q439
                                 refine start_ (n := 19) (S := fun w' => w'.cell? (ad437.add ((rd l2 x12_1)).toNat) = some (.int .i64 (rd l0 (rd l2 x12_1))) ∧ w'.cell? (ad438.add (((rd l0 (rd l2 x12_1))).toNat * 2)) = some (.int .i64 ((rd_T41 x11_1 (rd l0 (rd l2 x12_1))).f0)) ∧ w'.cell? ⟨(ad438.add (((rd l0 (rd l2 x12_1))).toNat * 2)).block,(ad438.add (((rd l0 (rd l2 x12_1))).toNat * 2)).off + 1,none⟩ = some (.int .i64 ((rd_T41 x11_1 (rd l0 (rd l2 x12_1))).f1)) ∧ w'.cell? (ad439.add ((rd l2 x12_1)).toNat) = some (.int .i64 (rd l1 (rd l2 x12_1)))) (ds := []) #[false,false,false,false,false,false,false,false,false,false,false,false,false,false,false,false,false,false,false] (by kernel_rfl) rfl rfl ⟨((HB.out.cell (World.block_lt_of_cell? w _ hw437_0)).trans hw437_0),hx438_0,hx438_1,((HB.out.cell (World.block_lt_of_cell? w _ hw439_0)).trans hw439_0)⟩ (fun hHeld => ?_);refine with_tabW spec_HistOf.tab11 spec_HistOf.bits11 (fun HT_ HW_ => ?_)
                                 generalize wc.drew = w42 at HO_10 HO_11 HB hx437_0 hx438_0 hx438_1 hx439_0 hHeld ⊢
                                 refine pure_ (i := 0) (N := some 59) (v := ?_) (a' := ?_) #[true,false,false,false,false,false,false,false,false,false,false,false,false,false,false,false,false,false,false] rfl rfl (any_of HT_.out (by kernel_rfl)) (fun _ _ _ h => h) (Or.inl ⟨by rfl,?_⟩) ?_ ?_
                                 rotate_left
                                 · intro w'
                                   go_simp
                                   with_reducible rfl
                                 rotate_left
                                 · simp only [Act.put,List.setIfInBounds_toArray,List.set_cons_zero,List.set_cons_succ,i64_w,i32_w]
                                   rfl
                                 refine pure_ (i := 1) (N := some 60) (v := ?_) (a' := ?_) #[true,true,false,false,false,false,false,false,false,false,false,false,false,false,false,false,false,false,false] rfl rfl (any_of HT_.out (by kernel_rfl)) (fun _ _ _ h => h) (Or.inl ⟨by rfl,?_⟩) ?_ ?_
                                 rotate_left
                                 · intro w'
                                   go_simp
                                   with_reducible rfl
                                 rotate_left
                                 · simp only [Act.put,List.setIfInBounds_toArray,List.set_cons_zero,List.set_cons_succ,i64_w,i32_w]
                                   rfl
                                 refine pure_ (i := 2) (N := some 61) (v := ?_) (a' := ?_) #[true,true,true,false,false,false,false,false,false,false,false,false,false,false,false,false,false,false,false] rfl rfl (any_of HT_.out (by kernel_rfl)) (fun _ _ _ h => h) (Or.inl ⟨by rfl,?_⟩) ?_ ?_
                                 rotate_left
                                 · intro w'
                                   go_simp
                                   with_reducible rfl
                                 rotate_left
                                 · simp only [Act.put,List.setIfInBounds_toArray,List.set_cons_zero,List.set_cons_succ,i64_w,i32_w]
                                   rfl
                                 refine pure_ (i := 3) (N := some 62) (v := ?_) (a' := ?_) #[true,true,true,true,false,false,false,false,false,false,false,false,false,false,false,false,false,false,false] rfl rfl (any_of HT_.out (by kernel_rfl)) (fun _ _ _ h => h) (Or.inl ⟨by rfl,?_⟩) ?_ ?_
                                 rotate_left
                                 · intro w'
                                   go_simp
                                   with_reducible rfl
                                 rotate_left
                                 · simp only [Act.put,List.setIfInBounds_toArray,List.set_cons_zero,List.set_cons_succ,i64_w,i32_w]
                                   rfl
                                 refine pure_ (i := 7) (N := some 66) (v := ?_) (a' := ?_) #[true,true,true,true,false,false,false,true,false,false,false,false,false,false,false,false,false,false,false] rfl rfl (any_of HT_.out (by kernel_rfl)) (fun _ _ _ h => h) (Or.inl ⟨by rfl,?_⟩) ?_ ?_
                                 rotate_left
                                 · intro w'
                                   go_simp
                                   with_reducible rfl
                                 rotate_left
                                 · simp only [Act.put,List.setIfInBounds_toArray,List.set_cons_zero,List.set_cons_succ,i64_w,i32_w]
                                   rfl
                                 refine pure_ (i := 8) (N := some 67) (v := ?_) (a' := ?_) #[true,true,true,true,false,false,false,true,true,false,false,false,false,false,false,false,false,false,false] rfl rfl (any_of HT_.out (by kernel_rfl)) (fun _ _ _ h => h) (Or.inl ⟨by rfl,?_⟩) ?_ ?_
                                 rotate_left
                                 · intro w'
                                   go_simp
                                   with_reducible rfl
                                 rotate_left
                                 · simp only [Act.put,List.setIfInBounds_toArray,List.set_cons_zero,List.set_cons_succ,i64_w,i32_w]
                                   rfl
                                 refine pure_ (i := 9) (N := some 68) (v := ?_) (a' := ?_) #[true,true,true,true,false,false,false,true,true,true,false,false,false,false,false,false,false,false,false] rfl rfl (any_of HT_.out (by kernel_rfl)) (fun _ _ _ h => h) (Or.inl ⟨by rfl,?_⟩) ?_ ?_
                                 rotate_left
                                 · intro w'
                                   go_simp
                                   with_reducible rfl
                                 rotate_left
                                 · simp only [Act.put,List.setIfInBounds_toArray,List.set_cons_zero,List.set_cons_succ,i64_w,i32_w]
                                   rfl
                                 refine take_ (i := 4) (N := some 63) (v := ?_) (a' := ?_) #[true,true,true,true,true,false,false,true,true,true,false,false,false,false,false,false,false,false,false] rfl rfl (take_ofW HT_.out HW_.out (by kernel_rfl)) (fun _ _ _ h => h) (Or.inl ⟨by rfl,?_⟩) hHeld ?_ ?_
                                 rotate_left
                                 · rintro w' ⟨s0,s1,s2,s3⟩
                                   go_simp
                                   with_reducible rfl
                                 rotate_left
                                 · simp only [Act.put,List.setIfInBounds_toArray,List.set_cons_zero,List.set_cons_succ,i64_w,i32_w]
                                   rfl
                                 refine pure_ (i := 5) (N := some 64) (v := ?_) (a' := ?_) #[true,true,true,true,true,true,false,true,true,true,false,false,false,false,false,false,false,false,false] rfl rfl (any_of HT_.out (by kernel_rfl)) (fun _ _ _ h => h) (Or.inl ⟨by rfl,?_⟩) ?_ ?_
                                 rotate_left
                                 · intro w'
                                   go_simp
                                   with_reducible rfl
                                 rotate_left
                                 · simp only [Act.put,List.setIfInBounds_toArray,List.set_cons_zero,List.set_cons_succ,i64_w,i32_w]
                                   rfl
                                 refine take_ (i := 6) (N := some 65) (v := ?_) (a' := ?_) #[true,true,true,true,true,true,true,true,true,true,false,false,false,false,false,false,false,false,false] rfl rfl (take_ofW HT_.out HW_.out (by kernel_rfl)) (fun _ _ _ h => h) (Or.inl ⟨by rfl,?_⟩) hHeld ?_ ?_
                                 rotate_left
                                 · rintro w' ⟨s0,s1,s2,s3⟩
                                   go_simp
                                   with_reducible rfl
                                 rotate_left
                                 · simp only [Act.put,List.setIfInBounds_toArray,List.set_cons_zero,List.set_cons_succ,i64_w,i32_w]
                                   rfl
                                 refine take_ (i := 10) (N := some 69) (v := ?_) (a' := ?_) #[true,true,true,true,true,true,true,true,true,true,true,false,false,false,false,false,false,false,false] rfl rfl (take_ofW HT_.out HW_.out (by kernel_rfl)) (fun _ _ _ h => h) (Or.inl ⟨by rfl,?_⟩) hHeld ?_ ?_
                                 rotate_left
                                 · rintro w' ⟨s0,s1,s2,s3⟩
                                   go_simp
                                   with_reducible rfl
                                 rotate_left
                                 · simp only [Act.put,List.setIfInBounds_toArray,List.set_cons_zero,List.set_cons_succ,i64_w,i32_w]
                                   rfl
                                 refine pure_ (i := 11) (N := some 70) (v := ?_) (a' := ?_) #[true,true,true,true,true,true,true,true,true,true,true,true,false,false,false,false,false,false,false] rfl rfl (any_of HT_.out (by kernel_rfl)) (fun _ _ _ h => h) (Or.inl ⟨by rfl,?_⟩) ?_ ?_
                                 rotate_left
                                 · intro w'
                                   go_simp
                                   with_reducible rfl
                                 rotate_left
                                 · simp only [Act.put,List.setIfInBounds_toArray,List.set_cons_zero,List.set_cons_succ,i64_w,i32_w]
                                   rfl
                                 refine join_ (σ := Nat) 2 #[true,true,true,true,true,true,true,true,true,true,true,true,true,true,true,true,true,false,false] (fun s_ => [(71,.tuple #[.agg #[.int .i64 t440,.int .i64 t441],.bool false]),(14,.pointer (some ⟨s_,0,none⟩)),(58,.tuple #[.agg #[.int .i64 t440,.int .i64 t441],.bool false]),(72,.agg #[.int .i64 t440,.int .i64 t441]),(73,.bool false)]) (fun s_ w' => (w'.cell? (ad437.add ((rd l2 x12_1)).toNat) = some (.int .i64 (rd l0 (rd l2 x12_1))) ∧ w'.cell? (ad438.add (((rd l0 (rd l2 x12_1))).toNat * 2)) = some (.int .i64 ((rd_T41 x11_1 (rd l0 (rd l2 x12_1))).f0)) ∧ w'.cell? ⟨(ad438.add (((rd l0 (rd l2 x12_1))).toNat * 2)).block,(ad438.add (((rd l0 (rd l2 x12_1))).toNat * 2)).off + 1,none⟩ = some (.int .i64 ((rd_T41 x11_1 (rd l0 (rd l2 x12_1))).f1)) ∧ w'.cell? (ad439.add ((rd l2 x12_1)).toNat) = some (.int .i64 (rd l1 (rd l2 x12_1)))) ∧ (Kd.R k41 41 w' w.heap.size (fun k_ => some k_ ≠ (.slice (some ad438) x11_1.length co43 : Value).ownBlock ∧ k_ ≠ s_) v426 y425) ∧ (Kd.R k41 41 w' w.heap.size (fun k_ => some k_ ≠ (v426 : Value).ownBlock ∧ k_ ≠ s_) (.slice (some ad438) x11_1.length co43) x11_1) ∧ (w'.heap[s_]? = some (.cells #[.int .i64 0,.int .i64 0] 41 (0,0))) ∧ (w.heap.size ≤ s_) ∧ (w.heap.size ≤ s_) ∧ (Below w.heap.size w w')) ?_ ?_
                                 rotate_left
                                 · intro hCont
                                   refine two_ (i := 12) (j := 16) (Ni := some 71) (Nj := some 14) #[true,true,true,true,true,true,true,true,true,true,true,true,true,false,false,false,false,false,false] #[true,true,true,true,true,true,true,true,true,true,true,true,false,false,false,false,true,false,false] rfl rfl rfl rfl (two_of HT_.out (by kernel_rfl)) (by decide) (by decide) (fun K hK => ?_) (fun K hK => ?_)
                                   · skip
                                     refine goes_ Try.func70 (by kernel_rfl) rfl #[.agg #[.int .i64 ((rd_T41 x11_1 (rd l0 (rd l2 x12_1))).f0),.int .i64 ((rd_T41 x11_1 (rd l0 (rd l2 x12_1))).f1)],.agg #[.int .i64 1,.int .i64 (rd l1 (rd l2 x12_1))]] (by rfl) rfl rfl (by (try simp only [List.map_toArray,List.map_cons,List.map_nil]);first | done | rfl | (simp only [List.length_drop,List.length_take];rfl)) ?_
                                     with_reducible refine (spec_l13Add.calls ((rd_T41 x11_1 (rd l0 (rd l2 x12_1))).f0) ((rd_T41 x11_1 (rd l0 (rd l2 x12_1))).f1) 1 (rd l1 (rd l2 x12_1)) t440 t441 false _ A29.out).mono ?_
                                     rintro e w44 ⟨rfl,hb⟩
                                     have HS1_ := (hb.cell (World.block_lt_of_cell? _ _ (hHeld.2.1))).trans (hHeld.2.1)
                                     have HS2_ := (hb.cell (World.block_lt_of_cell? _ _ (hHeld.2.2.1))).trans (hHeld.2.2.1)
                                     refine ⟨_,rfl,?_⟩
                                     have n0_ := Aside0.mk (Kd.R_below (by (with_reducible repeat (first | apply Kd.R_alloc | apply Kd.R_drewN | apply Kd.R_drew));exact HO_10.out) hb)
                                     have n1_ := Aside0.mk (Kd.R_below (by (with_reducible repeat (first | apply Kd.R_alloc | apply Kd.R_drewN | apply Kd.R_drew));exact HO_11.out) hb)
                                     have n2_ := Aside0.mk (below_step (by repeat (first | (with_reducible first | exact HB.out | apply below_alloc | apply pw_below_drewN | apply below_drew1) | exact HB.out)) hb)
                                     clear HO_10
                                     clear HO_11
                                     clear HB
                                     have HO_10 := n0_
                                     have HO_11 := n1_
                                     have HB := n2_
                                     clear n0_ n1_ n2_
                                     (try clear hb)
                                     (try clear hb2)
                                     (try clear hk)
                                     (try clear hi)
                                     refine hK.out _ _ ⟨((HB.out.cell (World.block_lt_of_cell? w _ hw437_0)).trans hw437_0),HS1_,HS2_,((HB.out.cell (World.block_lt_of_cell? w _ hw439_0)).trans hw439_0)⟩ (fun hHeld => ?_)
                                     clear hK K
                                     refine norm_ (a' := ?_) ?_ ?_
                                     rotate_left
                                     · show Act.put _ (some 71) _ = _
                                       simp only [Act.put,List.setIfInBounds_toArray,List.set_cons_zero,List.set_cons_succ,i64_w,i32_w]
                                       rfl
                                     refine pure_ (i := 13) (N := some 58) (v := ?_) (a' := ?_) #[true,true,true,true,true,true,true,true,true,true,true,true,true,true,false,false,false,false,false] rfl rfl (any_of HT_.out (by kernel_rfl)) (fun _ _ _ h => h) (Or.inl ⟨by rfl,?_⟩) ?_ ?_
                                     rotate_left
                                     · intro w'
                                       go_simp
                                       with_reducible rfl
                                     rotate_left
                                     · simp only [Act.put,List.setIfInBounds_toArray,List.set_cons_zero,List.set_cons_succ,i64_w,i32_w]
                                       rfl
                                     refine pure_ (i := 14) (N := some 72) (v := ?_) (a' := ?_) #[true,true,true,true,true,true,true,true,true,true,true,true,true,true,true,false,false,false,false] rfl rfl (any_of HT_.out (by kernel_rfl)) (fun _ _ _ h => h) (Or.inl ⟨by rfl,?_⟩) ?_ ?_
                                     rotate_left
                                     · intro w'
                                       go_simp
                                       with_reducible rfl
                                     rotate_left
                                     · simp only [Act.put,List.setIfInBounds_toArray,List.set_cons_zero,List.set_cons_succ,i64_w,i32_w]
                                       rfl
                                     refine pure_ (i := 15) (N := some 73) (v := ?_) (a' := ?_) #[true,true,true,true,true,true,true,true,true,true,true,true,true,true,true,true,false,false,false] rfl rfl (any_of HT_.out (by kernel_rfl)) (fun _ _ _ h => h) (Or.inl ⟨by rfl,?_⟩) ?_ ?_
                                     rotate_left
                                     · intro w'
                                       go_simp
                                       with_reducible rfl
                                     rotate_left
                                     · simp only [Act.put,List.setIfInBounds_toArray,List.set_cons_zero,List.set_cons_succ,i64_w,i32_w]
                                       rfl
                                     refine one_ (i := 16) (N := some 14) #[true,true,true,true,true,true,true,true,true,true,true,true,true,true,true,true,true,false,false] rfl rfl (one_of HT_.out (by kernel_rfl)) (by decide) (fun K hK => ?_)
                                     refine box_step ?hg (N := 14) ?hd (cs := #[.int .i64 0,.int .i64 0]) (t := 41) ?hr ?_;(case hd => rfl);(case hg => rfl);(case hr => first | (go_simp;done) | (go_simp;rfl))
                                     intro gb443 hg w45 hbox hb
                                     have HS1_ := (hb.cell (World.block_lt_of_cell? _ _ (hHeld.2.1))).trans (hHeld.2.1)
                                     have HS2_ := (hb.cell (World.block_lt_of_cell? _ _ (hHeld.2.2.1))).trans (hHeld.2.2.1)
                                     have n0_ := Aside0.mk (Kd.R_below (Kd.R_elderB (by (with_reducible repeat (first | apply Kd.R_alloc | apply Kd.R_drewN | apply Kd.R_drew));exact HO_10.out) gb443 (Nat.le_of_eq hg.symm)) hb)
                                     have n1_ := Aside0.mk (Kd.R_below (Kd.R_elderB (by (with_reducible repeat (first | apply Kd.R_alloc | apply Kd.R_drewN | apply Kd.R_drew));exact HO_11.out) gb443 (Nat.le_of_eq hg.symm)) hb)
                                     have n2_ := Aside0.mk (below_step (by repeat (first | (with_reducible first | exact HB.out | apply below_alloc | apply pw_below_drewN | apply below_drew1) | exact HB.out)) hb)
                                     have n3_ := Aside0.mk (hbox)
                                     have n4_ := Aside0.mk ((by rw [hg];exact (below_size (by repeat (first | (with_reducible first | exact HB.out | apply below_alloc | apply pw_below_drewN | apply below_drew1) | exact HB.out))) : w.heap.size ≤ gb443))
                                     have n5_ := Aside0.mk ((by rw [hg];exact (below_size (by repeat (first | (with_reducible first | exact HB.out | apply below_alloc | apply pw_below_drewN | apply below_drew1) | exact HB.out))) : w.heap.size ≤ gb443))
                                     clear HO_10
                                     clear HO_11
                                     clear HB
                                     have HO_10 := n0_
                                     have HO_11 := n1_
                                     have HB := n2_
                                     have BK443 := n3_
                                     have GW443 := n4_
                                     have GE443 := n5_
                                     clear n0_ n1_ n2_ n3_ n4_ n5_
                                     clear hb hbox hg
                                     refine hK.out _ _ ⟨((HB.out.cell (World.block_lt_of_cell? w _ hw437_0)).trans hw437_0),HS1_,HS2_,((HB.out.cell (World.block_lt_of_cell? w _ hw439_0)).trans hw439_0)⟩ (fun hHeld => ?_)
                                     clear hK K
                                     refine norm_ (a' := ?_) ?_ ?_
                                     rotate_left
                                     · show Act.put _ (some 14) _ = _
                                       simp only [Act.put,List.setIfInBounds_toArray,List.set_cons_zero,List.set_cons_succ,i64_w,i32_w]
                                       rfl
                                     exact norm_ (by simp only [putAll,Act.put,List.setIfInBounds_toArray,List.set_cons_zero,List.set_cons_succ]) (hCont (gb443) _ ⟨hHeld,(by (with_reducible repeat (first | apply Kd.R_alloc | apply Kd.R_drewN | apply Kd.R_drew));exact HO_10.out),(by (with_reducible repeat (first | apply Kd.R_alloc | apply Kd.R_drewN | apply Kd.R_drew));exact HO_11.out),(by (with_reducible repeat (first | refine blk_drewN ?_ _ | refine blk_drew ?_ | refine blk_alloc ?_ _));exact BK443.out),GW443.out,GE443.out,(by repeat (first | (with_reducible first | exact HB.out | apply below_alloc | apply pw_below_drewN | apply below_drew1 | refine below_set ?_ GE443.out) | exact HB.out))⟩)
                                   · skip
                                     refine box_step ?hg (N := 14) ?hd (cs := #[.int .i64 0,.int .i64 0]) (t := 41) ?hr ?_;(case hd => rfl);(case hg => rfl);(case hr => first | (go_simp;done) | (go_simp;rfl))
                                     intro gb443 hg w44 hbox hb
                                     have HS1_ := (hb.cell (World.block_lt_of_cell? _ _ (hHeld.2.1))).trans (hHeld.2.1)
                                     have HS2_ := (hb.cell (World.block_lt_of_cell? _ _ (hHeld.2.2.1))).trans (hHeld.2.2.1)
                                     have n0_ := Aside0.mk (Kd.R_below (Kd.R_elderB (by (with_reducible repeat (first | apply Kd.R_alloc | apply Kd.R_drewN | apply Kd.R_drew));exact HO_10.out) gb443 (Nat.le_of_eq hg.symm)) hb)
                                     have n1_ := Aside0.mk (Kd.R_below (Kd.R_elderB (by (with_reducible repeat (first | apply Kd.R_alloc | apply Kd.R_drewN | apply Kd.R_drew));exact HO_11.out) gb443 (Nat.le_of_eq hg.symm)) hb)
                                     have n2_ := Aside0.mk (below_step (by repeat (first | (with_reducible first | exact HB.out | apply below_alloc | apply pw_below_drewN | apply below_drew1) | exact HB.out)) hb)
                                     have n3_ := Aside0.mk (hbox)
                                     have n4_ := Aside0.mk ((by rw [hg];exact (below_size (by repeat (first | (with_reducible first | exact HB.out | apply below_alloc | apply pw_below_drewN | apply below_drew1) | exact HB.out))) : w.heap.size ≤ gb443))
                                     have n5_ := Aside0.mk ((by rw [hg];exact (below_size (by repeat (first | (with_reducible first | exact HB.out | apply below_alloc | apply pw_below_drewN | apply below_drew1) | exact HB.out))) : w.heap.size ≤ gb443))
                                     clear HO_10
                                     clear HO_11
                                     clear HB
                                     have HO_10 := n0_
                                     have HO_11 := n1_
                                     have HB := n2_
                                     have BK443 := n3_
                                     have GW443 := n4_
                                     have GE443 := n5_
                                     clear n0_ n1_ n2_ n3_ n4_ n5_
                                     clear hb hbox hg
                                     refine hK.out _ _ ⟨((HB.out.cell (World.block_lt_of_cell? w _ hw437_0)).trans hw437_0),HS1_,HS2_,((HB.out.cell (World.block_lt_of_cell? w _ hw439_0)).trans hw439_0)⟩ (fun hHeld => ?_)
                                     clear hK K
                                     refine norm_ (a' := ?_) ?_ ?_
                                     rotate_left
                                     · show Act.put _ (some 14) _ = _
                                       simp only [Act.put,List.setIfInBounds_toArray,List.set_cons_zero,List.set_cons_succ,i64_w,i32_w]
                                       rfl
                                     refine one_ (i := 12) (N := some 71) #[true,true,true,true,true,true,true,true,true,true,true,true,true,false,false,false,true,false,false] rfl rfl (one_of HT_.out (by kernel_rfl)) (by decide) (fun K hK => ?_)
                                     refine goes_ Try.func70 (by kernel_rfl) rfl #[.agg #[.int .i64 ((rd_T41 x11_1 (rd l0 (rd l2 x12_1))).f0),.int .i64 ((rd_T41 x11_1 (rd l0 (rd l2 x12_1))).f1)],.agg #[.int .i64 1,.int .i64 (rd l1 (rd l2 x12_1))]] (by rfl) rfl rfl (by (try simp only [List.map_toArray,List.map_cons,List.map_nil]);first | done | rfl | (simp only [List.length_drop,List.length_take];rfl)) ?_
                                     with_reducible refine (spec_l13Add.calls ((rd_T41 x11_1 (rd l0 (rd l2 x12_1))).f0) ((rd_T41 x11_1 (rd l0 (rd l2 x12_1))).f1) 1 (rd l1 (rd l2 x12_1)) t440 t441 false _ A29.out).mono ?_
                                     rintro e w45 ⟨rfl,hb⟩
                                     have HS1_ := (hb.cell (World.block_lt_of_cell? _ _ (hHeld.2.1))).trans (hHeld.2.1)
                                     have HS2_ := (hb.cell (World.block_lt_of_cell? _ _ (hHeld.2.2.1))).trans (hHeld.2.2.1)
                                     refine ⟨_,rfl,?_⟩
                                     have n0_ := Aside0.mk (Kd.R_below (by (with_reducible repeat (first | apply Kd.R_alloc | apply Kd.R_drewN | apply Kd.R_drew));exact HO_10.out) hb)
                                     have n1_ := Aside0.mk (Kd.R_below (by (with_reducible repeat (first | apply Kd.R_alloc | apply Kd.R_drewN | apply Kd.R_drew));exact HO_11.out) hb)
                                     have n2_ := Aside0.mk (blk_below (g := gb443) (o := .cells #[.int .i64 0,.int .i64 0] 41 (0,0)) (by (with_reducible repeat (first | refine blk_drewN ?_ _ | refine blk_drew ?_ | refine blk_alloc ?_ _));exact BK443.out) hb)
                                     have n3_ := Aside0.mk (below_step (by repeat (first | (with_reducible first | exact HB.out | apply below_alloc | apply pw_below_drewN | apply below_drew1 | refine below_set ?_ GE443.out) | exact HB.out)) hb)
                                     clear HO_10
                                     clear HO_11
                                     clear BK443
                                     clear HB
                                     have HO_10 := n0_
                                     have HO_11 := n1_
                                     have BK443 := n2_
                                     have HB := n3_
                                     clear n0_ n1_ n2_ n3_
                                     (try clear hb)
                                     (try clear hb2)
                                     (try clear hk)
                                     (try clear hi)
                                     refine hK.out _ _ ⟨((HB.out.cell (World.block_lt_of_cell? w _ hw437_0)).trans hw437_0),HS1_,HS2_,((HB.out.cell (World.block_lt_of_cell? w _ hw439_0)).trans hw439_0)⟩ (fun hHeld => ?_)
                                     clear hK K
                                     refine norm_ (a' := ?_) ?_ ?_
                                     rotate_left
                                     · show Act.put _ (some 71) _ = _
                                       simp only [Act.put,List.setIfInBounds_toArray,List.set_cons_zero,List.set_cons_succ,i64_w,i32_w]
                                       rfl
                                     refine pure_ (i := 13) (N := some 58) (v := ?_) (a' := ?_) #[true,true,true,true,true,true,true,true,true,true,true,true,true,true,false,false,true,false,false] rfl rfl (any_of HT_.out (by kernel_rfl)) (fun _ _ _ h => h) (Or.inl ⟨by rfl,?_⟩) ?_ ?_
                                     rotate_left
                                     · intro w'
                                       go_simp
                                       with_reducible rfl
                                     rotate_left
                                     · simp only [Act.put,List.setIfInBounds_toArray,List.set_cons_zero,List.set_cons_succ,i64_w,i32_w]
                                       rfl
                                     refine pure_ (i := 14) (N := some 72) (v := ?_) (a' := ?_) #[true,true,true,true,true,true,true,true,true,true,true,true,true,true,true,false,true,false,false] rfl rfl (any_of HT_.out (by kernel_rfl)) (fun _ _ _ h => h) (Or.inl ⟨by rfl,?_⟩) ?_ ?_
                                     rotate_left
                                     · intro w'
                                       go_simp
                                       with_reducible rfl
                                     rotate_left
                                     · simp only [Act.put,List.setIfInBounds_toArray,List.set_cons_zero,List.set_cons_succ,i64_w,i32_w]
                                       rfl
                                     refine pure_ (i := 15) (N := some 73) (v := ?_) (a' := ?_) #[true,true,true,true,true,true,true,true,true,true,true,true,true,true,true,true,true,false,false] rfl rfl (any_of HT_.out (by kernel_rfl)) (fun _ _ _ h => h) (Or.inl ⟨by rfl,?_⟩) ?_ ?_
                                     rotate_left
                                     · intro w'
                                       go_simp
                                       with_reducible rfl
                                     rotate_left
                                     · simp only [Act.put,List.setIfInBounds_toArray,List.set_cons_zero,List.set_cons_succ,i64_w,i32_w]
                                       rfl
                                     exact norm_ (by simp only [putAll,Act.put,List.setIfInBounds_toArray,List.set_cons_zero,List.set_cons_succ]) (hCont (gb443) _ ⟨hHeld,(by (with_reducible repeat (first | apply Kd.R_alloc | apply Kd.R_drewN | apply Kd.R_drew));exact HO_10.out),(by (with_reducible repeat (first | apply Kd.R_alloc | apply Kd.R_drewN | apply Kd.R_drew));exact HO_11.out),(by (with_reducible repeat (first | refine blk_drewN ?_ _ | refine blk_drew ?_ | refine blk_alloc ?_ _));exact BK443.out),GW443.out,GE443.out,(by repeat (first | (with_reducible first | exact HB.out | apply below_alloc | apply pw_below_drewN | apply below_drew1 | refine below_set ?_ GE443.out) | exact HB.out))⟩)
                                 rintro gb443 w46 ⟨hS_,h0_,h1_,h2_,h3_,h4_,h5_⟩
                                 have n0_ : Aside0 (Kd.R k41 41 w46 w.heap.size (fun k_ => some k_ ≠ (.slice (some ad438) x11_1.length co43 : Value).ownBlock ∧ k_ ≠ gb443) v426 y425) := ⟨h0_⟩
                                 have n1_ : Aside0 (Kd.R k41 41 w46 w.heap.size (fun k_ => some k_ ≠ (v426 : Value).ownBlock ∧ k_ ≠ gb443) (.slice (some ad438) x11_1.length co43) x11_1) := ⟨h1_⟩
                                 have n2_ : Aside0 (w46.heap[gb443]? = some (.cells #[.int .i64 0,.int .i64 0] 41 (0,0))) := ⟨h2_⟩
                                 have n3_ : Aside0 (w.heap.size ≤ gb443) := ⟨h3_⟩
                                 have n4_ : Aside0 (w.heap.size ≤ gb443) := ⟨h4_⟩
                                 have n5_ : Aside0 (Below w.heap.size w w46) := ⟨h5_⟩
                                 clear HO_10
                                 clear HO_11
                                 clear HB
                                 clear h0_ h1_ h2_ h3_ h4_ h5_
                                 have HO_10 := n0_
                                 have HO_11 := n1_
                                 have BK443 := n2_
                                 have GW443 := n3_
                                 have GE443 := n4_
                                 have HB := n5_
                                 clear n0_ n1_ n2_ n3_ n4_ n5_
                                 have hHeld : w46.cell? (ad437.add ((rd l2 x12_1)).toNat) = some (.int .i64 (rd l0 (rd l2 x12_1))) ∧ w46.cell? (ad438.add (((rd l0 (rd l2 x12_1))).toNat * 2)) = some (.int .i64 ((rd_T41 x11_1 (rd l0 (rd l2 x12_1))).f0)) ∧ w46.cell? ⟨(ad438.add (((rd l0 (rd l2 x12_1))).toNat * 2)).block,(ad438.add (((rd l0 (rd l2 x12_1))).toNat * 2)).off + 1,none⟩ = some (.int .i64 ((rd_T41 x11_1 (rd l0 (rd l2 x12_1))).f1)) ∧ w46.cell? (ad439.add ((rd l2 x12_1)).toNat) = some (.int .i64 (rd l1 (rd l2 x12_1))) := hS_
                                 refine norm_ (a' := ?_) ?_ ?_
                                 rotate_left
                                 · simp only [putAll,Act.put,List.setIfInBounds_toArray,List.set_cons_zero,List.set_cons_succ]
                                   rfl
                                 refine one_ (i := 17) (N := none) #[true,true,true,true,true,true,true,true,true,true,true,true,true,true,true,true,true,true,false] rfl rfl (one_of HT_.out (by kernel_rfl)) (by decide) (fun K hK => ?_)
                                 have hs47 : w46.cell? ⟨gb443,0,none⟩ = some (.int .i64 0) := (blk_cell BK443.out 0).trans rfl
                                 have hfs47 := blk_frozen BK443.out 0
                                 have hs48 : w46.cell? ⟨gb443,1,none⟩ = some (.int .i64 0) := (blk_cell BK443.out 1).trans rfl
                                 have hfs48 := blk_frozen BK443.out 1
                                 refine skip_ (w1 := ?_) (by rfl) rfl ?_ ?_
                                 rotate_left
                                 · go_simp
                                   rfl
                                 refine hK.out _ _ ⟨((cell_far (p := ⟨gb443,_,none⟩) (by first | exact Nat.ne_of_lt (Nat.lt_of_lt_of_le (by have := World.block_lt_of_cell? _ _ hw437_0;first | rwa [add_block] at this | exact this) GW443.out) | (rw [add_block];exact Nat.ne_of_lt (Nat.lt_of_lt_of_le (by have := World.block_lt_of_cell? _ _ hw437_0;first | rwa [add_block] at this | exact this) GW443.out)) | (show (Addr.add _ _).block ≠ _;rw [add_block];exact Nat.ne_of_lt (Nat.lt_of_lt_of_le (by have := World.block_lt_of_cell? _ _ hw437_0;first | rwa [add_block] at this | exact this) GW443.out)) | (dsimp only;exact Nat.ne_of_lt (Nat.lt_of_lt_of_le (by have := World.block_lt_of_cell? _ _ hw437_0;first | rwa [add_block] at this | exact this) GW443.out))) _).trans (((cell_far (p := ⟨gb443,_,none⟩) (by first | exact Nat.ne_of_lt (Nat.lt_of_lt_of_le (by have := World.block_lt_of_cell? _ _ hw437_0;first | rwa [add_block] at this | exact this) GW443.out) | (rw [add_block];exact Nat.ne_of_lt (Nat.lt_of_lt_of_le (by have := World.block_lt_of_cell? _ _ hw437_0;first | rwa [add_block] at this | exact this) GW443.out)) | (show (Addr.add _ _).block ≠ _;rw [add_block];exact Nat.ne_of_lt (Nat.lt_of_lt_of_le (by have := World.block_lt_of_cell? _ _ hw437_0;first | rwa [add_block] at this | exact this) GW443.out)) | (dsimp only;exact Nat.ne_of_lt (Nat.lt_of_lt_of_le (by have := World.block_lt_of_cell? _ _ hw437_0;first | rwa [add_block] at this | exact this) GW443.out))) _).trans (hHeld.1)))),((cell_far (p := ⟨gb443,_,none⟩) (by first | exact Kd.own_blk (Kd.R_away HO_11.out (fun _ hk => hk.2)) | (rw [add_block];exact Kd.own_blk (Kd.R_away HO_11.out (fun _ hk => hk.2))) | (show (Addr.add _ _).block ≠ _;rw [add_block];exact Kd.own_blk (Kd.R_away HO_11.out (fun _ hk => hk.2))) | (dsimp only;exact Kd.own_blk (Kd.R_away HO_11.out (fun _ hk => hk.2)))) _).trans (((cell_far (p := ⟨gb443,_,none⟩) (by first | exact Kd.own_blk (Kd.R_away HO_11.out (fun _ hk => hk.2)) | (rw [add_block];exact Kd.own_blk (Kd.R_away HO_11.out (fun _ hk => hk.2))) | (show (Addr.add _ _).block ≠ _;rw [add_block];exact Kd.own_blk (Kd.R_away HO_11.out (fun _ hk => hk.2))) | (dsimp only;exact Kd.own_blk (Kd.R_away HO_11.out (fun _ hk => hk.2)))) _).trans (hHeld.2.1)))),((cell_far (p := ⟨gb443,_,none⟩) (by first | exact Kd.own_blk (Kd.R_away HO_11.out (fun _ hk => hk.2)) | (rw [add_block];exact Kd.own_blk (Kd.R_away HO_11.out (fun _ hk => hk.2))) | (show (Addr.add _ _).block ≠ _;rw [add_block];exact Kd.own_blk (Kd.R_away HO_11.out (fun _ hk => hk.2))) | (dsimp only;exact Kd.own_blk (Kd.R_away HO_11.out (fun _ hk => hk.2)))) _).trans (((cell_far (p := ⟨gb443,_,none⟩) (by first | exact Kd.own_blk (Kd.R_away HO_11.out (fun _ hk => hk.2)) | (rw [add_block];exact Kd.own_blk (Kd.R_away HO_11.out (fun _ hk => hk.2))) | (show (Addr.add _ _).block ≠ _;rw [add_block];exact Kd.own_blk (Kd.R_away HO_11.out (fun _ hk => hk.2))) | (dsimp only;exact Kd.own_blk (Kd.R_away HO_11.out (fun _ hk => hk.2)))) _).trans (hHeld.2.2.1)))),((cell_far (p := ⟨gb443,_,none⟩) (by first | exact Nat.ne_of_lt (Nat.lt_of_lt_of_le (by have := World.block_lt_of_cell? _ _ hw439_0;first | rwa [add_block] at this | exact this) GW443.out) | (rw [add_block];exact Nat.ne_of_lt (Nat.lt_of_lt_of_le (by have := World.block_lt_of_cell? _ _ hw439_0;first | rwa [add_block] at this | exact this) GW443.out)) | (show (Addr.add _ _).block ≠ _;rw [add_block];exact Nat.ne_of_lt (Nat.lt_of_lt_of_le (by have := World.block_lt_of_cell? _ _ hw439_0;first | rwa [add_block] at this | exact this) GW443.out)) | (dsimp only;exact Nat.ne_of_lt (Nat.lt_of_lt_of_le (by have := World.block_lt_of_cell? _ _ hw439_0;first | rwa [add_block] at this | exact this) GW443.out))) _).trans (((cell_far (p := ⟨gb443,_,none⟩) (by first | exact Nat.ne_of_lt (Nat.lt_of_lt_of_le (by have := World.block_lt_of_cell? _ _ hw439_0;first | rwa [add_block] at this | exact this) GW443.out) | (rw [add_block];exact Nat.ne_of_lt (Nat.lt_of_lt_of_le (by have := World.block_lt_of_cell? _ _ hw439_0;first | rwa [add_block] at this | exact this) GW443.out)) | (show (Addr.add _ _).block ≠ _;rw [add_block];exact Nat.ne_of_lt (Nat.lt_of_lt_of_le (by have := World.block_lt_of_cell? _ _ hw439_0;first | rwa [add_block] at this | exact this) GW443.out)) | (dsimp only;exact Nat.ne_of_lt (Nat.lt_of_lt_of_le (by have := World.block_lt_of_cell? _ _ hw439_0;first | rwa [add_block] at this | exact this) GW443.out))) _).trans (hHeld.2.2.2))))⟩ (fun hHeld => ?_)
                                 clear hK K
                                 refine pure_ (i := 18) (N := some 15) (v := ?_) (a' := ?_) #[true,true,true,true,true,true,true,true,true,true,true,true,true,true,true,true,true,true,true] rfl rfl (any_of HT_.out (by kernel_rfl)) (fun _ _ _ h => h) (Or.inl ⟨by rfl,?_⟩) ?_ ?_
                                 rotate_left
                                 · intro w'
                                   go_simp
                                   with_reducible rfl
                                 rotate_left
                                 · simp only [Act.put,List.setIfInBounds_toArray,List.set_cons_zero,List.set_cons_succ,i64_w,i32_w]
                                   rfl
                                 refine done_ (done_of HT_.out (by kernel_rfl)) ?_
                                 try go_wp2
                                 go_ret2
                                 exact ⟨_,by first | rfl | (simp [errW_none,errW_some] <;> rfl) | (simp [*,errW_none,errW_some] <;> rfl),by (with_reducible repeat (first | apply Kd.R_alloc | apply Kd.R_drewN | apply Kd.R_drew));exact Kd.R_mono (Kd.R_far (p := ⟨gb443,1,none⟩) (Kd.R_far (p := ⟨gb443,0,none⟩) (Kd.R_mono HO_10.out (fun k_ hk => (⟨hk,hk.2⟩ : _ ∧ k_ ≠ gb443))) (fun _ hk => hk.2) (.int .i64 t440)) (fun _ hk => hk.2) (.int .i64 t441)) (fun _ hk => trivial),by repeat (first | (with_reducible first | exact HB.out | apply below_alloc | apply pw_below_drewN | apply below_drew1 | refine below_set ?_ GE443.out) | exact HB.out)⟩
                             · rw [if_neg c28] at H
                               exact absurd H (by simp)
                           · rw [if_neg c27] at H
                             exact absurd H (by simp)
                         · rw [if_neg c26] at H
                           exact absurd H (by simp)
                       · rw [if_neg c25] at H
                         exact absurd H (by simp)
                     · rw [if_neg c24] at H
                       exact absurd H (by simp)
             · rw [if_neg c14] at H
               exact absurd H (by simp)
           · rw [if_neg c13] at H
             have c13b0 : decide (x12_1 < (l2.length : Int)) = false := decide_eq_false c13
             clear c13
             simp only [Option.some.injEq,Prod.mk.injEq] at H
             obtain ⟨rfl,rfl⟩ := H
             go_wp2
             go_ret2
             exact ⟨_,by first | rfl | (simp [errW_none,errW_some] <;> rfl) | (simp [*,errW_none,errW_some] <;> rfl),by (with_reducible repeat (first | apply Kd.R_alloc | apply Kd.R_drewN | apply Kd.R_drew));exact Kd.R_mono HO_11.out (fun _ hk => trivial),by repeat (first | (with_reducible first | exact HB.out | apply below_alloc | apply pw_below_drewN | apply below_drew1) | exact HB.out)⟩
     · rw [if_neg c8] at H
       exact absurd H (by simp)
   · rw [if_neg c7] at H
     exact absurd H (by simp)
 · replace c6 := Bool.eq_false_iff.mpr c6
   subst c6
   have H1 : (some (y425,false)) = some (r1,r2) := by rw [if_neg (show ¬ (false = true) by decide)] at H;exact H
   clear H
   have H := H1
   clear H1
   simp only [Option.some.injEq,Prod.mk.injEq] at H
   obtain ⟨rfl,rfl⟩ := H
   go_enter Try.func34,Try.ntmps34
   go_wp2_with (first | ((with_reducible refine gate_dst (N := 16) rfl ?_);(try (refine gate_guard (by rfl) ?_;dsimp only));refine Kd.R_lit k41 _ 41 ?hg (N := 16) ?hd (xs := ([] : List (S41))) (inner := []) (ok := fun _ => True) (okp := fun _ => True) ?hr ?hp (fun _ hk => hk) trivial (Below.refl _ _) (Nat.le_refl _) (by simp) ?_;(case hd => rfl);(case hg => rfl);(case hr => first | (go_simp;done) | (go_simp;rfl));(case hp => exact (Reps.none _ _));intro v426 w49 ho50 hb hg_ hnew_;clear hg_ hnew_;(first | rw [← Ny425.out] at ho50 | (simp only [Int.reduceToNat] at ho50;rw [← Ny425.out] at ho50));have n0_ := Aside0.mk (Kd.R_lower ho50 (below_size (by repeat (first | (with_reducible first | exact HB.out | apply below_alloc | apply pw_below_drewN | apply below_drew1) | exact HB.out))));have n1_ := Aside0.mk (below_step (by repeat (first | (with_reducible first | exact HB.out | apply below_alloc | apply pw_below_drewN | apply below_drew1) | exact HB.out)) hb);clear HB;have HO427 := n0_;have HB := n1_;clear n0_ n1_;clear hb ho50) | ((with_reducible refine gate_callee (f := 89) rfl ?_);refine goesL_ (some 18) rfl rfl Try.func89 (by kernel_rfl) rfl #[.int .i64 a3,.int .i64 1,.int .i64 8] rfl (by (try simp only [List.map_toArray,List.map_cons,List.map_nil]);first | done | rfl | (simp only [List.length_drop,List.length_take];rfl)) ?_;(with_reducible refine (spec_l1In.calls a3 1 8 false _ A5.out).mono ?_);rintro e w' ⟨rfl,⟨nd,rfl⟩⟩;refine ⟨_,rfl,?_⟩))
   go_ret2
   exact ⟨_,by first | rfl | (simp [errW_none,errW_some] <;> rfl) | (simp [*,errW_none,errW_some] <;> rfl),by (with_reducible repeat (first | apply Kd.R_alloc | apply Kd.R_drewN | apply Kd.R_drew));exact HO427.out,by repeat (first | (with_reducible first | exact HB.out | apply below_alloc | apply pw_below_drewN | apply below_drew1) | exact HB.out)⟩

end Go.Proofs.Ytohngimlmcdiiaa.Q
