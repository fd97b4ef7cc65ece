/- The machine side of this seat's laws: what each Go function that they reach comes to. Conditions: none. -/
import Derived.Test.YtohngimlmcdiiaaQx0
import Derived.Test.YtohngimlmcdiiaaQx61
namespace Go.Proofs.Ytohngimlmcdiiaa.Q
open Go.RowKit Go.Proofs.YtohngimlmcdiiaaW.PrintWords Go.Proofs.YtohngimlmcdiiaaW.PrintLast Go.Proofs.YtohngimlmcdiiaaW.PrintMore
attribute [local go_sem] max2_int min2_int max_two min_two max_three min_three max_four min_four   -- for this text's walks alone
set_option linter.unusedVariables false
set_option linter.unusedSimpArgs false

/-! ### impl_SubHist: function 68 -/
def impl_SubHist.l0 : Nat → List (S41) → List (S41) → List (S41) → Int → Int → Option ((List (S41)) × Bool)
 | 0,_,_,_,_,_ => none
 | k + 1,x0,x1,x6,x17,x18 => if x18 < x17 then (if 0 ≤ x18 then (if x18 < (x0.length : Int) then (if x18 < (x1.length : Int) then ((impl_Slot_minus.f ((rd_T41 x0 x18).f0) ((rd_T41 x0 x18).f1) ((rd_T41 x1 x18).f0) ((rd_T41 x1 x18).f1)).bind fun bt1513 => (if bt1513.2.2 = true then (if bt1513.1 < 0 then (some (([] : List (S41)),false)) else (if x6.length < 8796093022208 then (impl_SubHist.l0 k x0 x1 (x6 ++ [(⟨bt1513.1,bt1513.2.1⟩ : S41)]) x17 (wrap64 (x18 + 1))) else (none))) else (some (([] : List (S41)),false)))) else (none)) else (none)) else (none)) else (some (x6,true))
def impl_SubHist.f (k : Nat) (l0 : List (S41)) (l1 : List (S41)) : Option ((List (S41)) × Bool) := if (l0.length : Int) = (l1.length : Int) then (impl_SubHist.l0 k l0 l1 (([] : List (S41))) (l0.length : Int) 0) else (some (([] : List (S41)),false))
theorem impl_SubHist.mono_l : ∀ k,(∀ y0 y1 y2 y3 y4,LeO (impl_SubHist.l0 k y0 y1 y2 y3 y4) (impl_SubHist.l0 (k + 1) y0 y1 y2 y3 y4))
 | 0 => fun _ _ _ _ _ r h => by simp [impl_SubHist.l0] at h
 | k + 1 => by
   have ih0 := impl_SubHist.mono_l k
   · intro y0 y1 y2 y3 y4
     unfold impl_SubHist.l0
     repeat' first
     | (with_reducible exact ih0 _ _ _ _ _)
     | (with_reducible exact LeO.refl _)
     | (with_reducible exact LeO.none _)
     | (with_reducible refine LeO.ite ?_ ?_)
     | (with_reducible refine LeO.bind ?_ (fun _ => ?_))
     | exact ih0 _ _ _ _ _
     | exact LeO.none _
     | refine LeO.ite ?_ ?_
     | refine LeO.bind ?_ (fun _ => ?_)
theorem impl_SubHist.mono : ∀ a0 a1 k,LeO (impl_SubHist.f k a0 a1) (impl_SubHist.f (k + 1) a0 a1) := by
 intro a0 a1 k
 have ih0 := impl_SubHist.mono_l k
 unfold impl_SubHist.f
 repeat' first
     | (with_reducible exact ih0 _ _ _ _ _)
     | (with_reducible exact LeO.refl _)
     | (with_reducible exact LeO.none _)
     | (with_reducible refine LeO.ite ?_ ?_)
     | (with_reducible refine LeO.bind ?_ (fun _ => ?_))
     | exact ih0 _ _ _ _ _
     | exact LeO.none _
     | refine LeO.ite ?_ ?_
     | refine LeO.bind ?_ (fun _ => ?_)
def impl_SubHist.T7 : Bool × List (List Nat × List Nat) := (true,[([],[]),([],[]),([0,1],[0,1]),([2],[2]),([],[]),([],[]),([4,5],[4,5]),([6],[6]),([3,7],[3,7]),([8],[8]),([9],[9]),([9],[9]),([],[]),([12,10,8,0,1,2,3,4,5,6,7,8,9,10,12],[10,12]),([11,13,0,1,2,3,4,5,6,7,8,9,10,11,12,13],[11])])
def impl_SubHist.B7 : List Nat := [0,0,3,7,0,0,48,112,255,511,1023,1023,0,6143,16383]
theorem impl_SubHist.tab7 : rtab .any (opsOf Try.f68 7) = impl_SubHist.T7 := by kernel_rfl
theorem impl_SubHist.bits7 : waitsOk impl_SubHist.T7.2 impl_SubHist.B7 = true := by kernel_rfl
set_option maxHeartbeats 8000000 in
set_option maxRecDepth 100000 in
theorem impl_SubHist.calls (k : Nat) (A0 : Option Addr) (c0 : Nat) (l0 : List (S41)) (A1 : Option Addr) (c1 : Nat) (l1 : List (S41)) (r1 : List (S41)) (r2 : Bool) (w : World) (hr0 : Kd.C k41 w A0 l0.length l0) (hc0 : l0.length ≤ c0) (hr1 : Kd.C k41 w A1 l1.length l1) (hc1 : l1.length ≤ c1) (h : impl_SubHist.f k l0 l1 = some (r1,r2)) :
   Calls Try.prog 68 #[.slice A0 l0.length c0,.slice A1 l1.length c1] w fun e w' => ∃ v0_ : Value,e = .returned (.tuple #[v0_,.bool r2]) ∧ Kd.R k41 41 w' w.heap.size (fun _ => True) v0_ r1 ∧ Below w.heap.size w w' := by
 have hu41 := Try.underlying41
 have HR0 := Aside0.mk hr0
 have HC0 := Aside0.mk hc0
 clear hr0 hc0
 have HR1 := Aside0.mk hr1
 have HC1 := Aside0.mk hc1
 clear hr1 hc1
 have HB := Aside0.mk (Below.refl w.heap.size w)
 have H : (if (l0.length : Int) = (l1.length : Int) then (impl_SubHist.l0 k l0 l1 (([] : List (S41))) (l0.length : Int) 0) else (some (([] : List (S41)),false))) = some (r1,r2) := h
 clear h
 by_cases c3 : (l0.length : Int) = (l1.length : Int)
 · rw [if_pos c3] at H
   have c3b0 : ((l0.length : Int) == (l1.length : Int)) = true := beq_iff_eq.mpr c3
   have c3b1 : ((l0.length : Int) != (l1.length : Int)) = false := bne_eq_false_iff_eq.mpr c3
   have c3b2 : (l0.length == l1.length) = true := by first | simpa using c3 | (simp at c3 ⊢;omega)
   clear c3
   obtain ⟨y1508,hy1508⟩ : ∃ y_ : List (S41),y_ = (([] : List (S41))) := ⟨_,rfl⟩
   replace H : (impl_SubHist.l0 k l0 l1 y1508 (l0.length : Int) 0) = some (r1,r2) := by first | (rw [hy1508];with_reducible exact H) | (have H2_ := (Option.bind_some _ _).symm.trans H;rw [hy1508];with_reducible exact H2_) | (have H2_ := (Option.bind_some _ _).symm.trans H;with_reducible exact H2_) | with_reducible exact H | (rw [hy1508];exact H) | exact H
   have Ny1508 := Aside0.mk hy1508
   clear hy1508
   have H' := Aside0.mk H
   clear H
   go_enter Try.func68,Try.ntmps68
   go_wp2_with (first | ((with_reducible refine gate_dst (N := 15) rfl ?_);refine Kd.R_lit k41 _ 41 ?hg (N := 15) ?hd (xs := ([] : List (S41))) (inner := []) (ok := fun _ => True) (okp := fun _ => True) ?hr ?hp (fun _ hk => hk) trivial (Below.refl _ _) (Nat.le_refl _) (by simp) ?_;(case hd => rfl);(case hg => rfl);(case hr => first | (go_simp;done) | (go_simp;rfl));(case hp => exact (Reps.none _ _));intro v1509 w4 ho5 hb hg_ hnew_;clear hg_ hnew_;(first | rw [← Ny1508.out] at ho5 | (simp only [Int.reduceToNat] at ho5;rw [← Ny1508.out] at ho5));have n0_ := Aside0.mk (Kd.R_lower ho5 (below_size (by repeat (first | (with_reducible first | exact HB.out | apply below_alloc | apply pw_below_drewN | apply below_drew1) | exact HB.out))));have n1_ := Aside0.mk (below_step (by repeat (first | (with_reducible first | exact HB.out | apply below_alloc | apply pw_below_drewN | apply below_drew1) | exact HB.out)) hb);clear HB;have HO1510 := n0_;have HB := n1_;clear n0_ n1_;clear hb ho5))
   go_loopg [6,18] k (fun kq v6 v18 w' => ∃ (x6_1 : List (S41)) (x18_1 : Int),v18 = .int .i64 x18_1 ∧ Aside0 (impl_SubHist.l0 kq l0 l1 x6_1 (l0.length : Int) x18_1 = some (r1,r2)) ∧ Aside0 (kq ≤ k) ∧ Aside0 (Kd.R k41 41 w' w.heap.size (fun _ => True) v6 x6_1) ∧ Aside0 (Below w.heap.size w w'))
   case atStart => exact ⟨(y1508),(0),(by first | rfl | (simp;done) | (simp [*];done)),H',⟨Nat.le_refl _⟩,⟨by (with_reducible repeat (first | apply Kd.R_alloc | apply Kd.R_drewN | apply Kd.R_drew));exact HO1510.out⟩,⟨by repeat (first | (with_reducible first | exact HB.out | apply below_alloc | apply pw_below_drewN | apply below_drew1) | exact HB.out)⟩⟩
   case round =>
     clear H'
     try clear c1
     try clear p2
     try clear c3
     try clear c3b0
     try clear c3b1
     try clear c3b2
     obtain ⟨x6_1,x18_1,rfl,HA,HK1,HO_6,HB⟩ := hrel
     cases gk with
     | zero => exact absurd HA.out (by simp [impl_SubHist.l0])
     | succ k1 =>
       have H := HA.out
       clear HA
       simp only [impl_SubHist.l0] at H
       by_cases c6 : x18_1 < (l0.length : Int)
       · rw [if_pos c6] at H
         have c6b0 : decide (x18_1 < (l0.length : Int)) = true := decide_eq_true c6
         clear c6
         by_cases c7 : 0 ≤ x18_1
         · rw [if_pos c7] at H
           have c7b0 : decide (0 ≤ x18_1) = true := decide_eq_true c7
           clear c7
           by_cases c8 : x18_1 < (l0.length : Int)
           · rw [if_pos c8] at H
             have c8b0 : decide (x18_1 < (l0.length : Int)) = true := decide_eq_true c8
             clear c8
             by_cases c9 : x18_1 < (l1.length : Int)
             · rw [if_pos c9] at H
               have c9b0 : decide (x18_1 < (l1.length : Int)) = true := decide_eq_true c9
               clear c9
               replace H := Option.bind_eq_some_iff.mp H
               obtain ⟨⟨t1513,t1514,t1515⟩,A100,H⟩ := H
               replace H : (if t1515 = true then (if t1513 < 0 then (some (([] : List (S41)),false)) else (if x6_1.length < 8796093022208 then (impl_SubHist.l0 k1 l0 l1 (x6_1 ++ [(⟨t1513,t1514⟩ : S41)]) (l0.length : Int) (wrap64 (x18_1 + 1))) else (none))) else (some (([] : List (S41)),false))) = some (r1,r2) := H
               have A10 := Aside0.mk A100
               clear A100
               by_cases c11 : t1515 = true
               · subst c11
                 have H1 : (if t1513 < 0 then (some (([] : List (S41)),false)) else (if x6_1.length < 8796093022208 then (impl_SubHist.l0 k1 l0 l1 (x6_1 ++ [(⟨t1513,t1514⟩ : S41)]) (l0.length : Int) (wrap64 (x18_1 + 1))) else (none))) = some (r1,r2) := by rw [if_pos rfl] at H;exact H
                 clear H
                 have H := H1
                 clear H1
                 by_cases c12 : t1513 < 0
                 · rw [if_pos c12] at H
                   have c12b0 : decide (t1513 < 0) = true := decide_eq_true c12
                   clear c12
                   simp only [Option.some.injEq,Prod.mk.injEq] at H
                   obtain ⟨rfl,rfl⟩ := H
                   try go_wp2
                   have n0_ := Aside0.mk (Kd.R_drew HO_6.out)
                   have n1_ := Aside0.mk (below_drew1 HB.out)
                   clear HO_6
                   clear HB
                   have HO_6 := n0_
                   have HB := n1_
                   clear n0_ n1_
                   have p1511 : 0 ≤ (x18_1 : Int) := of_decide_eq_true (by first | (with_reducible assumption) | assumption)
                   have q1511 : x18_1 < (l0.length : Int) := of_decide_eq_true (by first | (with_reducible assumption) | assumption)
                   obtain ⟨ad1511,e1511,hx1511_0,hx1511_1⟩ := at_T41 HR0.out x18_1 p1511 q1511
                   have hw1511_1 := hx1511_1
                   have hw1511_0 := hx1511_0
                   cases e1511
                   replace hx1511_0 := (HB.out.cell (World.block_lt_of_cell? w _ hx1511_0)).trans hx1511_0
                   replace hx1511_1 := (HB.out.cell (World.block_lt_of_cell? w _ hx1511_1)).trans hx1511_1
                   replace p1511 := eq_true p1511
                   replace q1511 := eq_true q1511
                   have p1512 : 0 ≤ (x18_1 : Int) := of_decide_eq_true (by first | (with_reducible assumption) | assumption)
                   have q1512 : x18_1 < (l1.length : Int) := of_decide_eq_true (by first | (with_reducible assumption) | assumption)
                   obtain ⟨ad1512,e1512,hx1512_0,hx1512_1⟩ := at_T41 HR1.out x18_1 p1512 q1512
                   have hw1512_1 := hx1512_1
                   have hw1512_0 := hx1512_0
                   cases e1512
                   replace hx1512_0 := (HB.out.cell (World.block_lt_of_cell? w _ hx1512_0)).trans hx1512_0
                   replace hx1512_1 := (HB.out.cell (World.block_lt_of_cell? w _ hx1512_1)).trans hx1512_1
                   replace p1512 := eq_true p1512
                   replace q1512 := eq_true q1512
                   refine start_ (n := 15) (S := fun w' => w'.cell? (ad1511.add ((x18_1).toNat * 2)) = some (.int .i64 ((rd_T41 l0 x18_1).f0)) ∧ w'.cell? ⟨(ad1511.add ((x18_1).toNat * 2)).block,(ad1511.add ((x18_1).toNat * 2)).off + 1,none⟩ = some (.int .i64 ((rd_T41 l0 x18_1).f1)) ∧ w'.cell? (ad1512.add ((x18_1).toNat * 2)) = some (.int .i64 ((rd_T41 l1 x18_1).f0)) ∧ w'.cell? ⟨(ad1512.add ((x18_1).toNat * 2)).block,(ad1512.add ((x18_1).toNat * 2)).off + 1,none⟩ = some (.int .i64 ((rd_T41 l1 x18_1).f1))) (ds := []) #[false,false,false,false,false,false,false,false,false,false,false,false,false,false,false] (by kernel_rfl) rfl rfl ⟨((HB.out.cell (World.block_lt_of_cell? w _ hw1511_0)).trans hw1511_0),((HB.out.cell (World.block_lt_of_cell? w _ hw1511_1)).trans hw1511_1),((HB.out.cell (World.block_lt_of_cell? w _ hw1512_0)).trans hw1512_0),((HB.out.cell (World.block_lt_of_cell? w _ hw1512_1)).trans hw1512_1)⟩ (fun hHeld => ?_);refine with_tabW impl_SubHist.tab7 impl_SubHist.bits7 (fun HT_ HW_ => ?_)
                   generalize wr.drew = w13 at HO_6 HB hx1511_0 hx1511_1 hx1512_0 hx1512_1 hHeld ⊢
                   refine pure_ (i := 0) (N := some 22) (v := ?_) (a' := ?_) #[true,false,false,false,false,false,false,false,false,false,false,false,false,false,false] rfl rfl (any_of HT_.out (by kernel_rfl)) (fun _ _ _ h => h) (Or.inl ⟨by rfl,?_⟩) ?_ ?_
                   rotate_left
                   · intro w'
                     go_simp
                     with_reducible rfl
                   rotate_left
                   · simp only [Act.put,List.setIfInBounds_toArray,List.set_cons_zero,List.set_cons_succ,i64_w,i32_w]
                     rfl
                   refine pure_ (i := 1) (N := some 23) (v := ?_) (a' := ?_) #[true,true,false,false,false,false,false,false,false,false,false,false,false,false,false] rfl rfl (any_of HT_.out (by kernel_rfl)) (fun _ _ _ h => h) (Or.inl ⟨by rfl,?_⟩) ?_ ?_
                   rotate_left
                   · intro w'
                     go_simp
                     with_reducible rfl
                   rotate_left
                   · simp only [Act.put,List.setIfInBounds_toArray,List.set_cons_zero,List.set_cons_succ,i64_w,i32_w]
                     rfl
                   refine pure_ (i := 2) (N := some 24) (v := ?_) (a' := ?_) #[true,true,true,false,false,false,false,false,false,false,false,false,false,false,false] rfl rfl (any_of HT_.out (by kernel_rfl)) (fun _ _ _ h => h) (Or.inl ⟨by rfl,?_⟩) ?_ ?_
                   rotate_left
                   · intro w'
                     go_simp
                     with_reducible rfl
                   rotate_left
                   · simp only [Act.put,List.setIfInBounds_toArray,List.set_cons_zero,List.set_cons_succ,i64_w,i32_w]
                     rfl
                   refine pure_ (i := 4) (N := some 26) (v := ?_) (a' := ?_) #[true,true,true,false,true,false,false,false,false,false,false,false,false,false,false] rfl rfl (any_of HT_.out (by kernel_rfl)) (fun _ _ _ h => h) (Or.inl ⟨by rfl,?_⟩) ?_ ?_
                   rotate_left
                   · intro w'
                     go_simp
                     with_reducible rfl
                   rotate_left
                   · simp only [Act.put,List.setIfInBounds_toArray,List.set_cons_zero,List.set_cons_succ,i64_w,i32_w]
                     rfl
                   refine pure_ (i := 5) (N := some 27) (v := ?_) (a' := ?_) #[true,true,true,false,true,true,false,false,false,false,false,false,false,false,false] rfl rfl (any_of HT_.out (by kernel_rfl)) (fun _ _ _ h => h) (Or.inl ⟨by rfl,?_⟩) ?_ ?_
                   rotate_left
                   · intro w'
                     go_simp
                     with_reducible rfl
                   rotate_left
                   · simp only [Act.put,List.setIfInBounds_toArray,List.set_cons_zero,List.set_cons_succ,i64_w,i32_w]
                     rfl
                   refine pure_ (i := 6) (N := some 28) (v := ?_) (a' := ?_) #[true,true,true,false,true,true,true,false,false,false,false,false,false,false,false] rfl rfl (any_of HT_.out (by kernel_rfl)) (fun _ _ _ h => h) (Or.inl ⟨by rfl,?_⟩) ?_ ?_
                   rotate_left
                   · intro w'
                     go_simp
                     with_reducible rfl
                   rotate_left
                   · simp only [Act.put,List.setIfInBounds_toArray,List.set_cons_zero,List.set_cons_succ,i64_w,i32_w]
                     rfl
                   refine take_ (i := 3) (N := some 25) (v := ?_) (a' := ?_) #[true,true,true,true,true,true,true,false,false,false,false,false,false,false,false] rfl rfl (take_ofW HT_.out HW_.out (by kernel_rfl)) (fun _ _ _ h => h) (Or.inl ⟨by rfl,?_⟩) hHeld ?_ ?_
                   rotate_left
                   · rintro w' ⟨s0,s1,s2,s3⟩
                     go_simp
                     with_reducible rfl
                   rotate_left
                   · simp only [Act.put,List.setIfInBounds_toArray,List.set_cons_zero,List.set_cons_succ,i64_w,i32_w]
                     rfl
                   refine take_ (i := 7) (N := some 29) (v := ?_) (a' := ?_) #[true,true,true,true,true,true,true,true,false,false,false,false,false,false,false] rfl rfl (take_ofW HT_.out HW_.out (by kernel_rfl)) (fun _ _ _ h => h) (Or.inl ⟨by rfl,?_⟩) hHeld ?_ ?_
                   rotate_left
                   · rintro w' ⟨s0,s1,s2,s3⟩
                     go_simp
                     with_reducible rfl
                   rotate_left
                   · simp only [Act.put,List.setIfInBounds_toArray,List.set_cons_zero,List.set_cons_succ,i64_w,i32_w]
                     rfl
                   refine join_ (σ := Nat) 2 #[true,true,true,true,true,true,true,true,true,true,true,true,true,false,false] (fun s_ => [(30,.tuple #[.agg #[.int .i64 t1513,.int .i64 t1514],.bool true]),(8,.pointer (some ⟨s_,0,none⟩)),(21,.tuple #[.agg #[.int .i64 t1513,.int .i64 t1514],.bool true]),(31,.agg #[.int .i64 t1513,.int .i64 t1514]),(32,.bool true)]) (fun s_ w' => (w'.cell? (ad1511.add ((x18_1).toNat * 2)) = some (.int .i64 ((rd_T41 l0 x18_1).f0)) ∧ w'.cell? ⟨(ad1511.add ((x18_1).toNat * 2)).block,(ad1511.add ((x18_1).toNat * 2)).off + 1,none⟩ = some (.int .i64 ((rd_T41 l0 x18_1).f1)) ∧ w'.cell? (ad1512.add ((x18_1).toNat * 2)) = some (.int .i64 ((rd_T41 l1 x18_1).f0)) ∧ w'.cell? ⟨(ad1512.add ((x18_1).toNat * 2)).block,(ad1512.add ((x18_1).toNat * 2)).off + 1,none⟩ = some (.int .i64 ((rd_T41 l1 x18_1).f1))) ∧ (Kd.R k41 41 w' w.heap.size (fun k_ => k_ ≠ s_) u6 x6_1) ∧ (w'.heap[s_]? = some (.cells #[.int .i64 0,.int .i64 0] 41 (0,0))) ∧ (w.heap.size ≤ s_) ∧ (w.heap.size ≤ s_) ∧ (Below w.heap.size w w')) ?_ ?_
                   rotate_left
                   · intro hCont
                     refine two_ (i := 8) (j := 12) (Ni := some 30) (Nj := some 8) #[true,true,true,true,true,true,true,true,true,false,false,false,false,false,false] #[true,true,true,true,true,true,true,true,false,false,false,false,true,false,false] rfl rfl rfl rfl (two_of HT_.out (by kernel_rfl)) (by decide) (by decide) (fun K hK => ?_) (fun K hK => ?_)
                     · skip
                       refine goes_ Try.func119 (by kernel_rfl) rfl #[.agg #[.int .i64 ((rd_T41 l0 x18_1).f0),.int .i64 ((rd_T41 l0 x18_1).f1)],.agg #[.int .i64 ((rd_T41 l1 x18_1).f0),.int .i64 ((rd_T41 l1 x18_1).f1)]] (by rfl) rfl rfl (by (try simp only [List.map_toArray,List.map_cons,List.map_nil]);first | done | rfl | (simp only [List.length_drop,List.length_take];rfl)) ?_
                       with_reducible refine (impl_Slot_minus.calls ((rd_T41 l0 x18_1).f0) ((rd_T41 l0 x18_1).f1) ((rd_T41 l1 x18_1).f0) ((rd_T41 l1 x18_1).f1) t1513 t1514 true _ A10.out).mono ?_
                       rintro e w14 ⟨rfl,hb⟩
                       refine ⟨_,rfl,?_⟩
                       have n0_ := Aside0.mk (Kd.R_below (by (with_reducible repeat (first | apply Kd.R_alloc | apply Kd.R_drewN | apply Kd.R_drew));exact HO_6.out) hb)
                       have n1_ := Aside0.mk (below_step (by repeat (first | (with_reducible first | exact HB.out | apply below_alloc | apply pw_below_drewN | apply below_drew1) | exact HB.out)) hb)
                       clear HO_6
                       clear HB
                       have HO_6 := n0_
                       have HB := n1_
                       clear n0_ n1_
                       (try clear hb)
                       (try clear hb2)
                       (try clear hk)
                       (try clear hi)
                       refine hK.out _ _ ⟨((HB.out.cell (World.block_lt_of_cell? w _ hw1511_0)).trans hw1511_0),((HB.out.cell (World.block_lt_of_cell? w _ hw1511_1)).trans hw1511_1),((HB.out.cell (World.block_lt_of_cell? w _ hw1512_0)).trans hw1512_0),((HB.out.cell (World.block_lt_of_cell? w _ hw1512_1)).trans hw1512_1)⟩ (fun hHeld => ?_)
                       clear hK K
                       refine norm_ (a' := ?_) ?_ ?_
                       rotate_left
                       · show Act.put _ (some 30) _ = _
                         simp only [Act.put,List.setIfInBounds_toArray,List.set_cons_zero,List.set_cons_succ,i64_w,i32_w]
                         rfl
                       refine pure_ (i := 9) (N := some 21) (v := ?_) (a' := ?_) #[true,true,true,true,true,true,true,true,true,true,false,false,false,false,false] rfl rfl (any_of HT_.out (by kernel_rfl)) (fun _ _ _ h => h) (Or.inl ⟨by rfl,?_⟩) ?_ ?_
                       rotate_left
                       · intro w'
                         go_simp
                         with_reducible rfl
                       rotate_left
                       · simp only [Act.put,List.setIfInBounds_toArray,List.set_cons_zero,List.set_cons_succ,i64_w,i32_w]
                         rfl
                       refine pure_ (i := 10) (N := some 31) (v := ?_) (a' := ?_) #[true,true,true,true,true,true,true,true,true,true,true,false,false,false,false] rfl rfl (any_of HT_.out (by kernel_rfl)) (fun _ _ _ h => h) (Or.inl ⟨by rfl,?_⟩) ?_ ?_
                       rotate_left
                       · intro w'
                         go_simp
                         with_reducible rfl
                       rotate_left
                       · simp only [Act.put,List.setIfInBounds_toArray,List.set_cons_zero,List.set_cons_succ,i64_w,i32_w]
                         rfl
                       refine pure_ (i := 11) (N := some 32) (v := ?_) (a' := ?_) #[true,true,true,true,true,true,true,true,true,true,true,true,false,false,false] rfl rfl (any_of HT_.out (by kernel_rfl)) (fun _ _ _ h => h) (Or.inl ⟨by rfl,?_⟩) ?_ ?_
                       rotate_left
                       · intro w'
                         go_simp
                         with_reducible rfl
                       rotate_left
                       · simp only [Act.put,List.setIfInBounds_toArray,List.set_cons_zero,List.set_cons_succ,i64_w,i32_w]
                         rfl
                       refine one_ (i := 12) (N := some 8) #[true,true,true,true,true,true,true,true,true,true,true,true,true,false,false] rfl rfl (one_of HT_.out (by kernel_rfl)) (by decide) (fun K hK => ?_)
                       refine box_step ?hg (N := 8) ?hd (cs := #[.int .i64 0,.int .i64 0]) (t := 41) ?hr ?_;(case hd => rfl);(case hg => rfl);(case hr => first | (go_simp;done) | (go_simp;rfl))
                       intro gb1516 hg w15 hbox hb
                       have n0_ := Aside0.mk (Kd.R_below (Kd.R_elderB (by (with_reducible repeat (first | apply Kd.R_alloc | apply Kd.R_drewN | apply Kd.R_drew));exact HO_6.out) gb1516 (Nat.le_of_eq hg.symm)) hb)
                       have n1_ := Aside0.mk (below_step (by repeat (first | (with_reducible first | exact HB.out | apply below_alloc | apply pw_below_drewN | apply below_drew1) | exact HB.out)) hb)
                       have n2_ := Aside0.mk (hbox)
                       have n3_ := Aside0.mk ((by rw [hg];exact (below_size (by repeat (first | (with_reducible first | exact HB.out | apply below_alloc | apply pw_below_drewN | apply below_drew1) | exact HB.out))) : w.heap.size ≤ gb1516))
                       have n4_ := Aside0.mk ((by rw [hg];exact (below_size (by repeat (first | (with_reducible first | exact HB.out | apply below_alloc | apply pw_below_drewN | apply below_drew1) | exact HB.out))) : w.heap.size ≤ gb1516))
                       clear HO_6
                       clear HB
                       have HO_6 := n0_
                       have HB := n1_
                       have BK1516 := n2_
                       have GW1516 := n3_
                       have GE1516 := n4_
                       clear n0_ n1_ n2_ n3_ n4_
                       clear hb hbox hg
                       refine hK.out _ _ ⟨((HB.out.cell (World.block_lt_of_cell? w _ hw1511_0)).trans hw1511_0),((HB.out.cell (World.block_lt_of_cell? w _ hw1511_1)).trans hw1511_1),((HB.out.cell (World.block_lt_of_cell? w _ hw1512_0)).trans hw1512_0),((HB.out.cell (World.block_lt_of_cell? w _ hw1512_1)).trans hw1512_1)⟩ (fun hHeld => ?_)
                       clear hK K
                       refine norm_ (a' := ?_) ?_ ?_
                       rotate_left
                       · show Act.put _ (some 8) _ = _
                         simp only [Act.put,List.setIfInBounds_toArray,List.set_cons_zero,List.set_cons_succ,i64_w,i32_w]
                         rfl
                       exact norm_ (by simp only [putAll,Act.put,List.setIfInBounds_toArray,List.set_cons_zero,List.set_cons_succ]) (hCont (gb1516) _ ⟨hHeld,(by (with_reducible repeat (first | apply Kd.R_alloc | apply Kd.R_drewN | apply Kd.R_drew));exact Kd.R_mono HO_6.out (fun _ hk => hk.2)),(by (with_reducible repeat (first | refine blk_drewN ?_ _ | refine blk_drew ?_ | refine blk_alloc ?_ _));exact BK1516.out),GW1516.out,GE1516.out,(by repeat (first | (with_reducible first | exact HB.out | apply below_alloc | apply pw_below_drewN | apply below_drew1 | refine below_set ?_ GE1516.out) | exact HB.out))⟩)
                     · skip
                       refine box_step ?hg (N := 8) ?hd (cs := #[.int .i64 0,.int .i64 0]) (t := 41) ?hr ?_;(case hd => rfl);(case hg => rfl);(case hr => first | (go_simp;done) | (go_simp;rfl))
                       intro gb1516 hg w14 hbox hb
                       have n0_ := Aside0.mk (Kd.R_below (Kd.R_elderB (by (with_reducible repeat (first | apply Kd.R_alloc | apply Kd.R_drewN | apply Kd.R_drew));exact HO_6.out) gb1516 (Nat.le_of_eq hg.symm)) hb)
                       have n1_ := Aside0.mk (below_step (by repeat (first | (with_reducible first | exact HB.out | apply below_alloc | apply pw_below_drewN | apply below_drew1) | exact HB.out)) hb)
                       have n2_ := Aside0.mk (hbox)
                       have n3_ := Aside0.mk ((by rw [hg];exact (below_size (by repeat (first | (with_reducible first | exact HB.out | apply below_alloc | apply pw_below_drewN | apply below_drew1) | exact HB.out))) : w.heap.size ≤ gb1516))
                       have n4_ := Aside0.mk ((by rw [hg];exact (below_size (by repeat (first | (with_reducible first | exact HB.out | apply below_alloc | apply pw_below_drewN | apply below_drew1) | exact HB.out))) : w.heap.size ≤ gb1516))
                       clear HO_6
                       clear HB
                       have HO_6 := n0_
                       have HB := n1_
                       have BK1516 := n2_
                       have GW1516 := n3_
                       have GE1516 := n4_
                       clear n0_ n1_ n2_ n3_ n4_
                       clear hb hbox hg
                       refine hK.out _ _ ⟨((HB.out.cell (World.block_lt_of_cell? w _ hw1511_0)).trans hw1511_0),((HB.out.cell (World.block_lt_of_cell? w _ hw1511_1)).trans hw1511_1),((HB.out.cell (World.block_lt_of_cell? w _ hw1512_0)).trans hw1512_0),((HB.out.cell (World.block_lt_of_cell? w _ hw1512_1)).trans hw1512_1)⟩ (fun hHeld => ?_)
                       clear hK K
                       refine norm_ (a' := ?_) ?_ ?_
                       rotate_left
                       · show Act.put _ (some 8) _ = _
                         simp only [Act.put,List.setIfInBounds_toArray,List.set_cons_zero,List.set_cons_succ,i64_w,i32_w]
                         rfl
                       refine one_ (i := 8) (N := some 30) #[true,true,true,true,true,true,true,true,true,false,false,false,true,false,false] rfl rfl (one_of HT_.out (by kernel_rfl)) (by decide) (fun K hK => ?_)
                       refine goes_ Try.func119 (by kernel_rfl) rfl #[.agg #[.int .i64 ((rd_T41 l0 x18_1).f0),.int .i64 ((rd_T41 l0 x18_1).f1)],.agg #[.int .i64 ((rd_T41 l1 x18_1).f0),.int .i64 ((rd_T41 l1 x18_1).f1)]] (by rfl) rfl rfl (by (try simp only [List.map_toArray,List.map_cons,List.map_nil]);first | done | rfl | (simp only [List.length_drop,List.length_take];rfl)) ?_
                       with_reducible refine (impl_Slot_minus.calls ((rd_T41 l0 x18_1).f0) ((rd_T41 l0 x18_1).f1) ((rd_T41 l1 x18_1).f0) ((rd_T41 l1 x18_1).f1) t1513 t1514 true _ A10.out).mono ?_
                       rintro e w15 ⟨rfl,hb⟩
                       refine ⟨_,rfl,?_⟩
                       have n0_ := Aside0.mk (Kd.R_below (by (with_reducible repeat (first | apply Kd.R_alloc | apply Kd.R_drewN | apply Kd.R_drew));exact HO_6.out) hb)
                       have n1_ := Aside0.mk (blk_below (g := gb1516) (o := .cells #[.int .i64 0,.int .i64 0] 41 (0,0)) (by (with_reducible repeat (first | refine blk_drewN ?_ _ | refine blk_drew ?_ | refine blk_alloc ?_ _));exact BK1516.out) hb)
                       have n2_ := Aside0.mk (below_step (by repeat (first | (with_reducible first | exact HB.out | apply below_alloc | apply pw_below_drewN | apply below_drew1 | refine below_set ?_ GE1516.out) | exact HB.out)) hb)
                       clear HO_6
                       clear BK1516
                       clear HB
                       have HO_6 := n0_
                       have BK1516 := n1_
                       have HB := n2_
                       clear n0_ n1_ n2_
                       (try clear hb)
                       (try clear hb2)
                       (try clear hk)
                       (try clear hi)
                       refine hK.out _ _ ⟨((HB.out.cell (World.block_lt_of_cell? w _ hw1511_0)).trans hw1511_0),((HB.out.cell (World.block_lt_of_cell? w _ hw1511_1)).trans hw1511_1),((HB.out.cell (World.block_lt_of_cell? w _ hw1512_0)).trans hw1512_0),((HB.out.cell (World.block_lt_of_cell? w _ hw1512_1)).trans hw1512_1)⟩ (fun hHeld => ?_)
                       clear hK K
                       refine norm_ (a' := ?_) ?_ ?_
                       rotate_left
                       · show Act.put _ (some 30) _ = _
                         simp only [Act.put,List.setIfInBounds_toArray,List.set_cons_zero,List.set_cons_succ,i64_w,i32_w]
                         rfl
                       refine pure_ (i := 9) (N := some 21) (v := ?_) (a' := ?_) #[true,true,true,true,true,true,true,true,true,true,false,false,true,false,false] rfl rfl (any_of HT_.out (by kernel_rfl)) (fun _ _ _ h => h) (Or.inl ⟨by rfl,?_⟩) ?_ ?_
                       rotate_left
                       · intro w'
                         go_simp
                         with_reducible rfl
                       rotate_left
                       · simp only [Act.put,List.setIfInBounds_toArray,List.set_cons_zero,List.set_cons_succ,i64_w,i32_w]
                         rfl
                       refine pure_ (i := 10) (N := some 31) (v := ?_) (a' := ?_) #[true,true,true,true,true,true,true,true,true,true,true,false,true,false,false] rfl rfl (any_of HT_.out (by kernel_rfl)) (fun _ _ _ h => h) (Or.inl ⟨by rfl,?_⟩) ?_ ?_
                       rotate_left
                       · intro w'
                         go_simp
                         with_reducible rfl
                       rotate_left
                       · simp only [Act.put,List.setIfInBounds_toArray,List.set_cons_zero,List.set_cons_succ,i64_w,i32_w]
                         rfl
                       refine pure_ (i := 11) (N := some 32) (v := ?_) (a' := ?_) #[true,true,true,true,true,true,true,true,true,true,true,true,true,false,false] rfl rfl (any_of HT_.out (by kernel_rfl)) (fun _ _ _ h => h) (Or.inl ⟨by rfl,?_⟩) ?_ ?_
                       rotate_left
                       · intro w'
                         go_simp
                         with_reducible rfl
                       rotate_left
                       · simp only [Act.put,List.setIfInBounds_toArray,List.set_cons_zero,List.set_cons_succ,i64_w,i32_w]
                         rfl
                       exact norm_ (by simp only [putAll,Act.put,List.setIfInBounds_toArray,List.set_cons_zero,List.set_cons_succ]) (hCont (gb1516) _ ⟨hHeld,(by (with_reducible repeat (first | apply Kd.R_alloc | apply Kd.R_drewN | apply Kd.R_drew));exact Kd.R_mono HO_6.out (fun _ hk => hk.2)),(by (with_reducible repeat (first | refine blk_drewN ?_ _ | refine blk_drew ?_ | refine blk_alloc ?_ _));exact BK1516.out),GW1516.out,GE1516.out,(by repeat (first | (with_reducible first | exact HB.out | apply below_alloc | apply pw_below_drewN | apply below_drew1 | refine below_set ?_ GE1516.out) | exact HB.out))⟩)
                   rintro gb1516 w16 ⟨hS_,h0_,h1_,h2_,h3_,h4_⟩
                   have n0_ : Aside0 (Kd.R k41 41 w16 w.heap.size (fun k_ => k_ ≠ gb1516) u6 x6_1) := ⟨h0_⟩
                   have n1_ : Aside0 (w16.heap[gb1516]? = some (.cells #[.int .i64 0,.int .i64 0] 41 (0,0))) := ⟨h1_⟩
                   have n2_ : Aside0 (w.heap.size ≤ gb1516) := ⟨h2_⟩
                   have n3_ : Aside0 (w.heap.size ≤ gb1516) := ⟨h3_⟩
                   have n4_ : Aside0 (Below w.heap.size w w16) := ⟨h4_⟩
                   clear HO_6
                   clear HB
                   clear h0_ h1_ h2_ h3_ h4_
                   have HO_6 := n0_
                   have BK1516 := n1_
                   have GW1516 := n2_
                   have GE1516 := n3_
                   have HB := n4_
                   clear n0_ n1_ n2_ n3_ n4_
                   have hHeld : w16.cell? (ad1511.add ((x18_1).toNat * 2)) = some (.int .i64 ((rd_T41 l0 x18_1).f0)) ∧ w16.cell? ⟨(ad1511.add ((x18_1).toNat * 2)).block,(ad1511.add ((x18_1).toNat * 2)).off + 1,none⟩ = some (.int .i64 ((rd_T41 l0 x18_1).f1)) ∧ w16.cell? (ad1512.add ((x18_1).toNat * 2)) = some (.int .i64 ((rd_T41 l1 x18_1).f0)) ∧ w16.cell? ⟨(ad1512.add ((x18_1).toNat * 2)).block,(ad1512.add ((x18_1).toNat * 2)).off + 1,none⟩ = some (.int .i64 ((rd_T41 l1 x18_1).f1)) := hS_
                   refine norm_ (a' := ?_) ?_ ?_
                   rotate_left
                   · simp only [putAll,Act.put,List.setIfInBounds_toArray,List.set_cons_zero,List.set_cons_succ]
                     rfl
                   refine one_ (i := 13) (N := none) #[true,true,true,true,true,true,true,true,true,true,true,true,true,true,false] rfl rfl (one_of HT_.out (by kernel_rfl)) (by decide) (fun K hK => ?_)
                   have hs17 : w16.cell? ⟨gb1516,0,none⟩ = some (.int .i64 0) := (blk_cell BK1516.out 0).trans rfl
                   have hfs17 := blk_frozen BK1516.out 0
                   have hs18 : w16.cell? ⟨gb1516,1,none⟩ = some (.int .i64 0) := (blk_cell BK1516.out 1).trans rfl
                   have hfs18 := blk_frozen BK1516.out 1
                   refine skip_ (w1 := ?_) (by rfl) rfl ?_ ?_
                   rotate_left
                   · go_simp
                     rfl
                   refine hK.out _ _ ⟨((cell_far (p := ⟨gb1516,_,none⟩) (by first | exact Nat.ne_of_lt (Nat.lt_of_lt_of_le (by have := World.block_lt_of_cell? _ _ hw1511_0;first | rwa [add_block] at this | exact this) GW1516.out) | (rw [add_block];exact Nat.ne_of_lt (Nat.lt_of_lt_of_le (by have := World.block_lt_of_cell? _ _ hw1511_0;first | rwa [add_block] at this | exact this) GW1516.out)) | (show (Addr.add _ _).block ≠ _;rw [add_block];exact Nat.ne_of_lt (Nat.lt_of_lt_of_le (by have := World.block_lt_of_cell? _ _ hw1511_0;first | rwa [add_block] at this | exact this) GW1516.out)) | (dsimp only;exact Nat.ne_of_lt (Nat.lt_of_lt_of_le (by have := World.block_lt_of_cell? _ _ hw1511_0;first | rwa [add_block] at this | exact this) GW1516.out))) _).trans (((cell_far (p := ⟨gb1516,_,none⟩) (by first | exact Nat.ne_of_lt (Nat.lt_of_lt_of_le (by have := World.block_lt_of_cell? _ _ hw1511_0;first | rwa [add_block] at this | exact this) GW1516.out) | (rw [add_block];exact Nat.ne_of_lt (Nat.lt_of_lt_of_le (by have := World.block_lt_of_cell? _ _ hw1511_0;first | rwa [add_block] at this | exact this) GW1516.out)) | (show (Addr.add _ _).block ≠ _;rw [add_block];exact Nat.ne_of_lt (Nat.lt_of_lt_of_le (by have := World.block_lt_of_cell? _ _ hw1511_0;first | rwa [add_block] at this | exact this) GW1516.out)) | (dsimp only;exact Nat.ne_of_lt (Nat.lt_of_lt_of_le (by have := World.block_lt_of_cell? _ _ hw1511_0;first | rwa [add_block] at this | exact this) GW1516.out))) _).trans (hHeld.1)))),((cell_far (p := ⟨gb1516,_,none⟩) (by first | exact Nat.ne_of_lt (Nat.lt_of_lt_of_le (by have := World.block_lt_of_cell? _ _ hw1511_1;first | rwa [add_block] at this | exact this) GW1516.out) | (rw [add_block];exact Nat.ne_of_lt (Nat.lt_of_lt_of_le (by have := World.block_lt_of_cell? _ _ hw1511_1;first | rwa [add_block] at this | exact this) GW1516.out)) | (show (Addr.add _ _).block ≠ _;rw [add_block];exact Nat.ne_of_lt (Nat.lt_of_lt_of_le (by have := World.block_lt_of_cell? _ _ hw1511_1;first | rwa [add_block] at this | exact this) GW1516.out)) | (dsimp only;exact Nat.ne_of_lt (Nat.lt_of_lt_of_le (by have := World.block_lt_of_cell? _ _ hw1511_1;first | rwa [add_block] at this | exact this) GW1516.out))) _).trans (((cell_far (p := ⟨gb1516,_,none⟩) (by first | exact Nat.ne_of_lt (Nat.lt_of_lt_of_le (by have := World.block_lt_of_cell? _ _ hw1511_1;first | rwa [add_block] at this | exact this) GW1516.out) | (rw [add_block];exact Nat.ne_of_lt (Nat.lt_of_lt_of_le (by have := World.block_lt_of_cell? _ _ hw1511_1;first | rwa [add_block] at this | exact this) GW1516.out)) | (show (Addr.add _ _).block ≠ _;rw [add_block];exact Nat.ne_of_lt (Nat.lt_of_lt_of_le (by have := World.block_lt_of_cell? _ _ hw1511_1;first | rwa [add_block] at this | exact this) GW1516.out)) | (dsimp only;exact Nat.ne_of_lt (Nat.lt_of_lt_of_le (by have := World.block_lt_of_cell? _ _ hw1511_1;first | rwa [add_block] at this | exact this) GW1516.out))) _).trans (hHeld.2.1)))),((cell_far (p := ⟨gb1516,_,none⟩) (by first | exact Nat.ne_of_lt (Nat.lt_of_lt_of_le (by have := World.block_lt_of_cell? _ _ hw1512_0;first | rwa [add_block] at this | exact this) GW1516.out) | (rw [add_block];exact Nat.ne_of_lt (Nat.lt_of_lt_of_le (by have := World.block_lt_of_cell? _ _ hw1512_0;first | rwa [add_block] at this | exact this) GW1516.out)) | (show (Addr.add _ _).block ≠ _;rw [add_block];exact Nat.ne_of_lt (Nat.lt_of_lt_of_le (by have := World.block_lt_of_cell? _ _ hw1512_0;first | rwa [add_block] at this | exact this) GW1516.out)) | (dsimp only;exact Nat.ne_of_lt (Nat.lt_of_lt_of_le (by have := World.block_lt_of_cell? _ _ hw1512_0;first | rwa [add_block] at this | exact this) GW1516.out))) _).trans (((cell_far (p := ⟨gb1516,_,none⟩) (by first | exact Nat.ne_of_lt (Nat.lt_of_lt_of_le (by have := World.block_lt_of_cell? _ _ hw1512_0;first | rwa [add_block] at this | exact this) GW1516.out) | (rw [add_block];exact Nat.ne_of_lt (Nat.lt_of_lt_of_le (by have := World.block_lt_of_cell? _ _ hw1512_0;first | rwa [add_block] at this | exact this) GW1516.out)) | (show (Addr.add _ _).block ≠ _;rw [add_block];exact Nat.ne_of_lt (Nat.lt_of_lt_of_le (by have := World.block_lt_of_cell? _ _ hw1512_0;first | rwa [add_block] at this | exact this) GW1516.out)) | (dsimp only;exact Nat.ne_of_lt (Nat.lt_of_lt_of_le (by have := World.block_lt_of_cell? _ _ hw1512_0;first | rwa [add_block] at this | exact this) GW1516.out))) _).trans (hHeld.2.2.1)))),((cell_far (p := ⟨gb1516,_,none⟩) (by first | exact Nat.ne_of_lt (Nat.lt_of_lt_of_le (by have := World.block_lt_of_cell? _ _ hw1512_1;first | rwa [add_block] at this | exact this) GW1516.out) | (rw [add_block];exact Nat.ne_of_lt (Nat.lt_of_lt_of_le (by have := World.block_lt_of_cell? _ _ hw1512_1;first | rwa [add_block] at this | exact this) GW1516.out)) | (show (Addr.add _ _).block ≠ _;rw [add_block];exact Nat.ne_of_lt (Nat.lt_of_lt_of_le (by have := World.block_lt_of_cell? _ _ hw1512_1;first | rwa [add_block] at this | exact this) GW1516.out)) | (dsimp only;exact Nat.ne_of_lt (Nat.lt_of_lt_of_le (by have := World.block_lt_of_cell? _ _ hw1512_1;first | rwa [add_block] at this | exact this) GW1516.out))) _).trans (((cell_far (p := ⟨gb1516,_,none⟩) (by first | exact Nat.ne_of_lt (Nat.lt_of_lt_of_le (by have := World.block_lt_of_cell? _ _ hw1512_1;first | rwa [add_block] at this | exact this) GW1516.out) | (rw [add_block];exact Nat.ne_of_lt (Nat.lt_of_lt_of_le (by have := World.block_lt_of_cell? _ _ hw1512_1;first | rwa [add_block] at this | exact this) GW1516.out)) | (show (Addr.add _ _).block ≠ _;rw [add_block];exact Nat.ne_of_lt (Nat.lt_of_lt_of_le (by have := World.block_lt_of_cell? _ _ hw1512_1;first | rwa [add_block] at this | exact this) GW1516.out)) | (dsimp only;exact Nat.ne_of_lt (Nat.lt_of_lt_of_le (by have := World.block_lt_of_cell? _ _ hw1512_1;first | rwa [add_block] at this | exact this) GW1516.out))) _).trans (hHeld.2.2.2))))⟩ (fun hHeld => ?_)
                   clear hK K
                   refine pure_ (i := 14) (N := some 9) (v := ?_) (a' := ?_) #[true,true,true,true,true,true,true,true,true,true,true,true,true,true,true] rfl rfl (any_of HT_.out (by kernel_rfl)) (fun _ _ _ h => h) (Or.inl ⟨by rfl,?_⟩) ?_ ?_
                   rotate_left
                   · intro w'
                     go_simp
                     with_reducible rfl
                   rotate_left
                   · simp only [Act.put,List.setIfInBounds_toArray,List.set_cons_zero,List.set_cons_succ,i64_w,i32_w]
                     rfl
                   refine done_ (done_of HT_.out (by kernel_rfl)) ?_
                   have hcz19_0 : w16.cell? ⟨gb1516,0,none⟩ = some (.int .i64 0) := (blk_cell BK1516.out 0).trans rfl
                   have hcz19_1 : w16.cell? ⟨gb1516,1,none⟩ = some (.int .i64 0) := (blk_cell BK1516.out 1).trans rfl
                   have hfz19_0 := blk_frozen BK1516.out 0
                   have hfz19_1 := blk_frozen BK1516.out 1
                   try go_wp2
                   go_ret2
                   exact ⟨_,by first | rfl | (simp [errW_none,errW_some] <;> rfl) | (simp [*,errW_none,errW_some] <;> rfl),by first | exact Kd.R_nil _ _ _ _ _ | exact Kd.N_nil _ _ _ _ _ | exact Kd.V_nil _ _ _ _ _ | exact Kd.Q_nil _ _ _ _ _ | exact Kd.S_nil _ _ _ _ _,by repeat (first | (with_reducible first | exact HB.out | apply below_alloc | apply pw_below_drewN | apply below_drew1 | refine below_set ?_ GE1516.out) | exact HB.out)⟩
                 · rw [if_neg c12] at H
                   have c12b0 : decide (t1513 < 0) = false := decide_eq_false c12
                   clear c12
                   by_cases c20 : x6_1.length < 8796093022208
                   · rw [if_pos c20] at H
                     have LMc20 := Aside0.mk c20
                     clear c20
                     obtain ⟨y1517,hy1517⟩ : ∃ y_ : List (S41),y_ = (x6_1 ++ [(⟨t1513,t1514⟩ : S41)]) := ⟨_,rfl⟩
                     replace H : (impl_SubHist.l0 k1 l0 l1 y1517 (l0.length : Int) (wrap64 (x18_1 + 1))) = some (r1,r2) := by first | (rw [hy1517];with_reducible exact H) | (have H2_ := (Option.bind_some _ _).symm.trans H;rw [hy1517];with_reducible exact H2_) | (have H2_ := (Option.bind_some _ _).symm.trans H;with_reducible exact H2_) | with_reducible exact H | (rw [hy1517];exact H) | exact H
                     have Ny1517 := Aside0.mk hy1517
                     clear hy1517
                     have H' := Aside0.mk H
                     clear H
                     try go_wp2
                     have n0_ := Aside0.mk (Kd.R_drew HO_6.out)
                     have n1_ := Aside0.mk (below_drew1 HB.out)
                     clear HO_6
                     clear HB
                     have HO_6 := n0_
                     have HB := n1_
                     clear n0_ n1_
                     have p1511 : 0 ≤ (x18_1 : Int) := of_decide_eq_true (by first | (with_reducible assumption) | assumption)
                     have q1511 : x18_1 < (l0.length : Int) := of_decide_eq_true (by first | (with_reducible assumption) | assumption)
                     obtain ⟨ad1511,e1511,hx1511_0,hx1511_1⟩ := at_T41 HR0.out x18_1 p1511 q1511
                     have hw1511_1 := hx1511_1
                     have hw1511_0 := hx1511_0
                     cases e1511
                     replace hx1511_0 := (HB.out.cell (World.block_lt_of_cell? w _ hx1511_0)).trans hx1511_0
                     replace hx1511_1 := (HB.out.cell (World.block_lt_of_cell? w _ hx1511_1)).trans hx1511_1
                     replace p1511 := eq_true p1511
                     replace q1511 := eq_true q1511
                     have p1512 : 0 ≤ (x18_1 : Int) := of_decide_eq_true (by first | (with_reducible assumption) | assumption)
                     have q1512 : x18_1 < (l1.length : Int) := of_decide_eq_true (by first | (with_reducible assumption) | assumption)
                     obtain ⟨ad1512,e1512,hx1512_0,hx1512_1⟩ := at_T41 HR1.out x18_1 p1512 q1512
                     have hw1512_1 := hx1512_1
                     have hw1512_0 := hx1512_0
                     cases e1512
                     replace hx1512_0 := (HB.out.cell (World.block_lt_of_cell? w _ hx1512_0)).trans hx1512_0
                     replace hx1512_1 := (HB.out.cell (World.block_lt_of_cell? w _ hx1512_1)).trans hx1512_1
                     replace p1512 := eq_true p1512
                     replace q1512 := eq_true q1512
                     refine start_ (n := 15) (S := fun w' => w'.cell? (ad1511.add ((x18_1).toNat * 2)) = some (.int .i64 ((rd_T41 l0 x18_1).f0)) ∧ w'.cell? ⟨(ad1511.add ((x18_1).toNat * 2)).block,(ad1511.add ((x18_1).toNat * 2)).off + 1,none⟩ = some (.int .i64 ((rd_T41 l0 x18_1).f1)) ∧ w'.cell? (ad1512.add ((x18_1).toNat * 2)) = some (.int .i64 ((rd_T41 l1 x18_1).f0)) ∧ w'.cell? ⟨(ad1512.add ((x18_1).toNat * 2)).block,(ad1512.add ((x18_1).toNat * 2)).off + 1,none⟩ = some (.int .i64 ((rd_T41 l1 x18_1).f1))) (ds := []) #[false,false,false,false,false,false,false,false,false,false,false,false,false,false,false] (by kernel_rfl) rfl rfl ⟨((HB.out.cell (World.block_lt_of_cell? w _ hw1511_0)).trans hw1511_0),((HB.out.cell (World.block_lt_of_cell? w _ hw1511_1)).trans hw1511_1),((HB.out.cell (World.block_lt_of_cell? w _ hw1512_0)).trans hw1512_0),((HB.out.cell (World.block_lt_of_cell? w _ hw1512_1)).trans hw1512_1)⟩ (fun hHeld => ?_);refine with_tabW impl_SubHist.tab7 impl_SubHist.bits7 (fun HT_ HW_ => ?_)
                     generalize wr.drew = w21 at HO_6 HB hx1511_0 hx1511_1 hx1512_0 hx1512_1 hHeld ⊢
                     refine pure_ (i := 0) (N := some 22) (v := ?_) (a' := ?_) #[true,false,false,false,false,false,false,false,false,false,false,false,false,false,false] rfl rfl (any_of HT_.out (by kernel_rfl)) (fun _ _ _ h => h) (Or.inl ⟨by rfl,?_⟩) ?_ ?_
                     rotate_left
                     · intro w'
                       go_simp
                       with_reducible rfl
                     rotate_left
                     · simp only [Act.put,List.setIfInBounds_toArray,List.set_cons_zero,List.set_cons_succ,i64_w,i32_w]
                       rfl
                     refine pure_ (i := 1) (N := some 23) (v := ?_) (a' := ?_) #[true,true,false,false,false,false,false,false,false,false,false,false,false,false,false] rfl rfl (any_of HT_.out (by kernel_rfl)) (fun _ _ _ h => h) (Or.inl ⟨by rfl,?_⟩) ?_ ?_
                     rotate_left
                     · intro w'
                       go_simp
                       with_reducible rfl
                     rotate_left
                     · simp only [Act.put,List.setIfInBounds_toArray,List.set_cons_zero,List.set_cons_succ,i64_w,i32_w]
                       rfl
                     refine pure_ (i := 2) (N := some 24) (v := ?_) (a' := ?_) #[true,true,true,false,false,false,false,false,false,false,false,false,false,false,false] rfl rfl (any_of HT_.out (by kernel_rfl)) (fun _ _ _ h => h) (Or.inl ⟨by rfl,?_⟩) ?_ ?_
                     rotate_left
                     · intro w'
                       go_simp
                       with_reducible rfl
                     rotate_left
                     · simp only [Act.put,List.setIfInBounds_toArray,List.set_cons_zero,List.set_cons_succ,i64_w,i32_w]
                       rfl
                     refine pure_ (i := 4) (N := some 26) (v := ?_) (a' := ?_) #[true,true,true,false,true,false,false,false,false,false,false,false,false,false,false] rfl rfl (any_of HT_.out (by kernel_rfl)) (fun _ _ _ h => h) (Or.inl ⟨by rfl,?_⟩) ?_ ?_
                     rotate_left
                     · intro w'
                       go_simp
                       with_reducible rfl
                     rotate_left
                     · simp only [Act.put,List.setIfInBounds_toArray,List.set_cons_zero,List.set_cons_succ,i64_w,i32_w]
                       rfl
                     refine pure_ (i := 5) (N := some 27) (v := ?_) (a' := ?_) #[true,true,true,false,true,true,false,false,false,false,false,false,false,false,false] rfl rfl (any_of HT_.out (by kernel_rfl)) (fun _ _ _ h => h) (Or.inl ⟨by rfl,?_⟩) ?_ ?_
                     rotate_left
                     · intro w'
                       go_simp
                       with_reducible rfl
                     rotate_left
                     · simp only [Act.put,List.setIfInBounds_toArray,List.set_cons_zero,List.set_cons_succ,i64_w,i32_w]
                       rfl
                     refine pure_ (i := 6) (N := some 28) (v := ?_) (a' := ?_) #[true,true,true,false,true,true,true,false,false,false,false,false,false,false,false] rfl rfl (any_of HT_.out (by kernel_rfl)) (fun _ _ _ h => h) (Or.inl ⟨by rfl,?_⟩) ?_ ?_
                     rotate_left
                     · intro w'
                       go_simp
                       with_reducible rfl
                     rotate_left
                     · simp only [Act.put,List.setIfInBounds_toArray,List.set_cons_zero,List.set_cons_succ,i64_w,i32_w]
                       rfl
                     refine take_ (i := 3) (N := some 25) (v := ?_) (a' := ?_) #[true,true,true,true,true,true,true,false,false,false,false,false,false,false,false] rfl rfl (take_ofW HT_.out HW_.out (by kernel_rfl)) (fun _ _ _ h => h) (Or.inl ⟨by rfl,?_⟩) hHeld ?_ ?_
                     rotate_left
                     · rintro w' ⟨s0,s1,s2,s3⟩
                       go_simp
                       with_reducible rfl
                     rotate_left
                     · simp only [Act.put,List.setIfInBounds_toArray,List.set_cons_zero,List.set_cons_succ,i64_w,i32_w]
                       rfl
                     refine take_ (i := 7) (N := some 29) (v := ?_) (a' := ?_) #[true,true,true,true,true,true,true,true,false,false,false,false,false,false,false] rfl rfl (take_ofW HT_.out HW_.out (by kernel_rfl)) (fun _ _ _ h => h) (Or.inl ⟨by rfl,?_⟩) hHeld ?_ ?_
                     rotate_left
                     · rintro w' ⟨s0,s1,s2,s3⟩
                       go_simp
                       with_reducible rfl
                     rotate_left
                     · simp only [Act.put,List.setIfInBounds_toArray,List.set_cons_zero,List.set_cons_succ,i64_w,i32_w]
                       rfl
                     refine join_ (σ := Nat) 2 #[true,true,true,true,true,true,true,true,true,true,true,true,true,false,false] (fun s_ => [(30,.tuple #[.agg #[.int .i64 t1513,.int .i64 t1514],.bool true]),(8,.pointer (some ⟨s_,0,none⟩)),(21,.tuple #[.agg #[.int .i64 t1513,.int .i64 t1514],.bool true]),(31,.agg #[.int .i64 t1513,.int .i64 t1514]),(32,.bool true)]) (fun s_ w' => (w'.cell? (ad1511.add ((x18_1).toNat * 2)) = some (.int .i64 ((rd_T41 l0 x18_1).f0)) ∧ w'.cell? ⟨(ad1511.add ((x18_1).toNat * 2)).block,(ad1511.add ((x18_1).toNat * 2)).off + 1,none⟩ = some (.int .i64 ((rd_T41 l0 x18_1).f1)) ∧ w'.cell? (ad1512.add ((x18_1).toNat * 2)) = some (.int .i64 ((rd_T41 l1 x18_1).f0)) ∧ w'.cell? ⟨(ad1512.add ((x18_1).toNat * 2)).block,(ad1512.add ((x18_1).toNat * 2)).off + 1,none⟩ = some (.int .i64 ((rd_T41 l1 x18_1).f1))) ∧ (Kd.R k41 41 w' w.heap.size (fun k_ => k_ ≠ s_) u6 x6_1) ∧ (w'.heap[s_]? = some (.cells #[.int .i64 0,.int .i64 0] 41 (0,0))) ∧ (w.heap.size ≤ s_) ∧ (w.heap.size ≤ s_) ∧ (Below w.heap.size w w')) ?_ ?_
                     rotate_left
                     · intro hCont
                       refine two_ (i := 8) (j := 12) (Ni := some 30) (Nj := some 8) #[true,true,true,true,true,true,true,true,true,false,false,false,false,false,false] #[true,true,true,true,true,true,true,true,false,false,false,false,true,false,false] rfl rfl rfl rfl (two_of HT_.out (by kernel_rfl)) (by decide) (by decide) (fun K hK => ?_) (fun K hK => ?_)
                       · skip
                         refine goes_ Try.func119 (by kernel_rfl) rfl #[.agg #[.int .i64 ((rd_T41 l0 x18_1).f0),.int .i64 ((rd_T41 l0 x18_1).f1)],.agg #[.int .i64 ((rd_T41 l1 x18_1).f0),.int .i64 ((rd_T41 l1 x18_1).f1)]] (by rfl) rfl rfl (by (try simp only [List.map_toArray,List.map_cons,List.map_nil]);first | done | rfl | (simp only [List.length_drop,List.length_take];rfl)) ?_
                         with_reducible refine (impl_Slot_minus.calls ((rd_T41 l0 x18_1).f0) ((rd_T41 l0 x18_1).f1) ((rd_T41 l1 x18_1).f0) ((rd_T41 l1 x18_1).f1) t1513 t1514 true _ A10.out).mono ?_
                         rintro e w22 ⟨rfl,hb⟩
                         refine ⟨_,rfl,?_⟩
                         have n0_ := Aside0.mk (Kd.R_below (by (with_reducible repeat (first | apply Kd.R_alloc | apply Kd.R_drewN | apply Kd.R_drew));exact HO_6.out) hb)
                         have n1_ := Aside0.mk (below_step (by repeat (first | (with_reducible first | exact HB.out | apply below_alloc | apply pw_below_drewN | apply below_drew1) | exact HB.out)) hb)
                         clear HO_6
                         clear HB
                         have HO_6 := n0_
                         have HB := n1_
                         clear n0_ n1_
                         (try clear hb)
                         (try clear hb2)
                         (try clear hk)
                         (try clear hi)
                         refine hK.out _ _ ⟨((HB.out.cell (World.block_lt_of_cell? w _ hw1511_0)).trans hw1511_0),((HB.out.cell (World.block_lt_of_cell? w _ hw1511_1)).trans hw1511_1),((HB.out.cell (World.block_lt_of_cell? w _ hw1512_0)).trans hw1512_0),((HB.out.cell (World.block_lt_of_cell? w _ hw1512_1)).trans hw1512_1)⟩ (fun hHeld => ?_)
                         clear hK K
                         refine norm_ (a' := ?_) ?_ ?_
                         rotate_left
                         · show Act.put _ (some 30) _ = _
                           simp only [Act.put,List.setIfInBounds_toArray,List.set_cons_zero,List.set_cons_succ,i64_w,i32_w]
                           rfl
                         refine pure_ (i := 9) (N := some 21) (v := ?_) (a' := ?_) #[true,true,true,true,true,true,true,true,true,true,false,false,false,false,false] rfl rfl (any_of HT_.out (by kernel_rfl)) (fun _ _ _ h => h) (Or.inl ⟨by rfl,?_⟩) ?_ ?_
                         rotate_left
                         · intro w'
                           go_simp
                           with_reducible rfl
                         rotate_left
                         · simp only [Act.put,List.setIfInBounds_toArray,List.set_cons_zero,List.set_cons_succ,i64_w,i32_w]
                           rfl
                         refine pure_ (i := 10) (N := some 31) (v := ?_) (a' := ?_) #[true,true,true,true,true,true,true,true,true,true,true,false,false,false,false] rfl rfl (any_of HT_.out (by kernel_rfl)) (fun _ _ _ h => h) (Or.inl ⟨by rfl,?_⟩) ?_ ?_
                         rotate_left
                         · intro w'
                           go_simp
                           with_reducible rfl
                         rotate_left
                         · simp only [Act.put,List.setIfInBounds_toArray,List.set_cons_zero,List.set_cons_succ,i64_w,i32_w]
                           rfl
                         refine pure_ (i := 11) (N := some 32) (v := ?_) (a' := ?_) #[true,true,true,true,true,true,true,true,true,true,true,true,false,false,false] rfl rfl (any_of HT_.out (by kernel_rfl)) (fun _ _ _ h => h) (Or.inl ⟨by rfl,?_⟩) ?_ ?_
                         rotate_left
                         · intro w'
                           go_simp
                           with_reducible rfl
                         rotate_left
                         · simp only [Act.put,List.setIfInBounds_toArray,List.set_cons_zero,List.set_cons_succ,i64_w,i32_w]
                           rfl
                         refine one_ (i := 12) (N := some 8) #[true,true,true,true,true,true,true,true,true,true,true,true,true,false,false] rfl rfl (one_of HT_.out (by kernel_rfl)) (by decide) (fun K hK => ?_)
                         refine box_step ?hg (N := 8) ?hd (cs := #[.int .i64 0,.int .i64 0]) (t := 41) ?hr ?_;(case hd => rfl);(case hg => rfl);(case hr => first | (go_simp;done) | (go_simp;rfl))
                         intro gb1516 hg w23 hbox hb
                         have n0_ := Aside0.mk (Kd.R_below (Kd.R_elderB (by (with_reducible repeat (first | apply Kd.R_alloc | apply Kd.R_drewN | apply Kd.R_drew));exact HO_6.out) gb1516 (Nat.le_of_eq hg.symm)) hb)
                         have n1_ := Aside0.mk (below_step (by repeat (first | (with_reducible first | exact HB.out | apply below_alloc | apply pw_below_drewN | apply below_drew1) | exact HB.out)) hb)
                         have n2_ := Aside0.mk (hbox)
                         have n3_ := Aside0.mk ((by rw [hg];exact (below_size (by repeat (first | (with_reducible first | exact HB.out | apply below_alloc | apply pw_below_drewN | apply below_drew1) | exact HB.out))) : w.heap.size ≤ gb1516))
                         have n4_ := Aside0.mk ((by rw [hg];exact (below_size (by repeat (first | (with_reducible first | exact HB.out | apply below_alloc | apply pw_below_drewN | apply below_drew1) | exact HB.out))) : w.heap.size ≤ gb1516))
                         clear HO_6
                         clear HB
                         have HO_6 := n0_
                         have HB := n1_
                         have BK1516 := n2_
                         have GW1516 := n3_
                         have GE1516 := n4_
                         clear n0_ n1_ n2_ n3_ n4_
                         clear hb hbox hg
                         refine hK.out _ _ ⟨((HB.out.cell (World.block_lt_of_cell? w _ hw1511_0)).trans hw1511_0),((HB.out.cell (World.block_lt_of_cell? w _ hw1511_1)).trans hw1511_1),((HB.out.cell (World.block_lt_of_cell? w _ hw1512_0)).trans hw1512_0),((HB.out.cell (World.block_lt_of_cell? w _ hw1512_1)).trans hw1512_1)⟩ (fun hHeld => ?_)
                         clear hK K
                         refine norm_ (a' := ?_) ?_ ?_
                         rotate_left
                         · show Act.put _ (some 8) _ = _
                           simp only [Act.put,List.setIfInBounds_toArray,List.set_cons_zero,List.set_cons_succ,i64_w,i32_w]
                           rfl
                         exact norm_ (by simp only [putAll,Act.put,List.setIfInBounds_toArray,List.set_cons_zero,List.set_cons_succ]) (hCont (gb1516) _ ⟨hHeld,(by (with_reducible repeat (first | apply Kd.R_alloc | apply Kd.R_drewN | apply Kd.R_drew));exact Kd.R_mono HO_6.out (fun _ hk => hk.2)),(by (with_reducible repeat (first | refine blk_drewN ?_ _ | refine blk_drew ?_ | refine blk_alloc ?_ _));exact BK1516.out),GW1516.out,GE1516.out,(by repeat (first | (with_reducible first | exact HB.out | apply below_alloc | apply pw_below_drewN | apply below_drew1 | refine below_set ?_ GE1516.out) | exact HB.out))⟩)
                       · skip
                         refine box_step ?hg (N := 8) ?hd (cs := #[.int .i64 0,.int .i64 0]) (t := 41) ?hr ?_;(case hd => rfl);(case hg => rfl);(case hr => first | (go_simp;done) | (go_simp;rfl))
                         intro gb1516 hg w22 hbox hb
                         have n0_ := Aside0.mk (Kd.R_below (Kd.R_elderB (by (with_reducible repeat (first | apply Kd.R_alloc | apply Kd.R_drewN | apply Kd.R_drew));exact HO_6.out) gb1516 (Nat.le_of_eq hg.symm)) hb)
                         have n1_ := Aside0.mk (below_step (by repeat (first | (with_reducible first | exact HB.out | apply below_alloc | apply pw_below_drewN | apply below_drew1) | exact HB.out)) hb)
                         have n2_ := Aside0.mk (hbox)
                         have n3_ := Aside0.mk ((by rw [hg];exact (below_size (by repeat (first | (with_reducible first | exact HB.out | apply below_alloc | apply pw_below_drewN | apply below_drew1) | exact HB.out))) : w.heap.size ≤ gb1516))
                         have n4_ := Aside0.mk ((by rw [hg];exact (below_size (by repeat (first | (with_reducible first | exact HB.out | apply below_alloc | apply pw_below_drewN | apply below_drew1) | exact HB.out))) : w.heap.size ≤ gb1516))
                         clear HO_6
                         clear HB
                         have HO_6 := n0_
                         have HB := n1_
                         have BK1516 := n2_
                         have GW1516 := n3_
                         have GE1516 := n4_
                         clear n0_ n1_ n2_ n3_ n4_
                         clear hb hbox hg
                         refine hK.out _ _ ⟨((HB.out.cell (World.block_lt_of_cell? w _ hw1511_0)).trans hw1511_0),((HB.out.cell (World.block_lt_of_cell? w _ hw1511_1)).trans hw1511_1),((HB.out.cell (World.block_lt_of_cell? w _ hw1512_0)).trans hw1512_0),((HB.out.cell (World.block_lt_of_cell? w _ hw1512_1)).trans hw1512_1)⟩ (fun hHeld => ?_)
                         clear hK K
                         refine norm_ (a' := ?_) ?_ ?_
                         rotate_left
                         · show Act.put _ (some 8) _ = _
                           simp only [Act.put,List.setIfInBounds_toArray,List.set_cons_zero,List.set_cons_succ,i64_w,i32_w]
                           rfl
                         refine one_ (i := 8) (N := some 30) #[true,true,true,true,true,true,true,true,true,false,false,false,true,false,false] rfl rfl (one_of HT_.out (by kernel_rfl)) (by decide) (fun K hK => ?_)
                         refine goes_ Try.func119 (by kernel_rfl) rfl #[.agg #[.int .i64 ((rd_T41 l0 x18_1).f0),.int .i64 ((rd_T41 l0 x18_1).f1)],.agg #[.int .i64 ((rd_T41 l1 x18_1).f0),.int .i64 ((rd_T41 l1 x18_1).f1)]] (by rfl) rfl rfl (by (try simp only [List.map_toArray,List.map_cons,List.map_nil]);first | done | rfl | (simp only [List.length_drop,List.length_take];rfl)) ?_
                         with_reducible refine (impl_Slot_minus.calls ((rd_T41 l0 x18_1).f0) ((rd_T41 l0 x18_1).f1) ((rd_T41 l1 x18_1).f0) ((rd_T41 l1 x18_1).f1) t1513 t1514 true _ A10.out).mono ?_
                         rintro e w23 ⟨rfl,hb⟩
                         refine ⟨_,rfl,?_⟩
                         have n0_ := Aside0.mk (Kd.R_below (by (with_reducible repeat (first | apply Kd.R_alloc | apply Kd.R_drewN | apply Kd.R_drew));exact HO_6.out) hb)
                         have n1_ := Aside0.mk (blk_below (g := gb1516) (o := .cells #[.int .i64 0,.int .i64 0] 41 (0,0)) (by (with_reducible repeat (first | refine blk_drewN ?_ _ | refine blk_drew ?_ | refine blk_alloc ?_ _));exact BK1516.out) hb)
                         have n2_ := Aside0.mk (below_step (by repeat (first | (with_reducible first | exact HB.out | apply below_alloc | apply pw_below_drewN | apply below_drew1 | refine below_set ?_ GE1516.out) | exact HB.out)) hb)
                         clear HO_6
                         clear BK1516
                         clear HB
                         have HO_6 := n0_
                         have BK1516 := n1_
                         have HB := n2_
                         clear n0_ n1_ n2_
                         (try clear hb)
                         (try clear hb2)
                         (try clear hk)
                         (try clear hi)
                         refine hK.out _ _ ⟨((HB.out.cell (World.block_lt_of_cell? w _ hw1511_0)).trans hw1511_0),((HB.out.cell (World.block_lt_of_cell? w _ hw1511_1)).trans hw1511_1),((HB.out.cell (World.block_lt_of_cell? w _ hw1512_0)).trans hw1512_0),((HB.out.cell (World.block_lt_of_cell? w _ hw1512_1)).trans hw1512_1)⟩ (fun hHeld => ?_)
                         clear hK K
                         refine norm_ (a' := ?_) ?_ ?_
                         rotate_left
                         · show Act.put _ (some 30) _ = _
                           simp only [Act.put,List.setIfInBounds_toArray,List.set_cons_zero,List.set_cons_succ,i64_w,i32_w]
                           rfl
                         refine pure_ (i := 9) (N := some 21) (v := ?_) (a' := ?_) #[true,true,true,true,true,true,true,true,true,true,false,false,true,false,false] rfl rfl (any_of HT_.out (by kernel_rfl)) (fun _ _ _ h => h) (Or.inl ⟨by rfl,?_⟩) ?_ ?_
                         rotate_left
                         · intro w'
                           go_simp
                           with_reducible rfl
                         rotate_left
                         · simp only [Act.put,List.setIfInBounds_toArray,List.set_cons_zero,List.set_cons_succ,i64_w,i32_w]
                           rfl
                         refine pure_ (i := 10) (N := some 31) (v := ?_) (a' := ?_) #[true,true,true,true,true,true,true,true,true,true,true,false,true,false,false] rfl rfl (any_of HT_.out (by kernel_rfl)) (fun _ _ _ h => h) (Or.inl ⟨by rfl,?_⟩) ?_ ?_
                         rotate_left
                         · intro w'
                           go_simp
                           with_reducible rfl
                         rotate_left
                         · simp only [Act.put,List.setIfInBounds_toArray,List.set_cons_zero,List.set_cons_succ,i64_w,i32_w]
                           rfl
                         refine pure_ (i := 11) (N := some 32) (v := ?_) (a' := ?_) #[true,true,true,true,true,true,true,true,true,true,true,true,true,false,false] rfl rfl (any_of HT_.out (by kernel_rfl)) (fun _ _ _ h => h) (Or.inl ⟨by rfl,?_⟩) ?_ ?_
                         rotate_left
                         · intro w'
                           go_simp
                           with_reducible rfl
                         rotate_left
                         · simp only [Act.put,List.setIfInBounds_toArray,List.set_cons_zero,List.set_cons_succ,i64_w,i32_w]
                           rfl
                         exact norm_ (by simp only [putAll,Act.put,List.setIfInBounds_toArray,List.set_cons_zero,List.set_cons_succ]) (hCont (gb1516) _ ⟨hHeld,(by (with_reducible repeat (first | apply Kd.R_alloc | apply Kd.R_drewN | apply Kd.R_drew));exact Kd.R_mono HO_6.out (fun _ hk => hk.2)),(by (with_reducible repeat (first | refine blk_drewN ?_ _ | refine blk_drew ?_ | refine blk_alloc ?_ _));exact BK1516.out),GW1516.out,GE1516.out,(by repeat (first | (with_reducible first | exact HB.out | apply below_alloc | apply pw_below_drewN | apply below_drew1 | refine below_set ?_ GE1516.out) | exact HB.out))⟩)
                     rintro gb1516 w24 ⟨hS_,h0_,h1_,h2_,h3_,h4_⟩
                     have n0_ : Aside0 (Kd.R k41 41 w24 w.heap.size (fun k_ => k_ ≠ gb1516) u6 x6_1) := ⟨h0_⟩
                     have n1_ : Aside0 (w24.heap[gb1516]? = some (.cells #[.int .i64 0,.int .i64 0] 41 (0,0))) := ⟨h1_⟩
                     have n2_ : Aside0 (w.heap.size ≤ gb1516) := ⟨h2_⟩
                     have n3_ : Aside0 (w.heap.size ≤ gb1516) := ⟨h3_⟩
                     have n4_ : Aside0 (Below w.heap.size w w24) := ⟨h4_⟩
                     clear HO_6
                     clear HB
                     clear h0_ h1_ h2_ h3_ h4_
                     have HO_6 := n0_
                     have BK1516 := n1_
                     have GW1516 := n2_
                     have GE1516 := n3_
                     have HB := n4_
                     clear n0_ n1_ n2_ n3_ n4_
                     have hHeld : w24.cell? (ad1511.add ((x18_1).toNat * 2)) = some (.int .i64 ((rd_T41 l0 x18_1).f0)) ∧ w24.cell? ⟨(ad1511.add ((x18_1).toNat * 2)).block,(ad1511.add ((x18_1).toNat * 2)).off + 1,none⟩ = some (.int .i64 ((rd_T41 l0 x18_1).f1)) ∧ w24.cell? (ad1512.add ((x18_1).toNat * 2)) = some (.int .i64 ((rd_T41 l1 x18_1).f0)) ∧ w24.cell? ⟨(ad1512.add ((x18_1).toNat * 2)).block,(ad1512.add ((x18_1).toNat * 2)).off + 1,none⟩ = some (.int .i64 ((rd_T41 l1 x18_1).f1)) := hS_
                     refine norm_ (a' := ?_) ?_ ?_
                     rotate_left
                     · simp only [putAll,Act.put,List.setIfInBounds_toArray,List.set_cons_zero,List.set_cons_succ]
                       rfl
                     refine one_ (i := 13) (N := none) #[true,true,true,true,true,true,true,true,true,true,true,true,true,true,false] rfl rfl (one_of HT_.out (by kernel_rfl)) (by decide) (fun K hK => ?_)
                     have hs25 : w24.cell? ⟨gb1516,0,none⟩ = some (.int .i64 0) := (blk_cell BK1516.out 0).trans rfl
                     have hfs25 := blk_frozen BK1516.out 0
                     have hs26 : w24.cell? ⟨gb1516,1,none⟩ = some (.int .i64 0) := (blk_cell BK1516.out 1).trans rfl
                     have hfs26 := blk_frozen BK1516.out 1
                     refine skip_ (w1 := ?_) (by rfl) rfl ?_ ?_
                     rotate_left
                     · go_simp
                       rfl
                     refine hK.out _ _ ⟨((cell_far (p := ⟨gb1516,_,none⟩) (by first | exact Nat.ne_of_lt (Nat.lt_of_lt_of_le (by have := World.block_lt_of_cell? _ _ hw1511_0;first | rwa [add_block] at this | exact this) GW1516.out) | (rw [add_block];exact Nat.ne_of_lt (Nat.lt_of_lt_of_le (by have := World.block_lt_of_cell? _ _ hw1511_0;first | rwa [add_block] at this | exact this) GW1516.out)) | (show (Addr.add _ _).block ≠ _;rw [add_block];exact Nat.ne_of_lt (Nat.lt_of_lt_of_le (by have := World.block_lt_of_cell? _ _ hw1511_0;first | rwa [add_block] at this | exact this) GW1516.out)) | (dsimp only;exact Nat.ne_of_lt (Nat.lt_of_lt_of_le (by have := World.block_lt_of_cell? _ _ hw1511_0;first | rwa [add_block] at this | exact this) GW1516.out))) _).trans (((cell_far (p := ⟨gb1516,_,none⟩) (by first | exact Nat.ne_of_lt (Nat.lt_of_lt_of_le (by have := World.block_lt_of_cell? _ _ hw1511_0;first | rwa [add_block] at this | exact this) GW1516.out) | (rw [add_block];exact Nat.ne_of_lt (Nat.lt_of_lt_of_le (by have := World.block_lt_of_cell? _ _ hw1511_0;first | rwa [add_block] at this | exact this) GW1516.out)) | (show (Addr.add _ _).block ≠ _;rw [add_block];exact Nat.ne_of_lt (Nat.lt_of_lt_of_le (by have := World.block_lt_of_cell? _ _ hw1511_0;first | rwa [add_block] at this | exact this) GW1516.out)) | (dsimp only;exact Nat.ne_of_lt (Nat.lt_of_lt_of_le (by have := World.block_lt_of_cell? _ _ hw1511_0;first | rwa [add_block] at this | exact this) GW1516.out))) _).trans (hHeld.1)))),((cell_far (p := ⟨gb1516,_,none⟩) (by first | exact Nat.ne_of_lt (Nat.lt_of_lt_of_le (by have := World.block_lt_of_cell? _ _ hw1511_1;first | rwa [add_block] at this | exact this) GW1516.out) | (rw [add_block];exact Nat.ne_of_lt (Nat.lt_of_lt_of_le (by have := World.block_lt_of_cell? _ _ hw1511_1;first | rwa [add_block] at this | exact this) GW1516.out)) | (show (Addr.add _ _).block ≠ _;rw [add_block];exact Nat.ne_of_lt (Nat.lt_of_lt_of_le (by have := World.block_lt_of_cell? _ _ hw1511_1;first | rwa [add_block] at this | exact this) GW1516.out)) | (dsimp only;exact Nat.ne_of_lt (Nat.lt_of_lt_of_le (by have := World.block_lt_of_cell? _ _ hw1511_1;first | rwa [add_block] at this | exact this) GW1516.out))) _).trans (((cell_far (p := ⟨gb1516,_,none⟩) (by first | exact Nat.ne_of_lt (Nat.lt_of_lt_of_le (by have := World.block_lt_of_cell? _ _ hw1511_1;first | rwa [add_block] at this | exact this) GW1516.out) | (rw [add_block];exact Nat.ne_of_lt (Nat.lt_of_lt_of_le (by have := World.block_lt_of_cell? _ _ hw1511_1;first | rwa [add_block] at this | exact this) GW1516.out)) | (show (Addr.add _ _).block ≠ _;rw [add_block];exact Nat.ne_of_lt (Nat.lt_of_lt_of_le (by have := World.block_lt_of_cell? _ _ hw1511_1;first | rwa [add_block] at this | exact this) GW1516.out)) | (dsimp only;exact Nat.ne_of_lt (Nat.lt_of_lt_of_le (by have := World.block_lt_of_cell? _ _ hw1511_1;first | rwa [add_block] at this | exact this) GW1516.out))) _).trans (hHeld.2.1)))),((cell_far (p := ⟨gb1516,_,none⟩) (by first | exact Nat.ne_of_lt (Nat.lt_of_lt_of_le (by have := World.block_lt_of_cell? _ _ hw1512_0;first | rwa [add_block] at this | exact this) GW1516.out) | (rw [add_block];exact Nat.ne_of_lt (Nat.lt_of_lt_of_le (by have := World.block_lt_of_cell? _ _ hw1512_0;first | rwa [add_block] at this | exact this) GW1516.out)) | (show (Addr.add _ _).block ≠ _;rw [add_block];exact Nat.ne_of_lt (Nat.lt_of_lt_of_le (by have := World.block_lt_of_cell? _ _ hw1512_0;first | rwa [add_block] at this | exact this) GW1516.out)) | (dsimp only;exact Nat.ne_of_lt (Nat.lt_of_lt_of_le (by have := World.block_lt_of_cell? _ _ hw1512_0;first | rwa [add_block] at this | exact this) GW1516.out))) _).trans (((cell_far (p := ⟨gb1516,_,none⟩) (by first | exact Nat.ne_of_lt (Nat.lt_of_lt_of_le (by have := World.block_lt_of_cell? _ _ hw1512_0;first | rwa [add_block] at this | exact this) GW1516.out) | (rw [add_block];exact Nat.ne_of_lt (Nat.lt_of_lt_of_le (by have := World.block_lt_of_cell? _ _ hw1512_0;first | rwa [add_block] at this | exact this) GW1516.out)) | (show (Addr.add _ _).block ≠ _;rw [add_block];exact Nat.ne_of_lt (Nat.lt_of_lt_of_le (by have := World.block_lt_of_cell? _ _ hw1512_0;first | rwa [add_block] at this | exact this) GW1516.out)) | (dsimp only;exact Nat.ne_of_lt (Nat.lt_of_lt_of_le (by have := World.block_lt_of_cell? _ _ hw1512_0;first | rwa [add_block] at this | exact this) GW1516.out))) _).trans (hHeld.2.2.1)))),((cell_far (p := ⟨gb1516,_,none⟩) (by first | exact Nat.ne_of_lt (Nat.lt_of_lt_of_le (by have := World.block_lt_of_cell? _ _ hw1512_1;first | rwa [add_block] at this | exact this) GW1516.out) | (rw [add_block];exact Nat.ne_of_lt (Nat.lt_of_lt_of_le (by have := World.block_lt_of_cell? _ _ hw1512_1;first | rwa [add_block] at this | exact this) GW1516.out)) | (show (Addr.add _ _).block ≠ _;rw [add_block];exact Nat.ne_of_lt (Nat.lt_of_lt_of_le (by have := World.block_lt_of_cell? _ _ hw1512_1;first | rwa [add_block] at this | exact this) GW1516.out)) | (dsimp only;exact Nat.ne_of_lt (Nat.lt_of_lt_of_le (by have := World.block_lt_of_cell? _ _ hw1512_1;first | rwa [add_block] at this | exact this) GW1516.out))) _).trans (((cell_far (p := ⟨gb1516,_,none⟩) (by first | exact Nat.ne_of_lt (Nat.lt_of_lt_of_le (by have := World.block_lt_of_cell? _ _ hw1512_1;first | rwa [add_block] at this | exact this) GW1516.out) | (rw [add_block];exact Nat.ne_of_lt (Nat.lt_of_lt_of_le (by have := World.block_lt_of_cell? _ _ hw1512_1;first | rwa [add_block] at this | exact this) GW1516.out)) | (show (Addr.add _ _).block ≠ _;rw [add_block];exact Nat.ne_of_lt (Nat.lt_of_lt_of_le (by have := World.block_lt_of_cell? _ _ hw1512_1;first | rwa [add_block] at this | exact this) GW1516.out)) | (dsimp only;exact Nat.ne_of_lt (Nat.lt_of_lt_of_le (by have := World.block_lt_of_cell? _ _ hw1512_1;first | rwa [add_block] at this | exact this) GW1516.out))) _).trans (hHeld.2.2.2))))⟩ (fun hHeld => ?_)
                     clear hK K
                     refine pure_ (i := 14) (N := some 9) (v := ?_) (a' := ?_) #[true,true,true,true,true,true,true,true,true,true,true,true,true,true,true] rfl rfl (any_of HT_.out (by kernel_rfl)) (fun _ _ _ h => h) (Or.inl ⟨by rfl,?_⟩) ?_ ?_
                     rotate_left
                     · intro w'
                       go_simp
                       with_reducible rfl
                     rotate_left
                     · simp only [Act.put,List.setIfInBounds_toArray,List.set_cons_zero,List.set_cons_succ,i64_w,i32_w]
                       rfl
                     refine done_ (done_of HT_.out (by kernel_rfl)) ?_
                     have hcz27_0 : w24.cell? ⟨gb1516,0,none⟩ = some (.int .i64 0) := (blk_cell BK1516.out 0).trans rfl
                     have hcz27_1 : w24.cell? ⟨gb1516,1,none⟩ = some (.int .i64 0) := (blk_cell BK1516.out 1).trans rfl
                     have hfz27_0 := blk_frozen BK1516.out 0
                     have hfz27_1 := blk_frozen BK1516.out 1
                     try go_wp2_with (first | ((with_reducible refine gate_builtin (b := .append) (xs := #[.tmp 40,.tmp 42]) rfl ?_);at_builtin;refine Kd.R_append k41 (w0 := w) w.heap.size rfl (.tmp 40) (.tmp 42) 24 41 (.agg #[(.int .i64 0),(.int .i64 0)]) 16 rfl Try.underlying24 info41 rfl (by decide) (by omega) u6 x6_1 (⟨t1513,t1514⟩ : S41) [.int .i64 t1513,.int .i64 t1514] (fun k_ => k_ ≠ gb1516) (fun _ => False) rfl (by first | (go_simp;done) | (go_simp;rfl)) ?aP (fun _ hk => hk.elim) ?aF ?aO ?aB ?aS ?aL ?_;(case aP => exact k41_mkM _ _ _ (⟨t1513,t1514⟩ : S41));(case aB => exact (by repeat (first | (with_reducible first | exact HB.out | apply below_alloc | apply pw_below_drewN | apply below_drew1 | refine below_set ?_ GE1516.out) | exact HB.out)));(case aF => exact (fun k_ hk => Kd.freshB (g := gb1516) (o := .cells #[.int .i64 t1513,.int .i64 t1514] 41 (0,0)) (by (with_reducible repeat (first | refine blk_drewN ?_ _ | refine blk_drew ?_ | refine blk_alloc ?_ _));refine blk_put (cs := #[.int .i64 t1513,.int .i64 0]) ?_ 1 _ rfl;(with_reducible repeat (first | refine blk_drewN ?_ _ | refine blk_drew ?_ | refine blk_alloc ?_ _));refine blk_put (cs := #[.int .i64 0,.int .i64 0]) ?_ 0 _ rfl;(with_reducible repeat (first | refine blk_drewN ?_ _ | refine blk_drew ?_ | refine blk_alloc ?_ _));exact BK1516.out) k_ hk));(case aO => exact (by (with_reducible repeat (first | apply Kd.R_alloc | apply Kd.R_drewN | apply Kd.R_drew));exact Kd.R_mono (Kd.R_far (p := ⟨gb1516,1,none⟩) (Kd.R_far (p := ⟨gb1516,0,none⟩) (Kd.R_mono HO_6.out (fun k_ hk => (⟨hk,hk⟩ : _ ∧ k_ ≠ gb1516))) (fun _ hk => hk.2) (.int .i64 t1513)) (fun _ hk => hk.2) (.int .i64 t1514)) (fun _ hk => hk.1)));(case aS => exact (below_size (by repeat (first | (with_reducible first | exact HB.out | apply below_alloc | apply pw_below_drewN | apply below_drew1 | refine below_set ?_ GE1516.out) | exact HB.out))));(case aL => have := LMc20.out;omega);intro v1518 w28 ho hb hg hat;rw [← Ny1517.out] at ho;have n0_ := Aside0.mk (blk_grown (g := gb1516) (o := .cells #[.int .i64 t1513,.int .i64 t1514] 41 (0,0)) (by (with_reducible repeat (first | refine blk_drewN ?_ _ | refine blk_drew ?_ | refine blk_alloc ?_ _));refine blk_put (cs := #[.int .i64 t1513,.int .i64 0]) ?_ 1 _ rfl;(with_reducible repeat (first | refine blk_drewN ?_ _ | refine blk_drew ?_ | refine blk_alloc ?_ _));refine blk_put (cs := #[.int .i64 0,.int .i64 0]) ?_ 0 _ rfl;(with_reducible repeat (first | refine blk_drewN ?_ _ | refine blk_drew ?_ | refine blk_alloc ?_ _));exact BK1516.out) hg (Kd.R_away HO_6.out (fun _ hk => hk)));have n1_ := Aside0.mk (hb);have n2_ := Aside0.mk (ho);clear BK1516;clear HB;clear HO_6;have BK1516 := n0_;have HB := n1_;have HO1519 := n2_;clear n0_ n1_ n2_;clear ho hb hg hat))
                     go_roundg k1
                     case measure => have := HK1.out;omega
                     case rel => exact ⟨(y1517),(wrap64 (x18_1 + 1)),(by first | rfl | (simp;done) | (simp [*];done)),H',⟨by have := HK1.out;omega⟩,⟨by (with_reducible repeat (first | apply Kd.R_alloc | apply Kd.R_drewN | apply Kd.R_drew));exact Kd.R_mono HO1519.out (fun _ hk => trivial)⟩,⟨by repeat (first | (with_reducible first | exact HB.out | apply below_alloc | apply pw_below_drewN | apply below_drew1 | refine below_set ?_ GE1516.out) | exact HB.out)⟩⟩
                   · rw [if_neg c20] at H
                     exact absurd H (by simp)
               · replace c11 := Bool.eq_false_iff.mpr c11
                 subst c11
                 have H1 : (some (([] : List (S41)),false)) = some (r1,r2) := by rw [if_neg (show ¬ (false = true) by decide)] at H;exact H
                 clear H
                 have H := H1
                 clear H1
                 simp only [Option.some.injEq,Prod.mk.injEq] at H
                 obtain ⟨rfl,rfl⟩ := H
                 try go_wp2
                 have n0_ := Aside0.mk (Kd.R_drew HO_6.out)
                 have n1_ := Aside0.mk (below_drew1 HB.out)
                 clear HO_6
                 clear HB
                 have HO_6 := n0_
                 have HB := n1_
                 clear n0_ n1_
                 have p1511 : 0 ≤ (x18_1 : Int) := of_decide_eq_true (by first | (with_reducible assumption) | assumption)
                 have q1511 : x18_1 < (l0.length : Int) := of_decide_eq_true (by first | (with_reducible assumption) | assumption)
                 obtain ⟨ad1511,e1511,hx1511_0,hx1511_1⟩ := at_T41 HR0.out x18_1 p1511 q1511
                 have hw1511_1 := hx1511_1
                 have hw1511_0 := hx1511_0
                 cases e1511
                 replace hx1511_0 := (HB.out.cell (World.block_lt_of_cell? w _ hx1511_0)).trans hx1511_0
                 replace hx1511_1 := (HB.out.cell (World.block_lt_of_cell? w _ hx1511_1)).trans hx1511_1
                 replace p1511 := eq_true p1511
                 replace q1511 := eq_true q1511
                 have p1512 : 0 ≤ (x18_1 : Int) := of_decide_eq_true (by first | (with_reducible assumption) | assumption)
                 have q1512 : x18_1 < (l1.length : Int) := of_decide_eq_true (by first | (with_reducible assumption) | assumption)
                 obtain ⟨ad1512,e1512,hx1512_0,hx1512_1⟩ := at_T41 HR1.out x18_1 p1512 q1512
                 have hw1512_1 := hx1512_1
                 have hw1512_0 := hx1512_0
                 cases e1512
                 replace hx1512_0 := (HB.out.cell (World.block_lt_of_cell? w _ hx1512_0)).trans hx1512_0
                 replace hx1512_1 := (HB.out.cell (World.block_lt_of_cell? w _ hx1512_1)).trans hx1512_1
                 replace p1512 := eq_true p1512
                 replace q1512 := eq_true q1512
                 refine start_ (n := 15) (S := fun w' => w'.cell? (ad1511.add ((x18_1).toNat * 2)) = some (.int .i64 ((rd_T41 l0 x18_1).f0)) ∧ w'.cell? ⟨(ad1511.add ((x18_1).toNat * 2)).block,(ad1511.add ((x18_1).toNat * 2)).off + 1,none⟩ = some (.int .i64 ((rd_T41 l0 x18_1).f1)) ∧ w'.cell? (ad1512.add ((x18_1).toNat * 2)) = some (.int .i64 ((rd_T41 l1 x18_1).f0)) ∧ w'.cell? ⟨(ad1512.add ((x18_1).toNat * 2)).block,(ad1512.add ((x18_1).toNat * 2)).off + 1,none⟩ = some (.int .i64 ((rd_T41 l1 x18_1).f1))) (ds := []) #[false,false,false,false,false,false,false,false,false,false,false,false,false,false,false] (by kernel_rfl) rfl rfl ⟨((HB.out.cell (World.block_lt_of_cell? w _ hw1511_0)).trans hw1511_0),((HB.out.cell (World.block_lt_of_cell? w _ hw1511_1)).trans hw1511_1),((HB.out.cell (World.block_lt_of_cell? w _ hw1512_0)).trans hw1512_0),((HB.out.cell (World.block_lt_of_cell? w _ hw1512_1)).trans hw1512_1)⟩ (fun hHeld => ?_);refine with_tabW impl_SubHist.tab7 impl_SubHist.bits7 (fun HT_ HW_ => ?_)
                 generalize wr.drew = w29 at HO_6 HB hx1511_0 hx1511_1 hx1512_0 hx1512_1 hHeld ⊢
                 refine pure_ (i := 0) (N := some 22) (v := ?_) (a' := ?_) #[true,false,false,false,false,false,false,false,false,false,false,false,false,false,false] rfl rfl (any_of HT_.out (by kernel_rfl)) (fun _ _ _ h => h) (Or.inl ⟨by rfl,?_⟩) ?_ ?_
                 rotate_left
                 · intro w'
                   go_simp
                   with_reducible rfl
                 rotate_left
                 · simp only [Act.put,List.setIfInBounds_toArray,List.set_cons_zero,List.set_cons_succ,i64_w,i32_w]
                   rfl
                 refine pure_ (i := 1) (N := some 23) (v := ?_) (a' := ?_) #[true,true,false,false,false,false,false,false,false,false,false,false,false,false,false] rfl rfl (any_of HT_.out (by kernel_rfl)) (fun _ _ _ h => h) (Or.inl ⟨by rfl,?_⟩) ?_ ?_
                 rotate_left
                 · intro w'
                   go_simp
                   with_reducible rfl
                 rotate_left
                 · simp only [Act.put,List.setIfInBounds_toArray,List.set_cons_zero,List.set_cons_succ,i64_w,i32_w]
                   rfl
                 refine pure_ (i := 2) (N := some 24) (v := ?_) (a' := ?_) #[true,true,true,false,false,false,false,false,false,false,false,false,false,false,false] rfl rfl (any_of HT_.out (by kernel_rfl)) (fun _ _ _ h => h) (Or.inl ⟨by rfl,?_⟩) ?_ ?_
                 rotate_left
                 · intro w'
                   go_simp
                   with_reducible rfl
                 rotate_left
                 · simp only [Act.put,List.setIfInBounds_toArray,List.set_cons_zero,List.set_cons_succ,i64_w,i32_w]
                   rfl
                 refine pure_ (i := 4) (N := some 26) (v := ?_) (a' := ?_) #[true,true,true,false,true,false,false,false,false,false,false,false,false,false,false] rfl rfl (any_of HT_.out (by kernel_rfl)) (fun _ _ _ h => h) (Or.inl ⟨by rfl,?_⟩) ?_ ?_
                 rotate_left
                 · intro w'
                   go_simp
                   with_reducible rfl
                 rotate_left
                 · simp only [Act.put,List.setIfInBounds_toArray,List.set_cons_zero,List.set_cons_succ,i64_w,i32_w]
                   rfl
                 refine pure_ (i := 5) (N := some 27) (v := ?_) (a' := ?_) #[true,true,true,false,true,true,false,false,false,false,false,false,false,false,false] rfl rfl (any_of HT_.out (by kernel_rfl)) (fun _ _ _ h => h) (Or.inl ⟨by rfl,?_⟩) ?_ ?_
                 rotate_left
                 · intro w'
                   go_simp
                   with_reducible rfl
                 rotate_left
                 · simp only [Act.put,List.setIfInBounds_toArray,List.set_cons_zero,List.set_cons_succ,i64_w,i32_w]
                   rfl
                 refine pure_ (i := 6) (N := some 28) (v := ?_) (a' := ?_) #[true,true,true,false,true,true,true,false,false,false,false,false,false,false,false] rfl rfl (any_of HT_.out (by kernel_rfl)) (fun _ _ _ h => h) (Or.inl ⟨by rfl,?_⟩) ?_ ?_
                 rotate_left
                 · intro w'
                   go_simp
                   with_reducible rfl
                 rotate_left
                 · simp only [Act.put,List.setIfInBounds_toArray,List.set_cons_zero,List.set_cons_succ,i64_w,i32_w]
                   rfl
                 refine take_ (i := 3) (N := some 25) (v := ?_) (a' := ?_) #[true,true,true,true,true,true,true,false,false,false,false,false,false,false,false] rfl rfl (take_ofW HT_.out HW_.out (by kernel_rfl)) (fun _ _ _ h => h) (Or.inl ⟨by rfl,?_⟩) hHeld ?_ ?_
                 rotate_left
                 · rintro w' ⟨s0,s1,s2,s3⟩
                   go_simp
                   with_reducible rfl
                 rotate_left
                 · simp only [Act.put,List.setIfInBounds_toArray,List.set_cons_zero,List.set_cons_succ,i64_w,i32_w]
                   rfl
                 refine take_ (i := 7) (N := some 29) (v := ?_) (a' := ?_) #[true,true,true,true,true,true,true,true,false,false,false,false,false,false,false] rfl rfl (take_ofW HT_.out HW_.out (by kernel_rfl)) (fun _ _ _ h => h) (Or.inl ⟨by rfl,?_⟩) hHeld ?_ ?_
                 rotate_left
                 · rintro w' ⟨s0,s1,s2,s3⟩
                   go_simp
                   with_reducible rfl
                 rotate_left
                 · simp only [Act.put,List.setIfInBounds_toArray,List.set_cons_zero,List.set_cons_succ,i64_w,i32_w]
                   rfl
                 refine join_ (σ := Nat) 2 #[true,true,true,true,true,true,true,true,true,true,true,true,true,false,false] (fun s_ => [(30,.tuple #[.agg #[.int .i64 t1513,.int .i64 t1514],.bool false]),(8,.pointer (some ⟨s_,0,none⟩)),(21,.tuple #[.agg #[.int .i64 t1513,.int .i64 t1514],.bool false]),(31,.agg #[.int .i64 t1513,.int .i64 t1514]),(32,.bool false)]) (fun s_ w' => (w'.cell? (ad1511.add ((x18_1).toNat * 2)) = some (.int .i64 ((rd_T41 l0 x18_1).f0)) ∧ w'.cell? ⟨(ad1511.add ((x18_1).toNat * 2)).block,(ad1511.add ((x18_1).toNat * 2)).off + 1,none⟩ = some (.int .i64 ((rd_T41 l0 x18_1).f1)) ∧ w'.cell? (ad1512.add ((x18_1).toNat * 2)) = some (.int .i64 ((rd_T41 l1 x18_1).f0)) ∧ w'.cell? ⟨(ad1512.add ((x18_1).toNat * 2)).block,(ad1512.add ((x18_1).toNat * 2)).off + 1,none⟩ = some (.int .i64 ((rd_T41 l1 x18_1).f1))) ∧ (Kd.R k41 41 w' w.heap.size (fun k_ => k_ ≠ s_) u6 x6_1) ∧ (w'.heap[s_]? = some (.cells #[.int .i64 0,.int .i64 0] 41 (0,0))) ∧ (w.heap.size ≤ s_) ∧ (w.heap.size ≤ s_) ∧ (Below w.heap.size w w')) ?_ ?_
                 rotate_left
                 · intro hCont
                   refine two_ (i := 8) (j := 12) (Ni := some 30) (Nj := some 8) #[true,true,true,true,true,true,true,true,true,false,false,false,false,false,false] #[true,true,true,true,true,true,true,true,false,false,false,false,true,false,false] rfl rfl rfl rfl (two_of HT_.out (by kernel_rfl)) (by decide) (by decide) (fun K hK => ?_) (fun K hK => ?_)
                   · skip
                     refine goes_ Try.func119 (by kernel_rfl) rfl #[.agg #[.int .i64 ((rd_T41 l0 x18_1).f0),.int .i64 ((rd_T41 l0 x18_1).f1)],.agg #[.int .i64 ((rd_T41 l1 x18_1).f0),.int .i64 ((rd_T41 l1 x18_1).f1)]] (by rfl) rfl rfl (by (try simp only [List.map_toArray,List.map_cons,List.map_nil]);first | done | rfl | (simp only [List.length_drop,List.length_take];rfl)) ?_
                     with_reducible refine (impl_Slot_minus.calls ((rd_T41 l0 x18_1).f0) ((rd_T41 l0 x18_1).f1) ((rd_T41 l1 x18_1).f0) ((rd_T41 l1 x18_1).f1) t1513 t1514 false _ A10.out).mono ?_
                     rintro e w30 ⟨rfl,hb⟩
                     refine ⟨_,rfl,?_⟩
                     have n0_ := Aside0.mk (Kd.R_below (by (with_reducible repeat (first | apply Kd.R_alloc | apply Kd.R_drewN | apply Kd.R_drew));exact HO_6.out) hb)
                     have n1_ := Aside0.mk (below_step (by repeat (first | (with_reducible first | exact HB.out | apply below_alloc | apply pw_below_drewN | apply below_drew1) | exact HB.out)) hb)
                     clear HO_6
                     clear HB
                     have HO_6 := n0_
                     have HB := n1_
                     clear n0_ n1_
                     (try clear hb)
                     (try clear hb2)
                     (try clear hk)
                     (try clear hi)
                     refine hK.out _ _ ⟨((HB.out.cell (World.block_lt_of_cell? w _ hw1511_0)).trans hw1511_0),((HB.out.cell (World.block_lt_of_cell? w _ hw1511_1)).trans hw1511_1),((HB.out.cell (World.block_lt_of_cell? w _ hw1512_0)).trans hw1512_0),((HB.out.cell (World.block_lt_of_cell? w _ hw1512_1)).trans hw1512_1)⟩ (fun hHeld => ?_)
                     clear hK K
                     refine norm_ (a' := ?_) ?_ ?_
                     rotate_left
                     · show Act.put _ (some 30) _ = _
                       simp only [Act.put,List.setIfInBounds_toArray,List.set_cons_zero,List.set_cons_succ,i64_w,i32_w]
                       rfl
                     refine pure_ (i := 9) (N := some 21) (v := ?_) (a' := ?_) #[true,true,true,true,true,true,true,true,true,true,false,false,false,false,false] rfl rfl (any_of HT_.out (by kernel_rfl)) (fun _ _ _ h => h) (Or.inl ⟨by rfl,?_⟩) ?_ ?_
                     rotate_left
                     · intro w'
                       go_simp
                       with_reducible rfl
                     rotate_left
                     · simp only [Act.put,List.setIfInBounds_toArray,List.set_cons_zero,List.set_cons_succ,i64_w,i32_w]
                       rfl
                     refine pure_ (i := 10) (N := some 31) (v := ?_) (a' := ?_) #[true,true,true,true,true,true,true,true,true,true,true,false,false,false,false] rfl rfl (any_of HT_.out (by kernel_rfl)) (fun _ _ _ h => h) (Or.inl ⟨by rfl,?_⟩) ?_ ?_
                     rotate_left
                     · intro w'
                       go_simp
                       with_reducible rfl
                     rotate_left
                     · simp only [Act.put,List.setIfInBounds_toArray,List.set_cons_zero,List.set_cons_succ,i64_w,i32_w]
                       rfl
                     refine pure_ (i := 11) (N := some 32) (v := ?_) (a' := ?_) #[true,true,true,true,true,true,true,true,true,true,true,true,false,false,false] rfl rfl (any_of HT_.out (by kernel_rfl)) (fun _ _ _ h => h) (Or.inl ⟨by rfl,?_⟩) ?_ ?_
                     rotate_left
                     · intro w'
                       go_simp
                       with_reducible rfl
                     rotate_left
                     · simp only [Act.put,List.setIfInBounds_toArray,List.set_cons_zero,List.set_cons_succ,i64_w,i32_w]
                       rfl
                     refine one_ (i := 12) (N := some 8) #[true,true,true,true,true,true,true,true,true,true,true,true,true,false,false] rfl rfl (one_of HT_.out (by kernel_rfl)) (by decide) (fun K hK => ?_)
                     refine box_step ?hg (N := 8) ?hd (cs := #[.int .i64 0,.int .i64 0]) (t := 41) ?hr ?_;(case hd => rfl);(case hg => rfl);(case hr => first | (go_simp;done) | (go_simp;rfl))
                     intro gb1516 hg w31 hbox hb
                     have n0_ := Aside0.mk (Kd.R_below (Kd.R_elderB (by (with_reducible repeat (first | apply Kd.R_alloc | apply Kd.R_drewN | apply Kd.R_drew));exact HO_6.out) gb1516 (Nat.le_of_eq hg.symm)) hb)
                     have n1_ := Aside0.mk (below_step (by repeat (first | (with_reducible first | exact HB.out | apply below_alloc | apply pw_below_drewN | apply below_drew1) | exact HB.out)) hb)
                     have n2_ := Aside0.mk (hbox)
                     have n3_ := Aside0.mk ((by rw [hg];exact (below_size (by repeat (first | (with_reducible first | exact HB.out | apply below_alloc | apply pw_below_drewN | apply below_drew1) | exact HB.out))) : w.heap.size ≤ gb1516))
                     have n4_ := Aside0.mk ((by rw [hg];exact (below_size (by repeat (first | (with_reducible first | exact HB.out | apply below_alloc | apply pw_below_drewN | apply below_drew1) | exact HB.out))) : w.heap.size ≤ gb1516))
                     clear HO_6
                     clear HB
                     have HO_6 := n0_
                     have HB := n1_
                     have BK1516 := n2_
                     have GW1516 := n3_
                     have GE1516 := n4_
                     clear n0_ n1_ n2_ n3_ n4_
                     clear hb hbox hg
                     refine hK.out _ _ ⟨((HB.out.cell (World.block_lt_of_cell? w _ hw1511_0)).trans hw1511_0),((HB.out.cell (World.block_lt_of_cell? w _ hw1511_1)).trans hw1511_1),((HB.out.cell (World.block_lt_of_cell? w _ hw1512_0)).trans hw1512_0),((HB.out.cell (World.block_lt_of_cell? w _ hw1512_1)).trans hw1512_1)⟩ (fun hHeld => ?_)
                     clear hK K
                     refine norm_ (a' := ?_) ?_ ?_
                     rotate_left
                     · show Act.put _ (some 8) _ = _
                       simp only [Act.put,List.setIfInBounds_toArray,List.set_cons_zero,List.set_cons_succ,i64_w,i32_w]
                       rfl
                     exact norm_ (by simp only [putAll,Act.put,List.setIfInBounds_toArray,List.set_cons_zero,List.set_cons_succ]) (hCont (gb1516) _ ⟨hHeld,(by (with_reducible repeat (first | apply Kd.R_alloc | apply Kd.R_drewN | apply Kd.R_drew));exact Kd.R_mono HO_6.out (fun _ hk => hk.2)),(by (with_reducible repeat (first | refine blk_drewN ?_ _ | refine blk_drew ?_ | refine blk_alloc ?_ _));exact BK1516.out),GW1516.out,GE1516.out,(by repeat (first | (with_reducible first | exact HB.out | apply below_alloc | apply pw_below_drewN | apply below_drew1 | refine below_set ?_ GE1516.out) | exact HB.out))⟩)
                   · skip
                     refine box_step ?hg (N := 8) ?hd (cs := #[.int .i64 0,.int .i64 0]) (t := 41) ?hr ?_;(case hd => rfl);(case hg => rfl);(case hr => first | (go_simp;done) | (go_simp;rfl))
                     intro gb1516 hg w30 hbox hb
                     have n0_ := Aside0.mk (Kd.R_below (Kd.R_elderB (by (with_reducible repeat (first | apply Kd.R_alloc | apply Kd.R_drewN | apply Kd.R_drew));exact HO_6.out) gb1516 (Nat.le_of_eq hg.symm)) hb)
                     have n1_ := Aside0.mk (below_step (by repeat (first | (with_reducible first | exact HB.out | apply below_alloc | apply pw_below_drewN | apply below_drew1) | exact HB.out)) hb)
                     have n2_ := Aside0.mk (hbox)
                     have n3_ := Aside0.mk ((by rw [hg];exact (below_size (by repeat (first | (with_reducible first | exact HB.out | apply below_alloc | apply pw_below_drewN | apply below_drew1) | exact HB.out))) : w.heap.size ≤ gb1516))
                     have n4_ := Aside0.mk ((by rw [hg];exact (below_size (by repeat (first | (with_reducible first | exact HB.out | apply below_alloc | apply pw_below_drewN | apply below_drew1) | exact HB.out))) : w.heap.size ≤ gb1516))
                     clear HO_6
                     clear HB
                     have HO_6 := n0_
                     have HB := n1_
                     have BK1516 := n2_
                     have GW1516 := n3_
                     have GE1516 := n4_
                     clear n0_ n1_ n2_ n3_ n4_
                     clear hb hbox hg
                     refine hK.out _ _ ⟨((HB.out.cell (World.block_lt_of_cell? w _ hw1511_0)).trans hw1511_0),((HB.out.cell (World.block_lt_of_cell? w _ hw1511_1)).trans hw1511_1),((HB.out.cell (World.block_lt_of_cell? w _ hw1512_0)).trans hw1512_0),((HB.out.cell (World.block_lt_of_cell? w _ hw1512_1)).trans hw1512_1)⟩ (fun hHeld => ?_)
                     clear hK K
                     refine norm_ (a' := ?_) ?_ ?_
                     rotate_left
                     · show Act.put _ (some 8) _ = _
                       simp only [Act.put,List.setIfInBounds_toArray,List.set_cons_zero,List.set_cons_succ,i64_w,i32_w]
                       rfl
                     refine one_ (i := 8) (N := some 30) #[true,true,true,true,true,true,true,true,true,false,false,false,true,false,false] rfl rfl (one_of HT_.out (by kernel_rfl)) (by decide) (fun K hK => ?_)
                     refine goes_ Try.func119 (by kernel_rfl) rfl #[.agg #[.int .i64 ((rd_T41 l0 x18_1).f0),.int .i64 ((rd_T41 l0 x18_1).f1)],.agg #[.int .i64 ((rd_T41 l1 x18_1).f0),.int .i64 ((rd_T41 l1 x18_1).f1)]] (by rfl) rfl rfl (by (try simp only [List.map_toArray,List.map_cons,List.map_nil]);first | done | rfl | (simp only [List.length_drop,List.length_take];rfl)) ?_
                     with_reducible refine (impl_Slot_minus.calls ((rd_T41 l0 x18_1).f0) ((rd_T41 l0 x18_1).f1) ((rd_T41 l1 x18_1).f0) ((rd_T41 l1 x18_1).f1) t1513 t1514 false _ A10.out).mono ?_
                     rintro e w31 ⟨rfl,hb⟩
                     refine ⟨_,rfl,?_⟩
                     have n0_ := Aside0.mk (Kd.R_below (by (with_reducible repeat (first | apply Kd.R_alloc | apply Kd.R_drewN | apply Kd.R_drew));exact HO_6.out) hb)
                     have n1_ := Aside0.mk (blk_below (g := gb1516) (o := .cells #[.int .i64 0,.int .i64 0] 41 (0,0)) (by (with_reducible repeat (first | refine blk_drewN ?_ _ | refine blk_drew ?_ | refine blk_alloc ?_ _));exact BK1516.out) hb)
                     have n2_ := Aside0.mk (below_step (by repeat (first | (with_reducible first | exact HB.out | apply below_alloc | apply pw_below_drewN | apply below_drew1 | refine below_set ?_ GE1516.out) | exact HB.out)) hb)
                     clear HO_6
                     clear BK1516
                     clear HB
                     have HO_6 := n0_
                     have BK1516 := n1_
                     have HB := n2_
                     clear n0_ n1_ n2_
                     (try clear hb)
                     (try clear hb2)
                     (try clear hk)
                     (try clear hi)
                     refine hK.out _ _ ⟨((HB.out.cell (World.block_lt_of_cell? w _ hw1511_0)).trans hw1511_0),((HB.out.cell (World.block_lt_of_cell? w _ hw1511_1)).trans hw1511_1),((HB.out.cell (World.block_lt_of_cell? w _ hw1512_0)).trans hw1512_0),((HB.out.cell (World.block_lt_of_cell? w _ hw1512_1)).trans hw1512_1)⟩ (fun hHeld => ?_)
                     clear hK K
                     refine norm_ (a' := ?_) ?_ ?_
                     rotate_left
                     · show Act.put _ (some 30) _ = _
                       simp only [Act.put,List.setIfInBounds_toArray,List.set_cons_zero,List.set_cons_succ,i64_w,i32_w]
                       rfl
                     refine pure_ (i := 9) (N := some 21) (v := ?_) (a' := ?_) #[true,true,true,true,true,true,true,true,true,true,false,false,true,false,false] rfl rfl (any_of HT_.out (by kernel_rfl)) (fun _ _ _ h => h) (Or.inl ⟨by rfl,?_⟩) ?_ ?_
                     rotate_left
                     · intro w'
                       go_simp
                       with_reducible rfl
                     rotate_left
                     · simp only [Act.put,List.setIfInBounds_toArray,List.set_cons_zero,List.set_cons_succ,i64_w,i32_w]
                       rfl
                     refine pure_ (i := 10) (N := some 31) (v := ?_) (a' := ?_) #[true,true,true,true,true,true,true,true,true,true,true,false,true,false,false] rfl rfl (any_of HT_.out (by kernel_rfl)) (fun _ _ _ h => h) (Or.inl ⟨by rfl,?_⟩) ?_ ?_
                     rotate_left
                     · intro w'
                       go_simp
                       with_reducible rfl
                     rotate_left
                     · simp only [Act.put,List.setIfInBounds_toArray,List.set_cons_zero,List.set_cons_succ,i64_w,i32_w]
                       rfl
                     refine pure_ (i := 11) (N := some 32) (v := ?_) (a' := ?_) #[true,true,true,true,true,true,true,true,true,true,true,true,true,false,false] rfl rfl (any_of HT_.out (by kernel_rfl)) (fun _ _ _ h => h) (Or.inl ⟨by rfl,?_⟩) ?_ ?_
                     rotate_left
                     · intro w'
                       go_simp
                       with_reducible rfl
                     rotate_left
                     · simp only [Act.put,List.setIfInBounds_toArray,List.set_cons_zero,List.set_cons_succ,i64_w,i32_w]
                       rfl
                     exact norm_ (by simp only [putAll,Act.put,List.setIfInBounds_toArray,List.set_cons_zero,List.set_cons_succ]) (hCont (gb1516) _ ⟨hHeld,(by (with_reducible repeat (first | apply Kd.R_alloc | apply Kd.R_drewN | apply Kd.R_drew));exact Kd.R_mono HO_6.out (fun _ hk => hk.2)),(by (with_reducible repeat (first | refine blk_drewN ?_ _ | refine blk_drew ?_ | refine blk_alloc ?_ _));exact BK1516.out),GW1516.out,GE1516.out,(by repeat (first | (with_reducible first | exact HB.out | apply below_alloc | apply pw_below_drewN | apply below_drew1 | refine below_set ?_ GE1516.out) | exact HB.out))⟩)
                 rintro gb1516 w32 ⟨hS_,h0_,h1_,h2_,h3_,h4_⟩
                 have n0_ : Aside0 (Kd.R k41 41 w32 w.heap.size (fun k_ => k_ ≠ gb1516) u6 x6_1) := ⟨h0_⟩
                 have n1_ : Aside0 (w32.heap[gb1516]? = some (.cells #[.int .i64 0,.int .i64 0] 41 (0,0))) := ⟨h1_⟩
                 have n2_ : Aside0 (w.heap.size ≤ gb1516) := ⟨h2_⟩
                 have n3_ : Aside0 (w.heap.size ≤ gb1516) := ⟨h3_⟩
                 have n4_ : Aside0 (Below w.heap.size w w32) := ⟨h4_⟩
                 clear HO_6
                 clear HB
                 clear h0_ h1_ h2_ h3_ h4_
                 have HO_6 := n0_
                 have BK1516 := n1_
                 have GW1516 := n2_
                 have GE1516 := n3_
                 have HB := n4_
                 clear n0_ n1_ n2_ n3_ n4_
                 have hHeld : w32.cell? (ad1511.add ((x18_1).toNat * 2)) = some (.int .i64 ((rd_T41 l0 x18_1).f0)) ∧ w32.cell? ⟨(ad1511.add ((x18_1).toNat * 2)).block,(ad1511.add ((x18_1).toNat * 2)).off + 1,none⟩ = some (.int .i64 ((rd_T41 l0 x18_1).f1)) ∧ w32.cell? (ad1512.add ((x18_1).toNat * 2)) = some (.int .i64 ((rd_T41 l1 x18_1).f0)) ∧ w32.cell? ⟨(ad1512.add ((x18_1).toNat * 2)).block,(ad1512.add ((x18_1).toNat * 2)).off + 1,none⟩ = some (.int .i64 ((rd_T41 l1 x18_1).f1)) := hS_
                 refine norm_ (a' := ?_) ?_ ?_
                 rotate_left
                 · simp only [putAll,Act.put,List.setIfInBounds_toArray,List.set_cons_zero,List.set_cons_succ]
                   rfl
                 refine one_ (i := 13) (N := none) #[true,true,true,true,true,true,true,true,true,true,true,true,true,true,false] rfl rfl (one_of HT_.out (by kernel_rfl)) (by decide) (fun K hK => ?_)
                 have hs33 : w32.cell? ⟨gb1516,0,none⟩ = some (.int .i64 0) := (blk_cell BK1516.out 0).trans rfl
                 have hfs33 := blk_frozen BK1516.out 0
                 have hs34 : w32.cell? ⟨gb1516,1,none⟩ = some (.int .i64 0) := (blk_cell BK1516.out 1).trans rfl
                 have hfs34 := blk_frozen BK1516.out 1
                 refine skip_ (w1 := ?_) (by rfl) rfl ?_ ?_
                 rotate_left
                 · go_simp
                   rfl
                 refine hK.out _ _ ⟨((cell_far (p := ⟨gb1516,_,none⟩) (by first | exact Nat.ne_of_lt (Nat.lt_of_lt_of_le (by have := World.block_lt_of_cell? _ _ hw1511_0;first | rwa [add_block] at this | exact this) GW1516.out) | (rw [add_block];exact Nat.ne_of_lt (Nat.lt_of_lt_of_le (by have := World.block_lt_of_cell? _ _ hw1511_0;first | rwa [add_block] at this | exact this) GW1516.out)) | (show (Addr.add _ _).block ≠ _;rw [add_block];exact Nat.ne_of_lt (Nat.lt_of_lt_of_le (by have := World.block_lt_of_cell? _ _ hw1511_0;first | rwa [add_block] at this | exact this) GW1516.out)) | (dsimp only;exact Nat.ne_of_lt (Nat.lt_of_lt_of_le (by have := World.block_lt_of_cell? _ _ hw1511_0;first | rwa [add_block] at this | exact this) GW1516.out))) _).trans (((cell_far (p := ⟨gb1516,_,none⟩) (by first | exact Nat.ne_of_lt (Nat.lt_of_lt_of_le (by have := World.block_lt_of_cell? _ _ hw1511_0;first | rwa [add_block] at this | exact this) GW1516.out) | (rw [add_block];exact Nat.ne_of_lt (Nat.lt_of_lt_of_le (by have := World.block_lt_of_cell? _ _ hw1511_0;first | rwa [add_block] at this | exact this) GW1516.out)) | (show (Addr.add _ _).block ≠ _;rw [add_block];exact Nat.ne_of_lt (Nat.lt_of_lt_of_le (by have := World.block_lt_of_cell? _ _ hw1511_0;first | rwa [add_block] at this | exact this) GW1516.out)) | (dsimp only;exact Nat.ne_of_lt (Nat.lt_of_lt_of_le (by have := World.block_lt_of_cell? _ _ hw1511_0;first | rwa [add_block] at this | exact this) GW1516.out))) _).trans (hHeld.1)))),((cell_far (p := ⟨gb1516,_,none⟩) (by first | exact Nat.ne_of_lt (Nat.lt_of_lt_of_le (by have := World.block_lt_of_cell? _ _ hw1511_1;first | rwa [add_block] at this | exact this) GW1516.out) | (rw [add_block];exact Nat.ne_of_lt (Nat.lt_of_lt_of_le (by have := World.block_lt_of_cell? _ _ hw1511_1;first | rwa [add_block] at this | exact this) GW1516.out)) | (show (Addr.add _ _).block ≠ _;rw [add_block];exact Nat.ne_of_lt (Nat.lt_of_lt_of_le (by have := World.block_lt_of_cell? _ _ hw1511_1;first | rwa [add_block] at this | exact this) GW1516.out)) | (dsimp only;exact Nat.ne_of_lt (Nat.lt_of_lt_of_le (by have := World.block_lt_of_cell? _ _ hw1511_1;first | rwa [add_block] at this | exact this) GW1516.out))) _).trans (((cell_far (p := ⟨gb1516,_,none⟩) (by first | exact Nat.ne_of_lt (Nat.lt_of_lt_of_le (by have := World.block_lt_of_cell? _ _ hw1511_1;first | rwa [add_block] at this | exact this) GW1516.out) | (rw [add_block];exact Nat.ne_of_lt (Nat.lt_of_lt_of_le (by have := World.block_lt_of_cell? _ _ hw1511_1;first | rwa [add_block] at this | exact this) GW1516.out)) | (show (Addr.add _ _).block ≠ _;rw [add_block];exact Nat.ne_of_lt (Nat.lt_of_lt_of_le (by have := World.block_lt_of_cell? _ _ hw1511_1;first | rwa [add_block] at this | exact this) GW1516.out)) | (dsimp only;exact Nat.ne_of_lt (Nat.lt_of_lt_of_le (by have := World.block_lt_of_cell? _ _ hw1511_1;first | rwa [add_block] at this | exact this) GW1516.out))) _).trans (hHeld.2.1)))),((cell_far (p := ⟨gb1516,_,none⟩) (by first | exact Nat.ne_of_lt (Nat.lt_of_lt_of_le (by have := World.block_lt_of_cell? _ _ hw1512_0;first | rwa [add_block] at this | exact this) GW1516.out) | (rw [add_block];exact Nat.ne_of_lt (Nat.lt_of_lt_of_le (by have := World.block_lt_of_cell? _ _ hw1512_0;first | rwa [add_block] at this | exact this) GW1516.out)) | (show (Addr.add _ _).block ≠ _;rw [add_block];exact Nat.ne_of_lt (Nat.lt_of_lt_of_le (by have := World.block_lt_of_cell? _ _ hw1512_0;first | rwa [add_block] at this | exact this) GW1516.out)) | (dsimp only;exact Nat.ne_of_lt (Nat.lt_of_lt_of_le (by have := World.block_lt_of_cell? _ _ hw1512_0;first | rwa [add_block] at this | exact this) GW1516.out))) _).trans (((cell_far (p := ⟨gb1516,_,none⟩) (by first | exact Nat.ne_of_lt (Nat.lt_of_lt_of_le (by have := World.block_lt_of_cell? _ _ hw1512_0;first | rwa [add_block] at this | exact this) GW1516.out) | (rw [add_block];exact Nat.ne_of_lt (Nat.lt_of_lt_of_le (by have := World.block_lt_of_cell? _ _ hw1512_0;first | rwa [add_block] at this | exact this) GW1516.out)) | (show (Addr.add _ _).block ≠ _;rw [add_block];exact Nat.ne_of_lt (Nat.lt_of_lt_of_le (by have := World.block_lt_of_cell? _ _ hw1512_0;first | rwa [add_block] at this | exact this) GW1516.out)) | (dsimp only;exact Nat.ne_of_lt (Nat.lt_of_lt_of_le (by have := World.block_lt_of_cell? _ _ hw1512_0;first | rwa [add_block] at this | exact this) GW1516.out))) _).trans (hHeld.2.2.1)))),((cell_far (p := ⟨gb1516,_,none⟩) (by first | exact Nat.ne_of_lt (Nat.lt_of_lt_of_le (by have := World.block_lt_of_cell? _ _ hw1512_1;first | rwa [add_block] at this | exact this) GW1516.out) | (rw [add_block];exact Nat.ne_of_lt (Nat.lt_of_lt_of_le (by have := World.block_lt_of_cell? _ _ hw1512_1;first | rwa [add_block] at this | exact this) GW1516.out)) | (show (Addr.add _ _).block ≠ _;rw [add_block];exact Nat.ne_of_lt (Nat.lt_of_lt_of_le (by have := World.block_lt_of_cell? _ _ hw1512_1;first | rwa [add_block] at this | exact this) GW1516.out)) | (dsimp only;exact Nat.ne_of_lt (Nat.lt_of_lt_of_le (by have := World.block_lt_of_cell? _ _ hw1512_1;first | rwa [add_block] at this | exact this) GW1516.out))) _).trans (((cell_far (p := ⟨gb1516,_,none⟩) (by first | exact Nat.ne_of_lt (Nat.lt_of_lt_of_le (by have := World.block_lt_of_cell? _ _ hw1512_1;first | rwa [add_block] at this | exact this) GW1516.out) | (rw [add_block];exact Nat.ne_of_lt (Nat.lt_of_lt_of_le (by have := World.block_lt_of_cell? _ _ hw1512_1;first | rwa [add_block] at this | exact this) GW1516.out)) | (show (Addr.add _ _).block ≠ _;rw [add_block];exact Nat.ne_of_lt (Nat.lt_of_lt_of_le (by have := World.block_lt_of_cell? _ _ hw1512_1;first | rwa [add_block] at this | exact this) GW1516.out)) | (dsimp only;exact Nat.ne_of_lt (Nat.lt_of_lt_of_le (by have := World.block_lt_of_cell? _ _ hw1512_1;first | rwa [add_block] at this | exact this) GW1516.out))) _).trans (hHeld.2.2.2))))⟩ (fun hHeld => ?_)
                 clear hK K
                 refine pure_ (i := 14) (N := some 9) (v := ?_) (a' := ?_) #[true,true,true,true,true,true,true,true,true,true,true,true,true,true,true] rfl rfl (any_of HT_.out (by kernel_rfl)) (fun _ _ _ h => h) (Or.inl ⟨by rfl,?_⟩) ?_ ?_
                 rotate_left
                 · intro w'
                   go_simp
                   with_reducible rfl
                 rotate_left
                 · simp only [Act.put,List.setIfInBounds_toArray,List.set_cons_zero,List.set_cons_succ,i64_w,i32_w]
                   rfl
                 refine done_ (done_of HT_.out (by kernel_rfl)) ?_
                 try go_wp2
                 go_ret2
                 exact ⟨_,by first | rfl | (simp [errW_none,errW_some] <;> rfl) | (simp [*,errW_none,errW_some] <;> rfl),by first | exact Kd.R_nil _ _ _ _ _ | exact Kd.N_nil _ _ _ _ _ | exact Kd.V_nil _ _ _ _ _ | exact Kd.Q_nil _ _ _ _ _ | exact Kd.S_nil _ _ _ _ _,by repeat (first | (with_reducible first | exact HB.out | apply below_alloc | apply pw_below_drewN | apply below_drew1 | refine below_set ?_ GE1516.out) | exact HB.out)⟩
             · rw [if_neg c9] at H
               exact absurd H (by simp)
           · rw [if_neg c8] at H
             exact absurd H (by simp)
         · rw [if_neg c7] at H
           exact absurd H (by simp)
       · rw [if_neg c6] at H
         have c6b0 : decide (x18_1 < (l0.length : Int)) = false := decide_eq_false c6
         clear c6
         simp only [Option.some.injEq,Prod.mk.injEq] at H
         obtain ⟨rfl,rfl⟩ := H
         go_wp2
         go_ret2
         exact ⟨_,by first | rfl | (simp [errW_none,errW_some] <;> rfl) | (simp [*,errW_none,errW_some] <;> rfl),by (with_reducible repeat (first | apply Kd.R_alloc | apply Kd.R_drewN | apply Kd.R_drew));exact HO_6.out,by repeat (first | (with_reducible first | exact HB.out | apply below_alloc | apply pw_below_drewN | apply below_drew1) | exact HB.out)⟩
 · rw [if_neg c3] at H
   have c3b0 : ((l0.length : Int) == (l1.length : Int)) = false := beq_eq_false_iff_ne.mpr c3
   have c3b1 : ((l0.length : Int) != (l1.length : Int)) = true := bne_iff_ne.mpr c3
   have c3b2 : (l0.length == l1.length) = false := by first | simpa using c3 | (simp at c3 ⊢;omega)
   simp only [Option.some.injEq,Prod.mk.injEq] at H
   obtain ⟨rfl,rfl⟩ := H
   go_enter Try.func68,Try.ntmps68
   go_wp2
   go_ret2
   exact ⟨_,by first | rfl | (simp [errW_none,errW_some] <;> rfl) | (simp [*,errW_none,errW_some] <;> rfl),by first | exact Kd.R_nil _ _ _ _ _ | exact Kd.N_nil _ _ _ _ _ | exact Kd.V_nil _ _ _ _ _ | exact Kd.Q_nil _ _ _ _ _ | exact Kd.S_nil _ _ _ _ _,by repeat (first | (with_reducible first | exact HB.out | apply below_alloc | apply pw_below_drewN | apply below_drew1) | exact HB.out)⟩

end Go.Proofs.Ytohngimlmcdiiaa.Q
