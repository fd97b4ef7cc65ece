/- The machine side of FnExactCandsOf: what each Go function that it reaches comes to. Conditions: none. -/
import Derived.Test.YtiacoiiapmfaeaaQFnExactCandsOfx0
import Derived.Test.YtiacoiiapmfaeaaQFnExactCandsOfx1
namespace Go.Proofs.Ytiacoiiapmfaeaa.QFnExactCandsOf
open Go.RowKit Go.Proofs.YtiacoiiapmfaeaaW.PrintWords Go.Proofs.YtiacoiiapmfaeaaW.PrintLast Go.Proofs.YtiacoiiapmfaeaaW.PrintMore
attribute [local go_sem] max2_int min2_int max_two min_two max_three min_three max_four min_four   -- for this text's walks alone
set_option linter.unusedVariables false
set_option linter.unusedSimpArgs false

/-! ### spec_Prefix: function 66 -/
theorem spec_Prefix.cells2 {w : World} {g : Nat} {t : TypeId} {a0 a1 : Value} (h : w.heap[g]? = some (.cells #[a0,a1] t (0,0))) : w.cell? ⟨g,0,none⟩ = some a0 ∧ w.cell? ⟨g,1,none⟩ = some a1 ∧ w.frozen? ⟨g,0,none⟩ = false ∧ w.frozen? ⟨g,1,none⟩ = false := ⟨(blk_cell h 0).trans rfl,(blk_cell h 1).trans rfl,blk_frozen h 0,blk_frozen h 1⟩
def spec_Prefix.l0 : Nat → List (S87) → List (S87) → Int → Int → Int → Option ((List (S87)) × Bool)
  | 0,_,_,_,_,_ => none
  | k + 1,x0,x4,x6,x114000,x114001 => if x6 < (x0.length : Int) then (if 0 ≤ x6 then ((spec_l13Add.f x114000 x114001 ((rd_T87 x0 x6).f0) ((rd_T87 x0 x6).f1)).bind fun bt115 => (if bt115.2.2 = true then (if x4.length < 8796093022208 then (spec_Prefix.l0 k x0 (x4 ++ [(⟨bt115.1,bt115.2.1⟩ : S87)]) (wrap64 (x6 + 1)) bt115.1 bt115.2.1) else (none)) else (some ((([] : List (S87))),false)))) else (none)) else (some (x4,true))
def spec_Prefix.f (k : Nat) (l0 : List (S87)) : Option ((List (S87)) × Bool) := spec_Prefix.l0 k l0 (([] : List (S87))) 0 0 0
theorem spec_Prefix.mono_l : ∀ k,(∀ y0 y1 y2 y3 y4,LeO (spec_Prefix.l0 k y0 y1 y2 y3 y4) (spec_Prefix.l0 (k + 1) y0 y1 y2 y3 y4))
  | 0 => fun _ _ _ _ _ r h => by simp [spec_Prefix.l0] at h
  | k + 1 => by
    have ih0 := spec_Prefix.mono_l k
    · intro y0 y1 y2 y3 y4
      unfold spec_Prefix.l0
      repeat' first
      | (with_reducible exact ih0 _ _ _ _ _)
      | (with_reducible exact LeO.refl _)
      | (with_reducible exact LeO.none _)
      | (with_reducible refine LeO.ite ?_ ?_)
      | (with_reducible refine LeO.bind ?_ (fun _ => ?_))
      | exact ih0 _ _ _ _ _
      | exact LeO.none _
      | refine LeO.ite ?_ ?_
      | refine LeO.bind ?_ (fun _ => ?_)
theorem spec_Prefix.mono : ∀ a0 k,LeO (spec_Prefix.f k a0) (spec_Prefix.f (k + 1) a0) := by
  intro a0 k
  have ih0 := spec_Prefix.mono_l k
  unfold spec_Prefix.f
  repeat' first
      | (with_reducible exact ih0 _ _ _ _ _)
      | (with_reducible exact LeO.refl _)
      | (with_reducible exact LeO.none _)
      | (with_reducible refine LeO.ite ?_ ?_)
      | (with_reducible refine LeO.bind ?_ (fun _ => ?_))
      | exact ih0 _ _ _ _ _
      | exact LeO.none _
      | refine LeO.ite ?_ ?_
      | refine LeO.bind ?_ (fun _ => ?_)
def spec_Prefix.T6 : Bool × List (List Nat × List Nat) := (true,[([],[]),([],[]),([],[]),([1,2],[1,2]),([3],[3]),([0,4],[0,4]),([5],[5]),([6],[6]),([6],[6]),([],[]),([9,7,5,0,1,2,3,4,5,6,7,9],[7,9]),([8,10,0,1,2,3,4,5,6,7,8,9,10],[8])])
def spec_Prefix.B6 : List Nat := [0,0,0,6,14,31,63,127,127,0,767,2047]
theorem spec_Prefix.tab6 : rtab .any (opsOf Try.f66 6) = spec_Prefix.T6 := by kernel_rfl
theorem spec_Prefix.bits6 : waitsOk spec_Prefix.T6.2 spec_Prefix.B6 = true := by kernel_rfl
set_option maxHeartbeats 8000000 in
set_option maxRecDepth 100000 in
theorem spec_Prefix.calls (k : Nat) (A0 : Option Addr) (c0 : Nat) (l0 : List (S87)) (r1 : List (S87)) (r2 : Bool) (w : World) (hr0 : Kd.C k87 w A0 l0.length l0) (hc0 : l0.length ≤ c0) (h : spec_Prefix.f k l0 = some (r1,r2)) :
    Calls Try.prog 66 #[.slice A0 l0.length c0] w fun e w' => ∃ v0_ : Value,e = .returned (.tuple #[v0_,.bool r2]) ∧ Kd.R k87 87 w' w.heap.size (fun _ => True) v0_ r1 ∧ Below w.heap.size w w' := by
  have hu87 := Try.underlying87
  have HR0 := Aside0.mk hr0
  have HC0 := Aside0.mk hc0
  clear hr0 hc0
  have HB := Aside0.mk (Below.refl w.heap.size w)
  have H : (spec_Prefix.l0 k l0 (([] : List (S87))) 0 0 0) = some (r1,r2) := h
  clear h
  obtain ⟨y110,hy110⟩ : ∃ y_ : List (S87),y_ = (([] : List (S87))) := ⟨_,rfl⟩
  replace H : (spec_Prefix.l0 k l0 y110 0 0 0) = some (r1,r2) := by first | (rw [hy110];with_reducible exact H) | (have H2_ := (Option.bind_some _ _).symm.trans H;rw [hy110];with_reducible exact H2_) | (have H2_ := (Option.bind_some _ _).symm.trans H;with_reducible exact H2_) | with_reducible exact H | (rw [hy110];exact H) | exact H
  have Ny110 := Aside0.mk hy110
  clear hy110
  have H' := Aside0.mk H
  clear H
  go_enter Try.func66,Try.ntmps66
  go_wp2_with (first | ((with_reducible refine gate_dst (N := 9) rfl ?_);refine Kd.R_lit k87 _ 87 ?hg (N := 9) ?hd (xs := ([] : List (S87))) (inner := []) (ok := fun _ => True) (okp := fun _ => True) ?hr ?hp (fun _ hk => hk) trivial (Below.refl _ _) (Nat.le_refl _) (by simp) ?_;(case hd => rfl);(case hg => rfl);(case hr => first | (go_simp;done) | (go_simp;rfl));(case hp => exact (Reps.none _ _));intro v111 w2 ho3 hb hg_ hnew_;clear hg_ hnew_;(first | rw [← Ny110.out] at ho3 | (simp only [Int.reduceToNat] at ho3;rw [← Ny110.out] at ho3));have n0_ := Aside0.mk (Kd.R_lower ho3 (below_size (by repeat (first | (with_reducible first | exact HB.out | apply below_alloc | apply pw_below_drewN | apply below_drew1) | exact HB.out))));have n1_ := Aside0.mk (below_step (by repeat (first | (with_reducible first | exact HB.out | apply below_alloc | apply pw_below_drewN | apply below_drew1) | exact HB.out)) hb);clear HB;have HO112 := n0_;have HB := n1_;clear n0_ n1_;clear hb ho3) | ((with_reducible refine gate_dst (N := 5) rfl ?_);refine box_event ?hg (N := 5) ?hd (cs := #[.int .i64 0,.int .i64 0]) (t := 87) ?hr ?_;(case hd => rfl);(case hg => rfl);(case hr => first | (go_simp;done) | (go_simp;rfl));intro gb113 hg w4 hbox hb;have n0_ := Aside0.mk (Kd.R_below (Kd.R_elderB (by (with_reducible repeat (first | apply Kd.R_alloc | apply Kd.R_drewN | apply Kd.R_drew));exact HO112.out) gb113 (Nat.le_of_eq hg.symm)) hb);have n1_ := Aside0.mk (below_step (by repeat (first | (with_reducible first | exact HB.out | apply below_alloc | apply pw_below_drewN | apply below_drew1) | exact HB.out)) hb);have n2_ := Aside0.mk (hbox);have n3_ := Aside0.mk ((by rw [hg];exact (below_size (by repeat (first | (with_reducible first | exact HB.out | apply below_alloc | apply pw_below_drewN | apply below_drew1) | exact HB.out))) : w.heap.size ≤ gb113));have n4_ := Aside0.mk ((by rw [hg];exact (below_size (by repeat (first | (with_reducible first | exact HB.out | apply below_alloc | apply pw_below_drewN | apply below_drew1) | exact HB.out))) : w.heap.size ≤ gb113));clear HO112;clear HB;have HO112 := n0_;have HB := n1_;have BK113 := n2_;have GW113 := n3_;have GE113 := n4_;clear n0_ n1_ n2_ n3_ n4_;clear hb hbox hg;obtain ⟨hcz5_0,hcz5_1,hfz5_0,hfz5_1⟩ := spec_Prefix.cells2 BK113.out))
  go_loopg [4,6] k (fun kq v4 v6 w' => ∃ (x4_1 : List (S87)) (x6_1 : Int) (x114000_1 : Int) (x114001_1 : Int),v6 = .int .i64 x6_1 ∧ Aside0 (spec_Prefix.l0 kq l0 x4_1 x6_1 x114000_1 x114001_1 = some (r1,r2)) ∧ Aside0 (kq ≤ k) ∧ Aside0 (Kd.R k87 87 w' w.heap.size (fun k_ => k_ ≠ gb113) v4 x4_1) ∧ Aside0 (w'.heap[gb113]? = some (.cells #[.int .i64 x114000_1,.int .i64 x114001_1] 87 (0,0))) ∧ Aside0 (Below w.heap.size w w'))
  case atStart => exact ⟨(y110),(0),(0),(0),(by first | rfl | (simp;done) | (simp [*];done)),H',⟨Nat.le_refl _⟩,⟨by (with_reducible repeat (first | apply Kd.R_alloc | apply Kd.R_drewN | apply Kd.R_drew));exact Kd.R_mono (Kd.R_far (p := ⟨gb113,1,none⟩) (Kd.R_far (p := ⟨gb113,0,none⟩) (Kd.R_mono HO112.out (fun k_ hk => (⟨hk,hk.2⟩ : _ ∧ k_ ≠ gb113))) (fun _ hk => hk.2) (.int .i64 0)) (fun _ hk => hk.2) (.int .i64 0)) (fun _ hk => hk.1.2)⟩,⟨by refine bP ?_;refine blk_put (cs := #[.int .i64 0,.int .i64 0]) ?_ 1 _ rfl;refine bP ?_;refine blk_put (cs := #[.int .i64 0,.int .i64 0]) ?_ 0 _ rfl;refine bP ?_;exact BK113.out⟩,⟨by repeat (first | (with_reducible first | exact HB.out | apply below_alloc | apply pw_below_drewN | apply below_drew1 | refine below_set ?_ GE113.out) | exact HB.out)⟩⟩
  case round =>
    clear H'
    try clear p2
    try clear hcz5_0
    try clear hcz5_1
    try clear hfz5_0
    try clear hfz5_1
    obtain ⟨x4_1,x6_1,x114000_1,x114001_1,rfl,HA,HK1,HO_4,BK113,HB⟩ := hrel
    cases gk with
    | zero => exact absurd HA.out (by simp [spec_Prefix.l0])
    | succ k1 =>
      have H := HA.out
      clear HA
      simp only [spec_Prefix.l0] at H
      by_cases c6 : x6_1 < (l0.length : Int)
      · rw [if_pos c6] at H
        have c6b0 : decide (x6_1 < (l0.length : Int)) = true := decide_eq_true c6
        clear c6
        by_cases c7 : 0 ≤ x6_1
        · rw [if_pos c7] at H
          have c7b0 : decide (0 ≤ x6_1) = true := decide_eq_true c7
          clear c7
          replace H := Option.bind_eq_some_iff.mp H
          obtain ⟨⟨t115,t116,t117⟩,A80,H⟩ := H
          replace H : (if t117 = true then (if x4_1.length < 8796093022208 then (spec_Prefix.l0 k1 l0 (x4_1 ++ [(⟨t115,t116⟩ : S87)]) (wrap64 (x6_1 + 1)) t115 t116) else (none)) else (some ((([] : List (S87))),false))) = some (r1,r2) := H
          have A8 := Aside0.mk A80
          clear A80
          by_cases c9 : t117 = true
          · subst c9
            have H1 : (if x4_1.length < 8796093022208 then (spec_Prefix.l0 k1 l0 (x4_1 ++ [(⟨t115,t116⟩ : S87)]) (wrap64 (x6_1 + 1)) t115 t116) else (none)) = some (r1,r2) := by rw [if_pos rfl] at H;exact H
            clear H
            have H := H1
            clear H1
            by_cases c10 : x4_1.length < 8796093022208
            · rw [if_pos c10] at H
              have LMc10 := Aside0.mk c10
              clear c10
              obtain ⟨y119,hy119⟩ : ∃ y_ : List (S87),y_ = (x4_1 ++ [(⟨t115,t116⟩ : S87)]) := ⟨_,rfl⟩
              replace H : (spec_Prefix.l0 k1 l0 y119 (wrap64 (x6_1 + 1)) t115 t116) = some (r1,r2) := by first | (rw [hy119];with_reducible exact H) | (have H2_ := (Option.bind_some _ _).symm.trans H;rw [hy119];with_reducible exact H2_) | (have H2_ := (Option.bind_some _ _).symm.trans H;with_reducible exact H2_) | with_reducible exact H | (rw [hy119];exact H) | exact H
              have Ny119 := Aside0.mk hy119
              clear hy119
              have H' := Aside0.mk H
              clear H
              try go_wp2
              have n0_ := Aside0.mk (Kd.R_drew HO_4.out)
              have n1_ := Aside0.mk (blk_drew BK113.out)
              have n2_ := Aside0.mk (below_drew1 HB.out)
              clear HO_4
              clear BK113
              clear HB
              have HO_4 := n0_
              have BK113 := n1_
              have HB := n2_
              clear n0_ n1_ n2_
              have p114 : 0 ≤ (x6_1 : Int) := of_decide_eq_true (by first | (with_reducible assumption) | assumption)
              have q114 : x6_1 < (l0.length : Int) := of_decide_eq_true (by first | (with_reducible assumption) | assumption)
              obtain ⟨ad114,e114,hx114_0,hx114_1⟩ := at_T87 HR0.out x6_1 p114 q114
              have hw114_1 := hx114_1
              have hw114_0 := hx114_0
              cases e114
              replace hx114_0 := (HB.out.cell (World.block_lt_of_cell? w _ hx114_0)).trans hx114_0
              replace hx114_1 := (HB.out.cell (World.block_lt_of_cell? w _ hx114_1)).trans hx114_1
              replace p114 := eq_true p114
              replace q114 := eq_true q114
              refine start_ (n := 12) (S := fun w' => w'.cell? ⟨gb113,0,none⟩ = some (.int .i64 x114000_1) ∧ w'.cell? ⟨gb113,1,none⟩ = some (.int .i64 x114001_1) ∧ w'.cell? (ad114.add ((x6_1).toNat * 2)) = some (.int .i64 ((rd_T87 l0 x6_1).f0)) ∧ w'.cell? ⟨(ad114.add ((x6_1).toNat * 2)).block,(ad114.add ((x6_1).toNat * 2)).off + 1,none⟩ = some (.int .i64 ((rd_T87 l0 x6_1).f1))) (ds := []) #[false,false,false,false,false,false,false,false,false,false,false,false] (by kernel_rfl) rfl rfl ⟨(blk_cell BK113.out 0).trans rfl,(blk_cell BK113.out 1).trans rfl,((HB.out.cell (World.block_lt_of_cell? w _ hw114_0)).trans hw114_0),((HB.out.cell (World.block_lt_of_cell? w _ hw114_1)).trans hw114_1)⟩ (fun hHeld => ?_);refine with_tabW spec_Prefix.tab6 spec_Prefix.bits6 (fun HT_ HW_ => ?_)
              generalize wr.drew = w11 at HO_4 BK113 HB hx114_0 hx114_1 hHeld ⊢
              refine pure_ (i := 1) (N := some 19) (v := ?_) (a' := ?_) #[false,true,false,false,false,false,false,false,false,false,false,false] rfl rfl (any_of HT_.out (by kernel_rfl)) (fun _ _ _ h => h) (Or.inl ⟨by rfl,?_⟩) ?_ ?_
              rotate_left
              · intro w'
                go_simp
                with_reducible rfl
              rotate_left
              · simp only [Act.put,List.setIfInBounds_toArray,List.set_cons_zero,List.set_cons_succ,i64_w,i32_w]
                rfl
              refine pure_ (i := 2) (N := some 20) (v := ?_) (a' := ?_) #[false,true,true,false,false,false,false,false,false,false,false,false] rfl rfl (any_of HT_.out (by kernel_rfl)) (fun _ _ _ h => h) (Or.inl ⟨by rfl,?_⟩) ?_ ?_
              rotate_left
              · intro w'
                go_simp
                with_reducible rfl
              rotate_left
              · simp only [Act.put,List.setIfInBounds_toArray,List.set_cons_zero,List.set_cons_succ,i64_w,i32_w]
                rfl
              refine pure_ (i := 3) (N := some 21) (v := ?_) (a' := ?_) #[false,true,true,true,false,false,false,false,false,false,false,false] rfl rfl (any_of HT_.out (by kernel_rfl)) (fun _ _ _ h => h) (Or.inl ⟨by rfl,?_⟩) ?_ ?_
              rotate_left
              · intro w'
                go_simp
                with_reducible rfl
              rotate_left
              · simp only [Act.put,List.setIfInBounds_toArray,List.set_cons_zero,List.set_cons_succ,i64_w,i32_w]
                rfl
              refine take_ (i := 0) (N := some 18) (v := ?_) (a' := ?_) #[true,true,true,true,false,false,false,false,false,false,false,false] rfl rfl (take_ofW HT_.out HW_.out (by kernel_rfl)) (fun _ _ _ h => h) (Or.inl ⟨by rfl,?_⟩) hHeld ?_ ?_
              rotate_left
              · rintro w' ⟨s0,s1,s2,s3⟩
                go_simp
                with_reducible rfl
              rotate_left
              · simp only [Act.put,List.setIfInBounds_toArray,List.set_cons_zero,List.set_cons_succ,i64_w,i32_w]
                rfl
              refine take_ (i := 4) (N := some 22) (v := ?_) (a' := ?_) #[true,true,true,true,true,false,false,false,false,false,false,false] rfl rfl (take_ofW HT_.out HW_.out (by kernel_rfl)) (fun _ _ _ h => h) (Or.inl ⟨by rfl,?_⟩) hHeld ?_ ?_
              rotate_left
              · rintro w' ⟨s0,s1,s2,s3⟩
                go_simp
                with_reducible rfl
              rotate_left
              · simp only [Act.put,List.setIfInBounds_toArray,List.set_cons_zero,List.set_cons_succ,i64_w,i32_w]
                rfl
              refine join_ (σ := Nat) 2 #[true,true,true,true,true,true,true,true,true,true,false,false] (fun s_ => [(23,.tuple #[.agg #[.int .i64 t115,.int .i64 t116],.bool true]),(7,.pointer (some ⟨s_,0,none⟩)),(17,.tuple #[.agg #[.int .i64 t115,.int .i64 t116],.bool true]),(24,.agg #[.int .i64 t115,.int .i64 t116]),(25,.bool true)]) (fun s_ w' => (w'.cell? ⟨gb113,0,none⟩ = some (.int .i64 x114000_1) ∧ w'.cell? ⟨gb113,1,none⟩ = some (.int .i64 x114001_1) ∧ w'.cell? (ad114.add ((x6_1).toNat * 2)) = some (.int .i64 ((rd_T87 l0 x6_1).f0)) ∧ w'.cell? ⟨(ad114.add ((x6_1).toNat * 2)).block,(ad114.add ((x6_1).toNat * 2)).off + 1,none⟩ = some (.int .i64 ((rd_T87 l0 x6_1).f1))) ∧ (Kd.R k87 87 w' w.heap.size (fun k_ => k_ ≠ gb113 ∧ k_ ≠ s_) u4 x4_1) ∧ (w'.heap[gb113]? = some (.cells #[.int .i64 x114000_1,.int .i64 x114001_1] 87 (0,0))) ∧ (w'.heap[s_]? = some (.cells #[.int .i64 0,.int .i64 0] 87 (0,0))) ∧ (w.heap.size ≤ s_) ∧ (w.heap.size ≤ s_) ∧ (gb113 ≠ s_) ∧ (s_ ≠ gb113) ∧ (Below w.heap.size w w')) ?_ ?_
              rotate_left
              · intro hCont
                refine two_ (i := 5) (j := 9) (Ni := some 23) (Nj := some 7) #[true,true,true,true,true,true,false,false,false,false,false,false] #[true,true,true,true,true,false,false,false,false,true,false,false] rfl rfl rfl rfl (two_of HT_.out (by kernel_rfl)) (by decide) (by decide) (fun K hK => ?_) (fun K hK => ?_)
                · skip
                  refine goes_ Try.func85 (by kernel_rfl) rfl #[.agg #[.int .i64 x114000_1,.int .i64 x114001_1],.agg #[.int .i64 ((rd_T87 l0 x6_1).f0),.int .i64 ((rd_T87 l0 x6_1).f1)]] (by rfl) rfl rfl (by (try simp only [List.map_toArray,List.map_cons,List.map_nil]);first | done | rfl | (simp only [List.length_drop,List.length_take];rfl)) ?_
                  with_reducible refine (spec_l13Add.calls x114000_1 x114001_1 ((rd_T87 l0 x6_1).f0) ((rd_T87 l0 x6_1).f1) t115 t116 true _ A8.out).mono ?_
                  rintro e w12 ⟨rfl,hb⟩
                  refine ⟨_,rfl,?_⟩
                  have n0_ := Aside0.mk (Kd.R_below (by (with_reducible repeat (first | apply Kd.R_alloc | apply Kd.R_drewN | apply Kd.R_drew));exact HO_4.out) hb)
                  have n1_ := Aside0.mk (blk_below (g := gb113) (o := .cells #[.int .i64 x114000_1,.int .i64 x114001_1] 87 (0,0)) (by refine bP ?_;exact BK113.out) hb)
                  have n2_ := Aside0.mk (below_step (by repeat (first | (with_reducible first | exact HB.out | apply below_alloc | apply pw_below_drewN | apply below_drew1 | refine below_set ?_ GE113.out) | exact HB.out)) hb)
                  clear HO_4
                  clear BK113
                  clear HB
                  have HO_4 := n0_
                  have BK113 := n1_
                  have HB := n2_
                  clear n0_ n1_ n2_
                  (try clear hb)
                  (try clear hb2)
                  (try clear hk)
                  (try clear hi)
                  refine hK.out _ _ ⟨(blk_cell BK113.out 0).trans rfl,(blk_cell BK113.out 1).trans rfl,((HB.out.cell (World.block_lt_of_cell? w _ hw114_0)).trans hw114_0),((HB.out.cell (World.block_lt_of_cell? w _ hw114_1)).trans hw114_1)⟩ (fun hHeld => ?_)
                  clear hK K
                  refine norm_ (a' := ?_) ?_ ?_
                  rotate_left
                  · show Act.put _ (some 23) _ = _
                    simp only [Act.put,List.setIfInBounds_toArray,List.set_cons_zero,List.set_cons_succ,i64_w,i32_w]
                    rfl
                  refine pure_ (i := 6) (N := some 17) (v := ?_) (a' := ?_) #[true,true,true,true,true,true,true,false,false,false,false,false] rfl rfl (any_of HT_.out (by kernel_rfl)) (fun _ _ _ h => h) (Or.inl ⟨by rfl,?_⟩) ?_ ?_
                  rotate_left
                  · intro w'
                    go_simp
                    with_reducible rfl
                  rotate_left
                  · simp only [Act.put,List.setIfInBounds_toArray,List.set_cons_zero,List.set_cons_succ,i64_w,i32_w]
                    rfl
                  refine pure_ (i := 7) (N := some 24) (v := ?_) (a' := ?_) #[true,true,true,true,true,true,true,true,false,false,false,false] rfl rfl (any_of HT_.out (by kernel_rfl)) (fun _ _ _ h => h) (Or.inl ⟨by rfl,?_⟩) ?_ ?_
                  rotate_left
                  · intro w'
                    go_simp
                    with_reducible rfl
                  rotate_left
                  · simp only [Act.put,List.setIfInBounds_toArray,List.set_cons_zero,List.set_cons_succ,i64_w,i32_w]
                    rfl
                  refine pure_ (i := 8) (N := some 25) (v := ?_) (a' := ?_) #[true,true,true,true,true,true,true,true,true,false,false,false] rfl rfl (any_of HT_.out (by kernel_rfl)) (fun _ _ _ h => h) (Or.inl ⟨by rfl,?_⟩) ?_ ?_
                  rotate_left
                  · intro w'
                    go_simp
                    with_reducible rfl
                  rotate_left
                  · simp only [Act.put,List.setIfInBounds_toArray,List.set_cons_zero,List.set_cons_succ,i64_w,i32_w]
                    rfl
                  refine one_ (i := 9) (N := some 7) #[true,true,true,true,true,true,true,true,true,true,false,false] rfl rfl (one_of HT_.out (by kernel_rfl)) (by decide) (fun K hK => ?_)
                  refine box_step ?hg (N := 7) ?hd (cs := #[.int .i64 0,.int .i64 0]) (t := 87) ?hr ?_;(case hd => rfl);(case hg => rfl);(case hr => first | (go_simp;done) | (go_simp;rfl))
                  intro gb118 hg w13 hbox hb
                  have n0_ := Aside0.mk (Kd.R_below (Kd.R_elderB (by (with_reducible repeat (first | apply Kd.R_alloc | apply Kd.R_drewN | apply Kd.R_drew));exact HO_4.out) gb118 (Nat.le_of_eq hg.symm)) hb)
                  have n1_ := Aside0.mk (blk_below (g := gb113) (o := .cells #[.int .i64 x114000_1,.int .i64 x114001_1] 87 (0,0)) (by refine bP ?_;exact BK113.out) hb)
                  have n2_ := Aside0.mk (below_step (by repeat (first | (with_reducible first | exact HB.out | apply below_alloc | apply pw_below_drewN | apply below_drew1 | refine below_set ?_ GE113.out) | exact HB.out)) hb)
                  have n3_ := Aside0.mk (hbox)
                  have n4_ := Aside0.mk ((by rw [hg];exact (below_size (by repeat (first | (with_reducible first | exact HB.out | apply below_alloc | apply pw_below_drewN | apply below_drew1 | refine below_set ?_ GE113.out) | exact HB.out))) : w.heap.size ≤ gb118))
                  have n5_ := Aside0.mk ((by rw [hg];exact (below_size (by repeat (first | (with_reducible first | exact HB.out | apply below_alloc | apply pw_below_drewN | apply below_drew1 | refine below_set ?_ GE113.out) | exact HB.out))) : w.heap.size ≤ gb118))
                  have n6_ := Aside0.mk ((by rw [hg];exact Nat.ne_of_lt (blk_lt (g := gb113) (o := .cells #[.int .i64 x114000_1,.int .i64 x114001_1] 87 (0,0)) (by refine bP ?_;exact BK113.out)) : gb113 ≠ gb118))
                  have n7_ := Aside0.mk ((by rw [hg];exact Nat.ne_of_gt (blk_lt (g := gb113) (o := .cells #[.int .i64 x114000_1,.int .i64 x114001_1] 87 (0,0)) (by refine bP ?_;exact BK113.out)) : gb118 ≠ gb113))
                  clear HO_4
                  clear BK113
                  clear HB
                  have HO_4 := n0_
                  have BK113 := n1_
                  have HB := n2_
                  have BK118 := n3_
                  have GW118 := n4_
                  have GE118 := n5_
                  have NB113_118 := n6_
                  have NB118_113 := n7_
                  clear n0_ n1_ n2_ n3_ n4_ n5_ n6_ n7_
                  clear hb hbox hg
                  refine hK.out _ _ ⟨(blk_cell BK113.out 0).trans rfl,(blk_cell BK113.out 1).trans rfl,((HB.out.cell (World.block_lt_of_cell? w _ hw114_0)).trans hw114_0),((HB.out.cell (World.block_lt_of_cell? w _ hw114_1)).trans hw114_1)⟩ (fun hHeld => ?_)
                  clear hK K
                  refine norm_ (a' := ?_) ?_ ?_
                  rotate_left
                  · show Act.put _ (some 7) _ = _
                    simp only [Act.put,List.setIfInBounds_toArray,List.set_cons_zero,List.set_cons_succ,i64_w,i32_w]
                    rfl
                  exact norm_ (by simp only [putAll,Act.put,List.setIfInBounds_toArray,List.set_cons_zero,List.set_cons_succ]) (hCont (gb118) _ ⟨hHeld,(by (with_reducible repeat (first | apply Kd.R_alloc | apply Kd.R_drewN | apply Kd.R_drew));exact HO_4.out),(by refine bP ?_;exact BK113.out),(by refine bP ?_;exact BK118.out),GW118.out,GE118.out,NB113_118.out,NB118_113.out,(by repeat (first | (with_reducible first | exact HB.out | apply below_alloc | apply pw_below_drewN | apply below_drew1 | refine below_set ?_ GE113.out | refine below_set ?_ GE118.out) | exact HB.out))⟩)
                · skip
                  refine box_step ?hg (N := 7) ?hd (cs := #[.int .i64 0,.int .i64 0]) (t := 87) ?hr ?_;(case hd => rfl);(case hg => rfl);(case hr => first | (go_simp;done) | (go_simp;rfl))
                  intro gb118 hg w12 hbox hb
                  have n0_ := Aside0.mk (Kd.R_below (Kd.R_elderB (by (with_reducible repeat (first | apply Kd.R_alloc | apply Kd.R_drewN | apply Kd.R_drew));exact HO_4.out) gb118 (Nat.le_of_eq hg.symm)) hb)
                  have n1_ := Aside0.mk (blk_below (g := gb113) (o := .cells #[.int .i64 x114000_1,.int .i64 x114001_1] 87 (0,0)) (by refine bP ?_;exact BK113.out) hb)
                  have n2_ := Aside0.mk (below_step (by repeat (first | (with_reducible first | exact HB.out | apply below_alloc | apply pw_below_drewN | apply below_drew1 | refine below_set ?_ GE113.out) | exact HB.out)) hb)
                  have n3_ := Aside0.mk (hbox)
                  have n4_ := Aside0.mk ((by rw [hg];exact (below_size (by repeat (first | (with_reducible first | exact HB.out | apply below_alloc | apply pw_below_drewN | apply below_drew1 | refine below_set ?_ GE113.out) | exact HB.out))) : w.heap.size ≤ gb118))
                  have n5_ := Aside0.mk ((by rw [hg];exact (below_size (by repeat (first | (with_reducible first | exact HB.out | apply below_alloc | apply pw_below_drewN | apply below_drew1 | refine below_set ?_ GE113.out) | exact HB.out))) : w.heap.size ≤ gb118))
                  have n6_ := Aside0.mk ((by rw [hg];exact Nat.ne_of_lt (blk_lt (g := gb113) (o := .cells #[.int .i64 x114000_1,.int .i64 x114001_1] 87 (0,0)) (by refine bP ?_;exact BK113.out)) : gb113 ≠ gb118))
                  have n7_ := Aside0.mk ((by rw [hg];exact Nat.ne_of_gt (blk_lt (g := gb113) (o := .cells #[.int .i64 x114000_1,.int .i64 x114001_1] 87 (0,0)) (by refine bP ?_;exact BK113.out)) : gb118 ≠ gb113))
                  clear HO_4
                  clear BK113
                  clear HB
                  have HO_4 := n0_
                  have BK113 := n1_
                  have HB := n2_
                  have BK118 := n3_
                  have GW118 := n4_
                  have GE118 := n5_
                  have NB113_118 := n6_
                  have NB118_113 := n7_
                  clear n0_ n1_ n2_ n3_ n4_ n5_ n6_ n7_
                  clear hb hbox hg
                  refine hK.out _ _ ⟨(blk_cell BK113.out 0).trans rfl,(blk_cell BK113.out 1).trans rfl,((HB.out.cell (World.block_lt_of_cell? w _ hw114_0)).trans hw114_0),((HB.out.cell (World.block_lt_of_cell? w _ hw114_1)).trans hw114_1)⟩ (fun hHeld => ?_)
                  clear hK K
                  refine norm_ (a' := ?_) ?_ ?_
                  rotate_left
                  · show Act.put _ (some 7) _ = _
                    simp only [Act.put,List.setIfInBounds_toArray,List.set_cons_zero,List.set_cons_succ,i64_w,i32_w]
                    rfl
                  refine one_ (i := 5) (N := some 23) #[true,true,true,true,true,true,false,false,false,true,false,false] rfl rfl (one_of HT_.out (by kernel_rfl)) (by decide) (fun K hK => ?_)
                  refine goes_ Try.func85 (by kernel_rfl) rfl #[.agg #[.int .i64 x114000_1,.int .i64 x114001_1],.agg #[.int .i64 ((rd_T87 l0 x6_1).f0),.int .i64 ((rd_T87 l0 x6_1).f1)]] (by rfl) rfl rfl (by (try simp only [List.map_toArray,List.map_cons,List.map_nil]);first | done | rfl | (simp only [List.length_drop,List.length_take];rfl)) ?_
                  with_reducible refine (spec_l13Add.calls x114000_1 x114001_1 ((rd_T87 l0 x6_1).f0) ((rd_T87 l0 x6_1).f1) t115 t116 true _ A8.out).mono ?_
                  rintro e w13 ⟨rfl,hb⟩
                  refine ⟨_,rfl,?_⟩
                  have n0_ := Aside0.mk (Kd.R_below (by (with_reducible repeat (first | apply Kd.R_alloc | apply Kd.R_drewN | apply Kd.R_drew));exact HO_4.out) hb)
                  have n1_ := Aside0.mk (blk_below (g := gb113) (o := .cells #[.int .i64 x114000_1,.int .i64 x114001_1] 87 (0,0)) (by refine bP ?_;exact BK113.out) hb)
                  have n2_ := Aside0.mk (blk_below (g := gb118) (o := .cells #[.int .i64 0,.int .i64 0] 87 (0,0)) (by refine bP ?_;exact BK118.out) hb)
                  have n3_ := Aside0.mk (below_step (by repeat (first | (with_reducible first | exact HB.out | apply below_alloc | apply pw_below_drewN | apply below_drew1 | refine below_set ?_ GE113.out | refine below_set ?_ GE118.out) | exact HB.out)) hb)
                  clear HO_4
                  clear BK113
                  clear BK118
                  clear HB
                  have HO_4 := n0_
                  have BK113 := n1_
                  have BK118 := n2_
                  have HB := n3_
                  clear n0_ n1_ n2_ n3_
                  (try clear hb)
                  (try clear hb2)
                  (try clear hk)
                  (try clear hi)
                  refine hK.out _ _ ⟨(blk_cell BK113.out 0).trans rfl,(blk_cell BK113.out 1).trans rfl,((HB.out.cell (World.block_lt_of_cell? w _ hw114_0)).trans hw114_0),((HB.out.cell (World.block_lt_of_cell? w _ hw114_1)).trans hw114_1)⟩ (fun hHeld => ?_)
                  clear hK K
                  refine norm_ (a' := ?_) ?_ ?_
                  rotate_left
                  · show Act.put _ (some 23) _ = _
                    simp only [Act.put,List.setIfInBounds_toArray,List.set_cons_zero,List.set_cons_succ,i64_w,i32_w]
                    rfl
                  refine pure_ (i := 6) (N := some 17) (v := ?_) (a' := ?_) #[true,true,true,true,true,true,true,false,false,true,false,false] rfl rfl (any_of HT_.out (by kernel_rfl)) (fun _ _ _ h => h) (Or.inl ⟨by rfl,?_⟩) ?_ ?_
                  rotate_left
                  · intro w'
                    go_simp
                    with_reducible rfl
                  rotate_left
                  · simp only [Act.put,List.setIfInBounds_toArray,List.set_cons_zero,List.set_cons_succ,i64_w,i32_w]
                    rfl
                  refine pure_ (i := 7) (N := some 24) (v := ?_) (a' := ?_) #[true,true,true,true,true,true,true,true,false,true,false,false] rfl rfl (any_of HT_.out (by kernel_rfl)) (fun _ _ _ h => h) (Or.inl ⟨by rfl,?_⟩) ?_ ?_
                  rotate_left
                  · intro w'
                    go_simp
                    with_reducible rfl
                  rotate_left
                  · simp only [Act.put,List.setIfInBounds_toArray,List.set_cons_zero,List.set_cons_succ,i64_w,i32_w]
                    rfl
                  refine pure_ (i := 8) (N := some 25) (v := ?_) (a' := ?_) #[true,true,true,true,true,true,true,true,true,true,false,false] rfl rfl (any_of HT_.out (by kernel_rfl)) (fun _ _ _ h => h) (Or.inl ⟨by rfl,?_⟩) ?_ ?_
                  rotate_left
                  · intro w'
                    go_simp
                    with_reducible rfl
                  rotate_left
                  · simp only [Act.put,List.setIfInBounds_toArray,List.set_cons_zero,List.set_cons_succ,i64_w,i32_w]
                    rfl
                  exact norm_ (by simp only [putAll,Act.put,List.setIfInBounds_toArray,List.set_cons_zero,List.set_cons_succ]) (hCont (gb118) _ ⟨hHeld,(by (with_reducible repeat (first | apply Kd.R_alloc | apply Kd.R_drewN | apply Kd.R_drew));exact HO_4.out),(by refine bP ?_;exact BK113.out),(by refine bP ?_;exact BK118.out),GW118.out,GE118.out,NB113_118.out,NB118_113.out,(by repeat (first | (with_reducible first | exact HB.out | apply below_alloc | apply pw_below_drewN | apply below_drew1 | refine below_set ?_ GE113.out | refine below_set ?_ GE118.out) | exact HB.out))⟩)
              rintro gb118 w14 ⟨hS_,h0_,h1_,h2_,h3_,h4_,h5_,h6_,h7_⟩
              have n0_ : Aside0 (Kd.R k87 87 w14 w.heap.size (fun k_ => k_ ≠ gb113 ∧ k_ ≠ gb118) u4 x4_1) := ⟨h0_⟩
              have n1_ : Aside0 (w14.heap[gb113]? = some (.cells #[.int .i64 x114000_1,.int .i64 x114001_1] 87 (0,0))) := ⟨h1_⟩
              have n2_ : Aside0 (w14.heap[gb118]? = some (.cells #[.int .i64 0,.int .i64 0] 87 (0,0))) := ⟨h2_⟩
              have n3_ : Aside0 (w.heap.size ≤ gb118) := ⟨h3_⟩
              have n4_ : Aside0 (w.heap.size ≤ gb118) := ⟨h4_⟩
              have n5_ : Aside0 (gb113 ≠ gb118) := ⟨h5_⟩
              have n6_ : Aside0 (gb118 ≠ gb113) := ⟨h6_⟩
              have n7_ : Aside0 (Below w.heap.size w w14) := ⟨h7_⟩
              clear HO_4
              clear BK113
              clear HB
              clear h0_ h1_ h2_ h3_ h4_ h5_ h6_ h7_
              have HO_4 := n0_
              have BK113 := n1_
              have BK118 := n2_
              have GW118 := n3_
              have GE118 := n4_
              have NB113_118 := n5_
              have NB118_113 := n6_
              have HB := n7_
              clear n0_ n1_ n2_ n3_ n4_ n5_ n6_ n7_
              have hHeld : w14.cell? ⟨gb113,0,none⟩ = some (.int .i64 x114000_1) ∧ w14.cell? ⟨gb113,1,none⟩ = some (.int .i64 x114001_1) ∧ w14.cell? (ad114.add ((x6_1).toNat * 2)) = some (.int .i64 ((rd_T87 l0 x6_1).f0)) ∧ w14.cell? ⟨(ad114.add ((x6_1).toNat * 2)).block,(ad114.add ((x6_1).toNat * 2)).off + 1,none⟩ = some (.int .i64 ((rd_T87 l0 x6_1).f1)) := hS_
              refine norm_ (a' := ?_) ?_ ?_
              rotate_left
              · simp only [putAll,Act.put,List.setIfInBounds_toArray,List.set_cons_zero,List.set_cons_succ]
                rfl
              refine one_ (i := 10) (N := none) #[true,true,true,true,true,true,true,true,true,true,true,false] rfl rfl (one_of HT_.out (by kernel_rfl)) (by decide) (fun K hK => ?_)
              have hs15 : w14.cell? ⟨gb118,0,none⟩ = some (.int .i64 0) := (blk_cell BK118.out 0).trans rfl
              have hfs15 := blk_frozen BK118.out 0
              have hns15_0 := NB113_118.out
              have hms15_0 := NB118_113.out
              have hs16 : w14.cell? ⟨gb118,1,none⟩ = some (.int .i64 0) := (blk_cell BK118.out 1).trans rfl
              have hfs16 := blk_frozen BK118.out 1
              have hns16_0 := NB113_118.out
              have hms16_0 := NB118_113.out
              refine skip_ (w1 := ?_) (by rfl) rfl ?_ ?_
              rotate_left
              · go_simp
                rfl
              refine hK.out _ _ ⟨((cell_far (p := ⟨gb118,_,none⟩) NB113_118.out _).trans (((cell_far (p := ⟨gb118,_,none⟩) NB113_118.out _).trans (hHeld.1)))),((cell_far (p := ⟨gb118,_,none⟩) NB113_118.out _).trans (((cell_far (p := ⟨gb118,_,none⟩) NB113_118.out _).trans (hHeld.2.1)))),((cell_far (p := ⟨gb118,_,none⟩) (by first | exact Nat.ne_of_lt (Nat.lt_of_lt_of_le (by have := World.block_lt_of_cell? _ _ hw114_0;first | rwa [add_block] at this | exact this) GW118.out) | (rw [add_block];exact Nat.ne_of_lt (Nat.lt_of_lt_of_le (by have := World.block_lt_of_cell? _ _ hw114_0;first | rwa [add_block] at this | exact this) GW118.out)) | (show (Addr.add _ _).block ≠ _;rw [add_block];exact Nat.ne_of_lt (Nat.lt_of_lt_of_le (by have := World.block_lt_of_cell? _ _ hw114_0;first | rwa [add_block] at this | exact this) GW118.out)) | (dsimp only;exact Nat.ne_of_lt (Nat.lt_of_lt_of_le (by have := World.block_lt_of_cell? _ _ hw114_0;first | rwa [add_block] at this | exact this) GW118.out))) _).trans (((cell_far (p := ⟨gb118,_,none⟩) (by first | exact Nat.ne_of_lt (Nat.lt_of_lt_of_le (by have := World.block_lt_of_cell? _ _ hw114_0;first | rwa [add_block] at this | exact this) GW118.out) | (rw [add_block];exact Nat.ne_of_lt (Nat.lt_of_lt_of_le (by have := World.block_lt_of_cell? _ _ hw114_0;first | rwa [add_block] at this | exact this) GW118.out)) | (show (Addr.add _ _).block ≠ _;rw [add_block];exact Nat.ne_of_lt (Nat.lt_of_lt_of_le (by have := World.block_lt_of_cell? _ _ hw114_0;first | rwa [add_block] at this | exact this) GW118.out)) | (dsimp only;exact Nat.ne_of_lt (Nat.lt_of_lt_of_le (by have := World.block_lt_of_cell? _ _ hw114_0;first | rwa [add_block] at this | exact this) GW118.out))) _).trans (hHeld.2.2.1)))),((cell_far (p := ⟨gb118,_,none⟩) (by first | exact Nat.ne_of_lt (Nat.lt_of_lt_of_le (by have := World.block_lt_of_cell? _ _ hw114_1;first | rwa [add_block] at this | exact this) GW118.out) | (rw [add_block];exact Nat.ne_of_lt (Nat.lt_of_lt_of_le (by have := World.block_lt_of_cell? _ _ hw114_1;first | rwa [add_block] at this | exact this) GW118.out)) | (show (Addr.add _ _).block ≠ _;rw [add_block];exact Nat.ne_of_lt (Nat.lt_of_lt_of_le (by have := World.block_lt_of_cell? _ _ hw114_1;first | rwa [add_block] at this | exact this) GW118.out)) | (dsimp only;exact Nat.ne_of_lt (Nat.lt_of_lt_of_le (by have := World.block_lt_of_cell? _ _ hw114_1;first | rwa [add_block] at this | exact this) GW118.out))) _).trans (((cell_far (p := ⟨gb118,_,none⟩) (by first | exact Nat.ne_of_lt (Nat.lt_of_lt_of_le (by have := World.block_lt_of_cell? _ _ hw114_1;first | rwa [add_block] at this | exact this) GW118.out) | (rw [add_block];exact Nat.ne_of_lt (Nat.lt_of_lt_of_le (by have := World.block_lt_of_cell? _ _ hw114_1;first | rwa [add_block] at this | exact this) GW118.out)) | (show (Addr.add _ _).block ≠ _;rw [add_block];exact Nat.ne_of_lt (Nat.lt_of_lt_of_le (by have := World.block_lt_of_cell? _ _ hw114_1;first | rwa [add_block] at this | exact this) GW118.out)) | (dsimp only;exact Nat.ne_of_lt (Nat.lt_of_lt_of_le (by have := World.block_lt_of_cell? _ _ hw114_1;first | rwa [add_block] at this | exact this) GW118.out))) _).trans (hHeld.2.2.2))))⟩ (fun hHeld => ?_)
              clear hK K
              refine pure_ (i := 11) (N := some 8) (v := ?_) (a' := ?_) #[true,true,true,true,true,true,true,true,true,true,true,true] rfl rfl (any_of HT_.out (by kernel_rfl)) (fun _ _ _ h => h) (Or.inl ⟨by rfl,?_⟩) ?_ ?_
              rotate_left
              · intro w'
                go_simp
                with_reducible rfl
              rotate_left
              · simp only [Act.put,List.setIfInBounds_toArray,List.set_cons_zero,List.set_cons_succ,i64_w,i32_w]
                rfl
              refine done_ (done_of HT_.out (by kernel_rfl)) ?_
              have hnb17 := NB118_113.out
              have hnc17 := NB113_118.out
              obtain ⟨hcz18_0,hcz18_1,hfz18_0,hfz18_1⟩ := spec_Prefix.cells2 BK118.out
              obtain ⟨hcz19_0,hcz19_1,hfz19_0,hfz19_1⟩ := spec_Prefix.cells2 BK113.out
              try go_wp2_with (first | ((with_reducible refine gate_builtin (b := .append) (xs := #[.tmp 30,.tmp 32]) rfl ?_);at_builtin;refine Kd.R_append k87 (w0 := w) w.heap.size rfl (.tmp 30) (.tmp 32) 83 87 (.agg #[(.int .i64 0),(.int .i64 0)]) 16 rfl Try.underlying83 info87 rfl (by decide) (by omega) u4 x4_1 (⟨t115,t116⟩ : S87) [.int .i64 t115,.int .i64 t116] (fun k_ => k_ ≠ gb113 ∧ k_ ≠ gb118) (fun _ => False) rfl (by first | (go_simp;done) | (go_simp;rfl)) ?aP (fun _ hk => hk.elim) ?aF ?aO ?aB ?aS ?aL ?_;(case aP => exact k87_mkM _ _ _ (⟨t115,t116⟩ : S87));(case aB => exact (by repeat (first | (with_reducible first | exact HB.out | apply below_alloc | apply pw_below_drewN | apply below_drew1 | refine below_set ?_ GE113.out | refine below_set ?_ GE118.out) | exact HB.out)));(case aF => exact (fun k_ hk => ⟨Kd.freshB (g := gb113) (o := .cells #[.int .i64 t115,.int .i64 t116] 87 (0,0)) (by refine bP ?_;refine blk_put (cs := #[.int .i64 t115,.int .i64 x114001_1]) ?_ 1 _ rfl;refine bP ?_;refine blk_put (cs := #[.int .i64 x114000_1,.int .i64 x114001_1]) ?_ 0 _ rfl;refine bP ?_;refine blk_far ?_ NB113_118.out _;refine bP ?_;refine blk_far ?_ NB113_118.out _;refine bP ?_;exact BK113.out) k_ hk,Kd.freshB (g := gb118) (o := .cells #[.int .i64 t115,.int .i64 t116] 87 (0,0)) (by refine bP ?_;refine blk_far ?_ NB118_113.out _;refine bP ?_;refine blk_far ?_ NB118_113.out _;refine bP ?_;refine blk_put (cs := #[.int .i64 t115,.int .i64 0]) ?_ 1 _ rfl;refine bP ?_;refine blk_put (cs := #[.int .i64 0,.int .i64 0]) ?_ 0 _ rfl;refine bP ?_;exact BK118.out) k_ hk⟩));(case aO => exact (by (with_reducible repeat (first | apply Kd.R_alloc | apply Kd.R_drewN | apply Kd.R_drew));exact Kd.R_mono (Kd.R_far (p := ⟨gb113,1,none⟩) (Kd.R_far (p := ⟨gb113,0,none⟩) (Kd.R_far (p := ⟨gb118,1,none⟩) (Kd.R_far (p := ⟨gb118,0,none⟩) (Kd.R_mono (Kd.R_mono HO_4.out (fun k_ hk => (⟨hk,hk.2⟩ : _ ∧ k_ ≠ gb118))) (fun k_ hk => (⟨hk,hk.1.1⟩ : _ ∧ k_ ≠ gb113))) (fun _ hk => hk.1.2) (.int .i64 t115)) (fun _ hk => hk.1.2) (.int .i64 t116)) (fun _ hk => hk.2) (.int .i64 t115)) (fun _ hk => hk.2) (.int .i64 t116)) (fun _ hk => ⟨hk.1.1.1,hk.1.1.2⟩)));(case aS => exact (below_size (by repeat (first | (with_reducible first | exact HB.out | apply below_alloc | apply pw_below_drewN | apply below_drew1 | refine below_set ?_ GE113.out | refine below_set ?_ GE118.out) | exact HB.out))));(case aL => have := LMc10.out;omega);intro v120 w20 ho hb hg hat;rw [← Ny119.out] at ho;have n0_ := Aside0.mk (blk_grown (g := gb113) (o := .cells #[.int .i64 t115,.int .i64 t116] 87 (0,0)) (by refine bP ?_;refine blk_put (cs := #[.int .i64 t115,.int .i64 x114001_1]) ?_ 1 _ rfl;refine bP ?_;refine blk_put (cs := #[.int .i64 x114000_1,.int .i64 x114001_1]) ?_ 0 _ rfl;refine bP ?_;refine blk_far ?_ NB113_118.out _;refine bP ?_;refine blk_far ?_ NB113_118.out _;refine bP ?_;exact BK113.out) hg (Kd.R_away HO_4.out (fun _ hk => hk.1)));have n1_ := Aside0.mk (blk_grown (g := gb118) (o := .cells #[.int .i64 t115,.int .i64 t116] 87 (0,0)) (by refine bP ?_;refine blk_far ?_ NB118_113.out _;refine bP ?_;refine blk_far ?_ NB118_113.out _;refine bP ?_;refine blk_put (cs := #[.int .i64 t115,.int .i64 0]) ?_ 1 _ rfl;refine bP ?_;refine blk_put (cs := #[.int .i64 0,.int .i64 0]) ?_ 0 _ rfl;refine bP ?_;exact BK118.out) hg (Kd.R_away HO_4.out (fun _ hk => hk.2)));have n2_ := Aside0.mk (hb);have n3_ := Aside0.mk (ho);clear BK113;clear BK118;clear HB;clear HO_4;have BK113 := n0_;have BK118 := n1_;have HB := n2_;have HO121 := n3_;clear n0_ n1_ n2_ n3_;clear ho hb hg hat))
              go_roundg k1
              case measure => have := HK1.out;omega
              case rel => exact ⟨(y119),(wrap64 (x6_1 + 1)),(t115),(t116),(by first | rfl | (simp;done) | (simp [*];done)),H',⟨by have := HK1.out;omega⟩,⟨by (with_reducible repeat (first | apply Kd.R_alloc | apply Kd.R_drewN | apply Kd.R_drew));exact Kd.R_mono HO121.out (fun _ hk => hk.1)⟩,⟨by refine bP ?_;exact BK113.out⟩,⟨by repeat (first | (with_reducible first | exact HB.out | apply below_alloc | apply pw_below_drewN | apply below_drew1 | refine below_set ?_ GE113.out | refine below_set ?_ GE118.out) | exact HB.out)⟩⟩
            · rw [if_neg c10] at H
              exact absurd H (by simp)
          · replace c9 := Bool.eq_false_iff.mpr c9
            subst c9
            have H1 : (some ((([] : List (S87))),false)) = some (r1,r2) := by rw [if_neg (show ¬ (false = true) by decide)] at H;exact H
            clear H
            have H := H1
            clear H1
            obtain ⟨y122,hy122⟩ : ∃ y_ : List (S87),y_ = (([] : List (S87))) := ⟨_,rfl⟩
            replace H : (some (y122,false)) = some (r1,r2) := by first | (rw [hy122];with_reducible exact H) | (have H2_ := (Option.bind_some _ _).symm.trans H;rw [hy122];with_reducible exact H2_) | (have H2_ := (Option.bind_some _ _).symm.trans H;with_reducible exact H2_) | with_reducible exact H | (rw [hy122];exact H) | exact H
            have Ny122 := Aside0.mk hy122
            clear hy122
            simp only [Option.some.injEq,Prod.mk.injEq] at H
            obtain ⟨rfl,rfl⟩ := H
            try go_wp2
            have n0_ := Aside0.mk (Kd.R_drew HO_4.out)
            have n1_ := Aside0.mk (blk_drew BK113.out)
            have n2_ := Aside0.mk (below_drew1 HB.out)
            clear HO_4
            clear BK113
            clear HB
            have HO_4 := n0_
            have BK113 := n1_
            have HB := n2_
            clear n0_ n1_ n2_
            have p114 : 0 ≤ (x6_1 : Int) := of_decide_eq_true (by first | (with_reducible assumption) | assumption)
            have q114 : x6_1 < (l0.length : Int) := of_decide_eq_true (by first | (with_reducible assumption) | assumption)
            obtain ⟨ad114,e114,hx114_0,hx114_1⟩ := at_T87 HR0.out x6_1 p114 q114
            have hw114_1 := hx114_1
            have hw114_0 := hx114_0
            cases e114
            replace hx114_0 := (HB.out.cell (World.block_lt_of_cell? w _ hx114_0)).trans hx114_0
            replace hx114_1 := (HB.out.cell (World.block_lt_of_cell? w _ hx114_1)).trans hx114_1
            replace p114 := eq_true p114
            replace q114 := eq_true q114
            refine start_ (n := 12) (S := fun w' => w'.cell? ⟨gb113,0,none⟩ = some (.int .i64 x114000_1) ∧ w'.cell? ⟨gb113,1,none⟩ = some (.int .i64 x114001_1) ∧ w'.cell? (ad114.add ((x6_1).toNat * 2)) = some (.int .i64 ((rd_T87 l0 x6_1).f0)) ∧ w'.cell? ⟨(ad114.add ((x6_1).toNat * 2)).block,(ad114.add ((x6_1).toNat * 2)).off + 1,none⟩ = some (.int .i64 ((rd_T87 l0 x6_1).f1))) (ds := []) #[false,false,false,false,false,false,false,false,false,false,false,false] (by kernel_rfl) rfl rfl ⟨(blk_cell BK113.out 0).trans rfl,(blk_cell BK113.out 1).trans rfl,((HB.out.cell (World.block_lt_of_cell? w _ hw114_0)).trans hw114_0),((HB.out.cell (World.block_lt_of_cell? w _ hw114_1)).trans hw114_1)⟩ (fun hHeld => ?_);refine with_tabW spec_Prefix.tab6 spec_Prefix.bits6 (fun HT_ HW_ => ?_)
            generalize wr.drew = w21 at HO_4 BK113 HB hx114_0 hx114_1 hHeld ⊢
            refine pure_ (i := 1) (N := some 19) (v := ?_) (a' := ?_) #[false,true,false,false,false,false,false,false,false,false,false,false] rfl rfl (any_of HT_.out (by kernel_rfl)) (fun _ _ _ h => h) (Or.inl ⟨by rfl,?_⟩) ?_ ?_
            rotate_left
            · intro w'
              go_simp
              with_reducible rfl
            rotate_left
            · simp only [Act.put,List.setIfInBounds_toArray,List.set_cons_zero,List.set_cons_succ,i64_w,i32_w]
              rfl
            refine pure_ (i := 2) (N := some 20) (v := ?_) (a' := ?_) #[false,true,true,false,false,false,false,false,false,false,false,false] rfl rfl (any_of HT_.out (by kernel_rfl)) (fun _ _ _ h => h) (Or.inl ⟨by rfl,?_⟩) ?_ ?_
            rotate_left
            · intro w'
              go_simp
              with_reducible rfl
            rotate_left
            · simp only [Act.put,List.setIfInBounds_toArray,List.set_cons_zero,List.set_cons_succ,i64_w,i32_w]
              rfl
            refine pure_ (i := 3) (N := some 21) (v := ?_) (a' := ?_) #[false,true,true,true,false,false,false,false,false,false,false,false] rfl rfl (any_of HT_.out (by kernel_rfl)) (fun _ _ _ h => h) (Or.inl ⟨by rfl,?_⟩) ?_ ?_
            rotate_left
            · intro w'
              go_simp
              with_reducible rfl
            rotate_left
            · simp only [Act.put,List.setIfInBounds_toArray,List.set_cons_zero,List.set_cons_succ,i64_w,i32_w]
              rfl
            refine take_ (i := 0) (N := some 18) (v := ?_) (a' := ?_) #[true,true,true,true,false,false,false,false,false,false,false,false] rfl rfl (take_ofW HT_.out HW_.out (by kernel_rfl)) (fun _ _ _ h => h) (Or.inl ⟨by rfl,?_⟩) hHeld ?_ ?_
            rotate_left
            · rintro w' ⟨s0,s1,s2,s3⟩
              go_simp
              with_reducible rfl
            rotate_left
            · simp only [Act.put,List.setIfInBounds_toArray,List.set_cons_zero,List.set_cons_succ,i64_w,i32_w]
              rfl
            refine take_ (i := 4) (N := some 22) (v := ?_) (a' := ?_) #[true,true,true,true,true,false,false,false,false,false,false,false] rfl rfl (take_ofW HT_.out HW_.out (by kernel_rfl)) (fun _ _ _ h => h) (Or.inl ⟨by rfl,?_⟩) hHeld ?_ ?_
            rotate_left
            · rintro w' ⟨s0,s1,s2,s3⟩
              go_simp
              with_reducible rfl
            rotate_left
            · simp only [Act.put,List.setIfInBounds_toArray,List.set_cons_zero,List.set_cons_succ,i64_w,i32_w]
              rfl
            refine join_ (σ := Nat) 2 #[true,true,true,true,true,true,true,true,true,true,false,false] (fun s_ => [(23,.tuple #[.agg #[.int .i64 t115,.int .i64 t116],.bool false]),(7,.pointer (some ⟨s_,0,none⟩)),(17,.tuple #[.agg #[.int .i64 t115,.int .i64 t116],.bool false]),(24,.agg #[.int .i64 t115,.int .i64 t116]),(25,.bool false)]) (fun s_ w' => (w'.cell? ⟨gb113,0,none⟩ = some (.int .i64 x114000_1) ∧ w'.cell? ⟨gb113,1,none⟩ = some (.int .i64 x114001_1) ∧ w'.cell? (ad114.add ((x6_1).toNat * 2)) = some (.int .i64 ((rd_T87 l0 x6_1).f0)) ∧ w'.cell? ⟨(ad114.add ((x6_1).toNat * 2)).block,(ad114.add ((x6_1).toNat * 2)).off + 1,none⟩ = some (.int .i64 ((rd_T87 l0 x6_1).f1))) ∧ (Kd.R k87 87 w' w.heap.size (fun k_ => k_ ≠ gb113 ∧ k_ ≠ s_) u4 x4_1) ∧ (w'.heap[gb113]? = some (.cells #[.int .i64 x114000_1,.int .i64 x114001_1] 87 (0,0))) ∧ (w'.heap[s_]? = some (.cells #[.int .i64 0,.int .i64 0] 87 (0,0))) ∧ (w.heap.size ≤ s_) ∧ (w.heap.size ≤ s_) ∧ (gb113 ≠ s_) ∧ (s_ ≠ gb113) ∧ (Below w.heap.size w w')) ?_ ?_
            rotate_left
            · intro hCont
              refine two_ (i := 5) (j := 9) (Ni := some 23) (Nj := some 7) #[true,true,true,true,true,true,false,false,false,false,false,false] #[true,true,true,true,true,false,false,false,false,true,false,false] rfl rfl rfl rfl (two_of HT_.out (by kernel_rfl)) (by decide) (by decide) (fun K hK => ?_) (fun K hK => ?_)
              · skip
                refine goes_ Try.func85 (by kernel_rfl) rfl #[.agg #[.int .i64 x114000_1,.int .i64 x114001_1],.agg #[.int .i64 ((rd_T87 l0 x6_1).f0),.int .i64 ((rd_T87 l0 x6_1).f1)]] (by rfl) rfl rfl (by (try simp only [List.map_toArray,List.map_cons,List.map_nil]);first | done | rfl | (simp only [List.length_drop,List.length_take];rfl)) ?_
                with_reducible refine (spec_l13Add.calls x114000_1 x114001_1 ((rd_T87 l0 x6_1).f0) ((rd_T87 l0 x6_1).f1) t115 t116 false _ A8.out).mono ?_
                rintro e w22 ⟨rfl,hb⟩
                refine ⟨_,rfl,?_⟩
                have n0_ := Aside0.mk (Kd.R_below (by (with_reducible repeat (first | apply Kd.R_alloc | apply Kd.R_drewN | apply Kd.R_drew));exact HO_4.out) hb)
                have n1_ := Aside0.mk (blk_below (g := gb113) (o := .cells #[.int .i64 x114000_1,.int .i64 x114001_1] 87 (0,0)) (by refine bP ?_;exact BK113.out) hb)
                have n2_ := Aside0.mk (below_step (by repeat (first | (with_reducible first | exact HB.out | apply below_alloc | apply pw_below_drewN | apply below_drew1 | refine below_set ?_ GE113.out) | exact HB.out)) hb)
                clear HO_4
                clear BK113
                clear HB
                have HO_4 := n0_
                have BK113 := n1_
                have HB := n2_
                clear n0_ n1_ n2_
                (try clear hb)
                (try clear hb2)
                (try clear hk)
                (try clear hi)
                refine hK.out _ _ ⟨(blk_cell BK113.out 0).trans rfl,(blk_cell BK113.out 1).trans rfl,((HB.out.cell (World.block_lt_of_cell? w _ hw114_0)).trans hw114_0),((HB.out.cell (World.block_lt_of_cell? w _ hw114_1)).trans hw114_1)⟩ (fun hHeld => ?_)
                clear hK K
                refine norm_ (a' := ?_) ?_ ?_
                rotate_left
                · show Act.put _ (some 23) _ = _
                  simp only [Act.put,List.setIfInBounds_toArray,List.set_cons_zero,List.set_cons_succ,i64_w,i32_w]
                  rfl
                refine pure_ (i := 6) (N := some 17) (v := ?_) (a' := ?_) #[true,true,true,true,true,true,true,false,false,false,false,false] rfl rfl (any_of HT_.out (by kernel_rfl)) (fun _ _ _ h => h) (Or.inl ⟨by rfl,?_⟩) ?_ ?_
                rotate_left
                · intro w'
                  go_simp
                  with_reducible rfl
                rotate_left
                · simp only [Act.put,List.setIfInBounds_toArray,List.set_cons_zero,List.set_cons_succ,i64_w,i32_w]
                  rfl
                refine pure_ (i := 7) (N := some 24) (v := ?_) (a' := ?_) #[true,true,true,true,true,true,true,true,false,false,false,false] rfl rfl (any_of HT_.out (by kernel_rfl)) (fun _ _ _ h => h) (Or.inl ⟨by rfl,?_⟩) ?_ ?_
                rotate_left
                · intro w'
                  go_simp
                  with_reducible rfl
                rotate_left
                · simp only [Act.put,List.setIfInBounds_toArray,List.set_cons_zero,List.set_cons_succ,i64_w,i32_w]
                  rfl
                refine pure_ (i := 8) (N := some 25) (v := ?_) (a' := ?_) #[true,true,true,true,true,true,true,true,true,false,false,false] rfl rfl (any_of HT_.out (by kernel_rfl)) (fun _ _ _ h => h) (Or.inl ⟨by rfl,?_⟩) ?_ ?_
                rotate_left
                · intro w'
                  go_simp
                  with_reducible rfl
                rotate_left
                · simp only [Act.put,List.setIfInBounds_toArray,List.set_cons_zero,List.set_cons_succ,i64_w,i32_w]
                  rfl
                refine one_ (i := 9) (N := some 7) #[true,true,true,true,true,true,true,true,true,true,false,false] rfl rfl (one_of HT_.out (by kernel_rfl)) (by decide) (fun K hK => ?_)
                refine box_step ?hg (N := 7) ?hd (cs := #[.int .i64 0,.int .i64 0]) (t := 87) ?hr ?_;(case hd => rfl);(case hg => rfl);(case hr => first | (go_simp;done) | (go_simp;rfl))
                intro gb118 hg w23 hbox hb
                have n0_ := Aside0.mk (Kd.R_below (Kd.R_elderB (by (with_reducible repeat (first | apply Kd.R_alloc | apply Kd.R_drewN | apply Kd.R_drew));exact HO_4.out) gb118 (Nat.le_of_eq hg.symm)) hb)
                have n1_ := Aside0.mk (blk_below (g := gb113) (o := .cells #[.int .i64 x114000_1,.int .i64 x114001_1] 87 (0,0)) (by refine bP ?_;exact BK113.out) hb)
                have n2_ := Aside0.mk (below_step (by repeat (first | (with_reducible first | exact HB.out | apply below_alloc | apply pw_below_drewN | apply below_drew1 | refine below_set ?_ GE113.out) | exact HB.out)) hb)
                have n3_ := Aside0.mk (hbox)
                have n4_ := Aside0.mk ((by rw [hg];exact (below_size (by repeat (first | (with_reducible first | exact HB.out | apply below_alloc | apply pw_below_drewN | apply below_drew1 | refine below_set ?_ GE113.out) | exact HB.out))) : w.heap.size ≤ gb118))
                have n5_ := Aside0.mk ((by rw [hg];exact (below_size (by repeat (first | (with_reducible first | exact HB.out | apply below_alloc | apply pw_below_drewN | apply below_drew1 | refine below_set ?_ GE113.out) | exact HB.out))) : w.heap.size ≤ gb118))
                have n6_ := Aside0.mk ((by rw [hg];exact Nat.ne_of_lt (blk_lt (g := gb113) (o := .cells #[.int .i64 x114000_1,.int .i64 x114001_1] 87 (0,0)) (by refine bP ?_;exact BK113.out)) : gb113 ≠ gb118))
                have n7_ := Aside0.mk ((by rw [hg];exact Nat.ne_of_gt (blk_lt (g := gb113) (o := .cells #[.int .i64 x114000_1,.int .i64 x114001_1] 87 (0,0)) (by refine bP ?_;exact BK113.out)) : gb118 ≠ gb113))
                clear HO_4
                clear BK113
                clear HB
                have HO_4 := n0_
                have BK113 := n1_
                have HB := n2_
                have BK118 := n3_
                have GW118 := n4_
                have GE118 := n5_
                have NB113_118 := n6_
                have NB118_113 := n7_
                clear n0_ n1_ n2_ n3_ n4_ n5_ n6_ n7_
                clear hb hbox hg
                refine hK.out _ _ ⟨(blk_cell BK113.out 0).trans rfl,(blk_cell BK113.out 1).trans rfl,((HB.out.cell (World.block_lt_of_cell? w _ hw114_0)).trans hw114_0),((HB.out.cell (World.block_lt_of_cell? w _ hw114_1)).trans hw114_1)⟩ (fun hHeld => ?_)
                clear hK K
                refine norm_ (a' := ?_) ?_ ?_
                rotate_left
                · show Act.put _ (some 7) _ = _
                  simp only [Act.put,List.setIfInBounds_toArray,List.set_cons_zero,List.set_cons_succ,i64_w,i32_w]
                  rfl
                exact norm_ (by simp only [putAll,Act.put,List.setIfInBounds_toArray,List.set_cons_zero,List.set_cons_succ]) (hCont (gb118) _ ⟨hHeld,(by (with_reducible repeat (first | apply Kd.R_alloc | apply Kd.R_drewN | apply Kd.R_drew));exact HO_4.out),(by refine bP ?_;exact BK113.out),(by refine bP ?_;exact BK118.out),GW118.out,GE118.out,NB113_118.out,NB118_113.out,(by repeat (first | (with_reducible first | exact HB.out | apply below_alloc | apply pw_below_drewN | apply below_drew1 | refine below_set ?_ GE113.out | refine below_set ?_ GE118.out) | exact HB.out))⟩)
              · skip
                refine box_step ?hg (N := 7) ?hd (cs := #[.int .i64 0,.int .i64 0]) (t := 87) ?hr ?_;(case hd => rfl);(case hg => rfl);(case hr => first | (go_simp;done) | (go_simp;rfl))
                intro gb118 hg w22 hbox hb
                have n0_ := Aside0.mk (Kd.R_below (Kd.R_elderB (by (with_reducible repeat (first | apply Kd.R_alloc | apply Kd.R_drewN | apply Kd.R_drew));exact HO_4.out) gb118 (Nat.le_of_eq hg.symm)) hb)
                have n1_ := Aside0.mk (blk_below (g := gb113) (o := .cells #[.int .i64 x114000_1,.int .i64 x114001_1] 87 (0,0)) (by refine bP ?_;exact BK113.out) hb)
                have n2_ := Aside0.mk (below_step (by repeat (first | (with_reducible first | exact HB.out | apply below_alloc | apply pw_below_drewN | apply below_drew1 | refine below_set ?_ GE113.out) | exact HB.out)) hb)
                have n3_ := Aside0.mk (hbox)
                have n4_ := Aside0.mk ((by rw [hg];exact (below_size (by repeat (first | (with_reducible first | exact HB.out | apply below_alloc | apply pw_below_drewN | apply below_drew1 | refine below_set ?_ GE113.out) | exact HB.out))) : w.heap.size ≤ gb118))
                have n5_ := Aside0.mk ((by rw [hg];exact (below_size (by repeat (first | (with_reducible first | exact HB.out | apply below_alloc | apply pw_below_drewN | apply below_drew1 | refine below_set ?_ GE113.out) | exact HB.out))) : w.heap.size ≤ gb118))
                have n6_ := Aside0.mk ((by rw [hg];exact Nat.ne_of_lt (blk_lt (g := gb113) (o := .cells #[.int .i64 x114000_1,.int .i64 x114001_1] 87 (0,0)) (by refine bP ?_;exact BK113.out)) : gb113 ≠ gb118))
                have n7_ := Aside0.mk ((by rw [hg];exact Nat.ne_of_gt (blk_lt (g := gb113) (o := .cells #[.int .i64 x114000_1,.int .i64 x114001_1] 87 (0,0)) (by refine bP ?_;exact BK113.out)) : gb118 ≠ gb113))
                clear HO_4
                clear BK113
                clear HB
                have HO_4 := n0_
                have BK113 := n1_
                have HB := n2_
                have BK118 := n3_
                have GW118 := n4_
                have GE118 := n5_
                have NB113_118 := n6_
                have NB118_113 := n7_
                clear n0_ n1_ n2_ n3_ n4_ n5_ n6_ n7_
                clear hb hbox hg
                refine hK.out _ _ ⟨(blk_cell BK113.out 0).trans rfl,(blk_cell BK113.out 1).trans rfl,((HB.out.cell (World.block_lt_of_cell? w _ hw114_0)).trans hw114_0),((HB.out.cell (World.block_lt_of_cell? w _ hw114_1)).trans hw114_1)⟩ (fun hHeld => ?_)
                clear hK K
                refine norm_ (a' := ?_) ?_ ?_
                rotate_left
                · show Act.put _ (some 7) _ = _
                  simp only [Act.put,List.setIfInBounds_toArray,List.set_cons_zero,List.set_cons_succ,i64_w,i32_w]
                  rfl
                refine one_ (i := 5) (N := some 23) #[true,true,true,true,true,true,false,false,false,true,false,false] rfl rfl (one_of HT_.out (by kernel_rfl)) (by decide) (fun K hK => ?_)
                refine goes_ Try.func85 (by kernel_rfl) rfl #[.agg #[.int .i64 x114000_1,.int .i64 x114001_1],.agg #[.int .i64 ((rd_T87 l0 x6_1).f0),.int .i64 ((rd_T87 l0 x6_1).f1)]] (by rfl) rfl rfl (by (try simp only [List.map_toArray,List.map_cons,List.map_nil]);first | done | rfl | (simp only [List.length_drop,List.length_take];rfl)) ?_
                with_reducible refine (spec_l13Add.calls x114000_1 x114001_1 ((rd_T87 l0 x6_1).f0) ((rd_T87 l0 x6_1).f1) t115 t116 false _ A8.out).mono ?_
                rintro e w23 ⟨rfl,hb⟩
                refine ⟨_,rfl,?_⟩
                have n0_ := Aside0.mk (Kd.R_below (by (with_reducible repeat (first | apply Kd.R_alloc | apply Kd.R_drewN | apply Kd.R_drew));exact HO_4.out) hb)
                have n1_ := Aside0.mk (blk_below (g := gb113) (o := .cells #[.int .i64 x114000_1,.int .i64 x114001_1] 87 (0,0)) (by refine bP ?_;exact BK113.out) hb)
                have n2_ := Aside0.mk (blk_below (g := gb118) (o := .cells #[.int .i64 0,.int .i64 0] 87 (0,0)) (by refine bP ?_;exact BK118.out) hb)
                have n3_ := Aside0.mk (below_step (by repeat (first | (with_reducible first | exact HB.out | apply below_alloc | apply pw_below_drewN | apply below_drew1 | refine below_set ?_ GE113.out | refine below_set ?_ GE118.out) | exact HB.out)) hb)
                clear HO_4
                clear BK113
                clear BK118
                clear HB
                have HO_4 := n0_
                have BK113 := n1_
                have BK118 := n2_
                have HB := n3_
                clear n0_ n1_ n2_ n3_
                (try clear hb)
                (try clear hb2)
                (try clear hk)
                (try clear hi)
                refine hK.out _ _ ⟨(blk_cell BK113.out 0).trans rfl,(blk_cell BK113.out 1).trans rfl,((HB.out.cell (World.block_lt_of_cell? w _ hw114_0)).trans hw114_0),((HB.out.cell (World.block_lt_of_cell? w _ hw114_1)).trans hw114_1)⟩ (fun hHeld => ?_)
                clear hK K
                refine norm_ (a' := ?_) ?_ ?_
                rotate_left
                · show Act.put _ (some 23) _ = _
                  simp only [Act.put,List.setIfInBounds_toArray,List.set_cons_zero,List.set_cons_succ,i64_w,i32_w]
                  rfl
                refine pure_ (i := 6) (N := some 17) (v := ?_) (a' := ?_) #[true,true,true,true,true,true,true,false,false,true,false,false] rfl rfl (any_of HT_.out (by kernel_rfl)) (fun _ _ _ h => h) (Or.inl ⟨by rfl,?_⟩) ?_ ?_
                rotate_left
                · intro w'
                  go_simp
                  with_reducible rfl
                rotate_left
                · simp only [Act.put,List.setIfInBounds_toArray,List.set_cons_zero,List.set_cons_succ,i64_w,i32_w]
                  rfl
                refine pure_ (i := 7) (N := some 24) (v := ?_) (a' := ?_) #[true,true,true,true,true,true,true,true,false,true,false,false] rfl rfl (any_of HT_.out (by kernel_rfl)) (fun _ _ _ h => h) (Or.inl ⟨by rfl,?_⟩) ?_ ?_
                rotate_left
                · intro w'
                  go_simp
                  with_reducible rfl
                rotate_left
                · simp only [Act.put,List.setIfInBounds_toArray,List.set_cons_zero,List.set_cons_succ,i64_w,i32_w]
                  rfl
                refine pure_ (i := 8) (N := some 25) (v := ?_) (a' := ?_) #[true,true,true,true,true,true,true,true,true,true,false,false] rfl rfl (any_of HT_.out (by kernel_rfl)) (fun _ _ _ h => h) (Or.inl ⟨by rfl,?_⟩) ?_ ?_
                rotate_left
                · intro w'
                  go_simp
                  with_reducible rfl
                rotate_left
                · simp only [Act.put,List.setIfInBounds_toArray,List.set_cons_zero,List.set_cons_succ,i64_w,i32_w]
                  rfl
                exact norm_ (by simp only [putAll,Act.put,List.setIfInBounds_toArray,List.set_cons_zero,List.set_cons_succ]) (hCont (gb118) _ ⟨hHeld,(by (with_reducible repeat (first | apply Kd.R_alloc | apply Kd.R_drewN | apply Kd.R_drew));exact HO_4.out),(by refine bP ?_;exact BK113.out),(by refine bP ?_;exact BK118.out),GW118.out,GE118.out,NB113_118.out,NB118_113.out,(by repeat (first | (with_reducible first | exact HB.out | apply below_alloc | apply pw_below_drewN | apply below_drew1 | refine below_set ?_ GE113.out | refine below_set ?_ GE118.out) | exact HB.out))⟩)
            rintro gb118 w24 ⟨hS_,h0_,h1_,h2_,h3_,h4_,h5_,h6_,h7_⟩
            have n0_ : Aside0 (Kd.R k87 87 w24 w.heap.size (fun k_ => k_ ≠ gb113 ∧ k_ ≠ gb118) u4 x4_1) := ⟨h0_⟩
            have n1_ : Aside0 (w24.heap[gb113]? = some (.cells #[.int .i64 x114000_1,.int .i64 x114001_1] 87 (0,0))) := ⟨h1_⟩
            have n2_ : Aside0 (w24.heap[gb118]? = some (.cells #[.int .i64 0,.int .i64 0] 87 (0,0))) := ⟨h2_⟩
            have n3_ : Aside0 (w.heap.size ≤ gb118) := ⟨h3_⟩
            have n4_ : Aside0 (w.heap.size ≤ gb118) := ⟨h4_⟩
            have n5_ : Aside0 (gb113 ≠ gb118) := ⟨h5_⟩
            have n6_ : Aside0 (gb118 ≠ gb113) := ⟨h6_⟩
            have n7_ : Aside0 (Below w.heap.size w w24) := ⟨h7_⟩
            clear HO_4
            clear BK113
            clear HB
            clear h0_ h1_ h2_ h3_ h4_ h5_ h6_ h7_
            have HO_4 := n0_
            have BK113 := n1_
            have BK118 := n2_
            have GW118 := n3_
            have GE118 := n4_
            have NB113_118 := n5_
            have NB118_113 := n6_
            have HB := n7_
            clear n0_ n1_ n2_ n3_ n4_ n5_ n6_ n7_
            have hHeld : w24.cell? ⟨gb113,0,none⟩ = some (.int .i64 x114000_1) ∧ w24.cell? ⟨gb113,1,none⟩ = some (.int .i64 x114001_1) ∧ w24.cell? (ad114.add ((x6_1).toNat * 2)) = some (.int .i64 ((rd_T87 l0 x6_1).f0)) ∧ w24.cell? ⟨(ad114.add ((x6_1).toNat * 2)).block,(ad114.add ((x6_1).toNat * 2)).off + 1,none⟩ = some (.int .i64 ((rd_T87 l0 x6_1).f1)) := hS_
            refine norm_ (a' := ?_) ?_ ?_
            rotate_left
            · simp only [putAll,Act.put,List.setIfInBounds_toArray,List.set_cons_zero,List.set_cons_succ]
              rfl
            refine one_ (i := 10) (N := none) #[true,true,true,true,true,true,true,true,true,true,true,false] rfl rfl (one_of HT_.out (by kernel_rfl)) (by decide) (fun K hK => ?_)
            have hs25 : w24.cell? ⟨gb118,0,none⟩ = some (.int .i64 0) := (blk_cell BK118.out 0).trans rfl
            have hfs25 := blk_frozen BK118.out 0
            have hns25_0 := NB113_118.out
            have hms25_0 := NB118_113.out
            have hs26 : w24.cell? ⟨gb118,1,none⟩ = some (.int .i64 0) := (blk_cell BK118.out 1).trans rfl
            have hfs26 := blk_frozen BK118.out 1
            have hns26_0 := NB113_118.out
            have hms26_0 := NB118_113.out
            refine skip_ (w1 := ?_) (by rfl) rfl ?_ ?_
            rotate_left
            · go_simp
              rfl
            refine hK.out _ _ ⟨((cell_far (p := ⟨gb118,_,none⟩) NB113_118.out _).trans (((cell_far (p := ⟨gb118,_,none⟩) NB113_118.out _).trans (hHeld.1)))),((cell_far (p := ⟨gb118,_,none⟩) NB113_118.out _).trans (((cell_far (p := ⟨gb118,_,none⟩) NB113_118.out _).trans (hHeld.2.1)))),((cell_far (p := ⟨gb118,_,none⟩) (by first | exact Nat.ne_of_lt (Nat.lt_of_lt_of_le (by have := World.block_lt_of_cell? _ _ hw114_0;first | rwa [add_block] at this | exact this) GW118.out) | (rw [add_block];exact Nat.ne_of_lt (Nat.lt_of_lt_of_le (by have := World.block_lt_of_cell? _ _ hw114_0;first | rwa [add_block] at this | exact this) GW118.out)) | (show (Addr.add _ _).block ≠ _;rw [add_block];exact Nat.ne_of_lt (Nat.lt_of_lt_of_le (by have := World.block_lt_of_cell? _ _ hw114_0;first | rwa [add_block] at this | exact this) GW118.out)) | (dsimp only;exact Nat.ne_of_lt (Nat.lt_of_lt_of_le (by have := World.block_lt_of_cell? _ _ hw114_0;first | rwa [add_block] at this | exact this) GW118.out))) _).trans (((cell_far (p := ⟨gb118,_,none⟩) (by first | exact Nat.ne_of_lt (Nat.lt_of_lt_of_le (by have := World.block_lt_of_cell? _ _ hw114_0;first | rwa [add_block] at this | exact this) GW118.out) | (rw [add_block];exact Nat.ne_of_lt (Nat.lt_of_lt_of_le (by have := World.block_lt_of_cell? _ _ hw114_0;first | rwa [add_block] at this | exact this) GW118.out)) | (show (Addr.add _ _).block ≠ _;rw [add_block];exact Nat.ne_of_lt (Nat.lt_of_lt_of_le (by have := World.block_lt_of_cell? _ _ hw114_0;first | rwa [add_block] at this | exact this) GW118.out)) | (dsimp only;exact Nat.ne_of_lt (Nat.lt_of_lt_of_le (by have := World.block_lt_of_cell? _ _ hw114_0;first | rwa [add_block] at this | exact this) GW118.out))) _).trans (hHeld.2.2.1)))),((cell_far (p := ⟨gb118,_,none⟩) (by first | exact Nat.ne_of_lt (Nat.lt_of_lt_of_le (by have := World.block_lt_of_cell? _ _ hw114_1;first | rwa [add_block] at this | exact this) GW118.out) | (rw [add_block];exact Nat.ne_of_lt (Nat.lt_of_lt_of_le (by have := World.block_lt_of_cell? _ _ hw114_1;first | rwa [add_block] at this | exact this) GW118.out)) | (show (Addr.add _ _).block ≠ _;rw [add_block];exact Nat.ne_of_lt (Nat.lt_of_lt_of_le (by have := World.block_lt_of_cell? _ _ hw114_1;first | rwa [add_block] at this | exact this) GW118.out)) | (dsimp only;exact Nat.ne_of_lt (Nat.lt_of_lt_of_le (by have := World.block_lt_of_cell? _ _ hw114_1;first | rwa [add_block] at this | exact this) GW118.out))) _).trans (((cell_far (p := ⟨gb118,_,none⟩) (by first | exact Nat.ne_of_lt (Nat.lt_of_lt_of_le (by have := World.block_lt_of_cell? _ _ hw114_1;first | rwa [add_block] at this | exact this) GW118.out) | (rw [add_block];exact Nat.ne_of_lt (Nat.lt_of_lt_of_le (by have := World.block_lt_of_cell? _ _ hw114_1;first | rwa [add_block] at this | exact this) GW118.out)) | (show (Addr.add _ _).block ≠ _;rw [add_block];exact Nat.ne_of_lt (Nat.lt_of_lt_of_le (by have := World.block_lt_of_cell? _ _ hw114_1;first | rwa [add_block] at this | exact this) GW118.out)) | (dsimp only;exact Nat.ne_of_lt (Nat.lt_of_lt_of_le (by have := World.block_lt_of_cell? _ _ hw114_1;first | rwa [add_block] at this | exact this) GW118.out))) _).trans (hHeld.2.2.2))))⟩ (fun hHeld => ?_)
            clear hK K
            refine pure_ (i := 11) (N := some 8) (v := ?_) (a' := ?_) #[true,true,true,true,true,true,true,true,true,true,true,true] rfl rfl (any_of HT_.out (by kernel_rfl)) (fun _ _ _ h => h) (Or.inl ⟨by rfl,?_⟩) ?_ ?_
            rotate_left
            · intro w'
              go_simp
              with_reducible rfl
            rotate_left
            · simp only [Act.put,List.setIfInBounds_toArray,List.set_cons_zero,List.set_cons_succ,i64_w,i32_w]
              rfl
            refine done_ (done_of HT_.out (by kernel_rfl)) ?_
            try go_wp2_with (first | ((with_reducible refine gate_dst (N := 28) rfl ?_);refine Kd.R_lit k87 _ 87 ?hg (N := 28) ?hd (xs := ([] : List (S87))) (inner := []) (ok := fun _ => True) (okp := fun _ => True) ?hr ?hp (fun _ hk => hk) trivial (Below.refl _ _) (Nat.le_refl _) (by simp) ?_;(case hd => rfl);(case hg => rfl);(case hr => first | (go_simp;done) | (go_simp;rfl));(case hp => exact (Reps.none _ _));intro v123 w27 ho28 hb hg_ hnew_;clear hg_ hnew_;(first | rw [← Ny122.out] at ho28 | (simp only [Int.reduceToNat] at ho28;rw [← Ny122.out] at ho28));have n0_ := Aside0.mk (Kd.R_elder' (by (with_reducible repeat (first | apply Kd.R_alloc | apply Kd.R_drewN | apply Kd.R_drew));exact (Kd.R_mono (Kd.R_far (p := ⟨gb118,1,none⟩) (Kd.R_far (p := ⟨gb118,0,none⟩) (Kd.R_mono HO_4.out (fun k_ hk => (⟨hk,hk.2⟩ : _ ∧ k_ ≠ gb118))) (fun _ hk => hk.2) (.int .i64 t115)) (fun _ hk => hk.2) (.int .i64 t116)) (fun _ h_ => h_.1))) (Kd.R_base ho28) hb);have n1_ := Aside0.mk (Kd.R_lower (Kd.R_newB (Kd.R_newB (Kd.R_new' ho28 (Kd.R_lt (by (with_reducible repeat (first | apply Kd.R_alloc | apply Kd.R_drewN | apply Kd.R_drew));exact (Kd.R_mono (Kd.R_far (p := ⟨gb118,1,none⟩) (Kd.R_far (p := ⟨gb118,0,none⟩) (Kd.R_mono HO_4.out (fun k_ hk => (⟨hk,hk.2⟩ : _ ∧ k_ ≠ gb118))) (fun _ hk => hk.2) (.int .i64 t115)) (fun _ hk => hk.2) (.int .i64 t116)) (fun _ h_ => h_.1))))) (g := gb113) (o := .cells #[.int .i64 x114000_1,.int .i64 x114001_1] 87 (0,0)) (by refine bP ?_;refine blk_far ?_ NB113_118.out _;refine bP ?_;refine blk_far ?_ NB113_118.out _;refine bP ?_;exact BK113.out)) (g := gb118) (o := .cells #[.int .i64 t115,.int .i64 t116] 87 (0,0)) (by refine bP ?_;refine blk_put (cs := #[.int .i64 t115,.int .i64 0]) ?_ 1 _ rfl;refine bP ?_;refine blk_put (cs := #[.int .i64 0,.int .i64 0]) ?_ 0 _ rfl;refine bP ?_;exact BK118.out)) (below_size (by repeat (first | (with_reducible first | exact HB.out | apply below_alloc | apply pw_below_drewN | apply below_drew1 | refine below_set ?_ GE113.out | refine below_set ?_ GE118.out) | exact HB.out))));have n2_ := Aside0.mk (blk_below (g := gb113) (o := .cells #[.int .i64 x114000_1,.int .i64 x114001_1] 87 (0,0)) (by refine bP ?_;refine blk_far ?_ NB113_118.out _;refine bP ?_;refine blk_far ?_ NB113_118.out _;refine bP ?_;exact BK113.out) hb);have n3_ := Aside0.mk (blk_below (g := gb118) (o := .cells #[.int .i64 t115,.int .i64 t116] 87 (0,0)) (by refine bP ?_;refine blk_put (cs := #[.int .i64 t115,.int .i64 0]) ?_ 1 _ rfl;refine bP ?_;refine blk_put (cs := #[.int .i64 0,.int .i64 0]) ?_ 0 _ rfl;refine bP ?_;exact BK118.out) hb);have n4_ := Aside0.mk (below_step (by repeat (first | (with_reducible first | exact HB.out | apply below_alloc | apply pw_below_drewN | apply below_drew1 | refine below_set ?_ GE113.out | refine below_set ?_ GE118.out) | exact HB.out)) hb);clear HO_4;clear BK113;clear BK118;clear HB;have HO_4 := n0_;have HO124 := n1_;have BK113 := n2_;have BK118 := n3_;have HB := n4_;clear n0_ n1_ n2_ n3_ n4_;clear hb ho28))
            go_ret2
            exact ⟨_,by first | rfl | (simp [errW_none,errW_some] <;> rfl) | (simp [*,errW_none,errW_some] <;> rfl),by (with_reducible repeat (first | apply Kd.R_alloc | apply Kd.R_drewN | apply Kd.R_drew));exact Kd.R_mono HO124.out (fun _ hk => trivial),by repeat (first | (with_reducible first | exact HB.out | apply below_alloc | apply pw_below_drewN | apply below_drew1 | refine below_set ?_ GE113.out | refine below_set ?_ GE118.out) | exact HB.out)⟩
        · rw [if_neg c7] at H
          exact absurd H (by simp)
      · rw [if_neg c6] at H
        have c6b0 : decide (x6_1 < (l0.length : Int)) = false := decide_eq_false c6
        clear c6
        simp only [Option.some.injEq,Prod.mk.injEq] at H
        obtain ⟨rfl,rfl⟩ := H
        go_wp2
        go_ret2
        exact ⟨_,by first | rfl | (simp [errW_none,errW_some] <;> rfl) | (simp [*,errW_none,errW_some] <;> rfl),by (with_reducible repeat (first | apply Kd.R_alloc | apply Kd.R_drewN | apply Kd.R_drew));exact Kd.R_mono HO_4.out (fun _ hk => trivial),by repeat (first | (with_reducible first | exact HB.out | apply below_alloc | apply pw_below_drewN | apply below_drew1 | refine below_set ?_ GE113.out) | exact HB.out)⟩

/-! ### spec_SubInt: function 67 -/
def spec_SubInt.f (a0 : Int) (a1 : Int) : Option (Int × Bool) := if a1 < 0 then (if a0 > (wrap64 (9223372036854775807 + a1)) then (some (0,false)) else (if a1 > 0 then (if a0 < (wrap64 ((-9223372036854775808) + a1)) then (some (0,false)) else (some (wrap64 (a0 - a1),true))) else (some (wrap64 (a0 - a1),true)))) else (if a1 > 0 then (if a0 < (wrap64 ((-9223372036854775808) + a1)) then (some (0,false)) else (some (wrap64 (a0 - a1),true))) else (some (wrap64 (a0 - a1),true)))
set_option maxHeartbeats 8000000 in
set_option maxRecDepth 100000 in
theorem spec_SubInt.calls (a0 : Int) (a1 : Int) (r1 : Int) (r2 : Bool) (w : World) (h : spec_SubInt.f a0 a1 = some (r1,r2)) :
    Calls Try.prog 67 #[.int .i64 a0,.int .i64 a1] w fun e w' => e = .returned (.tuple #[.int .i64 r1,.bool r2]) ∧ Drawn0 w w' := by
  have H : (if a1 < 0 then (if a0 > (wrap64 (9223372036854775807 + a1)) then (some (0,false)) else (if a1 > 0 then (if a0 < (wrap64 ((-9223372036854775808) + a1)) then (some (0,false)) else (some (wrap64 (a0 - a1),true))) else (some (wrap64 (a0 - a1),true)))) else (if a1 > 0 then (if a0 < (wrap64 ((-9223372036854775808) + a1)) then (some (0,false)) else (some (wrap64 (a0 - a1),true))) else (some (wrap64 (a0 - a1),true)))) = some (r1,r2) := h
  clear h
  by_cases c3 : a1 < 0
  · rw [if_pos c3] at H
    have c3b0 : decide (a1 < 0) = true := decide_eq_true c3
    clear c3
    by_cases c4 : a0 > (wrap64 (9223372036854775807 + a1))
    · rw [if_pos c4] at H
      have c4b0 : decide ((wrap64 (9223372036854775807 + a1)) < a0) = true := decide_eq_true c4
      clear c4
      simp only [Option.some.injEq,Prod.mk.injEq] at H
      obtain ⟨rfl,rfl⟩ := H
      go_enter Try.func67,Try.ntmps67
      go_wp2
      go_ret2
      exact ⟨by first | rfl | (simp;done) | (simp [*];done),by repeat (first | exact Drawn0.refl _ | apply Drawn0.step)⟩
    · rw [if_neg c4] at H
      have c4b0 : decide ((wrap64 (9223372036854775807 + a1)) < a0) = false := decide_eq_false c4
      clear c4
      by_cases c5 : a1 > 0
      · rw [if_pos c5] at H
        have c5b0 : decide (0 < a1) = true := decide_eq_true c5
        clear c5
        by_cases c6 : a0 < (wrap64 ((-9223372036854775808) + a1))
        · rw [if_pos c6] at H
          have c6b0 : decide (a0 < (wrap64 ((-9223372036854775808) + a1))) = true := decide_eq_true c6
          clear c6
          simp only [Option.some.injEq,Prod.mk.injEq] at H
          obtain ⟨rfl,rfl⟩ := H
          go_enter Try.func67,Try.ntmps67
          go_wp2
          go_ret2
          exact ⟨by first | rfl | (simp;done) | (simp [*];done),by repeat (first | exact Drawn0.refl _ | apply Drawn0.step)⟩
        · rw [if_neg c6] at H
          have c6b0 : decide (a0 < (wrap64 ((-9223372036854775808) + a1))) = false := decide_eq_false c6
          clear c6
          simp only [Option.some.injEq,Prod.mk.injEq] at H
          obtain ⟨rfl,rfl⟩ := H
          go_enter Try.func67,Try.ntmps67
          go_wp2
          go_ret2
          exact ⟨by first | rfl | (simp;done) | (simp [*];done),by repeat (first | exact Drawn0.refl _ | apply Drawn0.step)⟩
      · rw [if_neg c5] at H
        have c5b0 : decide (0 < a1) = false := decide_eq_false c5
        clear c5
        simp only [Option.some.injEq,Prod.mk.injEq] at H
        obtain ⟨rfl,rfl⟩ := H
        go_enter Try.func67,Try.ntmps67
        go_wp2
        go_ret2
        exact ⟨by first | rfl | (simp;done) | (simp [*];done),by repeat (first | exact Drawn0.refl _ | apply Drawn0.step)⟩
  · rw [if_neg c3] at H
    have c3b0 : decide (a1 < 0) = false := decide_eq_false c3
    clear c3
    by_cases c7 : a1 > 0
    · rw [if_pos c7] at H
      have c7b0 : decide (0 < a1) = true := decide_eq_true c7
      clear c7
      by_cases c8 : a0 < (wrap64 ((-9223372036854775808) + a1))
      · rw [if_pos c8] at H
        have c8b0 : decide (a0 < (wrap64 ((-9223372036854775808) + a1))) = true := decide_eq_true c8
        clear c8
        simp only [Option.some.injEq,Prod.mk.injEq] at H
        obtain ⟨rfl,rfl⟩ := H
        go_enter Try.func67,Try.ntmps67
        go_wp2
        go_ret2
        exact ⟨by first | rfl | (simp;done) | (simp [*];done),by repeat (first | exact Drawn0.refl _ | apply Drawn0.step)⟩
      · rw [if_neg c8] at H
        have c8b0 : decide (a0 < (wrap64 ((-9223372036854775808) + a1))) = false := decide_eq_false c8
        clear c8
        simp only [Option.some.injEq,Prod.mk.injEq] at H
        obtain ⟨rfl,rfl⟩ := H
        go_enter Try.func67,Try.ntmps67
        go_wp2
        go_ret2
        exact ⟨by first | rfl | (simp;done) | (simp [*];done),by repeat (first | exact Drawn0.refl _ | apply Drawn0.step)⟩
    · rw [if_neg c7] at H
      have c7b0 : decide (0 < a1) = false := decide_eq_false c7
      clear c7
      simp only [Option.some.injEq,Prod.mk.injEq] at H
      obtain ⟨rfl,rfl⟩ := H
      go_enter Try.func67,Try.ntmps67
      go_wp2
      go_ret2
      exact ⟨by first | rfl | (simp;done) | (simp [*];done),by repeat (first | exact Drawn0.refl _ | apply Drawn0.step)⟩

end Go.Proofs.Ytiacoiiapmfaeaa.QFnExactCandsOf
