/- The machine side of FnExactCandsOf: what each Go function that it reaches comes to. Conditions: none. -/
import Derived.Test.YtiacoiiapmfaeaaQFnExactCandsOfx0
import Derived.Test.YtiacoiiapmfaeaaQFnExactCandsOfx3
namespace Go.Proofs.Ytiacoiiapmfaeaa.QFnExactCandsOf
open Go.RowKit Go.Proofs.YtiacoiiapmfaeaaW.PrintWords Go.Proofs.YtiacoiiapmfaeaaW.PrintLast Go.Proofs.YtiacoiiapmfaeaaW.PrintMore
attribute [local go_sem] max2_int min2_int max_two min_two max_three min_three max_four min_four   -- for this text's walks alone
set_option linter.unusedVariables false
set_option linter.unusedSimpArgs false

/-! ### impl_Prefix: function 69 -/
theorem impl_Prefix.cells2 {w : World} {g : Nat} {t : TypeId} {a0 a1 : Value} (h : w.heap[g]? = some (.cells #[a0,a1] t (0,0))) : w.cell? ⟨g,0,none⟩ = some a0 ∧ w.cell? ⟨g,1,none⟩ = some a1 ∧ w.frozen? ⟨g,0,none⟩ = false ∧ w.frozen? ⟨g,1,none⟩ = false := ⟨(blk_cell h 0).trans rfl,(blk_cell h 1).trans rfl,blk_frozen h 0,blk_frozen h 1⟩
def impl_Prefix.l0 : Nat → List (S87) → List (S87) → Int → Int → Int → Int → Option ((List (S87)) × Bool)
  | 0,_,_,_,_,_,_ => none
  | k + 1,x4,x12,x13,x14,x181000,x181001 => if x14 < x13 then (if 0 ≤ x14 then (if x14 < (x12.length : Int) then ((impl_Slot_plus.f x181000 x181001 ((rd_T87 x12 x14).f0) ((rd_T87 x12 x14).f1)).bind fun bt183 => (if bt183.2.2 = true then (if x4.length < 8796093022208 then (impl_Prefix.l0 k (x4 ++ [(⟨bt183.1,bt183.2.1⟩ : S87)]) x12 x13 (wrap64 (x14 + 1)) bt183.1 bt183.2.1) else (none)) else (some (([] : List (S87)),false)))) else (none)) else (none)) else (some (x4,true))
def impl_Prefix.f (k : Nat) (l0 : List (S87)) : Option ((List (S87)) × Bool) := impl_Prefix.l0 k (([] : List (S87))) l0 (l0.length : Int) 0 0 0
theorem impl_Prefix.mono_l : ∀ k,(∀ y0 y1 y2 y3 y4 y5,LeO (impl_Prefix.l0 k y0 y1 y2 y3 y4 y5) (impl_Prefix.l0 (k + 1) y0 y1 y2 y3 y4 y5))
  | 0 => fun _ _ _ _ _ _ r h => by simp [impl_Prefix.l0] at h
  | k + 1 => by
    have ih0 := impl_Prefix.mono_l k
    · intro y0 y1 y2 y3 y4 y5
      unfold impl_Prefix.l0
      repeat' first
      | (with_reducible exact ih0 _ _ _ _ _ _)
      | (with_reducible exact LeO.refl _)
      | (with_reducible exact LeO.none _)
      | (with_reducible refine LeO.ite ?_ ?_)
      | (with_reducible refine LeO.bind ?_ (fun _ => ?_))
      | exact ih0 _ _ _ _ _ _
      | exact LeO.none _
      | refine LeO.ite ?_ ?_
      | refine LeO.bind ?_ (fun _ => ?_)
theorem impl_Prefix.mono : ∀ a0 k,LeO (impl_Prefix.f k a0) (impl_Prefix.f (k + 1) a0) := by
  intro a0 k
  have ih0 := impl_Prefix.mono_l k
  unfold impl_Prefix.f
  repeat' first
      | (with_reducible exact ih0 _ _ _ _ _ _)
      | (with_reducible exact LeO.refl _)
      | (with_reducible exact LeO.none _)
      | (with_reducible refine LeO.ite ?_ ?_)
      | (with_reducible refine LeO.bind ?_ (fun _ => ?_))
      | exact ih0 _ _ _ _ _ _
      | exact LeO.none _
      | refine LeO.ite ?_ ?_
      | refine LeO.bind ?_ (fun _ => ?_)
set_option maxHeartbeats 8000000 in
set_option maxRecDepth 100000 in
theorem impl_Prefix.calls (k : Nat) (A0 : Option Addr) (c0 : Nat) (l0 : List (S87)) (r1 : List (S87)) (r2 : Bool) (w : World) (hr0 : Kd.C k87 w A0 l0.length l0) (hc0 : l0.length ≤ c0) (h : impl_Prefix.f k l0 = some (r1,r2)) :
    Calls Try.prog 69 #[.slice A0 l0.length c0] w fun e w' => ∃ v0_ : Value,e = .returned (.tuple #[v0_,.bool r2]) ∧ Kd.R k87 87 w' w.heap.size (fun _ => True) v0_ r1 ∧ Below w.heap.size w w' := by
  have hu87 := Try.underlying87
  have HR0 := Aside0.mk hr0
  have HC0 := Aside0.mk hc0
  clear hr0 hc0
  have HB := Aside0.mk (Below.refl w.heap.size w)
  have H : (impl_Prefix.l0 k (([] : List (S87))) l0 (l0.length : Int) 0 0 0) = some (r1,r2) := h
  clear h
  obtain ⟨y177,hy177⟩ : ∃ y_ : List (S87),y_ = (([] : List (S87))) := ⟨_,rfl⟩
  replace H : (impl_Prefix.l0 k y177 l0 (l0.length : Int) 0 0 0) = some (r1,r2) := by first | (rw [hy177];with_reducible exact H) | (have H2_ := (Option.bind_some _ _).symm.trans H;rw [hy177];with_reducible exact H2_) | (have H2_ := (Option.bind_some _ _).symm.trans H;with_reducible exact H2_) | with_reducible exact H | (rw [hy177];exact H) | exact H
  have Ny177 := Aside0.mk hy177
  clear hy177
  have H' := Aside0.mk H
  clear H
  go_enter Try.func69,Try.ntmps69
  go_wp2_with (first | ((with_reducible refine gate_dst (N := 10) rfl ?_);refine Kd.R_lit k87 _ 87 ?hg (N := 10) ?hd (xs := ([] : List (S87))) (inner := []) (ok := fun _ => True) (okp := fun _ => True) ?hr ?hp (fun _ hk => hk) trivial (Below.refl _ _) (Nat.le_refl _) (by simp) ?_;(case hd => rfl);(case hg => rfl);(case hr => first | (go_simp;done) | (go_simp;rfl));(case hp => exact (Reps.none _ _));intro v178 w2 ho3 hb hg_ hnew_;clear hg_ hnew_;(first | rw [← Ny177.out] at ho3 | (simp only [Int.reduceToNat] at ho3;rw [← Ny177.out] at ho3));have n0_ := Aside0.mk (Kd.R_lower ho3 (below_size (by repeat (first | (with_reducible first | exact HB.out | apply below_alloc | apply pw_below_drewN | apply below_drew1) | exact HB.out))));have n1_ := Aside0.mk (below_step (by repeat (first | (with_reducible first | exact HB.out | apply below_alloc | apply pw_below_drewN | apply below_drew1) | exact HB.out)) hb);clear HB;have HO179 := n0_;have HB := n1_;clear n0_ n1_;clear hb ho3) | ((with_reducible refine gate_dst (N := 5) rfl ?_);refine box_event ?hg (N := 5) ?hd (cs := #[.int .i64 0,.int .i64 0]) (t := 87) ?hr ?_;(case hd => rfl);(case hg => rfl);(case hr => first | (go_simp;done) | (go_simp;rfl));intro gb180 hg w4 hbox hb;have n0_ := Aside0.mk (Kd.R_below (Kd.R_elderB (by (with_reducible repeat (first | apply Kd.R_alloc | apply Kd.R_drewN | apply Kd.R_drew));exact HO179.out) gb180 (Nat.le_of_eq hg.symm)) hb);have n1_ := Aside0.mk (below_step (by repeat (first | (with_reducible first | exact HB.out | apply below_alloc | apply pw_below_drewN | apply below_drew1) | exact HB.out)) hb);have n2_ := Aside0.mk (hbox);have n3_ := Aside0.mk ((by rw [hg];exact (below_size (by repeat (first | (with_reducible first | exact HB.out | apply below_alloc | apply pw_below_drewN | apply below_drew1) | exact HB.out))) : w.heap.size ≤ gb180));have n4_ := Aside0.mk ((by rw [hg];exact (below_size (by repeat (first | (with_reducible first | exact HB.out | apply below_alloc | apply pw_below_drewN | apply below_drew1) | exact HB.out))) : w.heap.size ≤ gb180));clear HO179;clear HB;have HO179 := n0_;have HB := n1_;have BK180 := n2_;have GW180 := n3_;have GE180 := n4_;clear n0_ n1_ n2_ n3_ n4_;clear hb hbox hg;obtain ⟨hcz5_0,hcz5_1,hfz5_0,hfz5_1⟩ := impl_Prefix.cells2 BK180.out))
  go_loopg [4,14] k (fun kq v4 v14 w' => ∃ (x4_1 : List (S87)) (x14_1 : Int) (x181000_1 : Int) (x181001_1 : Int),v14 = .int .i64 x14_1 ∧ Aside0 (impl_Prefix.l0 kq x4_1 l0 (l0.length : Int) x14_1 x181000_1 x181001_1 = some (r1,r2)) ∧ Aside0 (kq ≤ k) ∧ Aside0 (Kd.R k87 87 w' w.heap.size (fun k_ => k_ ≠ gb180) v4 x4_1) ∧ Aside0 (w'.heap[gb180]? = some (.cells #[.int .i64 x181000_1,.int .i64 x181001_1] 87 (0,0))) ∧ Aside0 (Below w.heap.size w w'))
  case atStart => exact ⟨(y177),(0),(0),(0),(by first | rfl | (simp;done) | (simp [*];done)),H',⟨Nat.le_refl _⟩,⟨by (with_reducible repeat (first | apply Kd.R_alloc | apply Kd.R_drewN | apply Kd.R_drew));exact Kd.R_mono (Kd.R_far (p := ⟨gb180,1,none⟩) (Kd.R_far (p := ⟨gb180,0,none⟩) (Kd.R_mono HO179.out (fun k_ hk => (⟨hk,hk.2⟩ : _ ∧ k_ ≠ gb180))) (fun _ hk => hk.2) (.int .i64 0)) (fun _ hk => hk.2) (.int .i64 0)) (fun _ hk => hk.1.2)⟩,⟨by refine bP ?_;refine blk_put (cs := #[.int .i64 0,.int .i64 0]) ?_ 1 _ rfl;refine bP ?_;refine blk_put (cs := #[.int .i64 0,.int .i64 0]) ?_ 0 _ rfl;refine bP ?_;exact BK180.out⟩,⟨by repeat (first | (with_reducible first | exact HB.out | apply below_alloc | apply pw_below_drewN | apply below_drew1 | refine below_set ?_ GE180.out) | exact HB.out)⟩⟩
  case round =>
    clear H'
    try clear p2
    try clear hcz5_0
    try clear hcz5_1
    try clear hfz5_0
    try clear hfz5_1
    obtain ⟨x4_1,x14_1,x181000_1,x181001_1,rfl,HA,HK1,HO_4,BK180,HB⟩ := hrel
    cases gk with
    | zero => exact absurd HA.out (by simp [impl_Prefix.l0])
    | succ k1 =>
      have H := HA.out
      clear HA
      simp only [impl_Prefix.l0] at H
      by_cases c6 : x14_1 < (l0.length : Int)
      · rw [if_pos c6] at H
        have c6b0 : decide (x14_1 < (l0.length : Int)) = true := decide_eq_true c6
        clear c6
        by_cases c7 : 0 ≤ x14_1
        · rw [if_pos c7] at H
          have c7b0 : decide (0 ≤ x14_1) = true := decide_eq_true c7
          clear c7
          by_cases c8 : x14_1 < (l0.length : Int)
          · rw [if_pos c8] at H
            have c8b0 : decide (x14_1 < (l0.length : Int)) = true := decide_eq_true c8
            clear c8
            replace H := Option.bind_eq_some_iff.mp H
            obtain ⟨⟨t183,t184,t185⟩,A90,H⟩ := H
            replace H : (if t185 = true then (if x4_1.length < 8796093022208 then (impl_Prefix.l0 k1 (x4_1 ++ [(⟨t183,t184⟩ : S87)]) l0 (l0.length : Int) (wrap64 (x14_1 + 1)) t183 t184) else (none)) else (some (([] : List (S87)),false))) = some (r1,r2) := H
            have A9 := Aside0.mk A90
            clear A90
            by_cases c10 : t185 = true
            · subst c10
              have H1 : (if x4_1.length < 8796093022208 then (impl_Prefix.l0 k1 (x4_1 ++ [(⟨t183,t184⟩ : S87)]) l0 (l0.length : Int) (wrap64 (x14_1 + 1)) t183 t184) else (none)) = some (r1,r2) := by rw [if_pos rfl] at H;exact H
              clear H
              have H := H1
              clear H1
              by_cases c11 : x4_1.length < 8796093022208
              · rw [if_pos c11] at H
                have LMc11 := Aside0.mk c11
                clear c11
                obtain ⟨y187,hy187⟩ : ∃ y_ : List (S87),y_ = (x4_1 ++ [(⟨t183,t184⟩ : S87)]) := ⟨_,rfl⟩
                replace H : (impl_Prefix.l0 k1 y187 l0 (l0.length : Int) (wrap64 (x14_1 + 1)) t183 t184) = some (r1,r2) := by first | (rw [hy187];with_reducible exact H) | (have H2_ := (Option.bind_some _ _).symm.trans H;rw [hy187];with_reducible exact H2_) | (have H2_ := (Option.bind_some _ _).symm.trans H;with_reducible exact H2_) | with_reducible exact H | (rw [hy187];exact H) | exact H
                have Ny187 := Aside0.mk hy187
                clear hy187
                have H' := Aside0.mk H
                clear H
                have p181 : 0 ≤ (x14_1 : Int) := of_decide_eq_true (by first | (with_reducible assumption) | assumption)
                have q181 : x14_1 < (l0.length : Int) := of_decide_eq_true (by first | (with_reducible assumption) | assumption)
                obtain ⟨ad181,e181,hx181_0,hx181_1⟩ := at_T87 HR0.out x14_1 p181 q181
                cases e181
                replace hx181_0 := (HB.out.cell (World.block_lt_of_cell? w _ hx181_0)).trans hx181_0
                replace hx181_1 := (HB.out.cell (World.block_lt_of_cell? w _ hx181_1)).trans hx181_1
                replace p181 := eq_true p181
                replace q181 := eq_true q181
                try go_wp2_with (first | ((with_reducible refine gate_dst (N := 7) rfl ?_);refine box_event ?hg (N := 7) ?hd (cs := #[.int .i64 0,.int .i64 0]) (t := 87) ?hr ?_;(case hd => rfl);(case hg => rfl);(case hr => first | (go_simp;done) | (go_simp;rfl));intro gb182 hg w12 hbox hb;have n0_ := Aside0.mk (Kd.R_below (Kd.R_elderB (by (with_reducible repeat (first | apply Kd.R_alloc | apply Kd.R_drewN | apply Kd.R_drew));exact HO_4.out) gb182 (Nat.le_of_eq hg.symm)) hb);have n1_ := Aside0.mk (blk_below (g := gb180) (o := .cells #[.int .i64 x181000_1,.int .i64 x181001_1] 87 (0,0)) (by refine bP ?_;exact BK180.out) hb);have n2_ := Aside0.mk (below_step (by repeat (first | (with_reducible first | exact HB.out | apply below_alloc | apply pw_below_drewN | apply below_drew1 | refine below_set ?_ GE180.out) | exact HB.out)) hb);have n3_ := Aside0.mk (hbox);have n4_ := Aside0.mk ((by rw [hg];exact (below_size (by repeat (first | (with_reducible first | exact HB.out | apply below_alloc | apply pw_below_drewN | apply below_drew1 | refine below_set ?_ GE180.out) | exact HB.out))) : w.heap.size ≤ gb182));have n5_ := Aside0.mk ((by rw [hg];exact (below_size (by repeat (first | (with_reducible first | exact HB.out | apply below_alloc | apply pw_below_drewN | apply below_drew1 | refine below_set ?_ GE180.out) | exact HB.out))) : w.heap.size ≤ gb182));have n6_ := Aside0.mk ((by rw [hg];exact Nat.ne_of_lt (blk_lt (g := gb180) (o := .cells #[.int .i64 x181000_1,.int .i64 x181001_1] 87 (0,0)) (by refine bP ?_;exact BK180.out)) : gb180 ≠ gb182));have n7_ := Aside0.mk ((by rw [hg];exact Nat.ne_of_gt (blk_lt (g := gb180) (o := .cells #[.int .i64 x181000_1,.int .i64 x181001_1] 87 (0,0)) (by refine bP ?_;exact BK180.out)) : gb182 ≠ gb180));clear HO_4;clear BK180;clear HB;have HO_4 := n0_;have BK180 := n1_;have HB := n2_;have BK182 := n3_;have GW182 := n4_;have GE182 := n5_;have NB180_182 := n6_;have NB182_180 := n7_;clear n0_ n1_ n2_ n3_ n4_ n5_ n6_ n7_;clear hb hbox hg;have hnb13 := NB182_180.out;have hnc13 := NB180_182.out;obtain ⟨hcz14_0,hcz14_1,hfz14_0,hfz14_1⟩ := impl_Prefix.cells2 BK182.out;obtain ⟨hcz15_0,hcz15_1,hfz15_0,hfz15_1⟩ := impl_Prefix.cells2 BK180.out) | ((with_reducible refine gate_callee (f := 87) rfl ?_);refine goesL_ (some 21) rfl rfl Try.func87 (by kernel_rfl) rfl #[.agg #[.int .i64 x181000_1,.int .i64 x181001_1],.agg #[.int .i64 ((rd_T87 l0 x14_1).f0),.int .i64 ((rd_T87 l0 x14_1).f1)]] rfl (by (try simp only [List.map_toArray,List.map_cons,List.map_nil]);first | done | rfl | (simp only [List.length_drop,List.length_take];rfl)) ?_;(with_reducible refine (impl_Slot_plus.calls x181000_1 x181001_1 ((rd_T87 l0 x14_1).f0) ((rd_T87 l0 x14_1).f1) t183 t184 true _ A9.out).mono ?_);rintro e w16 ⟨rfl,hb⟩;refine ⟨_,rfl,?_⟩;have n0_ := Aside0.mk (Kd.R_below (by (with_reducible repeat (first | apply Kd.R_alloc | apply Kd.R_drewN | apply Kd.R_drew));exact (Kd.R_mono (Kd.R_far (p := ⟨gb182,1,none⟩) (Kd.R_far (p := ⟨gb182,0,none⟩) (Kd.R_mono HO_4.out (fun k_ hk => (⟨hk,hk.2⟩ : _ ∧ k_ ≠ gb182))) (fun _ hk => hk.2) (.int .i64 ((rd_T87 l0 x14_1).f0))) (fun _ hk => hk.2) (.int .i64 ((rd_T87 l0 x14_1).f1))) (fun _ h_ => h_.1))) hb);have n1_ := Aside0.mk (blk_below (g := gb180) (o := .cells #[.int .i64 x181000_1,.int .i64 x181001_1] 87 (0,0)) (by refine bP ?_;refine blk_far ?_ NB180_182.out _;refine bP ?_;refine blk_far ?_ NB180_182.out _;refine bP ?_;exact BK180.out) hb);have n2_ := Aside0.mk (blk_below (g := gb182) (o := .cells #[.int .i64 ((rd_T87 l0 x14_1).f0),.int .i64 ((rd_T87 l0 x14_1).f1)] 87 (0,0)) (by refine bP ?_;refine blk_put (cs := #[.int .i64 ((rd_T87 l0 x14_1).f0),.int .i64 0]) ?_ 1 _ rfl;refine bP ?_;refine blk_put (cs := #[.int .i64 0,.int .i64 0]) ?_ 0 _ rfl;refine bP ?_;exact BK182.out) hb);have n3_ := Aside0.mk (below_step (by repeat (first | (with_reducible first | exact HB.out | apply below_alloc | apply pw_below_drewN | apply below_drew1 | refine below_set ?_ GE180.out | refine below_set ?_ GE182.out) | exact HB.out)) hb);clear HO_4;clear BK180;clear BK182;clear HB;have HO_4 := n0_;have BK180 := n1_;have BK182 := n2_;have HB := n3_;clear n0_ n1_ n2_ n3_;(try clear hb);(try clear hb2);(try clear hk);(try clear hi)) | ((with_reducible refine gate_dst (N := 8) rfl ?_);refine box_event ?hg (N := 8) ?hd (cs := #[.int .i64 0,.int .i64 0]) (t := 87) ?hr ?_;(case hd => rfl);(case hg => rfl);(case hr => first | (go_simp;done) | (go_simp;rfl));intro gb186 hg w17 hbox hb;have n0_ := Aside0.mk (Kd.R_below (Kd.R_elderB (by (with_reducible repeat (first | apply Kd.R_alloc | apply Kd.R_drewN | apply Kd.R_drew));exact HO_4.out) gb186 (Nat.le_of_eq hg.symm)) hb);have n1_ := Aside0.mk (blk_below (g := gb180) (o := .cells #[.int .i64 x181000_1,.int .i64 x181001_1] 87 (0,0)) (by refine bP ?_;exact BK180.out) hb);have n2_ := Aside0.mk (blk_below (g := gb182) (o := .cells #[.int .i64 ((rd_T87 l0 x14_1).f0),.int .i64 ((rd_T87 l0 x14_1).f1)] 87 (0,0)) (by refine bP ?_;exact BK182.out) hb);have n3_ := Aside0.mk (below_step (by repeat (first | (with_reducible first | exact HB.out | apply below_alloc | apply pw_below_drewN | apply below_drew1 | refine below_set ?_ GE180.out | refine below_set ?_ GE182.out) | exact HB.out)) hb);have n4_ := Aside0.mk (hbox);have n5_ := Aside0.mk ((by rw [hg];exact (below_size (by repeat (first | (with_reducible first | exact HB.out | apply below_alloc | apply pw_below_drewN | apply below_drew1 | refine below_set ?_ GE180.out | refine below_set ?_ GE182.out) | exact HB.out))) : w.heap.size ≤ gb186));have n6_ := Aside0.mk ((by rw [hg];exact (below_size (by repeat (first | (with_reducible first | exact HB.out | apply below_alloc | apply pw_below_drewN | apply below_drew1 | refine below_set ?_ GE180.out | refine below_set ?_ GE182.out) | exact HB.out))) : w.heap.size ≤ gb186));have n7_ := Aside0.mk ((by rw [hg];exact Nat.ne_of_lt (blk_lt (g := gb180) (o := .cells #[.int .i64 x181000_1,.int .i64 x181001_1] 87 (0,0)) (by refine bP ?_;exact BK180.out)) : gb180 ≠ gb186));have n8_ := Aside0.mk ((by rw [hg];exact Nat.ne_of_gt (blk_lt (g := gb180) (o := .cells #[.int .i64 x181000_1,.int .i64 x181001_1] 87 (0,0)) (by refine bP ?_;exact BK180.out)) : gb186 ≠ gb180));have n9_ := Aside0.mk ((by rw [hg];exact Nat.ne_of_lt (blk_lt (g := gb182) (o := .cells #[.int .i64 ((rd_T87 l0 x14_1).f0),.int .i64 ((rd_T87 l0 x14_1).f1)] 87 (0,0)) (by refine bP ?_;exact BK182.out)) : gb182 ≠ gb186));have n10_ := Aside0.mk ((by rw [hg];exact Nat.ne_of_gt (blk_lt (g := gb182) (o := .cells #[.int .i64 ((rd_T87 l0 x14_1).f0),.int .i64 ((rd_T87 l0 x14_1).f1)] 87 (0,0)) (by refine bP ?_;exact BK182.out)) : gb186 ≠ gb182));clear HO_4;clear BK180;clear BK182;clear HB;have HO_4 := n0_;have BK180 := n1_;have BK182 := n2_;have HB := n3_;have BK186 := n4_;have GW186 := n5_;have GE186 := n6_;have NB180_186 := n7_;have NB186_180 := n8_;have NB182_186 := n9_;have NB186_182 := n10_;clear n0_ n1_ n2_ n3_ n4_ n5_ n6_ n7_ n8_ n9_ n10_;clear hb hbox hg;have hnb18 := NB186_180.out;have hnc18 := NB180_186.out;have hnb19 := NB186_182.out;have hnc19 := NB182_186.out;obtain ⟨hcz20_0,hcz20_1,hfz20_0,hfz20_1⟩ := impl_Prefix.cells2 BK186.out))
                have n0_ : Aside0 (Kd.R k87 87 ((w17.setCell ⟨gb186,0,none⟩ (.int .i64 t183)).setCell ⟨gb186,1,none⟩ (.int .i64 t184)) w.heap.size (fun k_ => k_ ≠ gb180 ∧ k_ ≠ gb182 ∧ k_ ≠ gb186) u4 x4_1) := ⟨by (with_reducible repeat (first | apply Kd.R_alloc | apply Kd.R_drewN | apply Kd.R_drew));exact Kd.R_mono (Kd.R_far (p := ⟨gb186,1,none⟩) (Kd.R_far (p := ⟨gb186,0,none⟩) (Kd.R_mono HO_4.out (fun k_ hk => (⟨hk,hk.2⟩ : _ ∧ k_ ≠ gb186))) (fun _ hk => hk.2) (.int .i64 t183)) (fun _ hk => hk.2) (.int .i64 t184)) (fun _ hk => ⟨hk.1.1.1,⟨hk.1.1.2,hk.1.2⟩⟩)⟩
                have n1_ : Aside0 (((w17.setCell ⟨gb186,0,none⟩ (.int .i64 t183)).setCell ⟨gb186,1,none⟩ (.int .i64 t184)).heap[gb180]? = some (.cells #[.int .i64 x181000_1,.int .i64 x181001_1] 87 (0,0))) := ⟨by refine bP ?_;refine blk_far ?_ NB180_186.out _;refine bP ?_;refine blk_far ?_ NB180_186.out _;refine bP ?_;exact BK180.out⟩
                have n2_ : Aside0 (((w17.setCell ⟨gb186,0,none⟩ (.int .i64 t183)).setCell ⟨gb186,1,none⟩ (.int .i64 t184)).heap[gb182]? = some (.cells #[.int .i64 ((rd_T87 l0 x14_1).f0),.int .i64 ((rd_T87 l0 x14_1).f1)] 87 (0,0))) := ⟨by refine bP ?_;refine blk_far ?_ NB182_186.out _;refine bP ?_;refine blk_far ?_ NB182_186.out _;refine bP ?_;exact BK182.out⟩
                have n3_ : Aside0 (((w17.setCell ⟨gb186,0,none⟩ (.int .i64 t183)).setCell ⟨gb186,1,none⟩ (.int .i64 t184)).heap[gb186]? = some (.cells #[.int .i64 t183,.int .i64 t184] 87 (0,0))) := ⟨by refine bP ?_;refine blk_put (cs := #[.int .i64 t183,.int .i64 0]) ?_ 1 _ rfl;refine bP ?_;refine blk_put (cs := #[.int .i64 0,.int .i64 0]) ?_ 0 _ rfl;refine bP ?_;exact BK186.out⟩
                have n4_ : Aside0 (Below w.heap.size w ((w17.setCell ⟨gb186,0,none⟩ (.int .i64 t183)).setCell ⟨gb186,1,none⟩ (.int .i64 t184))) := ⟨by repeat (first | (with_reducible first | exact HB.out | apply below_alloc | apply pw_below_drewN | apply below_drew1 | refine below_set ?_ GE180.out | refine below_set ?_ GE182.out | refine below_set ?_ GE186.out) | exact HB.out)⟩
                (try clear HO_4)
                (try clear BK180)
                (try clear BK182)
                (try clear BK186)
                (try clear HB)
                generalize ((w17.setCell ⟨gb186,0,none⟩ (.int .i64 t183)).setCell ⟨gb186,1,none⟩ (.int .i64 t184)) = w21 at n0_ n1_ n2_ n3_ n4_ ⊢
                have HO_4 := n0_
                have BK180 := n1_
                have BK182 := n2_
                have BK186 := n3_
                have HB := n4_
                clear n0_ n1_ n2_ n3_ n4_
                have n0_ := Aside0.mk (Kd.R_drew HO_4.out)
                have n1_ := Aside0.mk (blk_drew BK180.out)
                have n2_ := Aside0.mk (blk_drew BK182.out)
                have n3_ := Aside0.mk (blk_drew BK186.out)
                have n4_ := Aside0.mk (below_drew1 HB.out)
                clear HO_4
                clear BK180
                clear BK182
                clear BK186
                clear HB
                have HO_4 := n0_
                have BK180 := n1_
                have BK182 := n2_
                have BK186 := n3_
                have HB := n4_
                clear n0_ n1_ n2_ n3_ n4_
                refine start_ (n := 7) (S := fun w' => w'.cell? ⟨gb186,0,none⟩ = some (.int .i64 t183) ∧ w'.cell? ⟨gb186,1,none⟩ = some (.int .i64 t184)) (ds := []) #[false,false,false,false,false,false,false] (by kernel_rfl) rfl rfl ⟨(blk_cell BK186.out 0).trans rfl,(blk_cell BK186.out 1).trans rfl⟩ (fun hHeld => ?_)
                generalize w21.drew = w22 at HO_4 BK180 BK182 BK186 HB hHeld ⊢
                refine pure_ (i := 1) (N := some 27) (v := ?_) (a' := ?_) #[false,true,false,false,false,false,false] rfl rfl (by kernel_rfl) (fun _ _ _ h => h) (Or.inl ⟨by rfl,?_⟩) ?_ ?_
                rotate_left
                · intro w'
                  go_simp
                  with_reducible rfl
                rotate_left
                · simp only [Act.put,List.setIfInBounds_toArray,List.set_cons_zero,List.set_cons_succ,i64_w,i32_w]
                  rfl
                refine take_ (i := 0) (N := some 26) (v := ?_) (a' := ?_) #[true,true,false,false,false,false,false] rfl rfl (by kernel_rfl) (fun _ _ _ h => h) (Or.inl ⟨by rfl,?_⟩) hHeld ?_ ?_
                rotate_left
                · rintro w' ⟨s0,s1⟩
                  go_simp
                  with_reducible rfl
                rotate_left
                · simp only [Act.put,List.setIfInBounds_toArray,List.set_cons_zero,List.set_cons_succ,i64_w,i32_w]
                  rfl
                refine take_ (i := 2) (N := some 28) (v := ?_) (a' := ?_) #[true,true,true,false,false,false,false] rfl rfl (by kernel_rfl) (fun _ _ _ h => h) (Or.inl ⟨by rfl,?_⟩) hHeld ?_ ?_
                rotate_left
                · rintro w' ⟨s0,s1⟩
                  go_simp
                  with_reducible rfl
                rotate_left
                · simp only [Act.put,List.setIfInBounds_toArray,List.set_cons_zero,List.set_cons_succ,i64_w,i32_w]
                  rfl
                refine one_ (i := 3) (N := some 29) #[true,true,true,true,false,false,false] rfl rfl (by kernel_rfl) (by decide) (fun K hK => ?_)
                refine value_ (w1 := ?_) (v := ?_) (by rfl) rfl ?_ ?_
                rotate_left 2
                · go_simp
                  constructor
                  · rfl
                  · rfl
                refine hK.out _ _ ⟨(blk_cell (blk_alloc BK186.out _) 0).trans rfl,(blk_cell (blk_alloc BK186.out _) 1).trans rfl⟩ (fun hHeld => ?_)
                clear hK K
                refine norm_ (a' := ?_) ?_ ?_
                rotate_left
                · show Act.put _ (some 29) _ = _
                  simp only [Act.put,List.setIfInBounds_toArray,List.set_cons_zero,List.set_cons_succ,i64_w,i32_w]
                  rfl
                refine one_ (i := 4) (N := some 30) #[true,true,true,true,true,false,false] rfl rfl (by kernel_rfl) (by decide) (fun K hK => ?_)
                refine Kd.R_append_step k87 (w0 := w) w.heap.size (by rfl) (.tmp 27) (.tmp 29) 83 87 (.agg #[(.int .i64 0),(.int .i64 0)]) 16 rfl Try.underlying83 info87 rfl (by decide) (by omega) u4 x4_1 (⟨t183,t184⟩ : S87) [.int .i64 t183,.int .i64 t184] (fun k_ => k_ ≠ gb180 ∧ k_ ≠ gb182 ∧ k_ ≠ gb186) (fun _ => False) rfl rfl ?aP (fun _ hk => hk.elim) ?aF ?aO ?aB ?aS ?aL ?_
                (case aP => exact k87_mkM _ _ _ (⟨t183,t184⟩ : S87))
                (case aB => exact (by repeat (first | (with_reducible first | exact HB.out | apply below_alloc | apply pw_below_drewN | apply below_drew1 | refine below_set ?_ GE180.out | refine below_set ?_ GE182.out | refine below_set ?_ GE186.out) | exact HB.out)))
                (case aF => exact (fun k_ hk => ⟨Kd.freshB (g := gb180) (o := .cells #[.int .i64 x181000_1,.int .i64 x181001_1] 87 (0,0)) (by refine bP ?_;exact BK180.out) k_ hk,Kd.freshB (g := gb182) (o := .cells #[.int .i64 ((rd_T87 l0 x14_1).f0),.int .i64 ((rd_T87 l0 x14_1).f1)] 87 (0,0)) (by refine bP ?_;exact BK182.out) k_ hk,Kd.freshB (g := gb186) (o := .cells #[.int .i64 t183,.int .i64 t184] 87 (0,0)) (by refine bP ?_;exact BK186.out) k_ hk⟩))
                (case aO => exact (by (with_reducible repeat (first | apply Kd.R_alloc | apply Kd.R_drewN | apply Kd.R_drew));exact HO_4.out))
                (case aS => exact (below_size (by repeat (first | (with_reducible first | exact HB.out | apply below_alloc | apply pw_below_drewN | apply below_drew1 | refine below_set ?_ GE180.out | refine below_set ?_ GE182.out | refine below_set ?_ GE186.out) | exact HB.out))))
                (case aL => have := LMc11.out;omega)
                intro v188 w23 ho hb hg hat
                rw [← Ny187.out] at ho
                have n0_ := Aside0.mk (blk_grown (g := gb180) (o := .cells #[.int .i64 x181000_1,.int .i64 x181001_1] 87 (0,0)) (by refine bP ?_;exact BK180.out) hg (Kd.R_away HO_4.out (fun _ hk => hk.1)))
                have n1_ := Aside0.mk (blk_grown (g := gb182) (o := .cells #[.int .i64 ((rd_T87 l0 x14_1).f0),.int .i64 ((rd_T87 l0 x14_1).f1)] 87 (0,0)) (by refine bP ?_;exact BK182.out) hg (Kd.R_away HO_4.out (fun _ hk => hk.2.1)))
                have n2_ := Aside0.mk (blk_grown (g := gb186) (o := .cells #[.int .i64 t183,.int .i64 t184] 87 (0,0)) (by refine bP ?_;exact BK186.out) hg (Kd.R_away HO_4.out (fun _ hk => hk.2.2)))
                have n3_ := Aside0.mk (hb)
                have n4_ := Aside0.mk (ho)
                clear BK180
                clear BK182
                clear BK186
                clear HB
                clear HO_4
                have BK180 := n0_
                have BK182 := n1_
                have BK186 := n2_
                have HB := n3_
                have HO189 := n4_
                clear n0_ n1_ n2_ n3_ n4_
                clear ho hb hg hat
                refine hK.out _ _ ⟨(blk_cell BK186.out 0).trans rfl,(blk_cell BK186.out 1).trans rfl⟩ (fun hHeld => ?_)
                clear hK K
                refine norm_ (a' := ?_) ?_ ?_
                rotate_left
                · show Act.put _ (some 30) _ = _
                  simp only [Act.put,List.setIfInBounds_toArray,List.set_cons_zero,List.set_cons_succ,i64_w,i32_w]
                  rfl
                refine one_ (i := 5) (N := none) #[true,true,true,true,true,true,false] rfl rfl (by kernel_rfl) (by decide) (fun K hK => ?_)
                have hs24 : w23.cell? ⟨gb180,0,none⟩ = some (.int .i64 x181000_1) := (blk_cell BK180.out 0).trans rfl
                have hfs24 := blk_frozen BK180.out 0
                have hns24_1 := NB182_180.out
                have hns24_2 := NB186_180.out
                have hms24_1 := NB180_182.out
                have hms24_2 := NB180_186.out
                have hs25 : w23.cell? ⟨gb180,1,none⟩ = some (.int .i64 x181001_1) := (blk_cell BK180.out 1).trans rfl
                have hfs25 := blk_frozen BK180.out 1
                have hns25_1 := NB182_180.out
                have hns25_2 := NB186_180.out
                have hms25_1 := NB180_182.out
                have hms25_2 := NB180_186.out
                refine skip_ (w1 := ?_) (by rfl) rfl ?_ ?_
                rotate_left
                · go_simp
                  rfl
                refine hK.out _ _ ⟨((cell_far (p := ⟨gb180,_,none⟩) NB186_180.out _).trans (((cell_far (p := ⟨gb180,_,none⟩) NB186_180.out _).trans (hHeld.1)))),((cell_far (p := ⟨gb180,_,none⟩) NB186_180.out _).trans (((cell_far (p := ⟨gb180,_,none⟩) NB186_180.out _).trans (hHeld.2))))⟩ (fun hHeld => ?_)
                clear hK K
                refine pure_ (i := 6) (N := some 4) (v := ?_) (a' := ?_) #[true,true,true,true,true,true,true] rfl rfl (by kernel_rfl) (fun _ _ _ h => h) (Or.inl ⟨by rfl,?_⟩) ?_ ?_
                rotate_left
                · intro w'
                  go_simp
                  with_reducible rfl
                rotate_left
                · simp only [Act.put,List.setIfInBounds_toArray,List.set_cons_zero,List.set_cons_succ,i64_w,i32_w]
                  rfl
                refine done_ (by kernel_rfl) ?_
                try go_wp2
                go_roundg k1
                case measure => have := HK1.out;omega
                case rel => exact ⟨(y187),(wrap64 (x14_1 + 1)),(t183),(t184),(by first | rfl | (simp;done) | (simp [*];done)),H',⟨by have := HK1.out;omega⟩,⟨by (with_reducible repeat (first | apply Kd.R_alloc | apply Kd.R_drewN | apply Kd.R_drew));exact Kd.R_mono (Kd.R_far (p := ⟨gb180,1,none⟩) (Kd.R_far (p := ⟨gb180,0,none⟩) (Kd.R_mono HO189.out (fun k_ hk => (⟨hk,hk.1⟩ : _ ∧ k_ ≠ gb180))) (fun _ hk => hk.2) (.int .i64 t183)) (fun _ hk => hk.2) (.int .i64 t184)) (fun _ hk => hk.1.1)⟩,⟨by refine bP ?_;refine blk_put (cs := #[.int .i64 t183,.int .i64 x181001_1]) ?_ 1 _ rfl;refine bP ?_;refine blk_put (cs := #[.int .i64 x181000_1,.int .i64 x181001_1]) ?_ 0 _ rfl;refine bP ?_;exact BK180.out⟩,⟨by repeat (first | (with_reducible first | exact HB.out | apply below_alloc | apply pw_below_drewN | apply below_drew1 | refine below_set ?_ GE180.out | refine below_set ?_ GE182.out | refine below_set ?_ GE186.out) | exact HB.out)⟩⟩
              · rw [if_neg c11] at H
                exact absurd H (by simp)
            · replace c10 := Bool.eq_false_iff.mpr c10
              subst c10
              have H1 : (some (([] : List (S87)),false)) = some (r1,r2) := by rw [if_neg (show ¬ (false = true) by decide)] at H;exact H
              clear H
              have H := H1
              clear H1
              simp only [Option.some.injEq,Prod.mk.injEq] at H
              obtain ⟨rfl,rfl⟩ := H
              have p181 : 0 ≤ (x14_1 : Int) := of_decide_eq_true (by first | (with_reducible assumption) | assumption)
              have q181 : x14_1 < (l0.length : Int) := of_decide_eq_true (by first | (with_reducible assumption) | assumption)
              obtain ⟨ad181,e181,hx181_0,hx181_1⟩ := at_T87 HR0.out x14_1 p181 q181
              cases e181
              replace hx181_0 := (HB.out.cell (World.block_lt_of_cell? w _ hx181_0)).trans hx181_0
              replace hx181_1 := (HB.out.cell (World.block_lt_of_cell? w _ hx181_1)).trans hx181_1
              replace p181 := eq_true p181
              replace q181 := eq_true q181
              go_wp2_with (first | ((with_reducible refine gate_dst (N := 7) rfl ?_);refine box_event ?hg (N := 7) ?hd (cs := #[.int .i64 0,.int .i64 0]) (t := 87) ?hr ?_;(case hd => rfl);(case hg => rfl);(case hr => first | (go_simp;done) | (go_simp;rfl));intro gb182 hg w26 hbox hb;have n0_ := Aside0.mk (Kd.R_below (Kd.R_elderB (by (with_reducible repeat (first | apply Kd.R_alloc | apply Kd.R_drewN | apply Kd.R_drew));exact HO_4.out) gb182 (Nat.le_of_eq hg.symm)) hb);have n1_ := Aside0.mk (blk_below (g := gb180) (o := .cells #[.int .i64 x181000_1,.int .i64 x181001_1] 87 (0,0)) (by refine bP ?_;exact BK180.out) hb);have n2_ := Aside0.mk (below_step (by repeat (first | (with_reducible first | exact HB.out | apply below_alloc | apply pw_below_drewN | apply below_drew1 | refine below_set ?_ GE180.out) | exact HB.out)) hb);have n3_ := Aside0.mk (hbox);have n4_ := Aside0.mk ((by rw [hg];exact (below_size (by repeat (first | (with_reducible first | exact HB.out | apply below_alloc | apply pw_below_drewN | apply below_drew1 | refine below_set ?_ GE180.out) | exact HB.out))) : w.heap.size ≤ gb182));have n5_ := Aside0.mk ((by rw [hg];exact (below_size (by repeat (first | (with_reducible first | exact HB.out | apply below_alloc | apply pw_below_drewN | apply below_drew1 | refine below_set ?_ GE180.out) | exact HB.out))) : w.heap.size ≤ gb182));have n6_ := Aside0.mk ((by rw [hg];exact Nat.ne_of_lt (blk_lt (g := gb180) (o := .cells #[.int .i64 x181000_1,.int .i64 x181001_1] 87 (0,0)) (by refine bP ?_;exact BK180.out)) : gb180 ≠ gb182));have n7_ := Aside0.mk ((by rw [hg];exact Nat.ne_of_gt (blk_lt (g := gb180) (o := .cells #[.int .i64 x181000_1,.int .i64 x181001_1] 87 (0,0)) (by refine bP ?_;exact BK180.out)) : gb182 ≠ gb180));clear HO_4;clear BK180;clear HB;have HO_4 := n0_;have BK180 := n1_;have HB := n2_;have BK182 := n3_;have GW182 := n4_;have GE182 := n5_;have NB180_182 := n6_;have NB182_180 := n7_;clear n0_ n1_ n2_ n3_ n4_ n5_ n6_ n7_;clear hb hbox hg;have hnb27 := NB182_180.out;have hnc27 := NB180_182.out;obtain ⟨hcz28_0,hcz28_1,hfz28_0,hfz28_1⟩ := impl_Prefix.cells2 BK182.out;obtain ⟨hcz29_0,hcz29_1,hfz29_0,hfz29_1⟩ := impl_Prefix.cells2 BK180.out) | ((with_reducible refine gate_callee (f := 87) rfl ?_);refine goesL_ (some 21) rfl rfl Try.func87 (by kernel_rfl) rfl #[.agg #[.int .i64 x181000_1,.int .i64 x181001_1],.agg #[.int .i64 ((rd_T87 l0 x14_1).f0),.int .i64 ((rd_T87 l0 x14_1).f1)]] rfl (by (try simp only [List.map_toArray,List.map_cons,List.map_nil]);first | done | rfl | (simp only [List.length_drop,List.length_take];rfl)) ?_;(with_reducible refine (impl_Slot_plus.calls x181000_1 x181001_1 ((rd_T87 l0 x14_1).f0) ((rd_T87 l0 x14_1).f1) t183 t184 false _ A9.out).mono ?_);rintro e w30 ⟨rfl,hb⟩;refine ⟨_,rfl,?_⟩;have n0_ := Aside0.mk (Kd.R_below (by (with_reducible repeat (first | apply Kd.R_alloc | apply Kd.R_drewN | apply Kd.R_drew));exact (Kd.R_mono (Kd.R_far (p := ⟨gb182,1,none⟩) (Kd.R_far (p := ⟨gb182,0,none⟩) (Kd.R_mono HO_4.out (fun k_ hk => (⟨hk,hk.2⟩ : _ ∧ k_ ≠ gb182))) (fun _ hk => hk.2) (.int .i64 ((rd_T87 l0 x14_1).f0))) (fun _ hk => hk.2) (.int .i64 ((rd_T87 l0 x14_1).f1))) (fun _ h_ => h_.1))) hb);have n1_ := Aside0.mk (blk_below (g := gb180) (o := .cells #[.int .i64 x181000_1,.int .i64 x181001_1] 87 (0,0)) (by refine bP ?_;refine blk_far ?_ NB180_182.out _;refine bP ?_;refine blk_far ?_ NB180_182.out _;refine bP ?_;exact BK180.out) hb);have n2_ := Aside0.mk (blk_below (g := gb182) (o := .cells #[.int .i64 ((rd_T87 l0 x14_1).f0),.int .i64 ((rd_T87 l0 x14_1).f1)] 87 (0,0)) (by refine bP ?_;refine blk_put (cs := #[.int .i64 ((rd_T87 l0 x14_1).f0),.int .i64 0]) ?_ 1 _ rfl;refine bP ?_;refine blk_put (cs := #[.int .i64 0,.int .i64 0]) ?_ 0 _ rfl;refine bP ?_;exact BK182.out) hb);have n3_ := Aside0.mk (below_step (by repeat (first | (with_reducible first | exact HB.out | apply below_alloc | apply pw_below_drewN | apply below_drew1 | refine below_set ?_ GE180.out | refine below_set ?_ GE182.out) | exact HB.out)) hb);clear HO_4;clear BK180;clear BK182;clear HB;have HO_4 := n0_;have BK180 := n1_;have BK182 := n2_;have HB := n3_;clear n0_ n1_ n2_ n3_;(try clear hb);(try clear hb2);(try clear hk);(try clear hi)) | ((with_reducible refine gate_dst (N := 8) rfl ?_);refine box_event ?hg (N := 8) ?hd (cs := #[.int .i64 0,.int .i64 0]) (t := 87) ?hr ?_;(case hd => rfl);(case hg => rfl);(case hr => first | (go_simp;done) | (go_simp;rfl));intro gb186 hg w31 hbox hb;have n0_ := Aside0.mk (Kd.R_below (Kd.R_elderB (by (with_reducible repeat (first | apply Kd.R_alloc | apply Kd.R_drewN | apply Kd.R_drew));exact HO_4.out) gb186 (Nat.le_of_eq hg.symm)) hb);have n1_ := Aside0.mk (blk_below (g := gb180) (o := .cells #[.int .i64 x181000_1,.int .i64 x181001_1] 87 (0,0)) (by refine bP ?_;exact BK180.out) hb);have n2_ := Aside0.mk (blk_below (g := gb182) (o := .cells #[.int .i64 ((rd_T87 l0 x14_1).f0),.int .i64 ((rd_T87 l0 x14_1).f1)] 87 (0,0)) (by refine bP ?_;exact BK182.out) hb);have n3_ := Aside0.mk (below_step (by repeat (first | (with_reducible first | exact HB.out | apply below_alloc | apply pw_below_drewN | apply below_drew1 | refine below_set ?_ GE180.out | refine below_set ?_ GE182.out) | exact HB.out)) hb);have n4_ := Aside0.mk (hbox);have n5_ := Aside0.mk ((by rw [hg];exact (below_size (by repeat (first | (with_reducible first | exact HB.out | apply below_alloc | apply pw_below_drewN | apply below_drew1 | refine below_set ?_ GE180.out | refine below_set ?_ GE182.out) | exact HB.out))) : w.heap.size ≤ gb186));have n6_ := Aside0.mk ((by rw [hg];exact (below_size (by repeat (first | (with_reducible first | exact HB.out | apply below_alloc | apply pw_below_drewN | apply below_drew1 | refine below_set ?_ GE180.out | refine below_set ?_ GE182.out) | exact HB.out))) : w.heap.size ≤ gb186));have n7_ := Aside0.mk ((by rw [hg];exact Nat.ne_of_lt (blk_lt (g := gb180) (o := .cells #[.int .i64 x181000_1,.int .i64 x181001_1] 87 (0,0)) (by refine bP ?_;exact BK180.out)) : gb180 ≠ gb186));have n8_ := Aside0.mk ((by rw [hg];exact Nat.ne_of_gt (blk_lt (g := gb180) (o := .cells #[.int .i64 x181000_1,.int .i64 x181001_1] 87 (0,0)) (by refine bP ?_;exact BK180.out)) : gb186 ≠ gb180));have n9_ := Aside0.mk ((by rw [hg];exact Nat.ne_of_lt (blk_lt (g := gb182) (o := .cells #[.int .i64 ((rd_T87 l0 x14_1).f0),.int .i64 ((rd_T87 l0 x14_1).f1)] 87 (0,0)) (by refine bP ?_;exact BK182.out)) : gb182 ≠ gb186));have n10_ := Aside0.mk ((by rw [hg];exact Nat.ne_of_gt (blk_lt (g := gb182) (o := .cells #[.int .i64 ((rd_T87 l0 x14_1).f0),.int .i64 ((rd_T87 l0 x14_1).f1)] 87 (0,0)) (by refine bP ?_;exact BK182.out)) : gb186 ≠ gb182));clear HO_4;clear BK180;clear BK182;clear HB;have HO_4 := n0_;have BK180 := n1_;have BK182 := n2_;have HB := n3_;have BK186 := n4_;have GW186 := n5_;have GE186 := n6_;have NB180_186 := n7_;have NB186_180 := n8_;have NB182_186 := n9_;have NB186_182 := n10_;clear n0_ n1_ n2_ n3_ n4_ n5_ n6_ n7_ n8_ n9_ n10_;clear hb hbox hg;have hnb32 := NB186_180.out;have hnc32 := NB180_186.out;have hnb33 := NB186_182.out;have hnc33 := NB182_186.out;obtain ⟨hcz34_0,hcz34_1,hfz34_0,hfz34_1⟩ := impl_Prefix.cells2 BK186.out))
              go_ret2
              exact ⟨_,by first | rfl | (simp [errW_none,errW_some] <;> rfl) | (simp [*,errW_none,errW_some] <;> rfl),by first | exact Kd.R_nil _ _ _ _ _ | exact Kd.N_nil _ _ _ _ _ | exact Kd.V_nil _ _ _ _ _ | exact Kd.Q_nil _ _ _ _ _ | exact Kd.S_nil _ _ _ _ _,by repeat (first | (with_reducible first | exact HB.out | apply below_alloc | apply pw_below_drewN | apply below_drew1 | refine below_set ?_ GE180.out | refine below_set ?_ GE182.out | refine below_set ?_ GE186.out) | exact HB.out)⟩
          · rw [if_neg c8] at H
            exact absurd H (by simp)
        · rw [if_neg c7] at H
          exact absurd H (by simp)
      · rw [if_neg c6] at H
        have c6b0 : decide (x14_1 < (l0.length : Int)) = false := decide_eq_false c6
        clear c6
        simp only [Option.some.injEq,Prod.mk.injEq] at H
        obtain ⟨rfl,rfl⟩ := H
        go_wp2
        go_ret2
        exact ⟨_,by first | rfl | (simp [errW_none,errW_some] <;> rfl) | (simp [*,errW_none,errW_some] <;> rfl),by (with_reducible repeat (first | apply Kd.R_alloc | apply Kd.R_drewN | apply Kd.R_drew));exact Kd.R_mono HO_4.out (fun _ hk => trivial),by repeat (first | (with_reducible first | exact HB.out | apply below_alloc | apply pw_below_drewN | apply below_drew1 | refine below_set ?_ GE180.out) | exact HB.out)⟩

/-! ### impl_SubInt: function 88 -/
def impl_SubInt.f (a0 : Int) (a1 : Int) : Option (Int × Bool) := if ((decide (a0 < 0)) != (decide (a1 < 0))) = true then (if ((decide ((wrap64 (a0 - a1)) < 0)) != (decide (a0 < 0))) = true then (some (0,false)) else (some (wrap64 (a0 - a1),true))) else (some (wrap64 (a0 - a1),true))
set_option maxHeartbeats 8000000 in
set_option maxRecDepth 100000 in
theorem impl_SubInt.calls (a0 : Int) (a1 : Int) (r1 : Int) (r2 : Bool) (w : World) (h : impl_SubInt.f a0 a1 = some (r1,r2)) :
    Calls Try.prog 88 #[.int .i64 a0,.int .i64 a1] w fun e w' => e = .returned (.tuple #[.int .i64 r1,.bool r2]) ∧ Drawn0 w w' := by
  have H : (if ((decide (a0 < 0)) != (decide (a1 < 0))) = true then (if ((decide ((wrap64 (a0 - a1)) < 0)) != (decide (a0 < 0))) = true then (some (0,false)) else (some (wrap64 (a0 - a1),true))) else (some (wrap64 (a0 - a1),true))) = some (r1,r2) := h
  clear h
  by_cases c3 : ((decide (a0 < 0)) != (decide (a1 < 0))) = true
  · rw [if_pos c3] at H
    have c3b0 : ((decide (a0 < 0)) != (decide (a1 < 0))) = true := c3
    (try (have c3b1 : decide ((decide (a0 < 0)) = (decide (a1 < 0))) = false := by simpa using c3))
    (try (have c3b2 : ((decide (a0 < 0)) == (decide (a1 < 0))) = false := by simpa using c3))
    (try (have c3b3 : ¬ ((decide (a0 < 0)) = (decide (a1 < 0))) := by simpa using c3))
    clear c3
    by_cases c4 : ((decide ((wrap64 (a0 - a1)) < 0)) != (decide (a0 < 0))) = true
    · rw [if_pos c4] at H
      have c4b0 : ((decide ((wrap64 (a0 - a1)) < 0)) != (decide (a0 < 0))) = true := c4
      (try (have c4b1 : decide ((decide ((wrap64 (a0 - a1)) < 0)) = (decide (a0 < 0))) = false := by simpa using c4))
      (try (have c4b2 : ((decide ((wrap64 (a0 - a1)) < 0)) == (decide (a0 < 0))) = false := by simpa using c4))
      (try (have c4b3 : ¬ ((decide ((wrap64 (a0 - a1)) < 0)) = (decide (a0 < 0))) := by simpa using c4))
      clear c4
      simp only [Option.some.injEq,Prod.mk.injEq] at H
      obtain ⟨rfl,rfl⟩ := H
      go_enter Try.func88,Try.ntmps88
      go_wp2
      go_ret2
      exact ⟨by first | rfl | (simp;done) | (simp [*];done),by repeat (first | exact Drawn0.refl _ | apply Drawn0.step)⟩
    · rw [if_neg c4] at H
      have c4b0 : ((decide ((wrap64 (a0 - a1)) < 0)) != (decide (a0 < 0))) = false := by simpa using c4
      (try (have c4b1 : decide ((decide ((wrap64 (a0 - a1)) < 0)) = (decide (a0 < 0))) = true := by simpa using c4))
      (try (have c4b2 : ((decide ((wrap64 (a0 - a1)) < 0)) == (decide (a0 < 0))) = true := by simpa using c4))
      clear c4
      simp only [Option.some.injEq,Prod.mk.injEq] at H
      obtain ⟨rfl,rfl⟩ := H
      go_enter Try.func88,Try.ntmps88
      go_wp2
      go_ret2
      exact ⟨by first | rfl | (simp;done) | (simp [*];done),by repeat (first | exact Drawn0.refl _ | apply Drawn0.step)⟩
  · rw [if_neg c3] at H
    have c3b0 : ((decide (a0 < 0)) != (decide (a1 < 0))) = false := by simpa using c3
    (try (have c3b1 : decide ((decide (a0 < 0)) = (decide (a1 < 0))) = true := by simpa using c3))
    (try (have c3b2 : ((decide (a0 < 0)) == (decide (a1 < 0))) = true := by simpa using c3))
    clear c3
    simp only [Option.some.injEq,Prod.mk.injEq] at H
    obtain ⟨rfl,rfl⟩ := H
    go_enter Try.func88,Try.ntmps88
    go_wp2
    go_ret2
    exact ⟨by first | rfl | (simp;done) | (simp [*];done),by repeat (first | exact Drawn0.refl _ | apply Drawn0.step)⟩

/-! ### impl_Slot_minus: function 70 -/
theorem impl_Slot_minus.cells2 {w : World} {g : Nat} {t : TypeId} {a0 a1 : Value} (h : w.heap[g]? = some (.cells #[a0,a1] t (0,0))) : w.cell? ⟨g,0,none⟩ = some a0 ∧ w.cell? ⟨g,1,none⟩ = some a1 ∧ w.frozen? ⟨g,0,none⟩ = false ∧ w.frozen? ⟨g,1,none⟩ = false := ⟨(blk_cell h 0).trans rfl,(blk_cell h 1).trans rfl,blk_frozen h 0,blk_frozen h 1⟩
def impl_Slot_minus.f (a0_0 : Int) (a0_1 : Int) (a1_0 : Int) (a1_1 : Int) : Option (Int × Int × Bool) := (impl_SubInt.f a0_0 a1_0).bind fun bt193 => ((impl_SubInt.f a0_1 a1_1).bind fun bt195 => (if bt193.2 = true then (if bt195.2 = true then (some (bt193.1,bt195.1,true)) else (some (0,0,false))) else (some (0,0,false))))
set_option maxHeartbeats 8000000 in
set_option maxRecDepth 100000 in
theorem impl_Slot_minus.calls (a0_0 : Int) (a0_1 : Int) (a1_0 : Int) (a1_1 : Int) (r1 : Int) (r2 : Int) (r3 : Bool) (w : World) (h : impl_Slot_minus.f a0_0 a0_1 a1_0 a1_1 = some (r1,r2,r3)) :
    Calls Try.prog 70 #[.agg #[.int .i64 a0_0,.int .i64 a0_1],.agg #[.int .i64 a1_0,.int .i64 a1_1]] w fun e w' => e = .returned (.tuple #[.agg #[.int .i64 r1,.int .i64 r2],.bool r3]) ∧ Below w.heap.size w w' := by
  have hu87 := Try.underlying87
  have HB := Aside0.mk (Below.refl w.heap.size w)
  have H : ((impl_SubInt.f a0_0 a1_0).bind fun bt193 => ((impl_SubInt.f a0_1 a1_1).bind fun bt195 => (if bt193.2 = true then (if bt195.2 = true then (some (bt193.1,bt195.1,true)) else (some (0,0,false))) else (some (0,0,false))))) = some (r1,r2,r3) := h
  clear h
  replace H := Option.bind_eq_some_iff.mp H
  obtain ⟨⟨t193,t194⟩,A30,H⟩ := H
  replace H : ((impl_SubInt.f a0_1 a1_1).bind fun bt195 => (if t194 = true then (if bt195.2 = true then (some (t193,bt195.1,true)) else (some (0,0,false))) else (some (0,0,false)))) = some (r1,r2,r3) := H
  have A3 := Aside0.mk A30
  clear A30
  replace H := Option.bind_eq_some_iff.mp H
  obtain ⟨⟨t195,t196⟩,A40,H⟩ := H
  replace H : (if t194 = true then (if t196 = true then (some (t193,t195,true)) else (some (0,0,false))) else (some (0,0,false))) = some (r1,r2,r3) := H
  have A4 := Aside0.mk A40
  clear A40
  by_cases c5 : t194 = true
  · subst c5
    have H1 : (if t196 = true then (some (t193,t195,true)) else (some (0,0,false))) = some (r1,r2,r3) := by rw [if_pos rfl] at H;exact H
    clear H
    have H := H1
    clear H1
    by_cases c6 : t196 = true
    · subst c6
      have H1 : (some (t193,t195,true)) = some (r1,r2,r3) := by rw [if_pos rfl] at H;exact H
      clear H
      have H := H1
      clear H1
      simp only [Option.some.injEq,Prod.mk.injEq] at H
      obtain ⟨rfl,rfl,rfl⟩ := H
      go_enter Try.func70,Try.ntmps70
      go_wp2_with (first | ((with_reducible refine gate_dst (N := 2) rfl ?_);refine box_event ?hg (N := 2) ?hd (cs := #[.int .i64 a0_0,.int .i64 a0_1]) (t := 87) ?hr ?_;(case hd => rfl);(case hg => rfl);(case hr => first | (go_simp;done) | (go_simp;rfl));intro gb190 hg w7 hbox hb;have n0_ := Aside0.mk (below_step (by repeat (first | (with_reducible first | exact HB.out | apply below_alloc | apply pw_below_drewN | apply below_drew1) | exact HB.out)) hb);have n1_ := Aside0.mk (hbox);have n2_ := Aside0.mk ((by rw [hg];exact (below_size (by repeat (first | (with_reducible first | exact HB.out | apply below_alloc | apply pw_below_drewN | apply below_drew1) | exact HB.out))) : w.heap.size ≤ gb190));have n3_ := Aside0.mk ((by rw [hg];exact (below_size (by repeat (first | (with_reducible first | exact HB.out | apply below_alloc | apply pw_below_drewN | apply below_drew1) | exact HB.out))) : w.heap.size ≤ gb190));clear HB;have HB := n0_;have BK190 := n1_;have GW190 := n2_;have GE190 := n3_;clear n0_ n1_ n2_ n3_;clear hb hbox hg) | ((with_reducible refine gate_dst (N := 3) rfl ?_);refine box_event ?hg (N := 3) ?hd (cs := #[.int .i64 a1_0,.int .i64 a1_1]) (t := 87) ?hr ?_;(case hd => rfl);(case hg => rfl);(case hr => first | (go_simp;done) | (go_simp;rfl));intro gb191 hg w8 hbox hb;have n0_ := Aside0.mk (blk_below (g := gb190) (o := .cells #[.int .i64 a0_0,.int .i64 a0_1] 87 (0,0)) (by refine bP ?_;exact BK190.out) hb);have n1_ := Aside0.mk (below_step (by repeat (first | (with_reducible first | exact HB.out | apply below_alloc | apply pw_below_drewN | apply below_drew1 | refine below_set ?_ GE190.out) | exact HB.out)) hb);have n2_ := Aside0.mk (hbox);have n3_ := Aside0.mk ((by rw [hg];exact (below_size (by repeat (first | (with_reducible first | exact HB.out | apply below_alloc | apply pw_below_drewN | apply below_drew1 | refine below_set ?_ GE190.out) | exact HB.out))) : w.heap.size ≤ gb191));have n4_ := Aside0.mk ((by rw [hg];exact (below_size (by repeat (first | (with_reducible first | exact HB.out | apply below_alloc | apply pw_below_drewN | apply below_drew1 | refine below_set ?_ GE190.out) | exact HB.out))) : w.heap.size ≤ gb191));have n5_ := Aside0.mk ((by rw [hg];exact Nat.ne_of_lt (blk_lt (g := gb190) (o := .cells #[.int .i64 a0_0,.int .i64 a0_1] 87 (0,0)) (by refine bP ?_;exact BK190.out)) : gb190 ≠ gb191));have n6_ := Aside0.mk ((by rw [hg];exact Nat.ne_of_gt (blk_lt (g := gb190) (o := .cells #[.int .i64 a0_0,.int .i64 a0_1] 87 (0,0)) (by refine bP ?_;exact BK190.out)) : gb191 ≠ gb190));clear BK190;clear HB;have BK190 := n0_;have HB := n1_;have BK191 := n2_;have GW191 := n3_;have GE191 := n4_;have NB190_191 := n5_;have NB191_190 := n6_;clear n0_ n1_ n2_ n3_ n4_ n5_ n6_;clear hb hbox hg) | ((with_reducible refine gate_dst (N := 4) rfl ?_);refine box_event ?hg (N := 4) ?hd (cs := #[.int .i64 0,.int .i64 0]) (t := 87) ?hr ?_;(case hd => rfl);(case hg => rfl);(case hr => first | (go_simp;done) | (go_simp;rfl));intro gb192 hg w9 hbox hb;have n0_ := Aside0.mk (blk_below (g := gb190) (o := .cells #[.int .i64 a0_0,.int .i64 a0_1] 87 (0,0)) (by refine bP ?_;exact BK190.out) hb);have n1_ := Aside0.mk (blk_below (g := gb191) (o := .cells #[.int .i64 a1_0,.int .i64 a1_1] 87 (0,0)) (by refine bP ?_;exact BK191.out) hb);have n2_ := Aside0.mk (below_step (by repeat (first | (with_reducible first | exact HB.out | apply below_alloc | apply pw_below_drewN | apply below_drew1 | refine below_set ?_ GE190.out | refine below_set ?_ GE191.out) | exact HB.out)) hb);have n3_ := Aside0.mk (hbox);have n4_ := Aside0.mk ((by rw [hg];exact (below_size (by repeat (first | (with_reducible first | exact HB.out | apply below_alloc | apply pw_below_drewN | apply below_drew1 | refine below_set ?_ GE190.out | refine below_set ?_ GE191.out) | exact HB.out))) : w.heap.size ≤ gb192));have n5_ := Aside0.mk ((by rw [hg];exact (below_size (by repeat (first | (with_reducible first | exact HB.out | apply below_alloc | apply pw_below_drewN | apply below_drew1 | refine below_set ?_ GE190.out | refine below_set ?_ GE191.out) | exact HB.out))) : w.heap.size ≤ gb192));have n6_ := Aside0.mk ((by rw [hg];exact Nat.ne_of_lt (blk_lt (g := gb190) (o := .cells #[.int .i64 a0_0,.int .i64 a0_1] 87 (0,0)) (by refine bP ?_;exact BK190.out)) : gb190 ≠ gb192));have n7_ := Aside0.mk ((by rw [hg];exact Nat.ne_of_gt (blk_lt (g := gb190) (o := .cells #[.int .i64 a0_0,.int .i64 a0_1] 87 (0,0)) (by refine bP ?_;exact BK190.out)) : gb192 ≠ gb190));have n8_ := Aside0.mk ((by rw [hg];exact Nat.ne_of_lt (blk_lt (g := gb191) (o := .cells #[.int .i64 a1_0,.int .i64 a1_1] 87 (0,0)) (by refine bP ?_;exact BK191.out)) : gb191 ≠ gb192));have n9_ := Aside0.mk ((by rw [hg];exact Nat.ne_of_gt (blk_lt (g := gb191) (o := .cells #[.int .i64 a1_0,.int .i64 a1_1] 87 (0,0)) (by refine bP ?_;exact BK191.out)) : gb192 ≠ gb191));clear BK190;clear BK191;clear HB;have BK190 := n0_;have BK191 := n1_;have HB := n2_;have BK192 := n3_;have GW192 := n4_;have GE192 := n5_;have NB190_192 := n6_;have NB192_190 := n7_;have NB191_192 := n8_;have NB192_191 := n9_;clear n0_ n1_ n2_ n3_ n4_ n5_ n6_ n7_ n8_ n9_;clear hb hbox hg;have hnb10 := NB190_191.out;have hnc10 := NB191_190.out;have hnb11 := NB190_192.out;have hnc11 := NB192_190.out;obtain ⟨hcz12_0,hcz12_1,hfz12_0,hfz12_1⟩ := impl_Slot_minus.cells2 BK190.out;have hnb13 := NB191_192.out;have hnc13 := NB192_191.out;obtain ⟨hcz14_0,hcz14_1,hfz14_0,hfz14_1⟩ := impl_Slot_minus.cells2 BK191.out) | ((with_reducible refine gate_callee (f := 88) rfl ?_);refine goesL_ (some 15) rfl rfl Try.func88 (by kernel_rfl) rfl #[.int .i64 a0_0,.int .i64 a1_0] rfl (by (try simp only [List.map_toArray,List.map_cons,List.map_nil]);first | done | rfl | (simp only [List.length_drop,List.length_take];rfl)) ?_;(with_reducible refine (impl_SubInt.calls a0_0 a1_0 t193 true _ A3.out).mono ?_);rintro e w' ⟨rfl,⟨nd,rfl⟩⟩;refine ⟨_,rfl,?_⟩;(iterate 4 (try (rw [drewN_self w9];generalize hq_ : World.drewN w9 _ = w9;have n0_ : Aside0 (w9.heap[gb190]? = some (.cells #[.int .i64 a0_0,.int .i64 a0_1] 87 (0,0))) := ⟨by rw [← hq_];exact (by refine bP ?_;exact BK190.out)⟩;have n1_ : Aside0 (w9.heap[gb191]? = some (.cells #[.int .i64 a1_0,.int .i64 a1_1] 87 (0,0))) := ⟨by rw [← hq_];exact (by refine bP ?_;exact BK191.out)⟩;have n2_ : Aside0 (w9.heap[gb192]? = some (.cells #[.int .i64 0,.int .i64 0] 87 (0,0))) := ⟨by rw [← hq_];exact (by refine bP ?_;exact BK192.out)⟩;have n3_ : Aside0 (Below w.heap.size w w9) := ⟨by rw [← hq_];exact (by repeat (first | (with_reducible first | exact HB.out | apply below_alloc | apply pw_below_drewN | apply below_drew1 | refine below_set ?_ GE190.out | refine below_set ?_ GE191.out | refine below_set ?_ GE192.out) | exact HB.out))⟩;clear BK190 BK191 BK192 HB hq_;have BK190 := n0_;have BK191 := n1_;have BK192 := n2_;have HB := n3_;clear n0_ n1_ n2_ n3_)));(try (obtain ⟨hcz12_0,hcz12_1,hfz12_0,hfz12_1⟩ := impl_Slot_minus.cells2 BK190.out));(try (obtain ⟨hcz14_0,hcz14_1,hfz14_0,hfz14_1⟩ := impl_Slot_minus.cells2 BK191.out))) | ((with_reducible refine gate_callee (f := 88) rfl ?_);refine goesL_ (some 23) rfl rfl Try.func88 (by kernel_rfl) rfl #[.int .i64 a0_1,.int .i64 a1_1] rfl (by (try simp only [List.map_toArray,List.map_cons,List.map_nil]);first | done | rfl | (simp only [List.length_drop,List.length_take];rfl)) ?_;(with_reducible refine (impl_SubInt.calls a0_1 a1_1 t195 true _ A4.out).mono ?_);rintro e w' ⟨rfl,⟨nd,rfl⟩⟩;refine ⟨_,rfl,?_⟩;(iterate 4 (try (rw [drewN_self w9];generalize hq_ : World.drewN w9 _ = w9;have n0_ : Aside0 (w9.heap[gb190]? = some (.cells #[.int .i64 a0_0,.int .i64 a0_1] 87 (0,0))) := ⟨by rw [← hq_];exact (by refine bP ?_;exact BK190.out)⟩;have n1_ : Aside0 (w9.heap[gb191]? = some (.cells #[.int .i64 a1_0,.int .i64 a1_1] 87 (0,0))) := ⟨by rw [← hq_];exact (by refine bP ?_;exact BK191.out)⟩;have n2_ : Aside0 (w9.heap[gb192]? = some (.cells #[.int .i64 0,.int .i64 0] 87 (0,0))) := ⟨by rw [← hq_];exact (by refine bP ?_;exact BK192.out)⟩;have n3_ : Aside0 (Below w.heap.size w w9) := ⟨by rw [← hq_];exact (by repeat (first | (with_reducible first | exact HB.out | apply below_alloc | apply pw_below_drewN | apply below_drew1 | refine below_set ?_ GE190.out | refine below_set ?_ GE191.out | refine below_set ?_ GE192.out) | exact HB.out))⟩;clear BK190 BK191 BK192 HB hq_;have BK190 := n0_;have BK191 := n1_;have BK192 := n2_;have HB := n3_;clear n0_ n1_ n2_ n3_)));(try (obtain ⟨hcz12_0,hcz12_1,hfz12_0,hfz12_1⟩ := impl_Slot_minus.cells2 BK190.out));(try (obtain ⟨hcz14_0,hcz14_1,hfz14_0,hfz14_1⟩ := impl_Slot_minus.cells2 BK191.out));obtain ⟨hcz15_0,hcz15_1,hfz15_0,hfz15_1⟩ := impl_Slot_minus.cells2 BK192.out))
      refine bodyPost_ret (results_ct rfl _ _ gb192 87 #[.int .i64 t193,.int .i64 t195] (0,0) _ rfl (by refine bP ?_;refine blk_put (cs := #[.int .i64 t193,.int .i64 0]) ?_ 1 _ rfl;refine bP ?_;refine blk_put (cs := #[.int .i64 0,.int .i64 0]) ?_ 0 _ rfl;refine bP ?_;exact BK192.out) Try.underlying87 rfl (by kernel_rfl)) rfl ?_
      exact ⟨by first | rfl | (simp [errW_none,errW_some] <;> rfl) | (simp [*,errW_none,errW_some] <;> rfl),by repeat (first | (with_reducible first | exact HB.out | apply below_alloc | apply pw_below_drewN | apply below_drew1 | refine below_set ?_ GE190.out | refine below_set ?_ GE191.out | refine below_set ?_ GE192.out) | exact HB.out)⟩
    · replace c6 := Bool.eq_false_iff.mpr c6
      subst c6
      have H1 : (some (0,0,false)) = some (r1,r2,r3) := by rw [if_neg (show ¬ (false = true) by decide)] at H;exact H
      clear H
      have H := H1
      clear H1
      simp only [Option.some.injEq,Prod.mk.injEq] at H
      obtain ⟨rfl,rfl,rfl⟩ := H
      go_enter Try.func70,Try.ntmps70
      go_wp2_with (first | ((with_reducible refine gate_dst (N := 2) rfl ?_);refine box_event ?hg (N := 2) ?hd (cs := #[.int .i64 a0_0,.int .i64 a0_1]) (t := 87) ?hr ?_;(case hd => rfl);(case hg => rfl);(case hr => first | (go_simp;done) | (go_simp;rfl));intro gb190 hg w16 hbox hb;have n0_ := Aside0.mk (below_step (by repeat (first | (with_reducible first | exact HB.out | apply below_alloc | apply pw_below_drewN | apply below_drew1) | exact HB.out)) hb);have n1_ := Aside0.mk (hbox);have n2_ := Aside0.mk ((by rw [hg];exact (below_size (by repeat (first | (with_reducible first | exact HB.out | apply below_alloc | apply pw_below_drewN | apply below_drew1) | exact HB.out))) : w.heap.size ≤ gb190));have n3_ := Aside0.mk ((by rw [hg];exact (below_size (by repeat (first | (with_reducible first | exact HB.out | apply below_alloc | apply pw_below_drewN | apply below_drew1) | exact HB.out))) : w.heap.size ≤ gb190));clear HB;have HB := n0_;have BK190 := n1_;have GW190 := n2_;have GE190 := n3_;clear n0_ n1_ n2_ n3_;clear hb hbox hg) | ((with_reducible refine gate_dst (N := 3) rfl ?_);refine box_event ?hg (N := 3) ?hd (cs := #[.int .i64 a1_0,.int .i64 a1_1]) (t := 87) ?hr ?_;(case hd => rfl);(case hg => rfl);(case hr => first | (go_simp;done) | (go_simp;rfl));intro gb191 hg w17 hbox hb;have n0_ := Aside0.mk (blk_below (g := gb190) (o := .cells #[.int .i64 a0_0,.int .i64 a0_1] 87 (0,0)) (by refine bP ?_;exact BK190.out) hb);have n1_ := Aside0.mk (below_step (by repeat (first | (with_reducible first | exact HB.out | apply below_alloc | apply pw_below_drewN | apply below_drew1 | refine below_set ?_ GE190.out) | exact HB.out)) hb);have n2_ := Aside0.mk (hbox);have n3_ := Aside0.mk ((by rw [hg];exact (below_size (by repeat (first | (with_reducible first | exact HB.out | apply below_alloc | apply pw_below_drewN | apply below_drew1 | refine below_set ?_ GE190.out) | exact HB.out))) : w.heap.size ≤ gb191));have n4_ := Aside0.mk ((by rw [hg];exact (below_size (by repeat (first | (with_reducible first | exact HB.out | apply below_alloc | apply pw_below_drewN | apply below_drew1 | refine below_set ?_ GE190.out) | exact HB.out))) : w.heap.size ≤ gb191));have n5_ := Aside0.mk ((by rw [hg];exact Nat.ne_of_lt (blk_lt (g := gb190) (o := .cells #[.int .i64 a0_0,.int .i64 a0_1] 87 (0,0)) (by refine bP ?_;exact BK190.out)) : gb190 ≠ gb191));have n6_ := Aside0.mk ((by rw [hg];exact Nat.ne_of_gt (blk_lt (g := gb190) (o := .cells #[.int .i64 a0_0,.int .i64 a0_1] 87 (0,0)) (by refine bP ?_;exact BK190.out)) : gb191 ≠ gb190));clear BK190;clear HB;have BK190 := n0_;have HB := n1_;have BK191 := n2_;have GW191 := n3_;have GE191 := n4_;have NB190_191 := n5_;have NB191_190 := n6_;clear n0_ n1_ n2_ n3_ n4_ n5_ n6_;clear hb hbox hg) | ((with_reducible refine gate_dst (N := 4) rfl ?_);refine box_event ?hg (N := 4) ?hd (cs := #[.int .i64 0,.int .i64 0]) (t := 87) ?hr ?_;(case hd => rfl);(case hg => rfl);(case hr => first | (go_simp;done) | (go_simp;rfl));intro gb192 hg w18 hbox hb;have n0_ := Aside0.mk (blk_below (g := gb190) (o := .cells #[.int .i64 a0_0,.int .i64 a0_1] 87 (0,0)) (by refine bP ?_;exact BK190.out) hb);have n1_ := Aside0.mk (blk_below (g := gb191) (o := .cells #[.int .i64 a1_0,.int .i64 a1_1] 87 (0,0)) (by refine bP ?_;exact BK191.out) hb);have n2_ := Aside0.mk (below_step (by repeat (first | (with_reducible first | exact HB.out | apply below_alloc | apply pw_below_drewN | apply below_drew1 | refine below_set ?_ GE190.out | refine below_set ?_ GE191.out) | exact HB.out)) hb);have n3_ := Aside0.mk (hbox);have n4_ := Aside0.mk ((by rw [hg];exact (below_size (by repeat (first | (with_reducible first | exact HB.out | apply below_alloc | apply pw_below_drewN | apply below_drew1 | refine below_set ?_ GE190.out | refine below_set ?_ GE191.out) | exact HB.out))) : w.heap.size ≤ gb192));have n5_ := Aside0.mk ((by rw [hg];exact (below_size (by repeat (first | (with_reducible first | exact HB.out | apply below_alloc | apply pw_below_drewN | apply below_drew1 | refine below_set ?_ GE190.out | refine below_set ?_ GE191.out) | exact HB.out))) : w.heap.size ≤ gb192));have n6_ := Aside0.mk ((by rw [hg];exact Nat.ne_of_lt (blk_lt (g := gb190) (o := .cells #[.int .i64 a0_0,.int .i64 a0_1] 87 (0,0)) (by refine bP ?_;exact BK190.out)) : gb190 ≠ gb192));have n7_ := Aside0.mk ((by rw [hg];exact Nat.ne_of_gt (blk_lt (g := gb190) (o := .cells #[.int .i64 a0_0,.int .i64 a0_1] 87 (0,0)) (by refine bP ?_;exact BK190.out)) : gb192 ≠ gb190));have n8_ := Aside0.mk ((by rw [hg];exact Nat.ne_of_lt (blk_lt (g := gb191) (o := .cells #[.int .i64 a1_0,.int .i64 a1_1] 87 (0,0)) (by refine bP ?_;exact BK191.out)) : gb191 ≠ gb192));have n9_ := Aside0.mk ((by rw [hg];exact Nat.ne_of_gt (blk_lt (g := gb191) (o := .cells #[.int .i64 a1_0,.int .i64 a1_1] 87 (0,0)) (by refine bP ?_;exact BK191.out)) : gb192 ≠ gb191));clear BK190;clear BK191;clear HB;have BK190 := n0_;have BK191 := n1_;have HB := n2_;have BK192 := n3_;have GW192 := n4_;have GE192 := n5_;have NB190_192 := n6_;have NB192_190 := n7_;have NB191_192 := n8_;have NB192_191 := n9_;clear n0_ n1_ n2_ n3_ n4_ n5_ n6_ n7_ n8_ n9_;clear hb hbox hg;have hnb19 := NB190_191.out;have hnc19 := NB191_190.out;have hnb20 := NB190_192.out;have hnc20 := NB192_190.out;obtain ⟨hcz21_0,hcz21_1,hfz21_0,hfz21_1⟩ := impl_Slot_minus.cells2 BK190.out;have hnb22 := NB191_192.out;have hnc22 := NB192_191.out;obtain ⟨hcz23_0,hcz23_1,hfz23_0,hfz23_1⟩ := impl_Slot_minus.cells2 BK191.out) | ((with_reducible refine gate_callee (f := 88) rfl ?_);refine goesL_ (some 15) rfl rfl Try.func88 (by kernel_rfl) rfl #[.int .i64 a0_0,.int .i64 a1_0] rfl (by (try simp only [List.map_toArray,List.map_cons,List.map_nil]);first | done | rfl | (simp only [List.length_drop,List.length_take];rfl)) ?_;(with_reducible refine (impl_SubInt.calls a0_0 a1_0 t193 true _ A3.out).mono ?_);rintro e w' ⟨rfl,⟨nd,rfl⟩⟩;refine ⟨_,rfl,?_⟩;(iterate 4 (try (rw [drewN_self w18];generalize hq_ : World.drewN w18 _ = w18;have n0_ : Aside0 (w18.heap[gb190]? = some (.cells #[.int .i64 a0_0,.int .i64 a0_1] 87 (0,0))) := ⟨by rw [← hq_];exact (by refine bP ?_;exact BK190.out)⟩;have n1_ : Aside0 (w18.heap[gb191]? = some (.cells #[.int .i64 a1_0,.int .i64 a1_1] 87 (0,0))) := ⟨by rw [← hq_];exact (by refine bP ?_;exact BK191.out)⟩;have n2_ : Aside0 (w18.heap[gb192]? = some (.cells #[.int .i64 0,.int .i64 0] 87 (0,0))) := ⟨by rw [← hq_];exact (by refine bP ?_;exact BK192.out)⟩;have n3_ : Aside0 (Below w.heap.size w w18) := ⟨by rw [← hq_];exact (by repeat (first | (with_reducible first | exact HB.out | apply below_alloc | apply pw_below_drewN | apply below_drew1 | refine below_set ?_ GE190.out | refine below_set ?_ GE191.out | refine below_set ?_ GE192.out) | exact HB.out))⟩;clear BK190 BK191 BK192 HB hq_;have BK190 := n0_;have BK191 := n1_;have BK192 := n2_;have HB := n3_;clear n0_ n1_ n2_ n3_)));(try (obtain ⟨hcz21_0,hcz21_1,hfz21_0,hfz21_1⟩ := impl_Slot_minus.cells2 BK190.out));(try (obtain ⟨hcz23_0,hcz23_1,hfz23_0,hfz23_1⟩ := impl_Slot_minus.cells2 BK191.out))) | ((with_reducible refine gate_callee (f := 88) rfl ?_);refine goesL_ (some 23) rfl rfl Try.func88 (by kernel_rfl) rfl #[.int .i64 a0_1,.int .i64 a1_1] rfl (by (try simp only [List.map_toArray,List.map_cons,List.map_nil]);first | done | rfl | (simp only [List.length_drop,List.length_take];rfl)) ?_;(with_reducible refine (impl_SubInt.calls a0_1 a1_1 t195 false _ A4.out).mono ?_);rintro e w' ⟨rfl,⟨nd,rfl⟩⟩;refine ⟨_,rfl,?_⟩;(iterate 4 (try (rw [drewN_self w18];generalize hq_ : World.drewN w18 _ = w18;have n0_ : Aside0 (w18.heap[gb190]? = some (.cells #[.int .i64 a0_0,.int .i64 a0_1] 87 (0,0))) := ⟨by rw [← hq_];exact (by refine bP ?_;exact BK190.out)⟩;have n1_ : Aside0 (w18.heap[gb191]? = some (.cells #[.int .i64 a1_0,.int .i64 a1_1] 87 (0,0))) := ⟨by rw [← hq_];exact (by refine bP ?_;exact BK191.out)⟩;have n2_ : Aside0 (w18.heap[gb192]? = some (.cells #[.int .i64 0,.int .i64 0] 87 (0,0))) := ⟨by rw [← hq_];exact (by refine bP ?_;exact BK192.out)⟩;have n3_ : Aside0 (Below w.heap.size w w18) := ⟨by rw [← hq_];exact (by repeat (first | (with_reducible first | exact HB.out | apply below_alloc | apply pw_below_drewN | apply below_drew1 | refine below_set ?_ GE190.out | refine below_set ?_ GE191.out | refine below_set ?_ GE192.out) | exact HB.out))⟩;clear BK190 BK191 BK192 HB hq_;have BK190 := n0_;have BK191 := n1_;have BK192 := n2_;have HB := n3_;clear n0_ n1_ n2_ n3_)));(try (obtain ⟨hcz21_0,hcz21_1,hfz21_0,hfz21_1⟩ := impl_Slot_minus.cells2 BK190.out));(try (obtain ⟨hcz23_0,hcz23_1,hfz23_0,hfz23_1⟩ := impl_Slot_minus.cells2 BK191.out));obtain ⟨hcz24_0,hcz24_1,hfz24_0,hfz24_1⟩ := impl_Slot_minus.cells2 BK192.out))
      refine bodyPost_ret (results_ct rfl _ _ gb192 87 #[.int .i64 0,.int .i64 0] (0,0) _ rfl (by refine bP ?_;refine blk_put (cs := #[.int .i64 0,.int .i64 0]) ?_ 1 _ rfl;refine bP ?_;refine blk_put (cs := #[.int .i64 0,.int .i64 0]) ?_ 0 _ rfl;refine bP ?_;exact BK192.out) Try.underlying87 rfl (by kernel_rfl)) rfl ?_
      exact ⟨by first | rfl | (simp [errW_none,errW_some] <;> rfl) | (simp [*,errW_none,errW_some] <;> rfl),by repeat (first | (with_reducible first | exact HB.out | apply below_alloc | apply pw_below_drewN | apply below_drew1 | refine below_set ?_ GE190.out | refine below_set ?_ GE191.out | refine below_set ?_ GE192.out) | exact HB.out)⟩
  · replace c5 := Bool.eq_false_iff.mpr c5
    subst c5
    have H1 : (some (0,0,false)) = some (r1,r2,r3) := by rw [if_neg (show ¬ (false = true) by decide)] at H;exact H
    clear H
    have H := H1
    clear H1
    simp only [Option.some.injEq,Prod.mk.injEq] at H
    obtain ⟨rfl,rfl,rfl⟩ := H
    go_enter Try.func70,Try.ntmps70
    go_wp2_with (first | ((with_reducible refine gate_dst (N := 2) rfl ?_);refine box_event ?hg (N := 2) ?hd (cs := #[.int .i64 a0_0,.int .i64 a0_1]) (t := 87) ?hr ?_;(case hd => rfl);(case hg => rfl);(case hr => first | (go_simp;done) | (go_simp;rfl));intro gb190 hg w25 hbox hb;have n0_ := Aside0.mk (below_step (by repeat (first | (with_reducible first | exact HB.out | apply below_alloc | apply pw_below_drewN | apply below_drew1) | exact HB.out)) hb);have n1_ := Aside0.mk (hbox);have n2_ := Aside0.mk ((by rw [hg];exact (below_size (by repeat (first | (with_reducible first | exact HB.out | apply below_alloc | apply pw_below_drewN | apply below_drew1) | exact HB.out))) : w.heap.size ≤ gb190));have n3_ := Aside0.mk ((by rw [hg];exact (below_size (by repeat (first | (with_reducible first | exact HB.out | apply below_alloc | apply pw_below_drewN | apply below_drew1) | exact HB.out))) : w.heap.size ≤ gb190));clear HB;have HB := n0_;have BK190 := n1_;have GW190 := n2_;have GE190 := n3_;clear n0_ n1_ n2_ n3_;clear hb hbox hg) | ((with_reducible refine gate_dst (N := 3) rfl ?_);refine box_event ?hg (N := 3) ?hd (cs := #[.int .i64 a1_0,.int .i64 a1_1]) (t := 87) ?hr ?_;(case hd => rfl);(case hg => rfl);(case hr => first | (go_simp;done) | (go_simp;rfl));intro gb191 hg w26 hbox hb;have n0_ := Aside0.mk (blk_below (g := gb190) (o := .cells #[.int .i64 a0_0,.int .i64 a0_1] 87 (0,0)) (by refine bP ?_;exact BK190.out) hb);have n1_ := Aside0.mk (below_step (by repeat (first | (with_reducible first | exact HB.out | apply below_alloc | apply pw_below_drewN | apply below_drew1 | refine below_set ?_ GE190.out) | exact HB.out)) hb);have n2_ := Aside0.mk (hbox);have n3_ := Aside0.mk ((by rw [hg];exact (below_size (by repeat (first | (with_reducible first | exact HB.out | apply below_alloc | apply pw_below_drewN | apply below_drew1 | refine below_set ?_ GE190.out) | exact HB.out))) : w.heap.size ≤ gb191));have n4_ := Aside0.mk ((by rw [hg];exact (below_size (by repeat (first | (with_reducible first | exact HB.out | apply below_alloc | apply pw_below_drewN | apply below_drew1 | refine below_set ?_ GE190.out) | exact HB.out))) : w.heap.size ≤ gb191));have n5_ := Aside0.mk ((by rw [hg];exact Nat.ne_of_lt (blk_lt (g := gb190) (o := .cells #[.int .i64 a0_0,.int .i64 a0_1] 87 (0,0)) (by refine bP ?_;exact BK190.out)) : gb190 ≠ gb191));have n6_ := Aside0.mk ((by rw [hg];exact Nat.ne_of_gt (blk_lt (g := gb190) (o := .cells #[.int .i64 a0_0,.int .i64 a0_1] 87 (0,0)) (by refine bP ?_;exact BK190.out)) : gb191 ≠ gb190));clear BK190;clear HB;have BK190 := n0_;have HB := n1_;have BK191 := n2_;have GW191 := n3_;have GE191 := n4_;have NB190_191 := n5_;have NB191_190 := n6_;clear n0_ n1_ n2_ n3_ n4_ n5_ n6_;clear hb hbox hg) | ((with_reducible refine gate_dst (N := 4) rfl ?_);refine box_event ?hg (N := 4) ?hd (cs := #[.int .i64 0,.int .i64 0]) (t := 87) ?hr ?_;(case hd => rfl);(case hg => rfl);(case hr => first | (go_simp;done) | (go_simp;rfl));intro gb192 hg w27 hbox hb;have n0_ := Aside0.mk (blk_below (g := gb190) (o := .cells #[.int .i64 a0_0,.int .i64 a0_1] 87 (0,0)) (by refine bP ?_;exact BK190.out) hb);have n1_ := Aside0.mk (blk_below (g := gb191) (o := .cells #[.int .i64 a1_0,.int .i64 a1_1] 87 (0,0)) (by refine bP ?_;exact BK191.out) hb);have n2_ := Aside0.mk (below_step (by repeat (first | (with_reducible first | exact HB.out | apply below_alloc | apply pw_below_drewN | apply below_drew1 | refine below_set ?_ GE190.out | refine below_set ?_ GE191.out) | exact HB.out)) hb);have n3_ := Aside0.mk (hbox);have n4_ := Aside0.mk ((by rw [hg];exact (below_size (by repeat (first | (with_reducible first | exact HB.out | apply below_alloc | apply pw_below_drewN | apply below_drew1 | refine below_set ?_ GE190.out | refine below_set ?_ GE191.out) | exact HB.out))) : w.heap.size ≤ gb192));have n5_ := Aside0.mk ((by rw [hg];exact (below_size (by repeat (first | (with_reducible first | exact HB.out | apply below_alloc | apply pw_below_drewN | apply below_drew1 | refine below_set ?_ GE190.out | refine below_set ?_ GE191.out) | exact HB.out))) : w.heap.size ≤ gb192));have n6_ := Aside0.mk ((by rw [hg];exact Nat.ne_of_lt (blk_lt (g := gb190) (o := .cells #[.int .i64 a0_0,.int .i64 a0_1] 87 (0,0)) (by refine bP ?_;exact BK190.out)) : gb190 ≠ gb192));have n7_ := Aside0.mk ((by rw [hg];exact Nat.ne_of_gt (blk_lt (g := gb190) (o := .cells #[.int .i64 a0_0,.int .i64 a0_1] 87 (0,0)) (by refine bP ?_;exact BK190.out)) : gb192 ≠ gb190));have n8_ := Aside0.mk ((by rw [hg];exact Nat.ne_of_lt (blk_lt (g := gb191) (o := .cells #[.int .i64 a1_0,.int .i64 a1_1] 87 (0,0)) (by refine bP ?_;exact BK191.out)) : gb191 ≠ gb192));have n9_ := Aside0.mk ((by rw [hg];exact Nat.ne_of_gt (blk_lt (g := gb191) (o := .cells #[.int .i64 a1_0,.int .i64 a1_1] 87 (0,0)) (by refine bP ?_;exact BK191.out)) : gb192 ≠ gb191));clear BK190;clear BK191;clear HB;have BK190 := n0_;have BK191 := n1_;have HB := n2_;have BK192 := n3_;have GW192 := n4_;have GE192 := n5_;have NB190_192 := n6_;have NB192_190 := n7_;have NB191_192 := n8_;have NB192_191 := n9_;clear n0_ n1_ n2_ n3_ n4_ n5_ n6_ n7_ n8_ n9_;clear hb hbox hg;have hnb28 := NB190_191.out;have hnc28 := NB191_190.out;have hnb29 := NB190_192.out;have hnc29 := NB192_190.out;obtain ⟨hcz30_0,hcz30_1,hfz30_0,hfz30_1⟩ := impl_Slot_minus.cells2 BK190.out;have hnb31 := NB191_192.out;have hnc31 := NB192_191.out;obtain ⟨hcz32_0,hcz32_1,hfz32_0,hfz32_1⟩ := impl_Slot_minus.cells2 BK191.out) | ((with_reducible refine gate_callee (f := 88) rfl ?_);refine goesL_ (some 15) rfl rfl Try.func88 (by kernel_rfl) rfl #[.int .i64 a0_0,.int .i64 a1_0] rfl (by (try simp only [List.map_toArray,List.map_cons,List.map_nil]);first | done | rfl | (simp only [List.length_drop,List.length_take];rfl)) ?_;(with_reducible refine (impl_SubInt.calls a0_0 a1_0 t193 false _ A3.out).mono ?_);rintro e w' ⟨rfl,⟨nd,rfl⟩⟩;refine ⟨_,rfl,?_⟩;(iterate 4 (try (rw [drewN_self w27];generalize hq_ : World.drewN w27 _ = w27;have n0_ : Aside0 (w27.heap[gb190]? = some (.cells #[.int .i64 a0_0,.int .i64 a0_1] 87 (0,0))) := ⟨by rw [← hq_];exact (by refine bP ?_;exact BK190.out)⟩;have n1_ : Aside0 (w27.heap[gb191]? = some (.cells #[.int .i64 a1_0,.int .i64 a1_1] 87 (0,0))) := ⟨by rw [← hq_];exact (by refine bP ?_;exact BK191.out)⟩;have n2_ : Aside0 (w27.heap[gb192]? = some (.cells #[.int .i64 0,.int .i64 0] 87 (0,0))) := ⟨by rw [← hq_];exact (by refine bP ?_;exact BK192.out)⟩;have n3_ : Aside0 (Below w.heap.size w w27) := ⟨by rw [← hq_];exact (by repeat (first | (with_reducible first | exact HB.out | apply below_alloc | apply pw_below_drewN | apply below_drew1 | refine below_set ?_ GE190.out | refine below_set ?_ GE191.out | refine below_set ?_ GE192.out) | exact HB.out))⟩;clear BK190 BK191 BK192 HB hq_;have BK190 := n0_;have BK191 := n1_;have BK192 := n2_;have HB := n3_;clear n0_ n1_ n2_ n3_)));(try (obtain ⟨hcz30_0,hcz30_1,hfz30_0,hfz30_1⟩ := impl_Slot_minus.cells2 BK190.out));(try (obtain ⟨hcz32_0,hcz32_1,hfz32_0,hfz32_1⟩ := impl_Slot_minus.cells2 BK191.out))) | ((with_reducible refine gate_callee (f := 88) rfl ?_);refine goesL_ (some 23) rfl rfl Try.func88 (by kernel_rfl) rfl #[.int .i64 a0_1,.int .i64 a1_1] rfl (by (try simp only [List.map_toArray,List.map_cons,List.map_nil]);first | done | rfl | (simp only [List.length_drop,List.length_take];rfl)) ?_;(with_reducible refine (impl_SubInt.calls a0_1 a1_1 t195 t196 _ A4.out).mono ?_);rintro e w' ⟨rfl,⟨nd,rfl⟩⟩;refine ⟨_,rfl,?_⟩;(iterate 4 (try (rw [drewN_self w27];generalize hq_ : World.drewN w27 _ = w27;have n0_ : Aside0 (w27.heap[gb190]? = some (.cells #[.int .i64 a0_0,.int .i64 a0_1] 87 (0,0))) := ⟨by rw [← hq_];exact (by refine bP ?_;exact BK190.out)⟩;have n1_ : Aside0 (w27.heap[gb191]? = some (.cells #[.int .i64 a1_0,.int .i64 a1_1] 87 (0,0))) := ⟨by rw [← hq_];exact (by refine bP ?_;exact BK191.out)⟩;have n2_ : Aside0 (w27.heap[gb192]? = some (.cells #[.int .i64 0,.int .i64 0] 87 (0,0))) := ⟨by rw [← hq_];exact (by refine bP ?_;exact BK192.out)⟩;have n3_ : Aside0 (Below w.heap.size w w27) := ⟨by rw [← hq_];exact (by repeat (first | (with_reducible first | exact HB.out | apply below_alloc | apply pw_below_drewN | apply below_drew1 | refine below_set ?_ GE190.out | refine below_set ?_ GE191.out | refine below_set ?_ GE192.out) | exact HB.out))⟩;clear BK190 BK191 BK192 HB hq_;have BK190 := n0_;have BK191 := n1_;have BK192 := n2_;have HB := n3_;clear n0_ n1_ n2_ n3_)));(try (obtain ⟨hcz30_0,hcz30_1,hfz30_0,hfz30_1⟩ := impl_Slot_minus.cells2 BK190.out));(try (obtain ⟨hcz32_0,hcz32_1,hfz32_0,hfz32_1⟩ := impl_Slot_minus.cells2 BK191.out));obtain ⟨hcz33_0,hcz33_1,hfz33_0,hfz33_1⟩ := impl_Slot_minus.cells2 BK192.out))
    refine bodyPost_ret (results_ct rfl _ _ gb192 87 #[.int .i64 0,.int .i64 0] (0,0) _ rfl (by refine bP ?_;refine blk_put (cs := #[.int .i64 0,.int .i64 0]) ?_ 1 _ rfl;refine bP ?_;refine blk_put (cs := #[.int .i64 0,.int .i64 0]) ?_ 0 _ rfl;refine bP ?_;exact BK192.out) Try.underlying87 rfl (by kernel_rfl)) rfl ?_
    exact ⟨by first | rfl | (simp [errW_none,errW_some] <;> rfl) | (simp [*,errW_none,errW_some] <;> rfl),by repeat (first | (with_reducible first | exact HB.out | apply below_alloc | apply pw_below_drewN | apply below_drew1 | refine below_set ?_ GE190.out | refine below_set ?_ GE191.out | refine below_set ?_ GE192.out) | exact HB.out)⟩

end Go.Proofs.Ytiacoiiapmfaeaa.QFnExactCandsOf
