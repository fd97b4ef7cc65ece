/- The machine side of FnBetter: what each Go function that it reaches comes to. Conditions: none. -/
import Derived.Test.YtlflcgdcegohjaaQFnBetterx0
import Derived.Test.YtlflcgdcegohjaaQFnBetterx2
namespace Go.Proofs.Ytlflcgdcegohjaa.QFnBetter
open Go.RowKit Go.Proofs.YtlflcgdcegohjaaW.PrintWords Go.Proofs.YtlflcgdcegohjaaW.PrintLast Go.Proofs.YtlflcgdcegohjaaW.PrintMore
attribute [local go_sem] max2_int min2_int max_two min_two max_three min_three max_four min_four   -- for this text's walks alone
set_option linter.unusedVariables false
set_option linter.unusedSimpArgs false

/-! ### spec_Prefix: function 34 -/
def spec_Prefix.l0 : Nat → List (S25) → List (S25) → Int → Int → Int → Option ((List (S25)) × Bool)
 | 0,_,_,_,_,_ => none
 | k + 1,x0,x4,x6,x225000,x225001 => if x6 < (x0.length : Int) then (if 0 ≤ x6 then ((spec_l13Add.f x225000 x225001 ((rd_T25 x0 x6).f0) ((rd_T25 x0 x6).f1)).bind fun bt226 => (if bt226.2.2 = true then (if x4.length < 8796093022208 then (spec_Prefix.l0 k x0 (x4 ++ [(⟨bt226.1,bt226.2.1⟩ : S25)]) (wrap64 (x6 + 1)) bt226.1 bt226.2.1) else (none)) else (some ((([] : List (S25))),false)))) else (none)) else (some (x4,true))
def spec_Prefix.f (k : Nat) (l0 : List (S25)) : Option ((List (S25)) × Bool) := spec_Prefix.l0 k l0 (([] : List (S25))) 0 0 0
theorem spec_Prefix.mono_l : ∀ k,(∀ y0 y1 y2 y3 y4,LeO (spec_Prefix.l0 k y0 y1 y2 y3 y4) (spec_Prefix.l0 (k + 1) y0 y1 y2 y3 y4))
 | 0 => fun _ _ _ _ _ r h => by simp [spec_Prefix.l0] at h
 | k + 1 => by
  have ih0 := spec_Prefix.mono_l k
  ·intro y0 y1 y2 y3 y4
   unfold spec_Prefix.l0
   repeat' first
   | (with_reducible exact ih0 _ _ _ _ _)
   | (with_reducible exact LeO.refl _)
   | (with_reducible exact LeO.none _)
   | (with_reducible refine LeO.ite ?_ ?_)
   | (with_reducible refine LeO.bind ?_ (fun _ => ?_))
   | exact ih0 _ _ _ _ _
   | exact LeO.none _
   | refine LeO.ite ?_ ?_
   | refine LeO.bind ?_ (fun _ => ?_)
theorem spec_Prefix.mono : ∀ a0 k,LeO (spec_Prefix.f k a0) (spec_Prefix.f (k + 1) a0) := by
 intro a0 k
 have ih0 := spec_Prefix.mono_l k
 unfold spec_Prefix.f
 repeat' first
   | (with_reducible exact ih0 _ _ _ _ _)
   | (with_reducible exact LeO.refl _)
   | (with_reducible exact LeO.none _)
   | (with_reducible refine LeO.ite ?_ ?_)
   | (with_reducible refine LeO.bind ?_ (fun _ => ?_))
   | exact ih0 _ _ _ _ _
   | exact LeO.none _
   | refine LeO.ite ?_ ?_
   | refine LeO.bind ?_ (fun _ => ?_)
def spec_Prefix.T6 : Bool × List (List Nat × List Nat) := (true,[([],[]),([],[]),([],[]),([1,2],[1,2]),([3],[3]),([0,4],[0,4]),([5],[5]),([6],[6]),([6],[6]),([],[]),([9,7,5,0,1,2,3,4,5,6,7,9],[7,9]),([8,10,0,1,2,3,4,5,6,7,8,9,10],[8])])
def spec_Prefix.B6 : List Nat := [0,0,0,6,14,31,63,127,127,0,767,2047]
theorem spec_Prefix.tab6 : rtab .any (opsOf Try.f34 6) = spec_Prefix.T6 := by kernel_rfl
theorem spec_Prefix.bits6 : waitsOk spec_Prefix.T6.2 spec_Prefix.B6 = true := by kernel_rfl
set_option maxHeartbeats 8000000 in
set_option maxRecDepth 100000 in
theorem spec_Prefix.calls (k : Nat) (A0 : Option Addr) (c0 : Nat) (l0 : List (S25)) (r1 : List (S25)) (r2 : Bool) (w : World) (hr0 : Kd.C k25 w A0 l0.length l0) (hc0 : l0.length ≤ c0) (h : spec_Prefix.f k l0 = some (r1,r2)) :
  Calls Try.prog 34 #[.slice A0 l0.length c0] w fun e w' => ∃ v0_ : Value,e = .returned (.tuple #[v0_,.bool r2]) ∧ Kd.R k25 25 w' w.heap.size (fun _ => True) v0_ r1 ∧ Below w.heap.size w w' := by
 have hu25 := Try.underlying25
 have HR0 := Aside0.mk hr0
 have HC0 := Aside0.mk hc0
 clear hr0 hc0
 have HB := Aside0.mk (Below.refl w.heap.size w)
 have H := h
 clear h
 unfold spec_Prefix.f at H
 obtain ⟨y221,hy221⟩ : ∃ y_ : List (S25),y_ = (([] : List (S25))) := ⟨_,rfl⟩
 replace H : (spec_Prefix.l0 k l0 y221 0 0 0) = some (r1,r2) := by first | (rw [hy221];with_reducible exact H) | (have H2_ := (Option.bind_some _ _).symm.trans H;rw [hy221];with_reducible exact H2_) | (have H2_ := (Option.bind_some _ _).symm.trans H;with_reducible exact H2_) | with_reducible exact H | (rw [hy221];exact H) | exact H
 have Ny221 := Aside0.mk hy221
 clear hy221
 have H' := Aside0.mk H
 clear H
 go_enter Try.func34,Try.ntmps34
 go_wp2_with (first | ((with_reducible refine gate_dst (N := 9) rfl ?_);refine Kd.R_lit k25 _ 25 ?hg (N := 9) ?hd (xs := ([] : List (S25))) (inner := []) (ok := fun _ => True) (okp := fun _ => True) ?hr ?hp (fun _ hk => hk) trivial (Below.refl _ _) (Nat.le_refl _) Z524 ?_;(case hd => rfl);(case hg => rfl);(case hr => exact Z295);(case hp => exact Z308);intro v222 w2 ho3 hb hg_ hnew_;clear hg_ hnew_;(first | rw [← Ny221.out] at ho3 | (simp only [Int.reduceToNat] at ho3;rw [← Ny221.out] at ho3));have n_ := jA (Kd.R_lower ho3 (below_size Z574)) (Aside0.mk (below_step Z574 hb));clear HB;obtain ⟨HO223,HB⟩ := n_;clear hb ho3) | ((with_reducible refine gate_dst (N := 5) rfl ?_);refine bE 5 #[.int .i64 0,.int .i64 0] 25 (h := ?_);intro gb224 hg w4 hbox hb;have n_ := jA (Kd.R_below (Kd.R_elderB (by (with_reducible repeat (first | apply Kd.R_alloc | apply Kd.R_drewN | apply Kd.R_drew));exact HO223.out) gb224 (Nat.le_of_eq hg.symm)) hb) (jA (below_step Z574 hb) (jA (hbox) (jA ((Z405 : w.heap.size ≤ gb224)) (Aside0.mk ((Z405 : w.heap.size ≤ gb224))))));clear HO223 HB;obtain ⟨HO223,HB,BK224,GW224,GE224⟩ := n_;clear hb hbox hg;obtain ⟨hcz5_0,hcz5_1,hfz5_0,hfz5_1⟩ := cells2 BK224.out))
 go_loopg [4,6] k (fun kq v4 v6 w' => ∃ (x4_1 : List (S25)) (x6_1 : Int) (x225000_1 : Int) (x225001_1 : Int),v6 = .int .i64 x6_1 ∧ Aside0 (spec_Prefix.l0 kq l0 x4_1 x6_1 x225000_1 x225001_1 = some (r1,r2)) ∧ Aside0 (kq ≤ k) ∧ Aside0 (Kd.R k25 25 w' w.heap.size (fun k_ => k_ ≠ gb224) v4 x4_1) ∧ Aside0 (w'.heap[gb224]? = some (.cells #[.int .i64 x225000_1,.int .i64 x225001_1] 25 (0,0))) ∧ Aside0 (Below w.heap.size w w'))
 case atStart => exact ⟨(y221),(0),(0),(0),Z294,H',⟨Nat.le_refl _⟩,⟨by (with_reducible repeat (first | apply Kd.R_alloc | apply Kd.R_drewN | apply Kd.R_drew));exact Kd.R_mono (Kd.R_far (p := ⟨gb224,1,none⟩) (Kd.R_far (p := ⟨gb224,0,none⟩) (Kd.R_mono HO223.out (fun k_ hk => (⟨hk,hk.2⟩ : _ ∧ k_ ≠ gb224))) (fun _ hk => hk.2) (.int .i64 0)) (fun _ hk => hk.2) (.int .i64 0)) (fun _ hk => hk.1.2)⟩,⟨by refine bP ?_;refine blk_put (cs := #[.int .i64 0,.int .i64 0]) ?_ 1 _ rfl;refine bP ?_;refine blk_put (cs := #[.int .i64 0,.int .i64 0]) ?_ 0 _ rfl;refine bP ?_;exact BK224.out⟩,⟨Z407⟩⟩
 case round =>
  clear H'
  try clear p2
  try clear c3
  try clear hcz5_0
  try clear hcz5_1
  try clear hfz5_0
  try clear hfz5_1
  obtain ⟨x4_1,x6_1,x225000_1,x225001_1,rfl,HA,HK1,HO_4,BK224,HB⟩ := hrel
  cases gk with
  | zero => exact absurd HA.out (by simp [spec_Prefix.l0])
  | succ k1 =>
   have H := HA.out
   clear HA
   simp only [spec_Prefix.l0] at H
   by_cases c6 : x6_1 < (l0.length : Int)
   rotate_left
   ·rw [if_neg c6] at H
    have c6b0 : decide (x6_1 < (l0.length : Int)) = false := decide_eq_false c6
    clear c6
    simp only [Option.some.injEq,Prod.mk.injEq] at H
    obtain ⟨rfl,rfl⟩ := H
    go_wp2
    go_ret2
    exact ⟨_,Z265,by (with_reducible repeat (first | apply Kd.R_alloc | apply Kd.R_drewN | apply Kd.R_drew));exact Kd.R_mono HO_4.out (fun _ hk => trivial),Z407⟩
   rw [if_pos c6] at H
   have c6b0 : decide (x6_1 < (l0.length : Int)) = true := decide_eq_true c6
   clear c6
   obtain ⟨c7,H⟩ := ifp H
   have c7b0 : decide (0 ≤ x6_1) = true := decide_eq_true c7
   clear c7
   obtain ⟨⟨t226,t227,t228⟩,A80,H⟩ := Option.bind_eq_some_iff.mp H
   try dsimp only at H
   have A8 := Aside0.mk A80
   clear A80
   by_cases c9 : t228 = true
   rotate_left
   ·replace c9 := Bool.eq_false_iff.mpr c9
    subst c9
    rw [if_neg Bool.false_ne_true] at H
    obtain ⟨y233,hy233⟩ : ∃ y_ : List (S25),y_ = (([] : List (S25))) := ⟨_,rfl⟩
    replace H : (some (y233,false)) = some (r1,r2) := by first | (rw [hy233];with_reducible exact H) | (have H2_ := (Option.bind_some _ _).symm.trans H;rw [hy233];with_reducible exact H2_) | (have H2_ := (Option.bind_some _ _).symm.trans H;with_reducible exact H2_) | with_reducible exact H | (rw [hy233];exact H) | exact H
    have Ny233 := Aside0.mk hy233
    clear hy233
    simp only [Option.some.injEq,Prod.mk.injEq] at H
    obtain ⟨rfl,rfl⟩ := H
    try go_wp2
    have n0_ := Aside0.mk (Kd.R_drew HO_4.out)
    have n1_ := Aside0.mk (blk_drew BK224.out)
    have n2_ := Aside0.mk (below_drew1 HB.out)
    clear HO_4
    clear BK224
    clear HB
    have HO_4 := n0_
    have BK224 := n1_
    have HB := n2_
    clear n0_ n1_ n2_
    have p225 : 0 ≤ (x6_1 : Int) := of_decide_eq_true Z293
    have q225 : x6_1 < (l0.length : Int) := of_decide_eq_true Z293
    obtain ⟨ad225,e225,hx225_0,hx225_1⟩ := at_T25 HR0.out x6_1 p225 q225
    have hw225_1 := hx225_1
    have hw225_0 := hx225_0
    cases e225
    replace hx225_0 := (HB.out.cell (World.block_lt_of_cell? w _ hx225_0)).trans hx225_0
    replace hx225_1 := (HB.out.cell (World.block_lt_of_cell? w _ hx225_1)).trans hx225_1
    replace p225 := eq_true p225
    replace q225 := eq_true q225
    refine start_ (n := 12) (S := fun w' => w'.cell? ⟨gb224,0,none⟩ = some (.int .i64 x225000_1) ∧ w'.cell? ⟨gb224,1,none⟩ = some (.int .i64 x225001_1) ∧ w'.cell? (ad225.add ((x6_1).toNat * 2)) = some (.int .i64 ((rd_T25 l0 x6_1).f0)) ∧ w'.cell? ⟨(ad225.add ((x6_1).toNat * 2)).block,(ad225.add ((x6_1).toNat * 2)).off + 1,none⟩ = some (.int .i64 ((rd_T25 l0 x6_1).f1))) (ds := []) (qM 12 0) Z310 rfl (by kernel_rfl) ⟨bc BK224 0,bc BK224 1,((HB.out.cell (World.block_lt_of_cell? w _ hw225_0)).trans hw225_0),((HB.out.cell (World.block_lt_of_cell? w _ hw225_1)).trans hw225_1)⟩ (fun hHeld => ?_);refine with_tabW spec_Prefix.tab6 spec_Prefix.bits6 (fun HT_ HW_ => ?_)
    generalize wr.drew = w21 at HO_4 BK224 HB hx225_0 hx225_1 hHeld ⊢
    refine rP 1 19 12 2 HT_ (h := ?_)
    refine rP 2 20 12 6 HT_ (h := ?_)
    refine rP 3 21 12 14 HT_ (h := ?_)
    refine rT4 0 18 12 15 HT_ HW_ hHeld (h := ?_)
    refine rT4 4 22 12 31 HT_ HW_ hHeld (h := ?_)
    refine join_ (σ := Nat) 2 (qM 12 1023) (fun s_ => [(23,.tuple #[.agg #[.int .i64 t226,.int .i64 t227],.bool false]),(7,.pointer (some ⟨s_,0,none⟩)),(17,.tuple #[.agg #[.int .i64 t226,.int .i64 t227],.bool false]),(24,.agg #[.int .i64 t226,.int .i64 t227]),(25,.bool false)]) (fun s_ w' => (w'.cell? ⟨gb224,0,none⟩ = some (.int .i64 x225000_1) ∧ w'.cell? ⟨gb224,1,none⟩ = some (.int .i64 x225001_1) ∧ w'.cell? (ad225.add ((x6_1).toNat * 2)) = some (.int .i64 ((rd_T25 l0 x6_1).f0)) ∧ w'.cell? ⟨(ad225.add ((x6_1).toNat * 2)).block,(ad225.add ((x6_1).toNat * 2)).off + 1,none⟩ = some (.int .i64 ((rd_T25 l0 x6_1).f1))) ∧ (Kd.R k25 25 w' w.heap.size (fun k_ => k_ ≠ gb224 ∧ k_ ≠ s_) u4 x4_1) ∧ (w'.heap[gb224]? = some (.cells #[.int .i64 x225000_1,.int .i64 x225001_1] 25 (0,0))) ∧ (w'.heap[s_]? = some (.cells #[.int .i64 0,.int .i64 0] 25 (0,0))) ∧ (w.heap.size ≤ s_) ∧ (w.heap.size ≤ s_) ∧ (gb224 ≠ s_) ∧ (s_ ≠ gb224) ∧ (Below w.heap.size w w')) ?_ ?_
    rotate_left
    ·intro hCont
     refine two_ (i := 5) (j := 9) (Ni := some 23) (Nj := some 7) (qM 12 63) (qM 12 543) rfl rfl rfl rfl (two_of HT_.out Z310) Z522 Z522 (fun K hK => ?_) (fun K hK => ?_)
     ·skip
      refine goes_ Try.func53 Z310 rfl #[.agg #[.int .i64 x225000_1,.int .i64 x225001_1],.agg #[.int .i64 ((rd_T25 l0 x6_1).f0),.int .i64 ((rd_T25 l0 x6_1).f1)]] Z311 rfl rfl Z249 ?_
      with_reducible refine (spec_l13Add.calls x225000_1 x225001_1 ((rd_T25 l0 x6_1).f0) ((rd_T25 l0 x6_1).f1) t226 t227 false _ A8.out).mono ?_
      rintro e w22 ⟨rfl,hb⟩
      refine ⟨_,rfl,?_⟩
      have n0_ := Aside0.mk (Kd.R_below Z264 hb)
      have n1_ := Aside0.mk (blk_below (g := gb224) (o := .cells #[.int .i64 x225000_1,.int .i64 x225001_1] 25 (0,0)) Z491 hb)
      have n2_ := Aside0.mk (below_step Z407 hb)
      clear HO_4
      clear BK224
      clear HB
      have HO_4 := n0_
      have BK224 := n1_
      have HB := n2_
      clear n0_ n1_ n2_
      (try clear hb)
      (try clear hb2)
      (try clear hk)
      (try clear hi)
      refine hK.out _ _ ⟨bc BK224 0,bc BK224 1,((HB.out.cell (World.block_lt_of_cell? w _ hw225_0)).trans hw225_0),((HB.out.cell (World.block_lt_of_cell? w _ hw225_1)).trans hw225_1)⟩ (fun hHeld => ?_)
      clear hK K
      refine rN (h := ?_)
      refine rP 6 17 12 127 HT_ (h := ?_)
      refine rP 7 24 12 255 HT_ (h := ?_)
      refine rP 8 25 12 511 HT_ (h := ?_)
      refine rO 9 7 12 1023 HT_ (h := fun K hK => ?_)
      refine box_step ?hg (N := 7) ?hd (cs := #[.int .i64 0,.int .i64 0]) (t := 25) ?hr ?_;(case hd => rfl);(case hg => rfl);(case hr => exact Z295)
      intro gb229 hg w23 hbox hb
      have n0_ := Aside0.mk (Kd.R_below (Kd.R_elderB Z264 gb229 (Nat.le_of_eq hg.symm)) hb)
      have n1_ := Aside0.mk (blk_below (g := gb224) (o := .cells #[.int .i64 x225000_1,.int .i64 x225001_1] 25 (0,0)) Z491 hb)
      have n2_ := Aside0.mk (below_step Z407 hb)
      have n3_ := Aside0.mk (hbox)
      have n4_ := Aside0.mk ((Z204 : w.heap.size ≤ gb229))
      have n5_ := Aside0.mk ((Z204 : w.heap.size ≤ gb229))
      have n6_ := Aside0.mk ((Z247 : gb224 ≠ gb229))
      have n7_ := Aside0.mk ((Z248 : gb229 ≠ gb224))
      clear HO_4
      clear BK224
      clear HB
      have HO_4 := n0_
      have BK224 := n1_
      have HB := n2_
      have BK229 := n3_
      have GW229 := n4_
      have GE229 := n5_
      have NB224_229 := n6_
      have NB229_224 := n7_
      clear n0_ n1_ n2_ n3_ n4_ n5_ n6_ n7_
      clear hb hbox hg
      refine hK.out _ _ ⟨bc BK224 0,bc BK224 1,((HB.out.cell (World.block_lt_of_cell? w _ hw225_0)).trans hw225_0),((HB.out.cell (World.block_lt_of_cell? w _ hw225_1)).trans hw225_1)⟩ (fun hHeld => ?_)
      clear hK K
      refine rN (h := ?_)
      exact norm_ Z266 (hCont (gb229) _ ⟨hHeld,Z264,Z491,Z300,GW229.out,GE229.out,NB224_229.out,NB229_224.out,Z202⟩)
     skip
     refine box_step ?hg (N := 7) ?hd (cs := #[.int .i64 0,.int .i64 0]) (t := 25) ?hr ?_;(case hd => rfl);(case hg => rfl);(case hr => exact Z295)
     intro gb229 hg w22 hbox hb
     have n0_ := Aside0.mk (Kd.R_below (Kd.R_elderB Z264 gb229 (Nat.le_of_eq hg.symm)) hb)
     have n1_ := Aside0.mk (blk_below (g := gb224) (o := .cells #[.int .i64 x225000_1,.int .i64 x225001_1] 25 (0,0)) Z491 hb)
     have n2_ := Aside0.mk (below_step Z407 hb)
     have n3_ := Aside0.mk (hbox)
     have n4_ := Aside0.mk ((Z204 : w.heap.size ≤ gb229))
     have n5_ := Aside0.mk ((Z204 : w.heap.size ≤ gb229))
     have n6_ := Aside0.mk ((Z247 : gb224 ≠ gb229))
     have n7_ := Aside0.mk ((Z248 : gb229 ≠ gb224))
     clear HO_4
     clear BK224
     clear HB
     have HO_4 := n0_
     have BK224 := n1_
     have HB := n2_
     have BK229 := n3_
     have GW229 := n4_
     have GE229 := n5_
     have NB224_229 := n6_
     have NB229_224 := n7_
     clear n0_ n1_ n2_ n3_ n4_ n5_ n6_ n7_
     clear hb hbox hg
     refine hK.out _ _ ⟨bc BK224 0,bc BK224 1,((HB.out.cell (World.block_lt_of_cell? w _ hw225_0)).trans hw225_0),((HB.out.cell (World.block_lt_of_cell? w _ hw225_1)).trans hw225_1)⟩ (fun hHeld => ?_)
     clear hK K
     refine rN (h := ?_)
     refine rO 5 23 12 575 HT_ (h := fun K hK => ?_)
     refine goes_ Try.func53 Z310 rfl #[.agg #[.int .i64 x225000_1,.int .i64 x225001_1],.agg #[.int .i64 ((rd_T25 l0 x6_1).f0),.int .i64 ((rd_T25 l0 x6_1).f1)]] Z311 rfl rfl Z249 ?_
     with_reducible refine (spec_l13Add.calls x225000_1 x225001_1 ((rd_T25 l0 x6_1).f0) ((rd_T25 l0 x6_1).f1) t226 t227 false _ A8.out).mono ?_
     rintro e w23 ⟨rfl,hb⟩
     refine ⟨_,rfl,?_⟩
     have n0_ := Aside0.mk (Kd.R_below Z264 hb)
     have n1_ := Aside0.mk (blk_below (g := gb224) (o := .cells #[.int .i64 x225000_1,.int .i64 x225001_1] 25 (0,0)) Z491 hb)
     have n2_ := Aside0.mk (blk_below (g := gb229) (o := .cells #[.int .i64 0,.int .i64 0] 25 (0,0)) Z300 hb)
     have n3_ := Aside0.mk (below_step Z202 hb)
     clear HO_4
     clear BK224
     clear BK229
     clear HB
     have HO_4 := n0_
     have BK224 := n1_
     have BK229 := n2_
     have HB := n3_
     clear n0_ n1_ n2_ n3_
     (try clear hb)
     (try clear hb2)
     (try clear hk)
     (try clear hi)
     refine hK.out _ _ ⟨bc BK224 0,bc BK224 1,((HB.out.cell (World.block_lt_of_cell? w _ hw225_0)).trans hw225_0),((HB.out.cell (World.block_lt_of_cell? w _ hw225_1)).trans hw225_1)⟩ (fun hHeld => ?_)
     clear hK K
     refine rN (h := ?_)
     refine rP 6 17 12 639 HT_ (h := ?_)
     refine rP 7 24 12 767 HT_ (h := ?_)
     refine rP 8 25 12 1023 HT_ (h := ?_)
     exact norm_ Z266 (hCont (gb229) _ ⟨hHeld,Z264,Z491,Z300,GW229.out,GE229.out,NB224_229.out,NB229_224.out,Z202⟩)
    rintro gb229 w24 ⟨hS_,h0_,h1_,h2_,h3_,h4_,h5_,h6_,h7_⟩
    have n0_ : Aside0 (Kd.R k25 25 w24 w.heap.size (fun k_ => k_ ≠ gb224 ∧ k_ ≠ gb229) u4 x4_1) := ⟨h0_⟩
    have n1_ : Aside0 (w24.heap[gb224]? = some (.cells #[.int .i64 x225000_1,.int .i64 x225001_1] 25 (0,0))) := ⟨h1_⟩
    have n2_ : Aside0 (w24.heap[gb229]? = some (.cells #[.int .i64 0,.int .i64 0] 25 (0,0))) := ⟨h2_⟩
    have n3_ : Aside0 (w.heap.size ≤ gb229) := ⟨h3_⟩
    have n4_ : Aside0 (w.heap.size ≤ gb229) := ⟨h4_⟩
    have n5_ : Aside0 (gb224 ≠ gb229) := ⟨h5_⟩
    have n6_ : Aside0 (gb229 ≠ gb224) := ⟨h6_⟩
    have n7_ : Aside0 (Below w.heap.size w w24) := ⟨h7_⟩
    clear HO_4
    clear BK224
    clear HB
    clear h0_ h1_ h2_ h3_ h4_ h5_ h6_ h7_
    have HO_4 := n0_
    have BK224 := n1_
    have BK229 := n2_
    have GW229 := n3_
    have GE229 := n4_
    have NB224_229 := n5_
    have NB229_224 := n6_
    have HB := n7_
    clear n0_ n1_ n2_ n3_ n4_ n5_ n6_ n7_
    have hHeld : w24.cell? ⟨gb224,0,none⟩ = some (.int .i64 x225000_1) ∧ w24.cell? ⟨gb224,1,none⟩ = some (.int .i64 x225001_1) ∧ w24.cell? (ad225.add ((x6_1).toNat * 2)) = some (.int .i64 ((rd_T25 l0 x6_1).f0)) ∧ w24.cell? ⟨(ad225.add ((x6_1).toNat * 2)).block,(ad225.add ((x6_1).toNat * 2)).off + 1,none⟩ = some (.int .i64 ((rd_T25 l0 x6_1).f1)) := hS_
    refine norm_ (a' := ?_) ?_ ?_
    rotate_left
    ·simp only [putAll,Act.put,List.setIfInBounds_toArray,List.set_cons_zero,List.set_cons_succ]
     rfl
    refine one_ (i := 10) (N := none) (qM 12 2047) rfl rfl (one_of HT_.out Z310) Z522 (fun K hK => ?_)
    have hs25 : w24.cell? ⟨gb229,0,none⟩ = some (.int .i64 0) := bc BK229 0
    have hfs25 := blk_frozen BK229.out 0
    have hns25_0 := NB224_229.out
    have hms25_0 := NB229_224.out
    have hs26 : w24.cell? ⟨gb229,1,none⟩ = some (.int .i64 0) := bc BK229 1
    have hfs26 := blk_frozen BK229.out 1
    have hns26_0 := NB224_229.out
    have hms26_0 := NB229_224.out
    refine skip_ (w1 := ?_) Z311 rfl ?_ ?_
    rotate_left
    ·go_simp
     rfl
    refine hK.out _ _ ⟨((cell_far (p := ⟨gb229,_,none⟩) NB224_229.out _).trans (((cell_far (p := ⟨gb229,_,none⟩) NB224_229.out _).trans (hHeld.1)))),((cell_far (p := ⟨gb229,_,none⟩) NB224_229.out _).trans (((cell_far (p := ⟨gb229,_,none⟩) NB224_229.out _).trans (hHeld.2.1)))),((cell_far (p := ⟨gb229,_,none⟩) Z89 _).trans (((cell_far (p := ⟨gb229,_,none⟩) Z89 _).trans (hHeld.2.2.1)))),((cell_far (p := ⟨gb229,_,none⟩) Z88 _).trans (((cell_far (p := ⟨gb229,_,none⟩) Z88 _).trans (hHeld.2.2.2))))⟩ (fun hHeld => ?_)
    clear hK K
    refine rP 11 8 12 4095 HT_ (h := ?_)
    refine done_ (done_of HT_.out Z310) ?_
    try go_wp2_with (first | ((with_reducible refine gate_dst (N := 28) rfl ?_);refine Kd.R_lit k25 _ 25 ?hg (N := 28) ?hd (xs := ([] : List (S25))) (inner := []) (ok := fun _ => True) (okp := fun _ => True) ?hr ?hp (fun _ hk => hk) trivial (Below.refl _ _) (Nat.le_refl _) Z524 ?_;(case hd => rfl);(case hg => rfl);(case hr => exact Z295);(case hp => exact Z308);intro v234 w27 ho28 hb hg_ hnew_;clear hg_ hnew_;(first | rw [← Ny233.out] at ho28 | (simp only [Int.reduceToNat] at ho28;rw [← Ny233.out] at ho28));have n_ := jA (Kd.R_elder' Z146 (Kd.R_base ho28) hb) (jA (Kd.R_lower (Kd.R_newB (Kd.R_newB (Kd.R_new' ho28 (Kd.R_lt Z146)) (g := gb224) (o := .cells #[.int .i64 x225000_1,.int .i64 x225001_1] 25 (0,0)) Z252) (g := gb229) (o := .cells #[.int .i64 t226,.int .i64 t227] 25 (0,0)) Z223) (below_size Z202)) (jA (blk_below (g := gb224) (o := .cells #[.int .i64 x225000_1,.int .i64 x225001_1] 25 (0,0)) Z252 hb) (jA (blk_below (g := gb229) (o := .cells #[.int .i64 t226,.int .i64 t227] 25 (0,0)) Z223 hb) (Aside0.mk (below_step Z202 hb)))));clear HO_4 BK224 BK229 HB;obtain ⟨HO_4,HO235,BK224,BK229,HB⟩ := n_;clear hb ho28))
    go_ret2
    exact ⟨_,Z265,by (with_reducible repeat (first | apply Kd.R_alloc | apply Kd.R_drewN | apply Kd.R_drew));exact Kd.R_mono HO235.out (fun _ hk => trivial),Z202⟩
   subst c9
   rw [if_pos rfl] at H
   obtain ⟨c10,H⟩ := ifp H
   have LMc10 := Aside0.mk c10
   clear c10
   obtain ⟨y230,hy230⟩ : ∃ y_ : List (S25),y_ = (x4_1 ++ [(⟨t226,t227⟩ : S25)]) := ⟨_,rfl⟩
   replace H : (spec_Prefix.l0 k1 l0 y230 (wrap64 (x6_1 + 1)) t226 t227) = some (r1,r2) := by first | (rw [hy230];with_reducible exact H) | (have H2_ := (Option.bind_some _ _).symm.trans H;rw [hy230];with_reducible exact H2_) | (have H2_ := (Option.bind_some _ _).symm.trans H;with_reducible exact H2_) | with_reducible exact H | (rw [hy230];exact H) | exact H
   have Ny230 := Aside0.mk hy230
   clear hy230
   have H' := Aside0.mk H
   clear H
   try go_wp2
   have n0_ := Aside0.mk (Kd.R_drew HO_4.out)
   have n1_ := Aside0.mk (blk_drew BK224.out)
   have n2_ := Aside0.mk (below_drew1 HB.out)
   clear HO_4
   clear BK224
   clear HB
   have HO_4 := n0_
   have BK224 := n1_
   have HB := n2_
   clear n0_ n1_ n2_
   have p225 : 0 ≤ (x6_1 : Int) := of_decide_eq_true Z293
   have q225 : x6_1 < (l0.length : Int) := of_decide_eq_true Z293
   obtain ⟨ad225,e225,hx225_0,hx225_1⟩ := at_T25 HR0.out x6_1 p225 q225
   have hw225_1 := hx225_1
   have hw225_0 := hx225_0
   cases e225
   replace hx225_0 := (HB.out.cell (World.block_lt_of_cell? w _ hx225_0)).trans hx225_0
   replace hx225_1 := (HB.out.cell (World.block_lt_of_cell? w _ hx225_1)).trans hx225_1
   replace p225 := eq_true p225
   replace q225 := eq_true q225
   refine start_ (n := 12) (S := fun w' => w'.cell? ⟨gb224,0,none⟩ = some (.int .i64 x225000_1) ∧ w'.cell? ⟨gb224,1,none⟩ = some (.int .i64 x225001_1) ∧ w'.cell? (ad225.add ((x6_1).toNat * 2)) = some (.int .i64 ((rd_T25 l0 x6_1).f0)) ∧ w'.cell? ⟨(ad225.add ((x6_1).toNat * 2)).block,(ad225.add ((x6_1).toNat * 2)).off + 1,none⟩ = some (.int .i64 ((rd_T25 l0 x6_1).f1))) (ds := []) (qM 12 0) Z310 rfl (by kernel_rfl) ⟨bc BK224 0,bc BK224 1,((HB.out.cell (World.block_lt_of_cell? w _ hw225_0)).trans hw225_0),((HB.out.cell (World.block_lt_of_cell? w _ hw225_1)).trans hw225_1)⟩ (fun hHeld => ?_);refine with_tabW spec_Prefix.tab6 spec_Prefix.bits6 (fun HT_ HW_ => ?_)
   generalize wr.drew = w11 at HO_4 BK224 HB hx225_0 hx225_1 hHeld ⊢
   refine rP 1 19 12 2 HT_ (h := ?_)
   refine rP 2 20 12 6 HT_ (h := ?_)
   refine rP 3 21 12 14 HT_ (h := ?_)
   refine rT4 0 18 12 15 HT_ HW_ hHeld (h := ?_)
   refine rT4 4 22 12 31 HT_ HW_ hHeld (h := ?_)
   refine join_ (σ := Nat) 2 (qM 12 1023) (fun s_ => [(23,.tuple #[.agg #[.int .i64 t226,.int .i64 t227],.bool true]),(7,.pointer (some ⟨s_,0,none⟩)),(17,.tuple #[.agg #[.int .i64 t226,.int .i64 t227],.bool true]),(24,.agg #[.int .i64 t226,.int .i64 t227]),(25,.bool true)]) (fun s_ w' => (w'.cell? ⟨gb224,0,none⟩ = some (.int .i64 x225000_1) ∧ w'.cell? ⟨gb224,1,none⟩ = some (.int .i64 x225001_1) ∧ w'.cell? (ad225.add ((x6_1).toNat * 2)) = some (.int .i64 ((rd_T25 l0 x6_1).f0)) ∧ w'.cell? ⟨(ad225.add ((x6_1).toNat * 2)).block,(ad225.add ((x6_1).toNat * 2)).off + 1,none⟩ = some (.int .i64 ((rd_T25 l0 x6_1).f1))) ∧ (Kd.R k25 25 w' w.heap.size (fun k_ => k_ ≠ gb224 ∧ k_ ≠ s_) u4 x4_1) ∧ (w'.heap[gb224]? = some (.cells #[.int .i64 x225000_1,.int .i64 x225001_1] 25 (0,0))) ∧ (w'.heap[s_]? = some (.cells #[.int .i64 0,.int .i64 0] 25 (0,0))) ∧ (w.heap.size ≤ s_) ∧ (w.heap.size ≤ s_) ∧ (gb224 ≠ s_) ∧ (s_ ≠ gb224) ∧ (Below w.heap.size w w')) ?_ ?_
   rotate_left
   ·intro hCont
    refine two_ (i := 5) (j := 9) (Ni := some 23) (Nj := some 7) (qM 12 63) (qM 12 543) rfl rfl rfl rfl (two_of HT_.out Z310) Z522 Z522 (fun K hK => ?_) (fun K hK => ?_)
    ·skip
     refine goes_ Try.func53 Z310 rfl #[.agg #[.int .i64 x225000_1,.int .i64 x225001_1],.agg #[.int .i64 ((rd_T25 l0 x6_1).f0),.int .i64 ((rd_T25 l0 x6_1).f1)]] Z311 rfl rfl Z249 ?_
     with_reducible refine (spec_l13Add.calls x225000_1 x225001_1 ((rd_T25 l0 x6_1).f0) ((rd_T25 l0 x6_1).f1) t226 t227 true _ A8.out).mono ?_
     rintro e w12 ⟨rfl,hb⟩
     refine ⟨_,rfl,?_⟩
     have n0_ := Aside0.mk (Kd.R_below Z264 hb)
     have n1_ := Aside0.mk (blk_below (g := gb224) (o := .cells #[.int .i64 x225000_1,.int .i64 x225001_1] 25 (0,0)) Z491 hb)
     have n2_ := Aside0.mk (below_step Z407 hb)
     clear HO_4
     clear BK224
     clear HB
     have HO_4 := n0_
     have BK224 := n1_
     have HB := n2_
     clear n0_ n1_ n2_
     (try clear hb)
     (try clear hb2)
     (try clear hk)
     (try clear hi)
     refine hK.out _ _ ⟨bc BK224 0,bc BK224 1,((HB.out.cell (World.block_lt_of_cell? w _ hw225_0)).trans hw225_0),((HB.out.cell (World.block_lt_of_cell? w _ hw225_1)).trans hw225_1)⟩ (fun hHeld => ?_)
     clear hK K
     refine rN (h := ?_)
     refine rP 6 17 12 127 HT_ (h := ?_)
     refine rP 7 24 12 255 HT_ (h := ?_)
     refine rP 8 25 12 511 HT_ (h := ?_)
     refine rO 9 7 12 1023 HT_ (h := fun K hK => ?_)
     refine box_step ?hg (N := 7) ?hd (cs := #[.int .i64 0,.int .i64 0]) (t := 25) ?hr ?_;(case hd => rfl);(case hg => rfl);(case hr => exact Z295)
     intro gb229 hg w13 hbox hb
     have n0_ := Aside0.mk (Kd.R_below (Kd.R_elderB Z264 gb229 (Nat.le_of_eq hg.symm)) hb)
     have n1_ := Aside0.mk (blk_below (g := gb224) (o := .cells #[.int .i64 x225000_1,.int .i64 x225001_1] 25 (0,0)) Z491 hb)
     have n2_ := Aside0.mk (below_step Z407 hb)
     have n3_ := Aside0.mk (hbox)
     have n4_ := Aside0.mk ((Z204 : w.heap.size ≤ gb229))
     have n5_ := Aside0.mk ((Z204 : w.heap.size ≤ gb229))
     have n6_ := Aside0.mk ((Z247 : gb224 ≠ gb229))
     have n7_ := Aside0.mk ((Z248 : gb229 ≠ gb224))
     clear HO_4
     clear BK224
     clear HB
     have HO_4 := n0_
     have BK224 := n1_
     have HB := n2_
     have BK229 := n3_
     have GW229 := n4_
     have GE229 := n5_
     have NB224_229 := n6_
     have NB229_224 := n7_
     clear n0_ n1_ n2_ n3_ n4_ n5_ n6_ n7_
     clear hb hbox hg
     refine hK.out _ _ ⟨bc BK224 0,bc BK224 1,((HB.out.cell (World.block_lt_of_cell? w _ hw225_0)).trans hw225_0),((HB.out.cell (World.block_lt_of_cell? w _ hw225_1)).trans hw225_1)⟩ (fun hHeld => ?_)
     clear hK K
     refine rN (h := ?_)
     exact norm_ Z266 (hCont (gb229) _ ⟨hHeld,Z264,Z491,Z300,GW229.out,GE229.out,NB224_229.out,NB229_224.out,Z202⟩)
    skip
    refine box_step ?hg (N := 7) ?hd (cs := #[.int .i64 0,.int .i64 0]) (t := 25) ?hr ?_;(case hd => rfl);(case hg => rfl);(case hr => exact Z295)
    intro gb229 hg w12 hbox hb
    have n0_ := Aside0.mk (Kd.R_below (Kd.R_elderB Z264 gb229 (Nat.le_of_eq hg.symm)) hb)
    have n1_ := Aside0.mk (blk_below (g := gb224) (o := .cells #[.int .i64 x225000_1,.int .i64 x225001_1] 25 (0,0)) Z491 hb)
    have n2_ := Aside0.mk (below_step Z407 hb)
    have n3_ := Aside0.mk (hbox)
    have n4_ := Aside0.mk ((Z204 : w.heap.size ≤ gb229))
    have n5_ := Aside0.mk ((Z204 : w.heap.size ≤ gb229))
    have n6_ := Aside0.mk ((Z247 : gb224 ≠ gb229))
    have n7_ := Aside0.mk ((Z248 : gb229 ≠ gb224))
    clear HO_4
    clear BK224
    clear HB
    have HO_4 := n0_
    have BK224 := n1_
    have HB := n2_
    have BK229 := n3_
    have GW229 := n4_
    have GE229 := n5_
    have NB224_229 := n6_
    have NB229_224 := n7_
    clear n0_ n1_ n2_ n3_ n4_ n5_ n6_ n7_
    clear hb hbox hg
    refine hK.out _ _ ⟨bc BK224 0,bc BK224 1,((HB.out.cell (World.block_lt_of_cell? w _ hw225_0)).trans hw225_0),((HB.out.cell (World.block_lt_of_cell? w _ hw225_1)).trans hw225_1)⟩ (fun hHeld => ?_)
    clear hK K
    refine rN (h := ?_)
    refine rO 5 23 12 575 HT_ (h := fun K hK => ?_)
    refine goes_ Try.func53 Z310 rfl #[.agg #[.int .i64 x225000_1,.int .i64 x225001_1],.agg #[.int .i64 ((rd_T25 l0 x6_1).f0),.int .i64 ((rd_T25 l0 x6_1).f1)]] Z311 rfl rfl Z249 ?_
    with_reducible refine (spec_l13Add.calls x225000_1 x225001_1 ((rd_T25 l0 x6_1).f0) ((rd_T25 l0 x6_1).f1) t226 t227 true _ A8.out).mono ?_
    rintro e w13 ⟨rfl,hb⟩
    refine ⟨_,rfl,?_⟩
    have n0_ := Aside0.mk (Kd.R_below Z264 hb)
    have n1_ := Aside0.mk (blk_below (g := gb224) (o := .cells #[.int .i64 x225000_1,.int .i64 x225001_1] 25 (0,0)) Z491 hb)
    have n2_ := Aside0.mk (blk_below (g := gb229) (o := .cells #[.int .i64 0,.int .i64 0] 25 (0,0)) Z300 hb)
    have n3_ := Aside0.mk (below_step Z202 hb)
    clear HO_4
    clear BK224
    clear BK229
    clear HB
    have HO_4 := n0_
    have BK224 := n1_
    have BK229 := n2_
    have HB := n3_
    clear n0_ n1_ n2_ n3_
    (try clear hb)
    (try clear hb2)
    (try clear hk)
    (try clear hi)
    refine hK.out _ _ ⟨bc BK224 0,bc BK224 1,((HB.out.cell (World.block_lt_of_cell? w _ hw225_0)).trans hw225_0),((HB.out.cell (World.block_lt_of_cell? w _ hw225_1)).trans hw225_1)⟩ (fun hHeld => ?_)
    clear hK K
    refine rN (h := ?_)
    refine rP 6 17 12 639 HT_ (h := ?_)
    refine rP 7 24 12 767 HT_ (h := ?_)
    refine rP 8 25 12 1023 HT_ (h := ?_)
    exact norm_ Z266 (hCont (gb229) _ ⟨hHeld,Z264,Z491,Z300,GW229.out,GE229.out,NB224_229.out,NB229_224.out,Z202⟩)
   rintro gb229 w14 ⟨hS_,h0_,h1_,h2_,h3_,h4_,h5_,h6_,h7_⟩
   have n0_ : Aside0 (Kd.R k25 25 w14 w.heap.size (fun k_ => k_ ≠ gb224 ∧ k_ ≠ gb229) u4 x4_1) := ⟨h0_⟩
   have n1_ : Aside0 (w14.heap[gb224]? = some (.cells #[.int .i64 x225000_1,.int .i64 x225001_1] 25 (0,0))) := ⟨h1_⟩
   have n2_ : Aside0 (w14.heap[gb229]? = some (.cells #[.int .i64 0,.int .i64 0] 25 (0,0))) := ⟨h2_⟩
   have n3_ : Aside0 (w.heap.size ≤ gb229) := ⟨h3_⟩
   have n4_ : Aside0 (w.heap.size ≤ gb229) := ⟨h4_⟩
   have n5_ : Aside0 (gb224 ≠ gb229) := ⟨h5_⟩
   have n6_ : Aside0 (gb229 ≠ gb224) := ⟨h6_⟩
   have n7_ : Aside0 (Below w.heap.size w w14) := ⟨h7_⟩
   clear HO_4
   clear BK224
   clear HB
   clear h0_ h1_ h2_ h3_ h4_ h5_ h6_ h7_
   have HO_4 := n0_
   have BK224 := n1_
   have BK229 := n2_
   have GW229 := n3_
   have GE229 := n4_
   have NB224_229 := n5_
   have NB229_224 := n6_
   have HB := n7_
   clear n0_ n1_ n2_ n3_ n4_ n5_ n6_ n7_
   have hHeld : w14.cell? ⟨gb224,0,none⟩ = some (.int .i64 x225000_1) ∧ w14.cell? ⟨gb224,1,none⟩ = some (.int .i64 x225001_1) ∧ w14.cell? (ad225.add ((x6_1).toNat * 2)) = some (.int .i64 ((rd_T25 l0 x6_1).f0)) ∧ w14.cell? ⟨(ad225.add ((x6_1).toNat * 2)).block,(ad225.add ((x6_1).toNat * 2)).off + 1,none⟩ = some (.int .i64 ((rd_T25 l0 x6_1).f1)) := hS_
   refine norm_ (a' := ?_) ?_ ?_
   rotate_left
   ·simp only [putAll,Act.put,List.setIfInBounds_toArray,List.set_cons_zero,List.set_cons_succ]
    rfl
   refine one_ (i := 10) (N := none) (qM 12 2047) rfl rfl (one_of HT_.out Z310) Z522 (fun K hK => ?_)
   have hs15 : w14.cell? ⟨gb229,0,none⟩ = some (.int .i64 0) := bc BK229 0
   have hfs15 := blk_frozen BK229.out 0
   have hns15_0 := NB224_229.out
   have hms15_0 := NB229_224.out
   have hs16 : w14.cell? ⟨gb229,1,none⟩ = some (.int .i64 0) := bc BK229 1
   have hfs16 := blk_frozen BK229.out 1
   have hns16_0 := NB224_229.out
   have hms16_0 := NB229_224.out
   refine skip_ (w1 := ?_) Z311 rfl ?_ ?_
   rotate_left
   ·go_simp
    rfl
   refine hK.out _ _ ⟨((cell_far (p := ⟨gb229,_,none⟩) NB224_229.out _).trans (((cell_far (p := ⟨gb229,_,none⟩) NB224_229.out _).trans (hHeld.1)))),((cell_far (p := ⟨gb229,_,none⟩) NB224_229.out _).trans (((cell_far (p := ⟨gb229,_,none⟩) NB224_229.out _).trans (hHeld.2.1)))),((cell_far (p := ⟨gb229,_,none⟩) Z89 _).trans (((cell_far (p := ⟨gb229,_,none⟩) Z89 _).trans (hHeld.2.2.1)))),((cell_far (p := ⟨gb229,_,none⟩) Z88 _).trans (((cell_far (p := ⟨gb229,_,none⟩) Z88 _).trans (hHeld.2.2.2))))⟩ (fun hHeld => ?_)
   clear hK K
   refine rP 11 8 12 4095 HT_ (h := ?_)
   refine done_ (done_of HT_.out Z310) ?_
   have hnb17 := NB229_224.out
   have hnc17 := NB224_229.out
   obtain ⟨hcz18_0,hcz18_1,hfz18_0,hfz18_1⟩ := cells2 BK229.out
   obtain ⟨hcz19_0,hcz19_1,hfz19_0,hfz19_1⟩ := cells2 BK224.out
   try go_wp2_with (first | ((with_reducible refine gate_builtin (b := .append) (xs := #[.tmp 30,.tmp 32]) rfl ?_);at_builtin;refine Kd.R_append k25 (w0 := w) w.heap.size rfl (.tmp 30) (.tmp 32) 50 25 (.agg #[(.int .i64 0),(.int .i64 0)]) 16 rfl Try.underlying50 info25 rfl Z522 Z523 u4 x4_1 (⟨t226,t227⟩ : S25) [.int .i64 t226,.int .i64 t227] (fun k_ => k_ ≠ gb224 ∧ k_ ≠ gb229) (fun _ => False) rfl Z295 ?aP (fun _ hk => hk.elim) ?aF ?aO ?aB ?aS ?aL ?_;(case aP => exact k25_mkM _ _ _ (⟨t226,t227⟩ : S25));(case aB => exact Z202);(case aF => exact (fun k_ hk => ⟨Kd.freshB (g := gb224) (o := .cells #[.int .i64 t226,.int .i64 t227] 25 (0,0)) Z156 k_ hk,Kd.freshB (g := gb229) (o := .cells #[.int .i64 t226,.int .i64 t227] 25 (0,0)) Z166 k_ hk⟩));(case aO => exact (by (with_reducible repeat (first | apply Kd.R_alloc | apply Kd.R_drewN | apply Kd.R_drew));exact Kd.R_mono (Kd.R_far (p := ⟨gb224,1,none⟩) (Kd.R_far (p := ⟨gb224,0,none⟩) (Kd.R_far (p := ⟨gb229,1,none⟩) (Kd.R_far (p := ⟨gb229,0,none⟩) (Kd.R_mono (Kd.R_mono HO_4.out (fun k_ hk => (⟨hk,hk.2⟩ : _ ∧ k_ ≠ gb229))) (fun k_ hk => (⟨hk,hk.1.1⟩ : _ ∧ k_ ≠ gb224))) (fun _ hk => hk.1.2) (.int .i64 t226)) (fun _ hk => hk.1.2) (.int .i64 t227)) (fun _ hk => hk.2) (.int .i64 t226)) (fun _ hk => hk.2) (.int .i64 t227)) (fun _ hk => ⟨hk.1.1.1,hk.1.1.2⟩)));(case aS => exact (below_size Z202));(case aL => have := LMc10.out;omega);intro v231 w20 ho hb hg hat;rw [← Ny230.out] at ho;have n_ := jA (blk_grown (g := gb224) (o := .cells #[.int .i64 t226,.int .i64 t227] 25 (0,0)) Z156 hg (Kd.R_away HO_4.out (fun _ hk => hk.1))) (jA (blk_grown (g := gb229) (o := .cells #[.int .i64 t226,.int .i64 t227] 25 (0,0)) Z166 hg (Kd.R_away HO_4.out (fun _ hk => hk.2))) (jA (hb) (Aside0.mk (ho))));clear BK224 BK229 HB HO_4;obtain ⟨BK224,BK229,HB,HO232⟩ := n_;clear ho hb hg hat))
   go_roundg k1
   case measure => have := HK1.out;omega
   case rel => exact ⟨(y230),(wrap64 (x6_1 + 1)),(t226),(t227),Z294,H',⟨Z309⟩,⟨by (with_reducible repeat (first | apply Kd.R_alloc | apply Kd.R_drewN | apply Kd.R_drew));exact Kd.R_mono HO232.out (fun _ hk => hk.1)⟩,⟨Z491⟩,⟨Z202⟩⟩

/-! ### spec_SubInt: function 35 -/
def spec_SubInt.f (a0 : Int) (a1 : Int) : Option (Int × Bool) := if a1 < 0 then (if a0 > (wrap64 (9223372036854775807 + a1)) then (some (0,false)) else (if a1 > 0 then (if a0 < (wrap64 ((-9223372036854775808) + a1)) then (some (0,false)) else (some (wrap64 (a0 - a1),true))) else (some (wrap64 (a0 - a1),true)))) else (if a1 > 0 then (if a0 < (wrap64 ((-9223372036854775808) + a1)) then (some (0,false)) else (some (wrap64 (a0 - a1),true))) else (some (wrap64 (a0 - a1),true)))
set_option maxHeartbeats 8000000 in
set_option maxRecDepth 100000 in
theorem spec_SubInt.calls (a0 : Int) (a1 : Int) (r1 : Int) (r2 : Bool) (w : World) (h : spec_SubInt.f a0 a1 = some (r1,r2)) :
  Calls Try.prog 35 #[.int .i64 a0,.int .i64 a1] w fun e w' => e = .returned (.tuple #[.int .i64 r1,.bool r2]) ∧ Drawn0 w w' := by
 have H := h
 clear h
 unfold spec_SubInt.f at H
 by_cases c3 : a1 < 0
 rotate_left
 ·rw [if_neg c3] at H
  have c3b0 : decide (a1 < 0) = false := decide_eq_false c3
  clear c3
  by_cases c7 : a1 > 0
  rotate_left
  ·rw [if_neg c7] at H
   have c7b0 : decide (0 < a1) = false := decide_eq_false c7
   clear c7
   simp only [Option.some.injEq,Prod.mk.injEq] at H
   obtain ⟨rfl,rfl⟩ := H
   go_enter Try.func35,Try.ntmps35
   go_wp2
   go_ret2
   exact ⟨Z294,Z271⟩
  rw [if_pos c7] at H
  have c7b0 : decide (0 < a1) = true := decide_eq_true c7
  clear c7
  by_cases c8 : a0 < (wrap64 ((-9223372036854775808) + a1))
  ·rw [if_pos c8] at H
   have c8b0 : decide (a0 < (wrap64 ((-9223372036854775808) + a1))) = true := decide_eq_true c8
   clear c8
   simp only [Option.some.injEq,Prod.mk.injEq] at H
   obtain ⟨rfl,rfl⟩ := H
   go_enter Try.func35,Try.ntmps35
   go_wp2
   go_ret2
   exact ⟨Z294,Z271⟩
  rw [if_neg c8] at H
  have c8b0 : decide (a0 < (wrap64 ((-9223372036854775808) + a1))) = false := decide_eq_false c8
  clear c8
  simp only [Option.some.injEq,Prod.mk.injEq] at H
  obtain ⟨rfl,rfl⟩ := H
  go_enter Try.func35,Try.ntmps35
  go_wp2
  go_ret2
  exact ⟨Z294,Z271⟩
 rw [if_pos c3] at H
 have c3b0 : decide (a1 < 0) = true := decide_eq_true c3
 clear c3
 by_cases c4 : a0 > (wrap64 (9223372036854775807 + a1))
 ·rw [if_pos c4] at H
  have c4b0 : decide ((wrap64 (9223372036854775807 + a1)) < a0) = true := decide_eq_true c4
  clear c4
  simp only [Option.some.injEq,Prod.mk.injEq] at H
  obtain ⟨rfl,rfl⟩ := H
  go_enter Try.func35,Try.ntmps35
  go_wp2
  go_ret2
  exact ⟨Z294,Z271⟩
 rw [if_neg c4] at H
 have c4b0 : decide ((wrap64 (9223372036854775807 + a1)) < a0) = false := decide_eq_false c4
 clear c4
 by_cases c5 : a1 > 0
 rotate_left
 ·rw [if_neg c5] at H
  have c5b0 : decide (0 < a1) = false := decide_eq_false c5
  clear c5
  simp only [Option.some.injEq,Prod.mk.injEq] at H
  obtain ⟨rfl,rfl⟩ := H
  go_enter Try.func35,Try.ntmps35
  go_wp2
  go_ret2
  exact ⟨Z294,Z271⟩
 rw [if_pos c5] at H
 have c5b0 : decide (0 < a1) = true := decide_eq_true c5
 clear c5
 by_cases c6 : a0 < (wrap64 ((-9223372036854775808) + a1))
 ·rw [if_pos c6] at H
  have c6b0 : decide (a0 < (wrap64 ((-9223372036854775808) + a1))) = true := decide_eq_true c6
  clear c6
  simp only [Option.some.injEq,Prod.mk.injEq] at H
  obtain ⟨rfl,rfl⟩ := H
  go_enter Try.func35,Try.ntmps35
  go_wp2
  go_ret2
  exact ⟨Z294,Z271⟩
 rw [if_neg c6] at H
 have c6b0 : decide (a0 < (wrap64 ((-9223372036854775808) + a1))) = false := decide_eq_false c6
 clear c6
 simp only [Option.some.injEq,Prod.mk.injEq] at H
 obtain ⟨rfl,rfl⟩ := H
 go_enter Try.func35,Try.ntmps35
 go_wp2
 go_ret2
 exact ⟨Z294,Z271⟩

end Go.Proofs.Ytlflcgdcegohjaa.QFnBetter
