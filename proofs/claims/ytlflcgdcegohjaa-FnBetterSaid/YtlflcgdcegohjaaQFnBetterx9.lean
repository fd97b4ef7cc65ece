/- The machine side of FnBetter: what each Go function that it reaches comes to. Conditions: none. -/
import Derived.Test.YtlflcgdcegohjaaQFnBetterx0
import Derived.Test.YtlflcgdcegohjaaQFnBetterx6
import Derived.Test.YtlflcgdcegohjaaQFnBetterx7
import Derived.Test.YtlflcgdcegohjaaQFnBetterx8
namespace Go.Proofs.Ytlflcgdcegohjaa.QFnBetter
open Go.RowKit Go.Proofs.YtlflcgdcegohjaaW.PrintWords Go.Proofs.YtlflcgdcegohjaaW.PrintLast Go.Proofs.YtlflcgdcegohjaaW.PrintMore
attribute [local go_sem] max2_int min2_int max_two min_two max_three min_three max_four min_four   -- for this text's walks alone
set_option linter.unusedVariables false
set_option linter.unusedSimpArgs false

/-! ### impl_CompareWide: function 26 -/
mutual
def impl_CompareWide.j0 : Nat → Bool → Bool → Int → Int → Bool → Int → Int → Option (Int)
 | 0,_,_,_,_,_,_,_ => none
 | k + 1,x19,x514000,x514001,x514002,x515000,x515001,x515002 => if x19 = true then (some (-1)) else (if x515000 = true then (impl_CompareWide.j1 k (!x514000) x514000 x514001 x514002 x515000 x515001 x515002) else (impl_CompareWide.j1 k false x514000 x514001 x514002 x515000 x515001 x515002))
def impl_CompareWide.j1 : Nat → Bool → Bool → Int → Int → Bool → Int → Int → Option (Int)
 | 0,_,_,_,_,_,_,_ => none
 | k + 1,x27,x514000,x514001,x514002,x515000,x515001,x515002 => if x27 = true then (some 1) else (if x514000 = true then ((impl_compareSizes.f k x515000 x515001 x515002 x514000 x514001 x514002).bind fun t521 => (some t521)) else ((impl_compareSizes.f k x514000 x514001 x514002 x515000 x515001 x515002).bind fun t522 => (some t522)))
end
def impl_CompareWide.f (k : Nat) (a0_0 : Bool) (a0_1 : Int) (a0_2 : Int) (a1_0 : Bool) (a1_1 : Int) (a1_2 : Int) : Option (Int) := (impl_wideOf.f a0_0 a0_1 a0_2).bind fun bt515 => ((impl_wideOf.f a1_0 a1_1 a1_2).bind fun bt518 => (if bt515.1 = true then (impl_CompareWide.j0 k (!bt518.1) bt515.1 bt515.2.1 bt515.2.2 bt518.1 bt518.2.1 bt518.2.2) else (impl_CompareWide.j0 k false bt515.1 bt515.2.1 bt515.2.2 bt518.1 bt518.2.1 bt518.2.2)))
theorem impl_CompareWide.mono_l : ∀ k,(∀ y0 y1 y2 y3 y4 y5 y6,LeO (impl_CompareWide.j0 k y0 y1 y2 y3 y4 y5 y6) (impl_CompareWide.j0 (k + 1) y0 y1 y2 y3 y4 y5 y6)) ∧ (∀ y0 y1 y2 y3 y4 y5 y6,LeO (impl_CompareWide.j1 k y0 y1 y2 y3 y4 y5 y6) (impl_CompareWide.j1 (k + 1) y0 y1 y2 y3 y4 y5 y6))
 | 0 => ⟨fun _ _ _ _ _ _ _ r h => by simp [impl_CompareWide.j0] at h,fun _ _ _ _ _ _ _ r h => by simp [impl_CompareWide.j1] at h⟩
 | k + 1 => by
  obtain ⟨ih0,ih1⟩ := impl_CompareWide.mono_l k
  refine ⟨?_,?_⟩
  ·intro y0 y1 y2 y3 y4 y5 y6
   unfold impl_CompareWide.j0
   repeat' first
   | (with_reducible exact ih0 _ _ _ _ _ _ _)
   | (with_reducible exact ih1 _ _ _ _ _ _ _)
   | (with_reducible exact impl_compareSizes.mono _ _ _ _ _ _ _)
   | (with_reducible exact LeO.refl _)
   | (with_reducible exact LeO.none _)
   | (with_reducible refine LeO.ite ?_ ?_)
   | (with_reducible refine LeO.bind ?_ (fun _ => ?_))
   | exact ih0 _ _ _ _ _ _ _
   | exact ih1 _ _ _ _ _ _ _
   | exact impl_compareSizes.mono _ _ _ _ _ _ _
   | exact LeO.none _
   | refine LeO.ite ?_ ?_
   | refine LeO.bind ?_ (fun _ => ?_)
  ·intro y0 y1 y2 y3 y4 y5 y6
   unfold impl_CompareWide.j1
   repeat' first
   | (with_reducible exact ih0 _ _ _ _ _ _ _)
   | (with_reducible exact ih1 _ _ _ _ _ _ _)
   | (with_reducible exact impl_compareSizes.mono _ _ _ _ _ _ _)
   | (with_reducible exact LeO.refl _)
   | (with_reducible exact LeO.none _)
   | (with_reducible refine LeO.ite ?_ ?_)
   | (with_reducible refine LeO.bind ?_ (fun _ => ?_))
   | exact ih0 _ _ _ _ _ _ _
   | exact ih1 _ _ _ _ _ _ _
   | exact impl_compareSizes.mono _ _ _ _ _ _ _
   | exact LeO.none _
   | refine LeO.ite ?_ ?_
   | refine LeO.bind ?_ (fun _ => ?_)
theorem impl_CompareWide.mono : ∀ a0 a1 a2 a3 a4 a5 k,LeO (impl_CompareWide.f k a0 a1 a2 a3 a4 a5) (impl_CompareWide.f (k + 1) a0 a1 a2 a3 a4 a5) := by
 intro a0 a1 a2 a3 a4 a5 k
 obtain ⟨ih0,ih1⟩ := impl_CompareWide.mono_l k
 unfold impl_CompareWide.f
 repeat' first
   | (with_reducible exact ih0 _ _ _ _ _ _ _)
   | (with_reducible exact ih1 _ _ _ _ _ _ _)
   | (with_reducible exact impl_compareSizes.mono _ _ _ _ _ _ _)
   | (with_reducible exact LeO.refl _)
   | (with_reducible exact LeO.none _)
   | (with_reducible refine LeO.ite ?_ ?_)
   | (with_reducible refine LeO.bind ?_ (fun _ => ?_))
   | exact ih0 _ _ _ _ _ _ _
   | exact ih1 _ _ _ _ _ _ _
   | exact impl_compareSizes.mono _ _ _ _ _ _ _
   | exact LeO.none _
   | refine LeO.ite ?_ ?_
   | refine LeO.bind ?_ (fun _ => ?_)
def impl_CompareWide.T1 : Bool × List (List Nat × List Nat) := (true,[([],[]),([0],[0]),([],[]),([2],[2]),([],[]),([4],[4]),([1,3,5],[1,3,5]),([],[]),([7],[7]),([],[]),([9],[9]),([],[]),([11],[11]),([8,10,12,6],[8,10,12]),([6,13,0,1,2,3,4,5,6],[6]),([13,14,0,1,2,3,4,5,6,7,8,9,10,11,12,13,14],[13])])
def impl_CompareWide.B1 : List Nat := [0,1,0,4,0,16,63,0,128,0,512,0,2048,8191,16383,32767]
theorem impl_CompareWide.tab1 : rtab .any (opsOf Try.f26 1) = impl_CompareWide.T1 := by kernel_rfl
theorem impl_CompareWide.bits1 : waitsOk impl_CompareWide.T1.2 impl_CompareWide.B1 = true := by kernel_rfl
set_option maxHeartbeats 8000000 in
set_option maxRecDepth 100000 in
theorem impl_CompareWide.calls (k : Nat) (a0_0 : Bool) (a0_1 : Int) (a0_2 : Int) (a1_0 : Bool) (a1_1 : Int) (a1_2 : Int) (r : Int) (w : World) (h : impl_CompareWide.f k a0_0 a0_1 a0_2 a1_0 a1_1 a1_2 = some r) :
  Calls Try.prog 26 #[.agg #[.bool a0_0,.int .u64 a0_1,.int .u64 a0_2],.agg #[.bool a1_0,.int .u64 a1_1,.int .u64 a1_2]] w fun e w' => e = .returned (.int .i64 r) ∧ Below w.heap.size w w' := by
 have hu39 := Try.underlying39
 have HB := Aside0.mk (Below.refl w.heap.size w)
 have H := h
 clear h
 unfold impl_CompareWide.f at H
 obtain ⟨⟨t515,t516,t517⟩,A30,H⟩ := Option.bind_eq_some_iff.mp H
 try dsimp only at H
 have A3 := Aside0.mk A30
 clear A30
 obtain ⟨⟨t518,t519,t520⟩,A40,H⟩ := Option.bind_eq_some_iff.mp H
 try dsimp only at H
 have A4 := Aside0.mk A40
 clear A40
 have HC5 := Aside0.mk H
 clear H
 go_enter Try.func26,Try.ntmps26
 try go_wp2_with (first | ((with_reducible refine gate_dst (N := 2) rfl ?_);refine bE 2 #[.bool a0_0,.int .u64 a0_1,.int .u64 a0_2] 39 (h := ?_);intro gb513 hg w6 hbox hb;have n_ := jA (below_step Z574 hb) (jA (hbox) (jA ((Z405 : w.heap.size ≤ gb513)) (Aside0.mk ((Z405 : w.heap.size ≤ gb513)))));clear HB;obtain ⟨HB,BK513,GW513,GE513⟩ := n_;clear hb hbox hg) | ((with_reducible refine gate_dst (N := 3) rfl ?_);refine bE 3 #[.bool a1_0,.int .u64 a1_1,.int .u64 a1_2] 39 (h := ?_);intro gb514 hg w7 hbox hb;have n_ := jA (blk_below (g := gb513) (o := .cells #[.bool a0_0,.int .u64 a0_1,.int .u64 a0_2] 39 (0,0)) Z299 hb) (jA (below_step Z438 hb) (jA (hbox) (jA ((Z215 : w.heap.size ≤ gb514)) (jA ((Z215 : w.heap.size ≤ gb514)) (jA ((by rw [hg];exact Nat.ne_of_lt (blk_lt (g := gb513) (o := .cells #[.bool a0_0,.int .u64 a0_1,.int .u64 a0_2] 39 (0,0)) Z299) : gb513 ≠ gb514)) (Aside0.mk ((by rw [hg];exact Nat.ne_of_gt (blk_lt (g := gb513) (o := .cells #[.bool a0_0,.int .u64 a0_1,.int .u64 a0_2] 39 (0,0)) Z299) : gb514 ≠ gb513))))))));clear BK513 HB;obtain ⟨BK513,HB,BK514,GW514,GE514,NB513_514,NB514_513⟩ := n_;clear hb hbox hg))
 have n0_ := Aside0.mk (blk_drew BK513.out)
 have n1_ := Aside0.mk (blk_drew BK514.out)
 have n2_ := Aside0.mk (below_drew1 HB.out)
 clear BK513
 clear BK514
 clear HB
 have BK513 := n0_
 have BK514 := n1_
 have HB := n2_
 clear n0_ n1_ n2_
 refine start_ (n := 16) (S := fun w' => w'.cell? ⟨gb513,0,none⟩ = some (.bool a0_0) ∧ w'.cell? ⟨gb513,1,none⟩ = some (.int .u64 a0_1) ∧ w'.cell? ⟨gb513,2,none⟩ = some (.int .u64 a0_2) ∧ w'.cell? ⟨gb514,0,none⟩ = some (.bool a1_0) ∧ w'.cell? ⟨gb514,1,none⟩ = some (.int .u64 a1_1) ∧ w'.cell? ⟨gb514,2,none⟩ = some (.int .u64 a1_2)) (ds := [14,15]) (qM 16 0) Z310 rfl (by kernel_rfl) ⟨bc BK513 0,bc BK513 1,bc BK513 2,bc BK514 0,bc BK514 1,bc BK514 2⟩ (fun hHeld => ?_);refine with_tabW impl_CompareWide.tab1 impl_CompareWide.bits1 (fun HT_ HW_ => ?_)
 generalize w7.drew = w8 at BK513 BK514 HB hHeld ⊢
 refine rP 0 5 16 1 HT_ (h := ?_)
 refine rP 2 7 16 5 HT_ (h := ?_)
 refine rP 4 9 16 21 HT_ (h := ?_)
 refine rP 7 12 16 149 HT_ (h := ?_)
 refine rP 9 14 16 661 HT_ (h := ?_)
 refine rP 11 16 16 2709 HT_ (h := ?_)
 refine rT6 1 6 16 2711 HT_ HW_ hHeld (h := ?_)
 refine rT6 3 8 16 2719 HT_ HW_ hHeld (h := ?_)
 refine rT6 5 10 16 2751 HT_ HW_ hHeld (h := ?_)
 refine rT6 8 13 16 3007 HT_ HW_ hHeld (h := ?_)
 refine rT6 10 15 16 4031 HT_ HW_ hHeld (h := ?_)
 refine rT6 12 17 16 8127 HT_ HW_ hHeld (h := ?_)
 refine rO 6 11 16 8191 HT_ (h := fun K hK => ?_)
 refine goes_ Try.func43 Z310 rfl #[.bool a0_0,.int .u64 a0_1,.int .u64 a0_2] Z311 rfl rfl Z249 ?_
 with_reducible refine (impl_wideOf.calls a0_0 a0_1 a0_2 t515 t516 t517 _ A3.out).mono ?_
 rintro e w9 ⟨rfl,hb⟩
 refine ⟨_,rfl,?_⟩
 have n0_ := Aside0.mk (blk_below (g := gb513) (o := .cells #[.bool a0_0,.int .u64 a0_1,.int .u64 a0_2] 39 (0,0)) Z299 hb)
 have n1_ := Aside0.mk (blk_below (g := gb514) (o := .cells #[.bool a1_0,.int .u64 a1_1,.int .u64 a1_2] 39 (0,0)) Z301 hb)
 have n2_ := Aside0.mk (below_step Z203 hb)
 clear BK513
 clear BK514
 clear HB
 have BK513 := n0_
 have BK514 := n1_
 have HB := n2_
 clear n0_ n1_ n2_
 (try clear hb)
 (try clear hb2)
 (try clear hk)
 (try clear hi)
 refine hK.out _ _ ⟨bc BK513 0,bc BK513 1,bc BK513 2,bc BK514 0,bc BK514 1,bc BK514 2⟩ (fun hHeld => ?_)
 clear hK K
 refine rN (h := ?_)
 refine rO 13 18 16 16383 HT_ (h := fun K hK => ?_)
 refine goes_ Try.func43 Z310 rfl #[.bool a1_0,.int .u64 a1_1,.int .u64 a1_2] Z311 rfl rfl Z249 ?_
 with_reducible refine (impl_wideOf.calls a1_0 a1_1 a1_2 t518 t519 t520 _ A4.out).mono ?_
 rintro e w10 ⟨rfl,hb⟩
 refine ⟨_,rfl,?_⟩
 have n0_ := Aside0.mk (blk_below (g := gb513) (o := .cells #[.bool a0_0,.int .u64 a0_1,.int .u64 a0_2] 39 (0,0)) Z299 hb)
 have n1_ := Aside0.mk (blk_below (g := gb514) (o := .cells #[.bool a1_0,.int .u64 a1_1,.int .u64 a1_2] 39 (0,0)) Z301 hb)
 have n2_ := Aside0.mk (below_step Z203 hb)
 clear BK513
 clear BK514
 clear HB
 have BK513 := n0_
 have BK514 := n1_
 have HB := n2_
 clear n0_ n1_ n2_
 (try clear hb)
 (try clear hb2)
 (try clear hk)
 (try clear hi)
 refine hK.out _ _ ⟨bc BK513 0,bc BK513 1,bc BK513 2,bc BK514 0,bc BK514 1,bc BK514 2⟩ (fun hHeld => ?_)
 clear hK K
 refine rN (h := ?_)
 refine last_ (i := 14) (N := none) (qM 16 32767) rfl rfl (one_of HT_.out Z310) Z522 (fun K hK => ?_)
 have hs11 : w10.cell? ⟨gb513,0,none⟩ = some (.bool a0_0) := bc BK513 0
 have hfs11 := blk_frozen BK513.out 0
 have hns11_1 := NB514_513.out
 have hms11_1 := NB513_514.out
 have hs12 : w10.cell? ⟨gb513,1,none⟩ = some (.int .u64 a0_1) := bc BK513 1
 have hfs12 := blk_frozen BK513.out 1
 have hns12_1 := NB514_513.out
 have hms12_1 := NB513_514.out
 have hs13 : w10.cell? ⟨gb513,2,none⟩ = some (.int .u64 a0_2) := bc BK513 2
 have hfs13 := blk_frozen BK513.out 2
 have hns13_1 := NB514_513.out
 have hms13_1 := NB513_514.out
 refine skip_ (w1 := ?_) Z311 rfl ?_ ?_
 rotate_left
 ·go_simp
  rfl
 refine hK.out _ _ ?_
 clear hK K
 refine last_ (i := 15) (N := none) (qM 16 65535) rfl rfl (one_of HT_.out Z310) Z522 (fun K hK => ?_)
 have hs14 : w10.cell? ⟨gb514,0,none⟩ = some (.bool a1_0) := bc BK514 0
 have hfs14 := blk_frozen BK514.out 0
 have hns14_0 := NB513_514.out
 have hms14_0 := NB514_513.out
 have hs15 : w10.cell? ⟨gb514,1,none⟩ = some (.int .u64 a1_1) := bc BK514 1
 have hfs15 := blk_frozen BK514.out 1
 have hns15_0 := NB513_514.out
 have hms15_0 := NB514_513.out
 have hs16 : w10.cell? ⟨gb514,2,none⟩ = some (.int .u64 a1_2) := bc BK514 2
 have hfs16 := blk_frozen BK514.out 2
 have hns16_0 := NB513_514.out
 have hms16_0 := NB514_513.out
 refine skip_ (w1 := ?_) Z311 rfl ?_ ?_
 rotate_left
 ·go_simp
  rfl
 refine hK.out _ _ ?_
 clear hK K
 refine done_ (done_of HT_.out Z310) ?_
 go_upto_region 2 with (fail)
 go_cut [19] (fun v19 wc => ∃ (kq : Nat) (x19_4 : Bool),v19 = .bool x19_4 ∧ Aside0 (impl_CompareWide.j0 kq x19_4 t515 t516 t517 t518 t519 t520 = some r) ∧ Aside0 (kq ≤ k) ∧ Aside0 (wc.heap[gb513]? = some (.cells #[.bool t515,.int .u64 t516,.int .u64 t517] 39 (0,0))) ∧ Aside0 (wc.heap[gb514]? = some (.cells #[.bool t518,.int .u64 t519,.int .u64 t520] 39 (0,0))) ∧ Aside0 (Below w.heap.size w wc))
 case first =>
  have H := HC5.out
  clear HC5
  by_cases c17 : t515 = true
  rotate_left
  ·replace c17 := Bool.eq_false_iff.mpr c17
   subst c17
   rw [if_neg Bool.false_ne_true] at H
   have H' := Aside0.mk H
   clear H
   have hnb21 := NB513_514.out
   have hnc21 := NB514_513.out
   obtain ⟨hcz22_0,hcz22_1,hcz22_2,hfz22_0,hfz22_1,hfz22_2⟩ := cells3 BK513.out
   go_wp2
   go_meet
   case rel => exact ⟨_,(false),Z294,H',⟨Z296⟩,⟨by refine bP ?_;refine blk_far ?_ NB513_514.out _;refine bP ?_;refine blk_far ?_ NB513_514.out _;refine bP ?_;refine blk_far ?_ NB513_514.out _;refine bP ?_;refine blk_put (cs := #[.bool false,.int .u64 t516,.int .u64 a0_2]) ?_ 2 _ rfl;refine bP ?_;refine blk_put (cs := #[.bool false,.int .u64 a0_1,.int .u64 a0_2]) ?_ 1 _ rfl;refine bP ?_;refine blk_put (cs := #[.bool a0_0,.int .u64 a0_1,.int .u64 a0_2]) ?_ 0 _ rfl;refine bP ?_;exact BK513.out⟩,⟨Z131⟩,⟨Z203⟩⟩
  subst c17
  rw [if_pos rfl] at H
  have H' := Aside0.mk H
  clear H
  have hnb18 := NB513_514.out
  have hnc18 := NB514_513.out
  obtain ⟨hcz19_0,hcz19_1,hcz19_2,hfz19_0,hfz19_1,hfz19_2⟩ := cells3 BK513.out
  obtain ⟨hcz20_0,hcz20_1,hcz20_2,hfz20_0,hfz20_1,hfz20_2⟩ := cells3 BK514.out
  go_wp2
  go_meet
  case rel => exact ⟨_,(!t518),Z294,H',⟨Z296⟩,⟨by refine bP ?_;refine blk_far ?_ NB513_514.out _;refine bP ?_;refine blk_far ?_ NB513_514.out _;refine bP ?_;refine blk_far ?_ NB513_514.out _;refine bP ?_;refine blk_put (cs := #[.bool true,.int .u64 t516,.int .u64 a0_2]) ?_ 2 _ rfl;refine bP ?_;refine blk_put (cs := #[.bool true,.int .u64 a0_1,.int .u64 a0_2]) ?_ 1 _ rfl;refine bP ?_;refine blk_put (cs := #[.bool a0_0,.int .u64 a0_1,.int .u64 a0_2]) ?_ 0 _ rfl;refine bP ?_;exact BK513.out⟩,⟨Z131⟩,⟨Z203⟩⟩
 case rest =>
  clear HC5
  try clear c1
  try clear c2
  try clear p2
  try clear c4
  try clear c17
  try clear c18
  try clear c21
  try clear hcz19_0
  try clear hcz19_1
  try clear hcz19_2
  try clear hcz20_0
  try clear hcz20_1
  try clear hcz20_2
  try clear hcz22_0
  try clear hcz22_1
  try clear hcz22_2
  try clear hfz19_0
  try clear hfz19_1
  try clear hfz19_2
  try clear hfz20_0
  try clear hfz20_1
  try clear hfz20_2
  try clear hfz22_0
  try clear hfz22_1
  try clear hfz22_2
  obtain ⟨kq,x19_4,rfl,HA,HJ4,BK513,BK514,HB⟩ := hcut
  cases kq with
  | zero => exact absurd HA.out (by simp [impl_CompareWide.j0])
  | succ kj4 =>
   have H := HA.out
   clear HA
   simp only [impl_CompareWide.j0] at H
   by_cases c23 : x19_4 = true
   ·subst c23
    rw [if_pos rfl] at H
    obtain rfl := Option.some.inj H
    go_wp2
    go_ret
    exact ⟨Z265,Z203⟩
   replace c23 := Bool.eq_false_iff.mpr c23
   subst c23
   rw [if_neg Bool.false_ne_true] at H
   have HC24 := Aside0.mk H
   clear H
   go_upto_region 4 with (fail)
   go_cut [27] (fun v27 wc => ∃ (kq : Nat) (x27_23 : Bool),v27 = .bool x27_23 ∧ Aside0 (impl_CompareWide.j1 kq x27_23 t515 t516 t517 t518 t519 t520 = some r) ∧ Aside0 (kq ≤ kj4) ∧ Aside0 (wc.heap[gb513]? = some (.cells #[.bool t515,.int .u64 t516,.int .u64 t517] 39 (0,0))) ∧ Aside0 (wc.heap[gb514]? = some (.cells #[.bool t518,.int .u64 t519,.int .u64 t520] 39 (0,0))) ∧ Aside0 (Below w.heap.size w wc))
   case first =>
    have H := HC24.out
    clear HC24
    by_cases c25 : t518 = true
    rotate_left
    ·replace c25 := Bool.eq_false_iff.mpr c25
     subst c25
     rw [if_neg Bool.false_ne_true] at H
     have H' := Aside0.mk H
     clear H
     have hnb29 := NB514_513.out
     have hnc29 := NB513_514.out
     obtain ⟨hcz30_0,hcz30_1,hcz30_2,hfz30_0,hfz30_1,hfz30_2⟩ := cells3 BK514.out
     go_wp2
     go_meet
     case rel => exact ⟨_,(false),Z294,H',⟨Z292⟩,⟨Z299⟩,⟨Z301⟩,⟨Z203⟩⟩
    subst c25
    rw [if_pos rfl] at H
    have H' := Aside0.mk H
    clear H
    have hnb26 := NB514_513.out
    have hnc26 := NB513_514.out
    obtain ⟨hcz27_0,hcz27_1,hcz27_2,hfz27_0,hfz27_1,hfz27_2⟩ := cells3 BK514.out
    obtain ⟨hcz28_0,hcz28_1,hcz28_2,hfz28_0,hfz28_1,hfz28_2⟩ := cells3 BK513.out
    go_wp2
    go_meet
    case rel => exact ⟨_,(!t515),Z294,H',⟨Z292⟩,⟨Z299⟩,⟨Z301⟩,⟨Z203⟩⟩
   case rest =>
    clear HC24
    try clear c1
    try clear c2
    try clear p2
    try clear c4
    try clear c17
    try clear c18
    try clear c21
    try clear c23
    try clear c25
    try clear c26
    try clear c29
    try clear hcz19_0
    try clear hcz19_1
    try clear hcz19_2
    try clear hcz20_0
    try clear hcz20_1
    try clear hcz20_2
    try clear hcz22_0
    try clear hcz22_1
    try clear hcz22_2
    try clear hcz27_0
    try clear hcz27_1
    try clear hcz27_2
    try clear hcz28_0
    try clear hcz28_1
    try clear hcz28_2
    try clear hcz30_0
    try clear hcz30_1
    try clear hcz30_2
    try clear hfz19_0
    try clear hfz19_1
    try clear hfz19_2
    try clear hfz20_0
    try clear hfz20_1
    try clear hfz20_2
    try clear hfz22_0
    try clear hfz22_1
    try clear hfz22_2
    try clear hfz27_0
    try clear hfz27_1
    try clear hfz27_2
    try clear hfz28_0
    try clear hfz28_1
    try clear hfz28_2
    try clear hfz30_0
    try clear hfz30_1
    try clear hfz30_2
    try clear p2
    obtain ⟨kq,x27_23,rfl,HA,HJ23,BK513,BK514,HB⟩ := hcut
    cases kq with
    | zero => exact absurd HA.out (by simp [impl_CompareWide.j1])
    | succ kj23 =>
     have H := HA.out
     clear HA
     simp only [impl_CompareWide.j1] at H
     by_cases c31 : x27_23 = true
     ·subst c31
      rw [if_pos rfl] at H
      obtain rfl := Option.some.inj H
      go_wp2
      go_ret
      exact ⟨Z265,Z203⟩
     replace c31 := Bool.eq_false_iff.mpr c31
     subst c31
     rw [if_neg Bool.false_ne_true] at H
     by_cases c32 : t515 = true
     ·subst c32
      rw [if_pos rfl] at H
      obtain ⟨t521,A330,H⟩ := Option.bind_eq_some_iff.mp H
      have A33 := Aside0.mk A330
      clear A330
      obtain rfl := Option.some.inj H
      have hnb34 := NB513_514.out
      have hnc34 := NB514_513.out
      obtain ⟨hcz35_0,hcz35_1,hcz35_2,hfz35_0,hfz35_1,hfz35_2⟩ := cells3 BK513.out
      obtain ⟨hcz36_0,hcz36_1,hcz36_2,hfz36_0,hfz36_1,hfz36_2⟩ := cells3 BK514.out
      go_wp2_with (first | ((with_reducible refine gate_callee (f := 44) rfl ?_);refine goesL_ (some 40) rfl rfl Try.func44 Z310 rfl #[.agg #[.bool t518,.int .u64 t519,.int .u64 t520],.agg #[.bool true,.int .u64 t516,.int .u64 t517]] rfl Z249 ?_;(with_reducible refine (impl_compareSizes.calls kj23 t518 t519 t520 true t516 t517 t521 _ A33.out).mono ?_);rintro e wq1 ⟨rfl,hb⟩;refine ⟨_,rfl,?_⟩;have n_ := jA (blk_below (g := gb513) (o := .cells #[.bool true,.int .u64 t516,.int .u64 t517] 39 (0,0)) Z299 hb) (jA (blk_below (g := gb514) (o := .cells #[.bool t518,.int .u64 t519,.int .u64 t520] 39 (0,0)) Z301 hb) (Aside0.mk (below_step Z203 hb)));clear BK513 BK514 HB;obtain ⟨BK513,BK514,HB⟩ := n_;(try clear hb);(try clear hb2);(try clear hk);(try clear hi)))
      go_ret
      exact ⟨Z265,Z203⟩
     replace c32 := Bool.eq_false_iff.mpr c32
     subst c32
     rw [if_neg Bool.false_ne_true] at H
     obtain ⟨t522,A380,H⟩ := Option.bind_eq_some_iff.mp H
     have A38 := Aside0.mk A380
     clear A380
     obtain rfl := Option.some.inj H
     have hnb39 := NB513_514.out
     have hnc39 := NB514_513.out
     obtain ⟨hcz40_0,hcz40_1,hcz40_2,hfz40_0,hfz40_1,hfz40_2⟩ := cells3 BK513.out
     obtain ⟨hcz41_0,hcz41_1,hcz41_2,hfz41_0,hfz41_1,hfz41_2⟩ := cells3 BK514.out
     go_wp2_with (first | ((with_reducible refine gate_callee (f := 44) rfl ?_);refine goesL_ (some 43) rfl rfl Try.func44 Z310 rfl #[.agg #[.bool false,.int .u64 t516,.int .u64 t517],.agg #[.bool t518,.int .u64 t519,.int .u64 t520]] rfl Z249 ?_;(with_reducible refine (impl_compareSizes.calls kj23 false t516 t517 t518 t519 t520 t522 _ A38.out).mono ?_);rintro e wq1 ⟨rfl,hb⟩;refine ⟨_,rfl,?_⟩;have n_ := jA (blk_below (g := gb513) (o := .cells #[.bool false,.int .u64 t516,.int .u64 t517] 39 (0,0)) Z299 hb) (jA (blk_below (g := gb514) (o := .cells #[.bool t518,.int .u64 t519,.int .u64 t520] 39 (0,0)) Z301 hb) (Aside0.mk (below_step Z203 hb)));clear BK513 BK514 HB;obtain ⟨BK513,BK514,HB⟩ := n_;(try clear hb);(try clear hb2);(try clear hk);(try clear hi)))
     go_ret
     exact ⟨Z265,Z203⟩

/-! ### impl_CompareFrac: function 13 -/
def impl_CompareFrac.f (k : Nat) (a0_0 : Bool) (a0_1 : Int) (a0_2 : Int) (a0_3 : Int) (a1_0 : Bool) (a1_1 : Int) (a1_2 : Int) (a1_3 : Int) : Option (Int × Bool) := (impl_crossed.f k a0_0 a0_1 a0_2 a0_3 a1_0 a1_1 a1_2 a1_3).bind fun bt525 => (if bt525.2.2.2.2.2.2 = true then ((impl_CompareWide.f k bt525.1 bt525.2.1 bt525.2.2.1 bt525.2.2.2.1 bt525.2.2.2.2.1 bt525.2.2.2.2.2.1).bind fun t534 => (some (t534,true))) else (some (0,false)))
theorem impl_CompareFrac.mono : ∀ a0 a1 a2 a3 a4 a5 a6 a7 k,LeO (impl_CompareFrac.f k a0 a1 a2 a3 a4 a5 a6 a7) (impl_CompareFrac.f (k + 1) a0 a1 a2 a3 a4 a5 a6 a7) := by
 intro a0 a1 a2 a3 a4 a5 a6 a7 k
 unfold impl_CompareFrac.f
 repeat' first
   | (with_reducible exact impl_CompareWide.mono _ _ _ _ _ _ _)
   | (with_reducible exact impl_crossed.mono _ _ _ _ _ _ _ _ _)
   | (with_reducible exact LeO.refl _)
   | (with_reducible exact LeO.none _)
   | (with_reducible refine LeO.ite ?_ ?_)
   | (with_reducible refine LeO.bind ?_ (fun _ => ?_))
   | exact impl_CompareWide.mono _ _ _ _ _ _ _
   | exact impl_crossed.mono _ _ _ _ _ _ _ _ _
   | exact LeO.none _
   | refine LeO.ite ?_ ?_
   | refine LeO.bind ?_ (fun _ => ?_)
set_option maxHeartbeats 8000000 in
set_option maxRecDepth 100000 in
theorem impl_CompareFrac.calls (k : Nat) (a0_0 : Bool) (a0_1 : Int) (a0_2 : Int) (a0_3 : Int) (a1_0 : Bool) (a1_1 : Int) (a1_2 : Int) (a1_3 : Int) (r1 : Int) (r2 : Bool) (w : World) (h : impl_CompareFrac.f k a0_0 a0_1 a0_2 a0_3 a1_0 a1_1 a1_2 a1_3 = some (r1,r2)) :
  Calls Try.prog 13 #[.agg #[.bool a0_0,.int .u64 a0_1,.int .u64 a0_2,.int .i64 a0_3],.agg #[.bool a1_0,.int .u64 a1_1,.int .u64 a1_2,.int .i64 a1_3]] w fun e w' => e = .returned (.tuple #[.int .i64 r1,.bool r2]) ∧ Below w.heap.size w w' := by
 have hu41 := Try.underlying41
 have hu39 := Try.underlying39
 have HB := Aside0.mk (Below.refl w.heap.size w)
 have H := h
 clear h
 unfold impl_CompareFrac.f at H
 obtain ⟨⟨t525,t526,t527,t528,t529,t530,t531⟩,A30,H⟩ := Option.bind_eq_some_iff.mp H
 try dsimp only at H
 have A3 := Aside0.mk A30
 clear A30
 by_cases c4 : t531 = true
 rotate_left
 ·replace c4 := Bool.eq_false_iff.mpr c4
  subst c4
  rw [if_neg Bool.false_ne_true] at H
  simp only [Option.some.injEq,Prod.mk.injEq] at H
  obtain ⟨rfl,rfl⟩ := H
  go_enter Try.func13,Try.ntmps13
  go_wp2_with (first | ((with_reducible refine gate_dst (N := 2) rfl ?_);refine bE 2 #[.bool a0_0,.int .u64 a0_1,.int .u64 a0_2,.int .i64 a0_3] 41 (h := ?_);intro gb523 hg wq1 hbox hb;have n_ := Z116;clear HB;obtain ⟨HB,BK523,GW523,GE523⟩ := n_;clear hb hbox hg) | ((with_reducible refine gate_dst (N := 3) rfl ?_);refine bE 3 #[.bool a1_0,.int .u64 a1_1,.int .u64 a1_2,.int .i64 a1_3] 41 (h := ?_);intro gb524 hg wq2 hbox hb;have n_ := Z61;clear BK523 HB;obtain ⟨BK523,HB,BK524,GW524,GE524,NB523_524,NB524_523⟩ := n_;clear hb hbox hg;have hnbq3 := NB523_524.out;have hncq3 := NB524_523.out;obtain ⟨hczq4_0,hczq4_1,hczq4_2,hczq4_3,hfzq4_0,hfzq4_1,hfzq4_2,hfzq4_3⟩ := cells4 BK523.out;obtain ⟨hczq5_0,hczq5_1,hczq5_2,hczq5_3,hfzq5_0,hfzq5_1,hfzq5_2,hfzq5_3⟩ := cells4 BK524.out) | ((with_reducible refine gate_callee (f := 25) rfl ?_);refine goesL_ (some 12) rfl rfl Try.func25 Z310 rfl #[.agg #[.bool a0_0,.int .u64 a0_1,.int .u64 a0_2,.int .i64 a0_3],.agg #[.bool a1_0,.int .u64 a1_1,.int .u64 a1_2,.int .i64 a1_3]] rfl Z249 ?_;(with_reducible refine (impl_crossed.calls k a0_0 a0_1 a0_2 a0_3 a1_0 a1_1 a1_2 a1_3 t525 t526 t527 t528 t529 t530 false _ A3.out).mono ?_);rintro e wq6 ⟨rfl,hb⟩;refine ⟨_,rfl,?_⟩;have n_ := Z124;clear BK523 BK524 HB;obtain ⟨BK523,BK524,HB⟩ := n_;(try clear hb);(try clear hb2);(try clear hk);(try clear hi)) | ((with_reducible refine gate_dst (N := 6) rfl ?_);refine bE 6 #[.bool false,.int .u64 0,.int .u64 0] 39 (h := ?_);intro gb532 hg wq7 hbox hb;have n_ := Z35;clear BK523 BK524 HB;obtain ⟨BK523,BK524,HB,BK532,GW532,GE532,NB523_532,NB532_523,NB524_532,NB532_524⟩ := n_;clear hb hbox hg) | ((with_reducible refine gate_dst (N := 7) rfl ?_);refine bE 7 #[.bool false,.int .u64 0,.int .u64 0] 39 (h := ?_);intro gb533 hg wq8 hbox hb;have n_ := Z23;clear BK523 BK524 BK532 HB;obtain ⟨BK523,BK524,BK532,HB,BK533,GW533,GE533,NB523_533,NB533_523,NB524_533,NB533_524,NB532_533,NB533_532⟩ := n_;clear hb hbox hg;have hnbq9 := NB532_523.out;have hncq9 := NB523_532.out;have hnbq10 := NB532_524.out;have hncq10 := NB524_532.out;have hnbq11 := NB532_533.out;have hncq11 := NB533_532.out;obtain ⟨hczq12_0,hczq12_1,hczq12_2,hfzq12_0,hfzq12_1,hfzq12_2⟩ := cells3 BK532.out;have hnbq13 := NB533_523.out;have hncq13 := NB523_533.out;have hnbq14 := NB533_524.out;have hncq14 := NB524_533.out;obtain ⟨hczq15_0,hczq15_1,hczq15_2,hfzq15_0,hfzq15_1,hfzq15_2⟩ := cells3 BK533.out))
  go_ret2
  exact ⟨Z265,Z170⟩
 subst c4
 rw [if_pos rfl] at H
 obtain ⟨t534,A50,H⟩ := Option.bind_eq_some_iff.mp H
 have A5 := Aside0.mk A50
 clear A50
 simp only [Option.some.injEq,Prod.mk.injEq] at H
 obtain ⟨rfl,rfl⟩ := H
 go_enter Try.func13,Try.ntmps13
 go_wp2_with (first | ((with_reducible refine gate_dst (N := 2) rfl ?_);refine bE 2 #[.bool a0_0,.int .u64 a0_1,.int .u64 a0_2,.int .i64 a0_3] 41 (h := ?_);intro gb523 hg wq1 hbox hb;have n_ := Z116;clear HB;obtain ⟨HB,BK523,GW523,GE523⟩ := n_;clear hb hbox hg) | ((with_reducible refine gate_dst (N := 3) rfl ?_);refine bE 3 #[.bool a1_0,.int .u64 a1_1,.int .u64 a1_2,.int .i64 a1_3] 41 (h := ?_);intro gb524 hg wq2 hbox hb;have n_ := Z61;clear BK523 HB;obtain ⟨BK523,HB,BK524,GW524,GE524,NB523_524,NB524_523⟩ := n_;clear hb hbox hg;have hnbq3 := NB523_524.out;have hncq3 := NB524_523.out;obtain ⟨hczq4_0,hczq4_1,hczq4_2,hczq4_3,hfzq4_0,hfzq4_1,hfzq4_2,hfzq4_3⟩ := cells4 BK523.out;obtain ⟨hczq5_0,hczq5_1,hczq5_2,hczq5_3,hfzq5_0,hfzq5_1,hfzq5_2,hfzq5_3⟩ := cells4 BK524.out) | ((with_reducible refine gate_callee (f := 25) rfl ?_);refine goesL_ (some 12) rfl rfl Try.func25 Z310 rfl #[.agg #[.bool a0_0,.int .u64 a0_1,.int .u64 a0_2,.int .i64 a0_3],.agg #[.bool a1_0,.int .u64 a1_1,.int .u64 a1_2,.int .i64 a1_3]] rfl Z249 ?_;(with_reducible refine (impl_crossed.calls k a0_0 a0_1 a0_2 a0_3 a1_0 a1_1 a1_2 a1_3 t525 t526 t527 t528 t529 t530 true _ A3.out).mono ?_);rintro e wq6 ⟨rfl,hb⟩;refine ⟨_,rfl,?_⟩;have n_ := Z124;clear BK523 BK524 HB;obtain ⟨BK523,BK524,HB⟩ := n_;(try clear hb);(try clear hb2);(try clear hk);(try clear hi)) | ((with_reducible refine gate_dst (N := 6) rfl ?_);refine bE 6 #[.bool false,.int .u64 0,.int .u64 0] 39 (h := ?_);intro gb532 hg wq7 hbox hb;have n_ := Z35;clear BK523 BK524 HB;obtain ⟨BK523,BK524,HB,BK532,GW532,GE532,NB523_532,NB532_523,NB524_532,NB532_524⟩ := n_;clear hb hbox hg) | ((with_reducible refine gate_dst (N := 7) rfl ?_);refine bE 7 #[.bool false,.int .u64 0,.int .u64 0] 39 (h := ?_);intro gb533 hg wq8 hbox hb;have n_ := Z23;clear BK523 BK524 BK532 HB;obtain ⟨BK523,BK524,BK532,HB,BK533,GW533,GE533,NB523_533,NB533_523,NB524_533,NB533_524,NB532_533,NB533_532⟩ := n_;clear hb hbox hg;have hnbq9 := NB532_523.out;have hncq9 := NB523_532.out;have hnbq10 := NB532_524.out;have hncq10 := NB524_532.out;have hnbq11 := NB532_533.out;have hncq11 := NB533_532.out;obtain ⟨hczq12_0,hczq12_1,hczq12_2,hfzq12_0,hfzq12_1,hfzq12_2⟩ := cells3 BK532.out;have hnbq13 := NB533_523.out;have hncq13 := NB523_533.out;have hnbq14 := NB533_524.out;have hncq14 := NB524_533.out;obtain ⟨hczq15_0,hczq15_1,hczq15_2,hfzq15_0,hfzq15_1,hfzq15_2⟩ := cells3 BK533.out) | ((with_reducible refine gate_callee (f := 26) rfl ?_);refine goesL_ (some 20) rfl rfl Try.func26 Z310 rfl #[.agg #[.bool t525,.int .u64 t526,.int .u64 t527],.agg #[.bool t528,.int .u64 t529,.int .u64 t530]] rfl Z249 ?_;(with_reducible refine (impl_CompareWide.calls k t525 t526 t527 t528 t529 t530 t534 _ A5.out).mono ?_);rintro e wq16 ⟨rfl,hb⟩;refine ⟨_,rfl,?_⟩;have n_ := jA (blk_below (g := gb523) (o := .cells #[.bool a0_0,.int .u64 a0_1,.int .u64 a0_2,.int .i64 a0_3] 41 (0,0)) (by refine bP ?_;refine blk_far ?_ NB523_533.out _;refine bP ?_;refine blk_far ?_ NB523_533.out _;refine bP ?_;refine blk_far ?_ NB523_533.out _;refine bP ?_;refine blk_far ?_ NB523_532.out _;refine bP ?_;refine blk_far ?_ NB523_532.out _;refine bP ?_;refine blk_far ?_ NB523_532.out _;refine bP ?_;exact BK523.out) hb) (jA (blk_below (g := gb524) (o := .cells #[.bool a1_0,.int .u64 a1_1,.int .u64 a1_2,.int .i64 a1_3] 41 (0,0)) (by refine bP ?_;refine blk_far ?_ NB524_533.out _;refine bP ?_;refine blk_far ?_ NB524_533.out _;refine bP ?_;refine blk_far ?_ NB524_533.out _;refine bP ?_;refine blk_far ?_ NB524_532.out _;refine bP ?_;refine blk_far ?_ NB524_532.out _;refine bP ?_;refine blk_far ?_ NB524_532.out _;refine bP ?_;exact BK524.out) hb) (jA (blk_below (g := gb532) (o := .cells #[.bool t525,.int .u64 t526,.int .u64 t527] 39 (0,0)) (by refine bP ?_;refine blk_far ?_ NB532_533.out _;refine bP ?_;refine blk_far ?_ NB532_533.out _;refine bP ?_;refine blk_far ?_ NB532_533.out _;refine bP ?_;refine blk_put (cs := #[.bool t525,.int .u64 t526,.int .u64 0]) ?_ 2 _ rfl;refine bP ?_;refine blk_put (cs := #[.bool t525,.int .u64 0,.int .u64 0]) ?_ 1 _ rfl;refine bP ?_;refine blk_put (cs := #[.bool false,.int .u64 0,.int .u64 0]) ?_ 0 _ rfl;refine bP ?_;exact BK532.out) hb) (jA (blk_below (g := gb533) (o := .cells #[.bool t528,.int .u64 t529,.int .u64 t530] 39 (0,0)) (by refine bP ?_;refine blk_put (cs := #[.bool t528,.int .u64 t529,.int .u64 0]) ?_ 2 _ rfl;refine bP ?_;refine blk_put (cs := #[.bool t528,.int .u64 0,.int .u64 0]) ?_ 1 _ rfl;refine bP ?_;refine blk_put (cs := #[.bool false,.int .u64 0,.int .u64 0]) ?_ 0 _ rfl;refine bP ?_;refine blk_far ?_ NB533_532.out _;refine bP ?_;refine blk_far ?_ NB533_532.out _;refine bP ?_;refine blk_far ?_ NB533_532.out _;refine bP ?_;exact BK533.out) hb) (Aside0.mk (below_step Z170 hb)))));clear BK523 BK524 BK532 BK533 HB;obtain ⟨BK523,BK524,BK532,BK533,HB⟩ := n_;(try clear hb);(try clear hb2);(try clear hk);(try clear hi)))
 go_ret2
 exact ⟨Z265,Z170⟩

/-! ### cmp_isNaN_int: function 45 -/
def cmp_isNaN_int.f (a0 : Int) : Option (Bool) := some (a0 != a0)
set_option maxHeartbeats 8000000 in
set_option maxRecDepth 100000 in
theorem cmp_isNaN_int.calls (a0 : Int) (r : Bool) (w : World) (h : cmp_isNaN_int.f a0 = some r) :
  Calls Try.prog 45 #[.int .i64 a0] w fun e w' => e = .returned (.bool r) ∧ Drawn0 w w' := by
 have H := h
 clear h
 unfold cmp_isNaN_int.f at H
 obtain rfl := Option.some.inj H
 go_enter Try.func45,Try.ntmps45
 go_wp2
 go_ret
 exact ⟨Z294,Z271⟩

/-! ### cmp_Compare_int: function 28 -/
def cmp_Compare_int.f (a0 : Int) (a1 : Int) : Option (Int) := (cmp_isNaN_int.f a0).bind fun t535 => ((cmp_isNaN_int.f a1).bind fun t536 => (if t535 = true then (if t536 = true then (some 0) else (some (-1))) else (if t536 = true then (some 1) else (if a0 < a1 then (some (-1)) else (if a0 > a1 then (some 1) else (some 0))))))
set_option maxHeartbeats 8000000 in
set_option maxRecDepth 100000 in
theorem cmp_Compare_int.calls (a0 : Int) (a1 : Int) (r : Int) (w : World) (h : cmp_Compare_int.f a0 a1 = some r) :
  Calls Try.prog 28 #[.int .i64 a0,.int .i64 a1] w fun e w' => e = .returned (.int .i64 r) ∧ Drawn0 w w' := by
 have H := h
 clear h
 unfold cmp_Compare_int.f at H
 obtain ⟨t535,A30,H⟩ := Option.bind_eq_some_iff.mp H
 have A3 := Aside0.mk A30
 clear A30
 obtain ⟨t536,A40,H⟩ := Option.bind_eq_some_iff.mp H
 have A4 := Aside0.mk A40
 clear A40
 by_cases c5 : t535 = true
 ·subst c5
  rw [if_pos rfl] at H
  by_cases c6 : t536 = true
  ·subst c6
   rw [if_pos rfl] at H
   obtain rfl := Option.some.inj H
   go_enter Try.func28,Try.ntmps28
   go_wp2_with (first | ((with_reducible refine gate_callee (f := 45) rfl ?_);refine goesL_ (some 8) rfl rfl Try.func45 Z310 rfl #[.int .i64 a0] rfl Z249 ?_;(with_reducible refine (cmp_isNaN_int.calls a0 true _ A3.out).mono ?_);rintro e w' ⟨rfl,⟨nd,rfl⟩⟩;refine ⟨_,rfl,?_⟩) | ((with_reducible refine gate_callee (f := 45) rfl ?_);refine goesL_ (some 10) rfl rfl Try.func45 Z310 rfl #[.int .i64 a1] rfl Z249 ?_;(with_reducible refine (cmp_isNaN_int.calls a1 true _ A4.out).mono ?_);rintro e w' ⟨rfl,⟨nd,rfl⟩⟩;refine ⟨_,rfl,?_⟩))
   go_ret
   exact ⟨Z294,Z271⟩
  replace c6 := Bool.eq_false_iff.mpr c6
  subst c6
  rw [if_neg Bool.false_ne_true] at H
  obtain rfl := Option.some.inj H
  go_enter Try.func28,Try.ntmps28
  go_wp2_with (first | ((with_reducible refine gate_callee (f := 45) rfl ?_);refine goesL_ (some 8) rfl rfl Try.func45 Z310 rfl #[.int .i64 a0] rfl Z249 ?_;(with_reducible refine (cmp_isNaN_int.calls a0 true _ A3.out).mono ?_);rintro e w' ⟨rfl,⟨nd,rfl⟩⟩;refine ⟨_,rfl,?_⟩) | ((with_reducible refine gate_callee (f := 45) rfl ?_);refine goesL_ (some 10) rfl rfl Try.func45 Z310 rfl #[.int .i64 a1] rfl Z249 ?_;(with_reducible refine (cmp_isNaN_int.calls a1 false _ A4.out).mono ?_);rintro e w' ⟨rfl,⟨nd,rfl⟩⟩;refine ⟨_,rfl,?_⟩))
  go_ret
  exact ⟨Z294,Z271⟩
 replace c5 := Bool.eq_false_iff.mpr c5
 subst c5
 rw [if_neg Bool.false_ne_true] at H
 by_cases c7 : t536 = true
 ·subst c7
  rw [if_pos rfl] at H
  obtain rfl := Option.some.inj H
  go_enter Try.func28,Try.ntmps28
  go_wp2_with (first | ((with_reducible refine gate_callee (f := 45) rfl ?_);refine goesL_ (some 8) rfl rfl Try.func45 Z310 rfl #[.int .i64 a0] rfl Z249 ?_;(with_reducible refine (cmp_isNaN_int.calls a0 false _ A3.out).mono ?_);rintro e w' ⟨rfl,⟨nd,rfl⟩⟩;refine ⟨_,rfl,?_⟩) | ((with_reducible refine gate_callee (f := 45) rfl ?_);refine goesL_ (some 10) rfl rfl Try.func45 Z310 rfl #[.int .i64 a1] rfl Z249 ?_;(with_reducible refine (cmp_isNaN_int.calls a1 true _ A4.out).mono ?_);rintro e w' ⟨rfl,⟨nd,rfl⟩⟩;refine ⟨_,rfl,?_⟩))
  go_ret
  exact ⟨Z294,Z271⟩
 replace c7 := Bool.eq_false_iff.mpr c7
 subst c7
 rw [if_neg Bool.false_ne_true] at H
 by_cases c8 : a0 < a1
 ·rw [if_pos c8] at H
  have c8b0 : decide (a0 < a1) = true := decide_eq_true c8
  clear c8
  obtain rfl := Option.some.inj H
  go_enter Try.func28,Try.ntmps28
  go_wp2_with (first | ((with_reducible refine gate_callee (f := 45) rfl ?_);refine goesL_ (some 8) rfl rfl Try.func45 Z310 rfl #[.int .i64 a0] rfl Z249 ?_;(with_reducible refine (cmp_isNaN_int.calls a0 false _ A3.out).mono ?_);rintro e w' ⟨rfl,⟨nd,rfl⟩⟩;refine ⟨_,rfl,?_⟩) | ((with_reducible refine gate_callee (f := 45) rfl ?_);refine goesL_ (some 10) rfl rfl Try.func45 Z310 rfl #[.int .i64 a1] rfl Z249 ?_;(with_reducible refine (cmp_isNaN_int.calls a1 false _ A4.out).mono ?_);rintro e w' ⟨rfl,⟨nd,rfl⟩⟩;refine ⟨_,rfl,?_⟩))
  go_ret
  exact ⟨Z294,Z271⟩
 rw [if_neg c8] at H
 have c8b0 : decide (a0 < a1) = false := decide_eq_false c8
 clear c8
 by_cases c9 : a0 > a1
 ·rw [if_pos c9] at H
  have c9b0 : decide (a1 < a0) = true := decide_eq_true c9
  clear c9
  obtain rfl := Option.some.inj H
  go_enter Try.func28,Try.ntmps28
  go_wp2_with (first | ((with_reducible refine gate_callee (f := 45) rfl ?_);refine goesL_ (some 8) rfl rfl Try.func45 Z310 rfl #[.int .i64 a0] rfl Z249 ?_;(with_reducible refine (cmp_isNaN_int.calls a0 false _ A3.out).mono ?_);rintro e w' ⟨rfl,⟨nd,rfl⟩⟩;refine ⟨_,rfl,?_⟩) | ((with_reducible refine gate_callee (f := 45) rfl ?_);refine goesL_ (some 10) rfl rfl Try.func45 Z310 rfl #[.int .i64 a1] rfl Z249 ?_;(with_reducible refine (cmp_isNaN_int.calls a1 false _ A4.out).mono ?_);rintro e w' ⟨rfl,⟨nd,rfl⟩⟩;refine ⟨_,rfl,?_⟩))
  go_ret
  exact ⟨Z294,Z271⟩
 rw [if_neg c9] at H
 have c9b0 : decide (a1 < a0) = false := decide_eq_false c9
 clear c9
 obtain rfl := Option.some.inj H
 go_enter Try.func28,Try.ntmps28
 go_wp2_with (first | ((with_reducible refine gate_callee (f := 45) rfl ?_);refine goesL_ (some 8) rfl rfl Try.func45 Z310 rfl #[.int .i64 a0] rfl Z249 ?_;(with_reducible refine (cmp_isNaN_int.calls a0 false _ A3.out).mono ?_);rintro e w' ⟨rfl,⟨nd,rfl⟩⟩;refine ⟨_,rfl,?_⟩) | ((with_reducible refine gate_callee (f := 45) rfl ?_);refine goesL_ (some 10) rfl rfl Try.func45 Z310 rfl #[.int .i64 a1] rfl Z249 ?_;(with_reducible refine (cmp_isNaN_int.calls a1 false _ A4.out).mono ?_);rintro e w' ⟨rfl,⟨nd,rfl⟩⟩;refine ⟨_,rfl,?_⟩))
 go_ret
 exact ⟨Z294,Z271⟩

end Go.Proofs.Ytlflcgdcegohjaa.QFnBetter
