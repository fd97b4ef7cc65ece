/- The machine side of FnExactReadTable: what each Go function that it reaches comes to. Conditions: none. -/
import Derived.Test.YtepnbcdbagjmbaaDoorQFnExactReadTablex0
import Derived.Test.YtepnbcdbagjmbaaDoorQFnExactReadTablex13
namespace Go.Proofs.YtepnbcdbagjmbaaDoor.QFnExactReadTable
open Go.RowKit Go.Proofs.YtepnbcdbagjmbaaDoorW.PrintWords Go.Proofs.YtepnbcdbagjmbaaDoorW.PrintLast Go.Proofs.YtepnbcdbagjmbaaDoorW.PrintMore
attribute [local go_sem] max2_int min2_int max_two min_two max_three min_three max_four min_four   -- for this text's walks alone
set_option linter.unusedVariables false
set_option linter.unusedSimpArgs false

/-! ### impl_readRows: function 18 -/
mutual
def impl_readRows.l0 : Nat → Int → List (List Int) → List (List ByteArray) → Int → Int → Option ((List (List Int)) × Int × Int × Int)
 | 0,_,_,_,_,_ => none
 | k + 1,x1,x6,x16,x17,x18 => if x18 < x17 then (if 0 ≤ x18 then (if x18 < (x16.length : Int) then (if ((rd_L2 x16 x18).length : Int) = x1 then (impl_readRows.l1 k x1 x6 x18 (([] : List Int)) x16 x17 x18 (rd_L2 x16 x18) ((rd_L2 x16 x18).length : Int) 0) else (some (([] : List (List Int)),4,wrap64 (x18 + 1),0))) else (none)) else (none)) else (some (x6,0,0,0))
def impl_readRows.l1 : Nat → Int → List (List Int) → Int → List Int → List (List ByteArray) → Int → Int → List ByteArray → Int → Int → Option ((List (List Int)) × Int × Int × Int)
 | 0,_,_,_,_,_,_,_,_,_,_ => none
 | k + 1,x1,x6,x7,x9,x16,x17,x18,x31,x32,x33 => if x33 < x32 then (if 0 ≤ x33 then (if x33 < (x31.length : Int) then ((impl_ReadFix.f (rdOf ByteArray.empty x31 x33)).bind fun bt299 => (if bt299.2 = true then (if x9.length < 17592186044416 then (impl_readRows.l1 k x1 x6 x7 (x9 ++ [bt299.1]) x16 x17 x18 x31 x32 (wrap64 (x33 + 1))) else (none)) else (some (([] : List (List Int)),9,wrap64 (x7 + 1),x33)))) else (none)) else (none)) else (if x6.length < 5864062014805 then (impl_readRows.l0 k x1 (x6 ++ [x9]) x16 x17 (wrap64 (x18 + 1))) else (none))
end
def impl_readRows.f (k : Nat) (l0 : List (List ByteArray)) (a1 : Int) : Option ((List (List Int)) × Int × Int × Int) := if 1 ≤ (l0.length : Int) then ((some (l0.drop 1 : List (List ByteArray))).bind fun y290 => (impl_readRows.l0 k a1 (([] : List (List Int))) y290 (y290.length : Int) 0)) else (none)
theorem impl_readRows.mono_l : ∀ k,(∀ y0 y1 y2 y3 y4,LeO (impl_readRows.l0 k y0 y1 y2 y3 y4) (impl_readRows.l0 (k + 1) y0 y1 y2 y3 y4)) ∧ (∀ y0 y1 y2 y3 y4 y5 y6 y7 y8 y9,LeO (impl_readRows.l1 k y0 y1 y2 y3 y4 y5 y6 y7 y8 y9) (impl_readRows.l1 (k + 1) y0 y1 y2 y3 y4 y5 y6 y7 y8 y9))
 | 0 => ⟨fun _ _ _ _ _ r h => by simp [impl_readRows.l0] at h,fun _ _ _ _ _ _ _ _ _ _ r h => by simp [impl_readRows.l1] at h⟩
 | k + 1 => by
  obtain ⟨ih0,ih1⟩ := impl_readRows.mono_l k
  refine ⟨?_,?_⟩
  ·intro y0 y1 y2 y3 y4
   unfold impl_readRows.l0
   repeat' first
   | (with_reducible exact ih0 _ _ _ _ _)
   | (with_reducible exact ih1 _ _ _ _ _ _ _ _ _ _)
   | (with_reducible exact LeO.refl _)
   | (with_reducible exact LeO.none _)
   | (with_reducible refine LeO.ite ?_ ?_)
   | (with_reducible refine LeO.bind ?_ (fun _ => ?_))
   | exact ih0 _ _ _ _ _
   | exact ih1 _ _ _ _ _ _ _ _ _ _
   | exact LeO.none _
   | refine LeO.ite ?_ ?_
   | refine LeO.bind ?_ (fun _ => ?_)
  ·intro y0 y1 y2 y3 y4 y5 y6 y7 y8 y9
   unfold impl_readRows.l1
   repeat' first
   | (with_reducible exact ih0 _ _ _ _ _)
   | (with_reducible exact ih1 _ _ _ _ _ _ _ _ _ _)
   | (with_reducible exact LeO.refl _)
   | (with_reducible exact LeO.none _)
   | (with_reducible refine LeO.ite ?_ ?_)
   | (with_reducible refine LeO.bind ?_ (fun _ => ?_))
   | exact ih0 _ _ _ _ _
   | exact ih1 _ _ _ _ _ _ _ _ _ _
   | exact LeO.none _
   | refine LeO.ite ?_ ?_
   | refine LeO.bind ?_ (fun _ => ?_)
theorem impl_readRows.mono : ∀ a0 a1 k,LeO (impl_readRows.f k a0 a1) (impl_readRows.f (k + 1) a0 a1) := by
 intro a0 a1 k
 obtain ⟨ih0,ih1⟩ := impl_readRows.mono_l k
 unfold impl_readRows.f
 repeat' first
   | (with_reducible exact ih0 _ _ _ _ _)
   | (with_reducible exact ih1 _ _ _ _ _ _ _ _ _ _)
   | (with_reducible exact LeO.refl _)
   | (with_reducible exact LeO.none _)
   | (with_reducible refine LeO.ite ?_ ?_)
   | (with_reducible refine LeO.bind ?_ (fun _ => ?_))
   | exact ih0 _ _ _ _ _
   | exact ih1 _ _ _ _ _ _ _ _ _ _
   | exact LeO.none _
   | refine LeO.ite ?_ ?_
   | refine LeO.bind ?_ (fun _ => ?_)
set_option maxHeartbeats 8000000 in
set_option maxRecDepth 100000 in
theorem impl_readRows.calls (k : Nat) (A0 : Option Addr) (c0 : Nat) (l0 : List (List ByteArray)) (a1 : Int) (r1 : List (List Int)) (r2 : Int) (r3 : Int) (r4 : Int) (w : World) (hr0 : Kd.C (Kd.slice 9 Kd.string) w A0 l0.length l0) (hc0 : l0.length ≤ c0) (hG : GT w) (h : impl_readRows.f k l0 a1 = some (r1,r2,r3,r4)) :
  Calls Tryd.prog 18 #[.slice A0 l0.length c0,.int .i64 a1] w fun e w' => ∃ v0_ : Value,e = .returned (.tuple #[v0_,.agg #[.int .i64 r2,.int .i64 r3,.int .i64 r4]]) ∧ Kd.S (Kd.slice 3 (Kd.int .i64)) 24 w' w.heap.size (fun _ => True) v0_ r1 ∧ Below w.heap.size w w' := by
 have HG := Aside0.mk hG
 clear hG
 have hu28 := Tryd.underlying28
 have HR0 := Aside0.mk hr0
 have HC0 := Aside0.mk hc0
 clear hr0 hc0
 have HB := Aside0.mk (Below.refl w.heap.size w)
 have H := h
 clear h
 unfold impl_readRows.f at H
 obtain ⟨y287,hyy⟩ : ∃ y_ : List (List Int),y_ = (([] : List (List Int))) := ⟨_,rfl⟩
 replace H : (if 1 ≤ (l0.length : Int) then ((some (l0.drop 1 : List (List ByteArray))).bind fun y290 => (impl_readRows.l0 k a1 y287 y290 (y290.length : Int) 0)) else (none)) = some (r1,r2,r3,r4) := zR
 have Ny287 := Aside0.mk hyy
 clear hyy
 obtain ⟨c3,H⟩ := ifp H
 have c3b0 := eq_true c3
 have c3b1 : decide (1 ≤ (l0.length : Int)) = true := decide_eq_true c3
 clear c3
 obtain ⟨y290,hyy⟩ : ∃ y_ : List (List ByteArray),y_ = (l0.drop 1) := ⟨_,rfl⟩
 replace H : (impl_readRows.l0 k a1 y287 y290 (y290.length : Int) 0) = some (r1,r2,r3,r4) := zR
 have Ny290 := Aside0.mk hyy
 clear hyy
 have H' := Aside0.mk H
 clear H
 go_enter Tryd.func18,Tryd.ntmps18
 go_wp2_with (first | ((with_reducible refine gate_dst (N := 5) rfl ?_);refine bE 5 #[.int .i64 0,.int .i64 0,.int .i64 0] 28 (h := ?_);intro gb286 hg w4 hbox hb;have n_ := jA (below_step Z351 hb) (jA (hbox) (jA ((Z294 : w.heap.size ≤ gb286)) (Aside0.mk ((Z294 : w.heap.size ≤ gb286)))));clear HB;obtain ⟨HB,BK286,GW286,GE286⟩ := n_;clear hb hbox hg) | ((with_reducible refine gate_dst (N := 14) rfl ?_);refine Kd.S_lit (Kd.slice 3 (Kd.int .i64)) _ 24 ?hg (N := 14) ?hd (xs := ([] : List (List Int))) (inner := []) (ok := fun _ => True) (okp := fun _ => True) ?hr ?hp (fun _ hk => hk) trivial (Below.refl _ _) (Nat.le_refl _) Z342 ?_;(case hd => rfl);(case hg => rfl);(case hr => exact Z239);(case hp => exact Z249);intro v288 w5 ho6 hb hg_ hnew_;clear hg_ hnew_;(first | rw [← Ny287.out] at ho6 | (simp only [Int.reduceToNat] at ho6;rw [← Ny287.out] at ho6));have n_ := jA (Kd.S_lower ho6 (below_size Z295)) (jA (blk_below (g := gb286) (o := .cells #[.int .i64 0,.int .i64 0,.int .i64 0] 28 (0,0)) Z338 hb) (Aside0.mk (below_step Z295 hb)));clear BK286 HB;obtain ⟨HO289,BK286,HB⟩ := n_;clear hb ho6;have q7 : (1 : Int) ≤ ((l0.length : Int) : Int) := of_decide_eq_true Z330;obtain ⟨i07,hi07,_,hsz7,_⟩ := info_parts info22;have hroom7 : l0.length ≤ c0 := HC0.out;have hC7 : Kd.C (Kd.slice 9 Kd.string) _ A0 l0.length l0 := HR0.out;have hcut7 := cut_from (P := Tryd.prog) 35 22 .i64 Tryd.underlying35 hi07 1 hsz7 A0 l0.length c0 1 Z254 q7;have hr7 := Kd.C_drop (m := (1 : Int).toNat) (c := c0) hC7 Z254 hroom7;obtain ⟨A7,hA7⟩ : ∃ A1,A1 = (if c0 = (1 : Int).toNat then A0 else (A0 : Option Addr).map (·.add ((1 : Int).toNat * 1))) := ⟨_,rfl⟩;obtain ⟨c7,hc7⟩ : ∃ c1,c1 = c0 - (1 : Int).toNat := ⟨_,rfl⟩;have hy7 : y290.length = l0.length - (1 : Int).toNat := (by rw [Ny290.out,List.length_drop] <;> omega);rw [show (l0).drop (1 : Int).toNat = y290 from Ny290.out.symm] at hr7;replace hr7 : Kd.C (Kd.slice 9 Kd.string) _ A7 y290.length y290 := (by rw [hA7];exact hr7);rw [← hy7,← hA7,← hc7] at hcut7;have HR293 := Aside0.mk hr7;have HC293 := Aside0.mk (show y290.length ≤ c7 from by rw [hy7,hc7];exact Nat.sub_le_sub_right hroom7 _);clear hr7 hC7 hroom7 hi07 hsz7 hc7;have KY7 := Aside0.mk hy7;have KA7 := Aside0.mk hA7;clear hy7 hA7;replace q7 := eq_true q7))
 go_loopg [6,18] k (fun kq v6 v18 w' => ∃ (x6_1 : List (List Int)) (x18_1 : Int) (x287000_1 : Int) (x287001_1 : Int) (x287002_1 : Int),v18 = .int .i64 x18_1 ∧ Aside0 (impl_readRows.l0 kq a1 x6_1 y290 (y290.length : Int) x18_1 = some (r1,r2,r3,r4)) ∧ Aside0 (kq ≤ k) ∧ Aside0 (Kd.S (Kd.slice 3 (Kd.int .i64)) 24 w' w.heap.size (fun _ => True) v6 x6_1) ∧ Aside0 (w'.heap[gb286]? = some (.cells #[.int .i64 x287000_1,.int .i64 x287001_1,.int .i64 x287002_1] 28 (0,0))) ∧ Aside0 (Below w.heap.size w w'))
 case atStart => exact ⟨(y287),(0),(0),(0),(0),Z238,H',⟨Nat.le_refl _⟩,⟨by (with_reducible repeat (first | apply Kd.S_alloc | apply Kd.S_drewN | apply Kd.S_drew));exact HO289.out⟩,⟨Z338⟩,⟨Z295⟩⟩
 case round =>
  clear H'
  try clear c1
  try clear p2
  try clear c3
  try clear c3b0
  try clear c3b1
  try clear c7
  try clear q7
  try clear q7
  obtain ⟨x6_1,x18_1,x287000_1,x287001_1,x287002_1,rfl,HA,HK1,HO_6,BK286,HB⟩ := hrel
  cases gk with
  | zero => exact absurd HA.out (by simp [impl_readRows.l0])
  | succ k1 =>
   have H := HA.out
   clear HA
   simp only [impl_readRows.l0] at H
   by_cases c8 : x18_1 < (y290.length : Int)
   rotate_left
   ·rw [if_neg c8] at H
    have c8b0 : decide (x18_1 < (y290.length : Int)) = false := decide_eq_false c8
    clear c8
    simp only [Option.some.injEq,Prod.mk.injEq] at H
    obtain ⟨rfl,rfl,rfl,rfl⟩ := H
    obtain ⟨hcz28_0,hcz28_1,hcz28_2,hfz28_0,hfz28_1,hfz28_2⟩ := cells3 BK286.out
    go_wp2
    refine bodyPost_ret (results_tc rfl _ _ gb286 28 #[.int .i64 0,.int .i64 0,.int .i64 0] (0,0) _ rfl (by refine bP ?_;refine blk_put (cs := #[.int .i64 0,.int .i64 0,.int .i64 x287002_1]) ?_ 2 _ rfl;refine bP ?_;refine blk_put (cs := #[.int .i64 0,.int .i64 x287001_1,.int .i64 x287002_1]) ?_ 1 _ rfl;refine bP ?_;refine blk_put (cs := #[.int .i64 x287000_1,.int .i64 x287001_1,.int .i64 x287002_1]) ?_ 0 _ rfl;refine bP ?_;exact BK286.out) Tryd.underlying28 rfl Z253) rfl ?_
    exact ⟨_,Z218,by (with_reducible repeat (first | apply Kd.S_alloc | apply Kd.S_drewN | apply Kd.S_drew));exact Kd.S_mono (Kd.S_far (p := ⟨gb286,2,none⟩) (Kd.S_far (p := ⟨gb286,1,none⟩) (Kd.S_far (p := ⟨gb286,0,none⟩) (Kd.S_types HO_6.out BK286.out Z355) (fun _ hk => hk.2) (.int .i64 0)) (fun _ hk => hk.2) (.int .i64 0)) (fun _ hk => hk.2) (.int .i64 0)) (fun _ hk => trivial),Z295⟩
   rw [if_pos c8] at H
   have c8b0 : decide (x18_1 < (y290.length : Int)) = true := decide_eq_true c8
   clear c8
   obtain ⟨c9,H⟩ := ifp H
   have c9b0 : decide (0 ≤ x18_1) = true := decide_eq_true c9
   clear c9
   obtain ⟨c10,H⟩ := ifp H
   have c10b0 : decide (x18_1 < (y290.length : Int)) = true := decide_eq_true c10
   clear c10
   by_cases c11 : ((rd_L2 y290 x18_1).length : Int) = a1
   rotate_left
   ·rw [if_neg c11] at H
    have c11b0 : (((rd_L2 y290 x18_1).length : Int) == a1) = false := beq_eq_false_iff_ne.mpr c11
    have c11b1 : (((rd_L2 y290 x18_1).length : Int) != a1) = true := bne_iff_ne.mpr c11
    simp only [Option.some.injEq,Prod.mk.injEq] at H
    obtain ⟨rfl,rfl,rfl,rfl⟩ := H
    have p294 : 0 ≤ (x18_1 : Int) := of_decide_eq_true Z330
    have q294 : x18_1 < (y290.length : Int) := of_decide_eq_true Z330
    obtain ⟨ad294,A294_0,c294_0,e294,hx294_0,hl294_0,hi294_0⟩ := at_L2 HR293.out x18_1 p294 q294
    cases e294
    replace hx294_0 := (HB.out.cell (World.block_lt_of_cell? w _ hx294_0)).trans hx294_0
    have HR294_0 := Aside0.mk hi294_0
    have HC294_0 := Aside0.mk hl294_0
    clear hi294_0 hl294_0
    replace p294 := eq_true p294
    replace q294 := eq_true q294
    obtain ⟨hcz27_0,hcz27_1,hcz27_2,hfz27_0,hfz27_1,hfz27_2⟩ := cells3 BK286.out
    go_wp2
    refine bodyPost_ret (results_tc rfl _ _ gb286 28 #[.int .i64 4,.int .i64 (wrap64 (x18_1 + 1)),.int .i64 0] (0,0) _ rfl (by refine bP ?_;refine blk_put (cs := #[.int .i64 4,.int .i64 (wrap64 (x18_1 + 1)),.int .i64 x287002_1]) ?_ 2 _ rfl;refine bP ?_;refine blk_put (cs := #[.int .i64 4,.int .i64 x287001_1,.int .i64 x287002_1]) ?_ 1 _ rfl;refine bP ?_;refine blk_put (cs := #[.int .i64 x287000_1,.int .i64 x287001_1,.int .i64 x287002_1]) ?_ 0 _ rfl;refine bP ?_;exact BK286.out) Tryd.underlying28 rfl Z253) rfl ?_
    exact ⟨_,Z218,Z170,Z295⟩
   rw [if_pos c11] at H
   have c11b0 : (((rd_L2 y290 x18_1).length : Int) == a1) = true := beq_iff_eq.mpr c11
   have c11b1 : (((rd_L2 y290 x18_1).length : Int) != a1) = false := bne_eq_false_iff_eq.mpr c11
   clear c11
   obtain ⟨y295,hyy⟩ : ∃ y_ : List Int,y_ = (([] : List Int)) := ⟨_,rfl⟩
   replace H : (impl_readRows.l1 k1 a1 x6_1 x18_1 y295 y290 (y290.length : Int) x18_1 (rd_L2 y290 x18_1) ((rd_L2 y290 x18_1).length : Int) 0) = some (r1,r2,r3,r4) := zR
   have Ny295 := Aside0.mk hyy
   clear hyy
   have H' := Aside0.mk H
   clear H
   have p294 : 0 ≤ (x18_1 : Int) := of_decide_eq_true Z330
   have q294 : x18_1 < (y290.length : Int) := of_decide_eq_true Z330
   obtain ⟨ad294,A294_0,c294_0,e294,hx294_0,hl294_0,hi294_0⟩ := at_L2 HR293.out x18_1 p294 q294
   cases e294
   replace hx294_0 := (HB.out.cell (World.block_lt_of_cell? w _ hx294_0)).trans hx294_0
   have HR294_0 := Aside0.mk hi294_0
   have HC294_0 := Aside0.mk hl294_0
   clear hi294_0 hl294_0
   replace p294 := eq_true p294
   replace q294 := eq_true q294
   go_wp2_with (first | ((with_reducible refine gate_dst (N := 30) rfl ?_);refine Kd.R_lit (Kd.int .i64) _ 3 ?hg (N := 30) ?hd (xs := ([] : List Int)) (inner := []) (ok := fun _ => True) (okp := fun _ => True) ?hr ?hp (fun _ hk => hk) trivial (Below.refl _ _) (Nat.le_refl _) Z342 ?_;(case hd => rfl);(case hg => rfl);(case hr => exact Z239);(case hp => exact Z249);intro v296 w12 ho13 hb hg_ hnew_;clear hg_ hnew_;(first | rw [← Ny295.out] at ho13 | (simp only [Int.reduceToNat] at ho13;rw [← Ny295.out] at ho13));have n_ := jA (Kd.S_elder' Z327 (Kd.R_base ho13) hb) (jA (Kd.R_lower ho13 (below_size Z295)) (jA (blk_below (g := gb286) (o := .cells #[.int .i64 x287000_1,.int .i64 x287001_1,.int .i64 x287002_1] 28 (0,0)) Z338 hb) (Aside0.mk (below_step Z295 hb))));clear HO_6 BK286 HB;obtain ⟨HO_6,HO297,BK286,HB⟩ := n_;clear hb ho13))
   go_loopg [9,33] k1 (fun kq v9 v33 w' => ∃ (x9_2 : List Int) (x33_2 : Int) (x287000_2 : Int) (x287001_2 : Int) (x287002_2 : Int),v33 = .int .i64 x33_2 ∧ Aside0 (impl_readRows.l1 kq a1 x6_1 x18_1 x9_2 y290 (y290.length : Int) x18_1 (rd_L2 y290 x18_1) ((rd_L2 y290 x18_1).length : Int) x33_2 = some (r1,r2,r3,r4)) ∧ Aside0 (kq ≤ k1) ∧ Aside0 (Kd.S (Kd.slice 3 (Kd.int .i64)) 24 w' w.heap.size (fun k_ => some k_ ≠ (v9 : Value).ownBlock) u6 x6_1) ∧ Aside0 (Kd.R (Kd.int .i64) 3 w' w.heap.size (fun _ => True) v9 x9_2) ∧ Aside0 (w'.heap[gb286]? = some (.cells #[.int .i64 x287000_2,.int .i64 x287001_2,.int .i64 x287002_2] 28 (0,0))) ∧ Aside0 (Below w.heap.size w w'))
   case atStart => exact ⟨(y295),(0),(x287000_1),(x287001_1),(x287002_1),Z238,H',⟨Nat.le_refl _⟩,⟨Z177⟩,⟨by (with_reducible repeat (first | apply Kd.R_alloc | apply Kd.R_drewN | apply Kd.R_drew));exact HO297.out⟩,⟨Z338⟩,⟨Z295⟩⟩
   case round =>
    clear H'
    try clear c1
    try clear c2
    try clear p2
    try clear q2
    try clear hx2
    try clear c3
    try clear c3b0
    try clear c3b1
    try clear c7
    try clear q7
    try clear c8
    try clear c8b0
    try clear c9
    try clear c9b0
    try clear c10
    try clear c10b0
    try clear c11
    try clear c11b0
    try clear c11b1
    try clear hx294_0
    try clear p2
    try clear p294
    try clear q294
    try clear q7
    obtain ⟨x9_2,x33_2,x287000_2,x287001_2,x287002_2,rfl,HA,HK2,HO_6,HO_9,BK286,HB⟩ := hrel
    cases gk with
    | zero => exact absurd HA.out (by simp [impl_readRows.l1])
    | succ k2 =>
     have H := HA.out
     clear HA
     simp only [impl_readRows.l1] at H
     by_cases c14 : x33_2 < ((rd_L2 y290 x18_1).length : Int)
     rotate_left
     ·rw [if_neg c14] at H
      have c14b0 : decide (x33_2 < ((rd_L2 y290 x18_1).length : Int)) = false := decide_eq_false c14
      clear c14
      obtain ⟨c24,H⟩ := ifp H
      have LMc24 := Aside0.mk c24
      clear c24
      obtain ⟨y304,hyy⟩ : ∃ y_ : List (List Int),y_ = (x6_1 ++ [x9_2]) := ⟨_,rfl⟩
      replace H : (impl_readRows.l0 k2 a1 y304 y290 (y290.length : Int) (wrap64 (x18_1 + 1))) = some (r1,r2,r3,r4) := zR
      have Ny304 := Aside0.mk hyy
      clear hyy
      have H' := Aside0.mk H
      clear H
      obtain ⟨Ao26,co26,eo26⟩ := Kd.R_slice HO_9.out
      subst eo26
      go_wp2_with (first | ((with_reducible refine gate_builtin (b := .append) (xs := #[.tmp 54,.tmp 56]) rfl ?_);at_builtin;refine Kd.S_append (Kd.slice 3 (Kd.int .i64)) (w0 := w) w.heap.size rfl (.tmp 54) (.tmp 56) 23 24 (.slice none 0 0) 24 rfl Tryd.underlying23 info24 rfl Z355 Z254 u6 x6_1 x9_2 [.slice Ao26 x9_2.length co26] (fun _ => True) (fun k_ => some k_ = (.slice Ao26 x9_2.length co26 : Value).ownBlock) rfl rfl ?aP (fun k_ hk_ => ((Kd.R_mono (ok' := fun k_ => ((fun _ => True)) k_ ∧ some k_ ≠ (u6 : Value).ownBlock) (Kd.R_apart' (HO_9.out) (Kd.S_typed HO_6.out) Z355) (fun k_ hk => ⟨trivial,hk.2⟩))).1 k_ hk_.symm) ?aF ?aO ?aB ?aS ?aL ?_;(case aP => exact Kd.M_row (Kd.R_mono (Kd.R_tight rfl (Kd.R_mono (ok' := fun k_ => ((fun _ => True)) k_ ∧ some k_ ≠ (u6 : Value).ownBlock) (Kd.R_apart' (HO_9.out) (Kd.S_typed HO_6.out) Z355) (fun k_ hk => ⟨trivial,hk.2⟩))) (fun _ h_ => h_)));(case aB => exact Z136);(case aF => exact Z244);(case aO => exact (by (with_reducible repeat (first | apply Kd.S_alloc | apply Kd.S_drewN | apply Kd.S_drew));exact Kd.S_mono HO_6.out (fun k_ hk => ⟨trivial,fun e_ => hk e_⟩)));(case aS => exact Z129);(case aL => have := LMc24.out;omega);intro v305 w25 ho hb hg hat;rw [← Ny304.out] at ho;have n_ := jA (blk_grown (g := gb286) (o := .cells #[.int .i64 x287000_2,.int .i64 x287001_2,.int .i64 x287002_2] 28 (0,0)) Z338 hg (Kd.S_ne HO_6.out BK286.out Z355)) (jA (hb) (Aside0.mk (ho)));clear BK286 HB HO_6 HO_9;obtain ⟨BK286,HB,HO306⟩ := n_;clear ho hb hg hat))
      go_roundg k2
      case measure => have := HK1.out;have := HK2.out;omega
      case rel => exact ⟨(y304),(wrap64 (x18_1 + 1)),(x287000_2),(x287001_2),(x287002_2),Z238,H',⟨Z240⟩,⟨by (with_reducible repeat (first | apply Kd.S_alloc | apply Kd.S_drewN | apply Kd.S_drew));exact HO306.out⟩,⟨Z338⟩,⟨Z295⟩⟩
     rw [if_pos c14] at H
     have c14b0 : decide (x33_2 < ((rd_L2 y290 x18_1).length : Int)) = true := decide_eq_true c14
     clear c14
     obtain ⟨c15,H⟩ := ifp H
     have c15b0 : decide (0 ≤ x33_2) = true := decide_eq_true c15
     clear c15
     obtain ⟨c16,H⟩ := ifp H
     have c16b0 : decide (x33_2 < ((rd_L2 y290 x18_1).length : Int)) = true := decide_eq_true c16
     clear c16
     obtain ⟨⟨t299,t300⟩,A170,H⟩ := Option.bind_eq_some_iff.mp H
     try dsimp only at H
     have A17 := Aside0.mk A170
     clear A170
     by_cases c18 : t300 = true
     rotate_left
     ·replace c18 := Bool.eq_false_iff.mpr c18
      subst c18
      rw [if_neg Bool.false_ne_true] at H
      simp only [Option.some.injEq,Prod.mk.injEq] at H
      obtain ⟨rfl,rfl,rfl,rfl⟩ := H
      have p298 : 0 ≤ (x33_2 : Int) := of_decide_eq_true Z330
      have q298 : x33_2 < ((rd_L2 y290 x18_1).length : Int) := of_decide_eq_true Z330
      obtain ⟨ad298,e298,hx298_0⟩ := Kd.at_string HR294_0.out x33_2 p298 q298
      cases e298
      replace hx298_0 := (HB.out.cell (World.block_lt_of_cell? w _ hx298_0)).trans hx298_0
      replace p298 := eq_true p298
      replace q298 := eq_true q298
      go_wp2_with (first | ((with_reducible refine gate_callee (f := 40) rfl ?_);refine goesL_ (some 40) rfl rfl Tryd.func40 Z253 rfl #[.string (rdOf ByteArray.empty (rd_L2 y290 x18_1) x33_2)] rfl Z173 ?_;(with_reducible refine (impl_ReadFix.calls (rdOf ByteArray.empty (rd_L2 y290 x18_1) x33_2) t299 false _ ?side1 A17.out).mono ?_);(case side1 => exact Z123);rintro e wq1 ⟨rfl,hb⟩;refine ⟨_,rfl,?_⟩;have n_ := Z42;clear HO_6 HO_9 BK286 HB;obtain ⟨HO_6,HO_9,BK286,HB⟩ := n_;(try clear hb);(try clear hb2);(try clear hk);(try clear hi);obtain ⟨hczq2_0,hczq2_1,hczq2_2,hfzq2_0,hfzq2_1,hfzq2_2⟩ := cells3 BK286.out))
      refine bodyPost_ret (results_tc rfl _ _ gb286 28 #[.int .i64 9,.int .i64 (wrap64 (x18_1 + 1)),.int .i64 x33_2] (0,0) _ rfl (by refine bP ?_;refine blk_put (cs := #[.int .i64 9,.int .i64 (wrap64 (x18_1 + 1)),.int .i64 x287002_2]) ?_ 2 _ rfl;refine bP ?_;refine blk_put (cs := #[.int .i64 9,.int .i64 x287001_2,.int .i64 x287002_2]) ?_ 1 _ rfl;refine bP ?_;refine blk_put (cs := #[.int .i64 x287000_2,.int .i64 x287001_2,.int .i64 x287002_2]) ?_ 0 _ rfl;refine bP ?_;exact BK286.out) Tryd.underlying28 rfl Z253) rfl ?_
      exact ⟨_,Z218,Z170,Z295⟩
     subst c18
     rw [if_pos rfl] at H
     obtain ⟨c19,H⟩ := ifp H
     have LMc19 := Aside0.mk c19
     clear c19
     obtain ⟨y301,hyy⟩ : ∃ y_ : List Int,y_ = (x9_2 ++ [t299]) := ⟨_,rfl⟩
     replace H : (impl_readRows.l1 k2 a1 x6_1 x18_1 y301 y290 (y290.length : Int) x18_1 (rd_L2 y290 x18_1) ((rd_L2 y290 x18_1).length : Int) (wrap64 (x33_2 + 1))) = some (r1,r2,r3,r4) := zR
     have Ny301 := Aside0.mk hyy
     clear hyy
     have H' := Aside0.mk H
     clear H
     have p298 : 0 ≤ (x33_2 : Int) := of_decide_eq_true Z330
     have q298 : x33_2 < ((rd_L2 y290 x18_1).length : Int) := of_decide_eq_true Z330
     obtain ⟨ad298,e298,hx298_0⟩ := Kd.at_string HR294_0.out x33_2 p298 q298
     cases e298
     replace hx298_0 := (HB.out.cell (World.block_lt_of_cell? w _ hx298_0)).trans hx298_0
     replace p298 := eq_true p298
     replace q298 := eq_true q298
     go_wp2_with (first | ((with_reducible refine gate_callee (f := 40) rfl ?_);refine goesL_ (some 40) rfl rfl Tryd.func40 Z253 rfl #[.string (rdOf ByteArray.empty (rd_L2 y290 x18_1) x33_2)] rfl Z173 ?_;(with_reducible refine (impl_ReadFix.calls (rdOf ByteArray.empty (rd_L2 y290 x18_1) x33_2) t299 true _ ?side1 A17.out).mono ?_);(case side1 => exact Z123);rintro e w20 ⟨rfl,hb⟩;refine ⟨_,rfl,?_⟩;have n_ := Z42;clear HO_6 HO_9 BK286 HB;obtain ⟨HO_6,HO_9,BK286,HB⟩ := n_;(try clear hb);(try clear hb2);(try clear hk);(try clear hi)) | ((with_reducible refine gate_builtin (b := .append) (xs := #[.tmp 49,.tmp 51]) rfl ?_);at_builtin;refine Kd.R_append (Kd.int .i64) (w0 := w) w.heap.size rfl (.tmp 49) (.tmp 51) 24 3 (.int .i64 0) 8 rfl Tryd.underlying24 info3 rfl Z355 Z254 u9 x9_2 t299 [.int .i64 t299] (fun _ => True) (fun _ => False) rfl rfl ?aP (fun _ hk => hk.elim) ?aF ?aO ?aB ?aS ?aL ?_;(case aP => exact rfl);(case aB => exact Z136);(case aF => exact Z244);(case aO => exact Z328);(case aS => exact Z129);(case aL => exact Z246);intro v302 w21 ho hb hg hat;rw [← Ny301.out] at ho;have n_ := jA (Kd.S_after (ok := (fun _ => True)) (by (with_reducible repeat (first | apply Kd.S_alloc | apply Kd.S_drewN | apply Kd.S_drew));exact Kd.S_mono HO_6.out (fun _ hk => ⟨trivial,hk⟩)) hg hat) (jA (blk_grown (g := gb286) (o := .cells #[.int .i64 x287000_2,.int .i64 x287001_2,.int .i64 x287002_2] 28 (0,0)) Z338 hg (Kd.R_ne HO_9.out BK286.out Z355)) (jA (hb) (Aside0.mk (ho))));clear HO_6 BK286 HB HO_9;obtain ⟨HO_6,BK286,HB,HO303⟩ := n_;clear ho hb hg hat))
     go_roundg k2
     case measure => have := HK1.out;have := HK2.out;omega
     case rel => exact ⟨(y301),(wrap64 (x33_2 + 1)),(x287000_2),(x287001_2),(x287002_2),Z238,H',⟨Z240⟩,⟨Z177⟩,⟨by (with_reducible repeat (first | apply Kd.R_alloc | apply Kd.R_drewN | apply Kd.R_drew));exact HO303.out⟩,⟨Z338⟩,⟨Z295⟩⟩

/-! ### slices_Clone_string_string: function 19 -/
def slices_Clone_string_string.f (l0 : List ByteArray) : Option (List ByteArray) := if l0.length * 16 ≤ 140737488355328 then some l0 else none
theorem slices_Clone_string_string.calls (A0 : Option Addr) (c0 : Nat) (l0 : List ByteArray) (r : List ByteArray) (w : World) (hr0 : Kd.C Kd.string w A0 l0.length l0) (hc0 : l0.length ≤ c0) (h : slices_Clone_string_string.f l0 = some r) :
  Calls Tryd.prog 19 #[.slice A0 l0.length c0] w fun e w' => ∃ v0_ : Value,e = .returned (v0_) ∧ Kd.R Kd.string 9 w' w.heap.size (fun _ => True) v0_ r ∧ Below w.heap.size w w' := by
 unfold slices_Clone_string_string.f at h
 by_cases hb : l0.length * 16 ≤ 140737488355328
 rotate_left
 ·rw [if_neg hb] at h;cases h
 rw [if_pos hb] at h
 obtain rfl := Option.some.inj h
 rcases Nat.eq_zero_or_pos l0.length with h0 | h0
 ·obtain rfl := List.length_eq_zero_iff.mp h0
  cases A0 with
  | none => exact (Tryd.slices_Clone_string_nil _ _ w).mono fun e w' ⟨he,hw⟩ => ⟨_,he,Kd.R_nil _ _ _ _ _,hw ▸ Below.refl _ _⟩
  | some a => exact (Tryd.slices_Clone_string_zero a _ w).mono fun e w' ⟨v,he,ho,_,hb⟩ => ⟨v,he,Kd.R_of_own (enc := Value.string) ho (fun _ _ => trivial),hb⟩
 obtain ⟨_,_,hc'⟩ := hr0
 obtain ⟨⟨b,off,f⟩,rfl,hc⟩ := hc' h0
 clear hc'
 have hk : ∀ j,j < l0.length → w.cell? (if j = 0 then ⟨b,off,f⟩ else ⟨b,off + j,none⟩) = some (.string (l0.getD j ByteArray.empty)) := by
  intro j hj
  obtain ⟨c,_,hcr,hcell⟩ := hc j _ (List.getElem?_eq_getElem hj)
  have hcr : c = [Value.string l0[j]] := hcr
  have := hcell 0 (.string l0[j]) (by rw [hcr];rfl)
  simpa [Kd.string,Kd.scalar,Addr.add,List.getD,List.getElem?_eq_getElem hj] using this
 obtain rfl : f = none := by
  have := hk 0 h0
  cases f with
  | none => rfl
  | some _ =>
   simp only [if_true,World.cell?,Option.isSome_some] at this
   split at this <;> simp at this
 have hk : ∀ j,j < l0.length → w.cell? ⟨b,off + j,none⟩ = some (.string (l0.getD j ByteArray.empty)) := by
  intro j hj
  have := hk j hj
  by_cases e : j = 0
  rotate_left
  ·rwa [if_neg e] at this
  subst e;simpa using this
 exact (Tryd.slices_Clone_string b off _ _ l0 w (Nat.le_refl _) hb hk).mono fun e w' ⟨v,he,ho,_,hb⟩ => ⟨v,he,Kd.R_of_own (enc := Value.string) (by simpa [encs] using ho) (fun _ _ => trivial),hb⟩

/-! ### slices_Clone_int_int: function 20 -/
def slices_Clone_int_int.f (l0 : List Int) : Option (List Int) := if l0.length * 8 ≤ 140737488355328 then some l0 else none
theorem slices_Clone_int_int.calls (A0 : Option Addr) (c0 : Nat) (l0 : List Int) (r : List Int) (w : World) (hr0 : Kd.C (Kd.int .i64) w A0 l0.length l0) (hc0 : l0.length ≤ c0) (h : slices_Clone_int_int.f l0 = some r) :
  Calls Tryd.prog 20 #[.slice A0 l0.length c0] w fun e w' => ∃ v0_ : Value,e = .returned (v0_) ∧ Kd.R (Kd.int .i64) 3 w' w.heap.size (fun _ => True) v0_ r ∧ Below w.heap.size w w' := by
 unfold slices_Clone_int_int.f at h
 by_cases hb : l0.length * 8 ≤ 140737488355328
 rotate_left
 ·rw [if_neg hb] at h;cases h
 rw [if_pos hb] at h
 obtain rfl := Option.some.inj h
 rcases Nat.eq_zero_or_pos l0.length with h0 | h0
 ·obtain rfl := List.length_eq_zero_iff.mp h0
  cases A0 with
  | none => exact (Tryd.slices_Clone_int_nil _ _ w).mono fun e w' ⟨he,hw⟩ => ⟨_,he,Kd.R_nil _ _ _ _ _,hw ▸ Below.refl _ _⟩
  | some a => exact (Tryd.slices_Clone_int_zero a _ w).mono fun e w' ⟨v,he,ho,_,hb⟩ => ⟨v,he,Kd.R_of_own (enc := Value.int .i64) ho (fun _ _ => trivial),hb⟩
 obtain ⟨_,_,hc'⟩ := hr0
 obtain ⟨⟨b,off,f⟩,rfl,hc⟩ := hc' h0
 clear hc'
 have hk : ∀ j,j < l0.length → w.cell? (if j = 0 then ⟨b,off,f⟩ else ⟨b,off + j,none⟩) = some (.int .i64 (l0.getD j 0)) := by
  intro j hj
  obtain ⟨c,_,hcr,hcell⟩ := hc j _ (List.getElem?_eq_getElem hj)
  have hcr : c = [Value.int .i64 l0[j]] := hcr
  have := hcell 0 (.int .i64 l0[j]) (by rw [hcr];rfl)
  simpa [Kd.int,Kd.scalar,Addr.add,List.getD,List.getElem?_eq_getElem hj] using this
 obtain rfl : f = none := by
  have := hk 0 h0
  cases f with
  | none => rfl
  | some _ =>
   simp only [if_true,World.cell?,Option.isSome_some] at this
   split at this <;> simp at this
 have hk : ∀ j,j < l0.length → w.cell? ⟨b,off + j,none⟩ = some (.int .i64 (l0.getD j 0)) := by
  intro j hj
  have := hk j hj
  by_cases e : j = 0
  rotate_left
  ·rwa [if_neg e] at this
  subst e;simpa using this
 exact (Tryd.slices_Clone_int b off _ _ l0 w (Nat.le_refl _) hb hk).mono fun e w' ⟨v,he,ho,_,hb⟩ => ⟨v,he,Kd.R_of_own (enc := Value.int .i64) (by simpa [encs] using ho) (fun _ _ => trivial),hb⟩

end Go.Proofs.YtepnbcdbagjmbaaDoor.QFnExactReadTable
