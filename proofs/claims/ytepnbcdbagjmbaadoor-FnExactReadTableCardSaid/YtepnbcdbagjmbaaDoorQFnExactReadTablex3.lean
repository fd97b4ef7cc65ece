/- The machine side of FnExactReadTable: what each Go function that it reaches comes to. Conditions: none. -/
import Derived.Test.YtepnbcdbagjmbaaDoorQFnExactReadTablex0
import Derived.Test.YtepnbcdbagjmbaaDoorQFnExactReadTablex2
namespace Go.Proofs.YtepnbcdbagjmbaaDoor.QFnExactReadTable
open Go.RowKit Go.Proofs.YtepnbcdbagjmbaaDoorW.PrintWords Go.Proofs.YtepnbcdbagjmbaaDoorW.PrintLast Go.Proofs.YtepnbcdbagjmbaaDoorW.PrintMore
attribute [local go_sem] max2_int min2_int max_two min_two max_three min_three max_four min_four   -- for this text's walks alone
set_option linter.unusedVariables false
set_option linter.unusedSimpArgs false

/-! ### spec_ReadCsv: function 10 -/
mutual
def spec_ReadCsv.l0 : Nat → ByteArray → List (List ByteArray) → Int → Option ((List (List ByteArray)) × Int × Int × Int)
 | 0,_,_,_ => none
 | k + 1,x0,x4,x5 => if x5 < (x0.size : Int) then (spec_ReadCsv.l1 k x0 x4 x5 (([] : List ByteArray)) false) else (some (x4,0,0,0))
def spec_ReadCsv.l1 : Nat → ByteArray → List (List ByteArray) → Int → List ByteArray → Bool → Option ((List (List ByteArray)) × Int × Int × Int)
 | 0,_,_,_,_,_ => none
 | k + 1,x0,x4,x5,x6,x7 => if x7 = true then (if x4.length < 5864062014805 then (spec_ReadCsv.l0 k x0 (x4 ++ [x6]) x5) else (none)) else ((spec_l7Field.f k x0 x5).bind fun bt124 => (if bt124.2.2 = true then (if x6.length < 8796093022208 then ((some (x6 ++ [bt124.1] : List ByteArray)).bind fun y130 => (if bt124.2.1 ≥ (x0.size : Int) then (spec_ReadCsv.l1 k x0 x4 bt124.2.1 y130 true) else (if 0 ≤ bt124.2.1 then (if bt124.2.1 < (x0.size : Int) then (if (bt x0 bt124.2.1) = 44 then (spec_ReadCsv.l1 k x0 x4 (wrap64 (bt124.2.1 + 1)) y130 x7) else (if (bt x0 bt124.2.1) = 10 then (spec_ReadCsv.l1 k x0 x4 (wrap64 (bt124.2.1 + 1)) y130 true) else (if (bt x0 bt124.2.1) = 13 then (if (wrap64 (bt124.2.1 + 1)) < (x0.size : Int) then (if 0 ≤ (wrap64 (bt124.2.1 + 1)) then (if (bt x0 (wrap64 (bt124.2.1 + 1))) = 10 then (spec_ReadCsv.l1 k x0 x4 (wrap64 (bt124.2.1 + 2)) y130 true) else (some ((([] : List (List ByteArray))),2,(x4.length : Int),(x6.length : Int)))) else (none)) else (some ((([] : List (List ByteArray))),2,(x4.length : Int),(x6.length : Int)))) else (some ((([] : List (List ByteArray))),2,(x4.length : Int),(x6.length : Int)))))) else (none)) else (none)))) else (none)) else (some ((([] : List (List ByteArray))),2,(x4.length : Int),(x6.length : Int)))))
end
def spec_ReadCsv.f (k : Nat) (a0 : ByteArray) : Option ((List (List ByteArray)) × Int × Int × Int) := (some (([] : List (List ByteArray)) : List (List ByteArray))).bind fun y114 => (if (a0.size : Int) > 4000 then (some (y114,1,0,0)) else (spec_ReadCsv.l0 k a0 y114 0))
theorem spec_ReadCsv.mono_l : ∀ k,(∀ y0 y1 y2,LeO (spec_ReadCsv.l0 k y0 y1 y2) (spec_ReadCsv.l0 (k + 1) y0 y1 y2)) ∧ (∀ y0 y1 y2 y3 y4,LeO (spec_ReadCsv.l1 k y0 y1 y2 y3 y4) (spec_ReadCsv.l1 (k + 1) y0 y1 y2 y3 y4))
 | 0 => ⟨fun _ _ _ r h => by simp [spec_ReadCsv.l0] at h,fun _ _ _ _ _ r h => by simp [spec_ReadCsv.l1] at h⟩
 | k + 1 => by
  obtain ⟨ih0,ih1⟩ := spec_ReadCsv.mono_l k
  refine ⟨?_,?_⟩
  ·intro y0 y1 y2
   unfold spec_ReadCsv.l0
   repeat' first
   | (with_reducible exact ih0 _ _ _)
   | (with_reducible exact ih1 _ _ _ _ _)
   | (with_reducible exact spec_l7Field.mono _ _ _)
   | (with_reducible exact LeO.refl _)
   | (with_reducible exact LeO.none _)
   | (with_reducible refine LeO.ite ?_ ?_)
   | (with_reducible refine LeO.bind ?_ (fun _ => ?_))
   | exact ih0 _ _ _
   | exact ih1 _ _ _ _ _
   | exact spec_l7Field.mono _ _ _
   | exact LeO.none _
   | refine LeO.ite ?_ ?_
   | refine LeO.bind ?_ (fun _ => ?_)
  ·intro y0 y1 y2 y3 y4
   unfold spec_ReadCsv.l1
   repeat' first
   | (with_reducible exact ih0 _ _ _)
   | (with_reducible exact ih1 _ _ _ _ _)
   | (with_reducible exact spec_l7Field.mono _ _ _)
   | (with_reducible exact LeO.refl _)
   | (with_reducible exact LeO.none _)
   | (with_reducible refine LeO.ite ?_ ?_)
   | (with_reducible refine LeO.bind ?_ (fun _ => ?_))
   | exact ih0 _ _ _
   | exact ih1 _ _ _ _ _
   | exact spec_l7Field.mono _ _ _
   | exact LeO.none _
   | refine LeO.ite ?_ ?_
   | refine LeO.bind ?_ (fun _ => ?_)
theorem spec_ReadCsv.mono : ∀ a0 k,LeO (spec_ReadCsv.f k a0) (spec_ReadCsv.f (k + 1) a0) := by
 intro a0 k
 obtain ⟨ih0,ih1⟩ := spec_ReadCsv.mono_l k
 unfold spec_ReadCsv.f
 repeat' first
   | (with_reducible exact ih0 _ _ _)
   | (with_reducible exact ih1 _ _ _ _ _)
   | (with_reducible exact spec_l7Field.mono _ _ _)
   | (with_reducible exact LeO.refl _)
   | (with_reducible exact LeO.none _)
   | (with_reducible refine LeO.ite ?_ ?_)
   | (with_reducible refine LeO.bind ?_ (fun _ => ?_))
   | exact ih0 _ _ _
   | exact ih1 _ _ _ _ _
   | exact spec_l7Field.mono _ _ _
   | exact LeO.none _
   | refine LeO.ite ?_ ?_
   | refine LeO.bind ?_ (fun _ => ?_)
set_option maxHeartbeats 8000000 in
set_option maxRecDepth 100000 in
theorem spec_ReadCsv.calls (k : Nat) (a0 : ByteArray) (r1 : List (List ByteArray)) (r2 : Int) (r3 : Int) (r4 : Int) (w : World) (h : spec_ReadCsv.f k a0 = some (r1,r2,r3,r4)) :
  Calls Tryd.prog 10 #[.string a0] w fun e w' => ∃ v0_ : Value,e = .returned (.tuple #[v0_,.agg #[.int .i64 r2,.int .i64 r3,.int .i64 r4]]) ∧ Kd.S (Kd.slice 9 Kd.string) 22 w' w.heap.size (fun _ => True) v0_ r1 ∧ Below w.heap.size w w' := by
 have hu28 := Tryd.underlying28
 have HB := Aside0.mk (Below.refl w.heap.size w)
 have H := h
 clear h
 unfold spec_ReadCsv.f at H
 obtain ⟨y114,hyy⟩ : ∃ y_ : List (List ByteArray),y_ = (([] : List (List ByteArray))) := ⟨_,rfl⟩
 replace H : (if (a0.size : Int) > 4000 then (some (y114,1,0,0)) else (spec_ReadCsv.l0 k a0 y114 0)) = some (r1,r2,r3,r4) := zR
 have Ny114 := Aside0.mk hyy
 clear hyy
 by_cases c2 : (a0.size : Int) > 4000
 ·rw [if_pos c2] at H
  have c2b0 : decide (4000 < (a0.size : Int)) = true := decide_eq_true c2
  have c2b1 : decide (4000 < a0.size) = true := decide_eq_true Z254
  clear c2
  simp only [Option.some.injEq,Prod.mk.injEq] at H
  obtain ⟨rfl,rfl,rfl,rfl⟩ := H
  go_enter Tryd.func10,Tryd.ntmps10
  go_wp2_with (first | ((with_reducible refine gate_dst (N := 3) rfl ?_);(try (refine gate_guard Z255 ?_;dsimp only));refine bE 3 #[.int .i64 0,.int .i64 0,.int .i64 0] 28 (h := ?_);intro gb113 hg wq1 hbox hb;have n_ := Z50;clear HB;obtain ⟨HB,BK113,GW113,GE113⟩ := n_;clear hb hbox hg) | ((with_reducible refine gate_dst (N := 12) rfl ?_);(try (refine gate_guard Z255 ?_;dsimp only));refine Kd.S_lit (Kd.slice 9 Kd.string) _ 22 ?hg (N := 12) ?hd (xs := ([] : List (List ByteArray))) (inner := []) (ok := fun _ => True) (okp := fun _ => True) ?hr ?hp (fun _ hk => hk) trivial (Below.refl _ _) (Nat.le_refl _) Z342 ?_;(case hd => rfl);(case hg => rfl);(case hr => exact Z239);(case hp => exact Z249);intro vq2 wq3 hoq4 hb hg_ hnew_;clear hg_ hnew_;(first | rw [← Ny114.out] at hoq4 | (simp only [Int.reduceToNat] at hoq4;rw [← Ny114.out] at hoq4));have n_ := jA (Kd.S_lower hoq4 (below_size Z346)) (jA (blk_below (g := gb113) (o := .cells #[.int .i64 0,.int .i64 0,.int .i64 0] 28 (0,0)) Z336 hb) (Aside0.mk (below_step Z346 hb)));clear BK113 HB;obtain ⟨HO116,BK113,HB⟩ := n_;clear hb hoq4;obtain ⟨hczq5_0,hczq5_1,hczq5_2,hfzq5_0,hfzq5_1,hfzq5_2⟩ := cells3 BK113.out))
  refine bodyPost_ret (results_tc rfl _ _ gb113 28 #[.int .i64 1,.int .i64 0,.int .i64 0] (0,0) _ rfl (by refine bP ?_;refine blk_put (cs := #[.int .i64 1,.int .i64 0,.int .i64 0]) ?_ 2 _ rfl;refine bP ?_;refine blk_put (cs := #[.int .i64 1,.int .i64 0,.int .i64 0]) ?_ 1 _ rfl;refine bP ?_;refine blk_put (cs := #[.int .i64 0,.int .i64 0,.int .i64 0]) ?_ 0 _ rfl;refine bP ?_;exact BK113.out) Tryd.underlying28 rfl Z253) rfl ?_
  exact ⟨_,Z218,by (with_reducible repeat (first | apply Kd.S_alloc | apply Kd.S_drewN | apply Kd.S_drew));exact Kd.S_mono (Kd.S_far (p := ⟨gb113,2,none⟩) (Kd.S_far (p := ⟨gb113,1,none⟩) (Kd.S_far (p := ⟨gb113,0,none⟩) (Kd.S_types HO116.out BK113.out Z355) (fun _ hk => hk.2) (.int .i64 1)) (fun _ hk => hk.2) (.int .i64 0)) (fun _ hk => hk.2) (.int .i64 0)) (fun _ hk => trivial),Z346⟩
 rw [if_neg c2] at H
 have c2b0 : decide (4000 < (a0.size : Int)) = false := decide_eq_false c2
 have c2b1 : decide (4000 < a0.size) = false := decide_eq_false Z254
 clear c2
 have H' := Aside0.mk H
 clear H
 go_enter Tryd.func10,Tryd.ntmps10
 go_wp2_with (first | ((with_reducible refine gate_dst (N := 3) rfl ?_);(try (refine gate_guard Z255 ?_;dsimp only));refine bE 3 #[.int .i64 0,.int .i64 0,.int .i64 0] 28 (h := ?_);intro gb113 hg w7 hbox hb;have n_ := Z50;clear HB;obtain ⟨HB,BK113,GW113,GE113⟩ := n_;clear hb hbox hg) | ((with_reducible refine gate_dst (N := 12) rfl ?_);(try (refine gate_guard Z255 ?_;dsimp only));refine Kd.S_lit (Kd.slice 9 Kd.string) _ 22 ?hg (N := 12) ?hd (xs := ([] : List (List ByteArray))) (inner := []) (ok := fun _ => True) (okp := fun _ => True) ?hr ?hp (fun _ hk => hk) trivial (Below.refl _ _) (Nat.le_refl _) Z342 ?_;(case hd => rfl);(case hg => rfl);(case hr => exact Z239);(case hp => exact Z249);intro v115 w8 ho9 hb hg_ hnew_;clear hg_ hnew_;(first | rw [← Ny114.out] at ho9 | (simp only [Int.reduceToNat] at ho9;rw [← Ny114.out] at ho9));have n_ := jA (Kd.S_lower ho9 (below_size Z346)) (jA (blk_below (g := gb113) (o := .cells #[.int .i64 0,.int .i64 0,.int .i64 0] 28 (0,0)) Z336 hb) (Aside0.mk (below_step Z346 hb)));clear BK113 HB;obtain ⟨HO116,BK113,HB⟩ := n_;clear hb ho9))
 go_loopg [4,5] k (fun kq v4 v5 w' => ∃ (x4_1 : List (List ByteArray)) (x5_1 : Int) (x114000_1 : Int) (x114001_1 : Int) (x114002_1 : Int),v5 = .int .i64 x5_1 ∧ Aside0 (spec_ReadCsv.l0 kq a0 x4_1 x5_1 = some (r1,r2,r3,r4)) ∧ Aside0 (kq ≤ k) ∧ Aside0 (Kd.S (Kd.slice 9 Kd.string) 22 w' w.heap.size (fun _ => True) v4 x4_1) ∧ Aside0 (w'.heap[gb113]? = some (.cells #[.int .i64 x114000_1,.int .i64 x114001_1,.int .i64 x114002_1] 28 (0,0))) ∧ Aside0 (Below w.heap.size w w'))
 case atStart => exact ⟨(y114),(0),(0),(0),(0),Z238,H',⟨Nat.le_refl _⟩,⟨by (with_reducible repeat (first | apply Kd.S_alloc | apply Kd.S_drewN | apply Kd.S_drew));exact HO116.out⟩,⟨Z336⟩,⟨Z346⟩⟩
 case round =>
  clear H'
  try clear c1
  try clear c2
  try clear c2b0
  try clear c2b1
  try clear p2
  obtain ⟨x4_1,x5_1,x114000_1,x114001_1,x114002_1,rfl,HA,HK1,HO_4,BK113,HB⟩ := hrel
  cases gk with
  | zero => exact absurd HA.out (by simp [spec_ReadCsv.l0])
  | succ k1 =>
   have H := HA.out
   clear HA
   simp only [spec_ReadCsv.l0] at H
   by_cases c10 : x5_1 < (a0.size : Int)
   rotate_left
   ·rw [if_neg c10] at H
    have c10b0 : decide (x5_1 < (a0.size : Int)) = false := decide_eq_false c10
    clear c10
    simp only [Option.some.injEq,Prod.mk.injEq] at H
    obtain ⟨rfl,rfl,rfl,rfl⟩ := H
    obtain ⟨hcz113_0,hcz113_1,hcz113_2,hfz113_0,hfz113_1,hfz113_2⟩ := cells3 BK113.out
    go_wp2
    refine bodyPost_ret (results_tc rfl _ _ gb113 28 #[.int .i64 0,.int .i64 0,.int .i64 0] (0,0) _ rfl (by refine bP ?_;refine blk_put (cs := #[.int .i64 0,.int .i64 0,.int .i64 x114002_1]) ?_ 2 _ rfl;refine bP ?_;refine blk_put (cs := #[.int .i64 0,.int .i64 x114001_1,.int .i64 x114002_1]) ?_ 1 _ rfl;refine bP ?_;refine blk_put (cs := #[.int .i64 x114000_1,.int .i64 x114001_1,.int .i64 x114002_1]) ?_ 0 _ rfl;refine bP ?_;exact BK113.out) Tryd.underlying28 rfl Z253) rfl ?_
    exact ⟨_,Z218,by (with_reducible repeat (first | apply Kd.S_alloc | apply Kd.S_drewN | apply Kd.S_drew));exact Kd.S_mono (Kd.S_far (p := ⟨gb113,2,none⟩) (Kd.S_far (p := ⟨gb113,1,none⟩) (Kd.S_far (p := ⟨gb113,0,none⟩) (Kd.S_types HO_4.out BK113.out Z355) (fun _ hk => hk.2) (.int .i64 0)) (fun _ hk => hk.2) (.int .i64 0)) (fun _ hk => hk.2) (.int .i64 0)) (fun _ hk => trivial),Z346⟩
   rw [if_pos c10] at H
   have c10b0 : decide (x5_1 < (a0.size : Int)) = true := decide_eq_true c10
   clear c10
   obtain ⟨y117,hyy⟩ : ∃ y_ : List ByteArray,y_ = (([] : List ByteArray)) := ⟨_,rfl⟩
   replace H : (spec_ReadCsv.l1 k1 a0 x4_1 x5_1 y117 false) = some (r1,r2,r3,r4) := zR
   have Ny117 := Aside0.mk hyy
   clear hyy
   have H' := Aside0.mk H
   clear H
   go_wp2_with (first | ((with_reducible refine gate_dst (N := 22) rfl ?_);(try (refine gate_guard Z255 ?_;dsimp only));refine Kd.R_lit Kd.string _ 9 ?hg (N := 22) ?hd (xs := ([] : List ByteArray)) (inner := []) (ok := fun _ => True) (okp := fun _ => True) ?hr ?hp (fun _ hk => hk) trivial (Below.refl _ _) (Nat.le_refl _) Z342 ?_;(case hd => rfl);(case hg => rfl);(case hr => exact Z239);(case hp => exact Z249);intro v118 w11 ho12 hb hg_ hnew_;clear hg_ hnew_;(first | rw [← Ny117.out] at ho12 | (simp only [Int.reduceToNat] at ho12;rw [← Ny117.out] at ho12));have n_ := jA (Kd.S_elder' Z321 (Kd.R_base ho12) hb) (jA (Kd.R_lower ho12 (below_size Z346)) (jA (blk_below (g := gb113) (o := .cells #[.int .i64 x114000_1,.int .i64 x114001_1,.int .i64 x114002_1] 28 (0,0)) Z336 hb) (Aside0.mk (below_step Z346 hb))));clear HO_4 BK113 HB;obtain ⟨HO_4,HO119,BK113,HB⟩ := n_;clear hb ho12))
   go_loopg [5,6,7] k1 (fun kq v5 v6 v7 w' => ∃ (x5_2 : Int) (x6_2 : List ByteArray) (x7_2 : Bool) (x114000_2 : Int) (x114001_2 : Int) (x114002_2 : Int),v5 = .int .i64 x5_2 ∧ v7 = .bool x7_2 ∧ Aside0 (spec_ReadCsv.l1 kq a0 x4_1 x5_2 x6_2 x7_2 = some (r1,r2,r3,r4)) ∧ Aside0 (kq ≤ k1) ∧ Aside0 (Kd.S (Kd.slice 9 Kd.string) 22 w' w.heap.size (fun k_ => some k_ ≠ (v6 : Value).ownBlock) u4 x4_1) ∧ Aside0 (Kd.R Kd.string 9 w' w.heap.size (fun _ => True) v6 x6_2) ∧ Aside0 (w'.heap[gb113]? = some (.cells #[.int .i64 x114000_2,.int .i64 x114001_2,.int .i64 x114002_2] 28 (0,0))) ∧ Aside0 (Below w.heap.size w w'))
   case atStart => exact ⟨(x5_1),(y117),(false),(x114000_1),(x114001_1),(x114002_1),Z238,Z238,H',⟨Nat.le_refl _⟩,⟨Z176⟩,⟨by (with_reducible repeat (first | apply Kd.R_alloc | apply Kd.R_drewN | apply Kd.R_drew));exact HO119.out⟩,⟨Z336⟩,⟨Z346⟩⟩
   case round =>
    clear H'
    try clear c1
    try clear c2
    try clear c2b0
    try clear c2b1
    try clear p2
    try clear c10
    try clear c10b0
    try clear p2
    obtain ⟨x5_2,x6_2,x7_2,x114000_2,x114001_2,x114002_2,rfl,rfl,HA,HK2,HO_4,HO_6,BK113,HB⟩ := hrel
    cases gk with
    | zero => exact absurd HA.out (by simp [spec_ReadCsv.l1])
    | succ k2 =>
     have H := HA.out
     clear HA
     simp only [spec_ReadCsv.l1] at H
     by_cases c13 : x7_2 = true
     ·subst c13
      rw [if_pos rfl] at H
      obtain ⟨c14,H⟩ := ifp H
      have LMc14 := Aside0.mk c14
      clear c14
      obtain ⟨y120,hyy⟩ : ∃ y_ : List (List ByteArray),y_ = (x4_1 ++ [x6_2]) := ⟨_,rfl⟩
      replace H : (spec_ReadCsv.l0 k2 a0 y120 x5_2) = some (r1,r2,r3,r4) := zR
      have Ny120 := Aside0.mk hyy
      clear hyy
      have H' := Aside0.mk H
      clear H
      obtain ⟨Ao16,co16,eo16⟩ := Kd.R_slice HO_6.out
      subst eo16
      go_wp2_with (first | ((with_reducible refine gate_builtin (b := .append) (xs := #[.tmp 88,.tmp 90]) rfl ?_);(try (refine gate_guard Z255 ?_;dsimp only));at_builtin;refine Kd.S_append (Kd.slice 9 Kd.string) (w0 := w) w.heap.size rfl (.tmp 88) (.tmp 90) 35 22 (.slice none 0 0) 24 rfl Tryd.underlying35 info22 rfl Z355 Z254 u4 x4_1 x6_2 [.slice Ao16 x6_2.length co16] (fun _ => True) (fun k_ => some k_ = (.slice Ao16 x6_2.length co16 : Value).ownBlock) rfl rfl ?aP (fun k_ hk_ => ((Kd.R_mono (ok' := fun k_ => ((fun _ => True)) k_ ∧ some k_ ≠ (u4 : Value).ownBlock) (Kd.R_apart' (HO_6.out) (Kd.S_typed HO_4.out) Z355) (fun k_ hk => ⟨trivial,hk.2⟩))).1 k_ hk_.symm) ?aF ?aO ?aB ?aS ?aL ?_;(case aP => exact Kd.M_row (Kd.R_mono (Kd.R_tight rfl (Kd.R_mono (ok' := fun k_ => ((fun _ => True)) k_ ∧ some k_ ≠ (u4 : Value).ownBlock) (Kd.R_apart' (HO_6.out) (Kd.S_typed HO_4.out) Z355) (fun k_ hk => ⟨trivial,hk.2⟩))) (fun _ h_ => h_)));(case aB => exact Z346);(case aF => exact Z244);(case aO => exact (by (with_reducible repeat (first | apply Kd.S_alloc | apply Kd.S_drewN | apply Kd.S_drew));exact Kd.S_mono HO_4.out (fun k_ hk => ⟨trivial,fun e_ => hk e_⟩)));(case aS => exact (below_size Z346));(case aL => have := LMc14.out;omega);intro v121 w15 ho hb hg hat;rw [← Ny120.out] at ho;have n_ := jA (blk_grown (g := gb113) (o := .cells #[.int .i64 x114000_2,.int .i64 x114001_2,.int .i64 x114002_2] 28 (0,0)) Z336 hg (Kd.S_ne HO_4.out BK113.out Z355)) (jA (hb) (Aside0.mk (ho)));clear BK113 HB HO_4 HO_6;obtain ⟨BK113,HB,HO122⟩ := n_;clear ho hb hg hat))
      go_roundg k2
      case measure => have := HK1.out;have := HK2.out;omega
      case rel => exact ⟨(y120),(x5_2),(x114000_2),(x114001_2),(x114002_2),Z238,H',⟨Z240⟩,⟨by (with_reducible repeat (first | apply Kd.S_alloc | apply Kd.S_drewN | apply Kd.S_drew));exact HO122.out⟩,⟨Z336⟩,⟨Z346⟩⟩
     replace c13 := Bool.eq_false_iff.mpr c13
     subst c13
     rw [if_neg Bool.false_ne_true] at H
     obtain ⟨⟨t124,t125,t126⟩,A170,H⟩ := Option.bind_eq_some_iff.mp H
     try dsimp only at H
     have A17 := Aside0.mk A170
     clear A170
     by_cases c18 : t126 = true
     rotate_left
     ·replace c18 := Bool.eq_false_iff.mpr c18
      subst c18
      rw [if_neg Bool.false_ne_true] at H
      obtain ⟨y127,hyy⟩ : ∃ y_ : List (List ByteArray),y_ = (([] : List (List ByteArray))) := ⟨_,rfl⟩
      replace H : (some (y127,2,(x4_1.length : Int),(x6_2.length : Int))) = some (r1,r2,r3,r4) := zR
      have Ny127 := Aside0.mk hyy
      clear hyy
      simp only [Option.some.injEq,Prod.mk.injEq] at H
      obtain ⟨rfl,rfl,rfl,rfl⟩ := H
      obtain ⟨Ao101,co101,eo101⟩ := Kd.S_slice HO_4.out
      subst eo101
      obtain ⟨Ao102,co102,eo102⟩ := Kd.R_slice HO_6.out
      subst eo102
      try go_wp2_with (first | ((with_reducible refine gate_dst (N := 8) rfl ?_);(try (refine gate_guard Z255 ?_;dsimp only));refine bE 8 #[.int .i64 0,.int .i64 0,.int .i64 0] 28 (h := ?_);intro gb123 hg w103 hbox hb;have n_ := Z8;clear HO_4 HO_6 BK113 HB;obtain ⟨HO_4,HO_6,BK113,HB,BK123,GW123,GE123,NB113_123,NB123_113⟩ := n_;clear hb hbox hg;have hnb104 := NB123_113.out;have hnc104 := NB113_123.out;obtain ⟨hcz105_0,hcz105_1,hcz105_2,hfz105_0,hfz105_1,hfz105_2⟩ := cells3 BK123.out) | ((with_reducible refine gate_callee (f := 30) rfl ?_);refine goesL_ (some 33) rfl rfl Tryd.func30 Z253 rfl #[.string a0,.int .i64 x5_2] rfl Z173 ?_;(with_reducible refine (spec_l7Field.calls k2 a0 x5_2 t124 t125 false _ A17.out).mono ?_);rintro e w106 ⟨rfl,hb⟩;refine ⟨_,rfl,?_⟩;have n_ := Z6;clear HO_4 HO_6 BK113 BK123 HB;obtain ⟨HO_4,HO_6,BK113,BK123,HB⟩ := n_;(try clear hb);(try clear hb2);(try clear hk);(try clear hi)))
      have n_ := jA (Kd.S_drew HO_4.out) (jA (Kd.R_drew HO_6.out) (jA (blk_drew BK113.out) (jA (blk_drew BK123.out) (Aside0.mk (below_drew1 HB.out)))))
      clear HO_4 HO_6 BK113 BK123 HB
      obtain ⟨HO_4,HO_6,BK113,BK123,HB⟩ := n_
      refine start_ (n := 4) (S := fun w' => w'.cell? ⟨gb123,0,none⟩ = some (.int .i64 2) ∧ w'.cell? ⟨gb123,1,none⟩ = some (.int .i64 (x4_1.length : Int)) ∧ w'.cell? ⟨gb123,2,none⟩ = some (.int .i64 (x6_2.length : Int))) (ds := []) (qM 4 0) Z253 rfl (by kernel_rfl) ⟨bc BK123 0,bc BK123 1,bc BK123 2⟩ (fun hHeld => ?_)
      generalize w106.drew = w107 at HO_4 HO_6 BK113 BK123 HB hHeld ⊢
      refine sT3 1 40 4 2 hHeld (h := ?_)
      refine sO 0 39 4 3 (h := fun K hK => ?_)
      refine Kd.S_lit_step (Kd.slice 9 Kd.string) _ 22 ?hg (N := 39) ?hd (xs := ([] : List (List ByteArray))) (inner := []) (ok := fun _ => True) (okp := fun _ => True) ?hr ?hp (fun _ hk => hk) trivial (Below.refl _ _) (Nat.le_refl _) Z342 ?_;(case hd => rfl);(case hg => rfl);(case hr => exact Z239);(case hp => exact Z249)
      intro v128 w108 ho109 hb hg_ hnew_
      clear hg_ hnew_
      (first | rw [← Ny127.out] at ho109 | (simp only [Int.reduceToNat] at ho109;rw [← Ny127.out] at ho109))
      have n_ := jA (Kd.S_elder' Z321 (Kd.S_base ho109) hb) (jA (Kd.R_below Z322 hb) (jA (Kd.S_lower (Kd.S_new' (Kd.S_new' ho109 (Kd.S_lt Z321)) (Kd.R_lt Z322)) (below_size Z274)) (jA (blk_below (g := gb113) (o := .cells #[.int .i64 x114000_2,.int .i64 x114001_2,.int .i64 x114002_2] 28 (0,0)) Z336 hb) (jA (blk_below (g := gb123) (o := .cells #[.int .i64 2,.int .i64 (x4_1.length : Int),.int .i64 (x6_2.length : Int)] 28 (0,0)) Z339 hb) (Aside0.mk (below_step Z274 hb))))))
      clear HO_4 HO_6 BK113 BK123 HB
      obtain ⟨HO_4,HO_6,HO129,BK113,BK123,HB⟩ := n_
      clear hb ho109
      refine hK.out _ _ ⟨bc BK123 0,bc BK123 1,bc BK123 2⟩ (fun hHeld => ?_)
      clear hK K
      refine rN (h := ?_)
      refine sP 2 2 4 7 (h := ?_)
      refine one_ (i := 3) (N := none) #[true,true,true,true] rfl rfl Z253 Z355 (fun K hK => ?_)
      have hs110 : w108.cell? ⟨gb113,0,none⟩ = some (.int .i64 x114000_2) := bc BK113 0
      have hfs110 := blk_frozen BK113.out 0
      have hns110_1 := NB123_113.out
      have hms110_1 := NB113_123.out
      have hs111 : w108.cell? ⟨gb113,1,none⟩ = some (.int .i64 x114001_2) := bc BK113 1
      have hfs111 := blk_frozen BK113.out 1
      have hns111_1 := NB123_113.out
      have hms111_1 := NB113_123.out
      have hs112 : w108.cell? ⟨gb113,2,none⟩ = some (.int .i64 x114002_2) := bc BK113 2
      have hfs112 := blk_frozen BK113.out 2
      have hns112_1 := NB123_113.out
      have hms112_1 := NB113_123.out
      refine skip_ (w1 := ?_) Z255 rfl ?_ ?_
      rotate_left
      ·go_simp
       rfl
      refine hK.out _ _ ⟨((cell_far (p := ⟨gb113,_,none⟩) NB123_113.out _).trans (((cell_far (p := ⟨gb113,_,none⟩) NB123_113.out _).trans (((cell_far (p := ⟨gb113,_,none⟩) NB123_113.out _).trans (hHeld.1)))))),((cell_far (p := ⟨gb113,_,none⟩) NB123_113.out _).trans (((cell_far (p := ⟨gb113,_,none⟩) NB123_113.out _).trans (((cell_far (p := ⟨gb113,_,none⟩) NB123_113.out _).trans (hHeld.2.1)))))),((cell_far (p := ⟨gb113,_,none⟩) NB123_113.out _).trans (((cell_far (p := ⟨gb113,_,none⟩) NB123_113.out _).trans (((cell_far (p := ⟨gb113,_,none⟩) NB123_113.out _).trans (hHeld.2.2))))))⟩ (fun hHeld => ?_)
      clear hK K
      refine done_ Z253 ?_
      try go_wp2
      refine bodyPost_ret (results_tc rfl _ _ gb113 28 #[.int .i64 2,.int .i64 (x4_1.length : Int),.int .i64 (x6_2.length : Int)] (0,0) _ rfl Z68 Tryd.underlying28 rfl Z253) rfl ?_
      exact ⟨_,Z218,by (with_reducible repeat (first | apply Kd.S_alloc | apply Kd.S_drewN | apply Kd.S_drew));exact Kd.S_mono (Kd.S_far (p := ⟨gb113,2,none⟩) (Kd.S_far (p := ⟨gb113,1,none⟩) (Kd.S_far (p := ⟨gb113,0,none⟩) (Kd.S_types HO129.out BK113.out Z355) (fun _ hk => hk.2) (.int .i64 2)) (fun _ hk => hk.2) (.int .i64 (x4_1.length : Int))) (fun _ hk => hk.2) (.int .i64 (x6_2.length : Int))) (fun _ hk => trivial),Z274⟩
     subst c18
     rw [if_pos rfl] at H
     obtain ⟨c19,H⟩ := ifp H
     have LMc19 := Aside0.mk c19
     clear c19
     obtain ⟨y130,hyy⟩ : ∃ y_ : List ByteArray,y_ = (x6_2 ++ [t124]) := ⟨_,rfl⟩
     replace H : (if t125 ≥ (a0.size : Int) then (spec_ReadCsv.l1 k2 a0 x4_1 t125 y130 true) else (if 0 ≤ t125 then (if t125 < (a0.size : Int) then (if (bt a0 t125) = 44 then (spec_ReadCsv.l1 k2 a0 x4_1 (wrap64 (t125 + 1)) y130 false) else (if (bt a0 t125) = 10 then (spec_ReadCsv.l1 k2 a0 x4_1 (wrap64 (t125 + 1)) y130 true) else (if (bt a0 t125) = 13 then (if (wrap64 (t125 + 1)) < (a0.size : Int) then (if 0 ≤ (wrap64 (t125 + 1)) then (if (bt a0 (wrap64 (t125 + 1))) = 10 then (spec_ReadCsv.l1 k2 a0 x4_1 (wrap64 (t125 + 2)) y130 true) else (some ((([] : List (List ByteArray))),2,(x4_1.length : Int),(x6_2.length : Int)))) else (none)) else (some ((([] : List (List ByteArray))),2,(x4_1.length : Int),(x6_2.length : Int)))) else (some ((([] : List (List ByteArray))),2,(x4_1.length : Int),(x6_2.length : Int)))))) else (none)) else (none))) = some (r1,r2,r3,r4) := zR
     have Ny130 := Aside0.mk hyy
     clear hyy
     by_cases c20 : t125 ≥ (a0.size : Int)
     ·rw [if_pos c20] at H
      have c20b0 : decide ((a0.size : Int) ≤ t125) = true := decide_eq_true c20
      clear c20
      have H' := Aside0.mk H
      clear H
      obtain ⟨Ao21,co21,eo21⟩ := Kd.S_slice HO_4.out
      subst eo21
      obtain ⟨Ao22,co22,eo22⟩ := Kd.R_slice HO_6.out
      subst eo22
      go_wp2_with (first | ((with_reducible refine gate_dst (N := 8) rfl ?_);(try (refine gate_guard Z255 ?_;dsimp only));refine bE 8 #[.int .i64 0,.int .i64 0,.int .i64 0] 28 (h := ?_);intro gb123 hg w23 hbox hb;have n_ := Z8;clear HO_4 HO_6 BK113 HB;obtain ⟨HO_4,HO_6,BK113,HB,BK123,GW123,GE123,NB113_123,NB123_113⟩ := n_;clear hb hbox hg;have hnb24 := NB123_113.out;have hnc24 := NB113_123.out;obtain ⟨hcz25_0,hcz25_1,hcz25_2,hfz25_0,hfz25_1,hfz25_2⟩ := cells3 BK123.out) | ((with_reducible refine gate_callee (f := 30) rfl ?_);refine goesL_ (some 33) rfl rfl Tryd.func30 Z253 rfl #[.string a0,.int .i64 x5_2] rfl Z173 ?_;(with_reducible refine (spec_l7Field.calls k2 a0 x5_2 t124 t125 true _ A17.out).mono ?_);rintro e w26 ⟨rfl,hb⟩;refine ⟨_,rfl,?_⟩;have n_ := Z6;clear HO_4 HO_6 BK113 BK123 HB;obtain ⟨HO_4,HO_6,BK113,BK123,HB⟩ := n_;(try clear hb);(try clear hb2);(try clear hk);(try clear hi)) | ((with_reducible refine gate_builtin (b := .append) (xs := #[.tmp 41,.tmp 43]) rfl ?_);(try (refine gate_guard Z255 ?_;dsimp only));at_builtin;refine Kd.R_append Kd.string (w0 := w) w.heap.size rfl (.tmp 41) (.tmp 43) 22 9 (.string ⟨#[]⟩) 16 rfl Tryd.underlying22 info9 rfl Z355 Z254 (.slice Ao22 x6_2.length co22) x6_2 t124 [.string t124] (fun _ => True) (fun _ => False) rfl rfl ?aP (fun _ hk => hk.elim) ?aF ?aO ?aB ?aS ?aL ?_;(case aP => exact rfl);(case aB => exact Z117);(case aF => exact Z244);(case aO => exact Z184);(case aS => exact Z115);(case aL => exact Z246);intro v131 w27 ho hb hg hat;rw [← Ny130.out] at ho;have n_ := Z41;clear HO_4 BK113 BK123 HB HO_6;obtain ⟨HO_4,BK113,BK123,HB,HO132⟩ := n_;clear ho hb hg hat))
      go_roundg k2
      case measure => have := HK1.out;have := HK2.out;omega
      case rel => exact ⟨(t125),(y130),(true),(x114000_2),(x114001_2),(x114002_2),Z238,Z238,H',⟨Z240⟩,⟨Z176⟩,⟨Z195⟩,⟨Z336⟩,⟨Z274⟩⟩
     rw [if_neg c20] at H
     have c20b0 : decide ((a0.size : Int) ≤ t125) = false := decide_eq_false c20
     clear c20
     obtain ⟨c28,H⟩ := ifp H
     have c28b0 : decide (0 ≤ t125) = true := decide_eq_true c28
     clear c28
     obtain ⟨c29,H⟩ := ifp H
     have c29b0 : decide (t125 < (a0.size : Int)) = true := decide_eq_true c29
     clear c29
     by_cases c31 : (bt a0 t125) = 44
     ·rw [if_pos c31] at H
      have c31b0 : ((bt a0 t125) == 44) = true := beq_iff_eq.mpr c31
      have c31b1 : ((bt a0 t125) != 44) = false := bne_eq_false_iff_eq.mpr c31
      clear c31
      have H' := Aside0.mk H
      clear H
      obtain ⟨Ao32,co32,eo32⟩ := Kd.S_slice HO_4.out
      subst eo32
      obtain ⟨Ao33,co33,eo33⟩ := Kd.R_slice HO_6.out
      subst eo33
      go_wp2_with (first | ((with_reducible refine gate_dst (N := 8) rfl ?_);(try (refine gate_guard Z255 ?_;dsimp only));refine bE 8 #[.int .i64 0,.int .i64 0,.int .i64 0] 28 (h := ?_);intro gb123 hg w34 hbox hb;have n_ := Z8;clear HO_4 HO_6 BK113 HB;obtain ⟨HO_4,HO_6,BK113,HB,BK123,GW123,GE123,NB113_123,NB123_113⟩ := n_;clear hb hbox hg;have hnb35 := NB123_113.out;have hnc35 := NB113_123.out;obtain ⟨hcz36_0,hcz36_1,hcz36_2,hfz36_0,hfz36_1,hfz36_2⟩ := cells3 BK123.out) | ((with_reducible refine gate_callee (f := 30) rfl ?_);refine goesL_ (some 33) rfl rfl Tryd.func30 Z253 rfl #[.string a0,.int .i64 x5_2] rfl Z173 ?_;(with_reducible refine (spec_l7Field.calls k2 a0 x5_2 t124 t125 true _ A17.out).mono ?_);rintro e w37 ⟨rfl,hb⟩;refine ⟨_,rfl,?_⟩;have n_ := Z6;clear HO_4 HO_6 BK113 BK123 HB;obtain ⟨HO_4,HO_6,BK113,BK123,HB⟩ := n_;(try clear hb);(try clear hb2);(try clear hk);(try clear hi)) | ((with_reducible refine gate_builtin (b := .append) (xs := #[.tmp 41,.tmp 43]) rfl ?_);(try (refine gate_guard Z255 ?_;dsimp only));at_builtin;refine Kd.R_append Kd.string (w0 := w) w.heap.size rfl (.tmp 41) (.tmp 43) 22 9 (.string ⟨#[]⟩) 16 rfl Tryd.underlying22 info9 rfl Z355 Z254 (.slice Ao33 x6_2.length co33) x6_2 t124 [.string t124] (fun _ => True) (fun _ => False) rfl rfl ?aP (fun _ hk => hk.elim) ?aF ?aO ?aB ?aS ?aL ?_;(case aP => exact rfl);(case aB => exact Z117);(case aF => exact Z244);(case aO => exact Z184);(case aS => exact Z115);(case aL => exact Z246);intro v131 w38 ho hb hg hat;rw [← Ny130.out] at ho;have n_ := Z41;clear HO_4 BK113 BK123 HB HO_6;obtain ⟨HO_4,BK113,BK123,HB,HO132⟩ := n_;clear ho hb hg hat;have p30 : 0 ≤ (t125 : Int) := of_decide_eq_true Z330;have q30 : t125 < (a0.size : Int) := of_decide_eq_true Z330;have hx30 := bt_at a0 t125;replace p30 := eq_true p30;replace q30 := eq_true q30))
      go_roundg k2
      case measure => have := HK1.out;have := HK2.out;omega
      case rel => exact ⟨(wrap64 (t125 + 1)),(y130),(false),(x114000_2),(x114001_2),(x114002_2),Z238,Z238,H',⟨Z240⟩,⟨Z176⟩,⟨Z195⟩,⟨Z336⟩,⟨Z274⟩⟩
     rw [if_neg c31] at H
     have c31b0 : ((bt a0 t125) == 44) = false := beq_eq_false_iff_ne.mpr c31
     have c31b1 : ((bt a0 t125) != 44) = true := bne_iff_ne.mpr c31
     by_cases c40 : (bt a0 t125) = 10
     ·rw [if_pos c40] at H
      have c40b0 : ((bt a0 t125) == 10) = true := beq_iff_eq.mpr c40
      have c40b1 : ((bt a0 t125) != 10) = false := bne_eq_false_iff_eq.mpr c40
      clear c40
      have H' := Aside0.mk H
      clear H
      obtain ⟨Ao41,co41,eo41⟩ := Kd.S_slice HO_4.out
      subst eo41
      obtain ⟨Ao42,co42,eo42⟩ := Kd.R_slice HO_6.out
      subst eo42
      go_wp2_with (first | ((with_reducible refine gate_dst (N := 8) rfl ?_);(try (refine gate_guard Z255 ?_;dsimp only));refine bE 8 #[.int .i64 0,.int .i64 0,.int .i64 0] 28 (h := ?_);intro gb123 hg w43 hbox hb;have n_ := Z8;clear HO_4 HO_6 BK113 HB;obtain ⟨HO_4,HO_6,BK113,HB,BK123,GW123,GE123,NB113_123,NB123_113⟩ := n_;clear hb hbox hg;have hnb44 := NB123_113.out;have hnc44 := NB113_123.out;obtain ⟨hcz45_0,hcz45_1,hcz45_2,hfz45_0,hfz45_1,hfz45_2⟩ := cells3 BK123.out) | ((with_reducible refine gate_callee (f := 30) rfl ?_);refine goesL_ (some 33) rfl rfl Tryd.func30 Z253 rfl #[.string a0,.int .i64 x5_2] rfl Z173 ?_;(with_reducible refine (spec_l7Field.calls k2 a0 x5_2 t124 t125 true _ A17.out).mono ?_);rintro e w46 ⟨rfl,hb⟩;refine ⟨_,rfl,?_⟩;have n_ := Z6;clear HO_4 HO_6 BK113 BK123 HB;obtain ⟨HO_4,HO_6,BK113,BK123,HB⟩ := n_;(try clear hb);(try clear hb2);(try clear hk);(try clear hi)) | ((with_reducible refine gate_builtin (b := .append) (xs := #[.tmp 41,.tmp 43]) rfl ?_);(try (refine gate_guard Z255 ?_;dsimp only));at_builtin;refine Kd.R_append Kd.string (w0 := w) w.heap.size rfl (.tmp 41) (.tmp 43) 22 9 (.string ⟨#[]⟩) 16 rfl Tryd.underlying22 info9 rfl Z355 Z254 (.slice Ao42 x6_2.length co42) x6_2 t124 [.string t124] (fun _ => True) (fun _ => False) rfl rfl ?aP (fun _ hk => hk.elim) ?aF ?aO ?aB ?aS ?aL ?_;(case aP => exact rfl);(case aB => exact Z117);(case aF => exact Z244);(case aO => exact Z184);(case aS => exact Z115);(case aL => exact Z246);intro v131 w47 ho hb hg hat;rw [← Ny130.out] at ho;have n_ := Z41;clear HO_4 BK113 BK123 HB HO_6;obtain ⟨HO_4,BK113,BK123,HB,HO132⟩ := n_;clear ho hb hg hat;have p30 : 0 ≤ (t125 : Int) := of_decide_eq_true Z330;have q30 : t125 < (a0.size : Int) := of_decide_eq_true Z330;have hx30 := bt_at a0 t125;replace p30 := eq_true p30;replace q30 := eq_true q30;have p39 : 0 ≤ (t125 : Int) := of_decide_eq_true Z330;have q39 : t125 < (a0.size : Int) := of_decide_eq_true Z330;have hx39 := bt_at a0 t125;replace p39 := eq_true p39;replace q39 := eq_true q39))
      go_roundg k2
      case measure => have := HK1.out;have := HK2.out;omega
      case rel => exact ⟨(wrap64 (t125 + 1)),(y130),(true),(x114000_2),(x114001_2),(x114002_2),Z238,Z238,H',⟨Z240⟩,⟨Z176⟩,⟨Z195⟩,⟨Z336⟩,⟨Z274⟩⟩
     rw [if_neg c40] at H
     have c40b0 : ((bt a0 t125) == 10) = false := beq_eq_false_iff_ne.mpr c40
     have c40b1 : ((bt a0 t125) != 10) = true := bne_iff_ne.mpr c40
     by_cases c49 : (bt a0 t125) = 13
     rotate_left
     ·rw [if_neg c49] at H
      have c49b0 : ((bt a0 t125) == 13) = false := beq_eq_false_iff_ne.mpr c49
      have c49b1 : ((bt a0 t125) != 13) = true := bne_iff_ne.mpr c49
      obtain ⟨y139,hyy⟩ : ∃ y_ : List (List ByteArray),y_ = (([] : List (List ByteArray))) := ⟨_,rfl⟩
      replace H : (some (y139,2,(x4_1.length : Int),(x6_2.length : Int))) = some (r1,r2,r3,r4) := zR
      have Ny139 := Aside0.mk hyy
      clear hyy
      simp only [Option.some.injEq,Prod.mk.injEq] at H
      obtain ⟨rfl,rfl,rfl,rfl⟩ := H
      obtain ⟨Ao88,co88,eo88⟩ := Kd.S_slice HO_4.out
      subst eo88
      obtain ⟨Ao89,co89,eo89⟩ := Kd.R_slice HO_6.out
      subst eo89
      try go_wp2_with (first | ((with_reducible refine gate_dst (N := 8) rfl ?_);(try (refine gate_guard Z255 ?_;dsimp only));refine bE 8 #[.int .i64 0,.int .i64 0,.int .i64 0] 28 (h := ?_);intro gb123 hg w90 hbox hb;have n_ := Z8;clear HO_4 HO_6 BK113 HB;obtain ⟨HO_4,HO_6,BK113,HB,BK123,GW123,GE123,NB113_123,NB123_113⟩ := n_;clear hb hbox hg;have hnb91 := NB123_113.out;have hnc91 := NB113_123.out;obtain ⟨hcz92_0,hcz92_1,hcz92_2,hfz92_0,hfz92_1,hfz92_2⟩ := cells3 BK123.out) | ((with_reducible refine gate_callee (f := 30) rfl ?_);refine goesL_ (some 33) rfl rfl Tryd.func30 Z253 rfl #[.string a0,.int .i64 x5_2] rfl Z173 ?_;(with_reducible refine (spec_l7Field.calls k2 a0 x5_2 t124 t125 true _ A17.out).mono ?_);rintro e w93 ⟨rfl,hb⟩;refine ⟨_,rfl,?_⟩;have n_ := Z6;clear HO_4 HO_6 BK113 BK123 HB;obtain ⟨HO_4,HO_6,BK113,BK123,HB⟩ := n_;(try clear hb);(try clear hb2);(try clear hk);(try clear hi)) | ((with_reducible refine gate_builtin (b := .append) (xs := #[.tmp 41,.tmp 43]) rfl ?_);(try (refine gate_guard Z255 ?_;dsimp only));at_builtin;refine Kd.R_append Kd.string (w0 := w) w.heap.size rfl (.tmp 41) (.tmp 43) 22 9 (.string ⟨#[]⟩) 16 rfl Tryd.underlying22 info9 rfl Z355 Z254 (.slice Ao89 x6_2.length co89) x6_2 t124 [.string t124] (fun _ => True) (fun _ => False) rfl rfl ?aP (fun _ hk => hk.elim) ?aF ?aO ?aB ?aS ?aL ?_;(case aP => exact rfl);(case aB => exact Z117);(case aF => exact Z244);(case aO => exact Z184);(case aS => exact Z115);(case aL => exact Z246);intro v131 w94 ho hb hg hat;rw [← Ny130.out] at ho;have n_ := Z41;clear HO_4 BK113 BK123 HB HO_6;obtain ⟨HO_4,BK113,BK123,HB,HO132⟩ := n_;clear ho hb hg hat;have p30 : 0 ≤ (t125 : Int) := of_decide_eq_true Z330;have q30 : t125 < (a0.size : Int) := of_decide_eq_true Z330;have hx30 := bt_at a0 t125;replace p30 := eq_true p30;replace q30 := eq_true q30;have p39 : 0 ≤ (t125 : Int) := of_decide_eq_true Z330;have q39 : t125 < (a0.size : Int) := of_decide_eq_true Z330;have hx39 := bt_at a0 t125;replace p39 := eq_true p39;replace q39 := eq_true q39;have p48 : 0 ≤ (t125 : Int) := of_decide_eq_true Z330;have q48 : t125 < (a0.size : Int) := of_decide_eq_true Z330;have hx48 := bt_at a0 t125;replace p48 := eq_true p48;replace q48 := eq_true q48))
      have n_ := jA (Kd.S_drew HO_4.out) (jA (Kd.R_drew HO132.out) (jA (blk_drew BK113.out) (jA (blk_drew BK123.out) (Aside0.mk (below_drew1 HB.out)))))
      clear HO_4 HO132 BK113 BK123 HB
      obtain ⟨HO_4,HO132,BK113,BK123,HB⟩ := n_
      refine start_ (n := 4) (S := fun w' => w'.cell? ⟨gb123,0,none⟩ = some (.int .i64 2) ∧ w'.cell? ⟨gb123,1,none⟩ = some (.int .i64 (x4_1.length : Int)) ∧ w'.cell? ⟨gb123,2,none⟩ = some (.int .i64 (x6_2.length : Int))) (ds := []) (qM 4 0) Z253 rfl (by kernel_rfl) ⟨bc BK123 0,bc BK123 1,bc BK123 2⟩ (fun hHeld => ?_)
      generalize w94.drew = w95 at HO_4 HO132 BK113 BK123 HB hHeld ⊢
      refine sT3 1 47 4 2 hHeld (h := ?_)
      refine sO 0 46 4 3 (h := fun K hK => ?_)
      refine Kd.S_lit_step (Kd.slice 9 Kd.string) _ 22 ?hg (N := 46) ?hd (xs := ([] : List (List ByteArray))) (inner := []) (ok := fun _ => True) (okp := fun _ => True) ?hr ?hp (fun _ hk => hk) trivial (Below.refl _ _) (Nat.le_refl _) Z342 ?_;(case hd => rfl);(case hg => rfl);(case hr => exact Z239);(case hp => exact Z249)
      intro v140 w96 ho97 hb hg_ hnew_
      clear hg_ hnew_
      (first | rw [← Ny139.out] at ho97 | (simp only [Int.reduceToNat] at ho97;rw [← Ny139.out] at ho97))
      have n_ := jA (Kd.S_elder' Z321 (Kd.S_base ho97) hb) (jA (Kd.R_below Z195 hb) (jA (Kd.S_lower (Kd.S_new' (Kd.S_new' ho97 (Kd.S_lt Z321)) (Kd.R_lt Z195)) (below_size Z274)) (jA (blk_below (g := gb113) (o := .cells #[.int .i64 x114000_2,.int .i64 x114001_2,.int .i64 x114002_2] 28 (0,0)) Z336 hb) (jA (blk_below (g := gb123) (o := .cells #[.int .i64 2,.int .i64 (x4_1.length : Int),.int .i64 (x6_2.length : Int)] 28 (0,0)) Z339 hb) (Aside0.mk (below_step Z274 hb))))))
      clear HO_4 HO132 BK113 BK123 HB
      obtain ⟨HO_4,HO132,HO141,BK113,BK123,HB⟩ := n_
      clear hb ho97
      refine hK.out _ _ ⟨bc BK123 0,bc BK123 1,bc BK123 2⟩ (fun hHeld => ?_)
      clear hK K
      refine rN (h := ?_)
      refine sP 2 2 4 7 (h := ?_)
      refine one_ (i := 3) (N := none) #[true,true,true,true] rfl rfl Z253 Z355 (fun K hK => ?_)
      have hs98 : w96.cell? ⟨gb113,0,none⟩ = some (.int .i64 x114000_2) := bc BK113 0
      have hfs98 := blk_frozen BK113.out 0
      have hns98_1 := NB123_113.out
      have hms98_1 := NB113_123.out
      have hs99 : w96.cell? ⟨gb113,1,none⟩ = some (.int .i64 x114001_2) := bc BK113 1
      have hfs99 := blk_frozen BK113.out 1
      have hns99_1 := NB123_113.out
      have hms99_1 := NB113_123.out
      have hs100 : w96.cell? ⟨gb113,2,none⟩ = some (.int .i64 x114002_2) := bc BK113 2
      have hfs100 := blk_frozen BK113.out 2
      have hns100_1 := NB123_113.out
      have hms100_1 := NB113_123.out
      refine skip_ (w1 := ?_) Z255 rfl ?_ ?_
      rotate_left
      ·go_simp
       rfl
      refine hK.out _ _ ⟨((cell_far (p := ⟨gb113,_,none⟩) NB123_113.out _).trans (((cell_far (p := ⟨gb113,_,none⟩) NB123_113.out _).trans (((cell_far (p := ⟨gb113,_,none⟩) NB123_113.out _).trans (hHeld.1)))))),((cell_far (p := ⟨gb113,_,none⟩) NB123_113.out _).trans (((cell_far (p := ⟨gb113,_,none⟩) NB123_113.out _).trans (((cell_far (p := ⟨gb113,_,none⟩) NB123_113.out _).trans (hHeld.2.1)))))),((cell_far (p := ⟨gb113,_,none⟩) NB123_113.out _).trans (((cell_far (p := ⟨gb113,_,none⟩) NB123_113.out _).trans (((cell_far (p := ⟨gb113,_,none⟩) NB123_113.out _).trans (hHeld.2.2))))))⟩ (fun hHeld => ?_)
      clear hK K
      refine done_ Z253 ?_
      try go_wp2
      refine bodyPost_ret (results_tc rfl _ _ gb113 28 #[.int .i64 2,.int .i64 (x4_1.length : Int),.int .i64 (x6_2.length : Int)] (0,0) _ rfl Z68 Tryd.underlying28 rfl Z253) rfl ?_
      exact ⟨_,Z218,by (with_reducible repeat (first | apply Kd.S_alloc | apply Kd.S_drewN | apply Kd.S_drew));exact Kd.S_mono (Kd.S_far (p := ⟨gb113,2,none⟩) (Kd.S_far (p := ⟨gb113,1,none⟩) (Kd.S_far (p := ⟨gb113,0,none⟩) (Kd.S_types HO141.out BK113.out Z355) (fun _ hk => hk.2) (.int .i64 2)) (fun _ hk => hk.2) (.int .i64 (x4_1.length : Int))) (fun _ hk => hk.2) (.int .i64 (x6_2.length : Int))) (fun _ hk => trivial),Z274⟩
     rw [if_pos c49] at H
     have c49b0 : ((bt a0 t125) == 13) = true := beq_iff_eq.mpr c49
     have c49b1 : ((bt a0 t125) != 13) = false := bne_eq_false_iff_eq.mpr c49
     clear c49
     by_cases c50 : (wrap64 (t125 + 1)) < (a0.size : Int)
     rotate_left
     ·rw [if_neg c50] at H
      have c50b0 : decide ((wrap64 (t125 + 1)) < (a0.size : Int)) = false := decide_eq_false c50
      clear c50
      obtain ⟨y136,hyy⟩ : ∃ y_ : List (List ByteArray),y_ = (([] : List (List ByteArray))) := ⟨_,rfl⟩
      replace H : (some (y136,2,(x4_1.length : Int),(x6_2.length : Int))) = some (r1,r2,r3,r4) := zR
      have Ny136 := Aside0.mk hyy
      clear hyy
      simp only [Option.some.injEq,Prod.mk.injEq] at H
      obtain ⟨rfl,rfl,rfl,rfl⟩ := H
      obtain ⟨Ao75,co75,eo75⟩ := Kd.S_slice HO_4.out
      subst eo75
      obtain ⟨Ao76,co76,eo76⟩ := Kd.R_slice HO_6.out
      subst eo76
      try go_wp2_with (first | ((with_reducible refine gate_dst (N := 8) rfl ?_);(try (refine gate_guard Z255 ?_;dsimp only));refine bE 8 #[.int .i64 0,.int .i64 0,.int .i64 0] 28 (h := ?_);intro gb123 hg w77 hbox hb;have n_ := Z8;clear HO_4 HO_6 BK113 HB;obtain ⟨HO_4,HO_6,BK113,HB,BK123,GW123,GE123,NB113_123,NB123_113⟩ := n_;clear hb hbox hg;have hnb78 := NB123_113.out;have hnc78 := NB113_123.out;obtain ⟨hcz79_0,hcz79_1,hcz79_2,hfz79_0,hfz79_1,hfz79_2⟩ := cells3 BK123.out) | ((with_reducible refine gate_callee (f := 30) rfl ?_);refine goesL_ (some 33) rfl rfl Tryd.func30 Z253 rfl #[.string a0,.int .i64 x5_2] rfl Z173 ?_;(with_reducible refine (spec_l7Field.calls k2 a0 x5_2 t124 t125 true _ A17.out).mono ?_);rintro e w80 ⟨rfl,hb⟩;refine ⟨_,rfl,?_⟩;have n_ := Z6;clear HO_4 HO_6 BK113 BK123 HB;obtain ⟨HO_4,HO_6,BK113,BK123,HB⟩ := n_;(try clear hb);(try clear hb2);(try clear hk);(try clear hi)) | ((with_reducible refine gate_builtin (b := .append) (xs := #[.tmp 41,.tmp 43]) rfl ?_);(try (refine gate_guard Z255 ?_;dsimp only));at_builtin;refine Kd.R_append Kd.string (w0 := w) w.heap.size rfl (.tmp 41) (.tmp 43) 22 9 (.string ⟨#[]⟩) 16 rfl Tryd.underlying22 info9 rfl Z355 Z254 (.slice Ao76 x6_2.length co76) x6_2 t124 [.string t124] (fun _ => True) (fun _ => False) rfl rfl ?aP (fun _ hk => hk.elim) ?aF ?aO ?aB ?aS ?aL ?_;(case aP => exact rfl);(case aB => exact Z117);(case aF => exact Z244);(case aO => exact Z184);(case aS => exact Z115);(case aL => exact Z246);intro v131 w81 ho hb hg hat;rw [← Ny130.out] at ho;have n_ := Z41;clear HO_4 BK113 BK123 HB HO_6;obtain ⟨HO_4,BK113,BK123,HB,HO132⟩ := n_;clear ho hb hg hat;have p30 : 0 ≤ (t125 : Int) := of_decide_eq_true Z330;have q30 : t125 < (a0.size : Int) := of_decide_eq_true Z330;have hx30 := bt_at a0 t125;replace p30 := eq_true p30;replace q30 := eq_true q30;have p39 : 0 ≤ (t125 : Int) := of_decide_eq_true Z330;have q39 : t125 < (a0.size : Int) := of_decide_eq_true Z330;have hx39 := bt_at a0 t125;replace p39 := eq_true p39;replace q39 := eq_true q39;have p48 : 0 ≤ (t125 : Int) := of_decide_eq_true Z330;have q48 : t125 < (a0.size : Int) := of_decide_eq_true Z330;have hx48 := bt_at a0 t125;replace p48 := eq_true p48;replace q48 := eq_true q48))
      have n_ := jA (Kd.S_drew HO_4.out) (jA (Kd.R_drew HO132.out) (jA (blk_drew BK113.out) (jA (blk_drew BK123.out) (Aside0.mk (below_drew1 HB.out)))))
      clear HO_4 HO132 BK113 BK123 HB
      obtain ⟨HO_4,HO132,BK113,BK123,HB⟩ := n_
      refine start_ (n := 4) (S := fun w' => w'.cell? ⟨gb123,0,none⟩ = some (.int .i64 2) ∧ w'.cell? ⟨gb123,1,none⟩ = some (.int .i64 (x4_1.length : Int)) ∧ w'.cell? ⟨gb123,2,none⟩ = some (.int .i64 (x6_2.length : Int))) (ds := []) (qM 4 0) Z253 rfl (by kernel_rfl) ⟨bc BK123 0,bc BK123 1,bc BK123 2⟩ (fun hHeld => ?_)
      generalize w81.drew = w82 at HO_4 HO132 BK113 BK123 HB hHeld ⊢
      refine sT3 1 47 4 2 hHeld (h := ?_)
      refine sO 0 46 4 3 (h := fun K hK => ?_)
      refine Kd.S_lit_step (Kd.slice 9 Kd.string) _ 22 ?hg (N := 46) ?hd (xs := ([] : List (List ByteArray))) (inner := []) (ok := fun _ => True) (okp := fun _ => True) ?hr ?hp (fun _ hk => hk) trivial (Below.refl _ _) (Nat.le_refl _) Z342 ?_;(case hd => rfl);(case hg => rfl);(case hr => exact Z239);(case hp => exact Z249)
      intro v137 w83 ho84 hb hg_ hnew_
      clear hg_ hnew_
      (first | rw [← Ny136.out] at ho84 | (simp only [Int.reduceToNat] at ho84;rw [← Ny136.out] at ho84))
      have n_ := jA (Kd.S_elder' Z321 (Kd.S_base ho84) hb) (jA (Kd.R_below Z195 hb) (jA (Kd.S_lower (Kd.S_new' (Kd.S_new' ho84 (Kd.S_lt Z321)) (Kd.R_lt Z195)) (below_size Z274)) (jA (blk_below (g := gb113) (o := .cells #[.int .i64 x114000_2,.int .i64 x114001_2,.int .i64 x114002_2] 28 (0,0)) Z336 hb) (jA (blk_below (g := gb123) (o := .cells #[.int .i64 2,.int .i64 (x4_1.length : Int),.int .i64 (x6_2.length : Int)] 28 (0,0)) Z339 hb) (Aside0.mk (below_step Z274 hb))))))
      clear HO_4 HO132 BK113 BK123 HB
      obtain ⟨HO_4,HO132,HO138,BK113,BK123,HB⟩ := n_
      clear hb ho84
      refine hK.out _ _ ⟨bc BK123 0,bc BK123 1,bc BK123 2⟩ (fun hHeld => ?_)
      clear hK K
      refine rN (h := ?_)
      refine sP 2 2 4 7 (h := ?_)
      refine one_ (i := 3) (N := none) #[true,true,true,true] rfl rfl Z253 Z355 (fun K hK => ?_)
      have hs85 : w83.cell? ⟨gb113,0,none⟩ = some (.int .i64 x114000_2) := bc BK113 0
      have hfs85 := blk_frozen BK113.out 0
      have hns85_1 := NB123_113.out
      have hms85_1 := NB113_123.out
      have hs86 : w83.cell? ⟨gb113,1,none⟩ = some (.int .i64 x114001_2) := bc BK113 1
      have hfs86 := blk_frozen BK113.out 1
      have hns86_1 := NB123_113.out
      have hms86_1 := NB113_123.out
      have hs87 : w83.cell? ⟨gb113,2,none⟩ = some (.int .i64 x114002_2) := bc BK113 2
      have hfs87 := blk_frozen BK113.out 2
      have hns87_1 := NB123_113.out
      have hms87_1 := NB113_123.out
      refine skip_ (w1 := ?_) Z255 rfl ?_ ?_
      rotate_left
      ·go_simp
       rfl
      refine hK.out _ _ ⟨((cell_far (p := ⟨gb113,_,none⟩) NB123_113.out _).trans (((cell_far (p := ⟨gb113,_,none⟩) NB123_113.out _).trans (((cell_far (p := ⟨gb113,_,none⟩) NB123_113.out _).trans (hHeld.1)))))),((cell_far (p := ⟨gb113,_,none⟩) NB123_113.out _).trans (((cell_far (p := ⟨gb113,_,none⟩) NB123_113.out _).trans (((cell_far (p := ⟨gb113,_,none⟩) NB123_113.out _).trans (hHeld.2.1)))))),((cell_far (p := ⟨gb113,_,none⟩) NB123_113.out _).trans (((cell_far (p := ⟨gb113,_,none⟩) NB123_113.out _).trans (((cell_far (p := ⟨gb113,_,none⟩) NB123_113.out _).trans (hHeld.2.2))))))⟩ (fun hHeld => ?_)
      clear hK K
      refine done_ Z253 ?_
      try go_wp2
      refine bodyPost_ret (results_tc rfl _ _ gb113 28 #[.int .i64 2,.int .i64 (x4_1.length : Int),.int .i64 (x6_2.length : Int)] (0,0) _ rfl Z68 Tryd.underlying28 rfl Z253) rfl ?_
      exact ⟨_,Z218,by (with_reducible repeat (first | apply Kd.S_alloc | apply Kd.S_drewN | apply Kd.S_drew));exact Kd.S_mono (Kd.S_far (p := ⟨gb113,2,none⟩) (Kd.S_far (p := ⟨gb113,1,none⟩) (Kd.S_far (p := ⟨gb113,0,none⟩) (Kd.S_types HO138.out BK113.out Z355) (fun _ hk => hk.2) (.int .i64 2)) (fun _ hk => hk.2) (.int .i64 (x4_1.length : Int))) (fun _ hk => hk.2) (.int .i64 (x6_2.length : Int))) (fun _ hk => trivial),Z274⟩
     rw [if_pos c50] at H
     have c50b0 : decide ((wrap64 (t125 + 1)) < (a0.size : Int)) = true := decide_eq_true c50
     clear c50
     obtain ⟨ji51,hji51⟩ : ∃ j_ : Int,(wrap64 (t125 + 1)) = j_ := ⟨_,rfl⟩
     replace H : (if 0 ≤ (ji51) then (if (bt a0 (ji51)) = 10 then (spec_ReadCsv.l1 k2 a0 x4_1 (wrap64 (t125 + 2)) y130 true) else (some ((([] : List (List ByteArray))),2,(x4_1.length : Int),(x6_2.length : Int)))) else (none)) = some (r1,r2,r3,r4) := by first | (rw [hji51] at H;exact H) | (simp only [hji51] at H ⊢;exact H)
     (try rw [hji51] at c50b0)
     (try rw [hji51] at A17)
     have hji51w : (IntKind.i64.wrap (t125 + 1)) = ji51 := (i64_w _).trans hji51
     obtain ⟨c52,H⟩ := ifp H
     have c52b0 : decide (0 ≤ (ji51)) = true := decide_eq_true c52
     clear c52
     by_cases c54 : (bt a0 (ji51)) = 10
     ·rw [if_pos c54] at H
      have c54b0 : ((bt a0 (ji51)) == 10) = true := beq_iff_eq.mpr c54
      have c54b1 : ((bt a0 (ji51)) != 10) = false := bne_eq_false_iff_eq.mpr c54
      clear c54
      have H' := Aside0.mk H
      clear H
      obtain ⟨Ao55,co55,eo55⟩ := Kd.S_slice HO_4.out
      subst eo55
      obtain ⟨Ao56,co56,eo56⟩ := Kd.R_slice HO_6.out
      subst eo56
      go_wp2_with (first | ((with_reducible refine gate_dst (N := 8) rfl ?_);(try (refine gate_guard Z255 ?_;dsimp only));refine bE 8 #[.int .i64 0,.int .i64 0,.int .i64 0] 28 (h := ?_);intro gb123 hg w57 hbox hb;have n_ := Z8;clear HO_4 HO_6 BK113 HB;obtain ⟨HO_4,HO_6,BK113,HB,BK123,GW123,GE123,NB113_123,NB123_113⟩ := n_;clear hb hbox hg;have hnb58 := NB123_113.out;have hnc58 := NB113_123.out;obtain ⟨hcz59_0,hcz59_1,hcz59_2,hfz59_0,hfz59_1,hfz59_2⟩ := cells3 BK123.out) | ((with_reducible refine gate_callee (f := 30) rfl ?_);refine goesL_ (some 33) rfl rfl Tryd.func30 Z253 rfl #[.string a0,.int .i64 x5_2] rfl Z173 ?_;(with_reducible refine (spec_l7Field.calls k2 a0 x5_2 t124 t125 true _ A17.out).mono ?_);rintro e w60 ⟨rfl,hb⟩;refine ⟨_,rfl,?_⟩;have n_ := Z6;clear HO_4 HO_6 BK113 BK123 HB;obtain ⟨HO_4,HO_6,BK113,BK123,HB⟩ := n_;(try clear hb);(try clear hb2);(try clear hk);(try clear hi)) | ((with_reducible refine gate_builtin (b := .append) (xs := #[.tmp 41,.tmp 43]) rfl ?_);(try (refine gate_guard Z255 ?_;dsimp only));at_builtin;refine Kd.R_append Kd.string (w0 := w) w.heap.size rfl (.tmp 41) (.tmp 43) 22 9 (.string ⟨#[]⟩) 16 rfl Tryd.underlying22 info9 rfl Z355 Z254 (.slice Ao56 x6_2.length co56) x6_2 t124 [.string t124] (fun _ => True) (fun _ => False) rfl rfl ?aP (fun _ hk => hk.elim) ?aF ?aO ?aB ?aS ?aL ?_;(case aP => exact rfl);(case aB => exact Z117);(case aF => exact Z244);(case aO => exact Z184);(case aS => exact Z115);(case aL => exact Z246);intro v131 w61 ho hb hg hat;rw [← Ny130.out] at ho;have n_ := Z41;clear HO_4 BK113 BK123 HB HO_6;obtain ⟨HO_4,BK113,BK123,HB,HO132⟩ := n_;clear ho hb hg hat;have p30 : 0 ≤ (t125 : Int) := of_decide_eq_true Z330;have q30 : t125 < (a0.size : Int) := of_decide_eq_true Z330;have hx30 := bt_at a0 t125;replace p30 := eq_true p30;replace q30 := eq_true q30;have p39 : 0 ≤ (t125 : Int) := of_decide_eq_true Z330;have q39 : t125 < (a0.size : Int) := of_decide_eq_true Z330;have hx39 := bt_at a0 t125;replace p39 := eq_true p39;replace q39 := eq_true q39;have p48 : 0 ≤ (t125 : Int) := of_decide_eq_true Z330;have q48 : t125 < (a0.size : Int) := of_decide_eq_true Z330;have hx48 := bt_at a0 t125;replace p48 := eq_true p48;replace q48 := eq_true q48;have p53 : 0 ≤ ((ji51) : Int) := of_decide_eq_true Z330;have q53 : (ji51) < (a0.size : Int) := of_decide_eq_true Z330;have hx53 := bt_at a0 (ji51);replace p53 := eq_true p53;replace q53 := eq_true q53))
      go_roundg k2
      case measure => have := HK1.out;have := HK2.out;omega
      case rel => exact ⟨(wrap64 (t125 + 2)),(y130),(true),(x114000_2),(x114001_2),(x114002_2),Z238,Z238,H',⟨Z240⟩,⟨Z176⟩,⟨Z195⟩,⟨Z336⟩,⟨Z274⟩⟩
     rw [if_neg c54] at H
     have c54b0 : ((bt a0 (ji51)) == 10) = false := beq_eq_false_iff_ne.mpr c54
     have c54b1 : ((bt a0 (ji51)) != 10) = true := bne_iff_ne.mpr c54
     obtain ⟨y133,hyy⟩ : ∃ y_ : List (List ByteArray),y_ = (([] : List (List ByteArray))) := ⟨_,rfl⟩
     replace H : (some (y133,2,(x4_1.length : Int),(x6_2.length : Int))) = some (r1,r2,r3,r4) := zR
     have Ny133 := Aside0.mk hyy
     clear hyy
     simp only [Option.some.injEq,Prod.mk.injEq] at H
     obtain ⟨rfl,rfl,rfl,rfl⟩ := H
     obtain ⟨Ao62,co62,eo62⟩ := Kd.S_slice HO_4.out
     subst eo62
     obtain ⟨Ao63,co63,eo63⟩ := Kd.R_slice HO_6.out
     subst eo63
     try go_wp2_with (first | ((with_reducible refine gate_dst (N := 8) rfl ?_);(try (refine gate_guard Z255 ?_;dsimp only));refine bE 8 #[.int .i64 0,.int .i64 0,.int .i64 0] 28 (h := ?_);intro gb123 hg w64 hbox hb;have n_ := Z8;clear HO_4 HO_6 BK113 HB;obtain ⟨HO_4,HO_6,BK113,HB,BK123,GW123,GE123,NB113_123,NB123_113⟩ := n_;clear hb hbox hg;have hnb65 := NB123_113.out;have hnc65 := NB113_123.out;obtain ⟨hcz66_0,hcz66_1,hcz66_2,hfz66_0,hfz66_1,hfz66_2⟩ := cells3 BK123.out) | ((with_reducible refine gate_callee (f := 30) rfl ?_);refine goesL_ (some 33) rfl rfl Tryd.func30 Z253 rfl #[.string a0,.int .i64 x5_2] rfl Z173 ?_;(with_reducible refine (spec_l7Field.calls k2 a0 x5_2 t124 t125 true _ A17.out).mono ?_);rintro e w67 ⟨rfl,hb⟩;refine ⟨_,rfl,?_⟩;have n_ := Z6;clear HO_4 HO_6 BK113 BK123 HB;obtain ⟨HO_4,HO_6,BK113,BK123,HB⟩ := n_;(try clear hb);(try clear hb2);(try clear hk);(try clear hi)) | ((with_reducible refine gate_builtin (b := .append) (xs := #[.tmp 41,.tmp 43]) rfl ?_);(try (refine gate_guard Z255 ?_;dsimp only));at_builtin;refine Kd.R_append Kd.string (w0 := w) w.heap.size rfl (.tmp 41) (.tmp 43) 22 9 (.string ⟨#[]⟩) 16 rfl Tryd.underlying22 info9 rfl Z355 Z254 (.slice Ao63 x6_2.length co63) x6_2 t124 [.string t124] (fun _ => True) (fun _ => False) rfl rfl ?aP (fun _ hk => hk.elim) ?aF ?aO ?aB ?aS ?aL ?_;(case aP => exact rfl);(case aB => exact Z117);(case aF => exact Z244);(case aO => exact Z184);(case aS => exact Z115);(case aL => exact Z246);intro v131 w68 ho hb hg hat;rw [← Ny130.out] at ho;have n_ := Z41;clear HO_4 BK113 BK123 HB HO_6;obtain ⟨HO_4,BK113,BK123,HB,HO132⟩ := n_;clear ho hb hg hat;have p30 : 0 ≤ (t125 : Int) := of_decide_eq_true Z330;have q30 : t125 < (a0.size : Int) := of_decide_eq_true Z330;have hx30 := bt_at a0 t125;replace p30 := eq_true p30;replace q30 := eq_true q30;have p39 : 0 ≤ (t125 : Int) := of_decide_eq_true Z330;have q39 : t125 < (a0.size : Int) := of_decide_eq_true Z330;have hx39 := bt_at a0 t125;replace p39 := eq_true p39;replace q39 := eq_true q39;have p48 : 0 ≤ (t125 : Int) := of_decide_eq_true Z330;have q48 : t125 < (a0.size : Int) := of_decide_eq_true Z330;have hx48 := bt_at a0 t125;replace p48 := eq_true p48;replace q48 := eq_true q48;have p53 : 0 ≤ ((ji51) : Int) := of_decide_eq_true Z330;have q53 : (ji51) < (a0.size : Int) := of_decide_eq_true Z330;have hx53 := bt_at a0 (ji51);replace p53 := eq_true p53;replace q53 := eq_true q53))
     have n_ := jA (Kd.S_drew HO_4.out) (jA (Kd.R_drew HO132.out) (jA (blk_drew BK113.out) (jA (blk_drew BK123.out) (Aside0.mk (below_drew1 HB.out)))))
     clear HO_4 HO132 BK113 BK123 HB
     obtain ⟨HO_4,HO132,BK113,BK123,HB⟩ := n_
     refine start_ (n := 4) (S := fun w' => w'.cell? ⟨gb123,0,none⟩ = some (.int .i64 2) ∧ w'.cell? ⟨gb123,1,none⟩ = some (.int .i64 (x4_1.length : Int)) ∧ w'.cell? ⟨gb123,2,none⟩ = some (.int .i64 (x6_2.length : Int))) (ds := []) (qM 4 0) Z253 rfl (by kernel_rfl) ⟨bc BK123 0,bc BK123 1,bc BK123 2⟩ (fun hHeld => ?_)
     generalize w68.drew = w69 at HO_4 HO132 BK113 BK123 HB hHeld ⊢
     refine sT3 1 47 4 2 hHeld (h := ?_)
     refine sO 0 46 4 3 (h := fun K hK => ?_)
     refine Kd.S_lit_step (Kd.slice 9 Kd.string) _ 22 ?hg (N := 46) ?hd (xs := ([] : List (List ByteArray))) (inner := []) (ok := fun _ => True) (okp := fun _ => True) ?hr ?hp (fun _ hk => hk) trivial (Below.refl _ _) (Nat.le_refl _) Z342 ?_;(case hd => rfl);(case hg => rfl);(case hr => exact Z239);(case hp => exact Z249)
     intro v134 w70 ho71 hb hg_ hnew_
     clear hg_ hnew_
     (first | rw [← Ny133.out] at ho71 | (simp only [Int.reduceToNat] at ho71;rw [← Ny133.out] at ho71))
     have n_ := jA (Kd.S_elder' Z321 (Kd.S_base ho71) hb) (jA (Kd.R_below Z195 hb) (jA (Kd.S_lower (Kd.S_new' (Kd.S_new' ho71 (Kd.S_lt Z321)) (Kd.R_lt Z195)) (below_size Z274)) (jA (blk_below (g := gb113) (o := .cells #[.int .i64 x114000_2,.int .i64 x114001_2,.int .i64 x114002_2] 28 (0,0)) Z336 hb) (jA (blk_below (g := gb123) (o := .cells #[.int .i64 2,.int .i64 (x4_1.length : Int),.int .i64 (x6_2.length : Int)] 28 (0,0)) Z339 hb) (Aside0.mk (below_step Z274 hb))))))
     clear HO_4 HO132 BK113 BK123 HB
     obtain ⟨HO_4,HO132,HO135,BK113,BK123,HB⟩ := n_
     clear hb ho71
     refine hK.out _ _ ⟨bc BK123 0,bc BK123 1,bc BK123 2⟩ (fun hHeld => ?_)
     clear hK K
     refine rN (h := ?_)
     refine sP 2 2 4 7 (h := ?_)
     refine one_ (i := 3) (N := none) #[true,true,true,true] rfl rfl Z253 Z355 (fun K hK => ?_)
     have hs72 : w70.cell? ⟨gb113,0,none⟩ = some (.int .i64 x114000_2) := bc BK113 0
     have hfs72 := blk_frozen BK113.out 0
     have hns72_1 := NB123_113.out
     have hms72_1 := NB113_123.out
     have hs73 : w70.cell? ⟨gb113,1,none⟩ = some (.int .i64 x114001_2) := bc BK113 1
     have hfs73 := blk_frozen BK113.out 1
     have hns73_1 := NB123_113.out
     have hms73_1 := NB113_123.out
     have hs74 : w70.cell? ⟨gb113,2,none⟩ = some (.int .i64 x114002_2) := bc BK113 2
     have hfs74 := blk_frozen BK113.out 2
     have hns74_1 := NB123_113.out
     have hms74_1 := NB113_123.out
     refine skip_ (w1 := ?_) Z255 rfl ?_ ?_
     rotate_left
     ·go_simp
      rfl
     refine hK.out _ _ ⟨((cell_far (p := ⟨gb113,_,none⟩) NB123_113.out _).trans (((cell_far (p := ⟨gb113,_,none⟩) NB123_113.out _).trans (((cell_far (p := ⟨gb113,_,none⟩) NB123_113.out _).trans (hHeld.1)))))),((cell_far (p := ⟨gb113,_,none⟩) NB123_113.out _).trans (((cell_far (p := ⟨gb113,_,none⟩) NB123_113.out _).trans (((cell_far (p := ⟨gb113,_,none⟩) NB123_113.out _).trans (hHeld.2.1)))))),((cell_far (p := ⟨gb113,_,none⟩) NB123_113.out _).trans (((cell_far (p := ⟨gb113,_,none⟩) NB123_113.out _).trans (((cell_far (p := ⟨gb113,_,none⟩) NB123_113.out _).trans (hHeld.2.2))))))⟩ (fun hHeld => ?_)
     clear hK K
     refine done_ Z253 ?_
     try go_wp2
     refine bodyPost_ret (results_tc rfl _ _ gb113 28 #[.int .i64 2,.int .i64 (x4_1.length : Int),.int .i64 (x6_2.length : Int)] (0,0) _ rfl Z68 Tryd.underlying28 rfl Z253) rfl ?_
     exact ⟨_,by first | rfl | (simp [errW_none,errW_some] <;> rfl) | (simp only [← hji51];first | rfl | (simp [errW_none,errW_some] <;> rfl)) | (simp [*,errW_none,errW_some] <;> rfl),by (with_reducible repeat (first | apply Kd.S_alloc | apply Kd.S_drewN | apply Kd.S_drew));exact Kd.S_mono (Kd.S_far (p := ⟨gb113,2,none⟩) (Kd.S_far (p := ⟨gb113,1,none⟩) (Kd.S_far (p := ⟨gb113,0,none⟩) (Kd.S_types HO135.out BK113.out Z355) (fun _ hk => hk.2) (.int .i64 2)) (fun _ hk => hk.2) (.int .i64 (x4_1.length : Int))) (fun _ hk => hk.2) (.int .i64 (x6_2.length : Int))) (fun _ hk => trivial),Z274⟩

/-! ### spec_l1In: function 12 -/
def spec_l1In.f (a0 : Int) (a1 : Int) (a2 : Int) : Option (Bool) := if a0 ≥ a1 then (some (decide (a0 ≤ a2))) else (some false)
set_option maxHeartbeats 8000000 in
set_option maxRecDepth 100000 in
theorem spec_l1In.calls (a0 : Int) (a1 : Int) (a2 : Int) (r : Bool) (w : World) (h : spec_l1In.f a0 a1 a2 = some r) :
  Calls Tryd.prog 12 #[.int .i64 a0,.int .i64 a1,.int .i64 a2] w fun e w' => e = .returned (.bool r) ∧ Drawn0 w w' := by
 have H := h
 clear h
 unfold spec_l1In.f at H
 by_cases c4 : a0 ≥ a1
 ·rw [if_pos c4] at H
  have c4b0 : decide (a1 ≤ a0) = true := decide_eq_true c4
  clear c4
  obtain rfl := Option.some.inj H
  go_enter Tryd.func12,Tryd.ntmps12
  go_wp2
  go_ret
  exact ⟨Z238,Z231⟩
 rw [if_neg c4] at H
 have c4b0 : decide (a1 ≤ a0) = false := decide_eq_false c4
 clear c4
 obtain rfl := Option.some.inj H
 go_enter Tryd.func12,Tryd.ntmps12
 go_wp2
 go_ret
 exact ⟨Z238,Z231⟩

end Go.Proofs.YtepnbcdbagjmbaaDoor.QFnExactReadTable
