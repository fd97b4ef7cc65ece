/- The machine side of FnExactMayPart: what each Go function that it reaches comes to. Conditions: none. -/
import Derived.Test.YtaepeajaefpooaaQFnExactMayPartx0
import Derived.Test.YtaepeajaefpooaaQFnExactMayPartx3
namespace Go.Proofs.Ytaepeajaefpooaa.QFnExactMayPart
open Go.RowKit Go.Proofs.YtaepeajaefpooaaW.PrintWords Go.Proofs.YtaepeajaefpooaaW.PrintLast Go.Proofs.YtaepeajaefpooaaW.PrintMore
attribute [local go_sem] max2_int min2_int max_two min_two max_three min_three max_four min_four   -- for this text's walks alone
set_option linter.unusedVariables false
set_option linter.unusedSimpArgs false

/-! ### spec_l5Cross: function 117 -/
def spec_l5Cross.j0 : Nat → Bool → Bool → Int → Int → Int → Bool → Int → Int → Int → Option (Bool × Int × Int × Bool × Int × Int × Bool)
 | 0,_,_,_,_,_,_,_,_,_ => none
 | k + 1,x18,x205000,x205001,x205002,x205003,x206000,x206001,x206002,x206003 => if x18 = true then (some (false,0,0,false,0,0,false)) else ((spec_ScaleWide.f x205000 x205001 x205002 x206003).bind fun bt210 => ((spec_ScaleWide.f x206000 x206001 x206002 x205003).bind fun bt215 => (if bt210.2.2.2 = true then (some (bt210.1,bt210.2.1,bt210.2.2.1,bt215.1,bt215.2.1,bt215.2.2.1,bt215.2.2.2)) else (some (bt210.1,bt210.2.1,bt210.2.2.1,bt215.1,bt215.2.1,bt215.2.2.1,false)))))
def spec_l5Cross.f (k : Nat) (a0_0 : Bool) (a0_1 : Int) (a0_2 : Int) (a0_3 : Int) (a1_0 : Bool) (a1_1 : Int) (a1_2 : Int) (a1_3 : Int) : Option (Bool × Int × Int × Bool × Int × Int × Bool) := (spec_FracOk.f a0_0 a0_1 a0_2 a0_3).bind fun t208 => (if t208 = true then ((spec_FracOk.f a1_0 a1_1 a1_2 a1_3).bind fun t209 => (spec_l5Cross.j0 k (!t209) a0_0 a0_1 a0_2 a0_3 a1_0 a1_1 a1_2 a1_3)) else (spec_l5Cross.j0 k true a0_0 a0_1 a0_2 a0_3 a1_0 a1_1 a1_2 a1_3))
theorem spec_l5Cross.mono_l : ∀ k,(∀ y0 y1 y2 y3 y4 y5 y6 y7 y8,LeO (spec_l5Cross.j0 k y0 y1 y2 y3 y4 y5 y6 y7 y8) (spec_l5Cross.j0 (k + 1) y0 y1 y2 y3 y4 y5 y6 y7 y8))
 | 0 => fun _ _ _ _ _ _ _ _ _ r h => by simp [spec_l5Cross.j0] at h
 | k + 1 => by
  have ih0 := spec_l5Cross.mono_l k
  ·intro y0 y1 y2 y3 y4 y5 y6 y7 y8
   unfold spec_l5Cross.j0
   repeat' first
   | (with_reducible exact ih0 _ _ _ _ _ _ _ _ _)
   | (with_reducible exact LeO.refl _)
   | (with_reducible exact LeO.none _)
   | (with_reducible refine LeO.ite ?_ ?_)
   | (with_reducible refine LeO.bind ?_ (fun _ => ?_))
   | exact ih0 _ _ _ _ _ _ _ _ _
   | exact LeO.none _
   | refine LeO.ite ?_ ?_
   | refine LeO.bind ?_ (fun _ => ?_)
theorem spec_l5Cross.mono : ∀ a0 a1 a2 a3 a4 a5 a6 a7 k,LeO (spec_l5Cross.f k a0 a1 a2 a3 a4 a5 a6 a7) (spec_l5Cross.f (k + 1) a0 a1 a2 a3 a4 a5 a6 a7) := by
 intro a0 a1 a2 a3 a4 a5 a6 a7 k
 have ih0 := spec_l5Cross.mono_l k
 unfold spec_l5Cross.f
 repeat' first
   | (with_reducible exact ih0 _ _ _ _ _ _ _ _ _)
   | (with_reducible exact LeO.refl _)
   | (with_reducible exact LeO.none _)
   | (with_reducible refine LeO.ite ?_ ?_)
   | (with_reducible refine LeO.bind ?_ (fun _ => ?_))
   | exact ih0 _ _ _ _ _ _ _ _ _
   | exact LeO.none _
   | refine LeO.ite ?_ ?_
   | refine LeO.bind ?_ (fun _ => ?_)
def spec_l5Cross.T5 : Bool × List (List Nat × List Nat) := (true,[([],[]),([],[]),([],[]),([2],[2]),([3],[3]),([3,4],[3,4]),([0,3,0],[0]),([1,6,0,1,6],[1]),([5,7,0,1,2,3,4,5,6,7],[5])])
def spec_l5Cross.B5 : List Nat := [0,0,0,4,12,28,13,79,255]
theorem spec_l5Cross.tab5 : rtab .any (opsOf Try.f117 5) = spec_l5Cross.T5 := by kernel_rfl
theorem spec_l5Cross.bits5 : waitsOk spec_l5Cross.T5.2 spec_l5Cross.B5 = true := by kernel_rfl
set_option maxHeartbeats 8000000 in
set_option maxRecDepth 100000 in
theorem spec_l5Cross.calls (k : Nat) (a0_0 : Bool) (a0_1 : Int) (a0_2 : Int) (a0_3 : Int) (a1_0 : Bool) (a1_1 : Int) (a1_2 : Int) (a1_3 : Int) (r1 : Bool) (r2 : Int) (r3 : Int) (r4 : Bool) (r5 : Int) (r6 : Int) (r7 : Bool) (w : World) (h : spec_l5Cross.f k a0_0 a0_1 a0_2 a0_3 a1_0 a1_1 a1_2 a1_3 = some (r1,r2,r3,r4,r5,r6,r7)) :
  Calls Try.prog 117 #[.agg #[.bool a0_0,.int .u64 a0_1,.int .u64 a0_2,.int .i64 a0_3],.agg #[.bool a1_0,.int .u64 a1_1,.int .u64 a1_2,.int .i64 a1_3]] w fun e w' => e = .returned (.tuple #[.agg #[.bool r1,.int .u64 r2,.int .u64 r3],.agg #[.bool r4,.int .u64 r5,.int .u64 r6],.bool r7]) ∧ Below w.heap.size w w' := by
 have hu102 := Try.underlying102
 have hu100 := Try.underlying100
 have HB := Aside0.mk (Below.refl w.heap.size w)
 have H := h
 clear h
 unfold spec_l5Cross.f at H
 have HC3 := Aside0.mk H
 clear H
 go_enter Try.func117,Try.ntmps117
 go_upto_region 1 with (first | ((with_reducible refine gate_dst (N := 2) rfl ?_);refine bE 2 #[.bool a0_0,.int .u64 a0_1,.int .u64 a0_2,.int .i64 a0_3] 102 (h := ?_);intro gb204 hg w4 hbox hb;have n_ := jA (below_step Z614 hb) (jA (hbox) (jA ((Z456 : w.heap.size ≤ gb204)) (Aside0.mk ((Z456 : w.heap.size ≤ gb204)))));clear HB;obtain ⟨HB,BK204,GW204,GE204⟩ := n_;clear hb hbox hg) | ((with_reducible refine gate_dst (N := 3) rfl ?_);refine bE 3 #[.bool a1_0,.int .u64 a1_1,.int .u64 a1_2,.int .i64 a1_3] 102 (h := ?_);intro gb205 hg w5 hbox hb;have n_ := jA (blk_below (g := gb204) (o := .cells #[.bool a0_0,.int .u64 a0_1,.int .u64 a0_2,.int .i64 a0_3] 102 (0,0)) Z619 hb) (jA (below_step Z474 hb) (jA (hbox) (jA ((Z217 : w.heap.size ≤ gb205)) (jA ((Z217 : w.heap.size ≤ gb205)) (jA ((Z433 : gb204 ≠ gb205)) (Aside0.mk ((Z437 : gb205 ≠ gb204))))))));clear BK204 HB;obtain ⟨BK204,HB,BK205,GW205,GE205,NB204_205,NB205_204⟩ := n_;clear hb hbox hg) | ((with_reducible refine gate_dst (N := 4) rfl ?_);refine bE 4 #[.bool false,.int .u64 0,.int .u64 0] 100 (h := ?_);intro gb206 hg w6 hbox hb;have n_ := jA (blk_below (g := gb204) (o := .cells #[.bool a0_0,.int .u64 a0_1,.int .u64 a0_2,.int .i64 a0_3] 102 (0,0)) Z619 hb) (jA (blk_below (g := gb205) (o := .cells #[.bool a1_0,.int .u64 a1_1,.int .u64 a1_2,.int .i64 a1_3] 102 (0,0)) Z623 hb) (jA (below_step Z402 hb) (jA (hbox) (jA ((Z189 : w.heap.size ≤ gb206)) (jA ((Z189 : w.heap.size ≤ gb206)) (jA ((Z433 : gb204 ≠ gb206)) (jA ((Z437 : gb206 ≠ gb204)) (jA ((Z441 : gb205 ≠ gb206)) (Aside0.mk ((Z445 : gb206 ≠ gb205)))))))))));clear BK204 BK205 HB;obtain ⟨BK204,BK205,HB,BK206,GW206,GE206,NB204_206,NB206_204,NB205_206,NB206_205⟩ := n_;clear hb hbox hg) | ((with_reducible refine gate_dst (N := 5) rfl ?_);refine bE 5 #[.bool false,.int .u64 0,.int .u64 0] 100 (h := ?_);intro gb207 hg w7 hbox hb;have n_ := jA (blk_below (g := gb204) (o := .cells #[.bool a0_0,.int .u64 a0_1,.int .u64 a0_2,.int .i64 a0_3] 102 (0,0)) Z619 hb) (jA (blk_below (g := gb205) (o := .cells #[.bool a1_0,.int .u64 a1_1,.int .u64 a1_2,.int .i64 a1_3] 102 (0,0)) Z623 hb) (jA (blk_below (g := gb206) (o := .cells #[.bool false,.int .u64 0,.int .u64 0] 100 (0,0)) Z629 hb) (jA (below_step Z364 hb) (jA (hbox) (jA ((Z174 : w.heap.size ≤ gb207)) (jA ((Z174 : w.heap.size ≤ gb207)) (jA ((Z433 : gb204 ≠ gb207)) (jA ((Z437 : gb207 ≠ gb204)) (jA ((Z441 : gb205 ≠ gb207)) (jA ((Z445 : gb207 ≠ gb205)) (jA ((Z502 : gb206 ≠ gb207)) (Aside0.mk ((Z505 : gb207 ≠ gb206))))))))))))));clear BK204 BK205 BK206 HB;obtain ⟨BK204,BK205,BK206,HB,BK207,GW207,GE207,NB204_207,NB207_204,NB205_207,NB207_205,NB206_207,NB207_206⟩ := n_;clear hb hbox hg))
 (try simp only [Act.put,List.setIfInBounds_toArray,List.set_cons_zero,List.set_cons_succ])
 go_cut [18] (fun v18 wc => ∃ (kq : Nat) (x18_2 : Bool),v18 = .bool x18_2 ∧ Aside0 (spec_l5Cross.j0 kq x18_2 a0_0 a0_1 a0_2 a0_3 a1_0 a1_1 a1_2 a1_3 = some (r1,r2,r3,r4,r5,r6,r7)) ∧ Aside0 (kq ≤ k) ∧ Aside0 (wc.heap[gb204]? = some (.cells #[.bool a0_0,.int .u64 a0_1,.int .u64 a0_2,.int .i64 a0_3] 102 (0,0))) ∧ Aside0 (wc.heap[gb205]? = some (.cells #[.bool a1_0,.int .u64 a1_1,.int .u64 a1_2,.int .i64 a1_3] 102 (0,0))) ∧ Aside0 (wc.heap[gb206]? = some (.cells #[.bool false,.int .u64 0,.int .u64 0] 100 (0,0))) ∧ Aside0 (wc.heap[gb207]? = some (.cells #[.bool false,.int .u64 0,.int .u64 0] 100 (0,0))) ∧ Aside0 (Below w.heap.size w wc))
 case first =>
  have H := HC3.out
  clear HC3
  obtain ⟨t208,A80,H⟩ := Option.bind_eq_some_iff.mp H
  have A8 := Aside0.mk A80
  clear A80
  by_cases c9 : t208 = true
  ·subst c9
   rw [if_pos rfl] at H
   obtain ⟨t209,A100,H⟩ := Option.bind_eq_some_iff.mp H
   have A10 := Aside0.mk A100
   clear A100
   have H' := Aside0.mk H
   clear H
   have hnb11 := NB204_205.out
   have hnc11 := NB205_204.out
   have hnb12 := NB204_206.out
   have hnc12 := NB206_204.out
   have hnb13 := NB204_207.out
   have hnc13 := NB207_204.out
   obtain ⟨hcz14_0,hcz14_1,hcz14_2,hcz14_3,hfz14_0,hfz14_1,hfz14_2,hfz14_3⟩ := cells4 BK204.out
   go_wp2_with (first | ((with_reducible refine gate_callee (f := 141) rfl ?_);refine goesL_ (some 12) rfl rfl Try.func141 Z312 rfl #[.agg #[.bool a0_0,.int .u64 a0_1,.int .u64 a0_2,.int .i64 a0_3]] rfl Z256 ?_;(with_reducible refine (spec_FracOk.calls a0_0 a0_1 a0_2 a0_3 true _ A8.out).mono ?_);rintro e w15 ⟨rfl,hb⟩;refine ⟨_,rfl,?_⟩;have n_ := Z84;clear BK204 BK205 BK206 BK207 HB;obtain ⟨BK204,BK205,BK206,BK207,HB⟩ := n_;(try clear hb);(try clear hb2);(try clear hk);(try clear hi);have hnb16 := NB205_206.out;have hnc16 := NB206_205.out;have hnb17 := NB205_207.out;have hnc17 := NB207_205.out;obtain ⟨hcz18_0,hcz18_1,hcz18_2,hcz18_3,hfz18_0,hfz18_1,hfz18_2,hfz18_3⟩ := cells4 BK205.out) | (go_at_call 141;(with_reducible refine (spec_FracOk.calls a1_0 a1_1 a1_2 a1_3 t209 _ A10.out).mono ?_);rintro e w19 ⟨rfl,hb⟩;have n_ := Z84;clear BK204 BK205 BK206 BK207 HB;obtain ⟨BK204,BK205,BK206,BK207,HB⟩ := n_;(try clear hb);(try clear hb2);(try clear hk);(try clear hi)))
   go_meet
   case rel => exact ⟨_,(!t209),Z289,H',⟨Z291⟩,⟨Z619⟩,⟨Z623⟩,⟨Z629⟩,⟨Z634⟩,⟨Z561⟩⟩
  ·replace c9 := Bool.eq_false_iff.mpr c9
   subst c9
   rw [if_neg Bool.false_ne_true] at H
   have H' := Aside0.mk H
   clear H
   have hnb20 := NB204_205.out
   have hnc20 := NB205_204.out
   have hnb21 := NB204_206.out
   have hnc21 := NB206_204.out
   have hnb22 := NB204_207.out
   have hnc22 := NB207_204.out
   obtain ⟨hcz23_0,hcz23_1,hcz23_2,hcz23_3,hfz23_0,hfz23_1,hfz23_2,hfz23_3⟩ := cells4 BK204.out
   go_wp2_with (first | ((with_reducible refine gate_callee (f := 141) rfl ?_);refine goesL_ (some 12) rfl rfl Try.func141 Z312 rfl #[.agg #[.bool a0_0,.int .u64 a0_1,.int .u64 a0_2,.int .i64 a0_3]] rfl Z256 ?_;(with_reducible refine (spec_FracOk.calls a0_0 a0_1 a0_2 a0_3 false _ A8.out).mono ?_);rintro e w24 ⟨rfl,hb⟩;refine ⟨_,rfl,?_⟩;have n_ := Z84;clear BK204 BK205 BK206 BK207 HB;obtain ⟨BK204,BK205,BK206,BK207,HB⟩ := n_;(try clear hb);(try clear hb2);(try clear hk);(try clear hi)))
   go_meet
   case rel => exact ⟨_,(true),Z289,H',⟨Z291⟩,⟨Z619⟩,⟨Z623⟩,⟨Z629⟩,⟨Z634⟩,⟨Z561⟩⟩
 case rest =>
  clear HC3
  try clear c1
  try clear c2
  try clear p2
  try clear c9
  try clear c11
  try clear c12
  try clear c13
  try clear c14
  try clear c16
  try clear c17
  try clear c20
  try clear c21
  try clear c22
  try clear hcz14_0
  try clear hcz14_1
  try clear hcz14_2
  try clear hcz14_3
  try clear hcz18_0
  try clear hcz18_1
  try clear hcz18_2
  try clear hcz18_3
  try clear hcz23_0
  try clear hcz23_1
  try clear hcz23_2
  try clear hcz23_3
  try clear hfz14_0
  try clear hfz14_1
  try clear hfz14_2
  try clear hfz14_3
  try clear hfz18_0
  try clear hfz18_1
  try clear hfz18_2
  try clear hfz18_3
  try clear hfz23_0
  try clear hfz23_1
  try clear hfz23_2
  try clear hfz23_3
  obtain ⟨kq,x18_2,rfl,HA,HJ2,BK204,BK205,BK206,BK207,HB⟩ := hcut
  cases kq with
  | zero => exact absurd HA.out (by simp [spec_l5Cross.j0])
  | succ kj2 =>
   have H := HA.out
   clear HA
   simp only [spec_l5Cross.j0] at H
   by_cases c25 : x18_2 = true
   ·subst c25
    rw [if_pos rfl] at H
    simp only [Option.some.injEq,Prod.mk.injEq] at H
    obtain ⟨rfl,rfl,rfl,rfl,rfl,rfl,rfl⟩ := H
    have hnb26 := NB206_204.out
    have hnc26 := NB204_206.out
    have hnb27 := NB206_205.out
    have hnc27 := NB205_206.out
    have hnb28 := NB206_207.out
    have hnc28 := NB207_206.out
    obtain ⟨hcz29_0,hcz29_1,hcz29_2,hfz29_0,hfz29_1,hfz29_2⟩ := cells3 BK206.out
    have hnb30 := NB207_204.out
    have hnc30 := NB204_207.out
    have hnb31 := NB207_205.out
    have hnc31 := NB205_207.out
    obtain ⟨hcz32_0,hcz32_1,hcz32_2,hfz32_0,hfz32_1,hfz32_2⟩ := cells3 BK207.out
    go_wp2
    refine bodyPost_ret (results_list (rs := [.cell 4 100,.cell 5 100,.tmp 6]) rfl Z553 (.cell gb206 100 #[.bool false,.int .u64 0,.int .u64 0] (0,0) _ rfl (by refine bP ?_;refine blk_far ?_ NB206_207.out _;refine bP ?_;refine blk_far ?_ NB206_207.out _;refine bP ?_;refine blk_far ?_ NB206_207.out _;refine bP ?_;refine blk_put (cs := #[.bool false,.int .u64 0,.int .u64 0]) ?_ 2 _ rfl;refine bP ?_;refine blk_put (cs := #[.bool false,.int .u64 0,.int .u64 0]) ?_ 1 _ rfl;refine bP ?_;refine blk_put (cs := #[.bool false,.int .u64 0,.int .u64 0]) ?_ 0 _ rfl;refine bP ?_;exact BK206.out) Try.underlying100 rfl Z312 (.cell gb207 100 #[.bool false,.int .u64 0,.int .u64 0] (0,0) _ rfl (by refine bP ?_;refine blk_put (cs := #[.bool false,.int .u64 0,.int .u64 0]) ?_ 2 _ rfl;refine bP ?_;refine blk_put (cs := #[.bool false,.int .u64 0,.int .u64 0]) ?_ 1 _ rfl;refine bP ?_;refine blk_put (cs := #[.bool false,.int .u64 0,.int .u64 0]) ?_ 0 _ rfl;refine bP ?_;refine blk_far ?_ NB207_206.out _;refine bP ?_;refine blk_far ?_ NB207_206.out _;refine bP ?_;refine blk_far ?_ NB207_206.out _;refine bP ?_;exact BK207.out) Try.underlying100 rfl Z312 (.tmp .nil)))) rfl ?_
    exact ⟨Z263,Z561⟩
   ·replace c25 := Bool.eq_false_iff.mpr c25
    subst c25
    rw [if_neg Bool.false_ne_true] at H
    obtain ⟨⟨t210,t211,t212,t213⟩,A330,H⟩ := Option.bind_eq_some_iff.mp H
    try dsimp only at H
    have A33 := Aside0.mk A330
    clear A330
    obtain ⟨⟨t215,t216,t217,t218⟩,A340,H⟩ := Option.bind_eq_some_iff.mp H
    try dsimp only at H
    have A34 := Aside0.mk A340
    clear A340
    by_cases c35 : t213 = true
    ·subst c35
     rw [if_pos rfl] at H
     simp only [Option.some.injEq,Prod.mk.injEq] at H
     obtain ⟨rfl,rfl,rfl,rfl,rfl,rfl,rfl⟩ := H
     have hnb36 := NB204_205.out
     have hnc36 := NB205_204.out
     have hnb37 := NB204_206.out
     have hnc37 := NB206_204.out
     have hnb38 := NB204_207.out
     have hnc38 := NB207_204.out
     obtain ⟨hcz39_0,hcz39_1,hcz39_2,hcz39_3,hfz39_0,hfz39_1,hfz39_2,hfz39_3⟩ := cells4 BK204.out
     have hnb40 := NB205_206.out
     have hnc40 := NB206_205.out
     have hnb41 := NB205_207.out
     have hnc41 := NB207_205.out
     obtain ⟨hcz42_0,hcz42_1,hcz42_2,hcz42_3,hfz42_0,hfz42_1,hfz42_2,hfz42_3⟩ := cells4 BK205.out
     try go_wp2_with (first | ((with_reducible refine gate_callee (f := 143) rfl ?_);refine goesL_ (some 26) rfl rfl Try.func143 Z312 rfl #[.agg #[.bool a0_0,.int .u64 a0_1,.int .u64 a0_2],.int .i64 a1_3] rfl Z256 ?_;(with_reducible refine (spec_ScaleWide.calls a0_0 a0_1 a0_2 a1_3 t210 t211 t212 true _ A33.out).mono ?_);rintro e w43 ⟨rfl,hb⟩;refine ⟨_,rfl,?_⟩;have n_ := Z84;clear BK204 BK205 BK206 BK207 HB;obtain ⟨BK204,BK205,BK206,BK207,HB⟩ := n_;(try clear hb);(try clear hb2);(try clear hk);(try clear hi)) | ((with_reducible refine gate_dst (N := 7) rfl ?_);refine bE 7 #[.bool false,.int .u64 0,.int .u64 0] 100 (h := ?_);intro gb214 hg w44 hbox hb;have n_ := Z10;clear BK204 BK205 BK206 BK207 HB;obtain ⟨BK204,BK205,BK206,BK207,HB,BK214,GW214,GE214,NB204_214,NB214_204,NB205_214,NB214_205,NB206_214,NB214_206,NB207_214,NB214_207⟩ := n_;clear hb hbox hg;have hnb45 := NB214_204.out;have hnc45 := NB204_214.out;have hnb46 := NB214_205.out;have hnc46 := NB205_214.out;have hnb47 := NB214_206.out;have hnc47 := NB206_214.out;have hnb48 := NB214_207.out;have hnc48 := NB207_214.out;obtain ⟨hcz49_0,hcz49_1,hcz49_2,hfz49_0,hfz49_1,hfz49_2⟩ := cells3 BK214.out;obtain ⟨hcz50_0,hcz50_1,hcz50_2,hcz50_3,hfz50_0,hfz50_1,hfz50_2,hfz50_3⟩ := cells4 BK205.out;obtain ⟨hcz51_0,hcz51_1,hcz51_2,hcz51_3,hfz51_0,hfz51_1,hfz51_2,hfz51_3⟩ := cells4 BK204.out) | ((with_reducible refine gate_callee (f := 143) rfl ?_);refine goesL_ (some 34) rfl rfl Try.func143 Z312 rfl #[.agg #[.bool a1_0,.int .u64 a1_1,.int .u64 a1_2],.int .i64 a0_3] rfl Z256 ?_;(with_reducible refine (spec_ScaleWide.calls a1_0 a1_1 a1_2 a0_3 t215 t216 t217 t218 _ A34.out).mono ?_);rintro e w52 ⟨rfl,hb⟩;refine ⟨_,rfl,?_⟩;have n_ := Z43;clear BK204 BK205 BK206 BK207 BK214 HB;obtain ⟨BK204,BK205,BK206,BK207,BK214,HB⟩ := n_;(try clear hb);(try clear hb2);(try clear hk);(try clear hi)) | ((with_reducible refine gate_dst (N := 9) rfl ?_);refine bE 9 #[.bool false,.int .u64 0,.int .u64 0] 100 (h := ?_);intro gb219 hg w53 hbox hb;have n_ := Z6;clear BK204 BK205 BK206 BK207 BK214 HB;obtain ⟨BK204,BK205,BK206,BK207,BK214,HB,BK219,GW219,GE219,NB204_219,NB219_204,NB205_219,NB219_205,NB206_219,NB219_206,NB207_219,NB219_207,NB214_219,NB219_214⟩ := n_;clear hb hbox hg;have hnb54 := NB219_204.out;have hnc54 := NB204_219.out;have hnb55 := NB219_205.out;have hnc55 := NB205_219.out;have hnb56 := NB219_206.out;have hnc56 := NB206_219.out;have hnb57 := NB219_207.out;have hnc57 := NB207_219.out;have hnb58 := NB219_214.out;have hnc58 := NB214_219.out;obtain ⟨hcz59_0,hcz59_1,hcz59_2,hfz59_0,hfz59_1,hfz59_2⟩ := cells3 BK219.out))
     have n0_ : Aside0 ((((w53.setCell ⟨gb219,0,none⟩ (.bool t215)).setCell ⟨gb219,1,none⟩ (.int .u64 t216)).setCell ⟨gb219,2,none⟩ (.int .u64 t217)).heap[gb204]? = some (.cells #[.bool a0_0,.int .u64 a0_1,.int .u64 a0_2,.int .i64 a0_3] 102 (0,0))) := ⟨Z239⟩
     have n1_ : Aside0 ((((w53.setCell ⟨gb219,0,none⟩ (.bool t215)).setCell ⟨gb219,1,none⟩ (.int .u64 t216)).setCell ⟨gb219,2,none⟩ (.int .u64 t217)).heap[gb205]? = some (.cells #[.bool a1_0,.int .u64 a1_1,.int .u64 a1_2,.int .i64 a1_3] 102 (0,0))) := ⟨Z238⟩
     have n2_ : Aside0 ((((w53.setCell ⟨gb219,0,none⟩ (.bool t215)).setCell ⟨gb219,1,none⟩ (.int .u64 t216)).setCell ⟨gb219,2,none⟩ (.int .u64 t217)).heap[gb206]? = some (.cells #[.bool false,.int .u64 0,.int .u64 0] 100 (0,0))) := ⟨Z237⟩
     have n3_ : Aside0 ((((w53.setCell ⟨gb219,0,none⟩ (.bool t215)).setCell ⟨gb219,1,none⟩ (.int .u64 t216)).setCell ⟨gb219,2,none⟩ (.int .u64 t217)).heap[gb207]? = some (.cells #[.bool false,.int .u64 0,.int .u64 0] 100 (0,0))) := ⟨Z236⟩
     have n4_ : Aside0 ((((w53.setCell ⟨gb219,0,none⟩ (.bool t215)).setCell ⟨gb219,1,none⟩ (.int .u64 t216)).setCell ⟨gb219,2,none⟩ (.int .u64 t217)).heap[gb214]? = some (.cells #[.bool t210,.int .u64 t211,.int .u64 t212] 100 (0,0))) := ⟨Z235⟩
     have n5_ : Aside0 ((((w53.setCell ⟨gb219,0,none⟩ (.bool t215)).setCell ⟨gb219,1,none⟩ (.int .u64 t216)).setCell ⟨gb219,2,none⟩ (.int .u64 t217)).heap[gb219]? = some (.cells #[.bool t215,.int .u64 t216,.int .u64 t217] 100 (0,0))) := ⟨Z162⟩
     have n6_ : Aside0 (Below w.heap.size w (((w53.setCell ⟨gb219,0,none⟩ (.bool t215)).setCell ⟨gb219,1,none⟩ (.int .u64 t216)).setCell ⟨gb219,2,none⟩ (.int .u64 t217))) := ⟨Z156⟩
     (try clear BK204)
     (try clear BK205)
     (try clear BK206)
     (try clear BK207)
     (try clear BK214)
     (try clear BK219)
     (try clear HB)
     generalize (((w53.setCell ⟨gb219,0,none⟩ (.bool t215)).setCell ⟨gb219,1,none⟩ (.int .u64 t216)).setCell ⟨gb219,2,none⟩ (.int .u64 t217)) = w60 at n0_ n1_ n2_ n3_ n4_ n5_ n6_ ⊢
     have BK204 := n0_
     have BK205 := n1_
     have BK206 := n2_
     have BK207 := n3_
     have BK214 := n4_
     have BK219 := n5_
     have HB := n6_
     clear n0_ n1_ n2_ n3_ n4_ n5_ n6_
     have n0_ := Aside0.mk (blk_drew BK204.out)
     have n1_ := Aside0.mk (blk_drew BK205.out)
     have n2_ := Aside0.mk (blk_drew BK206.out)
     have n3_ := Aside0.mk (blk_drew BK207.out)
     have n4_ := Aside0.mk (blk_drew BK214.out)
     have n5_ := Aside0.mk (blk_drew BK219.out)
     have n6_ := Aside0.mk (below_drew1 HB.out)
     clear BK204
     clear BK205
     clear BK206
     clear BK207
     clear BK214
     clear BK219
     clear HB
     have BK204 := n0_
     have BK205 := n1_
     have BK206 := n2_
     have BK207 := n3_
     have BK214 := n4_
     have BK219 := n5_
     have HB := n6_
     clear n0_ n1_ n2_ n3_ n4_ n5_ n6_
     refine start_ (n := 9) (S := fun w' => w'.cell? ⟨gb214,0,none⟩ = some (.bool t210) ∧ w'.cell? ⟨gb214,1,none⟩ = some (.int .u64 t211) ∧ w'.cell? ⟨gb214,2,none⟩ = some (.int .u64 t212) ∧ w'.cell? ⟨gb219,0,none⟩ = some (.bool t215) ∧ w'.cell? ⟨gb219,1,none⟩ = some (.int .u64 t216) ∧ w'.cell? ⟨gb219,2,none⟩ = some (.int .u64 t217)) (ds := []) #[false,false,false,false,false,false,false,false,false] Z312 rfl rfl ⟨(blk_cell BK214.out 0).trans rfl,(blk_cell BK214.out 1).trans rfl,(blk_cell BK214.out 2).trans rfl,(blk_cell BK219.out 0).trans rfl,(blk_cell BK219.out 1).trans rfl,(blk_cell BK219.out 2).trans rfl⟩ (fun hHeld => ?_);refine with_tabW spec_l5Cross.tab5 spec_l5Cross.bits5 (fun HT_ HW_ => ?_)
     generalize w60.drew = w61 at BK204 BK205 BK206 BK207 BK214 BK219 HB hHeld ⊢
     refine pure_ (i := 2) (N := some 39) (v := ?_) (a' := ?_) #[false,false,true,false,false,false,false,false,false] rfl rfl (any_of HT_.out Z312) (fun _ _ _ h => h) (Or.inl ⟨Z314,?_⟩) ?_ ?_
     rotate_left
     ·intro w'
      go_simp
      with_reducible rfl
     rotate_left
     ·simp only [Act.put,List.setIfInBounds_toArray,List.set_cons_zero,List.set_cons_succ,i64_w,i32_w]
      rfl
     refine pure_ (i := 3) (N := some 40) (v := ?_) (a' := ?_) #[false,false,true,true,false,false,false,false,false] rfl rfl (any_of HT_.out Z312) (fun _ _ _ h => h) (Or.inl ⟨Z314,?_⟩) ?_ ?_
     rotate_left
     ·intro w'
      go_simp
      with_reducible rfl
     rotate_left
     ·simp only [Act.put,List.setIfInBounds_toArray,List.set_cons_zero,List.set_cons_succ,i64_w,i32_w]
      rfl
     refine pure_ (i := 4) (N := some 41) (v := ?_) (a' := ?_) #[false,false,true,true,true,false,false,false,false] rfl rfl (any_of HT_.out Z312) (fun _ _ _ h => h) (Or.inl ⟨Z314,?_⟩) ?_ ?_
     rotate_left
     ·intro w'
      go_simp
      with_reducible rfl
     rotate_left
     ·simp only [Act.put,List.setIfInBounds_toArray,List.set_cons_zero,List.set_cons_succ,i64_w,i32_w]
      rfl
     refine pure_ (i := 5) (N := some 42) (v := ?_) (a' := ?_) #[false,false,true,true,true,true,false,false,false] rfl rfl (any_of HT_.out Z312) (fun _ _ _ h => h) (Or.inl ⟨Z314,?_⟩) ?_ ?_
     rotate_left
     ·intro w'
      go_simp
      with_reducible rfl
     rotate_left
     ·simp only [Act.put,List.setIfInBounds_toArray,List.set_cons_zero,List.set_cons_succ,i64_w,i32_w]
      rfl
     refine take_ (i := 0) (N := some 37) (v := ?_) (a' := ?_) #[true,false,true,true,true,true,false,false,false] rfl rfl (take_ofW HT_.out HW_.out Z312) (fun _ _ _ h => h) (Or.inl ⟨Z314,?_⟩) hHeld ?_ ?_
     rotate_left
     ·rintro w' ⟨s0,s1,s2,s3,s4,s5⟩
      go_simp
      with_reducible rfl
     rotate_left
     ·simp only [Act.put,List.setIfInBounds_toArray,List.set_cons_zero,List.set_cons_succ,i64_w,i32_w]
      rfl
     refine take_ (i := 1) (N := some 38) (v := ?_) (a' := ?_) #[true,true,true,true,true,true,false,false,false] rfl rfl (take_ofW HT_.out HW_.out Z312) (fun _ _ _ h => h) (Or.inl ⟨Z314,?_⟩) hHeld ?_ ?_
     rotate_left
     ·rintro w' ⟨s0,s1,s2,s3,s4,s5⟩
      go_simp
      with_reducible rfl
     rotate_left
     ·simp only [Act.put,List.setIfInBounds_toArray,List.set_cons_zero,List.set_cons_succ,i64_w,i32_w]
      rfl
     refine one_ (i := 6) (N := none) #[true,true,true,true,true,true,true,false,false] rfl rfl (one_of HT_.out Z312) Z313 (fun K hK => ?_)
     have hs62 : w61.cell? ⟨gb206,0,none⟩ = some (.bool false) := (blk_cell BK206.out 0).trans rfl
     have hfs62 := blk_frozen BK206.out 0
     have hns62_0 := NB204_206.out
     have hns62_1 := NB205_206.out
     have hns62_3 := NB207_206.out
     have hns62_4 := NB214_206.out
     have hns62_5 := NB219_206.out
     have hms62_0 := NB206_204.out
     have hms62_1 := NB206_205.out
     have hms62_3 := NB206_207.out
     have hms62_4 := NB206_214.out
     have hms62_5 := NB206_219.out
     have hs63 : w61.cell? ⟨gb206,1,none⟩ = some (.int .u64 0) := (blk_cell BK206.out 1).trans rfl
     have hfs63 := blk_frozen BK206.out 1
     have hns63_0 := NB204_206.out
     have hns63_1 := NB205_206.out
     have hns63_3 := NB207_206.out
     have hns63_4 := NB214_206.out
     have hns63_5 := NB219_206.out
     have hms63_0 := NB206_204.out
     have hms63_1 := NB206_205.out
     have hms63_3 := NB206_207.out
     have hms63_4 := NB206_214.out
     have hms63_5 := NB206_219.out
     have hs64 : w61.cell? ⟨gb206,2,none⟩ = some (.int .u64 0) := (blk_cell BK206.out 2).trans rfl
     have hfs64 := blk_frozen BK206.out 2
     have hns64_0 := NB204_206.out
     have hns64_1 := NB205_206.out
     have hns64_3 := NB207_206.out
     have hns64_4 := NB214_206.out
     have hns64_5 := NB219_206.out
     have hms64_0 := NB206_204.out
     have hms64_1 := NB206_205.out
     have hms64_3 := NB206_207.out
     have hms64_4 := NB206_214.out
     have hms64_5 := NB206_219.out
     refine skip_ (w1 := ?_) Z314 rfl ?_ ?_
     rotate_left
     ·go_simp
      rfl
     refine hK.out _ _ ⟨((cell_far (p := ⟨gb206,_,none⟩) NB214_206.out _).trans (((cell_far (p := ⟨gb206,_,none⟩) NB214_206.out _).trans (((cell_far (p := ⟨gb206,_,none⟩) NB214_206.out _).trans (hHeld.1)))))),((cell_far (p := ⟨gb206,_,none⟩) NB214_206.out _).trans (((cell_far (p := ⟨gb206,_,none⟩) NB214_206.out _).trans (((cell_far (p := ⟨gb206,_,none⟩) NB214_206.out _).trans (hHeld.2.1)))))),((cell_far (p := ⟨gb206,_,none⟩) NB214_206.out _).trans (((cell_far (p := ⟨gb206,_,none⟩) NB214_206.out _).trans (((cell_far (p := ⟨gb206,_,none⟩) NB214_206.out _).trans (hHeld.2.2.1)))))),((cell_far (p := ⟨gb206,_,none⟩) NB219_206.out _).trans (((cell_far (p := ⟨gb206,_,none⟩) NB219_206.out _).trans (((cell_far (p := ⟨gb206,_,none⟩) NB219_206.out _).trans (hHeld.2.2.2.1)))))),((cell_far (p := ⟨gb206,_,none⟩) NB219_206.out _).trans (((cell_far (p := ⟨gb206,_,none⟩) NB219_206.out _).trans (((cell_far (p := ⟨gb206,_,none⟩) NB219_206.out _).trans (hHeld.2.2.2.2.1)))))),((cell_far (p := ⟨gb206,_,none⟩) NB219_206.out _).trans (((cell_far (p := ⟨gb206,_,none⟩) NB219_206.out _).trans (((cell_far (p := ⟨gb206,_,none⟩) NB219_206.out _).trans (hHeld.2.2.2.2.2))))))⟩ (fun hHeld => ?_)
     clear hK K
     refine one_ (i := 7) (N := none) #[true,true,true,true,true,true,true,true,false] rfl rfl (one_of HT_.out Z312) Z313 (fun K hK => ?_)
     have hs65 : w61.cell? ⟨gb207,0,none⟩ = some (.bool false) := (blk_cell BK207.out 0).trans rfl
     have hfs65 := blk_frozen BK207.out 0
     have hns65_0 := NB204_207.out
     have hns65_1 := NB205_207.out
     have hns65_2 := NB206_207.out
     have hns65_4 := NB214_207.out
     have hns65_5 := NB219_207.out
     have hms65_0 := NB207_204.out
     have hms65_1 := NB207_205.out
     have hms65_2 := NB207_206.out
     have hms65_4 := NB207_214.out
     have hms65_5 := NB207_219.out
     have hs66 : w61.cell? ⟨gb207,1,none⟩ = some (.int .u64 0) := (blk_cell BK207.out 1).trans rfl
     have hfs66 := blk_frozen BK207.out 1
     have hns66_0 := NB204_207.out
     have hns66_1 := NB205_207.out
     have hns66_2 := NB206_207.out
     have hns66_4 := NB214_207.out
     have hns66_5 := NB219_207.out
     have hms66_0 := NB207_204.out
     have hms66_1 := NB207_205.out
     have hms66_2 := NB207_206.out
     have hms66_4 := NB207_214.out
     have hms66_5 := NB207_219.out
     have hs67 : w61.cell? ⟨gb207,2,none⟩ = some (.int .u64 0) := (blk_cell BK207.out 2).trans rfl
     have hfs67 := blk_frozen BK207.out 2
     have hns67_0 := NB204_207.out
     have hns67_1 := NB205_207.out
     have hns67_2 := NB206_207.out
     have hns67_4 := NB214_207.out
     have hns67_5 := NB219_207.out
     have hms67_0 := NB207_204.out
     have hms67_1 := NB207_205.out
     have hms67_2 := NB207_206.out
     have hms67_4 := NB207_214.out
     have hms67_5 := NB207_219.out
     refine skip_ (w1 := ?_) Z314 rfl ?_ ?_
     rotate_left
     ·go_simp
      rfl
     refine hK.out _ _ ⟨((cell_far (p := ⟨gb207,_,none⟩) NB214_207.out _).trans (((cell_far (p := ⟨gb207,_,none⟩) NB214_207.out _).trans (((cell_far (p := ⟨gb207,_,none⟩) NB214_207.out _).trans (hHeld.1)))))),((cell_far (p := ⟨gb207,_,none⟩) NB214_207.out _).trans (((cell_far (p := ⟨gb207,_,none⟩) NB214_207.out _).trans (((cell_far (p := ⟨gb207,_,none⟩) NB214_207.out _).trans (hHeld.2.1)))))),((cell_far (p := ⟨gb207,_,none⟩) NB214_207.out _).trans (((cell_far (p := ⟨gb207,_,none⟩) NB214_207.out _).trans (((cell_far (p := ⟨gb207,_,none⟩) NB214_207.out _).trans (hHeld.2.2.1)))))),((cell_far (p := ⟨gb207,_,none⟩) NB219_207.out _).trans (((cell_far (p := ⟨gb207,_,none⟩) NB219_207.out _).trans (((cell_far (p := ⟨gb207,_,none⟩) NB219_207.out _).trans (hHeld.2.2.2.1)))))),((cell_far (p := ⟨gb207,_,none⟩) NB219_207.out _).trans (((cell_far (p := ⟨gb207,_,none⟩) NB219_207.out _).trans (((cell_far (p := ⟨gb207,_,none⟩) NB219_207.out _).trans (hHeld.2.2.2.2.1)))))),((cell_far (p := ⟨gb207,_,none⟩) NB219_207.out _).trans (((cell_far (p := ⟨gb207,_,none⟩) NB219_207.out _).trans (((cell_far (p := ⟨gb207,_,none⟩) NB219_207.out _).trans (hHeld.2.2.2.2.2))))))⟩ (fun hHeld => ?_)
     clear hK K
     refine pure_ (i := 8) (N := some 6) (v := ?_) (a' := ?_) #[true,true,true,true,true,true,true,true,true] rfl rfl (any_of HT_.out Z312) (fun _ _ _ h => h) (Or.inl ⟨Z314,?_⟩) ?_ ?_
     rotate_left
     ·intro w'
      go_simp
      with_reducible rfl
     rotate_left
     ·simp only [Act.put,List.setIfInBounds_toArray,List.set_cons_zero,List.set_cons_succ,i64_w,i32_w]
      rfl
     refine done_ (done_of HT_.out Z312) ?_
     try go_wp2
     refine bodyPost_ret (results_list (rs := [.cell 4 100,.cell 5 100,.tmp 6]) rfl Z553 (.cell gb206 100 #[.bool t210,.int .u64 t211,.int .u64 t212] (0,0) _ rfl Z144 Try.underlying100 rfl Z312 (.cell gb207 100 #[.bool t215,.int .u64 t216,.int .u64 t217] (0,0) _ rfl Z142 Try.underlying100 rfl Z312 (.tmp .nil)))) rfl ?_
     exact ⟨Z263,Z156⟩
    ·replace c35 := Bool.eq_false_iff.mpr c35
     subst c35
     rw [if_neg Bool.false_ne_true] at H
     simp only [Option.some.injEq,Prod.mk.injEq] at H
     obtain ⟨rfl,rfl,rfl,rfl,rfl,rfl,rfl⟩ := H
     have hnb68 := NB204_205.out
     have hnc68 := NB205_204.out
     have hnb69 := NB204_206.out
     have hnc69 := NB206_204.out
     have hnb70 := NB204_207.out
     have hnc70 := NB207_204.out
     obtain ⟨hcz71_0,hcz71_1,hcz71_2,hcz71_3,hfz71_0,hfz71_1,hfz71_2,hfz71_3⟩ := cells4 BK204.out
     have hnb72 := NB205_206.out
     have hnc72 := NB206_205.out
     have hnb73 := NB205_207.out
     have hnc73 := NB207_205.out
     obtain ⟨hcz74_0,hcz74_1,hcz74_2,hcz74_3,hfz74_0,hfz74_1,hfz74_2,hfz74_3⟩ := cells4 BK205.out
     try go_wp2_with (first | ((with_reducible refine gate_callee (f := 143) rfl ?_);refine goesL_ (some 26) rfl rfl Try.func143 Z312 rfl #[.agg #[.bool a0_0,.int .u64 a0_1,.int .u64 a0_2],.int .i64 a1_3] rfl Z256 ?_;(with_reducible refine (spec_ScaleWide.calls a0_0 a0_1 a0_2 a1_3 t210 t211 t212 false _ A33.out).mono ?_);rintro e w75 ⟨rfl,hb⟩;refine ⟨_,rfl,?_⟩;have n_ := Z84;clear BK204 BK205 BK206 BK207 HB;obtain ⟨BK204,BK205,BK206,BK207,HB⟩ := n_;(try clear hb);(try clear hb2);(try clear hk);(try clear hi)) | ((with_reducible refine gate_dst (N := 7) rfl ?_);refine bE 7 #[.bool false,.int .u64 0,.int .u64 0] 100 (h := ?_);intro gb214 hg w76 hbox hb;have n_ := Z10;clear BK204 BK205 BK206 BK207 HB;obtain ⟨BK204,BK205,BK206,BK207,HB,BK214,GW214,GE214,NB204_214,NB214_204,NB205_214,NB214_205,NB206_214,NB214_206,NB207_214,NB214_207⟩ := n_;clear hb hbox hg;have hnb77 := NB214_204.out;have hnc77 := NB204_214.out;have hnb78 := NB214_205.out;have hnc78 := NB205_214.out;have hnb79 := NB214_206.out;have hnc79 := NB206_214.out;have hnb80 := NB214_207.out;have hnc80 := NB207_214.out;obtain ⟨hcz81_0,hcz81_1,hcz81_2,hfz81_0,hfz81_1,hfz81_2⟩ := cells3 BK214.out;obtain ⟨hcz82_0,hcz82_1,hcz82_2,hcz82_3,hfz82_0,hfz82_1,hfz82_2,hfz82_3⟩ := cells4 BK205.out;obtain ⟨hcz83_0,hcz83_1,hcz83_2,hcz83_3,hfz83_0,hfz83_1,hfz83_2,hfz83_3⟩ := cells4 BK204.out) | ((with_reducible refine gate_callee (f := 143) rfl ?_);refine goesL_ (some 34) rfl rfl Try.func143 Z312 rfl #[.agg #[.bool a1_0,.int .u64 a1_1,.int .u64 a1_2],.int .i64 a0_3] rfl Z256 ?_;(with_reducible refine (spec_ScaleWide.calls a1_0 a1_1 a1_2 a0_3 t215 t216 t217 t218 _ A34.out).mono ?_);rintro e w84 ⟨rfl,hb⟩;refine ⟨_,rfl,?_⟩;have n_ := Z43;clear BK204 BK205 BK206 BK207 BK214 HB;obtain ⟨BK204,BK205,BK206,BK207,BK214,HB⟩ := n_;(try clear hb);(try clear hb2);(try clear hk);(try clear hi)) | ((with_reducible refine gate_dst (N := 9) rfl ?_);refine bE 9 #[.bool false,.int .u64 0,.int .u64 0] 100 (h := ?_);intro gb219 hg w85 hbox hb;have n_ := Z6;clear BK204 BK205 BK206 BK207 BK214 HB;obtain ⟨BK204,BK205,BK206,BK207,BK214,HB,BK219,GW219,GE219,NB204_219,NB219_204,NB205_219,NB219_205,NB206_219,NB219_206,NB207_219,NB219_207,NB214_219,NB219_214⟩ := n_;clear hb hbox hg;have hnb86 := NB219_204.out;have hnc86 := NB204_219.out;have hnb87 := NB219_205.out;have hnc87 := NB205_219.out;have hnb88 := NB219_206.out;have hnc88 := NB206_219.out;have hnb89 := NB219_207.out;have hnc89 := NB207_219.out;have hnb90 := NB219_214.out;have hnc90 := NB214_219.out;obtain ⟨hcz91_0,hcz91_1,hcz91_2,hfz91_0,hfz91_1,hfz91_2⟩ := cells3 BK219.out))
     have n0_ : Aside0 ((((w85.setCell ⟨gb219,0,none⟩ (.bool t215)).setCell ⟨gb219,1,none⟩ (.int .u64 t216)).setCell ⟨gb219,2,none⟩ (.int .u64 t217)).heap[gb204]? = some (.cells #[.bool a0_0,.int .u64 a0_1,.int .u64 a0_2,.int .i64 a0_3] 102 (0,0))) := ⟨Z239⟩
     have n1_ : Aside0 ((((w85.setCell ⟨gb219,0,none⟩ (.bool t215)).setCell ⟨gb219,1,none⟩ (.int .u64 t216)).setCell ⟨gb219,2,none⟩ (.int .u64 t217)).heap[gb205]? = some (.cells #[.bool a1_0,.int .u64 a1_1,.int .u64 a1_2,.int .i64 a1_3] 102 (0,0))) := ⟨Z238⟩
     have n2_ : Aside0 ((((w85.setCell ⟨gb219,0,none⟩ (.bool t215)).setCell ⟨gb219,1,none⟩ (.int .u64 t216)).setCell ⟨gb219,2,none⟩ (.int .u64 t217)).heap[gb206]? = some (.cells #[.bool false,.int .u64 0,.int .u64 0] 100 (0,0))) := ⟨Z237⟩
     have n3_ : Aside0 ((((w85.setCell ⟨gb219,0,none⟩ (.bool t215)).setCell ⟨gb219,1,none⟩ (.int .u64 t216)).setCell ⟨gb219,2,none⟩ (.int .u64 t217)).heap[gb207]? = some (.cells #[.bool false,.int .u64 0,.int .u64 0] 100 (0,0))) := ⟨Z236⟩
     have n4_ : Aside0 ((((w85.setCell ⟨gb219,0,none⟩ (.bool t215)).setCell ⟨gb219,1,none⟩ (.int .u64 t216)).setCell ⟨gb219,2,none⟩ (.int .u64 t217)).heap[gb214]? = some (.cells #[.bool t210,.int .u64 t211,.int .u64 t212] 100 (0,0))) := ⟨Z235⟩
     have n5_ : Aside0 ((((w85.setCell ⟨gb219,0,none⟩ (.bool t215)).setCell ⟨gb219,1,none⟩ (.int .u64 t216)).setCell ⟨gb219,2,none⟩ (.int .u64 t217)).heap[gb219]? = some (.cells #[.bool t215,.int .u64 t216,.int .u64 t217] 100 (0,0))) := ⟨Z162⟩
     have n6_ : Aside0 (Below w.heap.size w (((w85.setCell ⟨gb219,0,none⟩ (.bool t215)).setCell ⟨gb219,1,none⟩ (.int .u64 t216)).setCell ⟨gb219,2,none⟩ (.int .u64 t217))) := ⟨Z156⟩
     (try clear BK204)
     (try clear BK205)
     (try clear BK206)
     (try clear BK207)
     (try clear BK214)
     (try clear BK219)
     (try clear HB)
     generalize (((w85.setCell ⟨gb219,0,none⟩ (.bool t215)).setCell ⟨gb219,1,none⟩ (.int .u64 t216)).setCell ⟨gb219,2,none⟩ (.int .u64 t217)) = w92 at n0_ n1_ n2_ n3_ n4_ n5_ n6_ ⊢
     have BK204 := n0_
     have BK205 := n1_
     have BK206 := n2_
     have BK207 := n3_
     have BK214 := n4_
     have BK219 := n5_
     have HB := n6_
     clear n0_ n1_ n2_ n3_ n4_ n5_ n6_
     have n0_ := Aside0.mk (blk_drew BK204.out)
     have n1_ := Aside0.mk (blk_drew BK205.out)
     have n2_ := Aside0.mk (blk_drew BK206.out)
     have n3_ := Aside0.mk (blk_drew BK207.out)
     have n4_ := Aside0.mk (blk_drew BK214.out)
     have n5_ := Aside0.mk (blk_drew BK219.out)
     have n6_ := Aside0.mk (below_drew1 HB.out)
     clear BK204
     clear BK205
     clear BK206
     clear BK207
     clear BK214
     clear BK219
     clear HB
     have BK204 := n0_
     have BK205 := n1_
     have BK206 := n2_
     have BK207 := n3_
     have BK214 := n4_
     have BK219 := n5_
     have HB := n6_
     clear n0_ n1_ n2_ n3_ n4_ n5_ n6_
     refine start_ (n := 9) (S := fun w' => w'.cell? ⟨gb214,0,none⟩ = some (.bool t210) ∧ w'.cell? ⟨gb214,1,none⟩ = some (.int .u64 t211) ∧ w'.cell? ⟨gb214,2,none⟩ = some (.int .u64 t212) ∧ w'.cell? ⟨gb219,0,none⟩ = some (.bool t215) ∧ w'.cell? ⟨gb219,1,none⟩ = some (.int .u64 t216) ∧ w'.cell? ⟨gb219,2,none⟩ = some (.int .u64 t217)) (ds := []) #[false,false,false,false,false,false,false,false,false] Z312 rfl rfl ⟨(blk_cell BK214.out 0).trans rfl,(blk_cell BK214.out 1).trans rfl,(blk_cell BK214.out 2).trans rfl,(blk_cell BK219.out 0).trans rfl,(blk_cell BK219.out 1).trans rfl,(blk_cell BK219.out 2).trans rfl⟩ (fun hHeld => ?_);refine with_tabW spec_l5Cross.tab5 spec_l5Cross.bits5 (fun HT_ HW_ => ?_)
     generalize w92.drew = w93 at BK204 BK205 BK206 BK207 BK214 BK219 HB hHeld ⊢
     refine pure_ (i := 2) (N := some 39) (v := ?_) (a' := ?_) #[false,false,true,false,false,false,false,false,false] rfl rfl (any_of HT_.out Z312) (fun _ _ _ h => h) (Or.inl ⟨Z314,?_⟩) ?_ ?_
     rotate_left
     ·intro w'
      go_simp
      with_reducible rfl
     rotate_left
     ·simp only [Act.put,List.setIfInBounds_toArray,List.set_cons_zero,List.set_cons_succ,i64_w,i32_w]
      rfl
     refine pure_ (i := 3) (N := some 40) (v := ?_) (a' := ?_) #[false,false,true,true,false,false,false,false,false] rfl rfl (any_of HT_.out Z312) (fun _ _ _ h => h) (Or.inl ⟨Z314,?_⟩) ?_ ?_
     rotate_left
     ·intro w'
      go_simp
      with_reducible rfl
     rotate_left
     ·simp only [Act.put,List.setIfInBounds_toArray,List.set_cons_zero,List.set_cons_succ,i64_w,i32_w]
      rfl
     refine pure_ (i := 4) (N := some 41) (v := undef) (a' := ?_) #[false,false,true,true,true,false,false,false,false] rfl rfl (any_of HT_.out Z312) (fun _ _ _ h => h) (Or.inr ⟨Z314,rfl⟩) ?_ ?_
     rotate_left
     ·simp only [Act.put,List.setIfInBounds_toArray,List.set_cons_zero,List.set_cons_succ,i64_w,i32_w]
      rfl
     refine pure_ (i := 5) (N := some 42) (v := ?_) (a' := ?_) #[false,false,true,true,true,true,false,false,false] rfl rfl (any_of HT_.out Z312) (fun _ _ _ h => h) (Or.inl ⟨Z314,?_⟩) ?_ ?_
     rotate_left
     ·intro w'
      go_simp
      with_reducible rfl
     rotate_left
     ·simp only [Act.put,List.setIfInBounds_toArray,List.set_cons_zero,List.set_cons_succ,i64_w,i32_w]
      rfl
     refine take_ (i := 0) (N := some 37) (v := ?_) (a' := ?_) #[true,false,true,true,true,true,false,false,false] rfl rfl (take_ofW HT_.out HW_.out Z312) (fun _ _ _ h => h) (Or.inl ⟨Z314,?_⟩) hHeld ?_ ?_
     rotate_left
     ·rintro w' ⟨s0,s1,s2,s3,s4,s5⟩
      go_simp
      with_reducible rfl
     rotate_left
     ·simp only [Act.put,List.setIfInBounds_toArray,List.set_cons_zero,List.set_cons_succ,i64_w,i32_w]
      rfl
     refine take_ (i := 1) (N := some 38) (v := ?_) (a' := ?_) #[true,true,true,true,true,true,false,false,false] rfl rfl (take_ofW HT_.out HW_.out Z312) (fun _ _ _ h => h) (Or.inl ⟨Z314,?_⟩) hHeld ?_ ?_
     rotate_left
     ·rintro w' ⟨s0,s1,s2,s3,s4,s5⟩
      go_simp
      with_reducible rfl
     rotate_left
     ·simp only [Act.put,List.setIfInBounds_toArray,List.set_cons_zero,List.set_cons_succ,i64_w,i32_w]
      rfl
     refine one_ (i := 6) (N := none) #[true,true,true,true,true,true,true,false,false] rfl rfl (one_of HT_.out Z312) Z313 (fun K hK => ?_)
     have hs94 : w93.cell? ⟨gb206,0,none⟩ = some (.bool false) := (blk_cell BK206.out 0).trans rfl
     have hfs94 := blk_frozen BK206.out 0
     have hns94_0 := NB204_206.out
     have hns94_1 := NB205_206.out
     have hns94_3 := NB207_206.out
     have hns94_4 := NB214_206.out
     have hns94_5 := NB219_206.out
     have hms94_0 := NB206_204.out
     have hms94_1 := NB206_205.out
     have hms94_3 := NB206_207.out
     have hms94_4 := NB206_214.out
     have hms94_5 := NB206_219.out
     have hs95 : w93.cell? ⟨gb206,1,none⟩ = some (.int .u64 0) := (blk_cell BK206.out 1).trans rfl
     have hfs95 := blk_frozen BK206.out 1
     have hns95_0 := NB204_206.out
     have hns95_1 := NB205_206.out
     have hns95_3 := NB207_206.out
     have hns95_4 := NB214_206.out
     have hns95_5 := NB219_206.out
     have hms95_0 := NB206_204.out
     have hms95_1 := NB206_205.out
     have hms95_3 := NB206_207.out
     have hms95_4 := NB206_214.out
     have hms95_5 := NB206_219.out
     have hs96 : w93.cell? ⟨gb206,2,none⟩ = some (.int .u64 0) := (blk_cell BK206.out 2).trans rfl
     have hfs96 := blk_frozen BK206.out 2
     have hns96_0 := NB204_206.out
     have hns96_1 := NB205_206.out
     have hns96_3 := NB207_206.out
     have hns96_4 := NB214_206.out
     have hns96_5 := NB219_206.out
     have hms96_0 := NB206_204.out
     have hms96_1 := NB206_205.out
     have hms96_3 := NB206_207.out
     have hms96_4 := NB206_214.out
     have hms96_5 := NB206_219.out
     refine skip_ (w1 := ?_) Z314 rfl ?_ ?_
     rotate_left
     ·go_simp
      rfl
     refine hK.out _ _ ⟨((cell_far (p := ⟨gb206,_,none⟩) NB214_206.out _).trans (((cell_far (p := ⟨gb206,_,none⟩) NB214_206.out _).trans (((cell_far (p := ⟨gb206,_,none⟩) NB214_206.out _).trans (hHeld.1)))))),((cell_far (p := ⟨gb206,_,none⟩) NB214_206.out _).trans (((cell_far (p := ⟨gb206,_,none⟩) NB214_206.out _).trans (((cell_far (p := ⟨gb206,_,none⟩) NB214_206.out _).trans (hHeld.2.1)))))),((cell_far (p := ⟨gb206,_,none⟩) NB214_206.out _).trans (((cell_far (p := ⟨gb206,_,none⟩) NB214_206.out _).trans (((cell_far (p := ⟨gb206,_,none⟩) NB214_206.out _).trans (hHeld.2.2.1)))))),((cell_far (p := ⟨gb206,_,none⟩) NB219_206.out _).trans (((cell_far (p := ⟨gb206,_,none⟩) NB219_206.out _).trans (((cell_far (p := ⟨gb206,_,none⟩) NB219_206.out _).trans (hHeld.2.2.2.1)))))),((cell_far (p := ⟨gb206,_,none⟩) NB219_206.out _).trans (((cell_far (p := ⟨gb206,_,none⟩) NB219_206.out _).trans (((cell_far (p := ⟨gb206,_,none⟩) NB219_206.out _).trans (hHeld.2.2.2.2.1)))))),((cell_far (p := ⟨gb206,_,none⟩) NB219_206.out _).trans (((cell_far (p := ⟨gb206,_,none⟩) NB219_206.out _).trans (((cell_far (p := ⟨gb206,_,none⟩) NB219_206.out _).trans (hHeld.2.2.2.2.2))))))⟩ (fun hHeld => ?_)
     clear hK K
     refine one_ (i := 7) (N := none) #[true,true,true,true,true,true,true,true,false] rfl rfl (one_of HT_.out Z312) Z313 (fun K hK => ?_)
     have hs97 : w93.cell? ⟨gb207,0,none⟩ = some (.bool false) := (blk_cell BK207.out 0).trans rfl
     have hfs97 := blk_frozen BK207.out 0
     have hns97_0 := NB204_207.out
     have hns97_1 := NB205_207.out
     have hns97_2 := NB206_207.out
     have hns97_4 := NB214_207.out
     have hns97_5 := NB219_207.out
     have hms97_0 := NB207_204.out
     have hms97_1 := NB207_205.out
     have hms97_2 := NB207_206.out
     have hms97_4 := NB207_214.out
     have hms97_5 := NB207_219.out
     have hs98 : w93.cell? ⟨gb207,1,none⟩ = some (.int .u64 0) := (blk_cell BK207.out 1).trans rfl
     have hfs98 := blk_frozen BK207.out 1
     have hns98_0 := NB204_207.out
     have hns98_1 := NB205_207.out
     have hns98_2 := NB206_207.out
     have hns98_4 := NB214_207.out
     have hns98_5 := NB219_207.out
     have hms98_0 := NB207_204.out
     have hms98_1 := NB207_205.out
     have hms98_2 := NB207_206.out
     have hms98_4 := NB207_214.out
     have hms98_5 := NB207_219.out
     have hs99 : w93.cell? ⟨gb207,2,none⟩ = some (.int .u64 0) := (blk_cell BK207.out 2).trans rfl
     have hfs99 := blk_frozen BK207.out 2
     have hns99_0 := NB204_207.out
     have hns99_1 := NB205_207.out
     have hns99_2 := NB206_207.out
     have hns99_4 := NB214_207.out
     have hns99_5 := NB219_207.out
     have hms99_0 := NB207_204.out
     have hms99_1 := NB207_205.out
     have hms99_2 := NB207_206.out
     have hms99_4 := NB207_214.out
     have hms99_5 := NB207_219.out
     refine skip_ (w1 := ?_) Z314 rfl ?_ ?_
     rotate_left
     ·go_simp
      rfl
     refine hK.out _ _ ⟨((cell_far (p := ⟨gb207,_,none⟩) NB214_207.out _).trans (((cell_far (p := ⟨gb207,_,none⟩) NB214_207.out _).trans (((cell_far (p := ⟨gb207,_,none⟩) NB214_207.out _).trans (hHeld.1)))))),((cell_far (p := ⟨gb207,_,none⟩) NB214_207.out _).trans (((cell_far (p := ⟨gb207,_,none⟩) NB214_207.out _).trans (((cell_far (p := ⟨gb207,_,none⟩) NB214_207.out _).trans (hHeld.2.1)))))),((cell_far (p := ⟨gb207,_,none⟩) NB214_207.out _).trans (((cell_far (p := ⟨gb207,_,none⟩) NB214_207.out _).trans (((cell_far (p := ⟨gb207,_,none⟩) NB214_207.out _).trans (hHeld.2.2.1)))))),((cell_far (p := ⟨gb207,_,none⟩) NB219_207.out _).trans (((cell_far (p := ⟨gb207,_,none⟩) NB219_207.out _).trans (((cell_far (p := ⟨gb207,_,none⟩) NB219_207.out _).trans (hHeld.2.2.2.1)))))),((cell_far (p := ⟨gb207,_,none⟩) NB219_207.out _).trans (((cell_far (p := ⟨gb207,_,none⟩) NB219_207.out _).trans (((cell_far (p := ⟨gb207,_,none⟩) NB219_207.out _).trans (hHeld.2.2.2.2.1)))))),((cell_far (p := ⟨gb207,_,none⟩) NB219_207.out _).trans (((cell_far (p := ⟨gb207,_,none⟩) NB219_207.out _).trans (((cell_far (p := ⟨gb207,_,none⟩) NB219_207.out _).trans (hHeld.2.2.2.2.2))))))⟩ (fun hHeld => ?_)
     clear hK K
     refine pure_ (i := 8) (N := some 6) (v := ?_) (a' := ?_) #[true,true,true,true,true,true,true,true,true] rfl rfl (any_of HT_.out Z312) (fun _ _ _ h => h) (Or.inl ⟨Z314,?_⟩) ?_ ?_
     rotate_left
     ·intro w'
      go_simp
      with_reducible rfl
     rotate_left
     ·simp only [Act.put,List.setIfInBounds_toArray,List.set_cons_zero,List.set_cons_succ,i64_w,i32_w]
      rfl
     refine done_ (done_of HT_.out Z312) ?_
     try go_wp2
     refine bodyPost_ret (results_list (rs := [.cell 4 100,.cell 5 100,.tmp 6]) rfl Z553 (.cell gb206 100 #[.bool t210,.int .u64 t211,.int .u64 t212] (0,0) _ rfl Z144 Try.underlying100 rfl Z312 (.cell gb207 100 #[.bool t215,.int .u64 t216,.int .u64 t217] (0,0) _ rfl Z142 Try.underlying100 rfl Z312 (.tmp .nil)))) rfl ?_
     exact ⟨Z263,Z156⟩

end Go.Proofs.Ytaepeajaefpooaa.QFnExactMayPart
