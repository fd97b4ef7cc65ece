/- The machine side of FnConfig: what each Go function that it reaches comes to. Conditions: none. -/
import Derived.Test.YtepnbcdbagjmbaeGreatDoorQFnConfigx0
import Derived.Test.YtepnbcdbagjmbaeGreatDoorQFnConfigx7
import Derived.Test.YtepnbcdbagjmbaeGreatDoorQFnConfigx14
import Derived.Test.YtepnbcdbagjmbaeGreatDoorQFnConfigx15
namespace Go.Proofs.YtepnbcdbagjmbaeGreatDoor.QFnConfig
open Go.RowKit Go.Proofs.YtepnbcdbagjmbaeGreatDoorW.PrintWords Go.Proofs.YtepnbcdbagjmbaeGreatDoorW.PrintLast Go.Proofs.YtepnbcdbagjmbaeGreatDoorW.PrintMore
attribute [local go_sem] max2_int min2_int max_two min_two max_three min_three max_four min_four   -- for this text's walks alone
set_option linter.unusedVariables false
set_option linter.unusedSimpArgs false

/-! ### spec_l8Lay: function 37 -/
theorem spec_l8Lay.change_ {P : Program} {md : Region.Mode} {ops : Array Oper} {Q : Exit → Act → World → Prop} {S S' : World → Prop} (hsub : ∀ w,S' w → S w) : ∀ (fuel : Nat) (l : Array Bool) (a : Act) (w : World),S' w → wpAnyLast P md ops Q S' [] fuel l a w → wpAnyLast P md ops Q S [] fuel l a w
 | 0,_,_,_,_,h => h
 | fuel + 1,_,_,_,hS,h => ⟨h.1,fun i hi => wpOp_mono (fun a' w' h' => ⟨fun _ _ => hsub _ (h'.1 Z286 hS),spec_l8Lay.change_ hsub fuel _ a' w' (h'.1 Z286 hS) h'.2⟩) (h.2 i hi)⟩
def spec_l8Lay.j0 : Nat → Int → Int → Int → Int → Int → Int → Int → Int → Int → List Int → Option (Int × Int × Int × Int × Int × Int × Int × List Int × Int)
 | 0,_,_,_,_,_,_,_,_,_,_ => none
 | k + 1,x1,x13,x554000,x554001,x554002,x554003,x554004,x554005,x554006,x554007 => (spec_l8Least.f).bind fun t564 => (if 0 ≤ x1 then (if x1 < (t564.length : Int) then ((spec_l8Most.f).bind fun t568 => (if x1 < (t568.length : Int) then ((spec_l1In.f x13 (rd t564 x1) (rd t568 x1)).bind fun t572 => (if t572 = true then (some (x554000,x554001,x554002,x554003,x554004,x554005,x554006,x554007,0)) else (some (x554000,x554001,x554002,x554003,x554004,x554005,x554006,x554007,13)))) else (none))) else (none)) else (none))
def spec_l8Lay.f (k : Nat) (a0_0 : Int) (a0_1 : Int) (a0_2 : Int) (a0_3 : Int) (a0_4 : Int) (a0_5 : Int) (a0_6 : Int) (l0_7 : List Int) (a1 : Int) (a2 : ByteArray) : Option (Int × Int × Int × Int × Int × Int × Int × List Int × Int) := if a1 = 6 then ((spec_l8Signs.f k a2).bind fun bt555 => (if bt555.2 = true then (some (a0_0,a0_1,a0_2,a0_3,a0_4,a0_5,a0_6,bt555.1,0)) else (some (a0_0,a0_1,a0_2,a0_3,a0_4,a0_5,a0_6,bt555.1,14)))) else (if a1 = 5 then ((spec_l8Rate.f k a2).bind fun bt559 => (some (a0_0,a0_1,a0_2,a0_3,a0_4,bt559.1,bt559.2.1,l0_7,bt559.2.2))) else ((spec_Number.f k a2).bind fun bt562 => (if bt562.2 = true then (if a1 = 0 then (spec_l8Lay.j0 k a1 bt562.1 bt562.1 a0_1 a0_2 a0_3 a0_4 a0_5 a0_6 l0_7) else (if a1 = 1 then (spec_l8Lay.j0 k a1 bt562.1 a0_0 bt562.1 a0_2 a0_3 a0_4 a0_5 a0_6 l0_7) else (if a1 = 2 then (spec_l8Lay.j0 k a1 bt562.1 a0_0 a0_1 bt562.1 a0_3 a0_4 a0_5 a0_6 l0_7) else (if a1 = 3 then (spec_l8Lay.j0 k a1 bt562.1 a0_0 a0_1 a0_2 bt562.1 a0_4 a0_5 a0_6 l0_7) else (spec_l8Lay.j0 k a1 bt562.1 a0_0 a0_1 a0_2 a0_3 bt562.1 a0_5 a0_6 l0_7))))) else (some (a0_0,a0_1,a0_2,a0_3,a0_4,a0_5,a0_6,l0_7,12)))))
theorem spec_l8Lay.mono_l : ∀ k,(∀ y0 y1 y2 y3 y4 y5 y6 y7 y8 y9,LeO (spec_l8Lay.j0 k y0 y1 y2 y3 y4 y5 y6 y7 y8 y9) (spec_l8Lay.j0 (k + 1) y0 y1 y2 y3 y4 y5 y6 y7 y8 y9))
 | 0 => fun _ _ _ _ _ _ _ _ _ _ r h => by simp [spec_l8Lay.j0] at h
 | k + 1 => by
  have ih0 := spec_l8Lay.mono_l k
  ·intro y0 y1 y2 y3 y4 y5 y6 y7 y8 y9
   unfold spec_l8Lay.j0
   repeat' first
   | (with_reducible exact ih0 _ _ _ _ _ _ _ _ _ _)
   | (with_reducible exact spec_Number.mono _ _)
   | (with_reducible exact spec_l8Rate.mono _ _)
   | (with_reducible exact spec_l8Signs.mono _ _)
   | (with_reducible exact LeO.refl _)
   | (with_reducible exact LeO.none _)
   | (with_reducible refine LeO.ite ?_ ?_)
   | (with_reducible refine LeO.bind ?_ (fun _ => ?_))
   | exact ih0 _ _ _ _ _ _ _ _ _ _
   | exact spec_Number.mono _ _
   | exact spec_l8Rate.mono _ _
   | exact spec_l8Signs.mono _ _
   | exact LeO.none _
   | refine LeO.ite ?_ ?_
   | refine LeO.bind ?_ (fun _ => ?_)
theorem spec_l8Lay.mono : ∀ a0 a1 a2 a3 a4 a5 a6 a7 a8 a9 k,LeO (spec_l8Lay.f k a0 a1 a2 a3 a4 a5 a6 a7 a8 a9) (spec_l8Lay.f (k + 1) a0 a1 a2 a3 a4 a5 a6 a7 a8 a9) := by
 intro a0 a1 a2 a3 a4 a5 a6 a7 a8 a9 k
 have ih0 := spec_l8Lay.mono_l k
 unfold spec_l8Lay.f
 repeat' first
   | (with_reducible exact ih0 _ _ _ _ _ _ _ _ _ _)
   | (with_reducible exact spec_Number.mono _ _)
   | (with_reducible exact spec_l8Rate.mono _ _)
   | (with_reducible exact spec_l8Signs.mono _ _)
   | (with_reducible exact LeO.refl _)
   | (with_reducible exact LeO.none _)
   | (with_reducible refine LeO.ite ?_ ?_)
   | (with_reducible refine LeO.bind ?_ (fun _ => ?_))
   | exact ih0 _ _ _ _ _ _ _ _ _ _
   | exact spec_Number.mono _ _
   | exact spec_l8Rate.mono _ _
   | exact spec_l8Signs.mono _ _
   | exact LeO.none _
   | refine LeO.ite ?_ ?_
   | refine LeO.bind ?_ (fun _ => ?_)
def spec_l8Lay.T25 : Bool × List (List Nat × List Nat) := (true,[([],[]),([],[]),([],[]),([1,2],[1,2]),([3],[3]),([1],[]),([],[]),([5,6],[5,6]),([7],[7]),([0,4,8,5],[0,4,8]),([9],[9])])
def spec_l8Lay.B25 : List Nat := [0,0,0,6,14,2,0,98,226,511,1023]
theorem spec_l8Lay.tab25 : rtab .any (opsOf Tryz.f37 25) = spec_l8Lay.T25 := by kernel_rfl
theorem spec_l8Lay.bits25 : waitsOk spec_l8Lay.T25.2 spec_l8Lay.B25 = true := by kernel_rfl
set_option maxHeartbeats 8000000 in
set_option maxRecDepth 100000 in
theorem spec_l8Lay.calls (k : Nat) (a0_0 : Int) (a0_1 : Int) (a0_2 : Int) (a0_3 : Int) (a0_4 : Int) (a0_5 : Int) (a0_6 : Int) (P0_7_ : Nat → Prop) (u9000_ : Value) (l0_7 : List Int) (a1 : Int) (a2 : ByteArray) (r1 : Int) (r2 : Int) (r3 : Int) (r4 : Int) (r5 : Int) (r6 : Int) (r7 : Int) (r8 : List Int) (r9 : Int) (w0 w : World) (hB : Below w0.heap.size w0 w) (ho0_7 : Kd.R (Kd.int .i64) 3 w w0.heap.size P0_7_ u9000_ l0_7) (h : spec_l8Lay.f k a0_0 a0_1 a0_2 a0_3 a0_4 a0_5 a0_6 l0_7 a1 a2 = some (r1,r2,r3,r4,r5,r6,r7,r8,r9)) :
  Calls Tryz.prog 37 #[.agg #[.int .i64 a0_0,.int .i64 a0_1,.int .i64 a0_2,.int .i64 a0_3,.int .i64 a0_4,.int .i64 a0_5,.int .i64 a0_6,u9000_],.int .i64 a1,.string a2] w fun e w' => ∃ v7_ : Value,e = .returned (.tuple #[.agg #[.int .i64 r1,.int .i64 r2,.int .i64 r3,.int .i64 r4,.int .i64 r5,.int .i64 r6,.int .i64 r7,v7_],.int .i64 r9]) ∧ Kd.R (Kd.int .i64) 3 w' w0.heap.size (fun k_ => (P0_7_ k_ ∨ w.heap.size ≤ k_)) v7_ r8 ∧ Below w0.heap.size w0 w' ∧ Kept w w' (fun k_ => P0_7_ k_) := by
 have hu26 := Tryz.underlying26
 have HO0_7 := Aside0.mk (show Kd.R (Kd.int .i64) 3 w w0.heap.size (fun k_ => (P0_7_ k_ ∨ w.heap.size ≤ k_)) u9000_ l0_7 from Kd.R_mono ho0_7 (fun k_ hk => (.inl hk)))
 have HK := Aside0.mk (Kept.refl w (fun k_ => P0_7_ k_))
 have HW0 := Aside0.mk hB.size
 have HB := Aside0.mk hB
 clear hB
 have H := h
 clear h
 unfold spec_l8Lay.f at H
 by_cases c4 : a1 = 6
 ·rw [if_pos c4] at H
  have c4b0 : (a1 == 6) = true := beq_iff_eq.mpr c4
  have c4b1 : (a1 != 6) = false := bne_eq_false_iff_eq.mpr c4
  clear c4
  obtain ⟨⟨t555,t556⟩,A50,H⟩ := Option.bind_eq_some_iff.mp H
  try dsimp only at H
  have A5 := Aside0.mk A50
  clear A50
  by_cases c6 : t556 = true
  ·subst c6
   rw [if_pos rfl] at H
   simp only [Option.some.injEq,Prod.mk.injEq] at H
   obtain ⟨rfl,rfl,rfl,rfl,rfl,rfl,rfl,rfl,rfl⟩ := H
   obtain ⟨Ao7,co7,eo7⟩ := Kd.R_slice HO0_7.out
   subst eo7
   go_enter Tryz.func37,Tryz.ntmps37
   go_wp2_with (first | ((with_reducible refine gate_dst (N := 3) rfl ?_);refine bE 3 #[.int .i64 a0_0,.int .i64 a0_1,.int .i64 a0_2,.int .i64 a0_3,.int .i64 a0_4,.int .i64 a0_5,.int .i64 a0_6,.slice Ao7 l0_7.length co7] 26 (h := ?_);intro gb553 hg wq1 hbox hb;have n_ := Z33;clear HO0_7 HK HB;obtain ⟨HO0_7,HK,HB,BK553,GW553,GE553⟩ := n_;clear hb hbox hg) | ((with_reducible refine gate_dst (N := 6) rfl ?_);refine bE 6 #[.int .i64 0,.int .i64 0,.int .i64 0,.int .i64 0,.int .i64 0,.int .i64 0,.int .i64 0,.slice none 0 0] 26 (h := ?_);intro gb554 hg wq2 hbox hb;have n_ := jA (Kd.R_below Z257 hb) (jA (blk_below (g := gb553) (o := .cells #[.int .i64 a0_0,.int .i64 a0_1,.int .i64 a0_2,.int .i64 a0_3,.int .i64 a0_4,.int .i64 a0_5,.int .i64 a0_6,.slice Ao7 l0_7.length co7] 26 (0,0)) Z175 hb) (jA (Kept.below (S := (fun k_ => P0_7_ k_)) Z239 hb) (jA (below_step Z243 hb) (jA (hbox) (jA ((Z284 : w.heap.size ≤ gb554)) (jA ((Z96 : w0.heap.size ≤ gb554)) (jA ((by rw [hg];exact Nat.ne_of_lt (blk_lt (g := gb553) (o := .cells #[.int .i64 a0_0,.int .i64 a0_1,.int .i64 a0_2,.int .i64 a0_3,.int .i64 a0_4,.int .i64 a0_5,.int .i64 a0_6,.slice Ao7 l0_7.length co7] 26 (0,0)) Z175) : gb553 ≠ gb554)) (Aside0.mk ((by rw [hg];exact Nat.ne_of_gt (blk_lt (g := gb553) (o := .cells #[.int .i64 a0_0,.int .i64 a0_1,.int .i64 a0_2,.int .i64 a0_3,.int .i64 a0_4,.int .i64 a0_5,.int .i64 a0_6,.slice Ao7 l0_7.length co7] 26 (0,0)) Z175) : gb554 ≠ gb553))))))))));clear HO0_7 BK553 HK HB;obtain ⟨HO0_7,BK553,HK,HB,BK554,GW554,GE554,NB553_554,NB554_553⟩ := n_;clear hb hbox hg) | ((with_reducible refine gate_callee (f := 56) rfl ?_);refine goesL_ (some 19) rfl rfl Tryz.func56 Z190 rfl #[.string a2] rfl Z130 ?_;(with_reducible refine (spec_l8Signs.calls k a2 t555 true _ A5.out).mono ?_);rintro e wq3 ⟨vq4,rfl,hoq5,hb⟩;refine ⟨_,rfl,?_⟩;have n_ := jA (Kd.R_elder' Z257 (Kd.R_base hoq5) hb) (jA (Kd.R_lower (Kd.R_new' (Kd.R_newM (M := fun k_ => (P0_7_ k_ ∨ w.heap.size ≤ k_)) hoq5 Z63 (fun k_ h_ => .inr h_)) (Kd.R_lt Z257)) (below_size Z94)) (jA (blk_below (g := gb553) (o := .cells #[.int .i64 a0_0,.int .i64 a0_1,.int .i64 a0_2,.int .i64 a0_3,.int .i64 a0_4,.int .i64 a0_5,.int .i64 a0_6,.slice Ao7 l0_7.length co7] 26 (0,0)) Z175 hb) (jA (blk_below (g := gb554) (o := .cells #[.int .i64 0,.int .i64 0,.int .i64 0,.int .i64 0,.int .i64 0,.int .i64 0,.int .i64 0,.slice none 0 0] 26 (0,0)) Z176 hb) (jA (Kept.below (S := (fun k_ => P0_7_ k_)) Z219 hb) (Aside0.mk (below_step Z94 hb))))));clear HO0_7 BK553 BK554 HK HB;obtain ⟨HO0_7,HO558,BK553,BK554,HK,HB⟩ := n_;(try clear hb);(try clear hb2);(try clear hk);(try clear hi);(try clear hoq5);obtain ⟨Aoq6,coq6,eoq6⟩ := Kd.R_slice HO558.out;subst eoq6;have hnbq7 := NB553_554.out;have hncq7 := NB554_553.out;obtain ⟨hczq8_0,hczq8_1,hczq8_2,hczq8_3,hczq8_4,hczq8_5,hczq8_6,hczq8_7,hfzq8_0,hfzq8_1,hfzq8_2,hfzq8_3,hfzq8_4,hfzq8_5,hfzq8_6,hfzq8_7⟩ := cells8 BK553.out;obtain ⟨hczq9_0,hczq9_1,hczq9_2,hczq9_3,hczq9_4,hczq9_5,hczq9_6,hczq9_7,hfzq9_0,hfzq9_1,hfzq9_2,hfzq9_3,hfzq9_4,hfzq9_5,hfzq9_6,hfzq9_7⟩ := cells8 BK554.out))
   refine bodyPost_ret (results_ct rfl _ _ gb554 26 #[.int .i64 a0_0,.int .i64 a0_1,.int .i64 a0_2,.int .i64 a0_3,.int .i64 a0_4,.int .i64 a0_5,.int .i64 a0_6,.slice Aoq6 t555.length coq6] (0,0) _ rfl Z23 Tryz.underlying26 rfl Z190) rfl ?_
   exact ⟨_,Z152,Z36,Z94,Z219⟩
  replace c6 := Bool.eq_false_iff.mpr c6
  subst c6
  rw [if_neg Bool.false_ne_true] at H
  simp only [Option.some.injEq,Prod.mk.injEq] at H
  obtain ⟨rfl,rfl,rfl,rfl,rfl,rfl,rfl,rfl,rfl⟩ := H
  obtain ⟨Ao15,co15,eo15⟩ := Kd.R_slice HO0_7.out
  subst eo15
  go_enter Tryz.func37,Tryz.ntmps37
  go_wp2_with (first | ((with_reducible refine gate_dst (N := 3) rfl ?_);refine bE 3 #[.int .i64 a0_0,.int .i64 a0_1,.int .i64 a0_2,.int .i64 a0_3,.int .i64 a0_4,.int .i64 a0_5,.int .i64 a0_6,.slice Ao15 l0_7.length co15] 26 (h := ?_);intro gb553 hg wq1 hbox hb;have n_ := Z33;clear HO0_7 HK HB;obtain ⟨HO0_7,HK,HB,BK553,GW553,GE553⟩ := n_;clear hb hbox hg) | ((with_reducible refine gate_dst (N := 6) rfl ?_);refine bE 6 #[.int .i64 0,.int .i64 0,.int .i64 0,.int .i64 0,.int .i64 0,.int .i64 0,.int .i64 0,.slice none 0 0] 26 (h := ?_);intro gb554 hg wq2 hbox hb;have n_ := jA (Kd.R_below Z257 hb) (jA (blk_below (g := gb553) (o := .cells #[.int .i64 a0_0,.int .i64 a0_1,.int .i64 a0_2,.int .i64 a0_3,.int .i64 a0_4,.int .i64 a0_5,.int .i64 a0_6,.slice Ao15 l0_7.length co15] 26 (0,0)) Z175 hb) (jA (Kept.below (S := (fun k_ => P0_7_ k_)) Z239 hb) (jA (below_step Z243 hb) (jA (hbox) (jA ((Z284 : w.heap.size ≤ gb554)) (jA ((Z96 : w0.heap.size ≤ gb554)) (jA ((by rw [hg];exact Nat.ne_of_lt (blk_lt (g := gb553) (o := .cells #[.int .i64 a0_0,.int .i64 a0_1,.int .i64 a0_2,.int .i64 a0_3,.int .i64 a0_4,.int .i64 a0_5,.int .i64 a0_6,.slice Ao15 l0_7.length co15] 26 (0,0)) Z175) : gb553 ≠ gb554)) (Aside0.mk ((by rw [hg];exact Nat.ne_of_gt (blk_lt (g := gb553) (o := .cells #[.int .i64 a0_0,.int .i64 a0_1,.int .i64 a0_2,.int .i64 a0_3,.int .i64 a0_4,.int .i64 a0_5,.int .i64 a0_6,.slice Ao15 l0_7.length co15] 26 (0,0)) Z175) : gb554 ≠ gb553))))))))));clear HO0_7 BK553 HK HB;obtain ⟨HO0_7,BK553,HK,HB,BK554,GW554,GE554,NB553_554,NB554_553⟩ := n_;clear hb hbox hg) | ((with_reducible refine gate_callee (f := 56) rfl ?_);refine goesL_ (some 19) rfl rfl Tryz.func56 Z190 rfl #[.string a2] rfl Z130 ?_;(with_reducible refine (spec_l8Signs.calls k a2 t555 false _ A5.out).mono ?_);rintro e wq3 ⟨vq4,rfl,hoq5,hb⟩;refine ⟨_,rfl,?_⟩;have n_ := jA (Kd.R_elder' Z257 (Kd.R_base hoq5) hb) (jA (Kd.R_lower (Kd.R_new' (Kd.R_newM (M := fun k_ => (P0_7_ k_ ∨ w.heap.size ≤ k_)) hoq5 Z63 (fun k_ h_ => .inr h_)) (Kd.R_lt Z257)) (below_size Z94)) (jA (blk_below (g := gb553) (o := .cells #[.int .i64 a0_0,.int .i64 a0_1,.int .i64 a0_2,.int .i64 a0_3,.int .i64 a0_4,.int .i64 a0_5,.int .i64 a0_6,.slice Ao15 l0_7.length co15] 26 (0,0)) Z175 hb) (jA (blk_below (g := gb554) (o := .cells #[.int .i64 0,.int .i64 0,.int .i64 0,.int .i64 0,.int .i64 0,.int .i64 0,.int .i64 0,.slice none 0 0] 26 (0,0)) Z176 hb) (jA (Kept.below (S := (fun k_ => P0_7_ k_)) Z219 hb) (Aside0.mk (below_step Z94 hb))))));clear HO0_7 BK553 BK554 HK HB;obtain ⟨HO0_7,HO558,BK553,BK554,HK,HB⟩ := n_;(try clear hb);(try clear hb2);(try clear hk);(try clear hi);(try clear hoq5);obtain ⟨Aoq6,coq6,eoq6⟩ := Kd.R_slice HO558.out;subst eoq6;have hnbq7 := NB553_554.out;have hncq7 := NB554_553.out;obtain ⟨hczq8_0,hczq8_1,hczq8_2,hczq8_3,hczq8_4,hczq8_5,hczq8_6,hczq8_7,hfzq8_0,hfzq8_1,hfzq8_2,hfzq8_3,hfzq8_4,hfzq8_5,hfzq8_6,hfzq8_7⟩ := cells8 BK553.out;obtain ⟨hczq9_0,hczq9_1,hczq9_2,hczq9_3,hczq9_4,hczq9_5,hczq9_6,hczq9_7,hfzq9_0,hfzq9_1,hfzq9_2,hfzq9_3,hfzq9_4,hfzq9_5,hfzq9_6,hfzq9_7⟩ := cells8 BK554.out))
  refine bodyPost_ret (results_ct rfl _ _ gb554 26 #[.int .i64 a0_0,.int .i64 a0_1,.int .i64 a0_2,.int .i64 a0_3,.int .i64 a0_4,.int .i64 a0_5,.int .i64 a0_6,.slice Aoq6 t555.length coq6] (0,0) _ rfl Z23 Tryz.underlying26 rfl Z190) rfl ?_
  exact ⟨_,Z152,Z36,Z94,Z219⟩
 rw [if_neg c4] at H
 have c4b0 : (a1 == 6) = false := beq_eq_false_iff_ne.mpr c4
 have c4b1 : (a1 != 6) = true := bne_iff_ne.mpr c4
 by_cases c23 : a1 = 5
 ·rw [if_pos c23] at H
  have c23b0 : (a1 == 5) = true := beq_iff_eq.mpr c23
  have c23b1 : (a1 != 5) = false := bne_eq_false_iff_eq.mpr c23
  clear c23
  obtain ⟨⟨t559,t560,t561⟩,A240,H⟩ := Option.bind_eq_some_iff.mp H
  try dsimp only at H
  have A24 := Aside0.mk A240
  clear A240
  simp only [Option.some.injEq,Prod.mk.injEq] at H
  obtain ⟨rfl,rfl,rfl,rfl,rfl,rfl,rfl,rfl,rfl⟩ := H
  obtain ⟨Ao25,co25,eo25⟩ := Kd.R_slice HO0_7.out
  subst eo25
  go_enter Tryz.func37,Tryz.ntmps37
  go_wp2_with (first | ((with_reducible refine gate_dst (N := 3) rfl ?_);refine bE 3 #[.int .i64 a0_0,.int .i64 a0_1,.int .i64 a0_2,.int .i64 a0_3,.int .i64 a0_4,.int .i64 a0_5,.int .i64 a0_6,.slice Ao25 l0_7.length co25] 26 (h := ?_);intro gb553 hg wq1 hbox hb;have n_ := Z33;clear HO0_7 HK HB;obtain ⟨HO0_7,HK,HB,BK553,GW553,GE553⟩ := n_;clear hb hbox hg) | ((with_reducible refine gate_dst (N := 6) rfl ?_);refine bE 6 #[.int .i64 0,.int .i64 0,.int .i64 0,.int .i64 0,.int .i64 0,.int .i64 0,.int .i64 0,.slice none 0 0] 26 (h := ?_);intro gb554 hg wq2 hbox hb;have n_ := jA (Kd.R_below Z257 hb) (jA (blk_below (g := gb553) (o := .cells #[.int .i64 a0_0,.int .i64 a0_1,.int .i64 a0_2,.int .i64 a0_3,.int .i64 a0_4,.int .i64 a0_5,.int .i64 a0_6,.slice Ao25 l0_7.length co25] 26 (0,0)) Z175 hb) (jA (Kept.below (S := (fun k_ => P0_7_ k_)) Z239 hb) (jA (below_step Z243 hb) (jA (hbox) (jA ((Z284 : w.heap.size ≤ gb554)) (jA ((Z96 : w0.heap.size ≤ gb554)) (jA ((by rw [hg];exact Nat.ne_of_lt (blk_lt (g := gb553) (o := .cells #[.int .i64 a0_0,.int .i64 a0_1,.int .i64 a0_2,.int .i64 a0_3,.int .i64 a0_4,.int .i64 a0_5,.int .i64 a0_6,.slice Ao25 l0_7.length co25] 26 (0,0)) Z175) : gb553 ≠ gb554)) (Aside0.mk ((by rw [hg];exact Nat.ne_of_gt (blk_lt (g := gb553) (o := .cells #[.int .i64 a0_0,.int .i64 a0_1,.int .i64 a0_2,.int .i64 a0_3,.int .i64 a0_4,.int .i64 a0_5,.int .i64 a0_6,.slice Ao25 l0_7.length co25] 26 (0,0)) Z175) : gb554 ≠ gb553))))))))));clear HO0_7 BK553 HK HB;obtain ⟨HO0_7,BK553,HK,HB,BK554,GW554,GE554,NB553_554,NB554_553⟩ := n_;clear hb hbox hg) | ((with_reducible refine gate_callee (f := 57) rfl ?_);refine goesL_ (some 32) rfl rfl Tryz.func57 Z190 rfl #[.string a2] rfl Z130 ?_;(with_reducible refine (spec_l8Rate.calls k a2 t559 t560 t561 _ A24.out).mono ?_);rintro e wq3 ⟨rfl,hb⟩;refine ⟨_,rfl,?_⟩;have n_ := jA (Kd.R_below Z257 hb) (jA (blk_below (g := gb553) (o := .cells #[.int .i64 a0_0,.int .i64 a0_1,.int .i64 a0_2,.int .i64 a0_3,.int .i64 a0_4,.int .i64 a0_5,.int .i64 a0_6,.slice Ao25 l0_7.length co25] 26 (0,0)) Z175 hb) (jA (blk_below (g := gb554) (o := .cells #[.int .i64 0,.int .i64 0,.int .i64 0,.int .i64 0,.int .i64 0,.int .i64 0,.int .i64 0,.slice none 0 0] 26 (0,0)) Z176 hb) (jA (Kept.below (S := (fun k_ => P0_7_ k_)) Z219 hb) (Aside0.mk (below_step Z94 hb)))));clear HO0_7 BK553 BK554 HK HB;obtain ⟨HO0_7,BK553,BK554,HK,HB⟩ := n_;(try clear hb);(try clear hb2);(try clear hk);(try clear hi);have hnbq4 := NB553_554.out;have hncq4 := NB554_553.out;obtain ⟨hczq5_0,hczq5_1,hczq5_2,hczq5_3,hczq5_4,hczq5_5,hczq5_6,hczq5_7,hfzq5_0,hfzq5_1,hfzq5_2,hfzq5_3,hfzq5_4,hfzq5_5,hfzq5_6,hfzq5_7⟩ := cells8 BK553.out;obtain ⟨hczq6_0,hczq6_1,hczq6_2,hczq6_3,hczq6_4,hczq6_5,hczq6_6,hczq6_7,hfzq6_0,hfzq6_1,hfzq6_2,hfzq6_3,hfzq6_4,hfzq6_5,hfzq6_6,hfzq6_7⟩ := cells8 BK554.out))
  refine bodyPost_ret (results_ct rfl _ _ gb554 26 #[.int .i64 a0_0,.int .i64 a0_1,.int .i64 a0_2,.int .i64 a0_3,.int .i64 a0_4,.int .i64 t559,.int .i64 t560,.slice Ao25 l0_7.length co25] (0,0) _ rfl (by refine bP ?_;refine blk_put (cs := #[.int .i64 a0_0,.int .i64 a0_1,.int .i64 a0_2,.int .i64 a0_3,.int .i64 a0_4,.int .i64 t559,.int .i64 t560,.slice none 0 0]) ?_ 7 _ rfl;refine bP ?_;refine blk_put (cs := #[.int .i64 a0_0,.int .i64 a0_1,.int .i64 a0_2,.int .i64 a0_3,.int .i64 a0_4,.int .i64 t559,.int .i64 0,.slice none 0 0]) ?_ 6 _ rfl;refine bP ?_;refine blk_put (cs := #[.int .i64 a0_0,.int .i64 a0_1,.int .i64 a0_2,.int .i64 a0_3,.int .i64 a0_4,.int .i64 0,.int .i64 0,.slice none 0 0]) ?_ 5 _ rfl;refine bP ?_;refine blk_put (cs := #[.int .i64 a0_0,.int .i64 a0_1,.int .i64 a0_2,.int .i64 a0_3,.int .i64 0,.int .i64 0,.int .i64 0,.slice none 0 0]) ?_ 4 _ rfl;refine bP ?_;refine blk_put (cs := #[.int .i64 a0_0,.int .i64 a0_1,.int .i64 a0_2,.int .i64 0,.int .i64 0,.int .i64 0,.int .i64 0,.slice none 0 0]) ?_ 3 _ rfl;refine bP ?_;refine blk_put (cs := #[.int .i64 a0_0,.int .i64 a0_1,.int .i64 0,.int .i64 0,.int .i64 0,.int .i64 0,.int .i64 0,.slice none 0 0]) ?_ 2 _ rfl;refine bP ?_;refine blk_put (cs := #[.int .i64 a0_0,.int .i64 0,.int .i64 0,.int .i64 0,.int .i64 0,.int .i64 0,.int .i64 0,.slice none 0 0]) ?_ 1 _ rfl;refine bP ?_;refine blk_put (cs := #[.int .i64 0,.int .i64 0,.int .i64 0,.int .i64 0,.int .i64 0,.int .i64 0,.int .i64 0,.slice none 0 0]) ?_ 0 _ rfl;refine bP ?_;refine blk_far ?_ NB554_553.out _;refine bP ?_;refine blk_far ?_ NB554_553.out _;refine bP ?_;exact BK554.out) Tryz.underlying26 rfl Z190) rfl ?_
  exact ⟨_,Z152,by (with_reducible repeat (first | apply Kd.R_alloc | apply Kd.R_drewN | apply Kd.R_drew));exact Kd.R_mono (Kd.R_far (p := ⟨gb554,7,none⟩) (Kd.R_far (p := ⟨gb554,6,none⟩) (Kd.R_far (p := ⟨gb554,5,none⟩) (Kd.R_far (p := ⟨gb554,4,none⟩) (Kd.R_far (p := ⟨gb554,3,none⟩) (Kd.R_far (p := ⟨gb554,2,none⟩) (Kd.R_far (p := ⟨gb554,1,none⟩) (Kd.R_far (p := ⟨gb554,0,none⟩) (Kd.R_far (p := ⟨gb553,6,none⟩) (Kd.R_far (p := ⟨gb553,5,none⟩) (Kd.R_types (Kd.R_types HO0_7.out BK553.out Z306) BK554.out Z306) (fun _ hk => hk.1.2) (.int .i64 t559)) (fun _ hk => hk.1.2) (.int .i64 t560)) (fun _ hk => hk.2) (.int .i64 a0_0)) (fun _ hk => hk.2) (.int .i64 a0_1)) (fun _ hk => hk.2) (.int .i64 a0_2)) (fun _ hk => hk.2) (.int .i64 a0_3)) (fun _ hk => hk.2) (.int .i64 a0_4)) (fun _ hk => hk.2) (.int .i64 t559)) (fun _ hk => hk.2) (.int .i64 t560)) (fun _ hk => hk.2) (.slice Ao25 l0_7.length co25)) (fun _ hk => hk.1.1),Z94,Z219⟩
 rw [if_neg c23] at H
 have c23b0 : (a1 == 5) = false := beq_eq_false_iff_ne.mpr c23
 have c23b1 : (a1 != 5) = true := bne_iff_ne.mpr c23
 obtain ⟨⟨t562,t563⟩,A320,H⟩ := Option.bind_eq_some_iff.mp H
 try dsimp only at H
 have A32 := Aside0.mk A320
 clear A320
 by_cases c33 : t563 = true
 rotate_left
 ·replace c33 := Bool.eq_false_iff.mpr c33
  subst c33
  rw [if_neg Bool.false_ne_true] at H
  simp only [Option.some.injEq,Prod.mk.injEq] at H
  obtain ⟨rfl,rfl,rfl,rfl,rfl,rfl,rfl,rfl,rfl⟩ := H
  obtain ⟨Ao76,co76,eo76⟩ := Kd.R_slice HO0_7.out
  subst eo76
  go_enter Tryz.func37,Tryz.ntmps37
  go_wp2_with (first | ((with_reducible refine gate_dst (N := 3) rfl ?_);refine bE 3 #[.int .i64 a0_0,.int .i64 a0_1,.int .i64 a0_2,.int .i64 a0_3,.int .i64 a0_4,.int .i64 a0_5,.int .i64 a0_6,.slice Ao76 l0_7.length co76] 26 (h := ?_);intro gb553 hg wq1 hbox hb;have n_ := Z33;clear HO0_7 HK HB;obtain ⟨HO0_7,HK,HB,BK553,GW553,GE553⟩ := n_;clear hb hbox hg) | ((with_reducible refine gate_dst (N := 6) rfl ?_);refine bE 6 #[.int .i64 0,.int .i64 0,.int .i64 0,.int .i64 0,.int .i64 0,.int .i64 0,.int .i64 0,.slice none 0 0] 26 (h := ?_);intro gb554 hg wq2 hbox hb;have n_ := jA (Kd.R_below Z257 hb) (jA (blk_below (g := gb553) (o := .cells #[.int .i64 a0_0,.int .i64 a0_1,.int .i64 a0_2,.int .i64 a0_3,.int .i64 a0_4,.int .i64 a0_5,.int .i64 a0_6,.slice Ao76 l0_7.length co76] 26 (0,0)) Z175 hb) (jA (Kept.below (S := (fun k_ => P0_7_ k_)) Z239 hb) (jA (below_step Z243 hb) (jA (hbox) (jA ((Z284 : w.heap.size ≤ gb554)) (jA ((Z96 : w0.heap.size ≤ gb554)) (jA ((by rw [hg];exact Nat.ne_of_lt (blk_lt (g := gb553) (o := .cells #[.int .i64 a0_0,.int .i64 a0_1,.int .i64 a0_2,.int .i64 a0_3,.int .i64 a0_4,.int .i64 a0_5,.int .i64 a0_6,.slice Ao76 l0_7.length co76] 26 (0,0)) Z175) : gb553 ≠ gb554)) (Aside0.mk ((by rw [hg];exact Nat.ne_of_gt (blk_lt (g := gb553) (o := .cells #[.int .i64 a0_0,.int .i64 a0_1,.int .i64 a0_2,.int .i64 a0_3,.int .i64 a0_4,.int .i64 a0_5,.int .i64 a0_6,.slice Ao76 l0_7.length co76] 26 (0,0)) Z175) : gb554 ≠ gb553))))))))));clear HO0_7 BK553 HK HB;obtain ⟨HO0_7,BK553,HK,HB,BK554,GW554,GE554,NB553_554,NB554_553⟩ := n_;clear hb hbox hg) | ((with_reducible refine gate_callee (f := 58) rfl ?_);refine goesL_ (some 44) rfl rfl Tryz.func58 Z190 rfl #[.string a2] rfl Z130 ?_;(with_reducible refine (spec_Number.calls k a2 t562 false _ A32.out).mono ?_);rintro e wq3 ⟨rfl,hb⟩;refine ⟨_,rfl,?_⟩;have n_ := jA (Kd.R_below Z257 hb) (jA (blk_below (g := gb553) (o := .cells #[.int .i64 a0_0,.int .i64 a0_1,.int .i64 a0_2,.int .i64 a0_3,.int .i64 a0_4,.int .i64 a0_5,.int .i64 a0_6,.slice Ao76 l0_7.length co76] 26 (0,0)) Z175 hb) (jA (blk_below (g := gb554) (o := .cells #[.int .i64 0,.int .i64 0,.int .i64 0,.int .i64 0,.int .i64 0,.int .i64 0,.int .i64 0,.slice none 0 0] 26 (0,0)) Z176 hb) (jA (Kept.below (S := (fun k_ => P0_7_ k_)) Z219 hb) (Aside0.mk (below_step Z94 hb)))));clear HO0_7 BK553 BK554 HK HB;obtain ⟨HO0_7,BK553,BK554,HK,HB⟩ := n_;(try clear hb);(try clear hb2);(try clear hk);(try clear hi);have hnbq4 := NB553_554.out;have hncq4 := NB554_553.out;obtain ⟨hczq5_0,hczq5_1,hczq5_2,hczq5_3,hczq5_4,hczq5_5,hczq5_6,hczq5_7,hfzq5_0,hfzq5_1,hfzq5_2,hfzq5_3,hfzq5_4,hfzq5_5,hfzq5_6,hfzq5_7⟩ := cells8 BK553.out;obtain ⟨hczq6_0,hczq6_1,hczq6_2,hczq6_3,hczq6_4,hczq6_5,hczq6_6,hczq6_7,hfzq6_0,hfzq6_1,hfzq6_2,hfzq6_3,hfzq6_4,hfzq6_5,hfzq6_6,hfzq6_7⟩ := cells8 BK554.out))
  refine bodyPost_ret (results_ct rfl _ _ gb554 26 #[.int .i64 a0_0,.int .i64 a0_1,.int .i64 a0_2,.int .i64 a0_3,.int .i64 a0_4,.int .i64 a0_5,.int .i64 a0_6,.slice Ao76 l0_7.length co76] (0,0) _ rfl (by refine bP ?_;refine blk_put (cs := #[.int .i64 a0_0,.int .i64 a0_1,.int .i64 a0_2,.int .i64 a0_3,.int .i64 a0_4,.int .i64 a0_5,.int .i64 a0_6,.slice none 0 0]) ?_ 7 _ rfl;refine bP ?_;refine blk_put (cs := #[.int .i64 a0_0,.int .i64 a0_1,.int .i64 a0_2,.int .i64 a0_3,.int .i64 a0_4,.int .i64 a0_5,.int .i64 0,.slice none 0 0]) ?_ 6 _ rfl;refine bP ?_;refine blk_put (cs := #[.int .i64 a0_0,.int .i64 a0_1,.int .i64 a0_2,.int .i64 a0_3,.int .i64 a0_4,.int .i64 0,.int .i64 0,.slice none 0 0]) ?_ 5 _ rfl;refine bP ?_;refine blk_put (cs := #[.int .i64 a0_0,.int .i64 a0_1,.int .i64 a0_2,.int .i64 a0_3,.int .i64 0,.int .i64 0,.int .i64 0,.slice none 0 0]) ?_ 4 _ rfl;refine bP ?_;refine blk_put (cs := #[.int .i64 a0_0,.int .i64 a0_1,.int .i64 a0_2,.int .i64 0,.int .i64 0,.int .i64 0,.int .i64 0,.slice none 0 0]) ?_ 3 _ rfl;refine bP ?_;refine blk_put (cs := #[.int .i64 a0_0,.int .i64 a0_1,.int .i64 0,.int .i64 0,.int .i64 0,.int .i64 0,.int .i64 0,.slice none 0 0]) ?_ 2 _ rfl;refine bP ?_;refine blk_put (cs := #[.int .i64 a0_0,.int .i64 0,.int .i64 0,.int .i64 0,.int .i64 0,.int .i64 0,.int .i64 0,.slice none 0 0]) ?_ 1 _ rfl;refine bP ?_;refine blk_put (cs := #[.int .i64 0,.int .i64 0,.int .i64 0,.int .i64 0,.int .i64 0,.int .i64 0,.int .i64 0,.slice none 0 0]) ?_ 0 _ rfl;refine bP ?_;exact BK554.out) Tryz.underlying26 rfl Z190) rfl ?_
  exact ⟨_,Z152,by (with_reducible repeat (first | apply Kd.R_alloc | apply Kd.R_drewN | apply Kd.R_drew));exact Kd.R_mono (Kd.R_far (p := ⟨gb554,7,none⟩) (Kd.R_far (p := ⟨gb554,6,none⟩) (Kd.R_far (p := ⟨gb554,5,none⟩) (Kd.R_far (p := ⟨gb554,4,none⟩) (Kd.R_far (p := ⟨gb554,3,none⟩) (Kd.R_far (p := ⟨gb554,2,none⟩) (Kd.R_far (p := ⟨gb554,1,none⟩) (Kd.R_far (p := ⟨gb554,0,none⟩) (Kd.R_types HO0_7.out BK554.out Z306) (fun _ hk => hk.2) (.int .i64 a0_0)) (fun _ hk => hk.2) (.int .i64 a0_1)) (fun _ hk => hk.2) (.int .i64 a0_2)) (fun _ hk => hk.2) (.int .i64 a0_3)) (fun _ hk => hk.2) (.int .i64 a0_4)) (fun _ hk => hk.2) (.int .i64 a0_5)) (fun _ hk => hk.2) (.int .i64 a0_6)) (fun _ hk => hk.2) (.slice Ao76 l0_7.length co76)) (fun _ hk => hk.1),Z94,Z219⟩
 subst c33
 rw [if_pos rfl] at H
 have HC34 := Aside0.mk H
 clear H
 obtain ⟨Ao35,co35,eo35⟩ := Kd.R_slice HO0_7.out
 subst eo35
 go_enter Tryz.func37,Tryz.ntmps37
 go_upto_block 0 with (first | ((with_reducible refine gate_dst (N := 3) rfl ?_);refine bE 3 #[.int .i64 a0_0,.int .i64 a0_1,.int .i64 a0_2,.int .i64 a0_3,.int .i64 a0_4,.int .i64 a0_5,.int .i64 a0_6,.slice Ao35 l0_7.length co35] 26 (h := ?_);intro gb553 hg w36 hbox hb;have n_ := Z33;clear HO0_7 HK HB;obtain ⟨HO0_7,HK,HB,BK553,GW553,GE553⟩ := n_;clear hb hbox hg) | ((with_reducible refine gate_dst (N := 6) rfl ?_);refine bE 6 #[.int .i64 0,.int .i64 0,.int .i64 0,.int .i64 0,.int .i64 0,.int .i64 0,.int .i64 0,.slice none 0 0] 26 (h := ?_);intro gb554 hg w37 hbox hb;have n_ := jA (Kd.R_below Z257 hb) (jA (blk_below (g := gb553) (o := .cells #[.int .i64 a0_0,.int .i64 a0_1,.int .i64 a0_2,.int .i64 a0_3,.int .i64 a0_4,.int .i64 a0_5,.int .i64 a0_6,.slice Ao35 l0_7.length co35] 26 (0,0)) Z175 hb) (jA (Kept.below (S := (fun k_ => P0_7_ k_)) Z239 hb) (jA (below_step Z243 hb) (jA (hbox) (jA ((Z284 : w.heap.size ≤ gb554)) (jA ((Z96 : w0.heap.size ≤ gb554)) (jA ((by rw [hg];exact Nat.ne_of_lt (blk_lt (g := gb553) (o := .cells #[.int .i64 a0_0,.int .i64 a0_1,.int .i64 a0_2,.int .i64 a0_3,.int .i64 a0_4,.int .i64 a0_5,.int .i64 a0_6,.slice Ao35 l0_7.length co35] 26 (0,0)) Z175) : gb553 ≠ gb554)) (Aside0.mk ((by rw [hg];exact Nat.ne_of_gt (blk_lt (g := gb553) (o := .cells #[.int .i64 a0_0,.int .i64 a0_1,.int .i64 a0_2,.int .i64 a0_3,.int .i64 a0_4,.int .i64 a0_5,.int .i64 a0_6,.slice Ao35 l0_7.length co35] 26 (0,0)) Z175) : gb554 ≠ gb553))))))))));clear HO0_7 BK553 HK HB;obtain ⟨HO0_7,BK553,HK,HB,BK554,GW554,GE554,NB553_554,NB554_553⟩ := n_;clear hb hbox hg) | ((with_reducible refine gate_callee (f := 58) rfl ?_);refine goesL_ (some 44) rfl rfl Tryz.func58 Z190 rfl #[.string a2] rfl Z130 ?_;(with_reducible refine (spec_Number.calls k a2 t562 true _ A32.out).mono ?_);rintro e w38 ⟨rfl,hb⟩;refine ⟨_,rfl,?_⟩;have n_ := jA (Kd.R_below Z257 hb) (jA (blk_below (g := gb553) (o := .cells #[.int .i64 a0_0,.int .i64 a0_1,.int .i64 a0_2,.int .i64 a0_3,.int .i64 a0_4,.int .i64 a0_5,.int .i64 a0_6,.slice Ao35 l0_7.length co35] 26 (0,0)) Z175 hb) (jA (blk_below (g := gb554) (o := .cells #[.int .i64 0,.int .i64 0,.int .i64 0,.int .i64 0,.int .i64 0,.int .i64 0,.int .i64 0,.slice none 0 0] 26 (0,0)) Z176 hb) (jA (Kept.below (S := (fun k_ => P0_7_ k_)) Z219 hb) (Aside0.mk (below_step Z94 hb)))));clear HO0_7 BK553 BK554 HK HB;obtain ⟨HO0_7,BK553,BK554,HK,HB⟩ := n_;(try clear hb);(try clear hb2);(try clear hk);(try clear hi)))
 (try simp only [Act.put,List.setIfInBounds_toArray,List.set_cons_zero,List.set_cons_succ])
 go_cut [] (fun wc => ∃ (kq : Nat) (x554000_33 : Int) (x554001_33 : Int) (x554002_33 : Int) (x554003_33 : Int) (x554004_33 : Int),Aside0 (spec_l8Lay.j0 kq a1 t562 x554000_33 x554001_33 x554002_33 x554003_33 x554004_33 a0_5 a0_6 l0_7 = some (r1,r2,r3,r4,r5,r6,r7,r8,r9)) ∧ Aside0 (kq ≤ k) ∧ Aside0 (Kd.R (Kd.int .i64) 3 wc w0.heap.size (fun k_ => (P0_7_ k_ ∨ w.heap.size ≤ k_)) (.slice Ao35 l0_7.length co35) l0_7) ∧ Aside0 (wc.heap[gb553]? = some (.cells #[.int .i64 x554000_33,.int .i64 x554001_33,.int .i64 x554002_33,.int .i64 x554003_33,.int .i64 x554004_33,.int .i64 a0_5,.int .i64 a0_6,(.slice Ao35 l0_7.length co35)] 26 (0,0))) ∧ Aside0 (wc.heap[gb554]? = some (.cells #[.int .i64 0,.int .i64 0,.int .i64 0,.int .i64 0,.int .i64 0,.int .i64 0,.int .i64 0,(.slice none 0 0)] 26 (0,0))) ∧ Aside0 (Kept w wc (fun k_ => P0_7_ k_)) ∧ Aside0 (Below w0.heap.size w0 wc))
 case first =>
  have H := HC34.out
  clear HC34
  by_cases c39 : a1 = 0
  ·rw [if_pos c39] at H
   have c39b0 : (a1 == 0) = true := beq_iff_eq.mpr c39
   have c39b1 : (a1 != 0) = false := bne_eq_false_iff_eq.mpr c39
   clear c39
   (first | rw [c39b0] | (simp only [i64_w,i32_w];rw [c39b0]) | skip)
   have H' := Aside0.mk H
   clear H
   have hnb40 := NB553_554.out
   have hnc40 := NB554_553.out
   obtain ⟨hcz41_0,hcz41_1,hcz41_2,hcz41_3,hcz41_4,hcz41_5,hcz41_6,hcz41_7,hfz41_0,hfz41_1,hfz41_2,hfz41_3,hfz41_4,hfz41_5,hfz41_6,hfz41_7⟩ := cells8 BK553.out
   go_wp2
   go_meet
   case rel => exact ⟨_,(t562),(a0_1),(a0_2),(a0_3),(a0_4),H',⟨Z169⟩,⟨by (with_reducible repeat (first | apply Kd.R_alloc | apply Kd.R_drewN | apply Kd.R_drew));exact Kd.R_mono (Kd.R_far (p := ⟨gb553,0,none⟩) (Kd.R_types HO0_7.out BK553.out Z306) (fun _ hk => hk.2) (.int .i64 t562)) (fun _ hk => hk.1)⟩,⟨by refine bP ?_;refine blk_put (cs := #[.int .i64 a0_0,.int .i64 a0_1,.int .i64 a0_2,.int .i64 a0_3,.int .i64 a0_4,.int .i64 a0_5,.int .i64 a0_6,.slice Ao35 l0_7.length co35]) ?_ 0 _ rfl;refine bP ?_;exact BK553.out⟩,⟨Z155⟩,⟨Z219⟩,⟨Z94⟩⟩
  rw [if_neg c39] at H
  have c39b0 : (a1 == 0) = false := beq_eq_false_iff_ne.mpr c39
  have c39b1 : (a1 != 0) = true := bne_iff_ne.mpr c39
  (first | rw [c39b0] | (simp only [i64_w,i32_w];rw [c39b0]) | skip)
  by_cases c42 : a1 = 1
  ·rw [if_pos c42] at H
   have c42b0 : (a1 == 1) = true := beq_iff_eq.mpr c42
   have c42b1 : (a1 != 1) = false := bne_eq_false_iff_eq.mpr c42
   clear c42
   have H' := Aside0.mk H
   clear H
   have hnb43 := NB553_554.out
   have hnc43 := NB554_553.out
   obtain ⟨hcz44_0,hcz44_1,hcz44_2,hcz44_3,hcz44_4,hcz44_5,hcz44_6,hcz44_7,hfz44_0,hfz44_1,hfz44_2,hfz44_3,hfz44_4,hfz44_5,hfz44_6,hfz44_7⟩ := cells8 BK553.out
   go_wp2
   go_meet
   case rel => exact ⟨_,(a0_0),(t562),(a0_2),(a0_3),(a0_4),H',⟨Z169⟩,⟨by (with_reducible repeat (first | apply Kd.R_alloc | apply Kd.R_drewN | apply Kd.R_drew));exact Kd.R_mono (Kd.R_far (p := ⟨gb553,1,none⟩) (Kd.R_types HO0_7.out BK553.out Z306) (fun _ hk => hk.2) (.int .i64 t562)) (fun _ hk => hk.1)⟩,⟨by refine bP ?_;refine blk_put (cs := #[.int .i64 a0_0,.int .i64 a0_1,.int .i64 a0_2,.int .i64 a0_3,.int .i64 a0_4,.int .i64 a0_5,.int .i64 a0_6,.slice Ao35 l0_7.length co35]) ?_ 1 _ rfl;refine bP ?_;exact BK553.out⟩,⟨Z155⟩,⟨Z219⟩,⟨Z94⟩⟩
  rw [if_neg c42] at H
  have c42b0 : (a1 == 1) = false := beq_eq_false_iff_ne.mpr c42
  have c42b1 : (a1 != 1) = true := bne_iff_ne.mpr c42
  by_cases c45 : a1 = 2
  ·rw [if_pos c45] at H
   have c45b0 : (a1 == 2) = true := beq_iff_eq.mpr c45
   have c45b1 : (a1 != 2) = false := bne_eq_false_iff_eq.mpr c45
   clear c45
   have H' := Aside0.mk H
   clear H
   have hnb46 := NB553_554.out
   have hnc46 := NB554_553.out
   obtain ⟨hcz47_0,hcz47_1,hcz47_2,hcz47_3,hcz47_4,hcz47_5,hcz47_6,hcz47_7,hfz47_0,hfz47_1,hfz47_2,hfz47_3,hfz47_4,hfz47_5,hfz47_6,hfz47_7⟩ := cells8 BK553.out
   go_wp2
   go_meet
   case rel => exact ⟨_,(a0_0),(a0_1),(t562),(a0_3),(a0_4),H',⟨Z169⟩,⟨by (with_reducible repeat (first | apply Kd.R_alloc | apply Kd.R_drewN | apply Kd.R_drew));exact Kd.R_mono (Kd.R_far (p := ⟨gb553,2,none⟩) (Kd.R_types HO0_7.out BK553.out Z306) (fun _ hk => hk.2) (.int .i64 t562)) (fun _ hk => hk.1)⟩,⟨by refine bP ?_;refine blk_put (cs := #[.int .i64 a0_0,.int .i64 a0_1,.int .i64 a0_2,.int .i64 a0_3,.int .i64 a0_4,.int .i64 a0_5,.int .i64 a0_6,.slice Ao35 l0_7.length co35]) ?_ 2 _ rfl;refine bP ?_;exact BK553.out⟩,⟨Z155⟩,⟨Z219⟩,⟨Z94⟩⟩
  rw [if_neg c45] at H
  have c45b0 : (a1 == 2) = false := beq_eq_false_iff_ne.mpr c45
  have c45b1 : (a1 != 2) = true := bne_iff_ne.mpr c45
  by_cases c48 : a1 = 3
  rotate_left
  ·rw [if_neg c48] at H
   have c48b0 : (a1 == 3) = false := beq_eq_false_iff_ne.mpr c48
   have c48b1 : (a1 != 3) = true := bne_iff_ne.mpr c48
   have H' := Aside0.mk H
   clear H
   have hnb51 := NB553_554.out
   have hnc51 := NB554_553.out
   obtain ⟨hcz52_0,hcz52_1,hcz52_2,hcz52_3,hcz52_4,hcz52_5,hcz52_6,hcz52_7,hfz52_0,hfz52_1,hfz52_2,hfz52_3,hfz52_4,hfz52_5,hfz52_6,hfz52_7⟩ := cells8 BK553.out
   go_wp2
   go_meet
   case rel => exact ⟨_,(a0_0),(a0_1),(a0_2),(a0_3),(t562),H',⟨Z169⟩,⟨by (with_reducible repeat (first | apply Kd.R_alloc | apply Kd.R_drewN | apply Kd.R_drew));exact Kd.R_mono (Kd.R_far (p := ⟨gb553,4,none⟩) (Kd.R_types HO0_7.out BK553.out Z306) (fun _ hk => hk.2) (.int .i64 t562)) (fun _ hk => hk.1)⟩,⟨by refine bP ?_;refine blk_put (cs := #[.int .i64 a0_0,.int .i64 a0_1,.int .i64 a0_2,.int .i64 a0_3,.int .i64 a0_4,.int .i64 a0_5,.int .i64 a0_6,.slice Ao35 l0_7.length co35]) ?_ 4 _ rfl;refine bP ?_;exact BK553.out⟩,⟨Z155⟩,⟨Z219⟩,⟨Z94⟩⟩
  rw [if_pos c48] at H
  have c48b0 : (a1 == 3) = true := beq_iff_eq.mpr c48
  have c48b1 : (a1 != 3) = false := bne_eq_false_iff_eq.mpr c48
  clear c48
  have H' := Aside0.mk H
  clear H
  have hnb49 := NB553_554.out
  have hnc49 := NB554_553.out
  obtain ⟨hcz50_0,hcz50_1,hcz50_2,hcz50_3,hcz50_4,hcz50_5,hcz50_6,hcz50_7,hfz50_0,hfz50_1,hfz50_2,hfz50_3,hfz50_4,hfz50_5,hfz50_6,hfz50_7⟩ := cells8 BK553.out
  go_wp2
  go_meet
  case rel => exact ⟨_,(a0_0),(a0_1),(a0_2),(t562),(a0_4),H',⟨Z169⟩,⟨by (with_reducible repeat (first | apply Kd.R_alloc | apply Kd.R_drewN | apply Kd.R_drew));exact Kd.R_mono (Kd.R_far (p := ⟨gb553,3,none⟩) (Kd.R_types HO0_7.out BK553.out Z306) (fun _ hk => hk.2) (.int .i64 t562)) (fun _ hk => hk.1)⟩,⟨by refine bP ?_;refine blk_put (cs := #[.int .i64 a0_0,.int .i64 a0_1,.int .i64 a0_2,.int .i64 a0_3,.int .i64 a0_4,.int .i64 a0_5,.int .i64 a0_6,.slice Ao35 l0_7.length co35]) ?_ 3 _ rfl;refine bP ?_;exact BK553.out⟩,⟨Z155⟩,⟨Z219⟩,⟨Z94⟩⟩
 case rest =>
  clear HC34
  try clear c1
  try clear c2
  try clear p2
  try clear c3
  try clear c4
  try clear c4b0
  try clear c4b1
  try clear c5
  try clear c6
  try clear c12
  try clear c20
  try clear c23
  try clear c23b0
  try clear c23b1
  try clear c29
  try clear c33
  try clear c37
  try clear c39
  try clear c39b0
  try clear c39b1
  try clear c40
  try clear c42
  try clear c42b0
  try clear c42b1
  try clear c43
  try clear c45
  try clear c45b0
  try clear c45b1
  try clear c46
  try clear c48
  try clear c48b0
  try clear c48b1
  try clear c49
  try clear c51
  obtain ⟨kq,x554000_33,x554001_33,x554002_33,x554003_33,x554004_33,HA,HJ33,HO_554007,BK553,BK554,HK,HB⟩ := hcut
  cases kq with
  | zero => exact absurd HA.out (by simp [spec_l8Lay.j0])
  | succ kj33 =>
   have H := HA.out
   clear HA
   simp only [spec_l8Lay.j0] at H
   obtain ⟨t564,A530,H⟩ := Option.bind_eq_some_iff.mp H
   have A53 := Aside0.mk A530
   clear A530
   obtain ⟨c54,H⟩ := ifp H
   have c54b0 : decide (0 ≤ a1) = true := decide_eq_true c54
   clear c54
   obtain ⟨c55,H⟩ := ifp H
   have c55b0 : decide (a1 < (t564.length : Int)) = true := decide_eq_true c55
   clear c55
   obtain ⟨t568,A560,H⟩ := Option.bind_eq_some_iff.mp H
   have A56 := Aside0.mk A560
   clear A560
   obtain ⟨c57,H⟩ := ifp H
   have c57b0 : decide (a1 < (t568.length : Int)) = true := decide_eq_true c57
   clear c57
   obtain ⟨t572,A580,H⟩ := Option.bind_eq_some_iff.mp H
   have A58 := Aside0.mk A580
   clear A580
   by_cases c59 : t572 = true
   ·subst c59
    rw [if_pos rfl] at H
    simp only [Option.some.injEq,Prod.mk.injEq] at H
    obtain ⟨rfl,rfl,rfl,rfl,rfl,rfl,rfl,rfl,rfl⟩ := H
    try go_wp2
    have n_ := jA (Kd.R_drew HO_554007.out) (jA (blk_drew BK553.out) (jA (blk_drew BK554.out) (jA (Kept.drew HK.out) (Aside0.mk (below_drew1 HB.out)))))
    clear HO_554007 BK553 BK554 HK HB
    obtain ⟨HO_554007,BK553,BK554,HK,HB⟩ := n_
    refine start_ (n := 11) (S := fun w' => True) (ds := []) (qM 11 0) Z190 rfl (by kernel_rfl) trivial (fun hHeld => ?_);refine with_tabW spec_l8Lay.tab25 spec_l8Lay.bits25 (fun HT_ HW_ => ?_)
    generalize wc.drew = w60 at HO_554007 BK553 BK554 HK HB hHeld ⊢
    refine rP 0 69 11 1 HT_ (h := ?_)
    refine rP 2 71 11 5 HT_ (h := ?_)
    refine rP 6 75 11 69 HT_ (h := ?_)
    refine rO 1 70 11 71 HT_ (h := fun K hK => ?_)
    refine goes_ Tryz.func41 Z190 rfl #[] Z191 rfl rfl Z130 ?_
    with_reducible refine (spec_l8Least.calls  t564 _ A53.out).mono ?_
    rintro e w61 ⟨v565,rfl,ho0,hb⟩
    refine ⟨_,rfl,?_⟩
    have n_ := jA (Kd.R_elder' Z137 (Kd.R_base ho0) hb) (jA (Kd.R_lower (Kd.R_new' (Kd.R_newM (M := fun k_ => (P0_7_ k_ ∨ w.heap.size ≤ k_)) ho0 Z63 (fun k_ h_ => .inr h_)) (Kd.R_lt Z137)) (below_size Z94)) (jA (blk_below (g := gb553) (o := .cells #[.int .i64 x554000_33,.int .i64 x554001_33,.int .i64 x554002_33,.int .i64 x554003_33,.int .i64 x554004_33,.int .i64 a0_5,.int .i64 a0_6,.slice Ao35 l0_7.length co35] 26 (0,0)) Z175 hb) (jA (blk_below (g := gb554) (o := .cells #[.int .i64 0,.int .i64 0,.int .i64 0,.int .i64 0,.int .i64 0,.int .i64 0,.int .i64 0,.slice none 0 0] 26 (0,0)) Z176 hb) (jA (Kept.below (S := (fun k_ => P0_7_ k_)) Z219 hb) (Aside0.mk (below_step Z94 hb))))))
    clear HO_554007 BK553 BK554 HK HB
    obtain ⟨HO_554007,HO566,BK553,BK554,HK,HB⟩ := n_
    (try clear hb)
    (try clear hb2)
    (try clear hk)
    (try clear hi)
    (try clear ho0)
    obtain ⟨Ao62,co62,eo62⟩ := Kd.R_slice HO566.out
    (first | subst eo62 | (injection eo62 with f1_ f2_ f3_;have f4_ := f1_.symm;have f5_ := f3_.symm;clear f1_ f2_ f3_;subst f4_;subst f5_))
    have p567 : 0 ≤ (a1 : Int) := of_decide_eq_true Z164
    have q567 : a1 < (t564.length : Int) := of_decide_eq_true Z164
    obtain ⟨ad567,e567,hx567_0⟩ := Kd.at_int (Kd.R_reads' HO566.out).2.2 a1 p567 q567
    cases e567
    replace p567 := eq_true p567
    replace q567 := eq_true q567
    refine hK.out _ _ trivial (fun hHeld => ?_)
    refine spec_l8Lay.change_ (S' := fun w' => w'.cell? (ad567.add (a1).toNat) = some (.int .i64 (rd t564 a1))) (fun _ h => trivial) _ _ _ _ hx567_0 ?_
    have hHeld1 := hx567_0
    clear hHeld
    have hHeld := hHeld1
    clear hHeld1
    clear hK K
    refine rN (h := ?_)
    refine rP 3 72 11 79 HT_ (h := ?_)
    refine rT1 4 73 11 95 HT_ HW_ hHeld (h := ?_)
    refine rO 5 74 11 127 HT_ (h := fun K hK => ?_)
    refine goes_ Tryz.func42 Z190 rfl #[] Z191 rfl rfl Z130 ?_
    with_reducible refine (spec_l8Most.calls  t568 _ A56.out).mono ?_
    rintro e w63 ⟨v569,rfl,ho0,hb⟩
    have HS0_ := (hb.cell (World.block_lt_of_cell? _ _ (hHeld))).trans (hHeld)
    refine ⟨_,rfl,?_⟩
    have n_ := jA (Kd.R_elder' Z137 (Kd.R_base ho0) hb) (jA (Kd.R_elder' Z141 (Kd.R_base ho0) hb) (jA (Kd.R_lower (Kd.R_new' (Kd.R_new' (Kd.R_newM (M := fun k_ => (P0_7_ k_ ∨ w.heap.size ≤ k_)) ho0 Z63 (fun k_ h_ => .inr h_)) (Kd.R_lt Z137)) (Kd.R_lt Z141)) (below_size Z94)) (jA (blk_below (g := gb553) (o := .cells #[.int .i64 x554000_33,.int .i64 x554001_33,.int .i64 x554002_33,.int .i64 x554003_33,.int .i64 x554004_33,.int .i64 a0_5,.int .i64 a0_6,.slice Ao35 l0_7.length co35] 26 (0,0)) Z175 hb) (jA (blk_below (g := gb554) (o := .cells #[.int .i64 0,.int .i64 0,.int .i64 0,.int .i64 0,.int .i64 0,.int .i64 0,.int .i64 0,.slice none 0 0] 26 (0,0)) Z176 hb) (jA (Kept.below (S := (fun k_ => P0_7_ k_)) Z219 hb) (Aside0.mk (below_step Z94 hb)))))))
    clear HO_554007 HO566 BK553 BK554 HK HB
    obtain ⟨HO_554007,HO566,HO570,BK553,BK554,HK,HB⟩ := n_
    (try clear hb)
    (try clear hb2)
    (try clear hk)
    (try clear hi)
    (try clear ho0)
    obtain ⟨Ao64,co64,eo64⟩ := Kd.R_slice HO570.out
    (first | subst eo64 | (injection eo64 with f1_ f2_ f3_;have f4_ := f1_.symm;have f5_ := f3_.symm;clear f1_ f2_ f3_;subst f4_;subst f5_))
    have p571 : 0 ≤ (a1 : Int) := of_decide_eq_true Z164
    have q571 : a1 < (t568.length : Int) := of_decide_eq_true Z164
    obtain ⟨ad571,e571,hx571_0⟩ := Kd.at_int (Kd.R_reads' HO570.out).2.2 a1 p571 q571
    cases e571
    replace p571 := eq_true p571
    replace q571 := eq_true q571
    refine hK.out _ _ HS0_ (fun hHeld => ?_)
    refine spec_l8Lay.change_ (S' := fun w' => w'.cell? (ad567.add (a1).toNat) = some (.int .i64 (rd t564 a1)) ∧ w'.cell? (ad571.add (a1).toNat) = some (.int .i64 (rd t568 a1))) (fun _ h => h.1) _ _ _ _ ⟨hHeld,hx571_0⟩ ?_
    have hHeld1 := (And.intro (hHeld) hx571_0)
    clear hHeld
    have hHeld := hHeld1
    clear hHeld1
    clear hK K
    refine rN (h := ?_)
    refine rP 7 76 11 255 HT_ (h := ?_)
    refine rT2 8 77 11 511 HT_ HW_ hHeld (h := ?_)
    refine rO 9 78 11 1023 HT_ (h := fun K hK => ?_)
    refine goes_ Tryz.func40 Z190 rfl #[.int .i64 t562,.int .i64 (rd t564 a1),.int .i64 (rd t568 a1)] Z191 rfl rfl Z130 ?_
    with_reducible refine (spec_l1In.calls t562 (rd t564 a1) (rd t568 a1) true _ A58.out).mono ?_
    rintro e w' ⟨rfl,⟨nd,rfl⟩⟩
    refine ⟨_,rfl,?_⟩
    refine hK.out _ _ ⟨hHeld.1,hHeld.2⟩ (fun hHeld => ?_)
    clear hK K
    refine rN (h := ?_)
    refine rP 10 79 11 2047 HT_ (h := ?_)
    refine done_ (done_of HT_.out Z190) ?_
    have hnb65 := NB553_554.out
    have hnc65 := NB554_553.out
    obtain ⟨hcz66_0,hcz66_1,hcz66_2,hcz66_3,hcz66_4,hcz66_5,hcz66_6,hcz66_7,hfz66_0,hfz66_1,hfz66_2,hfz66_3,hfz66_4,hfz66_5,hfz66_6,hfz66_7⟩ := cells8 BK553.out
    obtain ⟨hcz67_0,hcz67_1,hcz67_2,hcz67_3,hcz67_4,hcz67_5,hcz67_6,hcz67_7,hfz67_0,hfz67_1,hfz67_2,hfz67_3,hfz67_4,hfz67_5,hfz67_6,hfz67_7⟩ := cells8 BK554.out
    try go_wp2
    refine bodyPost_ret (results_ct rfl _ _ gb554 26 #[.int .i64 x554000_33,.int .i64 x554001_33,.int .i64 x554002_33,.int .i64 x554003_33,.int .i64 x554004_33,.int .i64 a0_5,.int .i64 a0_6,.slice Ao35 l0_7.length co35] (0,0) _ rfl Z19 Tryz.underlying26 rfl Z190) rfl ?_
    exact ⟨_,Z152,Z37,Z94,Z219⟩
   replace c59 := Bool.eq_false_iff.mpr c59
   subst c59
   rw [if_neg Bool.false_ne_true] at H
   simp only [Option.some.injEq,Prod.mk.injEq] at H
   obtain ⟨rfl,rfl,rfl,rfl,rfl,rfl,rfl,rfl,rfl⟩ := H
   try go_wp2
   have n_ := jA (Kd.R_drew HO_554007.out) (jA (blk_drew BK553.out) (jA (blk_drew BK554.out) (jA (Kept.drew HK.out) (Aside0.mk (below_drew1 HB.out)))))
   clear HO_554007 BK553 BK554 HK HB
   obtain ⟨HO_554007,BK553,BK554,HK,HB⟩ := n_
   refine start_ (n := 11) (S := fun w' => True) (ds := []) (qM 11 0) Z190 rfl (by kernel_rfl) trivial (fun hHeld => ?_);refine with_tabW spec_l8Lay.tab25 spec_l8Lay.bits25 (fun HT_ HW_ => ?_)
   generalize wc.drew = w68 at HO_554007 BK553 BK554 HK HB hHeld ⊢
   refine rP 0 69 11 1 HT_ (h := ?_)
   refine rP 2 71 11 5 HT_ (h := ?_)
   refine rP 6 75 11 69 HT_ (h := ?_)
   refine rO 1 70 11 71 HT_ (h := fun K hK => ?_)
   refine goes_ Tryz.func41 Z190 rfl #[] Z191 rfl rfl Z130 ?_
   with_reducible refine (spec_l8Least.calls  t564 _ A53.out).mono ?_
   rintro e w69 ⟨v565,rfl,ho0,hb⟩
   refine ⟨_,rfl,?_⟩
   have n_ := jA (Kd.R_elder' Z137 (Kd.R_base ho0) hb) (jA (Kd.R_lower (Kd.R_new' (Kd.R_newM (M := fun k_ => (P0_7_ k_ ∨ w.heap.size ≤ k_)) ho0 Z63 (fun k_ h_ => .inr h_)) (Kd.R_lt Z137)) (below_size Z94)) (jA (blk_below (g := gb553) (o := .cells #[.int .i64 x554000_33,.int .i64 x554001_33,.int .i64 x554002_33,.int .i64 x554003_33,.int .i64 x554004_33,.int .i64 a0_5,.int .i64 a0_6,.slice Ao35 l0_7.length co35] 26 (0,0)) Z175 hb) (jA (blk_below (g := gb554) (o := .cells #[.int .i64 0,.int .i64 0,.int .i64 0,.int .i64 0,.int .i64 0,.int .i64 0,.int .i64 0,.slice none 0 0] 26 (0,0)) Z176 hb) (jA (Kept.below (S := (fun k_ => P0_7_ k_)) Z219 hb) (Aside0.mk (below_step Z94 hb))))))
   clear HO_554007 BK553 BK554 HK HB
   obtain ⟨HO_554007,HO566,BK553,BK554,HK,HB⟩ := n_
   (try clear hb)
   (try clear hb2)
   (try clear hk)
   (try clear hi)
   (try clear ho0)
   obtain ⟨Ao70,co70,eo70⟩ := Kd.R_slice HO566.out
   (first | subst eo70 | (injection eo70 with f1_ f2_ f3_;have f4_ := f1_.symm;have f5_ := f3_.symm;clear f1_ f2_ f3_;subst f4_;subst f5_))
   have p567 : 0 ≤ (a1 : Int) := of_decide_eq_true Z164
   have q567 : a1 < (t564.length : Int) := of_decide_eq_true Z164
   obtain ⟨ad567,e567,hx567_0⟩ := Kd.at_int (Kd.R_reads' HO566.out).2.2 a1 p567 q567
   cases e567
   replace p567 := eq_true p567
   replace q567 := eq_true q567
   refine hK.out _ _ trivial (fun hHeld => ?_)
   refine spec_l8Lay.change_ (S' := fun w' => w'.cell? (ad567.add (a1).toNat) = some (.int .i64 (rd t564 a1))) (fun _ h => trivial) _ _ _ _ hx567_0 ?_
   have hHeld1 := hx567_0
   clear hHeld
   have hHeld := hHeld1
   clear hHeld1
   clear hK K
   refine rN (h := ?_)
   refine rP 3 72 11 79 HT_ (h := ?_)
   refine rT1 4 73 11 95 HT_ HW_ hHeld (h := ?_)
   refine rO 5 74 11 127 HT_ (h := fun K hK => ?_)
   refine goes_ Tryz.func42 Z190 rfl #[] Z191 rfl rfl Z130 ?_
   with_reducible refine (spec_l8Most.calls  t568 _ A56.out).mono ?_
   rintro e w71 ⟨v569,rfl,ho0,hb⟩
   have HS0_ := (hb.cell (World.block_lt_of_cell? _ _ (hHeld))).trans (hHeld)
   refine ⟨_,rfl,?_⟩
   have n_ := jA (Kd.R_elder' Z137 (Kd.R_base ho0) hb) (jA (Kd.R_elder' Z141 (Kd.R_base ho0) hb) (jA (Kd.R_lower (Kd.R_new' (Kd.R_new' (Kd.R_newM (M := fun k_ => (P0_7_ k_ ∨ w.heap.size ≤ k_)) ho0 Z63 (fun k_ h_ => .inr h_)) (Kd.R_lt Z137)) (Kd.R_lt Z141)) (below_size Z94)) (jA (blk_below (g := gb553) (o := .cells #[.int .i64 x554000_33,.int .i64 x554001_33,.int .i64 x554002_33,.int .i64 x554003_33,.int .i64 x554004_33,.int .i64 a0_5,.int .i64 a0_6,.slice Ao35 l0_7.length co35] 26 (0,0)) Z175 hb) (jA (blk_below (g := gb554) (o := .cells #[.int .i64 0,.int .i64 0,.int .i64 0,.int .i64 0,.int .i64 0,.int .i64 0,.int .i64 0,.slice none 0 0] 26 (0,0)) Z176 hb) (jA (Kept.below (S := (fun k_ => P0_7_ k_)) Z219 hb) (Aside0.mk (below_step Z94 hb)))))))
   clear HO_554007 HO566 BK553 BK554 HK HB
   obtain ⟨HO_554007,HO566,HO570,BK553,BK554,HK,HB⟩ := n_
   (try clear hb)
   (try clear hb2)
   (try clear hk)
   (try clear hi)
   (try clear ho0)
   obtain ⟨Ao72,co72,eo72⟩ := Kd.R_slice HO570.out
   (first | subst eo72 | (injection eo72 with f1_ f2_ f3_;have f4_ := f1_.symm;have f5_ := f3_.symm;clear f1_ f2_ f3_;subst f4_;subst f5_))
   have p571 : 0 ≤ (a1 : Int) := of_decide_eq_true Z164
   have q571 : a1 < (t568.length : Int) := of_decide_eq_true Z164
   obtain ⟨ad571,e571,hx571_0⟩ := Kd.at_int (Kd.R_reads' HO570.out).2.2 a1 p571 q571
   cases e571
   replace p571 := eq_true p571
   replace q571 := eq_true q571
   refine hK.out _ _ HS0_ (fun hHeld => ?_)
   refine spec_l8Lay.change_ (S' := fun w' => w'.cell? (ad567.add (a1).toNat) = some (.int .i64 (rd t564 a1)) ∧ w'.cell? (ad571.add (a1).toNat) = some (.int .i64 (rd t568 a1))) (fun _ h => h.1) _ _ _ _ ⟨hHeld,hx571_0⟩ ?_
   have hHeld1 := (And.intro (hHeld) hx571_0)
   clear hHeld
   have hHeld := hHeld1
   clear hHeld1
   clear hK K
   refine rN (h := ?_)
   refine rP 7 76 11 255 HT_ (h := ?_)
   refine rT2 8 77 11 511 HT_ HW_ hHeld (h := ?_)
   refine rO 9 78 11 1023 HT_ (h := fun K hK => ?_)
   refine goes_ Tryz.func40 Z190 rfl #[.int .i64 t562,.int .i64 (rd t564 a1),.int .i64 (rd t568 a1)] Z191 rfl rfl Z130 ?_
   with_reducible refine (spec_l1In.calls t562 (rd t564 a1) (rd t568 a1) false _ A58.out).mono ?_
   rintro e w' ⟨rfl,⟨nd,rfl⟩⟩
   refine ⟨_,rfl,?_⟩
   refine hK.out _ _ ⟨hHeld.1,hHeld.2⟩ (fun hHeld => ?_)
   clear hK K
   refine rN (h := ?_)
   refine rP 10 79 11 2047 HT_ (h := ?_)
   refine done_ (done_of HT_.out Z190) ?_
   have hnb73 := NB553_554.out
   have hnc73 := NB554_553.out
   obtain ⟨hcz74_0,hcz74_1,hcz74_2,hcz74_3,hcz74_4,hcz74_5,hcz74_6,hcz74_7,hfz74_0,hfz74_1,hfz74_2,hfz74_3,hfz74_4,hfz74_5,hfz74_6,hfz74_7⟩ := cells8 BK553.out
   obtain ⟨hcz75_0,hcz75_1,hcz75_2,hcz75_3,hcz75_4,hcz75_5,hcz75_6,hcz75_7,hfz75_0,hfz75_1,hfz75_2,hfz75_3,hfz75_4,hfz75_5,hfz75_6,hfz75_7⟩ := cells8 BK554.out
   try go_wp2
   refine bodyPost_ret (results_ct rfl _ _ gb554 26 #[.int .i64 x554000_33,.int .i64 x554001_33,.int .i64 x554002_33,.int .i64 x554003_33,.int .i64 x554004_33,.int .i64 a0_5,.int .i64 a0_6,.slice Ao35 l0_7.length co35] (0,0) _ rfl Z19 Tryz.underlying26 rfl Z190) rfl ?_
   exact ⟨_,Z152,Z37,Z94,Z219⟩

end Go.Proofs.YtepnbcdbagjmbaeGreatDoor.QFnConfig
