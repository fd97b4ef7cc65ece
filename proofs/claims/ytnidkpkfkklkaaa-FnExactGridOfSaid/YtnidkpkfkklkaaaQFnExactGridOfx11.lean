/- The machine side of FnExactGridOf: what each Go function that it reaches comes to. Conditions: none. -/
import Derived.Test.YtnidkpkfkklkaaaZn
import Derived.Test.YtnidkpkfkklkaaaQFnExactGridOfx0
import Derived.Test.YtnidkpkfkklkaaaQFnExactGridOfx1
import Derived.Test.YtnidkpkfkklkaaaQFnExactGridOfx9
import Derived.Test.YtnidkpkfkklkaaaQFnExactGridOfx10
namespace Go.Proofs.Ytnidkpkfkklkaaa.QFnExactGridOf
open Go.RowKit Go.Proofs.YtnidkpkfkklkaaaW.PrintWords Go.Proofs.YtnidkpkfkklkaaaW.PrintLast Go.Proofs.YtnidkpkfkklkaaaW.PrintMore
attribute [local go_sem] max2_int min2_int max_two min_two max_three min_three max_four min_four   -- for this text's walks alone
set_option linter.unusedVariables false
set_option linter.unusedSimpArgs false

/-! ### impl_GridOf: function 7 -/
mutual
def impl_GridOf.j0 : Nat → Int → Bool → List ByteArray → ByteArray → List (List Int) → List Int → Option ((List (List Int)) × (List (List Int)))
 | 0,_,_,_,_,_,_ => none
 | k + 1,x1,x20,x352000,x352001,x352002,x352003 => if x20 = true then (some (([] : List (List Int)),([] : List (List Int)))) else (impl_GridOf.l0 k x1 (x352000.length : Int) 0 x352000 x352001 x352002 x352003 ([] : List (List Int)) ([] : List (List Int)))
def impl_GridOf.l0 : Nat → Int → Int → Int → List ByteArray → ByteArray → List (List Int) → List Int → List (List Int) → List (List Int) → Option ((List (List Int)) × (List (List Int)))
 | 0,_,_,_,_,_,_,_,_,_ => none
 | k + 1,x1,x24,x25,x352000,x352001,x352002,x352003,x354000,x354001 => if x25 < x24 then ((impl_Column.f k x352000 x352001 x352002 x352003 x25).bind fun t356 => ((impl_CutsOf.f k t356 x1).bind fun t362 => (impl_GridOf.l1 k x1 (([] : List Int)) t362 x24 x25 t356 (t356.length : Int) 0 x352000 x352001 x352002 x352003 x354000 x354001))) else (some (x354000,x354001))
def impl_GridOf.l1 : Nat → Int → List Int → List Int → Int → Int → List Int → Int → Int → List ByteArray → ByteArray → List (List Int) → List Int → List (List Int) → List (List Int) → Option ((List (List Int)) × (List (List Int)))
 | 0,_,_,_,_,_,_,_,_,_,_,_,_,_,_ => none
 | k + 1,x1,x8,x9,x24,x25,x35,x36,x37,x352000,x352001,x352002,x352003,x354000,x354001 => if x37 < x36 then (if 0 ≤ x37 then (if x37 < (x35.length : Int) then ((impl_BinOf.f k x9 (rd x35 x37)).bind fun t366 => ((some (([t366] : List Int) : List Int)).bind fun y367 => (if x8.length + y367.length < 17592186044416 then (impl_GridOf.l1 k x1 (x8 ++ y367) x9 x24 x25 x35 x36 (wrap64 (x37 + 1)) x352000 x352001 x352002 x352003 x354000 x354001) else (none)))) else (none)) else (none)) else ((some (([x9] : List (List Int)) : List (List Int))).bind fun y373 => (if x354000.length + y373.length < 5864062014805 then ((some (([x8] : List (List Int)) : List (List Int))).bind fun y379 => (if x354001.length + y379.length < 5864062014805 then (impl_GridOf.l0 k x1 x24 (wrap64 (x25 + 1)) x352000 x352001 x352002 x352003 (x354000 ++ y373) (x354001 ++ y379)) else (none))) else (none)))
end
def impl_GridOf.f (k : Nat) (l0_0 : List ByteArray) (a0_1 : ByteArray) (l0_2 : List (List Int)) (l0_3 : List Int) (a1 : Int) : Option ((List (List Int)) × (List (List Int))) := (impl_TableOk.f k l0_0 a0_1 l0_2 l0_3).bind fun t354 => (if t354 = true then ((impl_within.f a1 2 8).bind fun t355 => (impl_GridOf.j0 k a1 (!t355) l0_0 a0_1 l0_2 l0_3)) else (impl_GridOf.j0 k a1 true l0_0 a0_1 l0_2 l0_3))
theorem impl_GridOf.mono_l : ∀ k,(∀ y0 y1 y2 y3 y4 y5,LeO (impl_GridOf.j0 k y0 y1 y2 y3 y4 y5) (impl_GridOf.j0 (k + 1) y0 y1 y2 y3 y4 y5)) ∧ (∀ y0 y1 y2 y3 y4 y5 y6 y7 y8,LeO (impl_GridOf.l0 k y0 y1 y2 y3 y4 y5 y6 y7 y8) (impl_GridOf.l0 (k + 1) y0 y1 y2 y3 y4 y5 y6 y7 y8)) ∧ (∀ y0 y1 y2 y3 y4 y5 y6 y7 y8 y9 y10 y11 y12 y13,LeO (impl_GridOf.l1 k y0 y1 y2 y3 y4 y5 y6 y7 y8 y9 y10 y11 y12 y13) (impl_GridOf.l1 (k + 1) y0 y1 y2 y3 y4 y5 y6 y7 y8 y9 y10 y11 y12 y13))
 | 0 => ⟨fun _ _ _ _ _ _ r h => by simp [impl_GridOf.j0] at h,fun _ _ _ _ _ _ _ _ _ r h => by simp [impl_GridOf.l0] at h,fun _ _ _ _ _ _ _ _ _ _ _ _ _ _ r h => by simp [impl_GridOf.l1] at h⟩
 | k + 1 => by
  obtain ⟨ih0,ih1,ih2⟩ := impl_GridOf.mono_l k
  refine ⟨?_,?_,?_⟩
  ·intro y0 y1 y2 y3 y4 y5
   unfold impl_GridOf.j0
   repeat' first
   | (with_reducible exact ih0 _ _ _ _ _ _)
   | (with_reducible exact ih1 _ _ _ _ _ _ _ _ _)
   | (with_reducible exact ih2 _ _ _ _ _ _ _ _ _ _ _ _ _ _)
   | (with_reducible exact impl_BinOf.mono _ _ _)
   | (with_reducible exact impl_Column.mono _ _ _ _ _ _)
   | (with_reducible exact impl_CutsOf.mono _ _ _)
   | (with_reducible exact impl_TableOk.mono _ _ _ _ _)
   | (with_reducible exact LeO.refl _)
   | (with_reducible exact LeO.none _)
   | (with_reducible refine LeO.ite ?_ ?_)
   | (with_reducible refine LeO.bind ?_ (fun _ => ?_))
   | exact ih0 _ _ _ _ _ _
   | exact ih1 _ _ _ _ _ _ _ _ _
   | exact ih2 _ _ _ _ _ _ _ _ _ _ _ _ _ _
   | exact impl_BinOf.mono _ _ _
   | exact impl_Column.mono _ _ _ _ _ _
   | exact impl_CutsOf.mono _ _ _
   | exact impl_TableOk.mono _ _ _ _ _
   | exact LeO.none _
   | refine LeO.ite ?_ ?_
   | refine LeO.bind ?_ (fun _ => ?_)
  ·intro y0 y1 y2 y3 y4 y5 y6 y7 y8
   unfold impl_GridOf.l0
   repeat' first
   | (with_reducible exact ih0 _ _ _ _ _ _)
   | (with_reducible exact ih1 _ _ _ _ _ _ _ _ _)
   | (with_reducible exact ih2 _ _ _ _ _ _ _ _ _ _ _ _ _ _)
   | (with_reducible exact impl_BinOf.mono _ _ _)
   | (with_reducible exact impl_Column.mono _ _ _ _ _ _)
   | (with_reducible exact impl_CutsOf.mono _ _ _)
   | (with_reducible exact impl_TableOk.mono _ _ _ _ _)
   | (with_reducible exact LeO.refl _)
   | (with_reducible exact LeO.none _)
   | (with_reducible refine LeO.ite ?_ ?_)
   | (with_reducible refine LeO.bind ?_ (fun _ => ?_))
   | exact ih0 _ _ _ _ _ _
   | exact ih1 _ _ _ _ _ _ _ _ _
   | exact ih2 _ _ _ _ _ _ _ _ _ _ _ _ _ _
   | exact impl_BinOf.mono _ _ _
   | exact impl_Column.mono _ _ _ _ _ _
   | exact impl_CutsOf.mono _ _ _
   | exact impl_TableOk.mono _ _ _ _ _
   | exact LeO.none _
   | refine LeO.ite ?_ ?_
   | refine LeO.bind ?_ (fun _ => ?_)
  ·intro y0 y1 y2 y3 y4 y5 y6 y7 y8 y9 y10 y11 y12 y13
   unfold impl_GridOf.l1
   repeat' first
   | (with_reducible exact ih0 _ _ _ _ _ _)
   | (with_reducible exact ih1 _ _ _ _ _ _ _ _ _)
   | (with_reducible exact ih2 _ _ _ _ _ _ _ _ _ _ _ _ _ _)
   | (with_reducible exact impl_BinOf.mono _ _ _)
   | (with_reducible exact impl_Column.mono _ _ _ _ _ _)
   | (with_reducible exact impl_CutsOf.mono _ _ _)
   | (with_reducible exact impl_TableOk.mono _ _ _ _ _)
   | (with_reducible exact LeO.refl _)
   | (with_reducible exact LeO.none _)
   | (with_reducible refine LeO.ite ?_ ?_)
   | (with_reducible refine LeO.bind ?_ (fun _ => ?_))
   | exact ih0 _ _ _ _ _ _
   | exact ih1 _ _ _ _ _ _ _ _ _
   | exact ih2 _ _ _ _ _ _ _ _ _ _ _ _ _ _
   | exact impl_BinOf.mono _ _ _
   | exact impl_Column.mono _ _ _ _ _ _
   | exact impl_CutsOf.mono _ _ _
   | exact impl_TableOk.mono _ _ _ _ _
   | exact LeO.none _
   | refine LeO.ite ?_ ?_
   | refine LeO.bind ?_ (fun _ => ?_)
theorem impl_GridOf.mono : ∀ a0 a1 a2 a3 a4 k,LeO (impl_GridOf.f k a0 a1 a2 a3 a4) (impl_GridOf.f (k + 1) a0 a1 a2 a3 a4) := by
 intro a0 a1 a2 a3 a4 k
 obtain ⟨ih0,ih1,ih2⟩ := impl_GridOf.mono_l k
 unfold impl_GridOf.f
 repeat' first
   | (with_reducible exact ih0 _ _ _ _ _ _)
   | (with_reducible exact ih1 _ _ _ _ _ _ _ _ _)
   | (with_reducible exact ih2 _ _ _ _ _ _ _ _ _ _ _ _ _ _)
   | (with_reducible exact impl_BinOf.mono _ _ _)
   | (with_reducible exact impl_Column.mono _ _ _ _ _ _)
   | (with_reducible exact impl_CutsOf.mono _ _ _)
   | (with_reducible exact impl_TableOk.mono _ _ _ _ _)
   | (with_reducible exact LeO.refl _)
   | (with_reducible exact LeO.none _)
   | (with_reducible refine LeO.ite ?_ ?_)
   | (with_reducible refine LeO.bind ?_ (fun _ => ?_))
   | exact ih0 _ _ _ _ _ _
   | exact ih1 _ _ _ _ _ _ _ _ _
   | exact ih2 _ _ _ _ _ _ _ _ _ _ _ _ _ _
   | exact impl_BinOf.mono _ _ _
   | exact impl_Column.mono _ _ _ _ _ _
   | exact impl_CutsOf.mono _ _ _
   | exact impl_TableOk.mono _ _ _ _ _
   | exact LeO.none _
   | refine LeO.ite ?_ ?_
   | refine LeO.bind ?_ (fun _ => ?_)
def impl_GridOf.T14 : Bool × List (List Nat × List Nat) := (true,[([],[]),([0],[0]),([],[]),([2],[2]),([1,3],[1,3]),([],[]),([5],[5]),([],[]),([7],[7]),([6,8,4],[6,8]),([0,1,2,3,4,5,6],[]),([10,4,9,0,1,2,3,4,5,6],[4,10]),([0,1,2,3,4,5,6,7,8,9,10,11],[]),([12,9,11,0,1,2,3,4,5,6,7,8,9,10,11],[9,12])])
def impl_GridOf.B14 : List Nat := [0,1,0,4,15,0,32,0,128,511,127,2047,4095,8191]
theorem impl_GridOf.tab14 : rtab .any (opsOf Try.f7 14) = impl_GridOf.T14 := by kernel_rfl
theorem impl_GridOf.bits14 : waitsOk impl_GridOf.T14.2 impl_GridOf.B14 = true := by kernel_rfl
set_option maxHeartbeats 8000000 in
set_option maxRecDepth 100000 in
theorem impl_GridOf.calls (k : Nat) (A0_0 : Option Addr) (c0_0 : Nat) (l0_0 : List ByteArray) (a0_1 : ByteArray) (A0_2 : Option Addr) (c0_2 : Nat) (l0_2 : List (List Int)) (A0_3 : Option Addr) (c0_3 : Nat) (l0_3 : List Int) (a1 : Int) (r1 : List (List Int)) (r2 : List (List Int)) (w : World) (hr0_0 : Kd.C Kd.string w A0_0 l0_0.length l0_0) (hc0_0 : l0_0.length ≤ c0_0) (hr0_2 : Kd.C (Kd.slice 3 (Kd.int .i64)) w A0_2 l0_2.length l0_2) (hc0_2 : l0_2.length ≤ c0_2) (hr0_3 : Kd.C (Kd.int .i64) w A0_3 l0_3.length l0_3) (hc0_3 : l0_3.length ≤ c0_3) (h : impl_GridOf.f k l0_0 a0_1 l0_2 l0_3 a1 = some (r1,r2)) :
  Calls Try.prog 7 #[.agg #[.slice A0_0 l0_0.length c0_0,.string a0_1,.slice A0_2 l0_2.length c0_2,.slice A0_3 l0_3.length c0_3],.int .i64 a1] w fun e w' => ∃ v0_ v1_ : Value,e = .returned (.agg #[v0_,v1_]) ∧ (∃ P0_ P1_ : Nat → Prop,(∀ k_,P0_ k_ → ¬ P1_ k_) ∧ Sc P0_ (Kd.slice 3 (Kd.int .i64)) 24 w' w.heap.size (fun k_ => some k_ ≠ (v1_ : Value).ownBlock) v0_ r1 ∧ Sc P1_ (Kd.slice 3 (Kd.int .i64)) 24 w' w.heap.size (fun k_ => some k_ ≠ (v0_ : Value).ownBlock) v1_ r2) ∧ Below w.heap.size w w' := by
 have hu31 := Try.underlying31
 have hu29 := Try.underlying29
 have HR0_0 := Aside0.mk hr0_0
 have HC0_0 := Aside0.mk hc0_0
 clear hr0_0 hc0_0
 have HR0_2 := Aside0.mk hr0_2
 have HC0_2 := Aside0.mk hc0_2
 clear hr0_2 hc0_2
 have HR0_3 := Aside0.mk hr0_3
 have HC0_3 := Aside0.mk hc0_3
 clear hr0_3 hc0_3
 have HB := Aside0.mk (Below.refl w.heap.size w)
 have H := h
 clear h
 unfold impl_GridOf.f at H
 have HC3 := Aside0.mk H
 clear H
 go_enter Try.func7,Try.ntmps7
 go_upto_region 2 with (first | ((with_reducible refine gate_dst (N := 2) rfl ?_);refine bE 2 #[.slice A0_0 l0_0.length c0_0,.string a0_1,.slice A0_2 l0_2.length c0_2,.slice A0_3 l0_3.length c0_3] 31 (h := ?_);intro gb351 hg w4 hbox hb;have n_ := jA (below_step Z297 hb) (jA (hbox) (jA ((Z254 : w.heap.size ≤ gb351)) (Aside0.mk ((Z254 : w.heap.size ≤ gb351)))));clear HB;obtain ⟨HB,BK351,GW351,GE351⟩ := n_;clear hb hbox hg) | ((with_reducible refine gate_dst (N := 4) rfl ?_);refine bE 4 #[.slice none 0 0,.slice none 0 0] 29 (h := ?_);intro gb352 hg w5 hbox hb;have n_ := jA (blk_below (g := gb351) (o := .cells #[.slice A0_0 l0_0.length c0_0,.string a0_1,.slice A0_2 l0_2.length c0_2,.slice A0_3 l0_3.length c0_3] 31 (0,0)) Z282 hb) (jA (below_step Z261 hb) (jA (hbox) (jA ((Z99 : w.heap.size ≤ gb352)) (jA ((Z99 : w.heap.size ≤ gb352)) (jA ((Z92 : gb351 ≠ gb352)) (Aside0.mk ((Z95 : gb352 ≠ gb351))))))));clear BK351 HB;obtain ⟨BK351,HB,BK352,GW352,GE352,NB351_352,NB352_351⟩ := n_;clear hb hbox hg) | ((with_reducible refine gate_dst (N := 5) rfl ?_);refine bE 5 #[.slice none 0 0,.slice none 0 0] 29 (h := ?_);intro gb353 hg w6 hbox hb;have n_ := jA (blk_below (g := gb351) (o := .cells #[.slice A0_0 l0_0.length c0_0,.string a0_1,.slice A0_2 l0_2.length c0_2,.slice A0_3 l0_3.length c0_3] 31 (0,0)) Z282 hb) (jA (blk_below (g := gb352) (o := .cells #[.slice none 0 0,.slice none 0 0] 29 (0,0)) Z283 hb) (jA (below_step Z246 hb) (jA (hbox) (jA ((Z87 : w.heap.size ≤ gb353)) (jA ((Z87 : w.heap.size ≤ gb353)) (jA ((Z92 : gb351 ≠ gb353)) (jA ((Z95 : gb353 ≠ gb351)) (jA ((by rw [hg];exact Nat.ne_of_lt (blk_lt (g := gb352) (o := .cells #[.slice none 0 0,.slice none 0 0] 29 (0,0)) Z283) : gb352 ≠ gb353)) (Aside0.mk ((by rw [hg];exact Nat.ne_of_gt (blk_lt (g := gb352) (o := .cells #[.slice none 0 0,.slice none 0 0] 29 (0,0)) Z283) : gb353 ≠ gb352)))))))))));clear BK351 BK352 HB;obtain ⟨BK351,BK352,HB,BK353,GW353,GE353,NB351_353,NB353_351,NB352_353,NB353_352⟩ := n_;clear hb hbox hg;have hnb7 := NB353_351.out;have hnc7 := NB351_353.out;have hnb8 := NB353_352.out;have hnc8 := NB352_353.out;obtain ⟨hcz9_0,hcz9_1,hfz9_0,hfz9_1⟩ := cells2 BK353.out))
 (try simp only [Act.put,List.setIfInBounds_toArray,List.set_cons_zero,List.set_cons_succ])
 go_cut [20] (fun v20 wc => ∃ (kq : Nat) (x20_2 : Bool),v20 = .bool x20_2 ∧ Aside0 (impl_GridOf.j0 kq a1 x20_2 l0_0 a0_1 l0_2 l0_3 = some (r1,r2)) ∧ Aside0 (kq ≤ k) ∧ Aside0 (wc.heap[gb351]? = some (.cells #[(.slice A0_0 l0_0.length c0_0),.string a0_1,(.slice A0_2 l0_2.length c0_2),(.slice A0_3 l0_3.length c0_3)] 31 (0,0))) ∧ Aside0 (wc.heap[gb352]? = some (.cells #[(.slice none 0 0),(.slice none 0 0)] 29 (0,0))) ∧ Aside0 (wc.heap[gb353]? = some (.cells #[(.slice none 0 0),(.slice none 0 0)] 29 (0,0))) ∧ Aside0 (Below w.heap.size w wc))
 case first =>
  have H := HC3.out
  clear HC3
  obtain ⟨t354,A100,H⟩ := Option.bind_eq_some_iff.mp H
  have A10 := Aside0.mk A100
  clear A100
  by_cases c11 : t354 = true
  rotate_left
  ·replace c11 := Bool.eq_false_iff.mpr c11
   subst c11
   rw [if_neg Bool.false_ne_true] at H
   have H' := Aside0.mk H
   clear H
   have hnb17 := NB351_352.out
   have hnc17 := NB352_351.out
   have hnb18 := NB351_353.out
   have hnc18 := NB353_351.out
   obtain ⟨hcz19_0,hcz19_1,hcz19_2,hcz19_3,hfz19_0,hfz19_1,hfz19_2,hfz19_3⟩ := cells4 BK351.out
   go_wp2_with (first | ((with_reducible refine gate_callee (f := 24) rfl ?_);refine goesL_ (some 14) rfl rfl Try.func24 Z236 rfl #[.agg #[.slice A0_0 l0_0.length c0_0,.string a0_1,.slice A0_2 l0_2.length c0_2,.slice A0_3 l0_3.length c0_3]] rfl Z146 ?_;(with_reducible refine (impl_TableOk.calls k _ _ l0_0 a0_1 _ _ l0_2 _ _ l0_3 false _ ?side1 ?side2 ?side3 ?side4 ?side5 ?side6 A10.out).mono ?_);(case side1 => exact Z74);(case side2 => exact Z233);(case side3 => exact Z72);(case side4 => exact Z234);(case side5 => exact Z70);(case side6 => exact Z235);rintro e w20 ⟨rfl,hb⟩;refine ⟨_,rfl,?_⟩;have n_ := Z4;clear BK351 BK352 BK353 HB;obtain ⟨BK351,BK352,BK353,HB⟩ := n_;(try clear hb);(try clear hb2);(try clear hk);(try clear hi)))
   go_meet
   case rel => exact ⟨_,(true),Z218,H',⟨Z223⟩,⟨Z282⟩,⟨Z283⟩,⟨Z284⟩,⟨Z240⟩⟩
  subst c11
  rw [if_pos rfl] at H
  obtain ⟨t355,A120,H⟩ := Option.bind_eq_some_iff.mp H
  have A12 := Aside0.mk A120
  clear A120
  have H' := Aside0.mk H
  clear H
  have hnb13 := NB351_352.out
  have hnc13 := NB352_351.out
  have hnb14 := NB351_353.out
  have hnc14 := NB353_351.out
  obtain ⟨hcz15_0,hcz15_1,hcz15_2,hcz15_3,hfz15_0,hfz15_1,hfz15_2,hfz15_3⟩ := cells4 BK351.out
  go_wp2_with (first | ((with_reducible refine gate_callee (f := 24) rfl ?_);refine goesL_ (some 14) rfl rfl Try.func24 Z236 rfl #[.agg #[.slice A0_0 l0_0.length c0_0,.string a0_1,.slice A0_2 l0_2.length c0_2,.slice A0_3 l0_3.length c0_3]] rfl Z146 ?_;(with_reducible refine (impl_TableOk.calls k _ _ l0_0 a0_1 _ _ l0_2 _ _ l0_3 true _ ?side1 ?side2 ?side3 ?side4 ?side5 ?side6 A10.out).mono ?_);(case side1 => exact Z74);(case side2 => exact Z233);(case side3 => exact Z72);(case side4 => exact Z234);(case side5 => exact Z70);(case side6 => exact Z235);rintro e w16 ⟨rfl,hb⟩;refine ⟨_,rfl,?_⟩;have n_ := Z4;clear BK351 BK352 BK353 HB;obtain ⟨BK351,BK352,BK353,HB⟩ := n_;(try clear hb);(try clear hb2);(try clear hk);(try clear hi)) | (go_at_call 25;(with_reducible refine (impl_within.calls a1 2 8 t355 _ A12.out).mono ?_);rintro e w' ⟨rfl,⟨nd,rfl⟩⟩))
  go_meet
  case rel => exact ⟨_,(!t355),Z218,H',⟨Z223⟩,⟨Z282⟩,⟨Z283⟩,⟨Z284⟩,⟨Z240⟩⟩
 case rest =>
  clear HC3
  try clear c1
  try clear c2
  try clear p2
  try clear c7
  try clear c8
  try clear c11
  try clear c13
  try clear c14
  try clear c17
  try clear c18
  obtain ⟨kq,x20_2,rfl,HA,HJ2,BK351,BK352,BK353,HB⟩ := hcut
  cases kq with
  | zero => exact absurd HA.out (by simp [impl_GridOf.j0])
  | succ kj2 =>
   have H := HA.out
   clear HA
   simp only [impl_GridOf.j0] at H
   by_cases c21 : x20_2 = true
   ·subst c21
    rw [if_pos rfl] at H
    simp only [Option.some.injEq,Prod.mk.injEq] at H
    obtain ⟨rfl,rfl⟩ := H
    have hnb22 := NB353_351.out
    have hnc22 := NB351_353.out
    have hnb23 := NB353_352.out
    have hnc23 := NB352_353.out
    obtain ⟨hcz24_0,hcz24_1,hfz24_0,hfz24_1⟩ := cells2 BK353.out
    have hnb25 := NB352_351.out
    have hnc25 := NB351_352.out
    obtain ⟨hcz26_0,hcz26_1,hfz26_0,hfz26_1⟩ := cells2 BK352.out
    go_wp2
    refine bodyPost_ret (results_cell_row rfl _ _ gb352 29 #[.slice none 0 0,.slice none 0 0] (0,0) _ rfl (by refine bP ?_;refine blk_put (cs := #[.slice none 0 0,.slice none 0 0]) ?_ 1 _ rfl;refine bP ?_;refine blk_put (cs := #[.slice none 0 0,.slice none 0 0]) ?_ 0 _ rfl;refine bP ?_;exact BK352.out) Try.underlying29 rfl Z236) rfl ?_
    exact ⟨_,_,Z207,⟨fun _ => False,fun _ => False,fun _ h_ => h_.elim,Sc_nil _ _ _ _ _ _,Sc_nil _ _ _ _ _ _⟩,Z240⟩
   replace c21 := Bool.eq_false_iff.mpr c21
   subst c21
   rw [if_neg Bool.false_ne_true] at H
   have H' := Aside0.mk H
   clear H
   have hnb27 := NB351_352.out
   have hnc27 := NB352_351.out
   have hnb28 := NB351_353.out
   have hnc28 := NB353_351.out
   obtain ⟨hcz29_0,hcz29_1,hcz29_2,hcz29_3,hfz29_0,hfz29_1,hfz29_2,hfz29_3⟩ := cells4 BK351.out
   go_wp2
   go_loopg [25] kj2 (fun kq v25 w' => ∃ (x25_2 : Int) (x354000_2 : List (List Int)) (x354001_2 : List (List Int)) (u354000 : Value) (u354001 : Value) (P0_ P1_ : Nat → Prop),v25 = .int .i64 x25_2 ∧ (∀ k_,P0_ k_ → ¬ P1_ k_) ∧ Aside0 (impl_GridOf.l0 kq a1 (l0_0.length : Int) x25_2 l0_0 a0_1 l0_2 l0_3 x354000_2 x354001_2 = some (r1,r2)) ∧ Aside0 (kq ≤ kj2) ∧ Aside0 (Zn w.heap.size P0_ (Kd.slice 3 (Kd.int .i64)) 24 w' w.heap.size (fun k_ => (w.heap.size ≤ k_) ∧ some k_ ≠ (u354001 : Value).ownBlock ∧ k_ ≠ gb351 ∧ k_ ≠ gb352 ∧ k_ ≠ gb353) u354000 x354000_2) ∧ Aside0 (Zn w.heap.size P1_ (Kd.slice 3 (Kd.int .i64)) 24 w' w.heap.size (fun k_ => (w.heap.size ≤ k_) ∧ some k_ ≠ (u354000 : Value).ownBlock ∧ k_ ≠ gb351 ∧ k_ ≠ gb352 ∧ k_ ≠ gb353) u354001 x354001_2) ∧ Aside0 (w'.heap[gb351]? = some (.cells #[(.slice A0_0 l0_0.length c0_0),.string a0_1,(.slice A0_2 l0_2.length c0_2),(.slice A0_3 l0_3.length c0_3)] 31 (0,0))) ∧ Aside0 (w'.heap[gb352]? = some (.cells #[(.slice none 0 0),(.slice none 0 0)] 29 (0,0))) ∧ Aside0 (w'.heap[gb353]? = some (.cells #[u354000,u354001] 29 (0,0))) ∧ Aside0 (Below w.heap.size w w'))
   case atStart => exact ⟨(0),(([] : List (List Int))),(([] : List (List Int))),(.slice none 0 0),(.slice none 0 0),(fun _ => False),(fun _ => False),Z218,(fun _ h_ => h_.elim),H',⟨Nat.le_refl _⟩,⟨Z144⟩,⟨Z144⟩,⟨Z282⟩,⟨Z283⟩,⟨Z284⟩,⟨Z240⟩⟩
   case round =>
    clear H'
    try clear c1
    try clear c2
    try clear p2
    try clear c7
    try clear c8
    try clear c11
    try clear c13
    try clear c14
    try clear c17
    try clear c18
    try clear c21
    try clear c22
    try clear c23
    try clear c24
    try clear c25
    try clear c27
    try clear c28
    try clear p2
    obtain ⟨x25_2,x354000_2,x354001_2,u354000,u354001,P0_,P1_,rfl,HD_,HA,HK2,HO_354000,HO_354001,BK351,BK352,BK353,HB⟩ := hrel
    cases gk with
    | zero => exact absurd HA.out (by simp [impl_GridOf.l0])
    | succ k2 =>
     have H := HA.out
     clear HA
     simp only [impl_GridOf.l0] at H
     by_cases c30 : x25_2 < (l0_0.length : Int)
     rotate_left
     ·rw [if_neg c30] at H
      have c30b0 : decide (x25_2 < (l0_0.length : Int)) = false := decide_eq_false c30
      clear c30
      simp only [Option.some.injEq,Prod.mk.injEq] at H
      obtain ⟨rfl,rfl⟩ := H
      have hnb71 := NB353_351.out
      have hnc71 := NB351_353.out
      have hnb72 := NB353_352.out
      have hnc72 := NB352_353.out
      obtain ⟨hcz73_0,hcz73_1,hfz73_0,hfz73_1⟩ := cells2 BK353.out
      obtain ⟨Ao74,co74,eo74⟩ := Zn_slice HO_354000.out
      subst eo74
      have hnb75 := NB352_351.out
      have hnc75 := NB351_352.out
      obtain ⟨hcz76_0,hcz76_1,hfz76_0,hfz76_1⟩ := cells2 BK352.out
      obtain ⟨Ao77,co77,eo77⟩ := Zn_slice HO_354001.out
      subst eo77
      go_wp2
      refine bodyPost_ret (results_cell_row rfl _ _ gb352 29 #[.slice Ao74 x354000_2.length co74,.slice Ao77 x354001_2.length co77] (0,0) _ rfl (by refine bP ?_;refine blk_put (cs := #[.slice Ao74 x354000_2.length co74,.slice none 0 0]) ?_ 1 _ rfl;refine bP ?_;refine blk_put (cs := #[.slice none 0 0,.slice none 0 0]) ?_ 0 _ rfl;refine bP ?_;exact BK352.out) Try.underlying29 rfl Z236) rfl ?_
      exact ⟨_,_,Z207,Zn_out (X := fun k_ => w.heap.size ≤ k_) (X' := fun k_ => w.heap.size ≤ k_) HD_ (by (with_reducible repeat (first | apply Zn_alloc | apply Zn_drewN | apply Zn_drew));exact Zn_mono (Zn_far (p := ⟨gb352,1,none⟩) (Zn_far (p := ⟨gb352,0,none⟩) (Zn_mono HO_354000.out (fun k_ hk => (⟨hk,hk.2.2.2.1⟩ : _ ∧ k_ ≠ gb352))) (fun _ hk => hk.2) (.slice Ao74 x354000_2.length co74)) (fun _ hk => hk.2) (.slice Ao77 x354001_2.length co77)) (fun _ hk => ⟨hk.1.1,hk.1.2.1⟩)) (by (with_reducible repeat (first | apply Zn_alloc | apply Zn_drewN | apply Zn_drew));exact Zn_mono (Zn_far (p := ⟨gb352,1,none⟩) (Zn_far (p := ⟨gb352,0,none⟩) (Zn_mono HO_354001.out (fun k_ hk => (⟨hk,hk.2.2.2.1⟩ : _ ∧ k_ ≠ gb352))) (fun _ hk => hk.2) (.slice Ao74 x354000_2.length co74)) (fun _ hk => hk.2) (.slice Ao77 x354001_2.length co77)) (fun _ hk => ⟨hk.1.1,hk.1.2.1⟩)),Z240⟩
     rw [if_pos c30] at H
     have c30b0 : decide (x25_2 < (l0_0.length : Int)) = true := decide_eq_true c30
     clear c30
     obtain ⟨t356,A310,H⟩ := Option.bind_eq_some_iff.mp H
     have A31 := Aside0.mk A310
     clear A310
     obtain ⟨y359,hyy⟩ : ∃ y_ : List Int,y_ = (([] : List Int)) := ⟨_,rfl⟩
     replace H : ((impl_CutsOf.f k2 t356 a1).bind fun t362 => (impl_GridOf.l1 k2 a1 y359 t362 (l0_0.length : Int) x25_2 t356 (t356.length : Int) 0 l0_0 a0_1 l0_2 l0_3 x354000_2 x354001_2)) = some (r1,r2) := zR
     have Ny359 := Aside0.mk hyy
     clear hyy
     obtain ⟨t362,A320,H⟩ := Option.bind_eq_some_iff.mp H
     have A32 := Aside0.mk A320
     clear A320
     have H' := Aside0.mk H
     clear H
     have hnb33 := NB351_352.out
     have hnc33 := NB352_351.out
     have hnb34 := NB351_353.out
     have hnc34 := NB353_351.out
     obtain ⟨hcz35_0,hcz35_1,hcz35_2,hcz35_3,hfz35_0,hfz35_1,hfz35_2,hfz35_3⟩ := cells4 BK351.out
     go_wp2_with (first | ((with_reducible refine gate_callee (f := 26) rfl ?_);refine goesL_ (some 30) rfl rfl Try.func26 Z236 rfl #[.agg #[.slice A0_0 l0_0.length c0_0,.string a0_1,.slice A0_2 l0_2.length c0_2,.slice A0_3 l0_3.length c0_3],.int .i64 x25_2] rfl Z146 ?_;(with_reducible refine (impl_Column.calls k2 _ _ l0_0 a0_1 _ _ l0_2 _ _ l0_3 x25_2 t356 _ ?side1 ?side2 ?side3 ?side4 ?side5 ?side6 A31.out).mono ?_);(case side1 => exact Z105);(case side2 => exact Z233);(case side3 => exact Z108);(case side4 => exact Z234);(case side5 => exact Z107);(case side6 => exact Z235);rintro e w36 ⟨v357,rfl,ho0,hb⟩;refine ⟨_,rfl,?_⟩;have n_ := jA (Zn_elder' Z187 (Kd.R_base ho0) hb) (jA (Zn_elder' Z278 (Kd.R_base ho0) hb) (jA (Kd.R_lower (Kd.R_newM (M := fun k_ => (w.heap.size ≤ k_)) ho0 (below_size Z240) (fun k_ h_ => h_)) (below_size Z240)) (jA (blk_below (g := gb351) (o := .cells #[.slice A0_0 l0_0.length c0_0,.string a0_1,.slice A0_2 l0_2.length c0_2,.slice A0_3 l0_3.length c0_3] 31 (0,0)) Z282 hb) (jA (blk_below (g := gb352) (o := .cells #[.slice none 0 0,.slice none 0 0] 29 (0,0)) Z283 hb) (jA (blk_below (g := gb353) (o := .cells #[u354000,u354001] 29 (0,0)) Z284 hb) (Aside0.mk (below_step Z240 hb)))))));clear HO_354000 HO_354001 BK351 BK352 BK353 HB;obtain ⟨HO_354000,HO_354001,HO358,BK351,BK352,BK353,HB⟩ := n_;(try clear hb);(try clear hb2);(try clear hk);(try clear hi);(try clear ho0)) | ((with_reducible refine gate_dst (N := 31) rfl ?_);refine Kd.R_lit (Kd.int .i64) _ 3 ?hg (N := 31) ?hd (xs := ([] : List Int)) (inner := []) (ok := fun _ => True) (okp := fun _ => True) ?hr ?hp (fun _ hk => hk) trivial (Below.refl _ _) (Nat.le_refl _) Z294 ?_;(case hd => rfl);(case hg => rfl);(case hr => exact Z219);(case hp => exact Z232);intro v360 w37 ho38 hb hg_ hnew_;clear hg_ hnew_;(first | rw [← Ny359.out] at ho38 | (simp only [Int.reduceToNat] at ho38;rw [← Ny359.out] at ho38));have n_ := jA (Zn_elder' Z187 (Kd.R_base ho38) hb) (jA (Zn_elder' Z278 (Kd.R_base ho38) hb) (jA (Kd.R_elder' Z169 (Kd.R_base ho38) hb) (jA (Kd.R_lower (Kd.R_new' (Kd.R_newM (M := fun k_ => (w.heap.size ≤ k_)) ho38 (below_size Z240) (fun k_ h_ => h_)) (Kd.R_lt Z169)) (below_size Z240)) (jA (blk_below (g := gb351) (o := .cells #[.slice A0_0 l0_0.length c0_0,.string a0_1,.slice A0_2 l0_2.length c0_2,.slice A0_3 l0_3.length c0_3] 31 (0,0)) Z282 hb) (jA (blk_below (g := gb352) (o := .cells #[.slice none 0 0,.slice none 0 0] 29 (0,0)) Z283 hb) (jA (blk_below (g := gb353) (o := .cells #[u354000,u354001] 29 (0,0)) Z284 hb) (Aside0.mk (below_step Z240 hb))))))));clear HO_354000 HO_354001 HO358 BK351 BK352 BK353 HB;obtain ⟨HO_354000,HO_354001,HO358,HO361,BK351,BK352,BK353,HB⟩ := n_;clear hb ho38;obtain ⟨Ao39,co39,eo39⟩ := Kd.R_slice HO358.out;subst eo39) | ((with_reducible refine gate_callee (f := 27) rfl ?_);refine goesL_ (some 34) rfl rfl Try.func27 Z236 rfl #[.slice Ao39 t356.length co39,.int .i64 a1] rfl Z146 ?_;(with_reducible refine (impl_CutsOf.calls k2 _ _ t356 a1 t362 _ ?side1 ?side2 A32.out).mono ?_);(case side1 => repeat (first | exact (Kd.R_reads' HO358.out).2.2 | (with_reducible refine Kd.C_alloc ?_ _) | (with_reducible refine Kd.C_drewN ?_ _) | (with_reducible refine Kd.C_drew ?_)));(case side2 => exact (Kd.R_reads' HO358.out).2.1);rintro e w40 ⟨v363,rfl,ho0,hb⟩;refine ⟨_,rfl,?_⟩;have n_ := jA (Zn_elder' Z187 (Kd.R_base ho0) hb) (jA (Zn_elder' Z278 (Kd.R_base ho0) hb) (jA (Kd.R_elder' Z169 (Kd.R_base ho0) hb) (jA (Kd.R_elder' Z174 (Kd.R_base ho0) hb) (jA (Kd.R_lower (Kd.R_new' (Kd.R_new' (Kd.R_newM (M := fun k_ => (w.heap.size ≤ k_)) ho0 (below_size Z240) (fun k_ h_ => h_)) (Kd.R_lt Z169)) (Kd.R_lt Z174)) (below_size Z240)) (jA (blk_below (g := gb351) (o := .cells #[.slice A0_0 l0_0.length c0_0,.string a0_1,.slice A0_2 l0_2.length c0_2,.slice A0_3 l0_3.length c0_3] 31 (0,0)) Z282 hb) (jA (blk_below (g := gb352) (o := .cells #[.slice none 0 0,.slice none 0 0] 29 (0,0)) Z283 hb) (jA (blk_below (g := gb353) (o := .cells #[u354000,u354001] 29 (0,0)) Z284 hb) (Aside0.mk (below_step Z240 hb)))))))));clear HO_354000 HO_354001 HO358 HO361 BK351 BK352 BK353 HB;obtain ⟨HO_354000,HO_354001,HO358,HO361,HO364,BK351,BK352,BK353,HB⟩ := n_;(try clear hb);(try clear hb2);(try clear hk);(try clear hi);(try clear ho0)))
     go_loopg [8,37] k2 (fun kq v8 v37 w' => ∃ (x8_3 : List Int) (x37_3 : Int),v37 = .int .i64 x37_3 ∧ Aside0 (impl_GridOf.l1 kq a1 x8_3 t362 (l0_0.length : Int) x25_2 t356 (t356.length : Int) x37_3 l0_0 a0_1 l0_2 l0_3 x354000_2 x354001_2 = some (r1,r2)) ∧ Aside0 (kq ≤ k2) ∧ Aside0 (Kd.R (Kd.int .i64) 3 w' w.heap.size (fun k_ => (w.heap.size ≤ k_) ∧ some k_ ≠ (v363 : Value).ownBlock ∧ some k_ ≠ ((.slice Ao39 t356.length co39) : Value).ownBlock) v8 x8_3) ∧ Aside0 (Kd.R (Kd.int .i64) 3 w' w.heap.size (fun k_ => (w.heap.size ≤ k_) ∧ some k_ ≠ (v8 : Value).ownBlock ∧ some k_ ≠ ((.slice Ao39 t356.length co39) : Value).ownBlock) v363 t362) ∧ Aside0 (Kd.R (Kd.int .i64) 3 w' w.heap.size (fun k_ => (w.heap.size ≤ k_) ∧ some k_ ≠ (v8 : Value).ownBlock ∧ some k_ ≠ (v363 : Value).ownBlock) (.slice Ao39 t356.length co39) t356) ∧ Aside0 (Zn w.heap.size P0_ (Kd.slice 3 (Kd.int .i64)) 24 w' w.heap.size (fun k_ => (w.heap.size ≤ k_) ∧ some k_ ≠ (v8 : Value).ownBlock ∧ some k_ ≠ (v363 : Value).ownBlock ∧ some k_ ≠ ((.slice Ao39 t356.length co39) : Value).ownBlock ∧ some k_ ≠ (u354001 : Value).ownBlock ∧ k_ ≠ gb351 ∧ k_ ≠ gb352 ∧ k_ ≠ gb353) u354000 x354000_2) ∧ Aside0 (Zn w.heap.size P1_ (Kd.slice 3 (Kd.int .i64)) 24 w' w.heap.size (fun k_ => (w.heap.size ≤ k_) ∧ some k_ ≠ (v8 : Value).ownBlock ∧ some k_ ≠ (v363 : Value).ownBlock ∧ some k_ ≠ ((.slice Ao39 t356.length co39) : Value).ownBlock ∧ some k_ ≠ (u354000 : Value).ownBlock ∧ k_ ≠ gb351 ∧ k_ ≠ gb352 ∧ k_ ≠ gb353) u354001 x354001_2) ∧ Aside0 (w'.heap[gb351]? = some (.cells #[(.slice A0_0 l0_0.length c0_0),.string a0_1,(.slice A0_2 l0_2.length c0_2),(.slice A0_3 l0_3.length c0_3)] 31 (0,0))) ∧ Aside0 (w'.heap[gb352]? = some (.cells #[(.slice none 0 0),(.slice none 0 0)] 29 (0,0))) ∧ Aside0 (w'.heap[gb353]? = some (.cells #[u354000,u354001] 29 (0,0))) ∧ Aside0 (Below w.heap.size w w'))
     case atStart => exact ⟨(y359),(0),Z218,H',⟨Nat.le_refl _⟩,⟨by (with_reducible repeat (first | apply Kd.R_alloc | apply Kd.R_drewN | apply Kd.R_drew));exact Kd.R_mono HO361.out (fun _ hk => ⟨hk.1.1.1,⟨hk.2,hk.1.2⟩⟩)⟩,⟨by (with_reducible repeat (first | apply Kd.R_alloc | apply Kd.R_drewN | apply Kd.R_drew));exact Kd.R_mono HO364.out (fun _ hk => ⟨hk.1.1.1,⟨hk.2,hk.1.2⟩⟩)⟩,⟨by (with_reducible repeat (first | apply Kd.R_alloc | apply Kd.R_drewN | apply Kd.R_drew));exact Kd.R_mono HO358.out (fun _ hk => ⟨hk.1.1.1,⟨hk.1.2,hk.2⟩⟩)⟩,⟨by (with_reducible repeat (first | apply Zn_alloc | apply Zn_drewN | apply Zn_drew));exact Zn_mono HO_354000.out (fun _ hk => ⟨hk.1.1.1.1,⟨hk.1.2,⟨hk.2,⟨hk.1.1.2,⟨hk.1.1.1.2.1,⟨hk.1.1.1.2.2.1,⟨hk.1.1.1.2.2.2.1,hk.1.1.1.2.2.2.2⟩⟩⟩⟩⟩⟩⟩)⟩,⟨by (with_reducible repeat (first | apply Zn_alloc | apply Zn_drewN | apply Zn_drew));exact Zn_mono HO_354001.out (fun _ hk => ⟨hk.1.1.1.1,⟨hk.1.2,⟨hk.2,⟨hk.1.1.2,⟨hk.1.1.1.2.1,⟨hk.1.1.1.2.2.1,⟨hk.1.1.1.2.2.2.1,hk.1.1.1.2.2.2.2⟩⟩⟩⟩⟩⟩⟩)⟩,⟨Z282⟩,⟨Z283⟩,⟨Z284⟩,⟨Z240⟩⟩
     case round =>
      clear H'
      try clear c1
      try clear c2
      try clear p2
      try clear c3
      try clear c7
      try clear c8
      try clear c11
      try clear c13
      try clear c14
      try clear c17
      try clear c18
      try clear c21
      try clear c22
      try clear c23
      try clear c24
      try clear c25
      try clear c26
      try clear c27
      try clear c28
      try clear c30
      try clear c30b0
      try clear c33
      try clear c34
      try clear p2
      obtain ⟨x8_3,x37_3,rfl,HA,HK3,HO_8,HO_9,HO_35,HO_354000,HO_354001,BK351,BK352,BK353,HB⟩ := hrel
      cases gk with
      | zero => exact absurd HA.out (by simp [impl_GridOf.l1])
      | succ k3 =>
       have H := HA.out
       clear HA
       simp only [impl_GridOf.l1] at H
       by_cases c41 : x37_3 < (t356.length : Int)
       ·rw [if_pos c41] at H
        have c41b0 : decide (x37_3 < (t356.length : Int)) = true := decide_eq_true c41
        clear c41
        obtain ⟨c42,H⟩ := ifp H
        have c42b0 : decide (0 ≤ x37_3) = true := decide_eq_true c42
        clear c42
        obtain ⟨c43,H⟩ := ifp H
        have c43b0 : decide (x37_3 < (t356.length : Int)) = true := decide_eq_true c43
        clear c43
        obtain ⟨t366,A440,H⟩ := Option.bind_eq_some_iff.mp H
        have A44 := Aside0.mk A440
        clear A440
        obtain ⟨y367,hyy⟩ : ∃ y_ : List Int,y_ = (([t366] : List Int)) := ⟨_,rfl⟩
        replace H : (if x8_3.length + y367.length < 17592186044416 then (impl_GridOf.l1 k3 a1 (x8_3 ++ y367) t362 (l0_0.length : Int) x25_2 t356 (t356.length : Int) (wrap64 (x37_3 + 1)) l0_0 a0_1 l0_2 l0_3 x354000_2 x354001_2) else (none)) = some (r1,r2) := zR
        have Ny367 := Aside0.mk hyy
        clear hyy
        obtain ⟨c45,H⟩ := ifp H
        have LMc45 := Aside0.mk c45
        clear c45
        obtain ⟨y370,hyy⟩ : ∃ y_ : List Int,y_ = (x8_3 ++ y367) := ⟨_,rfl⟩
        replace H : (impl_GridOf.l1 k3 a1 y370 t362 (l0_0.length : Int) x25_2 t356 (t356.length : Int) (wrap64 (x37_3 + 1)) l0_0 a0_1 l0_2 l0_3 x354000_2 x354001_2) = some (r1,r2) := zR
        have Ny370 := Aside0.mk hyy
        clear hyy
        have H' := Aside0.mk H
        clear H
        have p365 : 0 ≤ (x37_3 : Int) := of_decide_eq_true Z217
        have q365 : x37_3 < (t356.length : Int) := of_decide_eq_true Z217
        obtain ⟨ad365,e365,hx365_0⟩ := Kd.at_int (Kd.R_reads' HO_35.out).2.2 x37_3 p365 q365
        cases e365
        replace p365 := eq_true p365
        replace q365 := eq_true q365
        obtain ⟨Ao46,co46,eo46⟩ := Kd.R_slice HO_9.out
        subst eo46
        go_wp2_with (first | ((with_reducible refine gate_callee (f := 28) rfl ?_);refine goesL_ (some 44) rfl rfl Try.func28 Z236 rfl #[.slice Ao46 t362.length co46,.int .i64 (rd t356 x37_3)] rfl Z146 ?_;(with_reducible refine (impl_BinOf.calls k3 _ _ t362 (rd t356 x37_3) t366 _ ?side1 ?side2 A44.out).mono ?_);(case side1 => repeat (first | exact (Kd.R_reads' HO_9.out).2.2 | (with_reducible refine Kd.C_alloc ?_ _) | (with_reducible refine Kd.C_drewN ?_ _) | (with_reducible refine Kd.C_drew ?_)));(case side2 => exact (Kd.R_reads' HO_9.out).2.1);rintro e w' ⟨rfl,⟨nd,rfl⟩⟩;refine ⟨_,rfl,?_⟩) | ((with_reducible refine gate_dst (N := 45) rfl ?_);refine Kd.R_lit (Kd.int .i64) _ 3 ?hg (N := 45) ?hd (xs := ([t366] : List Int)) (inner := [.int .i64 t366]) (ok := fun _ => True) (okp := fun _ => True) ?hr ?hp (fun _ hk => hk) trivial (Below.refl _ _) (Nat.le_refl _) Z294 ?_;(case hd => rfl);(case hg => rfl);(case hr => exact Z219);(case hp => exact (Reps.one (show Kd.M (Kd.int .i64) _ _ _ t366 [.int .i64 t366] from rfl) (Reps.none _ _)));intro v368 w47 ho48 hb hg_ hnew_;clear hg_ hnew_;(first | rw [← Ny367.out] at ho48 | (simp only [Int.reduceToNat] at ho48;rw [← Ny367.out] at ho48));have n_ := jA (Kd.R_elder' Z182 (Kd.R_base ho48) hb) (jA (Kd.R_elder' Z183 (Kd.R_base ho48) hb) (jA (Kd.R_elder' Z266 (Kd.R_base ho48) hb) (jA (Zn_elder' Z187 (Kd.R_base ho48) hb) (jA (Zn_elder' Z278 (Kd.R_base ho48) hb) (jA (Kd.R_lower (Kd.R_new' (Kd.R_new' (Kd.R_new' (Kd.R_newM (M := fun k_ => (w.heap.size ≤ k_)) ho48 (below_size Z240) (fun k_ h_ => h_)) (Kd.R_lt Z182)) (Kd.R_lt Z183)) (Kd.R_lt Z266)) (below_size Z240)) (jA (blk_below (g := gb351) (o := .cells #[.slice A0_0 l0_0.length c0_0,.string a0_1,.slice A0_2 l0_2.length c0_2,.slice A0_3 l0_3.length c0_3] 31 (0,0)) Z282 hb) (jA (blk_below (g := gb352) (o := .cells #[.slice none 0 0,.slice none 0 0] 29 (0,0)) Z283 hb) (jA (blk_below (g := gb353) (o := .cells #[u354000,u354001] 29 (0,0)) Z284 hb) (Aside0.mk (below_step Z240 hb))))))))));clear HO_8 HO_9 HO_35 HO_354000 HO_354001 BK351 BK352 BK353 HB;obtain ⟨HO_8,HO_9,HO_35,HO_354000,HO_354001,HO369,BK351,BK352,BK353,HB⟩ := n_;clear hb ho48;obtain ⟨Ao50,co50,eo50⟩ := Kd.R_slice HO369.out;subst eo50) | ((with_reducible refine gate_builtin (b := .append) (xs := #[.tmp 41,.tmp 45]) rfl ?_);at_builtin;refine Kd.R_append_rows (Kd.int .i64) (w0 := w) w.heap.size rfl (.tmp 41) (.tmp 45) 24 3 (.int .i64 0) 8 rfl Try.underlying24 info3 rfl Z293 Z237 u8 x8_3 y367 _ _ _ (fun k_ => (w.heap.size ≤ k_) ∧ some k_ ≠ (.slice Ao46 t362.length co46 : Value).ownBlock ∧ some k_ ≠ (.slice (some ad365) t356.length co39 : Value).ownBlock ∧ some k_ ≠ (.slice Ao50 y367.length co50 : Value).ownBlock) (fun _ => False) rfl rfl ?aO ?aR (fun _ _ h => h) (fun _ h => h.elim) ?aF ?aB ?aS ?aL ?_;(case aR => repeat (first | exact (Kd.R_reads' HO369.out).2.2 | (with_reducible refine Kd.C_alloc ?_ _) | (with_reducible refine Kd.C_drewN ?_ _) | (with_reducible refine Kd.C_drew ?_)));(case aB => exact Z80);(case aF => exact (fun k_ hk => ⟨(Nat.le_trans (below_size Z240) hk),Kd.fresh' (Kd.R_lt Z183) k_ hk,Kd.fresh' (Kd.R_lt Z266) k_ hk,Kd.fresh' (Kd.R_lt (by (with_reducible repeat (first | apply Kd.R_alloc | apply Kd.R_drewN | apply Kd.R_drew));exact HO369.out)) k_ hk⟩));(case aO => exact (by (with_reducible repeat (first | apply Kd.R_alloc | apply Kd.R_drewN | apply Kd.R_drew));exact Kd.R_mono HO_8.out (fun _ hk => ⟨hk.1.1,⟨hk.1.2.1,⟨hk.1.2.2,hk.2⟩⟩⟩)));(case aS => exact Z78);(case aL => have := LMc45.out;omega);intro v371 w49 ho hb hg hat;rw [← Ny370.out] at ho;have n_ := jA (Kd.R_after (ok := (fun k_ => (w.heap.size ≤ k_) ∧ some k_ ≠ (.slice (some ad365) t356.length co39 : Value).ownBlock ∧ some k_ ≠ (.slice Ao50 y367.length co50 : Value).ownBlock)) (by (with_reducible repeat (first | apply Kd.R_alloc | apply Kd.R_drewN | apply Kd.R_drew));exact Kd.R_mono HO_9.out (fun _ hk => ⟨⟨hk.1.1,⟨hk.1.2.2,hk.2⟩⟩,hk.1.2.1⟩)) hg hat) (jA (Kd.R_after (ok := (fun k_ => (w.heap.size ≤ k_) ∧ some k_ ≠ (.slice Ao46 t362.length co46 : Value).ownBlock ∧ some k_ ≠ (.slice Ao50 y367.length co50 : Value).ownBlock)) (by (with_reducible repeat (first | apply Kd.R_alloc | apply Kd.R_drewN | apply Kd.R_drew));exact Kd.R_mono HO_35.out (fun _ hk => ⟨⟨hk.1.1,⟨hk.1.2.2,hk.2⟩⟩,hk.1.2.1⟩)) hg hat) (jA (Zn_afterv (ok := (fun k_ => (w.heap.size ≤ k_) ∧ some k_ ≠ (.slice Ao46 t362.length co46 : Value).ownBlock ∧ some k_ ≠ (.slice (some ad365) t356.length co39 : Value).ownBlock ∧ some k_ ≠ (u354001 : Value).ownBlock ∧ some k_ ≠ (.slice Ao50 y367.length co50 : Value).ownBlock ∧ k_ ≠ gb351 ∧ k_ ≠ gb352 ∧ k_ ≠ gb353)) (by (with_reducible repeat (first | apply Zn_alloc | apply Zn_drewN | apply Zn_drew));exact Zn_mono HO_354000.out (fun _ hk => ⟨⟨hk.1.1,⟨hk.1.2.2.1,⟨hk.1.2.2.2.1,⟨hk.1.2.2.2.2.1,⟨hk.2,⟨hk.1.2.2.2.2.2.1,⟨hk.1.2.2.2.2.2.2.1,hk.1.2.2.2.2.2.2.2⟩⟩⟩⟩⟩⟩⟩,hk.1.2.1⟩)) hg hat) (jA (Zn_afterv (ok := (fun k_ => (w.heap.size ≤ k_) ∧ some k_ ≠ (.slice Ao46 t362.length co46 : Value).ownBlock ∧ some k_ ≠ (.slice (some ad365) t356.length co39 : Value).ownBlock ∧ some k_ ≠ (u354000 : Value).ownBlock ∧ some k_ ≠ (.slice Ao50 y367.length co50 : Value).ownBlock ∧ k_ ≠ gb351 ∧ k_ ≠ gb352 ∧ k_ ≠ gb353)) (by (with_reducible repeat (first | apply Zn_alloc | apply Zn_drewN | apply Zn_drew));exact Zn_mono HO_354001.out (fun _ hk => ⟨⟨hk.1.1,⟨hk.1.2.2.1,⟨hk.1.2.2.2.1,⟨hk.1.2.2.2.2.1,⟨hk.2,⟨hk.1.2.2.2.2.2.1,⟨hk.1.2.2.2.2.2.2.1,hk.1.2.2.2.2.2.2.2⟩⟩⟩⟩⟩⟩⟩,hk.1.2.1⟩)) hg hat) (jA (blk_grown (g := gb351) (o := .cells #[.slice A0_0 l0_0.length c0_0,.string a0_1,.slice A0_2 l0_2.length c0_2,.slice A0_3 l0_3.length c0_3] 31 (0,0)) Z282 hg (Kd.R_ne HO_8.out BK351.out Z293)) (jA (blk_grown (g := gb352) (o := .cells #[.slice none 0 0,.slice none 0 0] 29 (0,0)) Z283 hg (Kd.R_ne HO_8.out BK352.out Z293)) (jA (blk_grown (g := gb353) (o := .cells #[u354000,u354001] 29 (0,0)) Z284 hg (Kd.R_ne HO_8.out BK353.out Z293)) (jA (Kd.R_after (ok := (fun k_ => (w.heap.size ≤ k_) ∧ some k_ ≠ (.slice Ao46 t362.length co46 : Value).ownBlock ∧ some k_ ≠ (.slice (some ad365) t356.length co39 : Value).ownBlock)) (by (with_reducible repeat (first | apply Kd.R_alloc | apply Kd.R_drewN | apply Kd.R_drew));exact Kd.R_mono HO369.out (fun _ hk => ⟨⟨hk.1.1.1.1,⟨hk.1.2,hk.2⟩⟩,hk.1.1.2⟩)) hg hat) (jA (hb) (Aside0.mk (ho))))))))));clear HO_9 HO_35 HO_354000 HO_354001 BK351 BK352 BK353 HO369 HB HO_8;obtain ⟨HO_9,HO_35,HO_354000,HO_354001,BK351,BK352,BK353,HO369,HB,HO372⟩ := n_;clear ho hb hg hat))
        go_roundg k3
        case measure => have := HJ2.out;have := HK2.out;have := HK3.out;omega
        case rel => exact ⟨(y370),(wrap64 (x37_3 + 1)),Z218,H',⟨Z215⟩,⟨by (with_reducible repeat (first | apply Kd.R_alloc | apply Kd.R_drewN | apply Kd.R_drew));exact Kd.R_mono HO372.out (fun _ hk => ⟨hk.1,⟨hk.2.1,hk.2.2.1⟩⟩)⟩,⟨by (with_reducible repeat (first | apply Kd.R_alloc | apply Kd.R_drewN | apply Kd.R_drew));exact Kd.R_mono HO_9.out (fun _ hk => ⟨hk.1.1,⟨hk.2,hk.1.2.1⟩⟩)⟩,⟨by (with_reducible repeat (first | apply Kd.R_alloc | apply Kd.R_drewN | apply Kd.R_drew));exact Kd.R_mono HO_35.out (fun _ hk => ⟨hk.1.1,⟨hk.2,hk.1.2.1⟩⟩)⟩,⟨by (with_reducible repeat (first | apply Zn_alloc | apply Zn_drewN | apply Zn_drew));exact Zn_mono HO_354000.out (fun _ hk => ⟨hk.1.1,⟨hk.2,⟨hk.1.2.1,⟨hk.1.2.2.1,⟨hk.1.2.2.2.1,⟨hk.1.2.2.2.2.2.1,⟨hk.1.2.2.2.2.2.2.1,hk.1.2.2.2.2.2.2.2⟩⟩⟩⟩⟩⟩⟩)⟩,⟨by (with_reducible repeat (first | apply Zn_alloc | apply Zn_drewN | apply Zn_drew));exact Zn_mono HO_354001.out (fun _ hk => ⟨hk.1.1,⟨hk.2,⟨hk.1.2.1,⟨hk.1.2.2.1,⟨hk.1.2.2.2.1,⟨hk.1.2.2.2.2.2.1,⟨hk.1.2.2.2.2.2.2.1,hk.1.2.2.2.2.2.2.2⟩⟩⟩⟩⟩⟩⟩)⟩,⟨Z282⟩,⟨Z283⟩,⟨Z284⟩,⟨Z240⟩⟩
       rw [if_neg c41] at H
       have c41b0 : decide (x37_3 < (t356.length : Int)) = false := decide_eq_false c41
       clear c41
       obtain ⟨y373,hyy⟩ : ∃ y_ : List (List Int),y_ = (([t362] : List (List Int))) := ⟨_,rfl⟩
       replace H : (if x354000_2.length + y373.length < 5864062014805 then ((some (([x8_3] : List (List Int)) : List (List Int))).bind fun y379 => (if x354001_2.length + y379.length < 5864062014805 then (impl_GridOf.l0 k3 a1 (l0_0.length : Int) (wrap64 (x25_2 + 1)) l0_0 a0_1 l0_2 l0_3 (x354000_2 ++ y373) (x354001_2 ++ y379)) else (none))) else (none)) = some (r1,r2) := zR
       have Ny373 := Aside0.mk hyy
       clear hyy
       obtain ⟨c51,H⟩ := ifp H
       have LMc51 := Aside0.mk c51
       clear c51
       obtain ⟨y376,hyy⟩ : ∃ y_ : List (List Int),y_ = (x354000_2 ++ y373) := ⟨_,rfl⟩
       replace H : ((some (([x8_3] : List (List Int)) : List (List Int))).bind fun y379 => (if x354001_2.length + y379.length < 5864062014805 then (impl_GridOf.l0 k3 a1 (l0_0.length : Int) (wrap64 (x25_2 + 1)) l0_0 a0_1 l0_2 l0_3 y376 (x354001_2 ++ y379)) else (none))) = some (r1,r2) := zR
       have Ny376 := Aside0.mk hyy
       clear hyy
       obtain ⟨y379,hyy⟩ : ∃ y_ : List (List Int),y_ = (([x8_3] : List (List Int))) := ⟨_,rfl⟩
       replace H : (if x354001_2.length + y379.length < 5864062014805 then (impl_GridOf.l0 k3 a1 (l0_0.length : Int) (wrap64 (x25_2 + 1)) l0_0 a0_1 l0_2 l0_3 y376 (x354001_2 ++ y379)) else (none)) = some (r1,r2) := zR
       have Ny379 := Aside0.mk hyy
       clear hyy
       obtain ⟨c52,H⟩ := ifp H
       have LMc52 := Aside0.mk c52
       clear c52
       obtain ⟨y382,hyy⟩ : ∃ y_ : List (List Int),y_ = (x354001_2 ++ y379) := ⟨_,rfl⟩
       replace H : (impl_GridOf.l0 k3 a1 (l0_0.length : Int) (wrap64 (x25_2 + 1)) l0_0 a0_1 l0_2 l0_3 y376 y382) = some (r1,r2) := zR
       have Ny382 := Aside0.mk hyy
       clear hyy
       have H' := Aside0.mk H
       clear H
       obtain ⟨Ao53,co53,eo53⟩ := Kd.R_slice HO_9.out
       subst eo53
       obtain ⟨Ao54,co54,eo54⟩ := Zn_slice HO_354000.out
       subst eo54
       obtain ⟨Ao55,co55,eo55⟩ := Kd.R_slice HO_8.out
       subst eo55
       obtain ⟨Ao56,co56,eo56⟩ := Zn_slice HO_354001.out
       subst eo56
       try go_wp2
       have n_ := jA (Kd.R_drew HO_8.out) (jA (Kd.R_drew HO_9.out) (jA (Kd.R_drew HO_35.out) (jA (Zn_drew HO_354000.out) (jA (Zn_drew HO_354001.out) (jA (blk_drew BK351.out) (jA (blk_drew BK352.out) (jA (blk_drew BK353.out) (Aside0.mk (below_drew1 HB.out)))))))))
       clear HO_8 HO_9 HO_35 HO_354000 HO_354001 BK351 BK352 BK353 HB
       obtain ⟨HO_8,HO_9,HO_35,HO_354000,HO_354001,BK351,BK352,BK353,HB⟩ := n_
       refine start_ (n := 14) (S := fun w' => w'.cell? ⟨gb353,0,none⟩ = some (.slice Ao54 x354000_2.length co54) ∧ w'.cell? ⟨gb353,1,none⟩ = some (.slice Ao56 x354001_2.length co56)) (ds := [11,13]) (qM 14 0) Z236 rfl (by kernel_rfl) ⟨bc BK353 0,bc BK353 1⟩ (fun hHeld => ?_);refine with_tabW impl_GridOf.tab14 impl_GridOf.bits14 (fun HT_ HW_ => ?_)
       generalize wr.drew = w57 at HO_8 HO_9 HO_35 HO_354000 HO_354001 BK351 BK352 BK353 HB hHeld ⊢
       refine rP 0 48 14 1 HT_ (h := ?_)
       refine rP 2 50 14 5 HT_ (h := ?_)
       refine rP 5 53 14 37 HT_ (h := ?_)
       refine rP 7 55 14 165 HT_ (h := ?_)
       refine rT2 1 49 14 167 HT_ HW_ hHeld (h := ?_)
       refine rT2 6 54 14 231 HT_ HW_ hHeld (h := ?_)
       obtain ⟨CA_,CB_,CC_,CO_,hcc_,hco_,hac_,hbo_,hE_,ha_,hb_⟩ : ∃ CA CB CC CO : Nat → Prop,(∀ k,some k = (.slice Ao53 t362.length co53 : Value).ownBlock → CC k) ∧ (∀ k,some k = (.slice Ao55 x8_3.length co55 : Value).ownBlock → CO k) ∧ (∀ k,CC k → ¬ CA k) ∧ (∀ k,CO k → ¬ CB k) ∧ (∀ k,CA k ∨ CC k → ¬ (CB k ∨ CO k)) ∧ (∀ k,some k ≠ (.slice Ao55 x8_3.length co55 : Value).ownBlock → some k ≠ (.slice Ao53 t362.length co53 : Value).ownBlock → P0_ k → CA k) ∧ (∀ k,some k ≠ (.slice Ao55 x8_3.length co55 : Value).ownBlock → some k ≠ (.slice Ao53 t362.length co53 : Value).ownBlock → P1_ k → CB k) := by
        refine ⟨fun k => P0_ k ∧ some k ≠ (.slice Ao55 x8_3.length co55 : Value).ownBlock ∧ some k ≠ (.slice Ao53 t362.length co53 : Value).ownBlock,fun k => P1_ k ∧ some k ≠ (.slice Ao55 x8_3.length co55 : Value).ownBlock ∧ some k ≠ (.slice Ao53 t362.length co53 : Value).ownBlock,fun k => some k = (.slice Ao53 t362.length co53 : Value).ownBlock,fun k => some k = (.slice Ao55 x8_3.length co55 : Value).ownBlock,fun _ h => h,fun _ h => h,fun _ h h2 => h2.2.2 h,fun _ h h2 => h2.2.1 h,fun k h h2 => ?_,fun _ h1 h2 h3 => ⟨h3,h1,h2⟩,fun _ h1 h2 h3 => ⟨h3,h1,h2⟩⟩
        rcases h with h | h
        ·rcases h2 with h2 | h2
         ·exact HD_ k h.1 h2.1
         exact h.2.1 h2
        rcases h2 with h2 | h2
        ·exact h2.2.2 h
        exact (HO_9.out.1 k h.symm).2.1 h2
       have n0_ := Aside0.mk (Zn_color HO_354000.out (fun k_ h_ h2_ => ha_ k_ h_.2.1 h_.2.2.1 h2_))
       have n1_ := Aside0.mk (Zn_color HO_354001.out (fun k_ h_ h2_ => hb_ k_ h_.2.1 h_.2.2.1 h2_))
       have HE_ := Aside0.mk hE_
       clear HO_354000 HO_354001 ha_ hb_ hE_
       have HO_354000 := n0_
       have HO_354001 := n1_
       clear n0_ n1_
       refine join_ (σ := Value × Value × Value) 4 (qM 14 1535) (fun s_ => [(51,s_.1),(52,s_.2.1),(56,s_.2.2),(58,.pointer (some ⟨gb353,0,none⟩))]) (fun s_ w' => (w'.cell? ⟨gb353,0,none⟩ = some (.slice Ao54 x354000_2.length co54) ∧ w'.cell? ⟨gb353,1,none⟩ = some (.slice Ao56 x354001_2.length co56)) ∧ (Zn w.heap.size CC_ (Kd.slice 3 (Kd.int .i64)) 24 w' w.heap.size (fun k_ => (w.heap.size ≤ k_) ∧ some k_ ≠ (s_.2.1 : Value).ownBlock ∧ some k_ ≠ (s_.2.2 : Value).ownBlock ∧ some k_ ≠ (.slice Ao39 t356.length co39 : Value).ownBlock ∧ some k_ ≠ (.slice Ao56 x354001_2.length co56 : Value).ownBlock ∧ k_ ≠ gb351 ∧ k_ ≠ gb352 ∧ k_ ≠ gb353) s_.1 y373) ∧ (Zn w.heap.size (fun k_ => CA_ k_ ∨ CC_ k_) (Kd.slice 3 (Kd.int .i64)) 24 w' w.heap.size (fun k_ => (w.heap.size ≤ k_) ∧ some k_ ≠ (s_.2.2 : Value).ownBlock ∧ some k_ ≠ (.slice Ao39 t356.length co39 : Value).ownBlock ∧ some k_ ≠ (.slice Ao56 x354001_2.length co56 : Value).ownBlock ∧ k_ ≠ gb351 ∧ k_ ≠ gb352 ∧ k_ ≠ gb353) s_.2.1 y376) ∧ (Zn w.heap.size CO_ (Kd.slice 3 (Kd.int .i64)) 24 w' w.heap.size (fun k_ => (w.heap.size ≤ k_) ∧ some k_ ≠ (s_.1 : Value).ownBlock ∧ some k_ ≠ (s_.2.1 : Value).ownBlock ∧ some k_ ≠ (.slice Ao39 t356.length co39 : Value).ownBlock ∧ some k_ ≠ (.slice Ao56 x354001_2.length co56 : Value).ownBlock ∧ k_ ≠ gb351 ∧ k_ ≠ gb352 ∧ k_ ≠ gb353) s_.2.2 y379) ∧ (Kd.R (Kd.int .i64) 3 w' w.heap.size (fun k_ => (w.heap.size ≤ k_)) (.slice Ao39 t356.length co39) t356) ∧ (Zn w.heap.size CB_ (Kd.slice 3 (Kd.int .i64)) 24 w' w.heap.size (fun k_ => (w.heap.size ≤ k_) ∧ some k_ ≠ (s_.1 : Value).ownBlock ∧ some k_ ≠ (s_.2.1 : Value).ownBlock ∧ some k_ ≠ (s_.2.2 : Value).ownBlock ∧ some k_ ≠ (.slice Ao39 t356.length co39 : Value).ownBlock ∧ k_ ≠ gb351 ∧ k_ ≠ gb352 ∧ k_ ≠ gb353) (.slice Ao56 x354001_2.length co56) x354001_2) ∧ (w'.heap[gb351]? = some (.cells #[.slice A0_0 l0_0.length c0_0,.string a0_1,.slice A0_2 l0_2.length c0_2,.slice A0_3 l0_3.length c0_3] 31 (0,0))) ∧ (w'.heap[gb352]? = some (.cells #[.slice none 0 0,.slice none 0 0] 29 (0,0))) ∧ (w'.heap[gb353]? = some (.cells #[.slice Ao54 x354000_2.length co54,.slice Ao56 x354001_2.length co56] 29 (0,0))) ∧ (Below w.heap.size w w')) ?_ ?_
       rotate_left
       ·intro hCont
        refine two_ (i := 3) (j := 8) (Ni := some 51) (Nj := some 56) (qM 14 239) (qM 14 487) rfl rfl rfl rfl (two_of HT_.out Z236) Z293 Z293 (fun K hK => ?_) (fun K hK => ?_)
        ·skip
         refine Zn_lit_step (rb := w.heap.size) (Kd.slice 3 (Kd.int .i64)) _ 24 ?hg (N' := 51) ?hd (xs := ([t362] : List (List Int))) (C := CC_) (inner := [.slice Ao53 t362.length co53]) (ok := (fun k_ => (w.heap.size ≤ k_) ∧ some k_ ≠ (.slice Ao55 x8_3.length co55 : Value).ownBlock ∧ some k_ ≠ (.slice Ao39 t356.length co39 : Value).ownBlock ∧ some k_ ≠ (.slice Ao54 x354000_2.length co54 : Value).ownBlock ∧ some k_ ≠ (.slice Ao56 x354001_2.length co56 : Value).ownBlock ∧ k_ ≠ gb351 ∧ k_ ≠ gb352 ∧ k_ ≠ gb353)) (okp := (fun k_ => (w.heap.size ≤ k_) ∧ some k_ ≠ (.slice Ao55 x8_3.length co55 : Value).ownBlock ∧ some k_ ≠ (.slice Ao39 t356.length co39 : Value).ownBlock ∧ some k_ ≠ (.slice Ao54 x354000_2.length co54 : Value).ownBlock ∧ some k_ ≠ (.slice Ao56 x354001_2.length co56 : Value).ownBlock ∧ k_ ≠ gb351 ∧ k_ ≠ gb352 ∧ k_ ≠ gb353)) ?hr ?hp (fun _ hk => hk) ((show ∀ k_,w57.heap.size ≤ k_ → (fun k_ => (w.heap.size ≤ k_) ∧ some k_ ≠ (.slice Ao55 x8_3.length co55 : Value).ownBlock ∧ some k_ ≠ (.slice Ao39 t356.length co39 : Value).ownBlock ∧ some k_ ≠ (.slice Ao54 x354000_2.length co54 : Value).ownBlock ∧ some k_ ≠ (.slice Ao56 x354001_2.length co56 : Value).ownBlock ∧ k_ ≠ gb351 ∧ k_ ≠ gb352 ∧ k_ ≠ gb353) k_ from fun k_ hk => ⟨(Nat.le_trans (below_size Z240) hk),Kd.fresh' (Kd.R_lt Z182) k_ hk,Kd.fresh' (Kd.R_lt Z266) k_ hk,Kd.fresh' (Zn_lt Z187) k_ hk,Kd.fresh' (Zn_lt Z278) k_ hk,Kd.freshB (g := gb351) (o := .cells #[.slice A0_0 l0_0.length c0_0,.string a0_1,.slice A0_2 l0_2.length c0_2,.slice A0_3 l0_3.length c0_3] 31 (0,0)) Z282 k_ hk,Kd.freshB (g := gb352) (o := .cells #[.slice none 0 0,.slice none 0 0] 29 (0,0)) Z283 k_ hk,Kd.freshB (g := gb353) (o := .cells #[.slice Ao54 x354000_2.length co54,.slice Ao56 x354001_2.length co56] 29 (0,0)) Z284 k_ hk⟩) _ (Nat.le_refl _)) (Below.refl _ _) (Nat.le_refl _) Z294 ?_;(case hd => rfl);(case hg => rfl);(case hr => exact Z219);(case hp => exact (Reps.one (show Kd.M (Kd.slice 3 (Kd.int .i64)) _ _ _ t362 [.slice Ao53 t362.length co53] from ⟨_,rfl,Kd.R_mono (Kd.R_tight2 rfl (Kd.R_mono (ok' := (fun k_ => (w.heap.size ≤ k_) ∧ some k_ ≠ (.slice Ao55 x8_3.length co55 : Value).ownBlock ∧ some k_ ≠ (.slice Ao39 t356.length co39 : Value).ownBlock ∧ some k_ ≠ (.slice Ao54 x354000_2.length co54 : Value).ownBlock ∧ some k_ ≠ (.slice Ao56 x354001_2.length co56 : Value).ownBlock ∧ k_ ≠ gb351 ∧ k_ ≠ gb352 ∧ k_ ≠ gb353)) (Kd.R_types (Kd.R_types (Kd.R_types (Kd.R_apart' (Kd.R_apart' (HO_9.out) (Zn_typed HO_354000.out) Z293) (Zn_typed HO_354001.out) Z293) BK351.out Z293) BK352.out Z293) BK353.out Z293) (fun k_ hk => ⟨hk.1.1.1.1.1.1,⟨hk.1.1.1.1.1.2.1,⟨hk.1.1.1.1.1.2.2,⟨hk.1.1.1.1.2,⟨hk.1.1.1.2,⟨hk.1.1.2,⟨hk.1.2,hk.2⟩⟩⟩⟩⟩⟩⟩))) (fun k_ hk_ => ⟨hk_.2,hcc_ k_ hk_.1⟩)⟩) (Reps.none _ _)))
         intro v374 w58 ho59 hb hg_ hnew_
         clear hg_ hnew_
         (first | rw [← Ny373.out] at ho59 | (simp only [Int.reduceToNat] at ho59;rw [← Ny373.out] at ho59))
         have n_ := jA (Kd.R_below Z182 hb) (jA (Kd.R_below Z266 hb) (jA (Zn_elder' Z187 (Zn_base ho59) hb) (jA (Zn_elder' Z278 (Zn_base ho59) hb) (jA (Zn_lower ho59 (below_size Z240)) (jA (blk_below (g := gb351) (o := .cells #[.slice A0_0 l0_0.length c0_0,.string a0_1,.slice A0_2 l0_2.length c0_2,.slice A0_3 l0_3.length c0_3] 31 (0,0)) Z282 hb) (jA (blk_below (g := gb352) (o := .cells #[.slice none 0 0,.slice none 0 0] 29 (0,0)) Z283 hb) (jA (blk_below (g := gb353) (o := .cells #[.slice Ao54 x354000_2.length co54,.slice Ao56 x354001_2.length co56] 29 (0,0)) Z284 hb) (Aside0.mk (below_step Z240 hb)))))))))
         clear HO_8 HO_35 HO_354000 HO_354001 BK351 BK352 BK353 HB HO_9
         obtain ⟨HO_8,HO_35,HO_354000,HO_354001,HO375,BK351,BK352,BK353,HB⟩ := n_
         clear hb ho59
         obtain ⟨Ao61,co61,eo61⟩ := Zn_slice HO375.out
         (first | subst eo61 | (injection eo61 with f1_ f2_ f3_;have f4_ := f1_.symm;have f5_ := f3_.symm;clear f1_ f2_ f3_;subst f4_;subst f5_))
         refine hK.out _ _ ⟨bc BK353 0,bc BK353 1⟩ (fun hHeld => ?_)
         clear hK K
         refine rN (h := ?_)
         refine two_ (i := 4) (j := 8) (Ni := some 52) (Nj := some 56) (qM 14 255) (qM 14 495) rfl rfl rfl rfl (two_of HT_.out Z236) Z293 Z293 (fun K hK => ?_) (fun K hK => ?_)
         ·skip
          refine Zn_append_rows_step (rb := w.heap.size) (base2 := w.heap.size) (Ca := CA_) (Cb := CC_) (Kd.slice 3 (Kd.int .i64)) (w0 := w) w.heap.size Z238 (.tmp 49) (.tmp 51) 23 24 (.slice none 0 0) 24 rfl Try.underlying23 info24 rfl Z293 Z237 (.slice Ao54 x354000_2.length co54) x354000_2 y373 _ _ _ (fun k_ => (w.heap.size ≤ k_) ∧ some k_ ≠ (.slice Ao55 x8_3.length co55 : Value).ownBlock ∧ some k_ ≠ (.slice Ao39 t356.length co39 : Value).ownBlock ∧ some k_ ≠ (.slice Ao56 x354001_2.length co56 : Value).ownBlock ∧ k_ ≠ gb351 ∧ k_ ≠ gb352 ∧ k_ ≠ gb353) (fun k_ => ((fun k_ => (w.heap.size ≤ k_) ∧ some k_ ≠ (.slice Ao55 x8_3.length co55 : Value).ownBlock ∧ some k_ ≠ (.slice Ao39 t356.length co39 : Value).ownBlock ∧ some k_ ≠ (.slice Ao56 x354001_2.length co56 : Value).ownBlock ∧ k_ ≠ gb351 ∧ k_ ≠ gb352 ∧ k_ ≠ gb353)) k_ ∧ some k_ ≠ (.slice Ao54 x354000_2.length co54 : Value).ownBlock) rfl rfl ?aO ?aR (fun _ hk => hk) ?aF ?aB ?aS ?aL ?aC ?_
          (case aC => exact hac_)
          (case aR => exact (by skip;exact Zn_F (Zn_mono (ok' := (fun k_ => ((fun k_ => (w.heap.size ≤ k_) ∧ some k_ ≠ (.slice Ao55 x8_3.length co55 : Value).ownBlock ∧ some k_ ≠ (.slice Ao39 t356.length co39 : Value).ownBlock ∧ some k_ ≠ (.slice Ao56 x354001_2.length co56 : Value).ownBlock ∧ k_ ≠ gb351 ∧ k_ ≠ gb352 ∧ k_ ≠ gb353)) k_ ∧ some k_ ≠ (.slice Ao54 x354000_2.length co54 : Value).ownBlock)) (HO375.out) (fun k_ hk => ⟨⟨hk.1,⟨hk.2.1,⟨hk.2.2.1,⟨hk.2.2.2.2.1,⟨hk.2.2.2.2.2.1,⟨hk.2.2.2.2.2.2.1,hk.2.2.2.2.2.2.2⟩⟩⟩⟩⟩⟩,hk.2.2.2.1⟩))))
          (case aB => exact Z80)
          (case aF => exact (fun k_ hk => ⟨(Nat.le_trans (below_size Z240) hk),Kd.fresh' (Kd.R_lt Z182) k_ hk,Kd.fresh' (Kd.R_lt Z266) k_ hk,Kd.fresh' (Zn_lt Z278) k_ hk,Kd.freshB (g := gb351) (o := .cells #[.slice A0_0 l0_0.length c0_0,.string a0_1,.slice A0_2 l0_2.length c0_2,.slice A0_3 l0_3.length c0_3] 31 (0,0)) Z282 k_ hk,Kd.freshB (g := gb352) (o := .cells #[.slice none 0 0,.slice none 0 0] 29 (0,0)) Z283 k_ hk,Kd.freshB (g := gb353) (o := .cells #[.slice Ao54 x354000_2.length co54,.slice Ao56 x354001_2.length co56] 29 (0,0)) Z284 k_ hk⟩))
          (case aO => exact (by (with_reducible repeat (first | apply Zn_alloc | apply Zn_drewN | apply Zn_drew));exact Zn_mono HO_354000.out (fun _ hk => ⟨hk.1.1,⟨hk.1.2.1,⟨hk.1.2.2.2.1,⟨hk.1.2.2.2.2.1,⟨hk.1.2.2.2.2.2.1,⟨hk.1.2.2.2.2.2.2.1,hk.1.2.2.2.2.2.2.2⟩⟩⟩⟩⟩⟩)))
          (case aS => exact Z78)
          (case aL => have := LMc51.out;omega)
          intro v377 w60 ho hb hg hat
          rw [← Ny376.out] at ho
          have n_ := jA (Kd.R_over' Z182 (Zn_typed Z187) Z293 hg) (jA (Kd.R_over' Z266 (Zn_typed Z187) Z293 hg) (jA (Zn_afterv (ok := (fun k_ => (w.heap.size ≤ k_) ∧ some k_ ≠ (.slice Ao55 x8_3.length co55 : Value).ownBlock ∧ some k_ ≠ (.slice Ao39 t356.length co39 : Value).ownBlock ∧ some k_ ≠ (.slice Ao61 y373.length co61 : Value).ownBlock ∧ k_ ≠ gb351 ∧ k_ ≠ gb352 ∧ k_ ≠ gb353)) (by (with_reducible repeat (first | apply Zn_alloc | apply Zn_drewN | apply Zn_drew));exact Zn_mono HO_354001.out (fun _ hk => ⟨⟨hk.1.1,⟨hk.1.2.1,⟨hk.1.2.2.2.1,⟨hk.2,⟨hk.1.2.2.2.2.2.1,⟨hk.1.2.2.2.2.2.2.1,hk.1.2.2.2.2.2.2.2⟩⟩⟩⟩⟩⟩,hk.1.2.2.2.2.1⟩)) hg hat) (jA (blk_grown (g := gb351) (o := .cells #[.slice A0_0 l0_0.length c0_0,.string a0_1,.slice A0_2 l0_2.length c0_2,.slice A0_3 l0_3.length c0_3] 31 (0,0)) Z282 hg (Zn_ne HO_354000.out BK351.out Z293)) (jA (blk_grown (g := gb352) (o := .cells #[.slice none 0 0,.slice none 0 0] 29 (0,0)) Z283 hg (Zn_ne HO_354000.out BK352.out Z293)) (jA (blk_grown (g := gb353) (o := .cells #[.slice Ao54 x354000_2.length co54,.slice Ao56 x354001_2.length co56] 29 (0,0)) Z284 hg (Zn_ne HO_354000.out BK353.out Z293)) (jA (Zn_afterv (ok := (fun k_ => (w.heap.size ≤ k_) ∧ some k_ ≠ (.slice Ao55 x8_3.length co55 : Value).ownBlock ∧ some k_ ≠ (.slice Ao39 t356.length co39 : Value).ownBlock ∧ some k_ ≠ (.slice Ao56 x354001_2.length co56 : Value).ownBlock ∧ k_ ≠ gb351 ∧ k_ ≠ gb352 ∧ k_ ≠ gb353)) (by (with_reducible repeat (first | apply Zn_alloc | apply Zn_drewN | apply Zn_drew));exact Zn_mono HO375.out (fun _ hk => ⟨⟨hk.1,⟨hk.2.1,⟨hk.2.2.1,⟨hk.2.2.2.2.1,⟨hk.2.2.2.2.2.1,⟨hk.2.2.2.2.2.2.1,hk.2.2.2.2.2.2.2⟩⟩⟩⟩⟩⟩,hk.2.2.2.1⟩)) hg hat) (jA (hb) (Aside0.mk (ho)))))))))
          clear HO_8 HO_35 HO_354001 BK351 BK352 BK353 HO375 HB HO_354000
          obtain ⟨HO_8,HO_35,HO_354001,BK351,BK352,BK353,HO375,HB,HO378⟩ := n_
          clear ho hb hg hat
          refine hK.out _ _ ⟨bc BK353 0,bc BK353 1⟩ (fun hHeld => ?_)
          clear hK K
          refine rN (h := ?_)
          refine rP 10 58 14 1279 HT_ (h := ?_)
          refine rO 8 56 14 1535 HT_ (h := fun K hK => ?_)
          refine Zn_lit_step (rb := w.heap.size) (Kd.slice 3 (Kd.int .i64)) _ 24 ?hg (N' := 56) ?hd (xs := ([x8_3] : List (List Int))) (C := CO_) (inner := [.slice Ao55 x8_3.length co55]) (ok := (fun k_ => (w.heap.size ≤ k_) ∧ some k_ ≠ (.slice Ao39 t356.length co39 : Value).ownBlock ∧ some k_ ≠ (.slice Ao56 x354001_2.length co56 : Value).ownBlock ∧ some k_ ≠ (.slice Ao61 y373.length co61 : Value).ownBlock ∧ some k_ ≠ (v377 : Value).ownBlock ∧ k_ ≠ gb351 ∧ k_ ≠ gb352 ∧ k_ ≠ gb353)) (okp := (fun k_ => (w.heap.size ≤ k_) ∧ some k_ ≠ (.slice Ao39 t356.length co39 : Value).ownBlock ∧ some k_ ≠ (.slice Ao56 x354001_2.length co56 : Value).ownBlock ∧ some k_ ≠ (.slice Ao61 y373.length co61 : Value).ownBlock ∧ some k_ ≠ (v377 : Value).ownBlock ∧ k_ ≠ gb351 ∧ k_ ≠ gb352 ∧ k_ ≠ gb353)) ?hr ?hp (fun _ hk => hk) ((show ∀ k_,w60.heap.size ≤ k_ → (fun k_ => (w.heap.size ≤ k_) ∧ some k_ ≠ (.slice Ao39 t356.length co39 : Value).ownBlock ∧ some k_ ≠ (.slice Ao56 x354001_2.length co56 : Value).ownBlock ∧ some k_ ≠ (.slice Ao61 y373.length co61 : Value).ownBlock ∧ some k_ ≠ (v377 : Value).ownBlock ∧ k_ ≠ gb351 ∧ k_ ≠ gb352 ∧ k_ ≠ gb353) k_ from fun k_ hk => ⟨(Nat.le_trans (below_size Z240) hk),Kd.fresh' (Kd.R_lt Z266) k_ hk,Kd.fresh' (Zn_lt Z278) k_ hk,Kd.fresh' (Zn_lt Z199) k_ hk,Kd.fresh' (Zn_lt Z203) k_ hk,Kd.freshB (g := gb351) (o := .cells #[.slice A0_0 l0_0.length c0_0,.string a0_1,.slice A0_2 l0_2.length c0_2,.slice A0_3 l0_3.length c0_3] 31 (0,0)) Z282 k_ hk,Kd.freshB (g := gb352) (o := .cells #[.slice none 0 0,.slice none 0 0] 29 (0,0)) Z283 k_ hk,Kd.freshB (g := gb353) (o := .cells #[.slice Ao54 x354000_2.length co54,.slice Ao56 x354001_2.length co56] 29 (0,0)) Z284 k_ hk⟩) _ (Nat.le_refl _)) (Below.refl _ _) (Nat.le_refl _) Z294 ?_;(case hd => rfl);(case hg => rfl);(case hr => exact Z219);(case hp => exact (Reps.one (show Kd.M (Kd.slice 3 (Kd.int .i64)) _ _ _ x8_3 [.slice Ao55 x8_3.length co55] from ⟨_,rfl,Kd.R_mono (Kd.R_tight2 rfl (Kd.R_mono (ok' := (fun k_ => (w.heap.size ≤ k_) ∧ some k_ ≠ (.slice Ao39 t356.length co39 : Value).ownBlock ∧ some k_ ≠ (.slice Ao56 x354001_2.length co56 : Value).ownBlock ∧ some k_ ≠ (.slice Ao61 y373.length co61 : Value).ownBlock ∧ some k_ ≠ (v377 : Value).ownBlock ∧ k_ ≠ gb351 ∧ k_ ≠ gb352 ∧ k_ ≠ gb353)) (Kd.R_types (Kd.R_types (Kd.R_types (Kd.R_apart' (Kd.R_apart' (Kd.R_apart' (HO_8.out) (Zn_typed HO_354001.out) Z293) (Zn_typed HO375.out) Z293) (Zn_typed HO378.out) Z293) BK351.out Z293) BK352.out Z293) BK353.out Z293) (fun k_ hk => ⟨hk.1.1.1.1.1.1.1,⟨hk.1.1.1.1.1.1.2.2,⟨hk.1.1.1.1.1.2,⟨hk.1.1.1.1.2,⟨hk.1.1.1.2,⟨hk.1.1.2,⟨hk.1.2,hk.2⟩⟩⟩⟩⟩⟩⟩))) (fun k_ hk_ => ⟨hk_.2,hco_ k_ hk_.1⟩)⟩) (Reps.none _ _)))
          intro v380 w62 ho63 hb hg_ hnew_
          clear hg_ hnew_
          (first | rw [← Ny379.out] at ho63 | (simp only [Int.reduceToNat] at ho63;rw [← Ny379.out] at ho63))
          have n_ := jA (Kd.R_below Z266 hb) (jA (Zn_elder' Z278 (Zn_base ho63) hb) (jA (Zn_elder' Z199 (Zn_base ho63) hb) (jA (Zn_elder' Z203 (Zn_base ho63) hb) (jA (Zn_lower ho63 (below_size Z240)) (jA (blk_below (g := gb351) (o := .cells #[.slice A0_0 l0_0.length c0_0,.string a0_1,.slice A0_2 l0_2.length c0_2,.slice A0_3 l0_3.length c0_3] 31 (0,0)) Z282 hb) (jA (blk_below (g := gb352) (o := .cells #[.slice none 0 0,.slice none 0 0] 29 (0,0)) Z283 hb) (jA (blk_below (g := gb353) (o := .cells #[.slice Ao54 x354000_2.length co54,.slice Ao56 x354001_2.length co56] 29 (0,0)) Z284 hb) (Aside0.mk (below_step Z240 hb)))))))))
          clear HO_35 HO_354001 HO375 HO378 BK351 BK352 BK353 HB HO_8
          obtain ⟨HO_35,HO_354001,HO375,HO378,HO381,BK351,BK352,BK353,HB⟩ := n_
          clear hb ho63
          refine hK.out _ _ ⟨bc BK353 0,bc BK353 1⟩ (fun hHeld => ?_)
          clear hK K
          refine rN (h := ?_)
          exact norm_ Z208 (hCont (.slice Ao61 y373.length co61,v377,v380) _ ⟨hHeld,(by (with_reducible repeat (first | apply Zn_alloc | apply Zn_drewN | apply Zn_drew));exact Zn_mono HO375.out (fun _ hk => ⟨hk.1.1.1,⟨hk.1.2,⟨hk.2,⟨hk.1.1.2.2.1,⟨hk.1.1.2.2.2.1,⟨hk.1.1.2.2.2.2.1,⟨hk.1.1.2.2.2.2.2.1,hk.1.1.2.2.2.2.2.2⟩⟩⟩⟩⟩⟩⟩)),(by (with_reducible repeat (first | apply Zn_alloc | apply Zn_drewN | apply Zn_drew));exact Zn_mono HO378.out (fun _ hk => ⟨hk.1.1,⟨hk.2,⟨hk.1.2.2.1,⟨hk.1.2.2.2.1,⟨hk.1.2.2.2.2.1,⟨hk.1.2.2.2.2.2.1,hk.1.2.2.2.2.2.2⟩⟩⟩⟩⟩⟩)),(by (with_reducible repeat (first | apply Zn_alloc | apply Zn_drewN | apply Zn_drew));exact Zn_mono HO381.out (fun _ hk => ⟨hk.1,⟨hk.2.2.2.1,⟨hk.2.2.2.2.1,⟨hk.2.1,⟨hk.2.2.1,⟨hk.2.2.2.2.2.1,⟨hk.2.2.2.2.2.2.1,hk.2.2.2.2.2.2.2⟩⟩⟩⟩⟩⟩⟩)),Z149,(by (with_reducible repeat (first | apply Zn_alloc | apply Zn_drewN | apply Zn_drew));exact Zn_mono HO_354001.out (fun _ hk => ⟨hk.1.1.1,⟨hk.1.1.2.2.2.1,⟨hk.1.2,⟨hk.2,⟨hk.1.1.2.2.1,⟨hk.1.1.2.2.2.2.1,⟨hk.1.1.2.2.2.2.2.1,hk.1.1.2.2.2.2.2.2⟩⟩⟩⟩⟩⟩⟩)),Z282,Z283,Z284,Z240⟩)
         skip
         refine Zn_lit_step (rb := w.heap.size) (Kd.slice 3 (Kd.int .i64)) _ 24 ?hg (N' := 56) ?hd (xs := ([x8_3] : List (List Int))) (C := CO_) (inner := [.slice Ao55 x8_3.length co55]) (ok := (fun k_ => (w.heap.size ≤ k_) ∧ some k_ ≠ (.slice Ao39 t356.length co39 : Value).ownBlock ∧ some k_ ≠ (.slice Ao54 x354000_2.length co54 : Value).ownBlock ∧ some k_ ≠ (.slice Ao56 x354001_2.length co56 : Value).ownBlock ∧ some k_ ≠ (.slice Ao61 y373.length co61 : Value).ownBlock ∧ k_ ≠ gb351 ∧ k_ ≠ gb352 ∧ k_ ≠ gb353)) (okp := (fun k_ => (w.heap.size ≤ k_) ∧ some k_ ≠ (.slice Ao39 t356.length co39 : Value).ownBlock ∧ some k_ ≠ (.slice Ao54 x354000_2.length co54 : Value).ownBlock ∧ some k_ ≠ (.slice Ao56 x354001_2.length co56 : Value).ownBlock ∧ some k_ ≠ (.slice Ao61 y373.length co61 : Value).ownBlock ∧ k_ ≠ gb351 ∧ k_ ≠ gb352 ∧ k_ ≠ gb353)) ?hr ?hp (fun _ hk => hk) ((show ∀ k_,w58.heap.size ≤ k_ → (fun k_ => (w.heap.size ≤ k_) ∧ some k_ ≠ (.slice Ao39 t356.length co39 : Value).ownBlock ∧ some k_ ≠ (.slice Ao54 x354000_2.length co54 : Value).ownBlock ∧ some k_ ≠ (.slice Ao56 x354001_2.length co56 : Value).ownBlock ∧ some k_ ≠ (.slice Ao61 y373.length co61 : Value).ownBlock ∧ k_ ≠ gb351 ∧ k_ ≠ gb352 ∧ k_ ≠ gb353) k_ from fun k_ hk => ⟨(Nat.le_trans (below_size Z240) hk),Kd.fresh' (Kd.R_lt Z266) k_ hk,Kd.fresh' (Zn_lt Z187) k_ hk,Kd.fresh' (Zn_lt Z278) k_ hk,Kd.fresh' (Zn_lt Z199) k_ hk,Kd.freshB (g := gb351) (o := .cells #[.slice A0_0 l0_0.length c0_0,.string a0_1,.slice A0_2 l0_2.length c0_2,.slice A0_3 l0_3.length c0_3] 31 (0,0)) Z282 k_ hk,Kd.freshB (g := gb352) (o := .cells #[.slice none 0 0,.slice none 0 0] 29 (0,0)) Z283 k_ hk,Kd.freshB (g := gb353) (o := .cells #[.slice Ao54 x354000_2.length co54,.slice Ao56 x354001_2.length co56] 29 (0,0)) Z284 k_ hk⟩) _ (Nat.le_refl _)) (Below.refl _ _) (Nat.le_refl _) Z294 ?_;(case hd => rfl);(case hg => rfl);(case hr => exact Z219);(case hp => exact (Reps.one (show Kd.M (Kd.slice 3 (Kd.int .i64)) _ _ _ x8_3 [.slice Ao55 x8_3.length co55] from ⟨_,rfl,Kd.R_mono (Kd.R_tight2 rfl (Kd.R_mono (ok' := (fun k_ => (w.heap.size ≤ k_) ∧ some k_ ≠ (.slice Ao39 t356.length co39 : Value).ownBlock ∧ some k_ ≠ (.slice Ao54 x354000_2.length co54 : Value).ownBlock ∧ some k_ ≠ (.slice Ao56 x354001_2.length co56 : Value).ownBlock ∧ some k_ ≠ (.slice Ao61 y373.length co61 : Value).ownBlock ∧ k_ ≠ gb351 ∧ k_ ≠ gb352 ∧ k_ ≠ gb353)) (Kd.R_types (Kd.R_types (Kd.R_types (Kd.R_apart' (Kd.R_apart' (Kd.R_apart' (HO_8.out) (Zn_typed HO_354000.out) Z293) (Zn_typed HO_354001.out) Z293) (Zn_typed HO375.out) Z293) BK351.out Z293) BK352.out Z293) BK353.out Z293) (fun k_ hk => ⟨hk.1.1.1.1.1.1.1,⟨hk.1.1.1.1.1.1.2.2,⟨hk.1.1.1.1.1.2,⟨hk.1.1.1.1.2,⟨hk.1.1.1.2,⟨hk.1.1.2,⟨hk.1.2,hk.2⟩⟩⟩⟩⟩⟩⟩))) (fun k_ hk_ => ⟨hk_.2,hco_ k_ hk_.1⟩)⟩) (Reps.none _ _)))
         intro v380 w60 ho61 hb hg_ hnew_
         clear hg_ hnew_
         (first | rw [← Ny379.out] at ho61 | (simp only [Int.reduceToNat] at ho61;rw [← Ny379.out] at ho61))
         have n_ := jA (Kd.R_below Z266 hb) (jA (Zn_elder' Z187 (Zn_base ho61) hb) (jA (Zn_elder' Z278 (Zn_base ho61) hb) (jA (Zn_elder' Z199 (Zn_base ho61) hb) (jA (Zn_lower ho61 (below_size Z240)) (jA (blk_below (g := gb351) (o := .cells #[.slice A0_0 l0_0.length c0_0,.string a0_1,.slice A0_2 l0_2.length c0_2,.slice A0_3 l0_3.length c0_3] 31 (0,0)) Z282 hb) (jA (blk_below (g := gb352) (o := .cells #[.slice none 0 0,.slice none 0 0] 29 (0,0)) Z283 hb) (jA (blk_below (g := gb353) (o := .cells #[.slice Ao54 x354000_2.length co54,.slice Ao56 x354001_2.length co56] 29 (0,0)) Z284 hb) (Aside0.mk (below_step Z240 hb)))))))))
         clear HO_35 HO_354000 HO_354001 HO375 BK351 BK352 BK353 HB HO_8
         obtain ⟨HO_35,HO_354000,HO_354001,HO375,HO381,BK351,BK352,BK353,HB⟩ := n_
         clear hb ho61
         obtain ⟨Ao63,co63,eo63⟩ := Zn_slice HO375.out
         (first | subst eo63 | (injection eo63 with f1_ f2_ f3_;have f4_ := f1_.symm;have f5_ := f3_.symm;clear f1_ f2_ f3_;subst f4_;subst f5_))
         refine hK.out _ _ ⟨bc BK353 0,bc BK353 1⟩ (fun hHeld => ?_)
         clear hK K
         refine rN (h := ?_)
         refine rO 4 52 14 511 HT_ (h := fun K hK => ?_)
         refine Zn_append_rows_step (rb := w.heap.size) (base2 := w.heap.size) (Ca := CA_) (Cb := CC_) (Kd.slice 3 (Kd.int .i64)) (w0 := w) w.heap.size Z238 (.tmp 49) (.tmp 51) 23 24 (.slice none 0 0) 24 rfl Try.underlying23 info24 rfl Z293 Z237 (.slice Ao54 x354000_2.length co54) x354000_2 y373 _ _ _ (fun k_ => (w.heap.size ≤ k_) ∧ some k_ ≠ (.slice Ao39 t356.length co39 : Value).ownBlock ∧ some k_ ≠ (.slice Ao56 x354001_2.length co56 : Value).ownBlock ∧ some k_ ≠ (v380 : Value).ownBlock ∧ k_ ≠ gb351 ∧ k_ ≠ gb352 ∧ k_ ≠ gb353) (fun k_ => ((fun k_ => (w.heap.size ≤ k_) ∧ some k_ ≠ (.slice Ao39 t356.length co39 : Value).ownBlock ∧ some k_ ≠ (.slice Ao56 x354001_2.length co56 : Value).ownBlock ∧ some k_ ≠ (v380 : Value).ownBlock ∧ k_ ≠ gb351 ∧ k_ ≠ gb352 ∧ k_ ≠ gb353)) k_ ∧ some k_ ≠ (.slice Ao54 x354000_2.length co54 : Value).ownBlock) rfl rfl ?aO ?aR (fun _ hk => hk) ?aF ?aB ?aS ?aL ?aC ?_
         (case aC => exact hac_)
         (case aR => exact (by skip;exact Zn_F (Zn_mono (ok' := (fun k_ => ((fun k_ => (w.heap.size ≤ k_) ∧ some k_ ≠ (.slice Ao39 t356.length co39 : Value).ownBlock ∧ some k_ ≠ (.slice Ao56 x354001_2.length co56 : Value).ownBlock ∧ some k_ ≠ (v380 : Value).ownBlock ∧ k_ ≠ gb351 ∧ k_ ≠ gb352 ∧ k_ ≠ gb353)) k_ ∧ some k_ ≠ (.slice Ao54 x354000_2.length co54 : Value).ownBlock)) (HO375.out) (fun k_ hk => ⟨⟨hk.1.1,⟨hk.1.2.2.1,⟨hk.1.2.2.2.2.1,⟨hk.2,⟨hk.1.2.2.2.2.2.1,⟨hk.1.2.2.2.2.2.2.1,hk.1.2.2.2.2.2.2.2⟩⟩⟩⟩⟩⟩,hk.1.2.2.2.1⟩))))
         (case aB => exact Z80)
         (case aF => exact Z3)
         (case aO => exact (by (with_reducible repeat (first | apply Zn_alloc | apply Zn_drewN | apply Zn_drew));exact Zn_mono HO_354000.out (fun _ hk => ⟨hk.1.1.1,⟨hk.1.1.2.2.2.1,⟨hk.1.1.2.2.2.2.1,⟨hk.2,⟨hk.1.1.2.2.2.2.2.1,⟨hk.1.1.2.2.2.2.2.2.1,hk.1.1.2.2.2.2.2.2.2⟩⟩⟩⟩⟩⟩)))
         (case aS => exact Z78)
         (case aL => have := LMc51.out;omega)
         intro v377 w62 ho hb hg hat
         rw [← Ny376.out] at ho
         have n_ := jA (Kd.R_over' Z266 (Zn_typed Z187) Z293 hg) (jA (Zn_afterv (ok := (fun k_ => (w.heap.size ≤ k_) ∧ some k_ ≠ (.slice Ao39 t356.length co39 : Value).ownBlock ∧ some k_ ≠ (.slice Ao63 y373.length co63 : Value).ownBlock ∧ some k_ ≠ (v380 : Value).ownBlock ∧ k_ ≠ gb351 ∧ k_ ≠ gb352 ∧ k_ ≠ gb353)) Z66 hg hat) (jA (blk_grown (g := gb351) (o := .cells #[.slice A0_0 l0_0.length c0_0,.string a0_1,.slice A0_2 l0_2.length c0_2,.slice A0_3 l0_3.length c0_3] 31 (0,0)) Z282 hg (Zn_ne HO_354000.out BK351.out Z293)) (jA (blk_grown (g := gb352) (o := .cells #[.slice none 0 0,.slice none 0 0] 29 (0,0)) Z283 hg (Zn_ne HO_354000.out BK352.out Z293)) (jA (blk_grown (g := gb353) (o := .cells #[.slice Ao54 x354000_2.length co54,.slice Ao56 x354001_2.length co56] 29 (0,0)) Z284 hg (Zn_ne HO_354000.out BK353.out Z293)) (jA (Zn_afterv (ok := (fun k_ => (w.heap.size ≤ k_) ∧ some k_ ≠ (.slice Ao39 t356.length co39 : Value).ownBlock ∧ some k_ ≠ (.slice Ao56 x354001_2.length co56 : Value).ownBlock ∧ some k_ ≠ (v380 : Value).ownBlock ∧ k_ ≠ gb351 ∧ k_ ≠ gb352 ∧ k_ ≠ gb353)) (by (with_reducible repeat (first | apply Zn_alloc | apply Zn_drewN | apply Zn_drew));exact Zn_mono HO375.out (fun _ hk => ⟨⟨hk.1.1,⟨hk.1.2.2.1,⟨hk.1.2.2.2.2.1,⟨hk.2,⟨hk.1.2.2.2.2.2.1,⟨hk.1.2.2.2.2.2.2.1,hk.1.2.2.2.2.2.2.2⟩⟩⟩⟩⟩⟩,hk.1.2.2.2.1⟩)) hg hat) (jA (Zn_afterv (ok := (fun k_ => (w.heap.size ≤ k_) ∧ some k_ ≠ (.slice Ao39 t356.length co39 : Value).ownBlock ∧ some k_ ≠ (.slice Ao56 x354001_2.length co56 : Value).ownBlock ∧ some k_ ≠ (.slice Ao63 y373.length co63 : Value).ownBlock ∧ k_ ≠ gb351 ∧ k_ ≠ gb352 ∧ k_ ≠ gb353)) (by (with_reducible repeat (first | apply Zn_alloc | apply Zn_drewN | apply Zn_drew));exact Zn_mono HO381.out (fun _ hk => ⟨⟨hk.1,⟨hk.2.1,⟨hk.2.2.2.1,⟨hk.2.2.2.2.1,⟨hk.2.2.2.2.2.1,⟨hk.2.2.2.2.2.2.1,hk.2.2.2.2.2.2.2⟩⟩⟩⟩⟩⟩,hk.2.2.1⟩)) hg hat) (jA (hb) (Aside0.mk (ho)))))))))
         clear HO_35 HO_354001 BK351 BK352 BK353 HO375 HO381 HB HO_354000
         obtain ⟨HO_35,HO_354001,BK351,BK352,BK353,HO375,HO381,HB,HO378⟩ := n_
         clear ho hb hg hat
         refine hK.out _ _ ⟨bc BK353 0,bc BK353 1⟩ (fun hHeld => ?_)
         clear hK K
         refine rN (h := ?_)
         refine rP 10 58 14 1535 HT_ (h := ?_)
         exact norm_ Z208 (hCont (.slice Ao63 y373.length co63,v377,v380) _ ⟨hHeld,Z77,Z82,Z76,Z149,(by (with_reducible repeat (first | apply Zn_alloc | apply Zn_drewN | apply Zn_drew));exact Zn_mono HO_354001.out (fun _ hk => ⟨hk.1.1,⟨hk.1.2.2.1,⟨hk.2,⟨hk.1.2.2.2.1,⟨hk.1.2.1,⟨hk.1.2.2.2.2.1,⟨hk.1.2.2.2.2.2.1,hk.1.2.2.2.2.2.2⟩⟩⟩⟩⟩⟩⟩)),Z282,Z283,Z284,Z240⟩)
        skip
        refine Zn_lit_step (rb := w.heap.size) (Kd.slice 3 (Kd.int .i64)) _ 24 ?hg (N' := 56) ?hd (xs := ([x8_3] : List (List Int))) (C := CO_) (inner := [.slice Ao55 x8_3.length co55]) (ok := (fun k_ => (w.heap.size ≤ k_) ∧ some k_ ≠ (.slice Ao53 t362.length co53 : Value).ownBlock ∧ some k_ ≠ (.slice Ao39 t356.length co39 : Value).ownBlock ∧ some k_ ≠ (.slice Ao54 x354000_2.length co54 : Value).ownBlock ∧ some k_ ≠ (.slice Ao56 x354001_2.length co56 : Value).ownBlock ∧ k_ ≠ gb351 ∧ k_ ≠ gb352 ∧ k_ ≠ gb353)) (okp := (fun k_ => (w.heap.size ≤ k_) ∧ some k_ ≠ (.slice Ao53 t362.length co53 : Value).ownBlock ∧ some k_ ≠ (.slice Ao39 t356.length co39 : Value).ownBlock ∧ some k_ ≠ (.slice Ao54 x354000_2.length co54 : Value).ownBlock ∧ some k_ ≠ (.slice Ao56 x354001_2.length co56 : Value).ownBlock ∧ k_ ≠ gb351 ∧ k_ ≠ gb352 ∧ k_ ≠ gb353)) ?hr ?hp (fun _ hk => hk) ((show ∀ k_,w57.heap.size ≤ k_ → (fun k_ => (w.heap.size ≤ k_) ∧ some k_ ≠ (.slice Ao53 t362.length co53 : Value).ownBlock ∧ some k_ ≠ (.slice Ao39 t356.length co39 : Value).ownBlock ∧ some k_ ≠ (.slice Ao54 x354000_2.length co54 : Value).ownBlock ∧ some k_ ≠ (.slice Ao56 x354001_2.length co56 : Value).ownBlock ∧ k_ ≠ gb351 ∧ k_ ≠ gb352 ∧ k_ ≠ gb353) k_ from fun k_ hk => ⟨(Nat.le_trans (below_size Z240) hk),Kd.fresh' (Kd.R_lt Z183) k_ hk,Kd.fresh' (Kd.R_lt Z266) k_ hk,Kd.fresh' (Zn_lt Z187) k_ hk,Kd.fresh' (Zn_lt Z278) k_ hk,Kd.freshB (g := gb351) (o := .cells #[.slice A0_0 l0_0.length c0_0,.string a0_1,.slice A0_2 l0_2.length c0_2,.slice A0_3 l0_3.length c0_3] 31 (0,0)) Z282 k_ hk,Kd.freshB (g := gb352) (o := .cells #[.slice none 0 0,.slice none 0 0] 29 (0,0)) Z283 k_ hk,Kd.freshB (g := gb353) (o := .cells #[.slice Ao54 x354000_2.length co54,.slice Ao56 x354001_2.length co56] 29 (0,0)) Z284 k_ hk⟩) _ (Nat.le_refl _)) (Below.refl _ _) (Nat.le_refl _) Z294 ?_;(case hd => rfl);(case hg => rfl);(case hr => exact Z219);(case hp => exact (Reps.one (show Kd.M (Kd.slice 3 (Kd.int .i64)) _ _ _ x8_3 [.slice Ao55 x8_3.length co55] from ⟨_,rfl,Kd.R_mono (Kd.R_tight2 rfl (Kd.R_mono (ok' := (fun k_ => (w.heap.size ≤ k_) ∧ some k_ ≠ (.slice Ao53 t362.length co53 : Value).ownBlock ∧ some k_ ≠ (.slice Ao39 t356.length co39 : Value).ownBlock ∧ some k_ ≠ (.slice Ao54 x354000_2.length co54 : Value).ownBlock ∧ some k_ ≠ (.slice Ao56 x354001_2.length co56 : Value).ownBlock ∧ k_ ≠ gb351 ∧ k_ ≠ gb352 ∧ k_ ≠ gb353)) (Kd.R_types (Kd.R_types (Kd.R_types (Kd.R_apart' (Kd.R_apart' (HO_8.out) (Zn_typed HO_354000.out) Z293) (Zn_typed HO_354001.out) Z293) BK351.out Z293) BK352.out Z293) BK353.out Z293) (fun k_ hk => ⟨hk.1.1.1.1.1.1,⟨hk.1.1.1.1.1.2.1,⟨hk.1.1.1.1.1.2.2,⟨hk.1.1.1.1.2,⟨hk.1.1.1.2,⟨hk.1.1.2,⟨hk.1.2,hk.2⟩⟩⟩⟩⟩⟩⟩))) (fun k_ hk_ => ⟨hk_.2,hco_ k_ hk_.1⟩)⟩) (Reps.none _ _)))
        intro v380 w58 ho59 hb hg_ hnew_
        clear hg_ hnew_
        (first | rw [← Ny379.out] at ho59 | (simp only [Int.reduceToNat] at ho59;rw [← Ny379.out] at ho59))
        have n_ := jA (Kd.R_below Z183 hb) (jA (Kd.R_below Z266 hb) (jA (Zn_elder' Z187 (Zn_base ho59) hb) (jA (Zn_elder' Z278 (Zn_base ho59) hb) (jA (Zn_lower ho59 (below_size Z240)) (jA (blk_below (g := gb351) (o := .cells #[.slice A0_0 l0_0.length c0_0,.string a0_1,.slice A0_2 l0_2.length c0_2,.slice A0_3 l0_3.length c0_3] 31 (0,0)) Z282 hb) (jA (blk_below (g := gb352) (o := .cells #[.slice none 0 0,.slice none 0 0] 29 (0,0)) Z283 hb) (jA (blk_below (g := gb353) (o := .cells #[.slice Ao54 x354000_2.length co54,.slice Ao56 x354001_2.length co56] 29 (0,0)) Z284 hb) (Aside0.mk (below_step Z240 hb)))))))))
        clear HO_9 HO_35 HO_354000 HO_354001 BK351 BK352 BK353 HB HO_8
        obtain ⟨HO_9,HO_35,HO_354000,HO_354001,HO381,BK351,BK352,BK353,HB⟩ := n_
        clear hb ho59
        refine hK.out _ _ ⟨bc BK353 0,bc BK353 1⟩ (fun hHeld => ?_)
        clear hK K
        refine rN (h := ?_)
        refine rO 3 51 14 495 HT_ (h := fun K hK => ?_)
        refine Zn_lit_step (rb := w.heap.size) (Kd.slice 3 (Kd.int .i64)) _ 24 ?hg (N' := 51) ?hd (xs := ([t362] : List (List Int))) (C := CC_) (inner := [.slice Ao53 t362.length co53]) (ok := (fun k_ => (w.heap.size ≤ k_) ∧ some k_ ≠ (.slice Ao39 t356.length co39 : Value).ownBlock ∧ some k_ ≠ (.slice Ao54 x354000_2.length co54 : Value).ownBlock ∧ some k_ ≠ (.slice Ao56 x354001_2.length co56 : Value).ownBlock ∧ some k_ ≠ (v380 : Value).ownBlock ∧ k_ ≠ gb351 ∧ k_ ≠ gb352 ∧ k_ ≠ gb353)) (okp := (fun k_ => (w.heap.size ≤ k_) ∧ some k_ ≠ (.slice Ao39 t356.length co39 : Value).ownBlock ∧ some k_ ≠ (.slice Ao54 x354000_2.length co54 : Value).ownBlock ∧ some k_ ≠ (.slice Ao56 x354001_2.length co56 : Value).ownBlock ∧ some k_ ≠ (v380 : Value).ownBlock ∧ k_ ≠ gb351 ∧ k_ ≠ gb352 ∧ k_ ≠ gb353)) ?hr ?hp (fun _ hk => hk) ((show ∀ k_,w58.heap.size ≤ k_ → (fun k_ => (w.heap.size ≤ k_) ∧ some k_ ≠ (.slice Ao39 t356.length co39 : Value).ownBlock ∧ some k_ ≠ (.slice Ao54 x354000_2.length co54 : Value).ownBlock ∧ some k_ ≠ (.slice Ao56 x354001_2.length co56 : Value).ownBlock ∧ some k_ ≠ (v380 : Value).ownBlock ∧ k_ ≠ gb351 ∧ k_ ≠ gb352 ∧ k_ ≠ gb353) k_ from fun k_ hk => ⟨(Nat.le_trans (below_size Z240) hk),Kd.fresh' (Kd.R_lt Z266) k_ hk,Kd.fresh' (Zn_lt Z187) k_ hk,Kd.fresh' (Zn_lt Z278) k_ hk,Kd.fresh' (Zn_lt Z279) k_ hk,Kd.freshB (g := gb351) (o := .cells #[.slice A0_0 l0_0.length c0_0,.string a0_1,.slice A0_2 l0_2.length c0_2,.slice A0_3 l0_3.length c0_3] 31 (0,0)) Z282 k_ hk,Kd.freshB (g := gb352) (o := .cells #[.slice none 0 0,.slice none 0 0] 29 (0,0)) Z283 k_ hk,Kd.freshB (g := gb353) (o := .cells #[.slice Ao54 x354000_2.length co54,.slice Ao56 x354001_2.length co56] 29 (0,0)) Z284 k_ hk⟩) _ (Nat.le_refl _)) (Below.refl _ _) (Nat.le_refl _) Z294 ?_;(case hd => rfl);(case hg => rfl);(case hr => exact Z219);(case hp => exact (Reps.one (show Kd.M (Kd.slice 3 (Kd.int .i64)) _ _ _ t362 [.slice Ao53 t362.length co53] from ⟨_,rfl,Kd.R_mono (Kd.R_tight2 rfl (Kd.R_mono (ok' := (fun k_ => (w.heap.size ≤ k_) ∧ some k_ ≠ (.slice Ao39 t356.length co39 : Value).ownBlock ∧ some k_ ≠ (.slice Ao54 x354000_2.length co54 : Value).ownBlock ∧ some k_ ≠ (.slice Ao56 x354001_2.length co56 : Value).ownBlock ∧ some k_ ≠ (v380 : Value).ownBlock ∧ k_ ≠ gb351 ∧ k_ ≠ gb352 ∧ k_ ≠ gb353)) (Kd.R_types (Kd.R_types (Kd.R_types (Kd.R_apart' (Kd.R_apart' (Kd.R_apart' (HO_9.out) (Zn_typed HO_354000.out) Z293) (Zn_typed HO_354001.out) Z293) (Zn_typed HO381.out) Z293) BK351.out Z293) BK352.out Z293) BK353.out Z293) (fun k_ hk => ⟨hk.1.1.1.1.1.1.1,⟨hk.1.1.1.1.1.1.2.2,⟨hk.1.1.1.1.1.2,⟨hk.1.1.1.1.2,⟨hk.1.1.1.2,⟨hk.1.1.2,⟨hk.1.2,hk.2⟩⟩⟩⟩⟩⟩⟩))) (fun k_ hk_ => ⟨hk_.2,hcc_ k_ hk_.1⟩)⟩) (Reps.none _ _)))
        intro v374 w60 ho61 hb hg_ hnew_
        clear hg_ hnew_
        (first | rw [← Ny373.out] at ho61 | (simp only [Int.reduceToNat] at ho61;rw [← Ny373.out] at ho61))
        have n_ := jA (Kd.R_below Z266 hb) (jA (Zn_elder' Z187 (Zn_base ho61) hb) (jA (Zn_elder' Z278 (Zn_base ho61) hb) (jA (Zn_elder' Z279 (Zn_base ho61) hb) (jA (Zn_lower ho61 (below_size Z240)) (jA (blk_below (g := gb351) (o := .cells #[.slice A0_0 l0_0.length c0_0,.string a0_1,.slice A0_2 l0_2.length c0_2,.slice A0_3 l0_3.length c0_3] 31 (0,0)) Z282 hb) (jA (blk_below (g := gb352) (o := .cells #[.slice none 0 0,.slice none 0 0] 29 (0,0)) Z283 hb) (jA (blk_below (g := gb353) (o := .cells #[.slice Ao54 x354000_2.length co54,.slice Ao56 x354001_2.length co56] 29 (0,0)) Z284 hb) (Aside0.mk (below_step Z240 hb)))))))))
        clear HO_35 HO_354000 HO_354001 HO381 BK351 BK352 BK353 HB HO_9
        obtain ⟨HO_35,HO_354000,HO_354001,HO381,HO375,BK351,BK352,BK353,HB⟩ := n_
        clear hb ho61
        obtain ⟨Ao63,co63,eo63⟩ := Zn_slice HO375.out
        (first | subst eo63 | (injection eo63 with f1_ f2_ f3_;have f4_ := f1_.symm;have f5_ := f3_.symm;clear f1_ f2_ f3_;subst f4_;subst f5_))
        refine hK.out _ _ ⟨bc BK353 0,bc BK353 1⟩ (fun hHeld => ?_)
        clear hK K
        refine rN (h := ?_)
        refine rO 4 52 14 511 HT_ (h := fun K hK => ?_)
        refine Zn_append_rows_step (rb := w.heap.size) (base2 := w.heap.size) (Ca := CA_) (Cb := CC_) (Kd.slice 3 (Kd.int .i64)) (w0 := w) w.heap.size Z238 (.tmp 49) (.tmp 51) 23 24 (.slice none 0 0) 24 rfl Try.underlying23 info24 rfl Z293 Z237 (.slice Ao54 x354000_2.length co54) x354000_2 y373 _ _ _ (fun k_ => (w.heap.size ≤ k_) ∧ some k_ ≠ (.slice Ao39 t356.length co39 : Value).ownBlock ∧ some k_ ≠ (.slice Ao56 x354001_2.length co56 : Value).ownBlock ∧ some k_ ≠ (v380 : Value).ownBlock ∧ k_ ≠ gb351 ∧ k_ ≠ gb352 ∧ k_ ≠ gb353) (fun k_ => ((fun k_ => (w.heap.size ≤ k_) ∧ some k_ ≠ (.slice Ao39 t356.length co39 : Value).ownBlock ∧ some k_ ≠ (.slice Ao56 x354001_2.length co56 : Value).ownBlock ∧ some k_ ≠ (v380 : Value).ownBlock ∧ k_ ≠ gb351 ∧ k_ ≠ gb352 ∧ k_ ≠ gb353)) k_ ∧ some k_ ≠ (.slice Ao54 x354000_2.length co54 : Value).ownBlock) rfl rfl ?aO ?aR (fun _ hk => hk) ?aF ?aB ?aS ?aL ?aC ?_
        (case aC => exact hac_)
        (case aR => exact (by skip;exact Zn_F (Zn_mono (ok' := (fun k_ => ((fun k_ => (w.heap.size ≤ k_) ∧ some k_ ≠ (.slice Ao39 t356.length co39 : Value).ownBlock ∧ some k_ ≠ (.slice Ao56 x354001_2.length co56 : Value).ownBlock ∧ some k_ ≠ (v380 : Value).ownBlock ∧ k_ ≠ gb351 ∧ k_ ≠ gb352 ∧ k_ ≠ gb353)) k_ ∧ some k_ ≠ (.slice Ao54 x354000_2.length co54 : Value).ownBlock)) (HO375.out) (fun k_ hk => ⟨⟨hk.1,⟨hk.2.1,⟨hk.2.2.2.1,⟨hk.2.2.2.2.1,⟨hk.2.2.2.2.2.1,⟨hk.2.2.2.2.2.2.1,hk.2.2.2.2.2.2.2⟩⟩⟩⟩⟩⟩,hk.2.2.1⟩))))
        (case aB => exact Z80)
        (case aF => exact Z3)
        (case aO => exact (by (with_reducible repeat (first | apply Zn_alloc | apply Zn_drewN | apply Zn_drew));exact Zn_mono HO_354000.out (fun _ hk => ⟨hk.1.1.1,⟨hk.1.1.2.2.2.1,⟨hk.1.1.2.2.2.2.1,⟨hk.1.2,⟨hk.1.1.2.2.2.2.2.1,⟨hk.1.1.2.2.2.2.2.2.1,hk.1.1.2.2.2.2.2.2.2⟩⟩⟩⟩⟩⟩)))
        (case aS => exact Z78)
        (case aL => have := LMc51.out;omega)
        intro v377 w62 ho hb hg hat
        rw [← Ny376.out] at ho
        have n_ := jA (Kd.R_over' Z266 (Zn_typed Z187) Z293 hg) (jA (Zn_afterv (ok := (fun k_ => (w.heap.size ≤ k_) ∧ some k_ ≠ (.slice Ao39 t356.length co39 : Value).ownBlock ∧ some k_ ≠ (v380 : Value).ownBlock ∧ some k_ ≠ (.slice Ao63 y373.length co63 : Value).ownBlock ∧ k_ ≠ gb351 ∧ k_ ≠ gb352 ∧ k_ ≠ gb353)) Z66 hg hat) (jA (blk_grown (g := gb351) (o := .cells #[.slice A0_0 l0_0.length c0_0,.string a0_1,.slice A0_2 l0_2.length c0_2,.slice A0_3 l0_3.length c0_3] 31 (0,0)) Z282 hg (Zn_ne HO_354000.out BK351.out Z293)) (jA (blk_grown (g := gb352) (o := .cells #[.slice none 0 0,.slice none 0 0] 29 (0,0)) Z283 hg (Zn_ne HO_354000.out BK352.out Z293)) (jA (blk_grown (g := gb353) (o := .cells #[.slice Ao54 x354000_2.length co54,.slice Ao56 x354001_2.length co56] 29 (0,0)) Z284 hg (Zn_ne HO_354000.out BK353.out Z293)) (jA (Zn_afterv (ok := (fun k_ => (w.heap.size ≤ k_) ∧ some k_ ≠ (.slice Ao39 t356.length co39 : Value).ownBlock ∧ some k_ ≠ (.slice Ao56 x354001_2.length co56 : Value).ownBlock ∧ some k_ ≠ (.slice Ao63 y373.length co63 : Value).ownBlock ∧ k_ ≠ gb351 ∧ k_ ≠ gb352 ∧ k_ ≠ gb353)) (by (with_reducible repeat (first | apply Zn_alloc | apply Zn_drewN | apply Zn_drew));exact Zn_mono HO381.out (fun _ hk => ⟨⟨hk.1.1,⟨hk.1.2.2.1,⟨hk.1.2.2.2.2.1,⟨hk.2,⟨hk.1.2.2.2.2.2.1,⟨hk.1.2.2.2.2.2.2.1,hk.1.2.2.2.2.2.2.2⟩⟩⟩⟩⟩⟩,hk.1.2.2.2.1⟩)) hg hat) (jA (Zn_afterv (ok := (fun k_ => (w.heap.size ≤ k_) ∧ some k_ ≠ (.slice Ao39 t356.length co39 : Value).ownBlock ∧ some k_ ≠ (.slice Ao56 x354001_2.length co56 : Value).ownBlock ∧ some k_ ≠ (v380 : Value).ownBlock ∧ k_ ≠ gb351 ∧ k_ ≠ gb352 ∧ k_ ≠ gb353)) (by (with_reducible repeat (first | apply Zn_alloc | apply Zn_drewN | apply Zn_drew));exact Zn_mono HO375.out (fun _ hk => ⟨⟨hk.1,⟨hk.2.1,⟨hk.2.2.2.1,⟨hk.2.2.2.2.1,⟨hk.2.2.2.2.2.1,⟨hk.2.2.2.2.2.2.1,hk.2.2.2.2.2.2.2⟩⟩⟩⟩⟩⟩,hk.2.2.1⟩)) hg hat) (jA (hb) (Aside0.mk (ho)))))))))
        clear HO_35 HO_354001 BK351 BK352 BK353 HO381 HO375 HB HO_354000
        obtain ⟨HO_35,HO_354001,BK351,BK352,BK353,HO381,HO375,HB,HO378⟩ := n_
        clear ho hb hg hat
        refine hK.out _ _ ⟨bc BK353 0,bc BK353 1⟩ (fun hHeld => ?_)
        clear hK K
        refine rN (h := ?_)
        refine rP 10 58 14 1535 HT_ (h := ?_)
        exact norm_ Z208 (hCont (.slice Ao63 y373.length co63,v377,v380) _ ⟨hHeld,Z77,Z82,Z76,Z149,(by (with_reducible repeat (first | apply Zn_alloc | apply Zn_drewN | apply Zn_drew));exact Zn_mono HO_354001.out (fun _ hk => ⟨hk.1.1,⟨hk.1.2.2.2.1,⟨hk.2,⟨hk.1.2.2.1,⟨hk.1.2.1,⟨hk.1.2.2.2.2.1,⟨hk.1.2.2.2.2.2.1,hk.1.2.2.2.2.2.2⟩⟩⟩⟩⟩⟩⟩)),Z282,Z283,Z284,Z240⟩)
       rintro ⟨v374,v377,v380⟩ w64 ⟨hS_,h0_,h1_,h2_,h3_,h4_,h5_,h6_,h7_,h8_⟩
       have n0_ : Aside0 (Zn w.heap.size CC_ (Kd.slice 3 (Kd.int .i64)) 24 w64 w.heap.size (fun k_ => (w.heap.size ≤ k_) ∧ some k_ ≠ (v377 : Value).ownBlock ∧ some k_ ≠ (v380 : Value).ownBlock ∧ some k_ ≠ (.slice Ao39 t356.length co39 : Value).ownBlock ∧ some k_ ≠ (.slice Ao56 x354001_2.length co56 : Value).ownBlock ∧ k_ ≠ gb351 ∧ k_ ≠ gb352 ∧ k_ ≠ gb353) v374 y373) := ⟨h0_⟩
       have n1_ : Aside0 (Zn w.heap.size (fun k_ => CA_ k_ ∨ CC_ k_) (Kd.slice 3 (Kd.int .i64)) 24 w64 w.heap.size (fun k_ => (w.heap.size ≤ k_) ∧ some k_ ≠ (v380 : Value).ownBlock ∧ some k_ ≠ (.slice Ao39 t356.length co39 : Value).ownBlock ∧ some k_ ≠ (.slice Ao56 x354001_2.length co56 : Value).ownBlock ∧ k_ ≠ gb351 ∧ k_ ≠ gb352 ∧ k_ ≠ gb353) v377 y376) := ⟨h1_⟩
       have n2_ : Aside0 (Zn w.heap.size CO_ (Kd.slice 3 (Kd.int .i64)) 24 w64 w.heap.size (fun k_ => (w.heap.size ≤ k_) ∧ some k_ ≠ (v374 : Value).ownBlock ∧ some k_ ≠ (v377 : Value).ownBlock ∧ some k_ ≠ (.slice Ao39 t356.length co39 : Value).ownBlock ∧ some k_ ≠ (.slice Ao56 x354001_2.length co56 : Value).ownBlock ∧ k_ ≠ gb351 ∧ k_ ≠ gb352 ∧ k_ ≠ gb353) v380 y379) := ⟨h2_⟩
       have n3_ : Aside0 (Kd.R (Kd.int .i64) 3 w64 w.heap.size (fun k_ => (w.heap.size ≤ k_)) (.slice Ao39 t356.length co39) t356) := ⟨h3_⟩
       have n4_ : Aside0 (Zn w.heap.size CB_ (Kd.slice 3 (Kd.int .i64)) 24 w64 w.heap.size (fun k_ => (w.heap.size ≤ k_) ∧ some k_ ≠ (v374 : Value).ownBlock ∧ some k_ ≠ (v377 : Value).ownBlock ∧ some k_ ≠ (v380 : Value).ownBlock ∧ some k_ ≠ (.slice Ao39 t356.length co39 : Value).ownBlock ∧ k_ ≠ gb351 ∧ k_ ≠ gb352 ∧ k_ ≠ gb353) (.slice Ao56 x354001_2.length co56) x354001_2) := ⟨h4_⟩
       have n5_ : Aside0 (w64.heap[gb351]? = some (.cells #[.slice A0_0 l0_0.length c0_0,.string a0_1,.slice A0_2 l0_2.length c0_2,.slice A0_3 l0_3.length c0_3] 31 (0,0))) := ⟨h5_⟩
       have n6_ : Aside0 (w64.heap[gb352]? = some (.cells #[.slice none 0 0,.slice none 0 0] 29 (0,0))) := ⟨h6_⟩
       have n7_ : Aside0 (w64.heap[gb353]? = some (.cells #[.slice Ao54 x354000_2.length co54,.slice Ao56 x354001_2.length co56] 29 (0,0))) := ⟨h7_⟩
       have n8_ : Aside0 (Below w.heap.size w w64) := ⟨h8_⟩
       clear HO_8
       clear HO_9
       clear HO_35
       clear HO_354000
       clear HO_354001
       clear BK351
       clear BK352
       clear BK353
       clear HB
       clear h0_ h1_ h2_ h3_ h4_ h5_ h6_ h7_ h8_
       have HO375 := n0_
       have HO378 := n1_
       have HO381 := n2_
       have HO_35 := n3_
       have HO_354001 := n4_
       have BK351 := n5_
       have BK352 := n6_
       have BK353 := n7_
       have HB := n8_
       clear n0_ n1_ n2_ n3_ n4_ n5_ n6_ n7_ n8_
       have hHeld : w64.cell? ⟨gb353,0,none⟩ = some (.slice Ao54 x354000_2.length co54) ∧ w64.cell? ⟨gb353,1,none⟩ = some (.slice Ao56 x354001_2.length co56) := hS_
       obtain ⟨Ao66,co66,eo66⟩ := Zn_slice HO381.out
       (first | subst eo66 | (injection eo66 with f1_ f2_ f3_;have f4_ := f1_.symm;have f5_ := f3_.symm;clear f1_ f2_ f3_;subst f4_;subst f5_))
       refine norm_ (a' := ?_) ?_ ?_
       rotate_left
       ·simp only [putAll,Act.put,List.setIfInBounds_toArray,List.set_cons_zero,List.set_cons_succ]
        rfl
       refine rO 9 57 14 2047 HT_ (h := fun K hK => ?_)
       refine Zn_append_rows_step (rb := w.heap.size) (base2 := w.heap.size) (Ca := CB_) (Cb := CO_) (Kd.slice 3 (Kd.int .i64)) (w0 := w) w.heap.size Z238 (.tmp 54) (.tmp 56) 23 24 (.slice none 0 0) 24 rfl Try.underlying23 info24 rfl Z293 Z237 (.slice Ao56 x354001_2.length co56) x354001_2 y379 _ _ _ (fun k_ => (w.heap.size ≤ k_) ∧ some k_ ≠ (.slice Ao39 t356.length co39 : Value).ownBlock ∧ some k_ ≠ (v374 : Value).ownBlock ∧ some k_ ≠ (v377 : Value).ownBlock ∧ k_ ≠ gb351 ∧ k_ ≠ gb352 ∧ k_ ≠ gb353) (fun k_ => ((fun k_ => (w.heap.size ≤ k_) ∧ some k_ ≠ (.slice Ao39 t356.length co39 : Value).ownBlock ∧ some k_ ≠ (v374 : Value).ownBlock ∧ some k_ ≠ (v377 : Value).ownBlock ∧ k_ ≠ gb351 ∧ k_ ≠ gb352 ∧ k_ ≠ gb353)) k_ ∧ some k_ ≠ (.slice Ao56 x354001_2.length co56 : Value).ownBlock) rfl rfl ?aO ?aR (fun _ hk => hk) ?aF ?aB ?aS ?aL ?aC ?_
       (case aC => exact hbo_)
       (case aR => exact (by skip;exact Zn_F (Zn_mono (ok' := (fun k_ => ((fun k_ => (w.heap.size ≤ k_) ∧ some k_ ≠ (.slice Ao39 t356.length co39 : Value).ownBlock ∧ some k_ ≠ (v374 : Value).ownBlock ∧ some k_ ≠ (v377 : Value).ownBlock ∧ k_ ≠ gb351 ∧ k_ ≠ gb352 ∧ k_ ≠ gb353)) k_ ∧ some k_ ≠ (.slice Ao56 x354001_2.length co56 : Value).ownBlock)) (HO381.out) (fun k_ hk => ⟨⟨hk.1,⟨hk.2.2.2.1,⟨hk.2.1,⟨hk.2.2.1,⟨hk.2.2.2.2.2.1,⟨hk.2.2.2.2.2.2.1,hk.2.2.2.2.2.2.2⟩⟩⟩⟩⟩⟩,hk.2.2.2.2.1⟩))))
       (case aB => exact Z80)
       (case aF => exact (fun k_ hk => ⟨(Nat.le_trans (below_size Z240) hk),Kd.fresh' (Kd.R_lt Z266) k_ hk,Kd.fresh' (Zn_lt Z199) k_ hk,Kd.fresh' (Zn_lt Z203) k_ hk,Kd.freshB (g := gb351) (o := .cells #[.slice A0_0 l0_0.length c0_0,.string a0_1,.slice A0_2 l0_2.length c0_2,.slice A0_3 l0_3.length c0_3] 31 (0,0)) Z282 k_ hk,Kd.freshB (g := gb352) (o := .cells #[.slice none 0 0,.slice none 0 0] 29 (0,0)) Z283 k_ hk,Kd.freshB (g := gb353) (o := .cells #[.slice Ao54 x354000_2.length co54,.slice Ao56 x354001_2.length co56] 29 (0,0)) Z284 k_ hk⟩))
       (case aO => exact (by (with_reducible repeat (first | apply Zn_alloc | apply Zn_drewN | apply Zn_drew));exact Zn_mono HO_354001.out (fun _ hk => ⟨hk.1,⟨hk.2.2.2.2.1,⟨hk.2.1,⟨hk.2.2.1,⟨hk.2.2.2.2.2.1,⟨hk.2.2.2.2.2.2.1,hk.2.2.2.2.2.2.2⟩⟩⟩⟩⟩⟩)))
       (case aS => exact Z78)
       (case aL => have := LMc52.out;omega)
       intro v383 w65 ho hb hg hat
       rw [← Ny382.out] at ho
       have n_ := jA (Kd.R_over' Z266 (Zn_typed Z278) Z293 hg) (jA (blk_grown (g := gb351) (o := .cells #[.slice A0_0 l0_0.length c0_0,.string a0_1,.slice A0_2 l0_2.length c0_2,.slice A0_3 l0_3.length c0_3] 31 (0,0)) Z282 hg (Zn_ne HO_354001.out BK351.out Z293)) (jA (blk_grown (g := gb352) (o := .cells #[.slice none 0 0,.slice none 0 0] 29 (0,0)) Z283 hg (Zn_ne HO_354001.out BK352.out Z293)) (jA (blk_grown (g := gb353) (o := .cells #[.slice Ao54 x354000_2.length co54,.slice Ao56 x354001_2.length co56] 29 (0,0)) Z284 hg (Zn_ne HO_354001.out BK353.out Z293)) (jA (Zn_afterv (ok := (fun k_ => (w.heap.size ≤ k_) ∧ some k_ ≠ (.slice Ao39 t356.length co39 : Value).ownBlock ∧ some k_ ≠ (v377 : Value).ownBlock ∧ some k_ ≠ (.slice Ao66 y379.length co66 : Value).ownBlock ∧ k_ ≠ gb351 ∧ k_ ≠ gb352 ∧ k_ ≠ gb353)) (by (with_reducible repeat (first | apply Zn_alloc | apply Zn_drewN | apply Zn_drew));exact Zn_mono HO375.out (fun _ hk => ⟨⟨hk.1,⟨hk.2.2.2.1,⟨hk.2.1,⟨hk.2.2.1,⟨hk.2.2.2.2.2.1,⟨hk.2.2.2.2.2.2.1,hk.2.2.2.2.2.2.2⟩⟩⟩⟩⟩⟩,hk.2.2.2.2.1⟩)) hg hat) (jA (Zn_afterv (ok := (fun k_ => (w.heap.size ≤ k_) ∧ some k_ ≠ (.slice Ao39 t356.length co39 : Value).ownBlock ∧ some k_ ≠ (.slice Ao66 y379.length co66 : Value).ownBlock ∧ k_ ≠ gb351 ∧ k_ ≠ gb352 ∧ k_ ≠ gb353)) (by (with_reducible repeat (first | apply Zn_alloc | apply Zn_drewN | apply Zn_drew));exact Zn_mono HO378.out (fun _ hk => ⟨⟨hk.1,⟨hk.2.2.1,⟨hk.2.1,⟨hk.2.2.2.2.1,⟨hk.2.2.2.2.2.1,hk.2.2.2.2.2.2⟩⟩⟩⟩⟩,hk.2.2.2.1⟩)) hg hat) (jA (Zn_afterv (ok := (fun k_ => (w.heap.size ≤ k_) ∧ some k_ ≠ (.slice Ao39 t356.length co39 : Value).ownBlock ∧ some k_ ≠ (v374 : Value).ownBlock ∧ some k_ ≠ (v377 : Value).ownBlock ∧ k_ ≠ gb351 ∧ k_ ≠ gb352 ∧ k_ ≠ gb353)) (by (with_reducible repeat (first | apply Zn_alloc | apply Zn_drewN | apply Zn_drew));exact Zn_mono HO381.out (fun _ hk => ⟨⟨hk.1,⟨hk.2.2.2.1,⟨hk.2.1,⟨hk.2.2.1,⟨hk.2.2.2.2.2.1,⟨hk.2.2.2.2.2.2.1,hk.2.2.2.2.2.2.2⟩⟩⟩⟩⟩⟩,hk.2.2.2.2.1⟩)) hg hat) (jA (hb) (Aside0.mk (ho)))))))))
       clear HO_35 BK351 BK352 BK353 HO375 HO378 HO381 HB HO_354001
       obtain ⟨HO_35,BK351,BK352,BK353,HO375,HO378,HO381,HB,HO384⟩ := n_
       clear ho hb hg hat
       obtain ⟨Ao67,co67,eo67⟩ := Zn_slice HO378.out
       (first | subst eo67 | (injection eo67 with f1_ f2_ f3_;have f4_ := f1_.symm;have f5_ := f3_.symm;clear f1_ f2_ f3_;subst f4_;subst f5_))
       obtain ⟨Ao69,co69,eo69⟩ := Zn_slice HO384.out
       (first | subst eo69 | (injection eo69 with f1_ f2_ f3_;have f4_ := f1_.symm;have f5_ := f3_.symm;clear f1_ f2_ f3_;subst f4_;subst f5_))
       refine hK.out _ _ ⟨bc BK353 0,bc BK353 1⟩ (fun hHeld => ?_)
       clear hK K
       refine rN (h := ?_)
       refine last_ (i := 11) (N := none) (qM 14 4095) rfl rfl (one_of HT_.out Z236) Z293 (fun K hK => ?_)
       have hs68 : w65.cell? ⟨gb353,0,none⟩ = some (.slice Ao54 x354000_2.length co54) := bc BK353 0
       have hfs68 := blk_frozen BK353.out 0
       have hns68_0 := NB351_353.out
       have hns68_1 := NB352_353.out
       have hms68_0 := NB353_351.out
       have hms68_1 := NB353_352.out
       refine skip_ (w1 := ?_) Z238 rfl ?_ ?_
       rotate_left
       ·go_simp
        rfl
       refine hK.out _ _ ?_
       clear hK K
       refine rP 12 59 14 8191 HT_ (h := ?_)
       refine last_ (i := 13) (N := none) (qM 14 16383) rfl rfl (one_of HT_.out Z236) Z293 (fun K hK => ?_)
       have hs70 : w65.cell? ⟨gb353,1,none⟩ = some (.slice Ao56 x354001_2.length co56) := bc BK353 1
       have hfs70 := blk_frozen BK353.out 1
       have hns70_0 := NB351_353.out
       have hns70_1 := NB352_353.out
       have hms70_0 := NB353_351.out
       have hms70_1 := NB353_352.out
       refine skip_ (w1 := ?_) Z238 rfl ?_ ?_
       rotate_left
       ·go_simp
        rfl
       refine hK.out _ _ ?_
       clear hK K
       refine done_ (done_of HT_.out Z236) ?_
       try go_wp2
       go_roundg k3
       case measure => have := HJ2.out;have := HK2.out;have := HK3.out;omega
       case rel => exact ⟨(wrap64 (x25_2 + 1)),(y376),(y382),(.slice Ao67 y376.length co67),(.slice Ao69 y382.length co69),(fun k_ => CA_ k_ ∨ CC_ k_),(fun k_ => CB_ k_ ∨ CO_ k_),Z218,HE_.out,H',⟨Z215⟩,⟨by (with_reducible repeat (first | apply Zn_alloc | apply Zn_drewN | apply Zn_drew));exact Zn_mono (Zn_far (p := ⟨gb353,1,none⟩) (Zn_far (p := ⟨gb353,0,none⟩) (Zn_mono HO378.out (fun k_ hk => (⟨hk,hk.1.2.2.2.2.2⟩ : _ ∧ k_ ≠ gb353))) (fun _ hk => hk.2) (.slice Ao67 y376.length co67)) (fun _ hk => hk.2) (.slice Ao69 y382.length co69)) (fun _ hk => ⟨hk.1.1.1,⟨hk.1.2,⟨hk.1.1.2.2.2.1,⟨hk.1.1.2.2.2.2.1,hk.1.1.2.2.2.2.2⟩⟩⟩⟩)⟩,⟨by (with_reducible repeat (first | apply Zn_alloc | apply Zn_drewN | apply Zn_drew));exact Zn_mono (Zn_far (p := ⟨gb353,1,none⟩) (Zn_far (p := ⟨gb353,0,none⟩) (Zn_mono HO384.out (fun k_ hk => (⟨hk,hk.2.2.2.2.2.2⟩ : _ ∧ k_ ≠ gb353))) (fun _ hk => hk.2) (.slice Ao67 y376.length co67)) (fun _ hk => hk.2) (.slice Ao69 y382.length co69)) (fun _ hk => ⟨hk.1.1,⟨hk.1.2.2.2.1,⟨hk.1.2.2.2.2.1,⟨hk.1.2.2.2.2.2.1,hk.1.2.2.2.2.2.2⟩⟩⟩⟩)⟩,⟨Z265⟩,⟨Z264⟩,⟨by refine bP ?_;refine blk_put (cs := #[.slice Ao67 y376.length co67,.slice Ao56 x354001_2.length co56]) ?_ 1 _ rfl;refine bP ?_;refine blk_put (cs := #[.slice Ao54 x354000_2.length co54,.slice Ao56 x354001_2.length co56]) ?_ 0 _ rfl;refine bP ?_;exact BK353.out⟩,⟨Z240⟩⟩

end Go.Proofs.Ytnidkpkfkklkaaa.QFnExactGridOf
