/- The machine side of FnGrid: what each Go function that it reaches comes to. Conditions: none. -/
import Derived.Test.YtlflcgdcegohjabQFnGridx0
import Derived.Test.YtlflcgdcegohjabQFnGridx1
import Derived.Test.YtlflcgdcegohjabQFnGridx7
import Derived.Test.YtlflcgdcegohjabQFnGridx8
namespace Go.Proofs.Ytlflcgdcegohjab.QFnGrid
open Go.RowKit Go.Proofs.YtlflcgdcegohjabW.PrintWords Go.Proofs.YtlflcgdcegohjabW.PrintLast Go.Proofs.YtlflcgdcegohjabW.PrintMore
attribute [local go_sem] max2_int min2_int max_two min_two max_three min_three max_four min_four   -- for this text's walks alone
set_option linter.unusedVariables false
set_option linter.unusedSimpArgs false
section
variable {p : Prop}
theorem Y8 (h : p := by exact (fun k_ hk => ⟨(Nat.le_trans (below_size Z261) hk),Kd.fresh' (Kd.R_lt Z301) k_ hk,Kd.fresh' (Kd.N_lt Z292) k_ hk,Kd.fresh' (Kd.N_lt Z306) k_ hk,Kd.freshB (g := gb398) (o := .cells #[.slice A0_0 l0_0.length c0_0,.string a0_1,.slice A0_2 l0_2.length c0_2,.slice A0_3 l0_3.length c0_3] 28 (0,0)) Z317 k_ hk,Kd.freshB (g := gb399) (o := .cells #[.slice none 0 0,.slice none 0 0] 32 (0,0)) Z318 k_ hk,Kd.freshB (g := gb400) (o := .cells #[.slice Ao54 x401000_2.length co54,.slice Ao56 x401001_2.length co56] 32 (0,0)) Z319 k_ hk⟩)) : p := h
end

/-! ### impl_GridOf: function 6 -/
mutual
def impl_GridOf.j0 : Nat → Int → Bool → List ByteArray → ByteArray → List (List Int) → List Int → Option ((List (List Int)) × (List (List Int)))
 | 0,_,_,_,_,_,_ => none
 | k + 1,x1,x20,x399000,x399001,x399002,x399003 => if x20 = true then (some (([] : List (List Int)),([] : List (List Int)))) else (impl_GridOf.l0 k x1 (x399000.length : Int) 0 x399000 x399001 x399002 x399003 ([] : List (List Int)) ([] : List (List Int)))
def impl_GridOf.l0 : Nat → Int → Int → Int → List ByteArray → ByteArray → List (List Int) → List Int → List (List Int) → List (List Int) → Option ((List (List Int)) × (List (List Int)))
 | 0,_,_,_,_,_,_,_,_,_ => none
 | k + 1,x1,x24,x25,x399000,x399001,x399002,x399003,x401000,x401001 => if x25 < x24 then ((impl_Column.f k x399000 x399001 x399002 x399003 x25).bind fun t403 => ((impl_CutsOf.f k t403 x1).bind fun t409 => (impl_GridOf.l1 k x1 (([] : List Int)) t409 x24 x25 t403 (t403.length : Int) 0 x399000 x399001 x399002 x399003 x401000 x401001))) else (some (x401000,x401001))
def impl_GridOf.l1 : Nat → Int → List Int → List Int → Int → Int → List Int → Int → Int → List ByteArray → ByteArray → List (List Int) → List Int → List (List Int) → List (List Int) → Option ((List (List Int)) × (List (List Int)))
 | 0,_,_,_,_,_,_,_,_,_,_,_,_,_,_ => none
 | k + 1,x1,x8,x9,x24,x25,x35,x36,x37,x399000,x399001,x399002,x399003,x401000,x401001 => if x37 < x36 then (if 0 ≤ x37 then (if x37 < (x35.length : Int) then ((impl_BinOf.f k x9 (rd x35 x37)).bind fun t413 => ((some (([t413] : List Int) : List Int)).bind fun y414 => (if x8.length + y414.length < 17592186044416 then (impl_GridOf.l1 k x1 (x8 ++ y414) x9 x24 x25 x35 x36 (wrap64 (x37 + 1)) x399000 x399001 x399002 x399003 x401000 x401001) else (none)))) else (none)) else (none)) else ((some (([x9] : List (List Int)) : List (List Int))).bind fun y420 => (if x401000.length + y420.length < 5864062014805 then ((some (([x8] : List (List Int)) : List (List Int))).bind fun y426 => (if x401001.length + y426.length < 5864062014805 then (impl_GridOf.l0 k x1 x24 (wrap64 (x25 + 1)) x399000 x399001 x399002 x399003 (x401000 ++ y420) (x401001 ++ y426)) else (none))) else (none)))
end
def impl_GridOf.f (k : Nat) (l0_0 : List ByteArray) (a0_1 : ByteArray) (l0_2 : List (List Int)) (l0_3 : List Int) (a1 : Int) : Option ((List (List Int)) × (List (List Int))) := (impl_TableOk.f k l0_0 a0_1 l0_2 l0_3).bind fun t401 => (if t401 = true then ((impl_within.f a1 2 8).bind fun t402 => (impl_GridOf.j0 k a1 (!t402) l0_0 a0_1 l0_2 l0_3)) else (impl_GridOf.j0 k a1 true l0_0 a0_1 l0_2 l0_3))
theorem impl_GridOf.mono_l : ∀ k,(∀ y0 y1 y2 y3 y4 y5,LeO (impl_GridOf.j0 k y0 y1 y2 y3 y4 y5) (impl_GridOf.j0 (k + 1) y0 y1 y2 y3 y4 y5)) ∧ (∀ y0 y1 y2 y3 y4 y5 y6 y7 y8,LeO (impl_GridOf.l0 k y0 y1 y2 y3 y4 y5 y6 y7 y8) (impl_GridOf.l0 (k + 1) y0 y1 y2 y3 y4 y5 y6 y7 y8)) ∧ (∀ y0 y1 y2 y3 y4 y5 y6 y7 y8 y9 y10 y11 y12 y13,LeO (impl_GridOf.l1 k y0 y1 y2 y3 y4 y5 y6 y7 y8 y9 y10 y11 y12 y13) (impl_GridOf.l1 (k + 1) y0 y1 y2 y3 y4 y5 y6 y7 y8 y9 y10 y11 y12 y13))
 | 0 => ⟨fun _ _ _ _ _ _ r h => by simp [impl_GridOf.j0] at h,fun _ _ _ _ _ _ _ _ _ r h => by simp [impl_GridOf.l0] at h,fun _ _ _ _ _ _ _ _ _ _ _ _ _ _ r h => by simp [impl_GridOf.l1] at h⟩
 | k + 1 => by
  obtain ⟨ih0,ih1,ih2⟩ := impl_GridOf.mono_l k
  refine ⟨?_,?_,?_⟩
  ·intro y0 y1 y2 y3 y4 y5
   unfold impl_GridOf.j0
   repeat' first
   | (with_reducible exact ih0 _ _ _ _ _ _)
   | (with_reducible exact ih1 _ _ _ _ _ _ _ _ _)
   | (with_reducible exact ih2 _ _ _ _ _ _ _ _ _ _ _ _ _ _)
   | (with_reducible exact impl_BinOf.mono _ _ _)
   | (with_reducible exact impl_Column.mono _ _ _ _ _ _)
   | (with_reducible exact impl_CutsOf.mono _ _ _)
   | (with_reducible exact impl_TableOk.mono _ _ _ _ _)
   | (with_reducible exact LeO.refl _)
   | (with_reducible exact LeO.none _)
   | (with_reducible refine LeO.ite ?_ ?_)
   | (with_reducible refine LeO.bind ?_ (fun _ => ?_))
   | exact ih0 _ _ _ _ _ _
   | exact ih1 _ _ _ _ _ _ _ _ _
   | exact ih2 _ _ _ _ _ _ _ _ _ _ _ _ _ _
   | exact impl_BinOf.mono _ _ _
   | exact impl_Column.mono _ _ _ _ _ _
   | exact impl_CutsOf.mono _ _ _
   | exact impl_TableOk.mono _ _ _ _ _
   | exact LeO.none _
   | refine LeO.ite ?_ ?_
   | refine LeO.bind ?_ (fun _ => ?_)
  ·intro y0 y1 y2 y3 y4 y5 y6 y7 y8
   unfold impl_GridOf.l0
   repeat' first
   | (with_reducible exact ih0 _ _ _ _ _ _)
   | (with_reducible exact ih1 _ _ _ _ _ _ _ _ _)
   | (with_reducible exact ih2 _ _ _ _ _ _ _ _ _ _ _ _ _ _)
   | (with_reducible exact impl_BinOf.mono _ _ _)
   | (with_reducible exact impl_Column.mono _ _ _ _ _ _)
   | (with_reducible exact impl_CutsOf.mono _ _ _)
   | (with_reducible exact impl_TableOk.mono _ _ _ _ _)
   | (with_reducible exact LeO.refl _)
   | (with_reducible exact LeO.none _)
   | (with_reducible refine LeO.ite ?_ ?_)
   | (with_reducible refine LeO.bind ?_ (fun _ => ?_))
   | exact ih0 _ _ _ _ _ _
   | exact ih1 _ _ _ _ _ _ _ _ _
   | exact ih2 _ _ _ _ _ _ _ _ _ _ _ _ _ _
   | exact impl_BinOf.mono _ _ _
   | exact impl_Column.mono _ _ _ _ _ _
   | exact impl_CutsOf.mono _ _ _
   | exact impl_TableOk.mono _ _ _ _ _
   | exact LeO.none _
   | refine LeO.ite ?_ ?_
   | refine LeO.bind ?_ (fun _ => ?_)
  ·intro y0 y1 y2 y3 y4 y5 y6 y7 y8 y9 y10 y11 y12 y13
   unfold impl_GridOf.l1
   repeat' first
   | (with_reducible exact ih0 _ _ _ _ _ _)
   | (with_reducible exact ih1 _ _ _ _ _ _ _ _ _)
   | (with_reducible exact ih2 _ _ _ _ _ _ _ _ _ _ _ _ _ _)
   | (with_reducible exact impl_BinOf.mono _ _ _)
   | (with_reducible exact impl_Column.mono _ _ _ _ _ _)
   | (with_reducible exact impl_CutsOf.mono _ _ _)
   | (with_reducible exact impl_TableOk.mono _ _ _ _ _)
   | (with_reducible exact LeO.refl _)
   | (with_reducible exact LeO.none _)
   | (with_reducible refine LeO.ite ?_ ?_)
   | (with_reducible refine LeO.bind ?_ (fun _ => ?_))
   | exact ih0 _ _ _ _ _ _
   | exact ih1 _ _ _ _ _ _ _ _ _
   | exact ih2 _ _ _ _ _ _ _ _ _ _ _ _ _ _
   | exact impl_BinOf.mono _ _ _
   | exact impl_Column.mono _ _ _ _ _ _
   | exact impl_CutsOf.mono _ _ _
   | exact impl_TableOk.mono _ _ _ _ _
   | exact LeO.none _
   | refine LeO.ite ?_ ?_
   | refine LeO.bind ?_ (fun _ => ?_)
theorem impl_GridOf.mono : ∀ a0 a1 a2 a3 a4 k,LeO (impl_GridOf.f k a0 a1 a2 a3 a4) (impl_GridOf.f (k + 1) a0 a1 a2 a3 a4) := by
 intro a0 a1 a2 a3 a4 k
 obtain ⟨ih0,ih1,ih2⟩ := impl_GridOf.mono_l k
 unfold impl_GridOf.f
 repeat' first
   | (with_reducible exact ih0 _ _ _ _ _ _)
   | (with_reducible exact ih1 _ _ _ _ _ _ _ _ _)
   | (with_reducible exact ih2 _ _ _ _ _ _ _ _ _ _ _ _ _ _)
   | (with_reducible exact impl_BinOf.mono _ _ _)
   | (with_reducible exact impl_Column.mono _ _ _ _ _ _)
   | (with_reducible exact impl_CutsOf.mono _ _ _)
   | (with_reducible exact impl_TableOk.mono _ _ _ _ _)
   | (with_reducible exact LeO.refl _)
   | (with_reducible exact LeO.none _)
   | (with_reducible refine LeO.ite ?_ ?_)
   | (with_reducible refine LeO.bind ?_ (fun _ => ?_))
   | exact ih0 _ _ _ _ _ _
   | exact ih1 _ _ _ _ _ _ _ _ _
   | exact ih2 _ _ _ _ _ _ _ _ _ _ _ _ _ _
   | exact impl_BinOf.mono _ _ _
   | exact impl_Column.mono _ _ _ _ _ _
   | exact impl_CutsOf.mono _ _ _
   | exact impl_TableOk.mono _ _ _ _ _
   | exact LeO.none _
   | refine LeO.ite ?_ ?_
   | refine LeO.bind ?_ (fun _ => ?_)
def impl_GridOf.T14 : Bool × List (List Nat × List Nat) := (true,[([],[]),([0],[0]),([],[]),([2],[2]),([1,3],[1,3]),([],[]),([5],[5]),([],[]),([7],[7]),([6,8,4],[6,8]),([0,1,2,3,4,5,6],[]),([10,4,9,0,1,2,3,4,5,6],[4,10]),([0,1,2,3,4,5,6,7,8,9,10,11],[]),([12,9,11,0,1,2,3,4,5,6,7,8,9,10,11],[9,12])])
def impl_GridOf.B14 : List Nat := [0,1,0,4,15,0,32,0,128,511,127,2047,4095,8191]
theorem impl_GridOf.tab14 : rtab .any (opsOf Try.f6 14) = impl_GridOf.T14 := by kernel_rfl
theorem impl_GridOf.bits14 : waitsOk impl_GridOf.T14.2 impl_GridOf.B14 = true := by kernel_rfl
set_option maxHeartbeats 8000000 in
set_option maxRecDepth 100000 in
theorem impl_GridOf.calls (k : Nat) (A0_0 : Option Addr) (c0_0 : Nat) (l0_0 : List ByteArray) (a0_1 : ByteArray) (A0_2 : Option Addr) (c0_2 : Nat) (l0_2 : List (List Int)) (A0_3 : Option Addr) (c0_3 : Nat) (l0_3 : List Int) (a1 : Int) (r1 : List (List Int)) (r2 : List (List Int)) (w : World) (hr0_0 : Kd.C Kd.string w A0_0 l0_0.length l0_0) (hc0_0 : l0_0.length ≤ c0_0) (hr0_2 : Kd.C (Kd.slice 3 (Kd.int .i64)) w A0_2 l0_2.length l0_2) (hc0_2 : l0_2.length ≤ c0_2) (hr0_3 : Kd.C (Kd.int .i64) w A0_3 l0_3.length l0_3) (hc0_3 : l0_3.length ≤ c0_3) (h : impl_GridOf.f k l0_0 a0_1 l0_2 l0_3 a1 = some (r1,r2)) :
  Calls Try.prog 6 #[.agg #[.slice A0_0 l0_0.length c0_0,.string a0_1,.slice A0_2 l0_2.length c0_2,.slice A0_3 l0_3.length c0_3],.int .i64 a1] w fun e w' => ∃ v0_ v1_ : Value,e = .returned (.agg #[v0_,v1_]) ∧ Kd.N (Kd.slice 3 (Kd.int .i64)) 26 w' w.heap.size (fun k_ => (w.heap.size ≤ k_) ∧ some k_ ≠ (v1_ : Value).ownBlock) v0_ r1 ∧ Kd.N (Kd.slice 3 (Kd.int .i64)) 26 w' w.heap.size (fun k_ => (w.heap.size ≤ k_) ∧ some k_ ≠ (v0_ : Value).ownBlock) v1_ r2 ∧ Below w.heap.size w w' := by
 have hu28 := Try.underlying28
 have hu32 := Try.underlying32
 have HR0_0 := Aside0.mk hr0_0
 have HC0_0 := Aside0.mk hc0_0
 clear hr0_0 hc0_0
 have HR0_2 := Aside0.mk hr0_2
 have HC0_2 := Aside0.mk hc0_2
 clear hr0_2 hc0_2
 have HR0_3 := Aside0.mk hr0_3
 have HC0_3 := Aside0.mk hc0_3
 clear hr0_3 hc0_3
 have HB := Aside0.mk (Below.refl w.heap.size w)
 have H := h
 clear h
 unfold impl_GridOf.f at H
 have HC3 := Aside0.mk H
 clear H
 go_enter Try.func6,Try.ntmps6
 go_upto_region 2 with (first | ((with_reducible refine gate_dst (N := 2) rfl ?_);refine bE 2 #[.slice A0_0 l0_0.length c0_0,.string a0_1,.slice A0_2 l0_2.length c0_2,.slice A0_3 l0_3.length c0_3] 28 (h := ?_);intro gb398 hg w4 hbox hb;have n_ := jA (below_step Z336 hb) (jA (hbox) (jA ((Z279 : w.heap.size ≤ gb398)) (Aside0.mk ((Z279 : w.heap.size ≤ gb398)))));clear HB;obtain ⟨HB,BK398,GW398,GE398⟩ := n_;clear hb hbox hg) | ((with_reducible refine gate_dst (N := 4) rfl ?_);refine bE 4 #[.slice none 0 0,.slice none 0 0] 32 (h := ?_);intro gb399 hg w5 hbox hb;have n_ := jA (blk_below (g := gb398) (o := .cells #[.slice A0_0 l0_0.length c0_0,.string a0_1,.slice A0_2 l0_2.length c0_2,.slice A0_3 l0_3.length c0_3] 28 (0,0)) Z317 hb) (jA (below_step Z286 hb) (jA (hbox) (jA ((Z92 : w.heap.size ≤ gb399)) (jA ((Z92 : w.heap.size ≤ gb399)) (jA ((Z80 : gb398 ≠ gb399)) (Aside0.mk ((Z82 : gb399 ≠ gb398))))))));clear BK398 HB;obtain ⟨BK398,HB,BK399,GW399,GE399,NB398_399,NB399_398⟩ := n_;clear hb hbox hg) | ((with_reducible refine gate_dst (N := 5) rfl ?_);refine bE 5 #[.slice none 0 0,.slice none 0 0] 32 (h := ?_);intro gb400 hg w6 hbox hb;have n_ := jA (blk_below (g := gb398) (o := .cells #[.slice A0_0 l0_0.length c0_0,.string a0_1,.slice A0_2 l0_2.length c0_2,.slice A0_3 l0_3.length c0_3] 28 (0,0)) Z317 hb) (jA (blk_below (g := gb399) (o := .cells #[.slice none 0 0,.slice none 0 0] 32 (0,0)) Z318 hb) (jA (below_step Z268 hb) (jA (hbox) (jA ((Z75 : w.heap.size ≤ gb400)) (jA ((Z75 : w.heap.size ≤ gb400)) (jA ((Z80 : gb398 ≠ gb400)) (jA ((Z82 : gb400 ≠ gb398)) (jA ((by rw [hg];exact Nat.ne_of_lt (blk_lt (g := gb399) (o := .cells #[.slice none 0 0,.slice none 0 0] 32 (0,0)) Z318) : gb399 ≠ gb400)) (Aside0.mk ((by rw [hg];exact Nat.ne_of_gt (blk_lt (g := gb399) (o := .cells #[.slice none 0 0,.slice none 0 0] 32 (0,0)) Z318) : gb400 ≠ gb399)))))))))));clear BK398 BK399 HB;obtain ⟨BK398,BK399,HB,BK400,GW400,GE400,NB398_400,NB400_398,NB399_400,NB400_399⟩ := n_;clear hb hbox hg;have hnb7 := NB400_398.out;have hnc7 := NB398_400.out;have hnb8 := NB400_399.out;have hnc8 := NB399_400.out;obtain ⟨hcz9_0,hcz9_1,hfz9_0,hfz9_1⟩ := cells2 BK400.out))
 (try simp only [Act.put,List.setIfInBounds_toArray,List.set_cons_zero,List.set_cons_succ])
 go_cut [20] (fun v20 wc => ∃ (kq : Nat) (x20_2 : Bool),v20 = .bool x20_2 ∧ Aside0 (impl_GridOf.j0 kq a1 x20_2 l0_0 a0_1 l0_2 l0_3 = some (r1,r2)) ∧ Aside0 (kq ≤ k) ∧ Aside0 (wc.heap[gb398]? = some (.cells #[(.slice A0_0 l0_0.length c0_0),.string a0_1,(.slice A0_2 l0_2.length c0_2),(.slice A0_3 l0_3.length c0_3)] 28 (0,0))) ∧ Aside0 (wc.heap[gb399]? = some (.cells #[(.slice none 0 0),(.slice none 0 0)] 32 (0,0))) ∧ Aside0 (wc.heap[gb400]? = some (.cells #[(.slice none 0 0),(.slice none 0 0)] 32 (0,0))) ∧ Aside0 (Below w.heap.size w wc))
 case first =>
  have H := HC3.out
  clear HC3
  obtain ⟨t401,A100,H⟩ := Option.bind_eq_some_iff.mp H
  have A10 := Aside0.mk A100
  clear A100
  by_cases c11 : t401 = true
  rotate_left
  ·replace c11 := Bool.eq_false_iff.mpr c11
   subst c11
   rw [if_neg Bool.false_ne_true] at H
   have H' := Aside0.mk H
   clear H
   have hnb17 := NB398_399.out
   have hnc17 := NB399_398.out
   have hnb18 := NB398_400.out
   have hnc18 := NB400_398.out
   obtain ⟨hcz19_0,hcz19_1,hcz19_2,hcz19_3,hfz19_0,hfz19_1,hfz19_2,hfz19_3⟩ := cells4 BK398.out
   go_wp2_with (first | ((with_reducible refine gate_callee (f := 17) rfl ?_);refine goesL_ (some 14) rfl rfl Try.func17 Z256 rfl #[.agg #[.slice A0_0 l0_0.length c0_0,.string a0_1,.slice A0_2 l0_2.length c0_2,.slice A0_3 l0_3.length c0_3]] rfl Z159 ?_;(with_reducible refine (impl_TableOk.calls k _ _ l0_0 a0_1 _ _ l0_2 _ _ l0_3 false _ ?side1 ?side2 ?side3 ?side4 ?side5 ?side6 A10.out).mono ?_);(case side1 => exact Z61);(case side2 => exact Z253);(case side3 => exact Z59);(case side4 => exact HC0_2.out);(case side5 => exact Z57);(case side6 => exact HC0_3.out);rintro e w20 ⟨rfl,hb⟩;refine ⟨_,rfl,?_⟩;have n_ := Z10;clear BK398 BK399 BK400 HB;obtain ⟨BK398,BK399,BK400,HB⟩ := n_;(try clear hb);(try clear hb2);(try clear hk);(try clear hi)))
   go_meet
   case rel => exact ⟨_,(true),Z230,H',⟨Z240⟩,⟨Z317⟩,⟨Z318⟩,⟨Z319⟩,⟨Z261⟩⟩
  subst c11
  rw [if_pos rfl] at H
  obtain ⟨t402,A120,H⟩ := Option.bind_eq_some_iff.mp H
  have A12 := Aside0.mk A120
  clear A120
  have H' := Aside0.mk H
  clear H
  have hnb13 := NB398_399.out
  have hnc13 := NB399_398.out
  have hnb14 := NB398_400.out
  have hnc14 := NB400_398.out
  obtain ⟨hcz15_0,hcz15_1,hcz15_2,hcz15_3,hfz15_0,hfz15_1,hfz15_2,hfz15_3⟩ := cells4 BK398.out
  go_wp2_with (first | ((with_reducible refine gate_callee (f := 17) rfl ?_);refine goesL_ (some 14) rfl rfl Try.func17 Z256 rfl #[.agg #[.slice A0_0 l0_0.length c0_0,.string a0_1,.slice A0_2 l0_2.length c0_2,.slice A0_3 l0_3.length c0_3]] rfl Z159 ?_;(with_reducible refine (impl_TableOk.calls k _ _ l0_0 a0_1 _ _ l0_2 _ _ l0_3 true _ ?side1 ?side2 ?side3 ?side4 ?side5 ?side6 A10.out).mono ?_);(case side1 => exact Z61);(case side2 => exact Z253);(case side3 => exact Z59);(case side4 => exact HC0_2.out);(case side5 => exact Z57);(case side6 => exact HC0_3.out);rintro e w16 ⟨rfl,hb⟩;refine ⟨_,rfl,?_⟩;have n_ := Z10;clear BK398 BK399 BK400 HB;obtain ⟨BK398,BK399,BK400,HB⟩ := n_;(try clear hb);(try clear hb2);(try clear hk);(try clear hi)) | (go_at_call 18;(with_reducible refine (impl_within.calls a1 2 8 t402 _ A12.out).mono ?_);rintro e w' ⟨rfl,⟨nd,rfl⟩⟩))
  go_meet
  case rel => exact ⟨_,(!t402),Z230,H',⟨Z240⟩,⟨Z317⟩,⟨Z318⟩,⟨Z319⟩,⟨Z261⟩⟩
 case rest =>
  clear HC3
  try clear c1
  try clear p2
  try clear c6
  try clear c7
  try clear c8
  try clear c11
  try clear c13
  try clear c14
  try clear c17
  try clear c18
  obtain ⟨kq,x20_2,rfl,HA,HJ2,BK398,BK399,BK400,HB⟩ := hcut
  cases kq with
  | zero => exact absurd HA.out (by simp [impl_GridOf.j0])
  | succ kj2 =>
   have H := HA.out
   clear HA
   simp only [impl_GridOf.j0] at H
   by_cases c21 : x20_2 = true
   ·subst c21
    rw [if_pos rfl] at H
    simp only [Option.some.injEq,Prod.mk.injEq] at H
    obtain ⟨rfl,rfl⟩ := H
    have hnb22 := NB400_398.out
    have hnc22 := NB398_400.out
    have hnb23 := NB400_399.out
    have hnc23 := NB399_400.out
    obtain ⟨hcz24_0,hcz24_1,hfz24_0,hfz24_1⟩ := cells2 BK400.out
    have hnb25 := NB399_398.out
    have hnc25 := NB398_399.out
    obtain ⟨hcz26_0,hcz26_1,hfz26_0,hfz26_1⟩ := cells2 BK399.out
    go_wp2
    refine bodyPost_ret (results_cell_row rfl _ _ gb399 32 #[.slice none 0 0,.slice none 0 0] (0,0) _ rfl (by refine bP ?_;refine blk_put (cs := #[.slice none 0 0,.slice none 0 0]) ?_ 1 _ rfl;refine bP ?_;refine blk_put (cs := #[.slice none 0 0,.slice none 0 0]) ?_ 0 _ rfl;refine bP ?_;exact BK399.out) Try.underlying32 rfl Z256) rfl ?_
    exact ⟨_,_,Z212,Z156,Z156,Z261⟩
   replace c21 := Bool.eq_false_iff.mpr c21
   subst c21
   rw [if_neg Bool.false_ne_true] at H
   have H' := Aside0.mk H
   clear H
   have hnb27 := NB398_399.out
   have hnc27 := NB399_398.out
   have hnb28 := NB398_400.out
   have hnc28 := NB400_398.out
   obtain ⟨hcz29_0,hcz29_1,hcz29_2,hcz29_3,hfz29_0,hfz29_1,hfz29_2,hfz29_3⟩ := cells4 BK398.out
   go_wp2
   go_loopg [25] kj2 (fun kq v25 w' => ∃ (x25_2 : Int) (x401000_2 : List (List Int)) (x401001_2 : List (List Int)) (u401000 : Value) (u401001 : Value),v25 = .int .i64 x25_2 ∧ Aside0 (impl_GridOf.l0 kq a1 (l0_0.length : Int) x25_2 l0_0 a0_1 l0_2 l0_3 x401000_2 x401001_2 = some (r1,r2)) ∧ Aside0 (kq ≤ kj2) ∧ Aside0 (Kd.N (Kd.slice 3 (Kd.int .i64)) 26 w' w.heap.size (fun k_ => (w.heap.size ≤ k_) ∧ some k_ ≠ (u401001 : Value).ownBlock ∧ k_ ≠ gb398 ∧ k_ ≠ gb399 ∧ k_ ≠ gb400) u401000 x401000_2) ∧ Aside0 (Kd.N (Kd.slice 3 (Kd.int .i64)) 26 w' w.heap.size (fun k_ => (w.heap.size ≤ k_) ∧ some k_ ≠ (u401000 : Value).ownBlock ∧ k_ ≠ gb398 ∧ k_ ≠ gb399 ∧ k_ ≠ gb400) u401001 x401001_2) ∧ Aside0 (w'.heap[gb398]? = some (.cells #[(.slice A0_0 l0_0.length c0_0),.string a0_1,(.slice A0_2 l0_2.length c0_2),(.slice A0_3 l0_3.length c0_3)] 28 (0,0))) ∧ Aside0 (w'.heap[gb399]? = some (.cells #[(.slice none 0 0),(.slice none 0 0)] 32 (0,0))) ∧ Aside0 (w'.heap[gb400]? = some (.cells #[u401000,u401001] 32 (0,0))) ∧ Aside0 (Below w.heap.size w w'))
   case atStart => exact ⟨(0),(([] : List (List Int))),(([] : List (List Int))),(.slice none 0 0),(.slice none 0 0),Z230,H',⟨Nat.le_refl _⟩,⟨Z156⟩,⟨Z156⟩,⟨Z317⟩,⟨Z318⟩,⟨Z319⟩,⟨Z261⟩⟩
   case round =>
    clear H'
    try clear c1
    try clear c2
    try clear p2
    try clear c6
    try clear c7
    try clear c8
    try clear c11
    try clear c13
    try clear c14
    try clear c17
    try clear c18
    try clear c21
    try clear c22
    try clear c23
    try clear c25
    try clear c27
    try clear c28
    try clear p2
    obtain ⟨x25_2,x401000_2,x401001_2,u401000,u401001,rfl,HA,HK2,HO_401000,HO_401001,BK398,BK399,BK400,HB⟩ := hrel
    cases gk with
    | zero => exact absurd HA.out (by simp [impl_GridOf.l0])
    | succ k2 =>
     have H := HA.out
     clear HA
     simp only [impl_GridOf.l0] at H
     by_cases c30 : x25_2 < (l0_0.length : Int)
     rotate_left
     ·rw [if_neg c30] at H
      have c30b0 : decide (x25_2 < (l0_0.length : Int)) = false := decide_eq_false c30
      clear c30
      simp only [Option.some.injEq,Prod.mk.injEq] at H
      obtain ⟨rfl,rfl⟩ := H
      have hnb71 := NB400_398.out
      have hnc71 := NB398_400.out
      have hnb72 := NB400_399.out
      have hnc72 := NB399_400.out
      obtain ⟨hcz73_0,hcz73_1,hfz73_0,hfz73_1⟩ := cells2 BK400.out
      obtain ⟨Ao74,co74,eo74⟩ := Kd.N_slice HO_401000.out
      subst eo74
      have hnb75 := NB399_398.out
      have hnc75 := NB398_399.out
      obtain ⟨hcz76_0,hcz76_1,hfz76_0,hfz76_1⟩ := cells2 BK399.out
      obtain ⟨Ao77,co77,eo77⟩ := Kd.N_slice HO_401001.out
      subst eo77
      go_wp2
      refine bodyPost_ret (results_cell_row rfl _ _ gb399 32 #[.slice Ao74 x401000_2.length co74,.slice Ao77 x401001_2.length co77] (0,0) _ rfl (by refine bP ?_;refine blk_put (cs := #[.slice Ao74 x401000_2.length co74,.slice none 0 0]) ?_ 1 _ rfl;refine bP ?_;refine blk_put (cs := #[.slice none 0 0,.slice none 0 0]) ?_ 0 _ rfl;refine bP ?_;exact BK399.out) Try.underlying32 rfl Z256) rfl ?_
      exact ⟨_,_,Z212,by (with_reducible repeat (first | apply Kd.N_alloc | apply Kd.N_drewN | apply Kd.N_drew));exact Kd.N_mono (Kd.N_far (p := ⟨gb399,1,none⟩) (Kd.N_far (p := ⟨gb399,0,none⟩) (Kd.N_mono HO_401000.out (fun k_ hk => (⟨hk,hk.2.2.2.1⟩ : _ ∧ k_ ≠ gb399))) (fun _ hk => hk.2) (.slice Ao74 x401000_2.length co74)) (fun _ hk => hk.2) (.slice Ao77 x401001_2.length co77)) (fun _ hk => ⟨hk.1.1,hk.1.2.1⟩),by (with_reducible repeat (first | apply Kd.N_alloc | apply Kd.N_drewN | apply Kd.N_drew));exact Kd.N_mono (Kd.N_far (p := ⟨gb399,1,none⟩) (Kd.N_far (p := ⟨gb399,0,none⟩) (Kd.N_mono HO_401001.out (fun k_ hk => (⟨hk,hk.2.2.2.1⟩ : _ ∧ k_ ≠ gb399))) (fun _ hk => hk.2) (.slice Ao74 x401000_2.length co74)) (fun _ hk => hk.2) (.slice Ao77 x401001_2.length co77)) (fun _ hk => ⟨hk.1.1,hk.1.2.1⟩),Z261⟩
     rw [if_pos c30] at H
     have c30b0 : decide (x25_2 < (l0_0.length : Int)) = true := decide_eq_true c30
     clear c30
     obtain ⟨t403,A310,H⟩ := Option.bind_eq_some_iff.mp H
     have A31 := Aside0.mk A310
     clear A310
     obtain ⟨y406,hyy⟩ : ∃ y_ : List Int,y_ = (([] : List Int)) := ⟨_,rfl⟩
     replace H : ((impl_CutsOf.f k2 t403 a1).bind fun t409 => (impl_GridOf.l1 k2 a1 y406 t409 (l0_0.length : Int) x25_2 t403 (t403.length : Int) 0 l0_0 a0_1 l0_2 l0_3 x401000_2 x401001_2)) = some (r1,r2) := zR
     have Ny406 := Aside0.mk hyy
     clear hyy
     obtain ⟨t409,A320,H⟩ := Option.bind_eq_some_iff.mp H
     have A32 := Aside0.mk A320
     clear A320
     have H' := Aside0.mk H
     clear H
     have hnb33 := NB398_399.out
     have hnc33 := NB399_398.out
     have hnb34 := NB398_400.out
     have hnc34 := NB400_398.out
     obtain ⟨hcz35_0,hcz35_1,hcz35_2,hcz35_3,hfz35_0,hfz35_1,hfz35_2,hfz35_3⟩ := cells4 BK398.out
     go_wp2_with (first | ((with_reducible refine gate_callee (f := 19) rfl ?_);refine goesL_ (some 30) rfl rfl Try.func19 Z256 rfl #[.agg #[.slice A0_0 l0_0.length c0_0,.string a0_1,.slice A0_2 l0_2.length c0_2,.slice A0_3 l0_3.length c0_3],.int .i64 x25_2] rfl Z159 ?_;(with_reducible refine (impl_Column.calls k2 _ _ l0_0 a0_1 _ _ l0_2 _ _ l0_3 x25_2 t403 _ ?side1 ?side2 ?side3 ?side4 ?side5 ?side6 A31.out).mono ?_);(case side1 => exact Z106);(case side2 => exact Z253);(case side3 => exact Z110);(case side4 => exact HC0_2.out);(case side5 => exact Z109);(case side6 => exact HC0_3.out);rintro e w36 ⟨v404,rfl,ho0,hb⟩;refine ⟨_,rfl,?_⟩;have n_ := jA (Kd.N_elder' Z174 (Kd.R_base ho0) hb) (jA (Kd.N_elder' Z292 (Kd.R_base ho0) hb) (jA (Kd.R_lower (Kd.R_newM (M := fun k_ => (w.heap.size ≤ k_)) ho0 (below_size Z261) (fun k_ h_ => h_)) (below_size Z261)) (jA (blk_below (g := gb398) (o := .cells #[.slice A0_0 l0_0.length c0_0,.string a0_1,.slice A0_2 l0_2.length c0_2,.slice A0_3 l0_3.length c0_3] 28 (0,0)) Z317 hb) (jA (blk_below (g := gb399) (o := .cells #[.slice none 0 0,.slice none 0 0] 32 (0,0)) Z318 hb) (jA (blk_below (g := gb400) (o := .cells #[u401000,u401001] 32 (0,0)) Z319 hb) (Aside0.mk (below_step Z261 hb)))))));clear HO_401000 HO_401001 BK398 BK399 BK400 HB;obtain ⟨HO_401000,HO_401001,HO405,BK398,BK399,BK400,HB⟩ := n_;(try clear hb);(try clear hb2);(try clear hk);(try clear hi);(try clear ho0)) | ((with_reducible refine gate_dst (N := 31) rfl ?_);refine Kd.R_lit (Kd.int .i64) _ 3 ?hg (N := 31) ?hd (xs := ([] : List Int)) (inner := []) (ok := fun _ => True) (okp := fun _ => True) ?hr ?hp (fun _ hk => hk) trivial (Below.refl _ _) (Nat.le_refl _) Z332 ?_;(case hd => rfl);(case hg => rfl);(case hr => exact Z231);(case hp => exact Z252);intro v407 w37 ho38 hb hg_ hnew_;clear hg_ hnew_;(first | rw [← Ny406.out] at ho38 | (simp only [Int.reduceToNat] at ho38;rw [← Ny406.out] at ho38));have n_ := jA (Kd.N_elder' Z174 (Kd.R_base ho38) hb) (jA (Kd.N_elder' Z292 (Kd.R_base ho38) hb) (jA (Kd.R_elder' Z190 (Kd.R_base ho38) hb) (jA (Kd.R_lower (Kd.R_new' (Kd.R_newM (M := fun k_ => (w.heap.size ≤ k_)) ho38 (below_size Z261) (fun k_ h_ => h_)) (Kd.R_lt Z190)) (below_size Z261)) (jA (blk_below (g := gb398) (o := .cells #[.slice A0_0 l0_0.length c0_0,.string a0_1,.slice A0_2 l0_2.length c0_2,.slice A0_3 l0_3.length c0_3] 28 (0,0)) Z317 hb) (jA (blk_below (g := gb399) (o := .cells #[.slice none 0 0,.slice none 0 0] 32 (0,0)) Z318 hb) (jA (blk_below (g := gb400) (o := .cells #[u401000,u401001] 32 (0,0)) Z319 hb) (Aside0.mk (below_step Z261 hb))))))));clear HO_401000 HO_401001 HO405 BK398 BK399 BK400 HB;obtain ⟨HO_401000,HO_401001,HO405,HO408,BK398,BK399,BK400,HB⟩ := n_;clear hb ho38;obtain ⟨Ao39,co39,eo39⟩ := Kd.R_slice HO405.out;subst eo39) | ((with_reducible refine gate_callee (f := 20) rfl ?_);refine goesL_ (some 34) rfl rfl Try.func20 Z256 rfl #[.slice Ao39 t403.length co39,.int .i64 a1] rfl Z159 ?_;(with_reducible refine (impl_CutsOf.calls k2 _ _ t403 a1 t409 _ ?side1 ?side2 A32.out).mono ?_);(case side1 => repeat (first | exact (Kd.R_reads' HO405.out).2.2 | (with_reducible refine Kd.C_alloc ?_ _) | (with_reducible refine Kd.C_drewN ?_ _) | (with_reducible refine Kd.C_drew ?_)));(case side2 => exact (Kd.R_reads' HO405.out).2.1);rintro e w40 ⟨v410,rfl,ho0,hb⟩;refine ⟨_,rfl,?_⟩;have n_ := jA (Kd.N_elder' Z174 (Kd.R_base ho0) hb) (jA (Kd.N_elder' Z292 (Kd.R_base ho0) hb) (jA (Kd.R_elder' Z190 (Kd.R_base ho0) hb) (jA (Kd.R_elder' Z204 (Kd.R_base ho0) hb) (jA (Kd.R_lower (Kd.R_new' (Kd.R_new' (Kd.R_newM (M := fun k_ => (w.heap.size ≤ k_)) ho0 (below_size Z261) (fun k_ h_ => h_)) (Kd.R_lt Z190)) (Kd.R_lt Z204)) (below_size Z261)) (jA (blk_below (g := gb398) (o := .cells #[.slice A0_0 l0_0.length c0_0,.string a0_1,.slice A0_2 l0_2.length c0_2,.slice A0_3 l0_3.length c0_3] 28 (0,0)) Z317 hb) (jA (blk_below (g := gb399) (o := .cells #[.slice none 0 0,.slice none 0 0] 32 (0,0)) Z318 hb) (jA (blk_below (g := gb400) (o := .cells #[u401000,u401001] 32 (0,0)) Z319 hb) (Aside0.mk (below_step Z261 hb)))))))));clear HO_401000 HO_401001 HO405 HO408 BK398 BK399 BK400 HB;obtain ⟨HO_401000,HO_401001,HO405,HO408,HO411,BK398,BK399,BK400,HB⟩ := n_;(try clear hb);(try clear hb2);(try clear hk);(try clear hi);(try clear ho0)))
     go_loopg [8,37] k2 (fun kq v8 v37 w' => ∃ (x8_3 : List Int) (x37_3 : Int),v37 = .int .i64 x37_3 ∧ Aside0 (impl_GridOf.l1 kq a1 x8_3 t409 (l0_0.length : Int) x25_2 t403 (t403.length : Int) x37_3 l0_0 a0_1 l0_2 l0_3 x401000_2 x401001_2 = some (r1,r2)) ∧ Aside0 (kq ≤ k2) ∧ Aside0 (Kd.R (Kd.int .i64) 3 w' w.heap.size (fun k_ => (w.heap.size ≤ k_) ∧ some k_ ≠ (v410 : Value).ownBlock ∧ some k_ ≠ ((.slice Ao39 t403.length co39) : Value).ownBlock) v8 x8_3) ∧ Aside0 (Kd.R (Kd.int .i64) 3 w' w.heap.size (fun k_ => (w.heap.size ≤ k_) ∧ some k_ ≠ (v8 : Value).ownBlock ∧ some k_ ≠ ((.slice Ao39 t403.length co39) : Value).ownBlock) v410 t409) ∧ Aside0 (Kd.R (Kd.int .i64) 3 w' w.heap.size (fun k_ => (w.heap.size ≤ k_) ∧ some k_ ≠ (v8 : Value).ownBlock ∧ some k_ ≠ (v410 : Value).ownBlock) (.slice Ao39 t403.length co39) t403) ∧ Aside0 (Kd.N (Kd.slice 3 (Kd.int .i64)) 26 w' w.heap.size (fun k_ => (w.heap.size ≤ k_) ∧ some k_ ≠ (v8 : Value).ownBlock ∧ some k_ ≠ (v410 : Value).ownBlock ∧ some k_ ≠ ((.slice Ao39 t403.length co39) : Value).ownBlock ∧ some k_ ≠ (u401001 : Value).ownBlock ∧ k_ ≠ gb398 ∧ k_ ≠ gb399 ∧ k_ ≠ gb400) u401000 x401000_2) ∧ Aside0 (Kd.N (Kd.slice 3 (Kd.int .i64)) 26 w' w.heap.size (fun k_ => (w.heap.size ≤ k_) ∧ some k_ ≠ (v8 : Value).ownBlock ∧ some k_ ≠ (v410 : Value).ownBlock ∧ some k_ ≠ ((.slice Ao39 t403.length co39) : Value).ownBlock ∧ some k_ ≠ (u401000 : Value).ownBlock ∧ k_ ≠ gb398 ∧ k_ ≠ gb399 ∧ k_ ≠ gb400) u401001 x401001_2) ∧ Aside0 (w'.heap[gb398]? = some (.cells #[(.slice A0_0 l0_0.length c0_0),.string a0_1,(.slice A0_2 l0_2.length c0_2),(.slice A0_3 l0_3.length c0_3)] 28 (0,0))) ∧ Aside0 (w'.heap[gb399]? = some (.cells #[(.slice none 0 0),(.slice none 0 0)] 32 (0,0))) ∧ Aside0 (w'.heap[gb400]? = some (.cells #[u401000,u401001] 32 (0,0))) ∧ Aside0 (Below w.heap.size w w'))
     case atStart => exact ⟨(y406),(0),Z230,H',⟨Nat.le_refl _⟩,⟨by (with_reducible repeat (first | apply Kd.R_alloc | apply Kd.R_drewN | apply Kd.R_drew));exact Kd.R_mono HO408.out (fun _ hk => ⟨hk.1.1.1,⟨hk.2,hk.1.2⟩⟩)⟩,⟨by (with_reducible repeat (first | apply Kd.R_alloc | apply Kd.R_drewN | apply Kd.R_drew));exact Kd.R_mono HO411.out (fun _ hk => ⟨hk.1.1.1,⟨hk.2,hk.1.2⟩⟩)⟩,⟨by (with_reducible repeat (first | apply Kd.R_alloc | apply Kd.R_drewN | apply Kd.R_drew));exact Kd.R_mono HO405.out (fun _ hk => ⟨hk.1.1.1,⟨hk.1.2,hk.2⟩⟩)⟩,⟨by (with_reducible repeat (first | apply Kd.N_alloc | apply Kd.N_drewN | apply Kd.N_drew));exact Kd.N_mono HO_401000.out (fun _ hk => ⟨hk.1.1.1.1,⟨hk.1.2,⟨hk.2,⟨hk.1.1.2,⟨hk.1.1.1.2.1,⟨hk.1.1.1.2.2.1,⟨hk.1.1.1.2.2.2.1,hk.1.1.1.2.2.2.2⟩⟩⟩⟩⟩⟩⟩)⟩,⟨by (with_reducible repeat (first | apply Kd.N_alloc | apply Kd.N_drewN | apply Kd.N_drew));exact Kd.N_mono HO_401001.out (fun _ hk => ⟨hk.1.1.1.1,⟨hk.1.2,⟨hk.2,⟨hk.1.1.2,⟨hk.1.1.1.2.1,⟨hk.1.1.1.2.2.1,⟨hk.1.1.1.2.2.2.1,hk.1.1.1.2.2.2.2⟩⟩⟩⟩⟩⟩⟩)⟩,⟨Z317⟩,⟨Z318⟩,⟨Z319⟩,⟨Z261⟩⟩
     case round =>
      clear H'
      try clear c1
      try clear c2
      try clear p2
      try clear c3
      try clear c6
      try clear c7
      try clear c8
      try clear c11
      try clear c13
      try clear c14
      try clear c17
      try clear c18
      try clear c19
      try clear c20
      try clear c21
      try clear c22
      try clear c23
      try clear c25
      try clear c27
      try clear c28
      try clear c30
      try clear c30b0
      try clear c33
      try clear c34
      try clear p2
      obtain ⟨x8_3,x37_3,rfl,HA,HK3,HO_8,HO_9,HO_35,HO_401000,HO_401001,BK398,BK399,BK400,HB⟩ := hrel
      cases gk with
      | zero => exact absurd HA.out (by simp [impl_GridOf.l1])
      | succ k3 =>
       have H := HA.out
       clear HA
       simp only [impl_GridOf.l1] at H
       by_cases c41 : x37_3 < (t403.length : Int)
       ·rw [if_pos c41] at H
        have c41b0 : decide (x37_3 < (t403.length : Int)) = true := decide_eq_true c41
        clear c41
        obtain ⟨c42,H⟩ := ifp H
        have c42b0 : decide (0 ≤ x37_3) = true := decide_eq_true c42
        clear c42
        obtain ⟨c43,H⟩ := ifp H
        have c43b0 : decide (x37_3 < (t403.length : Int)) = true := decide_eq_true c43
        clear c43
        obtain ⟨t413,A440,H⟩ := Option.bind_eq_some_iff.mp H
        have A44 := Aside0.mk A440
        clear A440
        obtain ⟨y414,hyy⟩ : ∃ y_ : List Int,y_ = (([t413] : List Int)) := ⟨_,rfl⟩
        replace H : (if x8_3.length + y414.length < 17592186044416 then (impl_GridOf.l1 k3 a1 (x8_3 ++ y414) t409 (l0_0.length : Int) x25_2 t403 (t403.length : Int) (wrap64 (x37_3 + 1)) l0_0 a0_1 l0_2 l0_3 x401000_2 x401001_2) else (none)) = some (r1,r2) := zR
        have Ny414 := Aside0.mk hyy
        clear hyy
        obtain ⟨c45,H⟩ := ifp H
        have LMc45 := Aside0.mk c45
        clear c45
        obtain ⟨y417,hyy⟩ : ∃ y_ : List Int,y_ = (x8_3 ++ y414) := ⟨_,rfl⟩
        replace H : (impl_GridOf.l1 k3 a1 y417 t409 (l0_0.length : Int) x25_2 t403 (t403.length : Int) (wrap64 (x37_3 + 1)) l0_0 a0_1 l0_2 l0_3 x401000_2 x401001_2) = some (r1,r2) := zR
        have Ny417 := Aside0.mk hyy
        clear hyy
        have H' := Aside0.mk H
        clear H
        have p412 : 0 ≤ (x37_3 : Int) := of_decide_eq_true Z229
        have q412 : x37_3 < (t403.length : Int) := of_decide_eq_true Z229
        obtain ⟨ad412,e412,hx412_0⟩ := Kd.at_int (Kd.R_reads' HO_35.out).2.2 x37_3 p412 q412
        cases e412
        replace p412 := eq_true p412
        replace q412 := eq_true q412
        obtain ⟨Ao46,co46,eo46⟩ := Kd.R_slice HO_9.out
        subst eo46
        go_wp2_with (first | ((with_reducible refine gate_callee (f := 21) rfl ?_);refine goesL_ (some 44) rfl rfl Try.func21 Z256 rfl #[.slice Ao46 t409.length co46,.int .i64 (rd t403 x37_3)] rfl Z159 ?_;(with_reducible refine (impl_BinOf.calls k3 _ _ t409 (rd t403 x37_3) t413 _ ?side1 ?side2 A44.out).mono ?_);(case side1 => repeat (first | exact (Kd.R_reads' HO_9.out).2.2 | (with_reducible refine Kd.C_alloc ?_ _) | (with_reducible refine Kd.C_drewN ?_ _) | (with_reducible refine Kd.C_drew ?_)));(case side2 => exact (Kd.R_reads' HO_9.out).2.1);rintro e w' ⟨rfl,⟨nd,rfl⟩⟩;refine ⟨_,rfl,?_⟩) | ((with_reducible refine gate_dst (N := 45) rfl ?_);refine Kd.R_lit (Kd.int .i64) _ 3 ?hg (N := 45) ?hd (xs := ([t413] : List Int)) (inner := [.int .i64 t413]) (ok := fun _ => True) (okp := fun _ => True) ?hr ?hp (fun _ hk => hk) trivial (Below.refl _ _) (Nat.le_refl _) Z332 ?_;(case hd => rfl);(case hg => rfl);(case hr => exact Z231);(case hp => exact (Reps.one (show Kd.M (Kd.int .i64) _ _ _ t413 [.int .i64 t413] from rfl) (Reps.none _ _)));intro v415 w47 ho48 hb hg_ hnew_;clear hg_ hnew_;(first | rw [← Ny414.out] at ho48 | (simp only [Int.reduceToNat] at ho48;rw [← Ny414.out] at ho48));have n_ := jA (Kd.R_elder' Z310 (Kd.R_base ho48) hb) (jA (Kd.R_elder' Z209 (Kd.R_base ho48) hb) (jA (Kd.R_elder' Z301 (Kd.R_base ho48) hb) (jA (Kd.N_elder' Z174 (Kd.R_base ho48) hb) (jA (Kd.N_elder' Z292 (Kd.R_base ho48) hb) (jA (Kd.R_lower (Kd.R_new' (Kd.R_new' (Kd.R_new' (Kd.R_newM (M := fun k_ => (w.heap.size ≤ k_)) ho48 (below_size Z261) (fun k_ h_ => h_)) (Kd.R_lt Z310)) (Kd.R_lt Z209)) (Kd.R_lt Z301)) (below_size Z261)) (jA (blk_below (g := gb398) (o := .cells #[.slice A0_0 l0_0.length c0_0,.string a0_1,.slice A0_2 l0_2.length c0_2,.slice A0_3 l0_3.length c0_3] 28 (0,0)) Z317 hb) (jA (blk_below (g := gb399) (o := .cells #[.slice none 0 0,.slice none 0 0] 32 (0,0)) Z318 hb) (jA (blk_below (g := gb400) (o := .cells #[u401000,u401001] 32 (0,0)) Z319 hb) (Aside0.mk (below_step Z261 hb))))))))));clear HO_8 HO_9 HO_35 HO_401000 HO_401001 BK398 BK399 BK400 HB;obtain ⟨HO_8,HO_9,HO_35,HO_401000,HO_401001,HO416,BK398,BK399,BK400,HB⟩ := n_;clear hb ho48;obtain ⟨Ao50,co50,eo50⟩ := Kd.R_slice HO416.out;subst eo50) | ((with_reducible refine gate_builtin (b := .append) (xs := #[.tmp 41,.tmp 45]) rfl ?_);at_builtin;refine Kd.R_append_rows (Kd.int .i64) (w0 := w) w.heap.size rfl (.tmp 41) (.tmp 45) 26 3 (.int .i64 0) 8 rfl Try.underlying26 info3 rfl Z330 Z331 u8 x8_3 y414 _ _ _ (fun k_ => (w.heap.size ≤ k_) ∧ some k_ ≠ (.slice Ao46 t409.length co46 : Value).ownBlock ∧ some k_ ≠ (.slice (some ad412) t403.length co39 : Value).ownBlock ∧ some k_ ≠ (.slice Ao50 y414.length co50 : Value).ownBlock) (fun _ => False) rfl rfl ?aO ?aR (fun _ _ h => h) (fun _ h => h.elim) ?aF ?aB ?aS ?aL ?_;(case aR => repeat (first | exact (Kd.R_reads' HO416.out).2.2 | (with_reducible refine Kd.C_alloc ?_ _) | (with_reducible refine Kd.C_drewN ?_ _) | (with_reducible refine Kd.C_drew ?_)));(case aB => exact Z67);(case aF => exact (fun k_ hk => ⟨(Nat.le_trans (below_size Z261) hk),Kd.fresh' (Kd.R_lt Z209) k_ hk,Kd.fresh' (Kd.R_lt Z301) k_ hk,Kd.fresh' (Kd.R_lt (by (with_reducible repeat (first | apply Kd.R_alloc | apply Kd.R_drewN | apply Kd.R_drew));exact HO416.out)) k_ hk⟩));(case aO => exact (by (with_reducible repeat (first | apply Kd.R_alloc | apply Kd.R_drewN | apply Kd.R_drew));exact Kd.R_mono HO_8.out (fun _ hk => ⟨hk.1.1,⟨hk.1.2.1,⟨hk.1.2.2,hk.2⟩⟩⟩)));(case aS => exact Z62);(case aL => have := LMc45.out;omega);intro v418 w49 ho hb hg hat;rw [← Ny417.out] at ho;have n_ := jA (Kd.R_after (ok := (fun k_ => (w.heap.size ≤ k_) ∧ some k_ ≠ (.slice (some ad412) t403.length co39 : Value).ownBlock ∧ some k_ ≠ (.slice Ao50 y414.length co50 : Value).ownBlock)) (by (with_reducible repeat (first | apply Kd.R_alloc | apply Kd.R_drewN | apply Kd.R_drew));exact Kd.R_mono HO_9.out (fun _ hk => ⟨⟨hk.1.1,⟨hk.1.2.2,hk.2⟩⟩,hk.1.2.1⟩)) hg hat) (jA (Kd.R_after (ok := (fun k_ => (w.heap.size ≤ k_) ∧ some k_ ≠ (.slice Ao46 t409.length co46 : Value).ownBlock ∧ some k_ ≠ (.slice Ao50 y414.length co50 : Value).ownBlock)) (by (with_reducible repeat (first | apply Kd.R_alloc | apply Kd.R_drewN | apply Kd.R_drew));exact Kd.R_mono HO_35.out (fun _ hk => ⟨⟨hk.1.1,⟨hk.1.2.2,hk.2⟩⟩,hk.1.2.1⟩)) hg hat) (jA (Kd.N_afterv (ok := (fun k_ => (w.heap.size ≤ k_) ∧ some k_ ≠ (.slice Ao46 t409.length co46 : Value).ownBlock ∧ some k_ ≠ (.slice (some ad412) t403.length co39 : Value).ownBlock ∧ some k_ ≠ (u401001 : Value).ownBlock ∧ some k_ ≠ (.slice Ao50 y414.length co50 : Value).ownBlock ∧ k_ ≠ gb398 ∧ k_ ≠ gb399 ∧ k_ ≠ gb400)) (by (with_reducible repeat (first | apply Kd.N_alloc | apply Kd.N_drewN | apply Kd.N_drew));exact Kd.N_mono HO_401000.out (fun _ hk => ⟨⟨hk.1.1,⟨hk.1.2.2.1,⟨hk.1.2.2.2.1,⟨hk.1.2.2.2.2.1,⟨hk.2,⟨hk.1.2.2.2.2.2.1,⟨hk.1.2.2.2.2.2.2.1,hk.1.2.2.2.2.2.2.2⟩⟩⟩⟩⟩⟩⟩,hk.1.2.1⟩)) hg hat) (jA (Kd.N_afterv (ok := (fun k_ => (w.heap.size ≤ k_) ∧ some k_ ≠ (.slice Ao46 t409.length co46 : Value).ownBlock ∧ some k_ ≠ (.slice (some ad412) t403.length co39 : Value).ownBlock ∧ some k_ ≠ (u401000 : Value).ownBlock ∧ some k_ ≠ (.slice Ao50 y414.length co50 : Value).ownBlock ∧ k_ ≠ gb398 ∧ k_ ≠ gb399 ∧ k_ ≠ gb400)) (by (with_reducible repeat (first | apply Kd.N_alloc | apply Kd.N_drewN | apply Kd.N_drew));exact Kd.N_mono HO_401001.out (fun _ hk => ⟨⟨hk.1.1,⟨hk.1.2.2.1,⟨hk.1.2.2.2.1,⟨hk.1.2.2.2.2.1,⟨hk.2,⟨hk.1.2.2.2.2.2.1,⟨hk.1.2.2.2.2.2.2.1,hk.1.2.2.2.2.2.2.2⟩⟩⟩⟩⟩⟩⟩,hk.1.2.1⟩)) hg hat) (jA (blk_grown (g := gb398) (o := .cells #[.slice A0_0 l0_0.length c0_0,.string a0_1,.slice A0_2 l0_2.length c0_2,.slice A0_3 l0_3.length c0_3] 28 (0,0)) Z317 hg (Kd.R_ne HO_8.out BK398.out Z330)) (jA (blk_grown (g := gb399) (o := .cells #[.slice none 0 0,.slice none 0 0] 32 (0,0)) Z318 hg (Kd.R_ne HO_8.out BK399.out Z330)) (jA (blk_grown (g := gb400) (o := .cells #[u401000,u401001] 32 (0,0)) Z319 hg (Kd.R_ne HO_8.out BK400.out Z330)) (jA (Kd.R_after (ok := (fun k_ => (w.heap.size ≤ k_) ∧ some k_ ≠ (.slice Ao46 t409.length co46 : Value).ownBlock ∧ some k_ ≠ (.slice (some ad412) t403.length co39 : Value).ownBlock)) (by (with_reducible repeat (first | apply Kd.R_alloc | apply Kd.R_drewN | apply Kd.R_drew));exact Kd.R_mono HO416.out (fun _ hk => ⟨⟨hk.1.1.1.1,⟨hk.1.2,hk.2⟩⟩,hk.1.1.2⟩)) hg hat) (jA (hb) (Aside0.mk (ho))))))))));clear HO_9 HO_35 HO_401000 HO_401001 BK398 BK399 BK400 HO416 HB HO_8;obtain ⟨HO_9,HO_35,HO_401000,HO_401001,BK398,BK399,BK400,HO416,HB,HO419⟩ := n_;clear ho hb hg hat))
        go_roundg k3
        case measure => have := HJ2.out;have := HK2.out;have := HK3.out;omega
        case rel => exact ⟨(y417),(wrap64 (x37_3 + 1)),Z230,H',⟨Z226⟩,⟨by (with_reducible repeat (first | apply Kd.R_alloc | apply Kd.R_drewN | apply Kd.R_drew));exact Kd.R_mono HO419.out (fun _ hk => ⟨hk.1,⟨hk.2.1,hk.2.2.1⟩⟩)⟩,⟨by (with_reducible repeat (first | apply Kd.R_alloc | apply Kd.R_drewN | apply Kd.R_drew));exact Kd.R_mono HO_9.out (fun _ hk => ⟨hk.1.1,⟨hk.2,hk.1.2.1⟩⟩)⟩,⟨by (with_reducible repeat (first | apply Kd.R_alloc | apply Kd.R_drewN | apply Kd.R_drew));exact Kd.R_mono HO_35.out (fun _ hk => ⟨hk.1.1,⟨hk.2,hk.1.2.1⟩⟩)⟩,⟨by (with_reducible repeat (first | apply Kd.N_alloc | apply Kd.N_drewN | apply Kd.N_drew));exact Kd.N_mono HO_401000.out (fun _ hk => ⟨hk.1.1,⟨hk.2,⟨hk.1.2.1,⟨hk.1.2.2.1,⟨hk.1.2.2.2.1,⟨hk.1.2.2.2.2.2.1,⟨hk.1.2.2.2.2.2.2.1,hk.1.2.2.2.2.2.2.2⟩⟩⟩⟩⟩⟩⟩)⟩,⟨by (with_reducible repeat (first | apply Kd.N_alloc | apply Kd.N_drewN | apply Kd.N_drew));exact Kd.N_mono HO_401001.out (fun _ hk => ⟨hk.1.1,⟨hk.2,⟨hk.1.2.1,⟨hk.1.2.2.1,⟨hk.1.2.2.2.1,⟨hk.1.2.2.2.2.2.1,⟨hk.1.2.2.2.2.2.2.1,hk.1.2.2.2.2.2.2.2⟩⟩⟩⟩⟩⟩⟩)⟩,⟨Z317⟩,⟨Z318⟩,⟨Z319⟩,⟨Z261⟩⟩
       rw [if_neg c41] at H
       have c41b0 : decide (x37_3 < (t403.length : Int)) = false := decide_eq_false c41
       clear c41
       obtain ⟨y420,hyy⟩ : ∃ y_ : List (List Int),y_ = (([t409] : List (List Int))) := ⟨_,rfl⟩
       replace H : (if x401000_2.length + y420.length < 5864062014805 then ((some (([x8_3] : List (List Int)) : List (List Int))).bind fun y426 => (if x401001_2.length + y426.length < 5864062014805 then (impl_GridOf.l0 k3 a1 (l0_0.length : Int) (wrap64 (x25_2 + 1)) l0_0 a0_1 l0_2 l0_3 (x401000_2 ++ y420) (x401001_2 ++ y426)) else (none))) else (none)) = some (r1,r2) := zR
       have Ny420 := Aside0.mk hyy
       clear hyy
       obtain ⟨c51,H⟩ := ifp H
       have LMc51 := Aside0.mk c51
       clear c51
       obtain ⟨y423,hyy⟩ : ∃ y_ : List (List Int),y_ = (x401000_2 ++ y420) := ⟨_,rfl⟩
       replace H : ((some (([x8_3] : List (List Int)) : List (List Int))).bind fun y426 => (if x401001_2.length + y426.length < 5864062014805 then (impl_GridOf.l0 k3 a1 (l0_0.length : Int) (wrap64 (x25_2 + 1)) l0_0 a0_1 l0_2 l0_3 y423 (x401001_2 ++ y426)) else (none))) = some (r1,r2) := zR
       have Ny423 := Aside0.mk hyy
       clear hyy
       obtain ⟨y426,hyy⟩ : ∃ y_ : List (List Int),y_ = (([x8_3] : List (List Int))) := ⟨_,rfl⟩
       replace H : (if x401001_2.length + y426.length < 5864062014805 then (impl_GridOf.l0 k3 a1 (l0_0.length : Int) (wrap64 (x25_2 + 1)) l0_0 a0_1 l0_2 l0_3 y423 (x401001_2 ++ y426)) else (none)) = some (r1,r2) := zR
       have Ny426 := Aside0.mk hyy
       clear hyy
       obtain ⟨c52,H⟩ := ifp H
       have LMc52 := Aside0.mk c52
       clear c52
       obtain ⟨y429,hyy⟩ : ∃ y_ : List (List Int),y_ = (x401001_2 ++ y426) := ⟨_,rfl⟩
       replace H : (impl_GridOf.l0 k3 a1 (l0_0.length : Int) (wrap64 (x25_2 + 1)) l0_0 a0_1 l0_2 l0_3 y423 y429) = some (r1,r2) := zR
       have Ny429 := Aside0.mk hyy
       clear hyy
       have H' := Aside0.mk H
       clear H
       obtain ⟨Ao53,co53,eo53⟩ := Kd.R_slice HO_9.out
       subst eo53
       obtain ⟨Ao54,co54,eo54⟩ := Kd.N_slice HO_401000.out
       subst eo54
       obtain ⟨Ao55,co55,eo55⟩ := Kd.R_slice HO_8.out
       subst eo55
       obtain ⟨Ao56,co56,eo56⟩ := Kd.N_slice HO_401001.out
       subst eo56
       try go_wp2
       have n_ := jA (Kd.R_drew HO_8.out) (jA (Kd.R_drew HO_9.out) (jA (Kd.R_drew HO_35.out) (jA (Kd.N_drew HO_401000.out) (jA (Kd.N_drew HO_401001.out) (jA (blk_drew BK398.out) (jA (blk_drew BK399.out) (jA (blk_drew BK400.out) (Aside0.mk (below_drew1 HB.out)))))))))
       clear HO_8 HO_9 HO_35 HO_401000 HO_401001 BK398 BK399 BK400 HB
       obtain ⟨HO_8,HO_9,HO_35,HO_401000,HO_401001,BK398,BK399,BK400,HB⟩ := n_
       refine start_ (n := 14) (S := fun w' => w'.cell? ⟨gb400,0,none⟩ = some (.slice Ao54 x401000_2.length co54) ∧ w'.cell? ⟨gb400,1,none⟩ = some (.slice Ao56 x401001_2.length co56)) (ds := [11,13]) (qM 14 0) Z256 rfl (by kernel_rfl) ⟨bc BK400 0,bc BK400 1⟩ (fun hHeld => ?_);refine with_tabW impl_GridOf.tab14 impl_GridOf.bits14 (fun HT_ HW_ => ?_)
       generalize wr.drew = w57 at HO_8 HO_9 HO_35 HO_401000 HO_401001 BK398 BK399 BK400 HB hHeld ⊢
       refine rP 0 48 14 1 HT_ (h := ?_)
       refine rP 2 50 14 5 HT_ (h := ?_)
       refine rP 5 53 14 37 HT_ (h := ?_)
       refine rP 7 55 14 165 HT_ (h := ?_)
       refine rT2 1 49 14 167 HT_ HW_ hHeld (h := ?_)
       refine rT2 6 54 14 231 HT_ HW_ hHeld (h := ?_)
       refine join_ (σ := Value × Value × Value) 4 (qM 14 1535) (fun s_ => [(51,s_.1),(52,s_.2.1),(56,s_.2.2),(58,.pointer (some ⟨gb400,0,none⟩))]) (fun s_ w' => (w'.cell? ⟨gb400,0,none⟩ = some (.slice Ao54 x401000_2.length co54) ∧ w'.cell? ⟨gb400,1,none⟩ = some (.slice Ao56 x401001_2.length co56)) ∧ (Kd.N (Kd.slice 3 (Kd.int .i64)) 26 w' w.heap.size (fun k_ => (w.heap.size ≤ k_) ∧ some k_ ≠ (s_.2.1 : Value).ownBlock ∧ some k_ ≠ (s_.2.2 : Value).ownBlock ∧ some k_ ≠ (.slice Ao39 t403.length co39 : Value).ownBlock ∧ some k_ ≠ (.slice Ao56 x401001_2.length co56 : Value).ownBlock ∧ k_ ≠ gb398 ∧ k_ ≠ gb399 ∧ k_ ≠ gb400) s_.1 y420) ∧ (Kd.N (Kd.slice 3 (Kd.int .i64)) 26 w' w.heap.size (fun k_ => (w.heap.size ≤ k_) ∧ some k_ ≠ (s_.2.2 : Value).ownBlock ∧ some k_ ≠ (.slice Ao39 t403.length co39 : Value).ownBlock ∧ some k_ ≠ (.slice Ao56 x401001_2.length co56 : Value).ownBlock ∧ k_ ≠ gb398 ∧ k_ ≠ gb399 ∧ k_ ≠ gb400) s_.2.1 y423) ∧ (Kd.N (Kd.slice 3 (Kd.int .i64)) 26 w' w.heap.size (fun k_ => (w.heap.size ≤ k_) ∧ some k_ ≠ (s_.1 : Value).ownBlock ∧ some k_ ≠ (s_.2.1 : Value).ownBlock ∧ some k_ ≠ (.slice Ao39 t403.length co39 : Value).ownBlock ∧ some k_ ≠ (.slice Ao56 x401001_2.length co56 : Value).ownBlock ∧ k_ ≠ gb398 ∧ k_ ≠ gb399 ∧ k_ ≠ gb400) s_.2.2 y426) ∧ (Kd.R (Kd.int .i64) 3 w' w.heap.size (fun k_ => (w.heap.size ≤ k_)) (.slice Ao39 t403.length co39) t403) ∧ (Kd.N (Kd.slice 3 (Kd.int .i64)) 26 w' w.heap.size (fun k_ => (w.heap.size ≤ k_) ∧ some k_ ≠ (s_.1 : Value).ownBlock ∧ some k_ ≠ (s_.2.1 : Value).ownBlock ∧ some k_ ≠ (s_.2.2 : Value).ownBlock ∧ some k_ ≠ (.slice Ao39 t403.length co39 : Value).ownBlock ∧ k_ ≠ gb398 ∧ k_ ≠ gb399 ∧ k_ ≠ gb400) (.slice Ao56 x401001_2.length co56) x401001_2) ∧ (w'.heap[gb398]? = some (.cells #[.slice A0_0 l0_0.length c0_0,.string a0_1,.slice A0_2 l0_2.length c0_2,.slice A0_3 l0_3.length c0_3] 28 (0,0))) ∧ (w'.heap[gb399]? = some (.cells #[.slice none 0 0,.slice none 0 0] 32 (0,0))) ∧ (w'.heap[gb400]? = some (.cells #[.slice Ao54 x401000_2.length co54,.slice Ao56 x401001_2.length co56] 32 (0,0))) ∧ (Below w.heap.size w w')) ?_ ?_
       rotate_left
       ·intro hCont
        refine two_ (i := 3) (j := 8) (Ni := some 51) (Nj := some 56) (qM 14 239) (qM 14 487) rfl rfl rfl rfl (two_of HT_.out Z256) Z330 Z330 (fun K hK => ?_) (fun K hK => ?_)
        ·skip
         refine Kd.N_lit_step (Kd.slice 3 (Kd.int .i64)) _ 26 ?hg (N' := 51) ?hd (xs := ([t409] : List (List Int))) (inner := [.slice Ao53 t409.length co53]) (ok := (fun k_ => (w.heap.size ≤ k_) ∧ some k_ ≠ (.slice Ao55 x8_3.length co55 : Value).ownBlock ∧ some k_ ≠ (.slice Ao39 t403.length co39 : Value).ownBlock ∧ some k_ ≠ (.slice Ao54 x401000_2.length co54 : Value).ownBlock ∧ some k_ ≠ (.slice Ao56 x401001_2.length co56 : Value).ownBlock ∧ k_ ≠ gb398 ∧ k_ ≠ gb399 ∧ k_ ≠ gb400)) (okp := (fun k_ => (w.heap.size ≤ k_) ∧ some k_ ≠ (.slice Ao55 x8_3.length co55 : Value).ownBlock ∧ some k_ ≠ (.slice Ao39 t403.length co39 : Value).ownBlock ∧ some k_ ≠ (.slice Ao54 x401000_2.length co54 : Value).ownBlock ∧ some k_ ≠ (.slice Ao56 x401001_2.length co56 : Value).ownBlock ∧ k_ ≠ gb398 ∧ k_ ≠ gb399 ∧ k_ ≠ gb400)) ?hr ?hp (fun _ hk => hk) ((show ∀ k_,w57.heap.size ≤ k_ → (fun k_ => (w.heap.size ≤ k_) ∧ some k_ ≠ (.slice Ao55 x8_3.length co55 : Value).ownBlock ∧ some k_ ≠ (.slice Ao39 t403.length co39 : Value).ownBlock ∧ some k_ ≠ (.slice Ao54 x401000_2.length co54 : Value).ownBlock ∧ some k_ ≠ (.slice Ao56 x401001_2.length co56 : Value).ownBlock ∧ k_ ≠ gb398 ∧ k_ ≠ gb399 ∧ k_ ≠ gb400) k_ from fun k_ hk => ⟨(Nat.le_trans (below_size Z261) hk),Kd.fresh' (Kd.R_lt Z310) k_ hk,Kd.fresh' (Kd.R_lt Z301) k_ hk,Kd.fresh' (Kd.N_lt Z174) k_ hk,Kd.fresh' (Kd.N_lt Z292) k_ hk,Kd.freshB (g := gb398) (o := .cells #[.slice A0_0 l0_0.length c0_0,.string a0_1,.slice A0_2 l0_2.length c0_2,.slice A0_3 l0_3.length c0_3] 28 (0,0)) Z317 k_ hk,Kd.freshB (g := gb399) (o := .cells #[.slice none 0 0,.slice none 0 0] 32 (0,0)) Z318 k_ hk,Kd.freshB (g := gb400) (o := .cells #[.slice Ao54 x401000_2.length co54,.slice Ao56 x401001_2.length co56] 32 (0,0)) Z319 k_ hk⟩) _ (Nat.le_refl _)) (Below.refl _ _) (Nat.le_refl _) Z332 ?_;(case hd => rfl);(case hg => rfl);(case hr => exact Z231);(case hp => exact (Reps.one (show Kd.FK (Kd.slice 3 (Kd.int .i64)) _ _ t409 [.slice Ao53 t409.length co53] from (Kd.FK_slice_mk (Kd.R_reads' (Kd.R_mono (ok' := (fun k_ => (w.heap.size ≤ k_) ∧ some k_ ≠ (.slice Ao55 x8_3.length co55 : Value).ownBlock ∧ some k_ ≠ (.slice Ao39 t403.length co39 : Value).ownBlock ∧ some k_ ≠ (.slice Ao54 x401000_2.length co54 : Value).ownBlock ∧ some k_ ≠ (.slice Ao56 x401001_2.length co56 : Value).ownBlock ∧ k_ ≠ gb398 ∧ k_ ≠ gb399 ∧ k_ ≠ gb400)) (Kd.R_types (Kd.R_types (Kd.R_types (Kd.R_apart' (Kd.R_apart' (HO_9.out) (Kd.N_typed HO_401000.out) Z330) (Kd.N_typed HO_401001.out) Z330) BK398.out Z330) BK399.out Z330) BK400.out Z330) (fun k_ hk => ⟨hk.1.1.1.1.1.1,⟨hk.1.1.1.1.1.2.1,⟨hk.1.1.1.1.1.2.2,⟨hk.1.1.1.1.2,⟨hk.1.1.1.2,⟨hk.1.1.2,⟨hk.1.2,hk.2⟩⟩⟩⟩⟩⟩⟩))).2.1 (Kd.R_F (Kd.R_mono (ok' := (fun k_ => (w.heap.size ≤ k_) ∧ some k_ ≠ (.slice Ao55 x8_3.length co55 : Value).ownBlock ∧ some k_ ≠ (.slice Ao39 t403.length co39 : Value).ownBlock ∧ some k_ ≠ (.slice Ao54 x401000_2.length co54 : Value).ownBlock ∧ some k_ ≠ (.slice Ao56 x401001_2.length co56 : Value).ownBlock ∧ k_ ≠ gb398 ∧ k_ ≠ gb399 ∧ k_ ≠ gb400)) (Kd.R_types (Kd.R_types (Kd.R_types (Kd.R_apart' (Kd.R_apart' (HO_9.out) (Kd.N_typed HO_401000.out) Z330) (Kd.N_typed HO_401001.out) Z330) BK398.out Z330) BK399.out Z330) BK400.out Z330) (fun k_ hk => ⟨hk.1.1.1.1.1.1,⟨hk.1.1.1.1.1.2.1,⟨hk.1.1.1.1.1.2.2,⟨hk.1.1.1.1.2,⟨hk.1.1.1.2,⟨hk.1.1.2,⟨hk.1.2,hk.2⟩⟩⟩⟩⟩⟩⟩))))) (Reps.none _ _)))
         intro v421 w58 ho59 hb hg_ hnew_
         clear hg_ hnew_
         (first | rw [← Ny420.out] at ho59 | (simp only [Int.reduceToNat] at ho59;rw [← Ny420.out] at ho59))
         have n_ := jA (Kd.R_below Z310 hb) (jA (Kd.R_below Z301 hb) (jA (Kd.N_elder' Z174 (Kd.N_base ho59) hb) (jA (Kd.N_elder' Z292 (Kd.N_base ho59) hb) (jA (Kd.N_lower ho59 (below_size Z261)) (jA (blk_below (g := gb398) (o := .cells #[.slice A0_0 l0_0.length c0_0,.string a0_1,.slice A0_2 l0_2.length c0_2,.slice A0_3 l0_3.length c0_3] 28 (0,0)) Z317 hb) (jA (blk_below (g := gb399) (o := .cells #[.slice none 0 0,.slice none 0 0] 32 (0,0)) Z318 hb) (jA (blk_below (g := gb400) (o := .cells #[.slice Ao54 x401000_2.length co54,.slice Ao56 x401001_2.length co56] 32 (0,0)) Z319 hb) (Aside0.mk (below_step Z261 hb)))))))))
         clear HO_8 HO_35 HO_401000 HO_401001 BK398 BK399 BK400 HB HO_9
         obtain ⟨HO_8,HO_35,HO_401000,HO_401001,HO422,BK398,BK399,BK400,HB⟩ := n_
         clear hb ho59
         obtain ⟨Ao61,co61,eo61⟩ := Kd.N_slice HO422.out
         (first | subst eo61 | (injection eo61 with f1_ f2_ f3_;have f4_ := f1_.symm;have f5_ := f3_.symm;clear f1_ f2_ f3_;subst f4_;subst f5_))
         refine hK.out _ _ ⟨bc BK400 0,bc BK400 1⟩ (fun hHeld => ?_)
         clear hK K
         refine rN (h := ?_)
         refine two_ (i := 4) (j := 8) (Ni := some 52) (Nj := some 56) (qM 14 255) (qM 14 495) rfl rfl rfl rfl (two_of HT_.out Z256) Z330 Z330 (fun K hK => ?_) (fun K hK => ?_)
         ·skip
          refine Kd.N_append_rows_step (Kd.slice 3 (Kd.int .i64)) (w0 := w) w.heap.size Z257 (.tmp 49) (.tmp 51) 25 26 (.slice none 0 0) 24 rfl Try.underlying25 info26 rfl Z330 Z331 (.slice Ao54 x401000_2.length co54) x401000_2 y420 _ _ _ (fun k_ => (w.heap.size ≤ k_) ∧ some k_ ≠ (.slice Ao55 x8_3.length co55 : Value).ownBlock ∧ some k_ ≠ (.slice Ao39 t403.length co39 : Value).ownBlock ∧ some k_ ≠ (.slice Ao56 x401001_2.length co56 : Value).ownBlock ∧ k_ ≠ gb398 ∧ k_ ≠ gb399 ∧ k_ ≠ gb400) (fun k_ => ((fun k_ => (w.heap.size ≤ k_) ∧ some k_ ≠ (.slice Ao55 x8_3.length co55 : Value).ownBlock ∧ some k_ ≠ (.slice Ao39 t403.length co39 : Value).ownBlock ∧ some k_ ≠ (.slice Ao56 x401001_2.length co56 : Value).ownBlock ∧ k_ ≠ gb398 ∧ k_ ≠ gb399 ∧ k_ ≠ gb400)) k_ ∧ some k_ ≠ (.slice Ao54 x401000_2.length co54 : Value).ownBlock) rfl rfl ?aO ?aR (fun _ hk => hk) ?aF ?aB ?aS ?aL ?_
          (case aR => exact (by skip;exact Kd.N_F (Kd.N_mono (ok' := (fun k_ => ((fun k_ => (w.heap.size ≤ k_) ∧ some k_ ≠ (.slice Ao55 x8_3.length co55 : Value).ownBlock ∧ some k_ ≠ (.slice Ao39 t403.length co39 : Value).ownBlock ∧ some k_ ≠ (.slice Ao56 x401001_2.length co56 : Value).ownBlock ∧ k_ ≠ gb398 ∧ k_ ≠ gb399 ∧ k_ ≠ gb400)) k_ ∧ some k_ ≠ (.slice Ao54 x401000_2.length co54 : Value).ownBlock)) (HO422.out) (fun k_ hk => ⟨⟨hk.1,⟨hk.2.1,⟨hk.2.2.1,⟨hk.2.2.2.2.1,⟨hk.2.2.2.2.2.1,⟨hk.2.2.2.2.2.2.1,hk.2.2.2.2.2.2.2⟩⟩⟩⟩⟩⟩,hk.2.2.2.1⟩))))
          (case aB => exact Z67)
          (case aF => exact (fun k_ hk => ⟨(Nat.le_trans (below_size Z261) hk),Kd.fresh' (Kd.R_lt Z310) k_ hk,Kd.fresh' (Kd.R_lt Z301) k_ hk,Kd.fresh' (Kd.N_lt Z292) k_ hk,Kd.freshB (g := gb398) (o := .cells #[.slice A0_0 l0_0.length c0_0,.string a0_1,.slice A0_2 l0_2.length c0_2,.slice A0_3 l0_3.length c0_3] 28 (0,0)) Z317 k_ hk,Kd.freshB (g := gb399) (o := .cells #[.slice none 0 0,.slice none 0 0] 32 (0,0)) Z318 k_ hk,Kd.freshB (g := gb400) (o := .cells #[.slice Ao54 x401000_2.length co54,.slice Ao56 x401001_2.length co56] 32 (0,0)) Z319 k_ hk⟩))
          (case aO => exact (by (with_reducible repeat (first | apply Kd.N_alloc | apply Kd.N_drewN | apply Kd.N_drew));exact Kd.N_mono HO_401000.out (fun _ hk => ⟨hk.1.1,⟨hk.1.2.1,⟨hk.1.2.2.2.1,⟨hk.1.2.2.2.2.1,⟨hk.1.2.2.2.2.2.1,⟨hk.1.2.2.2.2.2.2.1,hk.1.2.2.2.2.2.2.2⟩⟩⟩⟩⟩⟩)))
          (case aS => exact Z62)
          (case aL => have := LMc51.out;omega)
          intro v424 w60 ho hb hg hat
          rw [← Ny423.out] at ho
          have n_ := jA (Kd.R_over' Z310 (Kd.N_typed Z174) Z330 hg) (jA (Kd.R_over' Z301 (Kd.N_typed Z174) Z330 hg) (jA (Kd.N_afterv (ok := (fun k_ => (w.heap.size ≤ k_) ∧ some k_ ≠ (.slice Ao55 x8_3.length co55 : Value).ownBlock ∧ some k_ ≠ (.slice Ao39 t403.length co39 : Value).ownBlock ∧ some k_ ≠ (.slice Ao61 y420.length co61 : Value).ownBlock ∧ k_ ≠ gb398 ∧ k_ ≠ gb399 ∧ k_ ≠ gb400)) (by (with_reducible repeat (first | apply Kd.N_alloc | apply Kd.N_drewN | apply Kd.N_drew));exact Kd.N_mono HO_401001.out (fun _ hk => ⟨⟨hk.1.1,⟨hk.1.2.1,⟨hk.1.2.2.2.1,⟨hk.2,⟨hk.1.2.2.2.2.2.1,⟨hk.1.2.2.2.2.2.2.1,hk.1.2.2.2.2.2.2.2⟩⟩⟩⟩⟩⟩,hk.1.2.2.2.2.1⟩)) hg hat) (jA (blk_grown (g := gb398) (o := .cells #[.slice A0_0 l0_0.length c0_0,.string a0_1,.slice A0_2 l0_2.length c0_2,.slice A0_3 l0_3.length c0_3] 28 (0,0)) Z317 hg (Kd.N_ne HO_401000.out BK398.out Z330)) (jA (blk_grown (g := gb399) (o := .cells #[.slice none 0 0,.slice none 0 0] 32 (0,0)) Z318 hg (Kd.N_ne HO_401000.out BK399.out Z330)) (jA (blk_grown (g := gb400) (o := .cells #[.slice Ao54 x401000_2.length co54,.slice Ao56 x401001_2.length co56] 32 (0,0)) Z319 hg (Kd.N_ne HO_401000.out BK400.out Z330)) (jA (Kd.N_afterv (ok := (fun k_ => (w.heap.size ≤ k_) ∧ some k_ ≠ (.slice Ao55 x8_3.length co55 : Value).ownBlock ∧ some k_ ≠ (.slice Ao39 t403.length co39 : Value).ownBlock ∧ some k_ ≠ (.slice Ao56 x401001_2.length co56 : Value).ownBlock ∧ k_ ≠ gb398 ∧ k_ ≠ gb399 ∧ k_ ≠ gb400)) (by (with_reducible repeat (first | apply Kd.N_alloc | apply Kd.N_drewN | apply Kd.N_drew));exact Kd.N_mono HO422.out (fun _ hk => ⟨⟨hk.1,⟨hk.2.1,⟨hk.2.2.1,⟨hk.2.2.2.2.1,⟨hk.2.2.2.2.2.1,⟨hk.2.2.2.2.2.2.1,hk.2.2.2.2.2.2.2⟩⟩⟩⟩⟩⟩,hk.2.2.2.1⟩)) hg hat) (jA (hb) (Aside0.mk (ho)))))))))
          clear HO_8 HO_35 HO_401001 BK398 BK399 BK400 HO422 HB HO_401000
          obtain ⟨HO_8,HO_35,HO_401001,BK398,BK399,BK400,HO422,HB,HO425⟩ := n_
          clear ho hb hg hat
          refine hK.out _ _ ⟨bc BK400 0,bc BK400 1⟩ (fun hHeld => ?_)
          clear hK K
          refine rN (h := ?_)
          refine rP 10 58 14 1279 HT_ (h := ?_)
          refine rO 8 56 14 1535 HT_ (h := fun K hK => ?_)
          refine Kd.N_lit_step (Kd.slice 3 (Kd.int .i64)) _ 26 ?hg (N' := 56) ?hd (xs := ([x8_3] : List (List Int))) (inner := [.slice Ao55 x8_3.length co55]) (ok := (fun k_ => (w.heap.size ≤ k_) ∧ some k_ ≠ (.slice Ao39 t403.length co39 : Value).ownBlock ∧ some k_ ≠ (.slice Ao56 x401001_2.length co56 : Value).ownBlock ∧ some k_ ≠ (.slice Ao61 y420.length co61 : Value).ownBlock ∧ some k_ ≠ (v424 : Value).ownBlock ∧ k_ ≠ gb398 ∧ k_ ≠ gb399 ∧ k_ ≠ gb400)) (okp := (fun k_ => (w.heap.size ≤ k_) ∧ some k_ ≠ (.slice Ao39 t403.length co39 : Value).ownBlock ∧ some k_ ≠ (.slice Ao56 x401001_2.length co56 : Value).ownBlock ∧ some k_ ≠ (.slice Ao61 y420.length co61 : Value).ownBlock ∧ some k_ ≠ (v424 : Value).ownBlock ∧ k_ ≠ gb398 ∧ k_ ≠ gb399 ∧ k_ ≠ gb400)) ?hr ?hp (fun _ hk => hk) ((show ∀ k_,w60.heap.size ≤ k_ → (fun k_ => (w.heap.size ≤ k_) ∧ some k_ ≠ (.slice Ao39 t403.length co39 : Value).ownBlock ∧ some k_ ≠ (.slice Ao56 x401001_2.length co56 : Value).ownBlock ∧ some k_ ≠ (.slice Ao61 y420.length co61 : Value).ownBlock ∧ some k_ ≠ (v424 : Value).ownBlock ∧ k_ ≠ gb398 ∧ k_ ≠ gb399 ∧ k_ ≠ gb400) k_ from fun k_ hk => ⟨(Nat.le_trans (below_size Z261) hk),Kd.fresh' (Kd.R_lt Z301) k_ hk,Kd.fresh' (Kd.N_lt Z292) k_ hk,Kd.fresh' (Kd.N_lt Z188) k_ hk,Kd.fresh' (Kd.N_lt Z194) k_ hk,Kd.freshB (g := gb398) (o := .cells #[.slice A0_0 l0_0.length c0_0,.string a0_1,.slice A0_2 l0_2.length c0_2,.slice A0_3 l0_3.length c0_3] 28 (0,0)) Z317 k_ hk,Kd.freshB (g := gb399) (o := .cells #[.slice none 0 0,.slice none 0 0] 32 (0,0)) Z318 k_ hk,Kd.freshB (g := gb400) (o := .cells #[.slice Ao54 x401000_2.length co54,.slice Ao56 x401001_2.length co56] 32 (0,0)) Z319 k_ hk⟩) _ (Nat.le_refl _)) (Below.refl _ _) (Nat.le_refl _) Z332 ?_;(case hd => rfl);(case hg => rfl);(case hr => exact Z231);(case hp => exact (Reps.one (show Kd.FK (Kd.slice 3 (Kd.int .i64)) _ _ x8_3 [.slice Ao55 x8_3.length co55] from (Kd.FK_slice_mk (Kd.R_reads' (Kd.R_mono (ok' := (fun k_ => (w.heap.size ≤ k_) ∧ some k_ ≠ (.slice Ao39 t403.length co39 : Value).ownBlock ∧ some k_ ≠ (.slice Ao56 x401001_2.length co56 : Value).ownBlock ∧ some k_ ≠ (.slice Ao61 y420.length co61 : Value).ownBlock ∧ some k_ ≠ (v424 : Value).ownBlock ∧ k_ ≠ gb398 ∧ k_ ≠ gb399 ∧ k_ ≠ gb400)) (Kd.R_types (Kd.R_types (Kd.R_types (Kd.R_apart' (Kd.R_apart' (Kd.R_apart' (HO_8.out) (Kd.N_typed HO_401001.out) Z330) (Kd.N_typed HO422.out) Z330) (Kd.N_typed HO425.out) Z330) BK398.out Z330) BK399.out Z330) BK400.out Z330) (fun k_ hk => ⟨hk.1.1.1.1.1.1.1,⟨hk.1.1.1.1.1.1.2.2,⟨hk.1.1.1.1.1.2,⟨hk.1.1.1.1.2,⟨hk.1.1.1.2,⟨hk.1.1.2,⟨hk.1.2,hk.2⟩⟩⟩⟩⟩⟩⟩))).2.1 (Kd.R_F (Kd.R_mono (ok' := (fun k_ => (w.heap.size ≤ k_) ∧ some k_ ≠ (.slice Ao39 t403.length co39 : Value).ownBlock ∧ some k_ ≠ (.slice Ao56 x401001_2.length co56 : Value).ownBlock ∧ some k_ ≠ (.slice Ao61 y420.length co61 : Value).ownBlock ∧ some k_ ≠ (v424 : Value).ownBlock ∧ k_ ≠ gb398 ∧ k_ ≠ gb399 ∧ k_ ≠ gb400)) (Kd.R_types (Kd.R_types (Kd.R_types (Kd.R_apart' (Kd.R_apart' (Kd.R_apart' (HO_8.out) (Kd.N_typed HO_401001.out) Z330) (Kd.N_typed HO422.out) Z330) (Kd.N_typed HO425.out) Z330) BK398.out Z330) BK399.out Z330) BK400.out Z330) (fun k_ hk => ⟨hk.1.1.1.1.1.1.1,⟨hk.1.1.1.1.1.1.2.2,⟨hk.1.1.1.1.1.2,⟨hk.1.1.1.1.2,⟨hk.1.1.1.2,⟨hk.1.1.2,⟨hk.1.2,hk.2⟩⟩⟩⟩⟩⟩⟩))))) (Reps.none _ _)))
          intro v427 w62 ho63 hb hg_ hnew_
          clear hg_ hnew_
          (first | rw [← Ny426.out] at ho63 | (simp only [Int.reduceToNat] at ho63;rw [← Ny426.out] at ho63))
          have n_ := jA (Kd.R_below Z301 hb) (jA (Kd.N_elder' Z292 (Kd.N_base ho63) hb) (jA (Kd.N_elder' Z188 (Kd.N_base ho63) hb) (jA (Kd.N_elder' Z194 (Kd.N_base ho63) hb) (jA (Kd.N_lower ho63 (below_size Z261)) (jA (blk_below (g := gb398) (o := .cells #[.slice A0_0 l0_0.length c0_0,.string a0_1,.slice A0_2 l0_2.length c0_2,.slice A0_3 l0_3.length c0_3] 28 (0,0)) Z317 hb) (jA (blk_below (g := gb399) (o := .cells #[.slice none 0 0,.slice none 0 0] 32 (0,0)) Z318 hb) (jA (blk_below (g := gb400) (o := .cells #[.slice Ao54 x401000_2.length co54,.slice Ao56 x401001_2.length co56] 32 (0,0)) Z319 hb) (Aside0.mk (below_step Z261 hb)))))))))
          clear HO_35 HO_401001 HO422 HO425 BK398 BK399 BK400 HB HO_8
          obtain ⟨HO_35,HO_401001,HO422,HO425,HO428,BK398,BK399,BK400,HB⟩ := n_
          clear hb ho63
          refine hK.out _ _ ⟨bc BK400 0,bc BK400 1⟩ (fun hHeld => ?_)
          clear hK K
          refine rN (h := ?_)
          exact norm_ Z213 (hCont (.slice Ao61 y420.length co61,v424,v427) _ ⟨hHeld,(by (with_reducible repeat (first | apply Kd.N_alloc | apply Kd.N_drewN | apply Kd.N_drew));exact Kd.N_mono HO422.out (fun _ hk => ⟨hk.1.1.1,⟨hk.1.2,⟨hk.2,⟨hk.1.1.2.2.1,⟨hk.1.1.2.2.2.1,⟨hk.1.1.2.2.2.2.1,⟨hk.1.1.2.2.2.2.2.1,hk.1.1.2.2.2.2.2.2⟩⟩⟩⟩⟩⟩⟩)),(by (with_reducible repeat (first | apply Kd.N_alloc | apply Kd.N_drewN | apply Kd.N_drew));exact Kd.N_mono HO425.out (fun _ hk => ⟨hk.1.1,⟨hk.2,⟨hk.1.2.2.1,⟨hk.1.2.2.2.1,⟨hk.1.2.2.2.2.1,⟨hk.1.2.2.2.2.2.1,hk.1.2.2.2.2.2.2⟩⟩⟩⟩⟩⟩)),(by (with_reducible repeat (first | apply Kd.N_alloc | apply Kd.N_drewN | apply Kd.N_drew));exact Kd.N_mono HO428.out (fun _ hk => ⟨hk.1,⟨hk.2.2.2.1,⟨hk.2.2.2.2.1,⟨hk.2.1,⟨hk.2.2.1,⟨hk.2.2.2.2.2.1,⟨hk.2.2.2.2.2.2.1,hk.2.2.2.2.2.2.2⟩⟩⟩⟩⟩⟩⟩)),Z162,(by (with_reducible repeat (first | apply Kd.N_alloc | apply Kd.N_drewN | apply Kd.N_drew));exact Kd.N_mono HO_401001.out (fun _ hk => ⟨hk.1.1.1,⟨hk.1.1.2.2.2.1,⟨hk.1.2,⟨hk.2,⟨hk.1.1.2.2.1,⟨hk.1.1.2.2.2.2.1,⟨hk.1.1.2.2.2.2.2.1,hk.1.1.2.2.2.2.2.2⟩⟩⟩⟩⟩⟩⟩)),Z317,Z318,Z319,Z261⟩)
         skip
         refine Kd.N_lit_step (Kd.slice 3 (Kd.int .i64)) _ 26 ?hg (N' := 56) ?hd (xs := ([x8_3] : List (List Int))) (inner := [.slice Ao55 x8_3.length co55]) (ok := (fun k_ => (w.heap.size ≤ k_) ∧ some k_ ≠ (.slice Ao39 t403.length co39 : Value).ownBlock ∧ some k_ ≠ (.slice Ao54 x401000_2.length co54 : Value).ownBlock ∧ some k_ ≠ (.slice Ao56 x401001_2.length co56 : Value).ownBlock ∧ some k_ ≠ (.slice Ao61 y420.length co61 : Value).ownBlock ∧ k_ ≠ gb398 ∧ k_ ≠ gb399 ∧ k_ ≠ gb400)) (okp := (fun k_ => (w.heap.size ≤ k_) ∧ some k_ ≠ (.slice Ao39 t403.length co39 : Value).ownBlock ∧ some k_ ≠ (.slice Ao54 x401000_2.length co54 : Value).ownBlock ∧ some k_ ≠ (.slice Ao56 x401001_2.length co56 : Value).ownBlock ∧ some k_ ≠ (.slice Ao61 y420.length co61 : Value).ownBlock ∧ k_ ≠ gb398 ∧ k_ ≠ gb399 ∧ k_ ≠ gb400)) ?hr ?hp (fun _ hk => hk) ((show ∀ k_,w58.heap.size ≤ k_ → (fun k_ => (w.heap.size ≤ k_) ∧ some k_ ≠ (.slice Ao39 t403.length co39 : Value).ownBlock ∧ some k_ ≠ (.slice Ao54 x401000_2.length co54 : Value).ownBlock ∧ some k_ ≠ (.slice Ao56 x401001_2.length co56 : Value).ownBlock ∧ some k_ ≠ (.slice Ao61 y420.length co61 : Value).ownBlock ∧ k_ ≠ gb398 ∧ k_ ≠ gb399 ∧ k_ ≠ gb400) k_ from fun k_ hk => ⟨(Nat.le_trans (below_size Z261) hk),Kd.fresh' (Kd.R_lt Z301) k_ hk,Kd.fresh' (Kd.N_lt Z174) k_ hk,Kd.fresh' (Kd.N_lt Z292) k_ hk,Kd.fresh' (Kd.N_lt Z188) k_ hk,Kd.freshB (g := gb398) (o := .cells #[.slice A0_0 l0_0.length c0_0,.string a0_1,.slice A0_2 l0_2.length c0_2,.slice A0_3 l0_3.length c0_3] 28 (0,0)) Z317 k_ hk,Kd.freshB (g := gb399) (o := .cells #[.slice none 0 0,.slice none 0 0] 32 (0,0)) Z318 k_ hk,Kd.freshB (g := gb400) (o := .cells #[.slice Ao54 x401000_2.length co54,.slice Ao56 x401001_2.length co56] 32 (0,0)) Z319 k_ hk⟩) _ (Nat.le_refl _)) (Below.refl _ _) (Nat.le_refl _) Z332 ?_;(case hd => rfl);(case hg => rfl);(case hr => exact Z231);(case hp => exact (Reps.one (show Kd.FK (Kd.slice 3 (Kd.int .i64)) _ _ x8_3 [.slice Ao55 x8_3.length co55] from (Kd.FK_slice_mk (Kd.R_reads' (Kd.R_mono (ok' := (fun k_ => (w.heap.size ≤ k_) ∧ some k_ ≠ (.slice Ao39 t403.length co39 : Value).ownBlock ∧ some k_ ≠ (.slice Ao54 x401000_2.length co54 : Value).ownBlock ∧ some k_ ≠ (.slice Ao56 x401001_2.length co56 : Value).ownBlock ∧ some k_ ≠ (.slice Ao61 y420.length co61 : Value).ownBlock ∧ k_ ≠ gb398 ∧ k_ ≠ gb399 ∧ k_ ≠ gb400)) (Kd.R_types (Kd.R_types (Kd.R_types (Kd.R_apart' (Kd.R_apart' (Kd.R_apart' (HO_8.out) (Kd.N_typed HO_401000.out) Z330) (Kd.N_typed HO_401001.out) Z330) (Kd.N_typed HO422.out) Z330) BK398.out Z330) BK399.out Z330) BK400.out Z330) (fun k_ hk => ⟨hk.1.1.1.1.1.1.1,⟨hk.1.1.1.1.1.1.2.2,⟨hk.1.1.1.1.1.2,⟨hk.1.1.1.1.2,⟨hk.1.1.1.2,⟨hk.1.1.2,⟨hk.1.2,hk.2⟩⟩⟩⟩⟩⟩⟩))).2.1 (Kd.R_F (Kd.R_mono (ok' := (fun k_ => (w.heap.size ≤ k_) ∧ some k_ ≠ (.slice Ao39 t403.length co39 : Value).ownBlock ∧ some k_ ≠ (.slice Ao54 x401000_2.length co54 : Value).ownBlock ∧ some k_ ≠ (.slice Ao56 x401001_2.length co56 : Value).ownBlock ∧ some k_ ≠ (.slice Ao61 y420.length co61 : Value).ownBlock ∧ k_ ≠ gb398 ∧ k_ ≠ gb399 ∧ k_ ≠ gb400)) (Kd.R_types (Kd.R_types (Kd.R_types (Kd.R_apart' (Kd.R_apart' (Kd.R_apart' (HO_8.out) (Kd.N_typed HO_401000.out) Z330) (Kd.N_typed HO_401001.out) Z330) (Kd.N_typed HO422.out) Z330) BK398.out Z330) BK399.out Z330) BK400.out Z330) (fun k_ hk => ⟨hk.1.1.1.1.1.1.1,⟨hk.1.1.1.1.1.1.2.2,⟨hk.1.1.1.1.1.2,⟨hk.1.1.1.1.2,⟨hk.1.1.1.2,⟨hk.1.1.2,⟨hk.1.2,hk.2⟩⟩⟩⟩⟩⟩⟩))))) (Reps.none _ _)))
         intro v427 w60 ho61 hb hg_ hnew_
         clear hg_ hnew_
         (first | rw [← Ny426.out] at ho61 | (simp only [Int.reduceToNat] at ho61;rw [← Ny426.out] at ho61))
         have n_ := jA (Kd.R_below Z301 hb) (jA (Kd.N_elder' Z174 (Kd.N_base ho61) hb) (jA (Kd.N_elder' Z292 (Kd.N_base ho61) hb) (jA (Kd.N_elder' Z188 (Kd.N_base ho61) hb) (jA (Kd.N_lower ho61 (below_size Z261)) (jA (blk_below (g := gb398) (o := .cells #[.slice A0_0 l0_0.length c0_0,.string a0_1,.slice A0_2 l0_2.length c0_2,.slice A0_3 l0_3.length c0_3] 28 (0,0)) Z317 hb) (jA (blk_below (g := gb399) (o := .cells #[.slice none 0 0,.slice none 0 0] 32 (0,0)) Z318 hb) (jA (blk_below (g := gb400) (o := .cells #[.slice Ao54 x401000_2.length co54,.slice Ao56 x401001_2.length co56] 32 (0,0)) Z319 hb) (Aside0.mk (below_step Z261 hb)))))))))
         clear HO_35 HO_401000 HO_401001 HO422 BK398 BK399 BK400 HB HO_8
         obtain ⟨HO_35,HO_401000,HO_401001,HO422,HO428,BK398,BK399,BK400,HB⟩ := n_
         clear hb ho61
         obtain ⟨Ao63,co63,eo63⟩ := Kd.N_slice HO422.out
         (first | subst eo63 | (injection eo63 with f1_ f2_ f3_;have f4_ := f1_.symm;have f5_ := f3_.symm;clear f1_ f2_ f3_;subst f4_;subst f5_))
         refine hK.out _ _ ⟨bc BK400 0,bc BK400 1⟩ (fun hHeld => ?_)
         clear hK K
         refine rN (h := ?_)
         refine rO 4 52 14 511 HT_ (h := fun K hK => ?_)
         refine Kd.N_append_rows_step (Kd.slice 3 (Kd.int .i64)) (w0 := w) w.heap.size Z257 (.tmp 49) (.tmp 51) 25 26 (.slice none 0 0) 24 rfl Try.underlying25 info26 rfl Z330 Z331 (.slice Ao54 x401000_2.length co54) x401000_2 y420 _ _ _ (fun k_ => (w.heap.size ≤ k_) ∧ some k_ ≠ (.slice Ao39 t403.length co39 : Value).ownBlock ∧ some k_ ≠ (.slice Ao56 x401001_2.length co56 : Value).ownBlock ∧ some k_ ≠ (v427 : Value).ownBlock ∧ k_ ≠ gb398 ∧ k_ ≠ gb399 ∧ k_ ≠ gb400) (fun k_ => ((fun k_ => (w.heap.size ≤ k_) ∧ some k_ ≠ (.slice Ao39 t403.length co39 : Value).ownBlock ∧ some k_ ≠ (.slice Ao56 x401001_2.length co56 : Value).ownBlock ∧ some k_ ≠ (v427 : Value).ownBlock ∧ k_ ≠ gb398 ∧ k_ ≠ gb399 ∧ k_ ≠ gb400)) k_ ∧ some k_ ≠ (.slice Ao54 x401000_2.length co54 : Value).ownBlock) rfl rfl ?aO ?aR (fun _ hk => hk) ?aF ?aB ?aS ?aL ?_
         (case aR => exact (by skip;exact Kd.N_F (Kd.N_mono (ok' := (fun k_ => ((fun k_ => (w.heap.size ≤ k_) ∧ some k_ ≠ (.slice Ao39 t403.length co39 : Value).ownBlock ∧ some k_ ≠ (.slice Ao56 x401001_2.length co56 : Value).ownBlock ∧ some k_ ≠ (v427 : Value).ownBlock ∧ k_ ≠ gb398 ∧ k_ ≠ gb399 ∧ k_ ≠ gb400)) k_ ∧ some k_ ≠ (.slice Ao54 x401000_2.length co54 : Value).ownBlock)) (HO422.out) (fun k_ hk => ⟨⟨hk.1.1,⟨hk.1.2.2.1,⟨hk.1.2.2.2.2.1,⟨hk.2,⟨hk.1.2.2.2.2.2.1,⟨hk.1.2.2.2.2.2.2.1,hk.1.2.2.2.2.2.2.2⟩⟩⟩⟩⟩⟩,hk.1.2.2.2.1⟩))))
         (case aB => exact Z67)
         (case aF => exact Y8)
         (case aO => exact (by (with_reducible repeat (first | apply Kd.N_alloc | apply Kd.N_drewN | apply Kd.N_drew));exact Kd.N_mono HO_401000.out (fun _ hk => ⟨hk.1.1.1,⟨hk.1.1.2.2.2.1,⟨hk.1.1.2.2.2.2.1,⟨hk.2,⟨hk.1.1.2.2.2.2.2.1,⟨hk.1.1.2.2.2.2.2.2.1,hk.1.1.2.2.2.2.2.2.2⟩⟩⟩⟩⟩⟩)))
         (case aS => exact Z62)
         (case aL => have := LMc51.out;omega)
         intro v424 w62 ho hb hg hat
         rw [← Ny423.out] at ho
         have n_ := jA (Kd.R_over' Z301 (Kd.N_typed Z174) Z330 hg) (jA (Kd.N_afterv (ok := (fun k_ => (w.heap.size ≤ k_) ∧ some k_ ≠ (.slice Ao39 t403.length co39 : Value).ownBlock ∧ some k_ ≠ (.slice Ao63 y420.length co63 : Value).ownBlock ∧ some k_ ≠ (v427 : Value).ownBlock ∧ k_ ≠ gb398 ∧ k_ ≠ gb399 ∧ k_ ≠ gb400)) Z48 hg hat) (jA (blk_grown (g := gb398) (o := .cells #[.slice A0_0 l0_0.length c0_0,.string a0_1,.slice A0_2 l0_2.length c0_2,.slice A0_3 l0_3.length c0_3] 28 (0,0)) Z317 hg (Kd.N_ne HO_401000.out BK398.out Z330)) (jA (blk_grown (g := gb399) (o := .cells #[.slice none 0 0,.slice none 0 0] 32 (0,0)) Z318 hg (Kd.N_ne HO_401000.out BK399.out Z330)) (jA (blk_grown (g := gb400) (o := .cells #[.slice Ao54 x401000_2.length co54,.slice Ao56 x401001_2.length co56] 32 (0,0)) Z319 hg (Kd.N_ne HO_401000.out BK400.out Z330)) (jA (Kd.N_afterv (ok := (fun k_ => (w.heap.size ≤ k_) ∧ some k_ ≠ (.slice Ao39 t403.length co39 : Value).ownBlock ∧ some k_ ≠ (.slice Ao56 x401001_2.length co56 : Value).ownBlock ∧ some k_ ≠ (v427 : Value).ownBlock ∧ k_ ≠ gb398 ∧ k_ ≠ gb399 ∧ k_ ≠ gb400)) (by (with_reducible repeat (first | apply Kd.N_alloc | apply Kd.N_drewN | apply Kd.N_drew));exact Kd.N_mono HO422.out (fun _ hk => ⟨⟨hk.1.1,⟨hk.1.2.2.1,⟨hk.1.2.2.2.2.1,⟨hk.2,⟨hk.1.2.2.2.2.2.1,⟨hk.1.2.2.2.2.2.2.1,hk.1.2.2.2.2.2.2.2⟩⟩⟩⟩⟩⟩,hk.1.2.2.2.1⟩)) hg hat) (jA (Kd.N_afterv (ok := (fun k_ => (w.heap.size ≤ k_) ∧ some k_ ≠ (.slice Ao39 t403.length co39 : Value).ownBlock ∧ some k_ ≠ (.slice Ao56 x401001_2.length co56 : Value).ownBlock ∧ some k_ ≠ (.slice Ao63 y420.length co63 : Value).ownBlock ∧ k_ ≠ gb398 ∧ k_ ≠ gb399 ∧ k_ ≠ gb400)) (by (with_reducible repeat (first | apply Kd.N_alloc | apply Kd.N_drewN | apply Kd.N_drew));exact Kd.N_mono HO428.out (fun _ hk => ⟨⟨hk.1,⟨hk.2.1,⟨hk.2.2.2.1,⟨hk.2.2.2.2.1,⟨hk.2.2.2.2.2.1,⟨hk.2.2.2.2.2.2.1,hk.2.2.2.2.2.2.2⟩⟩⟩⟩⟩⟩,hk.2.2.1⟩)) hg hat) (jA (hb) (Aside0.mk (ho)))))))))
         clear HO_35 HO_401001 BK398 BK399 BK400 HO422 HO428 HB HO_401000
         obtain ⟨HO_35,HO_401001,BK398,BK399,BK400,HO422,HO428,HB,HO425⟩ := n_
         clear ho hb hg hat
         refine hK.out _ _ ⟨bc BK400 0,bc BK400 1⟩ (fun hHeld => ?_)
         clear hK K
         refine rN (h := ?_)
         refine rP 10 58 14 1535 HT_ (h := ?_)
         exact norm_ Z213 (hCont (.slice Ao63 y420.length co63,v424,v427) _ ⟨hHeld,Z55,Z70,Z54,Z162,(by (with_reducible repeat (first | apply Kd.N_alloc | apply Kd.N_drewN | apply Kd.N_drew));exact Kd.N_mono HO_401001.out (fun _ hk => ⟨hk.1.1,⟨hk.1.2.2.1,⟨hk.2,⟨hk.1.2.2.2.1,⟨hk.1.2.1,⟨hk.1.2.2.2.2.1,⟨hk.1.2.2.2.2.2.1,hk.1.2.2.2.2.2.2⟩⟩⟩⟩⟩⟩⟩)),Z317,Z318,Z319,Z261⟩)
        skip
        refine Kd.N_lit_step (Kd.slice 3 (Kd.int .i64)) _ 26 ?hg (N' := 56) ?hd (xs := ([x8_3] : List (List Int))) (inner := [.slice Ao55 x8_3.length co55]) (ok := (fun k_ => (w.heap.size ≤ k_) ∧ some k_ ≠ (.slice Ao53 t409.length co53 : Value).ownBlock ∧ some k_ ≠ (.slice Ao39 t403.length co39 : Value).ownBlock ∧ some k_ ≠ (.slice Ao54 x401000_2.length co54 : Value).ownBlock ∧ some k_ ≠ (.slice Ao56 x401001_2.length co56 : Value).ownBlock ∧ k_ ≠ gb398 ∧ k_ ≠ gb399 ∧ k_ ≠ gb400)) (okp := (fun k_ => (w.heap.size ≤ k_) ∧ some k_ ≠ (.slice Ao53 t409.length co53 : Value).ownBlock ∧ some k_ ≠ (.slice Ao39 t403.length co39 : Value).ownBlock ∧ some k_ ≠ (.slice Ao54 x401000_2.length co54 : Value).ownBlock ∧ some k_ ≠ (.slice Ao56 x401001_2.length co56 : Value).ownBlock ∧ k_ ≠ gb398 ∧ k_ ≠ gb399 ∧ k_ ≠ gb400)) ?hr ?hp (fun _ hk => hk) ((show ∀ k_,w57.heap.size ≤ k_ → (fun k_ => (w.heap.size ≤ k_) ∧ some k_ ≠ (.slice Ao53 t409.length co53 : Value).ownBlock ∧ some k_ ≠ (.slice Ao39 t403.length co39 : Value).ownBlock ∧ some k_ ≠ (.slice Ao54 x401000_2.length co54 : Value).ownBlock ∧ some k_ ≠ (.slice Ao56 x401001_2.length co56 : Value).ownBlock ∧ k_ ≠ gb398 ∧ k_ ≠ gb399 ∧ k_ ≠ gb400) k_ from fun k_ hk => ⟨(Nat.le_trans (below_size Z261) hk),Kd.fresh' (Kd.R_lt Z209) k_ hk,Kd.fresh' (Kd.R_lt Z301) k_ hk,Kd.fresh' (Kd.N_lt Z174) k_ hk,Kd.fresh' (Kd.N_lt Z292) k_ hk,Kd.freshB (g := gb398) (o := .cells #[.slice A0_0 l0_0.length c0_0,.string a0_1,.slice A0_2 l0_2.length c0_2,.slice A0_3 l0_3.length c0_3] 28 (0,0)) Z317 k_ hk,Kd.freshB (g := gb399) (o := .cells #[.slice none 0 0,.slice none 0 0] 32 (0,0)) Z318 k_ hk,Kd.freshB (g := gb400) (o := .cells #[.slice Ao54 x401000_2.length co54,.slice Ao56 x401001_2.length co56] 32 (0,0)) Z319 k_ hk⟩) _ (Nat.le_refl _)) (Below.refl _ _) (Nat.le_refl _) Z332 ?_;(case hd => rfl);(case hg => rfl);(case hr => exact Z231);(case hp => exact (Reps.one (show Kd.FK (Kd.slice 3 (Kd.int .i64)) _ _ x8_3 [.slice Ao55 x8_3.length co55] from (Kd.FK_slice_mk (Kd.R_reads' (Kd.R_mono (ok' := (fun k_ => (w.heap.size ≤ k_) ∧ some k_ ≠ (.slice Ao53 t409.length co53 : Value).ownBlock ∧ some k_ ≠ (.slice Ao39 t403.length co39 : Value).ownBlock ∧ some k_ ≠ (.slice Ao54 x401000_2.length co54 : Value).ownBlock ∧ some k_ ≠ (.slice Ao56 x401001_2.length co56 : Value).ownBlock ∧ k_ ≠ gb398 ∧ k_ ≠ gb399 ∧ k_ ≠ gb400)) (Kd.R_types (Kd.R_types (Kd.R_types (Kd.R_apart' (Kd.R_apart' (HO_8.out) (Kd.N_typed HO_401000.out) Z330) (Kd.N_typed HO_401001.out) Z330) BK398.out Z330) BK399.out Z330) BK400.out Z330) (fun k_ hk => ⟨hk.1.1.1.1.1.1,⟨hk.1.1.1.1.1.2.1,⟨hk.1.1.1.1.1.2.2,⟨hk.1.1.1.1.2,⟨hk.1.1.1.2,⟨hk.1.1.2,⟨hk.1.2,hk.2⟩⟩⟩⟩⟩⟩⟩))).2.1 (Kd.R_F (Kd.R_mono (ok' := (fun k_ => (w.heap.size ≤ k_) ∧ some k_ ≠ (.slice Ao53 t409.length co53 : Value).ownBlock ∧ some k_ ≠ (.slice Ao39 t403.length co39 : Value).ownBlock ∧ some k_ ≠ (.slice Ao54 x401000_2.length co54 : Value).ownBlock ∧ some k_ ≠ (.slice Ao56 x401001_2.length co56 : Value).ownBlock ∧ k_ ≠ gb398 ∧ k_ ≠ gb399 ∧ k_ ≠ gb400)) (Kd.R_types (Kd.R_types (Kd.R_types (Kd.R_apart' (Kd.R_apart' (HO_8.out) (Kd.N_typed HO_401000.out) Z330) (Kd.N_typed HO_401001.out) Z330) BK398.out Z330) BK399.out Z330) BK400.out Z330) (fun k_ hk => ⟨hk.1.1.1.1.1.1,⟨hk.1.1.1.1.1.2.1,⟨hk.1.1.1.1.1.2.2,⟨hk.1.1.1.1.2,⟨hk.1.1.1.2,⟨hk.1.1.2,⟨hk.1.2,hk.2⟩⟩⟩⟩⟩⟩⟩))))) (Reps.none _ _)))
        intro v427 w58 ho59 hb hg_ hnew_
        clear hg_ hnew_
        (first | rw [← Ny426.out] at ho59 | (simp only [Int.reduceToNat] at ho59;rw [← Ny426.out] at ho59))
        have n_ := jA (Kd.R_below Z209 hb) (jA (Kd.R_below Z301 hb) (jA (Kd.N_elder' Z174 (Kd.N_base ho59) hb) (jA (Kd.N_elder' Z292 (Kd.N_base ho59) hb) (jA (Kd.N_lower ho59 (below_size Z261)) (jA (blk_below (g := gb398) (o := .cells #[.slice A0_0 l0_0.length c0_0,.string a0_1,.slice A0_2 l0_2.length c0_2,.slice A0_3 l0_3.length c0_3] 28 (0,0)) Z317 hb) (jA (blk_below (g := gb399) (o := .cells #[.slice none 0 0,.slice none 0 0] 32 (0,0)) Z318 hb) (jA (blk_below (g := gb400) (o := .cells #[.slice Ao54 x401000_2.length co54,.slice Ao56 x401001_2.length co56] 32 (0,0)) Z319 hb) (Aside0.mk (below_step Z261 hb)))))))))
        clear HO_9 HO_35 HO_401000 HO_401001 BK398 BK399 BK400 HB HO_8
        obtain ⟨HO_9,HO_35,HO_401000,HO_401001,HO428,BK398,BK399,BK400,HB⟩ := n_
        clear hb ho59
        refine hK.out _ _ ⟨bc BK400 0,bc BK400 1⟩ (fun hHeld => ?_)
        clear hK K
        refine rN (h := ?_)
        refine rO 3 51 14 495 HT_ (h := fun K hK => ?_)
        refine Kd.N_lit_step (Kd.slice 3 (Kd.int .i64)) _ 26 ?hg (N' := 51) ?hd (xs := ([t409] : List (List Int))) (inner := [.slice Ao53 t409.length co53]) (ok := (fun k_ => (w.heap.size ≤ k_) ∧ some k_ ≠ (.slice Ao39 t403.length co39 : Value).ownBlock ∧ some k_ ≠ (.slice Ao54 x401000_2.length co54 : Value).ownBlock ∧ some k_ ≠ (.slice Ao56 x401001_2.length co56 : Value).ownBlock ∧ some k_ ≠ (v427 : Value).ownBlock ∧ k_ ≠ gb398 ∧ k_ ≠ gb399 ∧ k_ ≠ gb400)) (okp := (fun k_ => (w.heap.size ≤ k_) ∧ some k_ ≠ (.slice Ao39 t403.length co39 : Value).ownBlock ∧ some k_ ≠ (.slice Ao54 x401000_2.length co54 : Value).ownBlock ∧ some k_ ≠ (.slice Ao56 x401001_2.length co56 : Value).ownBlock ∧ some k_ ≠ (v427 : Value).ownBlock ∧ k_ ≠ gb398 ∧ k_ ≠ gb399 ∧ k_ ≠ gb400)) ?hr ?hp (fun _ hk => hk) ((show ∀ k_,w58.heap.size ≤ k_ → (fun k_ => (w.heap.size ≤ k_) ∧ some k_ ≠ (.slice Ao39 t403.length co39 : Value).ownBlock ∧ some k_ ≠ (.slice Ao54 x401000_2.length co54 : Value).ownBlock ∧ some k_ ≠ (.slice Ao56 x401001_2.length co56 : Value).ownBlock ∧ some k_ ≠ (v427 : Value).ownBlock ∧ k_ ≠ gb398 ∧ k_ ≠ gb399 ∧ k_ ≠ gb400) k_ from fun k_ hk => ⟨(Nat.le_trans (below_size Z261) hk),Kd.fresh' (Kd.R_lt Z301) k_ hk,Kd.fresh' (Kd.N_lt Z174) k_ hk,Kd.fresh' (Kd.N_lt Z292) k_ hk,Kd.fresh' (Kd.N_lt Z306) k_ hk,Kd.freshB (g := gb398) (o := .cells #[.slice A0_0 l0_0.length c0_0,.string a0_1,.slice A0_2 l0_2.length c0_2,.slice A0_3 l0_3.length c0_3] 28 (0,0)) Z317 k_ hk,Kd.freshB (g := gb399) (o := .cells #[.slice none 0 0,.slice none 0 0] 32 (0,0)) Z318 k_ hk,Kd.freshB (g := gb400) (o := .cells #[.slice Ao54 x401000_2.length co54,.slice Ao56 x401001_2.length co56] 32 (0,0)) Z319 k_ hk⟩) _ (Nat.le_refl _)) (Below.refl _ _) (Nat.le_refl _) Z332 ?_;(case hd => rfl);(case hg => rfl);(case hr => exact Z231);(case hp => exact (Reps.one (show Kd.FK (Kd.slice 3 (Kd.int .i64)) _ _ t409 [.slice Ao53 t409.length co53] from (Kd.FK_slice_mk (Kd.R_reads' (Kd.R_mono (ok' := (fun k_ => (w.heap.size ≤ k_) ∧ some k_ ≠ (.slice Ao39 t403.length co39 : Value).ownBlock ∧ some k_ ≠ (.slice Ao54 x401000_2.length co54 : Value).ownBlock ∧ some k_ ≠ (.slice Ao56 x401001_2.length co56 : Value).ownBlock ∧ some k_ ≠ (v427 : Value).ownBlock ∧ k_ ≠ gb398 ∧ k_ ≠ gb399 ∧ k_ ≠ gb400)) (Kd.R_types (Kd.R_types (Kd.R_types (Kd.R_apart' (Kd.R_apart' (Kd.R_apart' (HO_9.out) (Kd.N_typed HO_401000.out) Z330) (Kd.N_typed HO_401001.out) Z330) (Kd.N_typed HO428.out) Z330) BK398.out Z330) BK399.out Z330) BK400.out Z330) (fun k_ hk => ⟨hk.1.1.1.1.1.1.1,⟨hk.1.1.1.1.1.1.2.2,⟨hk.1.1.1.1.1.2,⟨hk.1.1.1.1.2,⟨hk.1.1.1.2,⟨hk.1.1.2,⟨hk.1.2,hk.2⟩⟩⟩⟩⟩⟩⟩))).2.1 (Kd.R_F (Kd.R_mono (ok' := (fun k_ => (w.heap.size ≤ k_) ∧ some k_ ≠ (.slice Ao39 t403.length co39 : Value).ownBlock ∧ some k_ ≠ (.slice Ao54 x401000_2.length co54 : Value).ownBlock ∧ some k_ ≠ (.slice Ao56 x401001_2.length co56 : Value).ownBlock ∧ some k_ ≠ (v427 : Value).ownBlock ∧ k_ ≠ gb398 ∧ k_ ≠ gb399 ∧ k_ ≠ gb400)) (Kd.R_types (Kd.R_types (Kd.R_types (Kd.R_apart' (Kd.R_apart' (Kd.R_apart' (HO_9.out) (Kd.N_typed HO_401000.out) Z330) (Kd.N_typed HO_401001.out) Z330) (Kd.N_typed HO428.out) Z330) BK398.out Z330) BK399.out Z330) BK400.out Z330) (fun k_ hk => ⟨hk.1.1.1.1.1.1.1,⟨hk.1.1.1.1.1.1.2.2,⟨hk.1.1.1.1.1.2,⟨hk.1.1.1.1.2,⟨hk.1.1.1.2,⟨hk.1.1.2,⟨hk.1.2,hk.2⟩⟩⟩⟩⟩⟩⟩))))) (Reps.none _ _)))
        intro v421 w60 ho61 hb hg_ hnew_
        clear hg_ hnew_
        (first | rw [← Ny420.out] at ho61 | (simp only [Int.reduceToNat] at ho61;rw [← Ny420.out] at ho61))
        have n_ := jA (Kd.R_below Z301 hb) (jA (Kd.N_elder' Z174 (Kd.N_base ho61) hb) (jA (Kd.N_elder' Z292 (Kd.N_base ho61) hb) (jA (Kd.N_elder' Z306 (Kd.N_base ho61) hb) (jA (Kd.N_lower ho61 (below_size Z261)) (jA (blk_below (g := gb398) (o := .cells #[.slice A0_0 l0_0.length c0_0,.string a0_1,.slice A0_2 l0_2.length c0_2,.slice A0_3 l0_3.length c0_3] 28 (0,0)) Z317 hb) (jA (blk_below (g := gb399) (o := .cells #[.slice none 0 0,.slice none 0 0] 32 (0,0)) Z318 hb) (jA (blk_below (g := gb400) (o := .cells #[.slice Ao54 x401000_2.length co54,.slice Ao56 x401001_2.length co56] 32 (0,0)) Z319 hb) (Aside0.mk (below_step Z261 hb)))))))))
        clear HO_35 HO_401000 HO_401001 HO428 BK398 BK399 BK400 HB HO_9
        obtain ⟨HO_35,HO_401000,HO_401001,HO428,HO422,BK398,BK399,BK400,HB⟩ := n_
        clear hb ho61
        obtain ⟨Ao63,co63,eo63⟩ := Kd.N_slice HO422.out
        (first | subst eo63 | (injection eo63 with f1_ f2_ f3_;have f4_ := f1_.symm;have f5_ := f3_.symm;clear f1_ f2_ f3_;subst f4_;subst f5_))
        refine hK.out _ _ ⟨bc BK400 0,bc BK400 1⟩ (fun hHeld => ?_)
        clear hK K
        refine rN (h := ?_)
        refine rO 4 52 14 511 HT_ (h := fun K hK => ?_)
        refine Kd.N_append_rows_step (Kd.slice 3 (Kd.int .i64)) (w0 := w) w.heap.size Z257 (.tmp 49) (.tmp 51) 25 26 (.slice none 0 0) 24 rfl Try.underlying25 info26 rfl Z330 Z331 (.slice Ao54 x401000_2.length co54) x401000_2 y420 _ _ _ (fun k_ => (w.heap.size ≤ k_) ∧ some k_ ≠ (.slice Ao39 t403.length co39 : Value).ownBlock ∧ some k_ ≠ (.slice Ao56 x401001_2.length co56 : Value).ownBlock ∧ some k_ ≠ (v427 : Value).ownBlock ∧ k_ ≠ gb398 ∧ k_ ≠ gb399 ∧ k_ ≠ gb400) (fun k_ => ((fun k_ => (w.heap.size ≤ k_) ∧ some k_ ≠ (.slice Ao39 t403.length co39 : Value).ownBlock ∧ some k_ ≠ (.slice Ao56 x401001_2.length co56 : Value).ownBlock ∧ some k_ ≠ (v427 : Value).ownBlock ∧ k_ ≠ gb398 ∧ k_ ≠ gb399 ∧ k_ ≠ gb400)) k_ ∧ some k_ ≠ (.slice Ao54 x401000_2.length co54 : Value).ownBlock) rfl rfl ?aO ?aR (fun _ hk => hk) ?aF ?aB ?aS ?aL ?_
        (case aR => exact (by skip;exact Kd.N_F (Kd.N_mono (ok' := (fun k_ => ((fun k_ => (w.heap.size ≤ k_) ∧ some k_ ≠ (.slice Ao39 t403.length co39 : Value).ownBlock ∧ some k_ ≠ (.slice Ao56 x401001_2.length co56 : Value).ownBlock ∧ some k_ ≠ (v427 : Value).ownBlock ∧ k_ ≠ gb398 ∧ k_ ≠ gb399 ∧ k_ ≠ gb400)) k_ ∧ some k_ ≠ (.slice Ao54 x401000_2.length co54 : Value).ownBlock)) (HO422.out) (fun k_ hk => ⟨⟨hk.1,⟨hk.2.1,⟨hk.2.2.2.1,⟨hk.2.2.2.2.1,⟨hk.2.2.2.2.2.1,⟨hk.2.2.2.2.2.2.1,hk.2.2.2.2.2.2.2⟩⟩⟩⟩⟩⟩,hk.2.2.1⟩))))
        (case aB => exact Z67)
        (case aF => exact Y8)
        (case aO => exact (by (with_reducible repeat (first | apply Kd.N_alloc | apply Kd.N_drewN | apply Kd.N_drew));exact Kd.N_mono HO_401000.out (fun _ hk => ⟨hk.1.1.1,⟨hk.1.1.2.2.2.1,⟨hk.1.1.2.2.2.2.1,⟨hk.1.2,⟨hk.1.1.2.2.2.2.2.1,⟨hk.1.1.2.2.2.2.2.2.1,hk.1.1.2.2.2.2.2.2.2⟩⟩⟩⟩⟩⟩)))
        (case aS => exact Z62)
        (case aL => have := LMc51.out;omega)
        intro v424 w62 ho hb hg hat
        rw [← Ny423.out] at ho
        have n_ := jA (Kd.R_over' Z301 (Kd.N_typed Z174) Z330 hg) (jA (Kd.N_afterv (ok := (fun k_ => (w.heap.size ≤ k_) ∧ some k_ ≠ (.slice Ao39 t403.length co39 : Value).ownBlock ∧ some k_ ≠ (v427 : Value).ownBlock ∧ some k_ ≠ (.slice Ao63 y420.length co63 : Value).ownBlock ∧ k_ ≠ gb398 ∧ k_ ≠ gb399 ∧ k_ ≠ gb400)) Z48 hg hat) (jA (blk_grown (g := gb398) (o := .cells #[.slice A0_0 l0_0.length c0_0,.string a0_1,.slice A0_2 l0_2.length c0_2,.slice A0_3 l0_3.length c0_3] 28 (0,0)) Z317 hg (Kd.N_ne HO_401000.out BK398.out Z330)) (jA (blk_grown (g := gb399) (o := .cells #[.slice none 0 0,.slice none 0 0] 32 (0,0)) Z318 hg (Kd.N_ne HO_401000.out BK399.out Z330)) (jA (blk_grown (g := gb400) (o := .cells #[.slice Ao54 x401000_2.length co54,.slice Ao56 x401001_2.length co56] 32 (0,0)) Z319 hg (Kd.N_ne HO_401000.out BK400.out Z330)) (jA (Kd.N_afterv (ok := (fun k_ => (w.heap.size ≤ k_) ∧ some k_ ≠ (.slice Ao39 t403.length co39 : Value).ownBlock ∧ some k_ ≠ (.slice Ao56 x401001_2.length co56 : Value).ownBlock ∧ some k_ ≠ (.slice Ao63 y420.length co63 : Value).ownBlock ∧ k_ ≠ gb398 ∧ k_ ≠ gb399 ∧ k_ ≠ gb400)) (by (with_reducible repeat (first | apply Kd.N_alloc | apply Kd.N_drewN | apply Kd.N_drew));exact Kd.N_mono HO428.out (fun _ hk => ⟨⟨hk.1.1,⟨hk.1.2.2.1,⟨hk.1.2.2.2.2.1,⟨hk.2,⟨hk.1.2.2.2.2.2.1,⟨hk.1.2.2.2.2.2.2.1,hk.1.2.2.2.2.2.2.2⟩⟩⟩⟩⟩⟩,hk.1.2.2.2.1⟩)) hg hat) (jA (Kd.N_afterv (ok := (fun k_ => (w.heap.size ≤ k_) ∧ some k_ ≠ (.slice Ao39 t403.length co39 : Value).ownBlock ∧ some k_ ≠ (.slice Ao56 x401001_2.length co56 : Value).ownBlock ∧ some k_ ≠ (v427 : Value).ownBlock ∧ k_ ≠ gb398 ∧ k_ ≠ gb399 ∧ k_ ≠ gb400)) (by (with_reducible repeat (first | apply Kd.N_alloc | apply Kd.N_drewN | apply Kd.N_drew));exact Kd.N_mono HO422.out (fun _ hk => ⟨⟨hk.1,⟨hk.2.1,⟨hk.2.2.2.1,⟨hk.2.2.2.2.1,⟨hk.2.2.2.2.2.1,⟨hk.2.2.2.2.2.2.1,hk.2.2.2.2.2.2.2⟩⟩⟩⟩⟩⟩,hk.2.2.1⟩)) hg hat) (jA (hb) (Aside0.mk (ho)))))))))
        clear HO_35 HO_401001 BK398 BK399 BK400 HO428 HO422 HB HO_401000
        obtain ⟨HO_35,HO_401001,BK398,BK399,BK400,HO428,HO422,HB,HO425⟩ := n_
        clear ho hb hg hat
        refine hK.out _ _ ⟨bc BK400 0,bc BK400 1⟩ (fun hHeld => ?_)
        clear hK K
        refine rN (h := ?_)
        refine rP 10 58 14 1535 HT_ (h := ?_)
        exact norm_ Z213 (hCont (.slice Ao63 y420.length co63,v424,v427) _ ⟨hHeld,Z55,Z70,Z54,Z162,(by (with_reducible repeat (first | apply Kd.N_alloc | apply Kd.N_drewN | apply Kd.N_drew));exact Kd.N_mono HO_401001.out (fun _ hk => ⟨hk.1.1,⟨hk.1.2.2.2.1,⟨hk.2,⟨hk.1.2.2.1,⟨hk.1.2.1,⟨hk.1.2.2.2.2.1,⟨hk.1.2.2.2.2.2.1,hk.1.2.2.2.2.2.2⟩⟩⟩⟩⟩⟩⟩)),Z317,Z318,Z319,Z261⟩)
       rintro ⟨v421,v424,v427⟩ w64 ⟨hS_,h0_,h1_,h2_,h3_,h4_,h5_,h6_,h7_,h8_⟩
       have n0_ : Aside0 (Kd.N (Kd.slice 3 (Kd.int .i64)) 26 w64 w.heap.size (fun k_ => (w.heap.size ≤ k_) ∧ some k_ ≠ (v424 : Value).ownBlock ∧ some k_ ≠ (v427 : Value).ownBlock ∧ some k_ ≠ (.slice Ao39 t403.length co39 : Value).ownBlock ∧ some k_ ≠ (.slice Ao56 x401001_2.length co56 : Value).ownBlock ∧ k_ ≠ gb398 ∧ k_ ≠ gb399 ∧ k_ ≠ gb400) v421 y420) := ⟨h0_⟩
       have n1_ : Aside0 (Kd.N (Kd.slice 3 (Kd.int .i64)) 26 w64 w.heap.size (fun k_ => (w.heap.size ≤ k_) ∧ some k_ ≠ (v427 : Value).ownBlock ∧ some k_ ≠ (.slice Ao39 t403.length co39 : Value).ownBlock ∧ some k_ ≠ (.slice Ao56 x401001_2.length co56 : Value).ownBlock ∧ k_ ≠ gb398 ∧ k_ ≠ gb399 ∧ k_ ≠ gb400) v424 y423) := ⟨h1_⟩
       have n2_ : Aside0 (Kd.N (Kd.slice 3 (Kd.int .i64)) 26 w64 w.heap.size (fun k_ => (w.heap.size ≤ k_) ∧ some k_ ≠ (v421 : Value).ownBlock ∧ some k_ ≠ (v424 : Value).ownBlock ∧ some k_ ≠ (.slice Ao39 t403.length co39 : Value).ownBlock ∧ some k_ ≠ (.slice Ao56 x401001_2.length co56 : Value).ownBlock ∧ k_ ≠ gb398 ∧ k_ ≠ gb399 ∧ k_ ≠ gb400) v427 y426) := ⟨h2_⟩
       have n3_ : Aside0 (Kd.R (Kd.int .i64) 3 w64 w.heap.size (fun k_ => (w.heap.size ≤ k_)) (.slice Ao39 t403.length co39) t403) := ⟨h3_⟩
       have n4_ : Aside0 (Kd.N (Kd.slice 3 (Kd.int .i64)) 26 w64 w.heap.size (fun k_ => (w.heap.size ≤ k_) ∧ some k_ ≠ (v421 : Value).ownBlock ∧ some k_ ≠ (v424 : Value).ownBlock ∧ some k_ ≠ (v427 : Value).ownBlock ∧ some k_ ≠ (.slice Ao39 t403.length co39 : Value).ownBlock ∧ k_ ≠ gb398 ∧ k_ ≠ gb399 ∧ k_ ≠ gb400) (.slice Ao56 x401001_2.length co56) x401001_2) := ⟨h4_⟩
       have n5_ : Aside0 (w64.heap[gb398]? = some (.cells #[.slice A0_0 l0_0.length c0_0,.string a0_1,.slice A0_2 l0_2.length c0_2,.slice A0_3 l0_3.length c0_3] 28 (0,0))) := ⟨h5_⟩
       have n6_ : Aside0 (w64.heap[gb399]? = some (.cells #[.slice none 0 0,.slice none 0 0] 32 (0,0))) := ⟨h6_⟩
       have n7_ : Aside0 (w64.heap[gb400]? = some (.cells #[.slice Ao54 x401000_2.length co54,.slice Ao56 x401001_2.length co56] 32 (0,0))) := ⟨h7_⟩
       have n8_ : Aside0 (Below w.heap.size w w64) := ⟨h8_⟩
       clear HO_8
       clear HO_9
       clear HO_35
       clear HO_401000
       clear HO_401001
       clear BK398
       clear BK399
       clear BK400
       clear HB
       clear h0_ h1_ h2_ h3_ h4_ h5_ h6_ h7_ h8_
       have HO422 := n0_
       have HO425 := n1_
       have HO428 := n2_
       have HO_35 := n3_
       have HO_401001 := n4_
       have BK398 := n5_
       have BK399 := n6_
       have BK400 := n7_
       have HB := n8_
       clear n0_ n1_ n2_ n3_ n4_ n5_ n6_ n7_ n8_
       have hHeld : w64.cell? ⟨gb400,0,none⟩ = some (.slice Ao54 x401000_2.length co54) ∧ w64.cell? ⟨gb400,1,none⟩ = some (.slice Ao56 x401001_2.length co56) := hS_
       obtain ⟨Ao66,co66,eo66⟩ := Kd.N_slice HO428.out
       (first | subst eo66 | (injection eo66 with f1_ f2_ f3_;have f4_ := f1_.symm;have f5_ := f3_.symm;clear f1_ f2_ f3_;subst f4_;subst f5_))
       refine norm_ (a' := ?_) ?_ ?_
       rotate_left
       ·simp only [putAll,Act.put,List.setIfInBounds_toArray,List.set_cons_zero,List.set_cons_succ]
        rfl
       refine rO 9 57 14 2047 HT_ (h := fun K hK => ?_)
       refine Kd.N_append_rows_step (Kd.slice 3 (Kd.int .i64)) (w0 := w) w.heap.size Z257 (.tmp 54) (.tmp 56) 25 26 (.slice none 0 0) 24 rfl Try.underlying25 info26 rfl Z330 Z331 (.slice Ao56 x401001_2.length co56) x401001_2 y426 _ _ _ (fun k_ => (w.heap.size ≤ k_) ∧ some k_ ≠ (.slice Ao39 t403.length co39 : Value).ownBlock ∧ some k_ ≠ (v421 : Value).ownBlock ∧ some k_ ≠ (v424 : Value).ownBlock ∧ k_ ≠ gb398 ∧ k_ ≠ gb399 ∧ k_ ≠ gb400) (fun k_ => ((fun k_ => (w.heap.size ≤ k_) ∧ some k_ ≠ (.slice Ao39 t403.length co39 : Value).ownBlock ∧ some k_ ≠ (v421 : Value).ownBlock ∧ some k_ ≠ (v424 : Value).ownBlock ∧ k_ ≠ gb398 ∧ k_ ≠ gb399 ∧ k_ ≠ gb400)) k_ ∧ some k_ ≠ (.slice Ao56 x401001_2.length co56 : Value).ownBlock) rfl rfl ?aO ?aR (fun _ hk => hk) ?aF ?aB ?aS ?aL ?_
       (case aR => exact (by skip;exact Kd.N_F (Kd.N_mono (ok' := (fun k_ => ((fun k_ => (w.heap.size ≤ k_) ∧ some k_ ≠ (.slice Ao39 t403.length co39 : Value).ownBlock ∧ some k_ ≠ (v421 : Value).ownBlock ∧ some k_ ≠ (v424 : Value).ownBlock ∧ k_ ≠ gb398 ∧ k_ ≠ gb399 ∧ k_ ≠ gb400)) k_ ∧ some k_ ≠ (.slice Ao56 x401001_2.length co56 : Value).ownBlock)) (HO428.out) (fun k_ hk => ⟨⟨hk.1,⟨hk.2.2.2.1,⟨hk.2.1,⟨hk.2.2.1,⟨hk.2.2.2.2.2.1,⟨hk.2.2.2.2.2.2.1,hk.2.2.2.2.2.2.2⟩⟩⟩⟩⟩⟩,hk.2.2.2.2.1⟩))))
       (case aB => exact Z67)
       (case aF => exact (fun k_ hk => ⟨(Nat.le_trans (below_size Z261) hk),Kd.fresh' (Kd.R_lt Z301) k_ hk,Kd.fresh' (Kd.N_lt Z188) k_ hk,Kd.fresh' (Kd.N_lt Z194) k_ hk,Kd.freshB (g := gb398) (o := .cells #[.slice A0_0 l0_0.length c0_0,.string a0_1,.slice A0_2 l0_2.length c0_2,.slice A0_3 l0_3.length c0_3] 28 (0,0)) Z317 k_ hk,Kd.freshB (g := gb399) (o := .cells #[.slice none 0 0,.slice none 0 0] 32 (0,0)) Z318 k_ hk,Kd.freshB (g := gb400) (o := .cells #[.slice Ao54 x401000_2.length co54,.slice Ao56 x401001_2.length co56] 32 (0,0)) Z319 k_ hk⟩))
       (case aO => exact (by (with_reducible repeat (first | apply Kd.N_alloc | apply Kd.N_drewN | apply Kd.N_drew));exact Kd.N_mono HO_401001.out (fun _ hk => ⟨hk.1,⟨hk.2.2.2.2.1,⟨hk.2.1,⟨hk.2.2.1,⟨hk.2.2.2.2.2.1,⟨hk.2.2.2.2.2.2.1,hk.2.2.2.2.2.2.2⟩⟩⟩⟩⟩⟩)))
       (case aS => exact Z62)
       (case aL => have := LMc52.out;omega)
       intro v430 w65 ho hb hg hat
       rw [← Ny429.out] at ho
       have n_ := jA (Kd.R_over' Z301 (Kd.N_typed Z292) Z330 hg) (jA (blk_grown (g := gb398) (o := .cells #[.slice A0_0 l0_0.length c0_0,.string a0_1,.slice A0_2 l0_2.length c0_2,.slice A0_3 l0_3.length c0_3] 28 (0,0)) Z317 hg (Kd.N_ne HO_401001.out BK398.out Z330)) (jA (blk_grown (g := gb399) (o := .cells #[.slice none 0 0,.slice none 0 0] 32 (0,0)) Z318 hg (Kd.N_ne HO_401001.out BK399.out Z330)) (jA (blk_grown (g := gb400) (o := .cells #[.slice Ao54 x401000_2.length co54,.slice Ao56 x401001_2.length co56] 32 (0,0)) Z319 hg (Kd.N_ne HO_401001.out BK400.out Z330)) (jA (Kd.N_afterv (ok := (fun k_ => (w.heap.size ≤ k_) ∧ some k_ ≠ (.slice Ao39 t403.length co39 : Value).ownBlock ∧ some k_ ≠ (v424 : Value).ownBlock ∧ some k_ ≠ (.slice Ao66 y426.length co66 : Value).ownBlock ∧ k_ ≠ gb398 ∧ k_ ≠ gb399 ∧ k_ ≠ gb400)) (by (with_reducible repeat (first | apply Kd.N_alloc | apply Kd.N_drewN | apply Kd.N_drew));exact Kd.N_mono HO422.out (fun _ hk => ⟨⟨hk.1,⟨hk.2.2.2.1,⟨hk.2.1,⟨hk.2.2.1,⟨hk.2.2.2.2.2.1,⟨hk.2.2.2.2.2.2.1,hk.2.2.2.2.2.2.2⟩⟩⟩⟩⟩⟩,hk.2.2.2.2.1⟩)) hg hat) (jA (Kd.N_afterv (ok := (fun k_ => (w.heap.size ≤ k_) ∧ some k_ ≠ (.slice Ao39 t403.length co39 : Value).ownBlock ∧ some k_ ≠ (.slice Ao66 y426.length co66 : Value).ownBlock ∧ k_ ≠ gb398 ∧ k_ ≠ gb399 ∧ k_ ≠ gb400)) (by (with_reducible repeat (first | apply Kd.N_alloc | apply Kd.N_drewN | apply Kd.N_drew));exact Kd.N_mono HO425.out (fun _ hk => ⟨⟨hk.1,⟨hk.2.2.1,⟨hk.2.1,⟨hk.2.2.2.2.1,⟨hk.2.2.2.2.2.1,hk.2.2.2.2.2.2⟩⟩⟩⟩⟩,hk.2.2.2.1⟩)) hg hat) (jA (Kd.N_afterv (ok := (fun k_ => (w.heap.size ≤ k_) ∧ some k_ ≠ (.slice Ao39 t403.length co39 : Value).ownBlock ∧ some k_ ≠ (v421 : Value).ownBlock ∧ some k_ ≠ (v424 : Value).ownBlock ∧ k_ ≠ gb398 ∧ k_ ≠ gb399 ∧ k_ ≠ gb400)) (by (with_reducible repeat (first | apply Kd.N_alloc | apply Kd.N_drewN | apply Kd.N_drew));exact Kd.N_mono HO428.out (fun _ hk => ⟨⟨hk.1,⟨hk.2.2.2.1,⟨hk.2.1,⟨hk.2.2.1,⟨hk.2.2.2.2.2.1,⟨hk.2.2.2.2.2.2.1,hk.2.2.2.2.2.2.2⟩⟩⟩⟩⟩⟩,hk.2.2.2.2.1⟩)) hg hat) (jA (hb) (Aside0.mk (ho)))))))))
       clear HO_35 BK398 BK399 BK400 HO422 HO425 HO428 HB HO_401001
       obtain ⟨HO_35,BK398,BK399,BK400,HO422,HO425,HO428,HB,HO431⟩ := n_
       clear ho hb hg hat
       obtain ⟨Ao67,co67,eo67⟩ := Kd.N_slice HO425.out
       (first | subst eo67 | (injection eo67 with f1_ f2_ f3_;have f4_ := f1_.symm;have f5_ := f3_.symm;clear f1_ f2_ f3_;subst f4_;subst f5_))
       obtain ⟨Ao69,co69,eo69⟩ := Kd.N_slice HO431.out
       (first | subst eo69 | (injection eo69 with f1_ f2_ f3_;have f4_ := f1_.symm;have f5_ := f3_.symm;clear f1_ f2_ f3_;subst f4_;subst f5_))
       refine hK.out _ _ ⟨bc BK400 0,bc BK400 1⟩ (fun hHeld => ?_)
       clear hK K
       refine rN (h := ?_)
       refine last_ (i := 11) (N := none) (qM 14 4095) rfl rfl (one_of HT_.out Z256) Z330 (fun K hK => ?_)
       have hs68 : w65.cell? ⟨gb400,0,none⟩ = some (.slice Ao54 x401000_2.length co54) := bc BK400 0
       have hfs68 := blk_frozen BK400.out 0
       have hns68_0 := NB398_400.out
       have hns68_1 := NB399_400.out
       have hms68_0 := NB400_398.out
       have hms68_1 := NB400_399.out
       refine skip_ (w1 := ?_) Z257 rfl ?_ ?_
       rotate_left
       ·go_simp
        rfl
       refine hK.out _ _ ?_
       clear hK K
       refine rP 12 59 14 8191 HT_ (h := ?_)
       refine last_ (i := 13) (N := none) (qM 14 16383) rfl rfl (one_of HT_.out Z256) Z330 (fun K hK => ?_)
       have hs70 : w65.cell? ⟨gb400,1,none⟩ = some (.slice Ao56 x401001_2.length co56) := bc BK400 1
       have hfs70 := blk_frozen BK400.out 1
       have hns70_0 := NB398_400.out
       have hns70_1 := NB399_400.out
       have hms70_0 := NB400_398.out
       have hms70_1 := NB400_399.out
       refine skip_ (w1 := ?_) Z257 rfl ?_ ?_
       rotate_left
       ·go_simp
        rfl
       refine hK.out _ _ ?_
       clear hK K
       refine done_ (done_of HT_.out Z256) ?_
       try go_wp2
       go_roundg k3
       case measure => have := HJ2.out;have := HK2.out;have := HK3.out;omega
       case rel => exact ⟨(wrap64 (x25_2 + 1)),(y423),(y429),(.slice Ao67 y423.length co67),(.slice Ao69 y429.length co69),Z230,H',⟨Z226⟩,⟨by (with_reducible repeat (first | apply Kd.N_alloc | apply Kd.N_drewN | apply Kd.N_drew));exact Kd.N_mono (Kd.N_far (p := ⟨gb400,1,none⟩) (Kd.N_far (p := ⟨gb400,0,none⟩) (Kd.N_mono HO425.out (fun k_ hk => (⟨hk,hk.1.2.2.2.2.2⟩ : _ ∧ k_ ≠ gb400))) (fun _ hk => hk.2) (.slice Ao67 y423.length co67)) (fun _ hk => hk.2) (.slice Ao69 y429.length co69)) (fun _ hk => ⟨hk.1.1.1,⟨hk.1.2,⟨hk.1.1.2.2.2.1,⟨hk.1.1.2.2.2.2.1,hk.1.1.2.2.2.2.2⟩⟩⟩⟩)⟩,⟨by (with_reducible repeat (first | apply Kd.N_alloc | apply Kd.N_drewN | apply Kd.N_drew));exact Kd.N_mono (Kd.N_far (p := ⟨gb400,1,none⟩) (Kd.N_far (p := ⟨gb400,0,none⟩) (Kd.N_mono HO431.out (fun k_ hk => (⟨hk,hk.2.2.2.2.2.2⟩ : _ ∧ k_ ≠ gb400))) (fun _ hk => hk.2) (.slice Ao67 y423.length co67)) (fun _ hk => hk.2) (.slice Ao69 y429.length co69)) (fun _ hk => ⟨hk.1.1,⟨hk.1.2.2.2.1,⟨hk.1.2.2.2.2.1,⟨hk.1.2.2.2.2.2.1,hk.1.2.2.2.2.2.2⟩⟩⟩⟩)⟩,⟨Z291⟩,⟨Z290⟩,⟨by refine bP ?_;refine blk_put (cs := #[.slice Ao67 y423.length co67,.slice Ao56 x401001_2.length co56]) ?_ 1 _ rfl;refine bP ?_;refine blk_put (cs := #[.slice Ao54 x401000_2.length co54,.slice Ao56 x401001_2.length co56]) ?_ 0 _ rfl;refine bP ?_;exact BK400.out⟩,⟨Z261⟩⟩

end Go.Proofs.Ytlflcgdcegohjab.QFnGrid
