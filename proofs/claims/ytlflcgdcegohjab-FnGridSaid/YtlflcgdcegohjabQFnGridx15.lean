/- The machine side of FnGrid: what each Go function that it reaches comes to. Conditions: none. -/
import Derived.Test.YtlflcgdcegohjabQFnGridx0
import Derived.Test.YtlflcgdcegohjabQFnGridx1
import Derived.Test.YtlflcgdcegohjabQFnGridx10
import Derived.Test.YtlflcgdcegohjabQFnGridx11
import Derived.Test.YtlflcgdcegohjabQFnGridx12
import Derived.Test.YtlflcgdcegohjabQFnGridx14
namespace Go.Proofs.Ytlflcgdcegohjab.QFnGrid
open Go.RowKit Go.Proofs.YtlflcgdcegohjabW.PrintWords Go.Proofs.YtlflcgdcegohjabW.PrintLast Go.Proofs.YtlflcgdcegohjabW.PrintMore
attribute [local go_sem] max2_int min2_int max_two min_two max_three min_three max_four min_four   -- for this text's walks alone
set_option linter.unusedVariables false
set_option linter.unusedSimpArgs false

/-! ### spec_GridOf: function 8 -/
mutual
def spec_GridOf.j0 : Nat → Int → Bool → List ByteArray → ByteArray → List (List Int) → List Int → Option ((List (List Int)) × (List (List Int)))
 | 0,_,_,_,_,_,_ => none
 | k + 1,x1,x19,x567000,x567001,x567002,x567003 => if x19 = true then (some (([] : List (List Int)),([] : List (List Int)))) else (spec_GridOf.l0 k x1 0 x567000 x567001 x567002 x567003 ([] : List (List Int)) ([] : List (List Int)))
def spec_GridOf.l0 : Nat → Int → Int → List ByteArray → ByteArray → List (List Int) → List Int → List (List Int) → List (List Int) → Option ((List (List Int)) × (List (List Int)))
 | 0,_,_,_,_,_,_,_,_ => none
 | k + 1,x1,x6,x567000,x567001,x567002,x567003,x569000,x569001 => if x6 < (x567000.length : Int) then ((spec_Column.f k x567000 x567001 x567002 x567003 x6).bind fun t571 => ((spec_CutsOf.f k t571 x1).bind fun t574 => (spec_GridOf.l1 k x1 x6 t571 t574 (([] : List Int)) 0 x567000 x567001 x567002 x567003 x569000 x569001))) else (some (x569000,x569001))
def spec_GridOf.l1 : Nat → Int → Int → List Int → List Int → List Int → Int → List ByteArray → ByteArray → List (List Int) → List Int → List (List Int) → List (List Int) → Option ((List (List Int)) × (List (List Int)))
 | 0,_,_,_,_,_,_,_,_,_,_,_,_ => none
 | k + 1,x1,x6,x7,x8,x9,x10,x567000,x567001,x567002,x567003,x569000,x569001 => if x10 < (x7.length : Int) then (if 0 ≤ x10 then ((spec_BinOf.f k x8 (rd x7 x10)).bind fun t581 => (if x9.length < 17592186044416 then (spec_GridOf.l1 k x1 x6 x7 x8 (x9 ++ [t581]) (wrap64 (x10 + 1)) x567000 x567001 x567002 x567003 x569000 x569001) else (none))) else (none)) else (if x569000.length < 5864062014805 then (if x569001.length < 5864062014805 then (spec_GridOf.l0 k x1 (wrap64 (x6 + 1)) x567000 x567001 x567002 x567003 (x569000 ++ [x8]) (x569001 ++ [x9])) else (none)) else (none))
end
def spec_GridOf.f (k : Nat) (l0_0 : List ByteArray) (a0_1 : ByteArray) (l0_2 : List (List Int)) (l0_3 : List Int) (a1 : Int) : Option ((List (List Int)) × (List (List Int))) := (spec_TableOk.f k l0_0 a0_1 l0_2 l0_3).bind fun t569 => (if t569 = true then ((spec_l1In.f a1 2 8).bind fun t570 => (spec_GridOf.j0 k a1 (!t570) l0_0 a0_1 l0_2 l0_3)) else (spec_GridOf.j0 k a1 true l0_0 a0_1 l0_2 l0_3))
theorem spec_GridOf.mono_l : ∀ k,(∀ y0 y1 y2 y3 y4 y5,LeO (spec_GridOf.j0 k y0 y1 y2 y3 y4 y5) (spec_GridOf.j0 (k + 1) y0 y1 y2 y3 y4 y5)) ∧ (∀ y0 y1 y2 y3 y4 y5 y6 y7,LeO (spec_GridOf.l0 k y0 y1 y2 y3 y4 y5 y6 y7) (spec_GridOf.l0 (k + 1) y0 y1 y2 y3 y4 y5 y6 y7)) ∧ (∀ y0 y1 y2 y3 y4 y5 y6 y7 y8 y9 y10 y11,LeO (spec_GridOf.l1 k y0 y1 y2 y3 y4 y5 y6 y7 y8 y9 y10 y11) (spec_GridOf.l1 (k + 1) y0 y1 y2 y3 y4 y5 y6 y7 y8 y9 y10 y11))
 | 0 => ⟨fun _ _ _ _ _ _ r h => by simp [spec_GridOf.j0] at h,fun _ _ _ _ _ _ _ _ r h => by simp [spec_GridOf.l0] at h,fun _ _ _ _ _ _ _ _ _ _ _ _ r h => by simp [spec_GridOf.l1] at h⟩
 | k + 1 => by
  obtain ⟨ih0,ih1,ih2⟩ := spec_GridOf.mono_l k
  refine ⟨?_,?_,?_⟩
  ·intro y0 y1 y2 y3 y4 y5
   unfold spec_GridOf.j0
   repeat' first
   | (with_reducible exact ih0 _ _ _ _ _ _)
   | (with_reducible exact ih1 _ _ _ _ _ _ _ _)
   | (with_reducible exact ih2 _ _ _ _ _ _ _ _ _ _ _ _)
   | (with_reducible exact spec_BinOf.mono _ _ _)
   | (with_reducible exact spec_Column.mono _ _ _ _ _ _)
   | (with_reducible exact spec_CutsOf.mono _ _ _)
   | (with_reducible exact spec_TableOk.mono _ _ _ _ _)
   | (with_reducible exact LeO.refl _)
   | (with_reducible exact LeO.none _)
   | (with_reducible refine LeO.ite ?_ ?_)
   | (with_reducible refine LeO.bind ?_ (fun _ => ?_))
   | exact ih0 _ _ _ _ _ _
   | exact ih1 _ _ _ _ _ _ _ _
   | exact ih2 _ _ _ _ _ _ _ _ _ _ _ _
   | exact spec_BinOf.mono _ _ _
   | exact spec_Column.mono _ _ _ _ _ _
   | exact spec_CutsOf.mono _ _ _
   | exact spec_TableOk.mono _ _ _ _ _
   | exact LeO.none _
   | refine LeO.ite ?_ ?_
   | refine LeO.bind ?_ (fun _ => ?_)
  ·intro y0 y1 y2 y3 y4 y5 y6 y7
   unfold spec_GridOf.l0
   repeat' first
   | (with_reducible exact ih0 _ _ _ _ _ _)
   | (with_reducible exact ih1 _ _ _ _ _ _ _ _)
   | (with_reducible exact ih2 _ _ _ _ _ _ _ _ _ _ _ _)
   | (with_reducible exact spec_BinOf.mono _ _ _)
   | (with_reducible exact spec_Column.mono _ _ _ _ _ _)
   | (with_reducible exact spec_CutsOf.mono _ _ _)
   | (with_reducible exact spec_TableOk.mono _ _ _ _ _)
   | (with_reducible exact LeO.refl _)
   | (with_reducible exact LeO.none _)
   | (with_reducible refine LeO.ite ?_ ?_)
   | (with_reducible refine LeO.bind ?_ (fun _ => ?_))
   | exact ih0 _ _ _ _ _ _
   | exact ih1 _ _ _ _ _ _ _ _
   | exact ih2 _ _ _ _ _ _ _ _ _ _ _ _
   | exact spec_BinOf.mono _ _ _
   | exact spec_Column.mono _ _ _ _ _ _
   | exact spec_CutsOf.mono _ _ _
   | exact spec_TableOk.mono _ _ _ _ _
   | exact LeO.none _
   | refine LeO.ite ?_ ?_
   | refine LeO.bind ?_ (fun _ => ?_)
  ·intro y0 y1 y2 y3 y4 y5 y6 y7 y8 y9 y10 y11
   unfold spec_GridOf.l1
   repeat' first
   | (with_reducible exact ih0 _ _ _ _ _ _)
   | (with_reducible exact ih1 _ _ _ _ _ _ _ _)
   | (with_reducible exact ih2 _ _ _ _ _ _ _ _ _ _ _ _)
   | (with_reducible exact spec_BinOf.mono _ _ _)
   | (with_reducible exact spec_Column.mono _ _ _ _ _ _)
   | (with_reducible exact spec_CutsOf.mono _ _ _)
   | (with_reducible exact spec_TableOk.mono _ _ _ _ _)
   | (with_reducible exact LeO.refl _)
   | (with_reducible exact LeO.none _)
   | (with_reducible refine LeO.ite ?_ ?_)
   | (with_reducible refine LeO.bind ?_ (fun _ => ?_))
   | exact ih0 _ _ _ _ _ _
   | exact ih1 _ _ _ _ _ _ _ _
   | exact ih2 _ _ _ _ _ _ _ _ _ _ _ _
   | exact spec_BinOf.mono _ _ _
   | exact spec_Column.mono _ _ _ _ _ _
   | exact spec_CutsOf.mono _ _ _
   | exact spec_TableOk.mono _ _ _ _ _
   | exact LeO.none _
   | refine LeO.ite ?_ ?_
   | refine LeO.bind ?_ (fun _ => ?_)
theorem spec_GridOf.mono : ∀ a0 a1 a2 a3 a4 k,LeO (spec_GridOf.f k a0 a1 a2 a3 a4) (spec_GridOf.f (k + 1) a0 a1 a2 a3 a4) := by
 intro a0 a1 a2 a3 a4 k
 obtain ⟨ih0,ih1,ih2⟩ := spec_GridOf.mono_l k
 unfold spec_GridOf.f
 repeat' first
   | (with_reducible exact ih0 _ _ _ _ _ _)
   | (with_reducible exact ih1 _ _ _ _ _ _ _ _)
   | (with_reducible exact ih2 _ _ _ _ _ _ _ _ _ _ _ _)
   | (with_reducible exact spec_BinOf.mono _ _ _)
   | (with_reducible exact spec_Column.mono _ _ _ _ _ _)
   | (with_reducible exact spec_CutsOf.mono _ _ _)
   | (with_reducible exact spec_TableOk.mono _ _ _ _ _)
   | (with_reducible exact LeO.refl _)
   | (with_reducible exact LeO.none _)
   | (with_reducible refine LeO.ite ?_ ?_)
   | (with_reducible refine LeO.bind ?_ (fun _ => ?_))
   | exact ih0 _ _ _ _ _ _
   | exact ih1 _ _ _ _ _ _ _ _
   | exact ih2 _ _ _ _ _ _ _ _ _ _ _ _
   | exact spec_BinOf.mono _ _ _
   | exact spec_Column.mono _ _ _ _ _ _
   | exact spec_CutsOf.mono _ _ _
   | exact spec_TableOk.mono _ _ _ _ _
   | exact LeO.none _
   | refine LeO.ite ?_ ?_
   | refine LeO.bind ?_ (fun _ => ?_)
set_option maxHeartbeats 8000000 in
set_option maxRecDepth 100000 in
theorem spec_GridOf.calls (k : Nat) (A0_0 : Option Addr) (c0_0 : Nat) (l0_0 : List ByteArray) (a0_1 : ByteArray) (A0_2 : Option Addr) (c0_2 : Nat) (l0_2 : List (List Int)) (A0_3 : Option Addr) (c0_3 : Nat) (l0_3 : List Int) (a1 : Int) (r1 : List (List Int)) (r2 : List (List Int)) (w : World) (hr0_0 : Kd.C Kd.string w A0_0 l0_0.length l0_0) (hc0_0 : l0_0.length ≤ c0_0) (hr0_2 : Kd.C (Kd.slice 3 (Kd.int .i64)) w A0_2 l0_2.length l0_2) (hc0_2 : l0_2.length ≤ c0_2) (hr0_3 : Kd.C (Kd.int .i64) w A0_3 l0_3.length l0_3) (hc0_3 : l0_3.length ≤ c0_3) (h : spec_GridOf.f k l0_0 a0_1 l0_2 l0_3 a1 = some (r1,r2)) :
  Calls Try.prog 8 #[.agg #[.slice A0_0 l0_0.length c0_0,.string a0_1,.slice A0_2 l0_2.length c0_2,.slice A0_3 l0_3.length c0_3],.int .i64 a1] w fun e w' => ∃ v0_ v1_ : Value,e = .returned (.agg #[v0_,v1_]) ∧ Kd.S (Kd.slice 3 (Kd.int .i64)) 26 w' w.heap.size (fun k_ => some k_ ≠ (v1_ : Value).ownBlock) v0_ r1 ∧ Kd.S (Kd.slice 3 (Kd.int .i64)) 26 w' w.heap.size (fun k_ => some k_ ≠ (v0_ : Value).ownBlock) v1_ r2 ∧ Below w.heap.size w w' := by
 have hu28 := Try.underlying28
 have hu32 := Try.underlying32
 have HR0_0 := Aside0.mk hr0_0
 have HC0_0 := Aside0.mk hc0_0
 clear hr0_0 hc0_0
 have HR0_2 := Aside0.mk hr0_2
 have HC0_2 := Aside0.mk hc0_2
 clear hr0_2 hc0_2
 have HR0_3 := Aside0.mk hr0_3
 have HC0_3 := Aside0.mk hc0_3
 clear hr0_3 hc0_3
 have HB := Aside0.mk (Below.refl w.heap.size w)
 have H := h
 clear h
 unfold spec_GridOf.f at H
 have HC3 := Aside0.mk H
 clear H
 go_enter Try.func8,Try.ntmps8
 go_upto_region 2 with (first | ((with_reducible refine gate_dst (N := 2) rfl ?_);refine bE 2 #[.slice A0_0 l0_0.length c0_0,.string a0_1,.slice A0_2 l0_2.length c0_2,.slice A0_3 l0_3.length c0_3] 28 (h := ?_);intro gb566 hg w4 hbox hb;have n_ := jA (below_step Z336 hb) (jA (hbox) (jA ((Z279 : w.heap.size ≤ gb566)) (Aside0.mk ((Z279 : w.heap.size ≤ gb566)))));clear HB;obtain ⟨HB,BK566,GW566,GE566⟩ := n_;clear hb hbox hg) | ((with_reducible refine gate_dst (N := 4) rfl ?_);refine bE 4 #[.slice none 0 0,.slice none 0 0] 32 (h := ?_);intro gb567 hg w5 hbox hb;have n_ := jA (blk_below (g := gb566) (o := .cells #[.slice A0_0 l0_0.length c0_0,.string a0_1,.slice A0_2 l0_2.length c0_2,.slice A0_3 l0_3.length c0_3] 28 (0,0)) Z324 hb) (jA (below_step Z285 hb) (jA (hbox) (jA ((Z91 : w.heap.size ≤ gb567)) (jA ((Z91 : w.heap.size ≤ gb567)) (jA ((Z79 : gb566 ≠ gb567)) (Aside0.mk ((Z81 : gb567 ≠ gb566))))))));clear BK566 HB;obtain ⟨BK566,HB,BK567,GW567,GE567,NB566_567,NB567_566⟩ := n_;clear hb hbox hg) | ((with_reducible refine gate_dst (N := 5) rfl ?_);refine bE 5 #[.slice none 0 0,.slice none 0 0] 32 (h := ?_);intro gb568 hg w6 hbox hb;have n_ := jA (blk_below (g := gb566) (o := .cells #[.slice A0_0 l0_0.length c0_0,.string a0_1,.slice A0_2 l0_2.length c0_2,.slice A0_3 l0_3.length c0_3] 28 (0,0)) Z324 hb) (jA (blk_below (g := gb567) (o := .cells #[.slice none 0 0,.slice none 0 0] 32 (0,0)) Z244 hb) (jA (below_step Z267 hb) (jA (hbox) (jA ((Z74 : w.heap.size ≤ gb568)) (jA ((Z74 : w.heap.size ≤ gb568)) (jA ((Z79 : gb566 ≠ gb568)) (jA ((Z81 : gb568 ≠ gb566)) (jA ((by rw [hg];exact Nat.ne_of_lt (blk_lt (g := gb567) (o := .cells #[.slice none 0 0,.slice none 0 0] 32 (0,0)) Z244) : gb567 ≠ gb568)) (Aside0.mk ((by rw [hg];exact Nat.ne_of_gt (blk_lt (g := gb567) (o := .cells #[.slice none 0 0,.slice none 0 0] 32 (0,0)) Z244) : gb568 ≠ gb567)))))))))));clear BK566 BK567 HB;obtain ⟨BK566,BK567,HB,BK568,GW568,GE568,NB566_568,NB568_566,NB567_568,NB568_567⟩ := n_;clear hb hbox hg;have hnb7 := NB568_566.out;have hnc7 := NB566_568.out;have hnb8 := NB568_567.out;have hnc8 := NB567_568.out;obtain ⟨hcz9_0,hcz9_1,hfz9_0,hfz9_1⟩ := cells2 BK568.out))
 (try simp only [Act.put,List.setIfInBounds_toArray,List.set_cons_zero,List.set_cons_succ])
 go_cut [19] (fun v19 wc => ∃ (kq : Nat) (x19_2 : Bool),v19 = .bool x19_2 ∧ Aside0 (spec_GridOf.j0 kq a1 x19_2 l0_0 a0_1 l0_2 l0_3 = some (r1,r2)) ∧ Aside0 (kq ≤ k) ∧ Aside0 (wc.heap[gb566]? = some (.cells #[(.slice A0_0 l0_0.length c0_0),.string a0_1,(.slice A0_2 l0_2.length c0_2),(.slice A0_3 l0_3.length c0_3)] 28 (0,0))) ∧ Aside0 (wc.heap[gb567]? = some (.cells #[(.slice none 0 0),(.slice none 0 0)] 32 (0,0))) ∧ Aside0 (wc.heap[gb568]? = some (.cells #[(.slice none 0 0),(.slice none 0 0)] 32 (0,0))) ∧ Aside0 (Below w.heap.size w wc))
 case first =>
  have H := HC3.out
  clear HC3
  obtain ⟨t569,A100,H⟩ := Option.bind_eq_some_iff.mp H
  have A10 := Aside0.mk A100
  clear A100
  by_cases c11 : t569 = true
  rotate_left
  ·replace c11 := Bool.eq_false_iff.mpr c11
   subst c11
   rw [if_neg Bool.false_ne_true] at H
   have H' := Aside0.mk H
   clear H
   have hnb17 := NB566_567.out
   have hnc17 := NB567_566.out
   have hnb18 := NB566_568.out
   have hnc18 := NB568_566.out
   obtain ⟨hcz19_0,hcz19_1,hcz19_2,hcz19_3,hfz19_0,hfz19_1,hfz19_2,hfz19_3⟩ := cells4 BK566.out
   go_wp2_with (first | ((with_reducible refine gate_callee (f := 10) rfl ?_);refine goesL_ (some 13) rfl rfl Try.func10 Z256 rfl #[.agg #[.slice A0_0 l0_0.length c0_0,.string a0_1,.slice A0_2 l0_2.length c0_2,.slice A0_3 l0_3.length c0_3]] rfl Z159 ?_;(with_reducible refine (spec_TableOk.calls k _ _ l0_0 a0_1 _ _ l0_2 _ _ l0_3 false _ ?side1 ?side2 ?side3 ?side4 ?side5 ?side6 A10.out).mono ?_);(case side1 => exact Z60);(case side2 => exact Z253);(case side3 => exact Z58);(case side4 => exact HC0_2.out);(case side5 => exact Z56);(case side6 => exact HC0_3.out);rintro e w20 ⟨rfl,hb⟩;refine ⟨_,rfl,?_⟩;have n_ := Z9;clear BK566 BK567 BK568 HB;obtain ⟨BK566,BK567,BK568,HB⟩ := n_;(try clear hb);(try clear hb2);(try clear hk);(try clear hi)))
   go_meet
   case rel => exact ⟨_,(true),Z230,H',⟨Z240⟩,⟨Z324⟩,⟨Z244⟩,⟨Z246⟩,⟨Z262⟩⟩
  subst c11
  rw [if_pos rfl] at H
  obtain ⟨t570,A120,H⟩ := Option.bind_eq_some_iff.mp H
  have A12 := Aside0.mk A120
  clear A120
  have H' := Aside0.mk H
  clear H
  have hnb13 := NB566_567.out
  have hnc13 := NB567_566.out
  have hnb14 := NB566_568.out
  have hnc14 := NB568_566.out
  obtain ⟨hcz15_0,hcz15_1,hcz15_2,hcz15_3,hfz15_0,hfz15_1,hfz15_2,hfz15_3⟩ := cells4 BK566.out
  go_wp2_with (first | ((with_reducible refine gate_callee (f := 10) rfl ?_);refine goesL_ (some 13) rfl rfl Try.func10 Z256 rfl #[.agg #[.slice A0_0 l0_0.length c0_0,.string a0_1,.slice A0_2 l0_2.length c0_2,.slice A0_3 l0_3.length c0_3]] rfl Z159 ?_;(with_reducible refine (spec_TableOk.calls k _ _ l0_0 a0_1 _ _ l0_2 _ _ l0_3 true _ ?side1 ?side2 ?side3 ?side4 ?side5 ?side6 A10.out).mono ?_);(case side1 => exact Z60);(case side2 => exact Z253);(case side3 => exact Z58);(case side4 => exact HC0_2.out);(case side5 => exact Z56);(case side6 => exact HC0_3.out);rintro e w16 ⟨rfl,hb⟩;refine ⟨_,rfl,?_⟩;have n_ := Z9;clear BK566 BK567 BK568 HB;obtain ⟨BK566,BK567,BK568,HB⟩ := n_;(try clear hb);(try clear hb2);(try clear hk);(try clear hi)) | (go_at_call 23;(with_reducible refine (spec_l1In.calls a1 2 8 t570 _ A12.out).mono ?_);rintro e w' ⟨rfl,⟨nd,rfl⟩⟩))
  go_meet
  case rel => exact ⟨_,(!t570),Z230,H',⟨Z240⟩,⟨Z324⟩,⟨Z244⟩,⟨Z246⟩,⟨Z262⟩⟩
 case rest =>
  clear HC3
  try clear c1
  try clear p2
  try clear c7
  try clear c8
  try clear c10
  try clear c11
  try clear c13
  try clear c14
  try clear c17
  try clear c18
  obtain ⟨kq,x19_2,rfl,HA,HJ2,BK566,BK567,BK568,HB⟩ := hcut
  cases kq with
  | zero => exact absurd HA.out (by simp [spec_GridOf.j0])
  | succ kj2 =>
   have H := HA.out
   clear HA
   simp only [spec_GridOf.j0] at H
   by_cases c21 : x19_2 = true
   ·subst c21
    rw [if_pos rfl] at H
    simp only [Option.some.injEq,Prod.mk.injEq] at H
    obtain ⟨rfl,rfl⟩ := H
    have hnb22 := NB568_566.out
    have hnc22 := NB566_568.out
    have hnb23 := NB568_567.out
    have hnc23 := NB567_568.out
    obtain ⟨hcz24_0,hcz24_1,hfz24_0,hfz24_1⟩ := cells2 BK568.out
    have hnb25 := NB567_566.out
    have hnc25 := NB566_567.out
    obtain ⟨hcz26_0,hcz26_1,hfz26_0,hfz26_1⟩ := cells2 BK567.out
    go_wp2
    refine bodyPost_ret (results_cell_row rfl _ _ gb567 32 #[.slice none 0 0,.slice none 0 0] (0,0) _ rfl (by refine bP ?_;refine blk_put (cs := #[.slice none 0 0,.slice none 0 0]) ?_ 1 _ rfl;refine bP ?_;refine blk_put (cs := #[.slice none 0 0,.slice none 0 0]) ?_ 0 _ rfl;refine bP ?_;exact BK567.out) Try.underlying32 rfl Z256) rfl ?_
    exact ⟨_,_,Z212,Z156,Z156,Z262⟩
   replace c21 := Bool.eq_false_iff.mpr c21
   subst c21
   rw [if_neg Bool.false_ne_true] at H
   have H' := Aside0.mk H
   clear H
   go_wp2
   go_loopg [6] kj2 (fun kq v6 w' => ∃ (x6_2 : Int) (x569000_2 : List (List Int)) (x569001_2 : List (List Int)) (u569000 : Value) (u569001 : Value),v6 = .int .i64 x6_2 ∧ Aside0 (spec_GridOf.l0 kq a1 x6_2 l0_0 a0_1 l0_2 l0_3 x569000_2 x569001_2 = some (r1,r2)) ∧ Aside0 (kq ≤ kj2) ∧ Aside0 (Kd.S (Kd.slice 3 (Kd.int .i64)) 26 w' w.heap.size (fun k_ => some k_ ≠ (u569001 : Value).ownBlock) u569000 x569000_2) ∧ Aside0 (Kd.S (Kd.slice 3 (Kd.int .i64)) 26 w' w.heap.size (fun k_ => some k_ ≠ (u569000 : Value).ownBlock) u569001 x569001_2) ∧ Aside0 (w'.heap[gb566]? = some (.cells #[(.slice A0_0 l0_0.length c0_0),.string a0_1,(.slice A0_2 l0_2.length c0_2),(.slice A0_3 l0_3.length c0_3)] 28 (0,0))) ∧ Aside0 (w'.heap[gb567]? = some (.cells #[(.slice none 0 0),(.slice none 0 0)] 32 (0,0))) ∧ Aside0 (w'.heap[gb568]? = some (.cells #[u569000,u569001] 32 (0,0))) ∧ Aside0 (Below w.heap.size w w'))
   case atStart => exact ⟨(0),(([] : List (List Int))),(([] : List (List Int))),(.slice none 0 0),(.slice none 0 0),Z230,H',⟨Nat.le_refl _⟩,⟨Z156⟩,⟨Z156⟩,⟨Z324⟩,⟨Z244⟩,⟨Z246⟩,⟨Z262⟩⟩
   case round =>
    clear H'
    try clear c1
    try clear c2
    try clear p2
    try clear c7
    try clear c8
    try clear c10
    try clear c11
    try clear c13
    try clear c14
    try clear c17
    try clear c18
    try clear c21
    try clear c22
    try clear c23
    try clear c25
    try clear p2
    obtain ⟨x6_2,x569000_2,x569001_2,u569000,u569001,rfl,HA,HK2,HO_569000,HO_569001,BK566,BK567,BK568,HB⟩ := hrel
    cases gk with
    | zero => exact absurd HA.out (by simp [spec_GridOf.l0])
    | succ k2 =>
     have H := HA.out
     clear HA
     simp only [spec_GridOf.l0] at H
     by_cases c27 : x6_2 < (l0_0.length : Int)
     rotate_left
     ·rw [if_neg c27] at H
      have c27b0 : decide (x6_2 < (l0_0.length : Int)) = false := decide_eq_false c27
      clear c27
      simp only [Option.some.injEq,Prod.mk.injEq] at H
      obtain ⟨rfl,rfl⟩ := H
      have hnb59 := NB566_567.out
      have hnc59 := NB567_566.out
      have hnb60 := NB566_568.out
      have hnc60 := NB568_566.out
      obtain ⟨hcz61_0,hcz61_1,hcz61_2,hcz61_3,hfz61_0,hfz61_1,hfz61_2,hfz61_3⟩ := cells4 BK566.out
      have hnb62 := NB568_567.out
      have hnc62 := NB567_568.out
      obtain ⟨hcz63_0,hcz63_1,hfz63_0,hfz63_1⟩ := cells2 BK568.out
      obtain ⟨Ao64,co64,eo64⟩ := Kd.S_slice HO_569000.out
      subst eo64
      obtain ⟨hcz65_0,hcz65_1,hfz65_0,hfz65_1⟩ := cells2 BK567.out
      obtain ⟨Ao66,co66,eo66⟩ := Kd.S_slice HO_569001.out
      subst eo66
      go_wp2
      refine bodyPost_ret (results_cell_row rfl _ _ gb567 32 #[.slice Ao64 x569000_2.length co64,.slice Ao66 x569001_2.length co66] (0,0) _ rfl (by refine bP ?_;refine blk_put (cs := #[.slice Ao64 x569000_2.length co64,.slice none 0 0]) ?_ 1 _ rfl;refine bP ?_;refine blk_put (cs := #[.slice none 0 0,.slice none 0 0]) ?_ 0 _ rfl;refine bP ?_;exact BK567.out) Try.underlying32 rfl Z256) rfl ?_
      exact ⟨_,_,Z212,by (with_reducible repeat (first | apply Kd.S_alloc | apply Kd.S_drewN | apply Kd.S_drew));exact Kd.S_mono (Kd.S_far (p := ⟨gb567,1,none⟩) (Kd.S_far (p := ⟨gb567,0,none⟩) (Kd.S_types HO_569000.out BK567.out Z330) (fun _ hk => hk.2) (.slice Ao64 x569000_2.length co64)) (fun _ hk => hk.2) (.slice Ao66 x569001_2.length co66)) (fun _ hk => hk.1),by (with_reducible repeat (first | apply Kd.S_alloc | apply Kd.S_drewN | apply Kd.S_drew));exact Kd.S_mono (Kd.S_far (p := ⟨gb567,1,none⟩) (Kd.S_far (p := ⟨gb567,0,none⟩) (Kd.S_types HO_569001.out BK567.out Z330) (fun _ hk => hk.2) (.slice Ao64 x569000_2.length co64)) (fun _ hk => hk.2) (.slice Ao66 x569001_2.length co66)) (fun _ hk => hk.1),Z262⟩
     rw [if_pos c27] at H
     have c27b0 : decide (x6_2 < (l0_0.length : Int)) = true := decide_eq_true c27
     clear c27
     obtain ⟨t571,A280,H⟩ := Option.bind_eq_some_iff.mp H
     have A28 := Aside0.mk A280
     clear A280
     obtain ⟨t574,A290,H⟩ := Option.bind_eq_some_iff.mp H
     have A29 := Aside0.mk A290
     clear A290
     obtain ⟨y577,hyy⟩ : ∃ y_ : List Int,y_ = (([] : List Int)) := ⟨_,rfl⟩
     replace H : (spec_GridOf.l1 k2 a1 x6_2 t571 t574 y577 0 l0_0 a0_1 l0_2 l0_3 x569000_2 x569001_2) = some (r1,r2) := zR
     have Ny577 := Aside0.mk hyy
     clear hyy
     have H' := Aside0.mk H
     clear H
     have hnb30 := NB566_567.out
     have hnc30 := NB567_566.out
     have hnb31 := NB566_568.out
     have hnc31 := NB568_566.out
     obtain ⟨hcz32_0,hcz32_1,hcz32_2,hcz32_3,hfz32_0,hfz32_1,hfz32_2,hfz32_3⟩ := cells4 BK566.out
     go_wp2_with (first | ((with_reducible refine gate_callee (f := 24) rfl ?_);refine goesL_ (some 30) rfl rfl Try.func24 Z256 rfl #[.agg #[.slice A0_0 l0_0.length c0_0,.string a0_1,.slice A0_2 l0_2.length c0_2,.slice A0_3 l0_3.length c0_3],.int .i64 x6_2] rfl Z159 ?_;(with_reducible refine (spec_Column.calls k2 _ _ l0_0 a0_1 _ _ l0_2 _ _ l0_3 x6_2 t571 _ ?side1 ?side2 ?side3 ?side4 ?side5 ?side6 A28.out).mono ?_);(case side1 => exact Z106);(case side2 => exact Z253);(case side3 => exact Z110);(case side4 => exact HC0_2.out);(case side5 => exact Z109);(case side6 => exact HC0_3.out);rintro e w33 ⟨v572,rfl,ho0,hb⟩;refine ⟨_,rfl,?_⟩;have n_ := jA (Kd.S_elder' Z177 (Kd.R_base ho0) hb) (jA (Kd.S_elder' Z176 (Kd.R_base ho0) hb) (jA (Kd.R_lower ho0 (below_size Z262)) (jA (blk_below (g := gb566) (o := .cells #[.slice A0_0 l0_0.length c0_0,.string a0_1,.slice A0_2 l0_2.length c0_2,.slice A0_3 l0_3.length c0_3] 28 (0,0)) Z324 hb) (jA (blk_below (g := gb567) (o := .cells #[.slice none 0 0,.slice none 0 0] 32 (0,0)) Z244 hb) (jA (blk_below (g := gb568) (o := .cells #[u569000,u569001] 32 (0,0)) Z246 hb) (Aside0.mk (below_step Z262 hb)))))));clear HO_569000 HO_569001 BK566 BK567 BK568 HB;obtain ⟨HO_569000,HO_569001,HO573,BK566,BK567,BK568,HB⟩ := n_;(try clear hb);(try clear hb2);(try clear hk);(try clear hi);(try clear ho0);obtain ⟨Ao34,co34,eo34⟩ := Kd.R_slice HO573.out;subst eo34) | ((with_reducible refine gate_callee (f := 25) rfl ?_);refine goesL_ (some 33) rfl rfl Try.func25 Z256 rfl #[.slice Ao34 t571.length co34,.int .i64 a1] rfl Z159 ?_;(with_reducible refine (spec_CutsOf.calls k2 _ _ t571 a1 t574 _ ?side1 ?side2 A29.out).mono ?_);(case side1 => repeat (first | exact (Kd.R_reads' HO573.out).2.2 | (with_reducible refine Kd.C_alloc ?_ _) | (with_reducible refine Kd.C_drewN ?_ _) | (with_reducible refine Kd.C_drew ?_)));(case side2 => exact (Kd.R_reads' HO573.out).2.1);rintro e w35 ⟨v575,rfl,ho0,hb⟩;refine ⟨_,rfl,?_⟩;have n_ := jA (Kd.S_elder' Z177 (Kd.R_base ho0) hb) (jA (Kd.S_elder' Z176 (Kd.R_base ho0) hb) (jA (Kd.R_elder' Z189 (Kd.R_base ho0) hb) (jA (Kd.R_lower (Kd.R_new' ho0 (Kd.R_lt Z189)) (below_size Z262)) (jA (blk_below (g := gb566) (o := .cells #[.slice A0_0 l0_0.length c0_0,.string a0_1,.slice A0_2 l0_2.length c0_2,.slice A0_3 l0_3.length c0_3] 28 (0,0)) Z324 hb) (jA (blk_below (g := gb567) (o := .cells #[.slice none 0 0,.slice none 0 0] 32 (0,0)) Z244 hb) (jA (blk_below (g := gb568) (o := .cells #[u569000,u569001] 32 (0,0)) Z246 hb) (Aside0.mk (below_step Z262 hb))))))));clear HO_569000 HO_569001 HO573 BK566 BK567 BK568 HB;obtain ⟨HO_569000,HO_569001,HO573,HO576,BK566,BK567,BK568,HB⟩ := n_;(try clear hb);(try clear hb2);(try clear hk);(try clear hi);(try clear ho0)) | ((with_reducible refine gate_dst (N := 34) rfl ?_);refine Kd.R_lit (Kd.int .i64) _ 3 ?hg (N := 34) ?hd (xs := ([] : List Int)) (inner := []) (ok := fun _ => True) (okp := fun _ => True) ?hr ?hp (fun _ hk => hk) trivial (Below.refl _ _) (Nat.le_refl _) Z332 ?_;(case hd => rfl);(case hg => rfl);(case hr => exact Z231);(case hp => exact Z252);intro v578 w36 ho37 hb hg_ hnew_;clear hg_ hnew_;(first | rw [← Ny577.out] at ho37 | (simp only [Int.reduceToNat] at ho37;rw [← Ny577.out] at ho37));have n_ := jA (Kd.S_elder' Z177 (Kd.R_base ho37) hb) (jA (Kd.S_elder' Z176 (Kd.R_base ho37) hb) (jA (Kd.R_elder' Z189 (Kd.R_base ho37) hb) (jA (Kd.R_elder' Z199 (Kd.R_base ho37) hb) (jA (Kd.R_lower (Kd.R_new' (Kd.R_new' ho37 (Kd.R_lt Z189)) (Kd.R_lt Z199)) (below_size Z262)) (jA (blk_below (g := gb566) (o := .cells #[.slice A0_0 l0_0.length c0_0,.string a0_1,.slice A0_2 l0_2.length c0_2,.slice A0_3 l0_3.length c0_3] 28 (0,0)) Z324 hb) (jA (blk_below (g := gb567) (o := .cells #[.slice none 0 0,.slice none 0 0] 32 (0,0)) Z244 hb) (jA (blk_below (g := gb568) (o := .cells #[u569000,u569001] 32 (0,0)) Z246 hb) (Aside0.mk (below_step Z262 hb)))))))));clear HO_569000 HO_569001 HO573 HO576 BK566 BK567 BK568 HB;obtain ⟨HO_569000,HO_569001,HO573,HO576,HO579,BK566,BK567,BK568,HB⟩ := n_;clear hb ho37))
     go_loopg [9,10] k2 (fun kq v9 v10 w' => ∃ (x9_3 : List Int) (x10_3 : Int),v10 = .int .i64 x10_3 ∧ Aside0 (spec_GridOf.l1 kq a1 x6_2 t571 t574 x9_3 x10_3 l0_0 a0_1 l0_2 l0_3 x569000_2 x569001_2 = some (r1,r2)) ∧ Aside0 (kq ≤ k2) ∧ Aside0 (Kd.R (Kd.int .i64) 3 w' w.heap.size (fun k_ => some k_ ≠ (v575 : Value).ownBlock ∧ some k_ ≠ (v9 : Value).ownBlock) (.slice Ao34 t571.length co34) t571) ∧ Aside0 (Kd.R (Kd.int .i64) 3 w' w.heap.size (fun k_ => some k_ ≠ ((.slice Ao34 t571.length co34) : Value).ownBlock ∧ some k_ ≠ (v9 : Value).ownBlock) v575 t574) ∧ Aside0 (Kd.R (Kd.int .i64) 3 w' w.heap.size (fun k_ => some k_ ≠ ((.slice Ao34 t571.length co34) : Value).ownBlock ∧ some k_ ≠ (v575 : Value).ownBlock) v9 x9_3) ∧ Aside0 (Kd.S (Kd.slice 3 (Kd.int .i64)) 26 w' w.heap.size (fun k_ => some k_ ≠ ((.slice Ao34 t571.length co34) : Value).ownBlock ∧ some k_ ≠ (v575 : Value).ownBlock ∧ some k_ ≠ (v9 : Value).ownBlock ∧ some k_ ≠ (u569001 : Value).ownBlock) u569000 x569000_2) ∧ Aside0 (Kd.S (Kd.slice 3 (Kd.int .i64)) 26 w' w.heap.size (fun k_ => some k_ ≠ ((.slice Ao34 t571.length co34) : Value).ownBlock ∧ some k_ ≠ (v575 : Value).ownBlock ∧ some k_ ≠ (v9 : Value).ownBlock ∧ some k_ ≠ (u569000 : Value).ownBlock) u569001 x569001_2) ∧ Aside0 (w'.heap[gb566]? = some (.cells #[(.slice A0_0 l0_0.length c0_0),.string a0_1,(.slice A0_2 l0_2.length c0_2),(.slice A0_3 l0_3.length c0_3)] 28 (0,0))) ∧ Aside0 (w'.heap[gb567]? = some (.cells #[(.slice none 0 0),(.slice none 0 0)] 32 (0,0))) ∧ Aside0 (w'.heap[gb568]? = some (.cells #[u569000,u569001] 32 (0,0))) ∧ Aside0 (Below w.heap.size w w'))
     case atStart => exact ⟨(y577),(0),Z230,H',⟨Nat.le_refl _⟩,⟨by (with_reducible repeat (first | apply Kd.R_alloc | apply Kd.R_drewN | apply Kd.R_drew));exact Kd.R_mono HO573.out (fun _ hk => ⟨hk.1.2,hk.2⟩)⟩,⟨by (with_reducible repeat (first | apply Kd.R_alloc | apply Kd.R_drewN | apply Kd.R_drew));exact Kd.R_mono HO576.out (fun _ hk => ⟨hk.1.2,hk.2⟩)⟩,⟨by (with_reducible repeat (first | apply Kd.R_alloc | apply Kd.R_drewN | apply Kd.R_drew));exact Kd.R_mono HO579.out (fun _ hk => ⟨hk.1.2,hk.2⟩)⟩,⟨by (with_reducible repeat (first | apply Kd.S_alloc | apply Kd.S_drewN | apply Kd.S_drew));exact Kd.S_mono HO_569000.out (fun _ hk => ⟨hk.1.1.2,⟨hk.1.2,⟨hk.2,hk.1.1.1⟩⟩⟩)⟩,⟨by (with_reducible repeat (first | apply Kd.S_alloc | apply Kd.S_drewN | apply Kd.S_drew));exact Kd.S_mono HO_569001.out (fun _ hk => ⟨hk.1.1.2,⟨hk.1.2,⟨hk.2,hk.1.1.1⟩⟩⟩)⟩,⟨Z324⟩,⟨Z244⟩,⟨Z246⟩,⟨Z262⟩⟩
     case round =>
      clear H'
      try clear c1
      try clear c2
      try clear p2
      try clear c3
      try clear c7
      try clear c8
      try clear c10
      try clear c11
      try clear c13
      try clear c14
      try clear c17
      try clear c18
      try clear c21
      try clear c22
      try clear c23
      try clear c24
      try clear c25
      try clear c27
      try clear c27b0
      try clear c30
      try clear c31
      try clear p2
      obtain ⟨x9_3,x10_3,rfl,HA,HK3,HO_7,HO_8,HO_9,HO_569000,HO_569001,BK566,BK567,BK568,HB⟩ := hrel
      cases gk with
      | zero => exact absurd HA.out (by simp [spec_GridOf.l1])
      | succ k3 =>
       have H := HA.out
       clear HA
       simp only [spec_GridOf.l1] at H
       by_cases c38 : x10_3 < (t571.length : Int)
       ·rw [if_pos c38] at H
        have c38b0 : decide (x10_3 < (t571.length : Int)) = true := decide_eq_true c38
        clear c38
        obtain ⟨c39,H⟩ := ifp H
        have c39b0 : decide (0 ≤ x10_3) = true := decide_eq_true c39
        clear c39
        obtain ⟨t581,A400,H⟩ := Option.bind_eq_some_iff.mp H
        have A40 := Aside0.mk A400
        clear A400
        obtain ⟨c41,H⟩ := ifp H
        have LMc41 := Aside0.mk c41
        clear c41
        obtain ⟨y582,hyy⟩ : ∃ y_ : List Int,y_ = (x9_3 ++ [t581]) := ⟨_,rfl⟩
        replace H : (spec_GridOf.l1 k3 a1 x6_2 t571 t574 y582 (wrap64 (x10_3 + 1)) l0_0 a0_1 l0_2 l0_3 x569000_2 x569001_2) = some (r1,r2) := zR
        have Ny582 := Aside0.mk hyy
        clear hyy
        have H' := Aside0.mk H
        clear H
        have p580 : 0 ≤ (x10_3 : Int) := of_decide_eq_true Z229
        have q580 : x10_3 < (t571.length : Int) := of_decide_eq_true Z229
        obtain ⟨ad580,e580,hx580_0⟩ := Kd.at_int (Kd.R_reads' HO_7.out).2.2 x10_3 p580 q580
        cases e580
        replace p580 := eq_true p580
        replace q580 := eq_true q580
        obtain ⟨Ao42,co42,eo42⟩ := Kd.R_slice HO_8.out
        subst eo42
        go_wp2_with (first | ((with_reducible refine gate_callee (f := 26) rfl ?_);refine goesL_ (some 47) rfl rfl Try.func26 Z256 rfl #[.slice Ao42 t574.length co42,.int .i64 (rd t571 x10_3)] rfl Z159 ?_;(with_reducible refine (spec_BinOf.calls k3 _ _ t574 (rd t571 x10_3) t581 _ ?side1 ?side2 A40.out).mono ?_);(case side1 => repeat (first | exact (Kd.R_reads' HO_8.out).2.2 | (with_reducible refine Kd.C_alloc ?_ _) | (with_reducible refine Kd.C_drewN ?_ _) | (with_reducible refine Kd.C_drew ?_)));(case side2 => exact (Kd.R_reads' HO_8.out).2.1);rintro e w' ⟨rfl,⟨nd,rfl⟩⟩;refine ⟨_,rfl,?_⟩) | ((with_reducible refine gate_builtin (b := .append) (xs := #[.tmp 41,.tmp 48]) rfl ?_);at_builtin;refine Kd.R_append (Kd.int .i64) (w0 := w) w.heap.size rfl (.tmp 41) (.tmp 48) 26 3 (.int .i64 0) 8 rfl Try.underlying26 info3 rfl Z330 Z331 u9 x9_3 t581 [.int .i64 t581] (fun k_ => some k_ ≠ (.slice (some ad580) t571.length co34 : Value).ownBlock ∧ some k_ ≠ (.slice Ao42 t574.length co42 : Value).ownBlock) (fun _ => False) rfl rfl ?aP (fun _ hk => hk.elim) ?aF ?aO ?aB ?aS ?aL ?_;(case aP => exact rfl);(case aB => exact Z68);(case aF => exact (fun k_ hk => ⟨Kd.fresh' (Kd.R_lt Z311) k_ hk,Kd.fresh' (Kd.R_lt Z310) k_ hk⟩));(case aO => exact Z209);(case aS => exact Z63);(case aL => have := LMc41.out;omega);intro v583 w43 ho hb hg hat;rw [← Ny582.out] at ho;have n_ := jA (Kd.R_after (ok := (fun k_ => some k_ ≠ (.slice Ao42 t574.length co42 : Value).ownBlock)) Z311 hg hat) (jA (Kd.R_after (ok := (fun k_ => some k_ ≠ (.slice (some ad580) t571.length co34 : Value).ownBlock)) Z310 hg hat) (jA (Kd.S_after (ok := (fun k_ => some k_ ≠ (.slice (some ad580) t571.length co34 : Value).ownBlock ∧ some k_ ≠ (.slice Ao42 t574.length co42 : Value).ownBlock ∧ some k_ ≠ (u569001 : Value).ownBlock)) (by (with_reducible repeat (first | apply Kd.S_alloc | apply Kd.S_drewN | apply Kd.S_drew));exact Kd.S_mono HO_569000.out (fun _ hk => ⟨⟨hk.1,⟨hk.2.1,hk.2.2.2⟩⟩,hk.2.2.1⟩)) hg hat) (jA (Kd.S_after (ok := (fun k_ => some k_ ≠ (.slice (some ad580) t571.length co34 : Value).ownBlock ∧ some k_ ≠ (.slice Ao42 t574.length co42 : Value).ownBlock ∧ some k_ ≠ (u569000 : Value).ownBlock)) (by (with_reducible repeat (first | apply Kd.S_alloc | apply Kd.S_drewN | apply Kd.S_drew));exact Kd.S_mono HO_569001.out (fun _ hk => ⟨⟨hk.1,⟨hk.2.1,hk.2.2.2⟩⟩,hk.2.2.1⟩)) hg hat) (jA (blk_grown (g := gb566) (o := .cells #[.slice A0_0 l0_0.length c0_0,.string a0_1,.slice A0_2 l0_2.length c0_2,.slice A0_3 l0_3.length c0_3] 28 (0,0)) Z324 hg (Kd.R_ne HO_9.out BK566.out Z330)) (jA (blk_grown (g := gb567) (o := .cells #[.slice none 0 0,.slice none 0 0] 32 (0,0)) Z244 hg (Kd.R_ne HO_9.out BK567.out Z330)) (jA (blk_grown (g := gb568) (o := .cells #[u569000,u569001] 32 (0,0)) Z246 hg (Kd.R_ne HO_9.out BK568.out Z330)) (jA (hb) (Aside0.mk (ho)))))))));clear HO_7 HO_8 HO_569000 HO_569001 BK566 BK567 BK568 HB HO_9;obtain ⟨HO_7,HO_8,HO_569000,HO_569001,BK566,BK567,BK568,HB,HO584⟩ := n_;clear ho hb hg hat))
        go_roundg k3
        case measure => have := HJ2.out;have := HK2.out;have := HK3.out;omega
        case rel => exact ⟨(y582),(wrap64 (x10_3 + 1)),Z230,H',⟨Z226⟩,⟨Z311⟩,⟨Z310⟩,⟨by (with_reducible repeat (first | apply Kd.R_alloc | apply Kd.R_drewN | apply Kd.R_drew));exact HO584.out⟩,⟨by (with_reducible repeat (first | apply Kd.S_alloc | apply Kd.S_drewN | apply Kd.S_drew));exact Kd.S_mono HO_569000.out (fun _ hk => ⟨hk.1.1,⟨hk.1.2.1,⟨hk.2,hk.1.2.2⟩⟩⟩)⟩,⟨by (with_reducible repeat (first | apply Kd.S_alloc | apply Kd.S_drewN | apply Kd.S_drew));exact Kd.S_mono HO_569001.out (fun _ hk => ⟨hk.1.1,⟨hk.1.2.1,⟨hk.2,hk.1.2.2⟩⟩⟩)⟩,⟨Z324⟩,⟨Z244⟩,⟨Z246⟩,⟨Z262⟩⟩
       rw [if_neg c38] at H
       have c38b0 : decide (x10_3 < (t571.length : Int)) = false := decide_eq_false c38
       clear c38
       obtain ⟨c44,H⟩ := ifp H
       have LMc44 := Aside0.mk c44
       clear c44
       obtain ⟨y585,hyy⟩ : ∃ y_ : List (List Int),y_ = (x569000_2 ++ [t574]) := ⟨_,rfl⟩
       replace H : (if x569001_2.length < 5864062014805 then (spec_GridOf.l0 k3 a1 (wrap64 (x6_2 + 1)) l0_0 a0_1 l0_2 l0_3 y585 (x569001_2 ++ [x9_3])) else (none)) = some (r1,r2) := zR
       have Ny585 := Aside0.mk hyy
       clear hyy
       obtain ⟨c45,H⟩ := ifp H
       have LMc45 := Aside0.mk c45
       clear c45
       obtain ⟨y588,hyy⟩ : ∃ y_ : List (List Int),y_ = (x569001_2 ++ [x9_3]) := ⟨_,rfl⟩
       replace H : (spec_GridOf.l0 k3 a1 (wrap64 (x6_2 + 1)) l0_0 a0_1 l0_2 l0_3 y585 y588) = some (r1,r2) := zR
       have Ny588 := Aside0.mk hyy
       clear hyy
       have H' := Aside0.mk H
       clear H
       have hnb46 := NB568_566.out
       have hnc46 := NB566_568.out
       have hnb47 := NB568_567.out
       have hnc47 := NB567_568.out
       obtain ⟨hcz48_0,hcz48_1,hfz48_0,hfz48_1⟩ := cells2 BK568.out
       obtain ⟨Ao50,co50,eo50⟩ := Kd.R_slice HO_8.out
       subst eo50
       go_wp2_with (first | ((with_reducible refine gate_builtin (b := .append) (xs := #[.tmp 51,.tmp 53]) rfl ?_);at_builtin;refine Kd.S_append (Kd.slice 3 (Kd.int .i64)) (w0 := w) w.heap.size rfl (.tmp 51) (.tmp 53) 25 26 (.slice none 0 0) 24 rfl Try.underlying25 info26 rfl Z330 Z331 u569000 x569000_2 t574 [.slice Ao50 t574.length co50] (fun k_ => some k_ ≠ (.slice Ao34 t571.length co34 : Value).ownBlock ∧ some k_ ≠ (u9 : Value).ownBlock ∧ some k_ ≠ (u569001 : Value).ownBlock) (fun k_ => some k_ = (.slice Ao50 t574.length co50 : Value).ownBlock) rfl rfl ?aP (fun k_ hk_ => ((Kd.R_mono (ok' := fun k_ => ((fun k_ => some k_ ≠ (.slice Ao34 t571.length co34 : Value).ownBlock ∧ some k_ ≠ (u9 : Value).ownBlock ∧ some k_ ≠ (u569001 : Value).ownBlock)) k_ ∧ some k_ ≠ (u569000 : Value).ownBlock) (Kd.R_apart' (Kd.R_apart' (HO_8.out) (Kd.S_typed HO_569001.out) Z330) (Kd.S_typed HO_569000.out) Z330) (fun k_ hk => ⟨⟨hk.1.1.1,⟨hk.1.1.2,hk.1.2⟩⟩,hk.2⟩))).1 k_ hk_.symm) ?aF ?aO ?aB ?aS ?aL ?_;(case aP => exact Kd.M_row (Kd.R_mono (Kd.R_tight rfl (Kd.R_mono (ok' := fun k_ => ((fun k_ => some k_ ≠ (.slice Ao34 t571.length co34 : Value).ownBlock ∧ some k_ ≠ (u9 : Value).ownBlock ∧ some k_ ≠ (u569001 : Value).ownBlock)) k_ ∧ some k_ ≠ (u569000 : Value).ownBlock) (Kd.R_apart' (Kd.R_apart' (HO_8.out) (Kd.S_typed HO_569001.out) Z330) (Kd.S_typed HO_569000.out) Z330) (fun k_ hk => ⟨⟨hk.1.1.1,⟨hk.1.1.2,hk.1.2⟩⟩,hk.2⟩))) (fun _ h_ => h_)));(case aB => exact Z68);(case aF => exact (fun k_ hk => ⟨Kd.fresh' (Kd.R_lt Z311) k_ hk,Kd.fresh' (Kd.R_lt Z209) k_ hk,Kd.fresh' (Kd.S_lt Z176) k_ hk⟩));(case aO => exact (by (with_reducible repeat (first | apply Kd.S_alloc | apply Kd.S_drewN | apply Kd.S_drew));exact Kd.S_mono HO_569000.out (fun k_ hk => ⟨⟨hk.1,⟨hk.2.2.1,hk.2.2.2⟩⟩,fun e_ => hk.2.1 e_⟩)));(case aS => exact Z63);(case aL => have := LMc44.out;omega);intro v586 w49 ho hb hg hat;rw [← Ny585.out] at ho;have n_ := jA (Kd.R_over' Z311 (Kd.S_typed Z177) Z330 hg) (jA (Kd.R_over' Z209 (Kd.S_typed Z177) Z330 hg) (jA (Kd.S_after (ok := (fun k_ => some k_ ≠ (.slice Ao34 t571.length co34 : Value).ownBlock ∧ some k_ ≠ (.slice Ao50 t574.length co50 : Value).ownBlock ∧ some k_ ≠ (u9 : Value).ownBlock)) (by (with_reducible repeat (first | apply Kd.S_alloc | apply Kd.S_drewN | apply Kd.S_drew));exact Kd.S_mono HO_569001.out (fun _ hk => ⟨⟨hk.1,⟨hk.2.1,hk.2.2.1⟩⟩,hk.2.2.2⟩)) hg hat) (jA (blk_grown (g := gb566) (o := .cells #[.slice A0_0 l0_0.length c0_0,.string a0_1,.slice A0_2 l0_2.length c0_2,.slice A0_3 l0_3.length c0_3] 28 (0,0)) Z324 hg (Kd.S_ne HO_569000.out BK566.out Z330)) (jA (blk_grown (g := gb567) (o := .cells #[.slice none 0 0,.slice none 0 0] 32 (0,0)) Z244 hg (Kd.S_ne HO_569000.out BK567.out Z330)) (jA (blk_grown (g := gb568) (o := .cells #[u569000,u569001] 32 (0,0)) Z246 hg (Kd.S_ne HO_569000.out BK568.out Z330)) (jA (hb) (Aside0.mk (ho))))))));clear HO_7 HO_9 HO_569001 BK566 BK567 BK568 HB HO_569000 HO_8;obtain ⟨HO_7,HO_9,HO_569001,BK566,BK567,BK568,HB,HO587⟩ := n_;clear ho hb hg hat;obtain ⟨Ao51,co51,eo51⟩ := Kd.S_slice HO587.out;subst eo51;obtain ⟨hcz52_0,hcz52_1,hfz52_0,hfz52_1⟩ := cells2 BK568.out) | ((with_reducible refine gate_store (t := 25) (p := 55) rfl ?_);refine store_event (t := 25) (p := 55) (v := ?vo_w53) (w1 := (w49.setCell ⟨gb568,0,none⟩ (.slice Ao51 y585.length co51))) ?hg ?ho ?hn ?hr ?_;(case ho => rfl);(case hg => rfl);(case hn => rfl);(case hr => exact Z231);intro w53 hw;have n0_ : Aside0 (Kd.R (Kd.int .i64) 3 w53 w.heap.size (fun k_ => some k_ ≠ (u9 : Value).ownBlock) (.slice Ao34 t571.length co34) t571) := ⟨(by rw [hw];exact (by (with_reducible repeat (first | apply Kd.R_alloc | apply Kd.R_drewN | apply Kd.R_drew));exact Kd.R_mono (Kd.R_far (p := ⟨gb568,0,none⟩) (Kd.R_types HO_7.out BK568.out Z330) (fun _ hk => hk.2) (.slice Ao51 y585.length co51)) (fun _ hk => hk.1.2)))⟩;have n1_ : Aside0 (Kd.R (Kd.int .i64) 3 w53 w.heap.size (fun k_ => some k_ ≠ (.slice Ao34 t571.length co34 : Value).ownBlock) u9 x9_3) := ⟨(by rw [hw];exact (by (with_reducible repeat (first | apply Kd.R_alloc | apply Kd.R_drewN | apply Kd.R_drew));exact Kd.R_mono (Kd.R_far (p := ⟨gb568,0,none⟩) (Kd.R_types HO_9.out BK568.out Z330) (fun _ hk => hk.2) (.slice Ao51 y585.length co51)) (fun _ hk => hk.1.1)))⟩;have n2_ : Aside0 (Kd.S (Kd.slice 3 (Kd.int .i64)) 26 w53 w.heap.size (fun k_ => some k_ ≠ (.slice Ao34 t571.length co34 : Value).ownBlock ∧ some k_ ≠ (u9 : Value).ownBlock ∧ some k_ ≠ (.slice Ao51 y585.length co51 : Value).ownBlock) u569001 x569001_2) := ⟨(by rw [hw];exact (by (with_reducible repeat (first | apply Kd.S_alloc | apply Kd.S_drewN | apply Kd.S_drew));exact Kd.S_mono (Kd.S_far (p := ⟨gb568,0,none⟩) (Kd.S_types HO_569001.out BK568.out Z330) (fun _ hk => hk.2) (.slice Ao51 y585.length co51)) (fun _ hk => ⟨hk.1.1.1,⟨hk.1.1.2.2,hk.1.2⟩⟩)))⟩;have n3_ : Aside0 (Kd.S (Kd.slice 3 (Kd.int .i64)) 26 w53 w.heap.size (fun k_ => some k_ ≠ (.slice Ao34 t571.length co34 : Value).ownBlock ∧ some k_ ≠ (u9 : Value).ownBlock ∧ some k_ ≠ (u569001 : Value).ownBlock) (.slice Ao51 y585.length co51) y585) := ⟨(by rw [hw];exact (by (with_reducible repeat (first | apply Kd.S_alloc | apply Kd.S_drewN | apply Kd.S_drew));exact Kd.S_mono (Kd.S_far (p := ⟨gb568,0,none⟩) (Kd.S_types HO587.out BK568.out Z330) (fun _ hk => hk.2) (.slice Ao51 y585.length co51)) (fun _ hk => ⟨hk.1.1,⟨hk.1.2.1,hk.1.2.2⟩⟩)))⟩;have n4_ : Aside0 (w53.heap[gb566]? = some (.cells #[.slice A0_0 l0_0.length c0_0,.string a0_1,.slice A0_2 l0_2.length c0_2,.slice A0_3 l0_3.length c0_3] 28 (0,0))) := ⟨(by rw [hw];exact Z220)⟩;have n5_ : Aside0 (w53.heap[gb567]? = some (.cells #[.slice none 0 0,.slice none 0 0] 32 (0,0))) := ⟨(by rw [hw];exact Z219)⟩;have n6_ : Aside0 (w53.heap[gb568]? = some (.cells #[.slice Ao51 y585.length co51,u569001] 32 (0,0))) := ⟨(by rw [hw];exact (by refine bP ?_;refine blk_put (cs := #[u569000,u569001]) ?_ 0 _ rfl;refine bP ?_;exact BK568.out))⟩;have n7_ : Aside0 (Below w.heap.size w w53) := ⟨(by rw [hw];exact Z262)⟩;clear hw;clear HO_7;clear HO_9;clear HO_569001;clear HO587;clear BK566;clear BK567;clear BK568;clear HB;have HO_7 := n0_;have HO_9 := n1_;have HO_569001 := n2_;have HO587 := n3_;have BK566 := n4_;have BK567 := n5_;have BK568 := n6_;have HB := n7_;clear n0_ n1_ n2_ n3_ n4_ n5_ n6_ n7_;obtain ⟨hcz54_0,hcz54_1,hfz54_0,hfz54_1⟩ := cells2 BK568.out;obtain ⟨Ao56,co56,eo56⟩ := Kd.R_slice HO_9.out;subst eo56) | ((with_reducible refine gate_builtin (b := .append) (xs := #[.tmp 57,.tmp 59]) rfl ?_);at_builtin;refine Kd.S_append (Kd.slice 3 (Kd.int .i64)) (w0 := w) w.heap.size rfl (.tmp 57) (.tmp 59) 25 26 (.slice none 0 0) 24 rfl Try.underlying25 info26 rfl Z330 Z331 u569001 x569001_2 x9_3 [.slice Ao56 x9_3.length co56] (fun k_ => some k_ ≠ (.slice Ao34 t571.length co34 : Value).ownBlock ∧ some k_ ≠ (.slice Ao51 y585.length co51 : Value).ownBlock) (fun k_ => some k_ = (.slice Ao56 x9_3.length co56 : Value).ownBlock) rfl rfl ?aP (fun k_ hk_ => ((Kd.R_mono (ok' := fun k_ => ((fun k_ => some k_ ≠ (.slice Ao34 t571.length co34 : Value).ownBlock ∧ some k_ ≠ (.slice Ao51 y585.length co51 : Value).ownBlock)) k_ ∧ some k_ ≠ (u569001 : Value).ownBlock) (Kd.R_apart' (Kd.R_apart' (HO_9.out) (Kd.S_typed HO587.out) Z330) (Kd.S_typed HO_569001.out) Z330) (fun k_ hk => ⟨⟨hk.1.1,hk.1.2⟩,hk.2⟩))).1 k_ hk_.symm) ?aF ?aO ?aB ?aS ?aL ?_;(case aP => exact Kd.M_row (Kd.R_mono (Kd.R_tight rfl (Kd.R_mono (ok' := fun k_ => ((fun k_ => some k_ ≠ (.slice Ao34 t571.length co34 : Value).ownBlock ∧ some k_ ≠ (.slice Ao51 y585.length co51 : Value).ownBlock)) k_ ∧ some k_ ≠ (u569001 : Value).ownBlock) (Kd.R_apart' (Kd.R_apart' (HO_9.out) (Kd.S_typed HO587.out) Z330) (Kd.S_typed HO_569001.out) Z330) (fun k_ hk => ⟨⟨hk.1.1,hk.1.2⟩,hk.2⟩))) (fun _ h_ => h_)));(case aB => exact Z68);(case aF => exact (fun k_ hk => ⟨Kd.fresh' (Kd.R_lt Z311) k_ hk,Kd.fresh' (Kd.S_lt (by (with_reducible repeat (first | apply Kd.S_alloc | apply Kd.S_drewN | apply Kd.S_drew));exact HO587.out)) k_ hk⟩));(case aO => exact (by (with_reducible repeat (first | apply Kd.S_alloc | apply Kd.S_drewN | apply Kd.S_drew));exact Kd.S_mono HO_569001.out (fun k_ hk => ⟨⟨hk.1,hk.2.2⟩,fun e_ => hk.2.1 e_⟩)));(case aS => exact Z63);(case aL => have := LMc45.out;omega);intro v589 w55 ho hb hg hat;rw [← Ny588.out] at ho;have n_ := jA (Kd.R_over' Z311 (Kd.S_typed Z176) Z330 hg) (jA (blk_grown (g := gb566) (o := .cells #[.slice A0_0 l0_0.length c0_0,.string a0_1,.slice A0_2 l0_2.length c0_2,.slice A0_3 l0_3.length c0_3] 28 (0,0)) Z324 hg (Kd.S_ne HO_569001.out BK566.out Z330)) (jA (blk_grown (g := gb567) (o := .cells #[.slice none 0 0,.slice none 0 0] 32 (0,0)) Z244 hg (Kd.S_ne HO_569001.out BK567.out Z330)) (jA (blk_grown (g := gb568) (o := .cells #[.slice Ao51 y585.length co51,u569001] 32 (0,0)) Z246 hg (Kd.S_ne HO_569001.out BK568.out Z330)) (jA (Kd.S_after (ok := (fun k_ => some k_ ≠ (.slice Ao34 t571.length co34 : Value).ownBlock ∧ some k_ ≠ (.slice Ao56 x9_3.length co56 : Value).ownBlock)) (by (with_reducible repeat (first | apply Kd.S_alloc | apply Kd.S_drewN | apply Kd.S_drew));exact Kd.S_mono HO587.out (fun _ hk => ⟨⟨hk.1,hk.2.1⟩,hk.2.2⟩)) hg hat) (jA (hb) (Aside0.mk (ho)))))));clear HO_7 BK566 BK567 BK568 HO587 HB HO_569001 HO_9;obtain ⟨HO_7,BK566,BK567,BK568,HO587,HB,HO590⟩ := n_;clear ho hb hg hat;obtain ⟨Ao57,co57,eo57⟩ := Kd.S_slice HO590.out;subst eo57;obtain ⟨hcz58_0,hcz58_1,hfz58_0,hfz58_1⟩ := cells2 BK568.out))
       go_roundg k3
       case measure => have := HJ2.out;have := HK2.out;have := HK3.out;omega
       case rel => exact ⟨(wrap64 (x6_2 + 1)),(y585),(y588),(.slice Ao51 y585.length co51),(.slice Ao57 y588.length co57),Z230,H',⟨Z226⟩,⟨by (with_reducible repeat (first | apply Kd.S_alloc | apply Kd.S_drewN | apply Kd.S_drew));exact Kd.S_mono (Kd.S_far (p := ⟨gb568,1,none⟩) (Kd.S_types HO587.out BK568.out Z330) (fun _ hk => hk.2) (.slice Ao57 y588.length co57)) (fun _ hk => hk.1.2)⟩,⟨by (with_reducible repeat (first | apply Kd.S_alloc | apply Kd.S_drewN | apply Kd.S_drew));exact Kd.S_mono (Kd.S_far (p := ⟨gb568,1,none⟩) (Kd.S_types HO590.out BK568.out Z330) (fun _ hk => hk.2) (.slice Ao57 y588.length co57)) (fun _ hk => hk.1.2)⟩,⟨Z220⟩,⟨Z219⟩,⟨by refine bP ?_;refine blk_put (cs := #[.slice Ao51 y585.length co51,u569001]) ?_ 1 _ rfl;refine bP ?_;exact BK568.out⟩,⟨Z262⟩⟩

/-! ### slices_EqualFunc_int_int_int_int: function 50 -/
def slices_EqualFunc_int_int_int_int.l0 : Nat → List (List Int) → List (List Int) → Int → Int → Option (Bool)
 | 0,_,_,_,_ => none
 | k + 1,x1,x15,x16,x17 => if x17 < x16 then (if 0 ≤ x17 then (if x17 < (x15.length : Int) then (if x17 < (x1.length : Int) then ((impl_sameLists_1.f k (rd_L3 x15 x17) (rd_L3 x1 x17)).bind fun t593 => (if t593 = true then (slices_EqualFunc_int_int_int_int.l0 k x1 x15 x16 (wrap64 (x17 + 1))) else (some false))) else (none)) else (none)) else (none)) else (some true)
def slices_EqualFunc_int_int_int_int.f (k : Nat) (l0 : List (List Int)) (l1 : List (List Int)) (a2 : Unit) : Option (Bool) := if (l0.length : Int) = (l1.length : Int) then (slices_EqualFunc_int_int_int_int.l0 k l1 l0 (l0.length : Int) 0) else (some false)
theorem slices_EqualFunc_int_int_int_int.mono_l : ∀ k,(∀ y0 y1 y2 y3,LeO (slices_EqualFunc_int_int_int_int.l0 k y0 y1 y2 y3) (slices_EqualFunc_int_int_int_int.l0 (k + 1) y0 y1 y2 y3))
 | 0 => fun _ _ _ _ r h => by simp [slices_EqualFunc_int_int_int_int.l0] at h
 | k + 1 => by
  have ih0 := slices_EqualFunc_int_int_int_int.mono_l k
  ·intro y0 y1 y2 y3
   unfold slices_EqualFunc_int_int_int_int.l0
   repeat' first
   | (with_reducible exact ih0 _ _ _ _)
   | (with_reducible exact impl_sameLists_1.mono _ _ _)
   | (with_reducible exact LeO.refl _)
   | (with_reducible exact LeO.none _)
   | (with_reducible refine LeO.ite ?_ ?_)
   | (with_reducible refine LeO.bind ?_ (fun _ => ?_))
   | exact ih0 _ _ _ _
   | exact impl_sameLists_1.mono _ _ _
   | exact LeO.none _
   | refine LeO.ite ?_ ?_
   | refine LeO.bind ?_ (fun _ => ?_)
theorem slices_EqualFunc_int_int_int_int.mono : ∀ a0 a1 a2 k,LeO (slices_EqualFunc_int_int_int_int.f k a0 a1 a2) (slices_EqualFunc_int_int_int_int.f (k + 1) a0 a1 a2) := by
 intro a0 a1 a2 k
 have ih0 := slices_EqualFunc_int_int_int_int.mono_l k
 unfold slices_EqualFunc_int_int_int_int.f
 repeat' first
   | (with_reducible exact ih0 _ _ _ _)
   | (with_reducible exact impl_sameLists_1.mono _ _ _)
   | (with_reducible exact LeO.refl _)
   | (with_reducible exact LeO.none _)
   | (with_reducible refine LeO.ite ?_ ?_)
   | (with_reducible refine LeO.bind ?_ (fun _ => ?_))
   | exact ih0 _ _ _ _
   | exact impl_sameLists_1.mono _ _ _
   | exact LeO.none _
   | refine LeO.ite ?_ ?_
   | refine LeO.bind ?_ (fun _ => ?_)
set_option maxHeartbeats 8000000 in
set_option maxRecDepth 100000 in
theorem slices_EqualFunc_int_int_int_int.calls (k : Nat) (A0 : Option Addr) (c0 : Nat) (l0 : List (List Int)) (A1 : Option Addr) (c1 : Nat) (l1 : List (List Int)) (a2 : Unit) (r : Bool) (w : World) (hr0 : Kd.C (Kd.slice 3 (Kd.int .i64)) w A0 l0.length l0) (hc0 : l0.length ≤ c0) (hr1 : Kd.C (Kd.slice 3 (Kd.int .i64)) w A1 l1.length l1) (hc1 : l1.length ≤ c1) (h : slices_EqualFunc_int_int_int_int.f k l0 l1 a2 = some r) :
  Calls Try.prog 50 #[.slice A0 l0.length c0,.slice A1 l1.length c1,.func (.func 51) #[] #[]] w fun e w' => e = .returned (.bool r) ∧ Drawn0 w w' := by
 have HR0 := Aside0.mk hr0
 have HC0 := Aside0.mk hc0
 clear hr0 hc0
 have HR1 := Aside0.mk hr1
 have HC1 := Aside0.mk hc1
 clear hr1 hc1
 have H := h
 clear h
 unfold slices_EqualFunc_int_int_int_int.f at H
 by_cases c4 : (l0.length : Int) = (l1.length : Int)
 rotate_left
 ·rw [if_neg c4] at H
  have c4b0 : ((l0.length : Int) == (l1.length : Int)) = false := beq_eq_false_iff_ne.mpr c4
  have c4b1 : ((l0.length : Int) != (l1.length : Int)) = true := bne_iff_ne.mpr c4
  have c4b2 : (l0.length == l1.length) = false := by first | simpa using c4 | (simp at c4 ⊢;omega)
  obtain rfl := Option.some.inj H
  go_enter Try.func50,Try.ntmps50
  go_wp2
  go_ret
  exact ⟨Z230,Z224⟩
 rw [if_pos c4] at H
 have c4b0 : ((l0.length : Int) == (l1.length : Int)) = true := beq_iff_eq.mpr c4
 have c4b1 : ((l0.length : Int) != (l1.length : Int)) = false := bne_eq_false_iff_eq.mpr c4
 have c4b2 : (l0.length == l1.length) = true := by first | simpa using c4 | (simp at c4 ⊢;omega)
 clear c4
 have H' := Aside0.mk H
 clear H
 go_enter Try.func50,Try.ntmps50
 go_wp2
 go_loopg [17] k (fun kq v17 w' => ∃ (x17_1 : Int),v17 = .int .i64 x17_1 ∧ Aside0 (slices_EqualFunc_int_int_int_int.l0 kq l1 l0 (l0.length : Int) x17_1 = some r) ∧ Aside0 (kq ≤ k) ∧ Drawn0 w w')
 case atStart => exact ⟨(0),Z230,H',⟨Nat.le_refl _⟩,Z224⟩
 case round =>
  clear H'
  try clear c1
  try clear p2
  try clear c4
  try clear c4b0
  try clear c4b1
  try clear c4b2
  obtain ⟨x17_1,rfl,HA,HK1,⟨m1,rfl⟩⟩ := hrel
  cases gk with
  | zero => exact absurd HA.out (by simp [slices_EqualFunc_int_int_int_int.l0])
  | succ k1 =>
   have H := HA.out
   clear HA
   simp only [slices_EqualFunc_int_int_int_int.l0] at H
   by_cases c5 : x17_1 < (l0.length : Int)
   rotate_left
   ·rw [if_neg c5] at H
    have c5b0 : decide (x17_1 < (l0.length : Int)) = false := decide_eq_false c5
    clear c5
    obtain rfl := Option.some.inj H
    go_wp2
    go_ret
    exact ⟨Z230,Z224⟩
   rw [if_pos c5] at H
   have c5b0 : decide (x17_1 < (l0.length : Int)) = true := decide_eq_true c5
   clear c5
   obtain ⟨c6,H⟩ := ifp H
   have c6b0 : decide (0 ≤ x17_1) = true := decide_eq_true c6
   clear c6
   obtain ⟨c7,H⟩ := ifp H
   have c7b0 : decide (x17_1 < (l0.length : Int)) = true := decide_eq_true c7
   clear c7
   obtain ⟨c8,H⟩ := ifp H
   have c8b0 : decide (x17_1 < (l1.length : Int)) = true := decide_eq_true c8
   clear c8
   obtain ⟨t593,A90,H⟩ := Option.bind_eq_some_iff.mp H
   have A9 := Aside0.mk A90
   clear A90
   by_cases c10 : t593 = true
   rotate_left
   ·replace c10 := Bool.eq_false_iff.mpr c10
    subst c10
    rw [if_neg Bool.false_ne_true] at H
    obtain rfl := Option.some.inj H
    have p591 : 0 ≤ (x17_1 : Int) := of_decide_eq_true Z229
    have q591 : x17_1 < (l0.length : Int) := of_decide_eq_true Z229
    obtain ⟨ad591,A591_0,c591_0,e591,hx591_0,hl591_0,hi591_0⟩ := at_L3 HR0.out x17_1 p591 q591
    cases e591
    have HR591_0 := Aside0.mk hi591_0
    have HC591_0 := Aside0.mk hl591_0
    clear hi591_0 hl591_0
    replace p591 := eq_true p591
    replace q591 := eq_true q591
    have p592 : 0 ≤ (x17_1 : Int) := of_decide_eq_true Z229
    have q592 : x17_1 < (l1.length : Int) := of_decide_eq_true Z229
    obtain ⟨ad592,A592_0,c592_0,e592,hx592_0,hl592_0,hi592_0⟩ := at_L3 HR1.out x17_1 p592 q592
    cases e592
    have HR592_0 := Aside0.mk hi592_0
    have HC592_0 := Aside0.mk hl592_0
    clear hi592_0 hl592_0
    replace p592 := eq_true p592
    replace q592 := eq_true q592
    go_wp2_with (first | (go_at_call 51;(with_reducible refine (impl_sameLists_1.calls k1 _ _ (rd_L3 l0 x17_1) _ _ (rd_L3 l1 x17_1) false _ ?side1 ?side2 ?side3 ?side4 A9.out).mono ?_);(case side1 => exact Z132);(case side2 => exact HC591_0.out);(case side3 => exact Z131);(case side4 => exact HC592_0.out);rintro e w' ⟨rfl,⟨nd,rfl⟩⟩))
    go_ret
    exact ⟨Z230,Z224⟩
   subst c10
   rw [if_pos rfl] at H
   have H' := Aside0.mk H
   clear H
   have p591 : 0 ≤ (x17_1 : Int) := of_decide_eq_true Z229
   have q591 : x17_1 < (l0.length : Int) := of_decide_eq_true Z229
   obtain ⟨ad591,A591_0,c591_0,e591,hx591_0,hl591_0,hi591_0⟩ := at_L3 HR0.out x17_1 p591 q591
   cases e591
   have HR591_0 := Aside0.mk hi591_0
   have HC591_0 := Aside0.mk hl591_0
   clear hi591_0 hl591_0
   replace p591 := eq_true p591
   replace q591 := eq_true q591
   have p592 : 0 ≤ (x17_1 : Int) := of_decide_eq_true Z229
   have q592 : x17_1 < (l1.length : Int) := of_decide_eq_true Z229
   obtain ⟨ad592,A592_0,c592_0,e592,hx592_0,hl592_0,hi592_0⟩ := at_L3 HR1.out x17_1 p592 q592
   cases e592
   have HR592_0 := Aside0.mk hi592_0
   have HC592_0 := Aside0.mk hl592_0
   clear hi592_0 hl592_0
   replace p592 := eq_true p592
   replace q592 := eq_true q592
   go_wp2_with (first | (go_at_call 51;(with_reducible refine (impl_sameLists_1.calls k1 _ _ (rd_L3 l0 x17_1) _ _ (rd_L3 l1 x17_1) true _ ?side1 ?side2 ?side3 ?side4 A9.out).mono ?_);(case side1 => exact Z132);(case side2 => exact HC591_0.out);(case side3 => exact Z131);(case side4 => exact HC592_0.out);rintro e w' ⟨rfl,⟨nd,rfl⟩⟩))
   go_roundg k1
   case measure => have := HK1.out;omega
   case rel => exact ⟨(wrap64 (x17_1 + 1)),Z230,H',⟨Z251⟩,Z224⟩

/-! ### impl_sameLists: function 27 -/
def impl_sameLists.f (k : Nat) (l0 : List (List Int)) (l1 : List (List Int)) : Option (Bool) := (slices_EqualFunc_int_int_int_int.f k l0 l1 ()).bind fun t594 => (some t594)
theorem impl_sameLists.mono : ∀ a0 a1 k,LeO (impl_sameLists.f k a0 a1) (impl_sameLists.f (k + 1) a0 a1) := by
 intro a0 a1 k
 unfold impl_sameLists.f
 repeat' first
   | (with_reducible exact slices_EqualFunc_int_int_int_int.mono _ _ _ _)
   | (with_reducible exact LeO.refl _)
   | (with_reducible exact LeO.none _)
   | (with_reducible refine LeO.ite ?_ ?_)
   | (with_reducible refine LeO.bind ?_ (fun _ => ?_))
   | exact slices_EqualFunc_int_int_int_int.mono _ _ _ _
   | exact LeO.none _
   | refine LeO.ite ?_ ?_
   | refine LeO.bind ?_ (fun _ => ?_)
set_option maxHeartbeats 8000000 in
set_option maxRecDepth 100000 in
theorem impl_sameLists.calls (k : Nat) (A0 : Option Addr) (c0 : Nat) (l0 : List (List Int)) (A1 : Option Addr) (c1 : Nat) (l1 : List (List Int)) (r : Bool) (w : World) (hr0 : Kd.C (Kd.slice 3 (Kd.int .i64)) w A0 l0.length l0) (hc0 : l0.length ≤ c0) (hr1 : Kd.C (Kd.slice 3 (Kd.int .i64)) w A1 l1.length l1) (hc1 : l1.length ≤ c1) (h : impl_sameLists.f k l0 l1 = some r) :
  Calls Try.prog 27 #[.slice A0 l0.length c0,.slice A1 l1.length c1] w fun e w' => e = .returned (.bool r) ∧ Drawn0 w w' := by
 have HR0 := Aside0.mk hr0
 have HC0 := Aside0.mk hc0
 clear hr0 hc0
 have HR1 := Aside0.mk hr1
 have HC1 := Aside0.mk hc1
 clear hr1 hc1
 have H := h
 clear h
 unfold impl_sameLists.f at H
 obtain ⟨t594,A30,H⟩ := Option.bind_eq_some_iff.mp H
 have A3 := Aside0.mk A30
 clear A30
 obtain rfl := Option.some.inj H
 go_enter Try.func27,Try.ntmps27
 go_wp2_with (first | ((with_reducible refine gate_callee (f := 50) rfl ?_);refine goesL_ (some 7) rfl rfl Try.func50 Z256 rfl #[.slice A0 l0.length c0,.slice A1 l1.length c1,.func (.func 51) #[] #[]] rfl Z159 ?_;(with_reducible refine (slices_EqualFunc_int_int_int_int.calls k _ _ l0 _ _ l1 () t594 _ ?side1 ?side2 ?side3 ?side4 A3.out).mono ?_);(case side1 => exact Z141);(case side2 => exact Z254);(case side3 => exact Z142);(case side4 => exact HC1.out);rintro e w' ⟨rfl,⟨nd,rfl⟩⟩;refine ⟨_,rfl,?_⟩))
 go_ret
 exact ⟨Z230,Z224⟩

/-! ### impl_SameGrid: function 9 -/
def impl_SameGrid.f (k : Nat) (l0_0 : List (List Int)) (l0_1 : List (List Int)) (l1_0 : List (List Int)) (l1_1 : List (List Int)) : Option (Bool) := (impl_sameLists.f k l0_0 l1_0).bind fun t597 => (if t597 = true then ((impl_sameLists.f k l0_1 l1_1).bind fun t598 => (some t598)) else (some false))
theorem impl_SameGrid.mono : ∀ a0 a1 a2 a3 k,LeO (impl_SameGrid.f k a0 a1 a2 a3) (impl_SameGrid.f (k + 1) a0 a1 a2 a3) := by
 intro a0 a1 a2 a3 k
 unfold impl_SameGrid.f
 repeat' first
   | (with_reducible exact impl_sameLists.mono _ _ _)
   | (with_reducible exact LeO.refl _)
   | (with_reducible exact LeO.none _)
   | (with_reducible refine LeO.ite ?_ ?_)
   | (with_reducible refine LeO.bind ?_ (fun _ => ?_))
   | exact impl_sameLists.mono _ _ _
   | exact LeO.none _
   | refine LeO.ite ?_ ?_
   | refine LeO.bind ?_ (fun _ => ?_)
set_option maxHeartbeats 8000000 in
set_option maxRecDepth 100000 in
theorem impl_SameGrid.calls (k : Nat) (A0_0 : Option Addr) (c0_0 : Nat) (l0_0 : List (List Int)) (A0_1 : Option Addr) (c0_1 : Nat) (l0_1 : List (List Int)) (A1_0 : Option Addr) (c1_0 : Nat) (l1_0 : List (List Int)) (A1_1 : Option Addr) (c1_1 : Nat) (l1_1 : List (List Int)) (r : Bool) (w : World) (hr0_0 : Kd.C (Kd.slice 3 (Kd.int .i64)) w A0_0 l0_0.length l0_0) (hc0_0 : l0_0.length ≤ c0_0) (hr0_1 : Kd.C (Kd.slice 3 (Kd.int .i64)) w A0_1 l0_1.length l0_1) (hc0_1 : l0_1.length ≤ c0_1) (hr1_0 : Kd.C (Kd.slice 3 (Kd.int .i64)) w A1_0 l1_0.length l1_0) (hc1_0 : l1_0.length ≤ c1_0) (hr1_1 : Kd.C (Kd.slice 3 (Kd.int .i64)) w A1_1 l1_1.length l1_1) (hc1_1 : l1_1.length ≤ c1_1) (h : impl_SameGrid.f k l0_0 l0_1 l1_0 l1_1 = some r) :
  Calls Try.prog 9 #[.agg #[.slice A0_0 l0_0.length c0_0,.slice A0_1 l0_1.length c0_1],.agg #[.slice A1_0 l1_0.length c1_0,.slice A1_1 l1_1.length c1_1]] w fun e w' => e = .returned (.bool r) ∧ Below w.heap.size w w' := by
 have hu32 := Try.underlying32
 have HR0_0 := Aside0.mk hr0_0
 have HC0_0 := Aside0.mk hc0_0
 clear hr0_0 hc0_0
 have HR0_1 := Aside0.mk hr0_1
 have HC0_1 := Aside0.mk hc0_1
 clear hr0_1 hc0_1
 have HR1_0 := Aside0.mk hr1_0
 have HC1_0 := Aside0.mk hc1_0
 clear hr1_0 hc1_0
 have HR1_1 := Aside0.mk hr1_1
 have HC1_1 := Aside0.mk hc1_1
 clear hr1_1 hc1_1
 have HB := Aside0.mk (Below.refl w.heap.size w)
 have H := h
 clear h
 unfold impl_SameGrid.f at H
 obtain ⟨t597,A30,H⟩ := Option.bind_eq_some_iff.mp H
 have A3 := Aside0.mk A30
 clear A30
 by_cases c4 : t597 = true
 rotate_left
 ·replace c4 := Bool.eq_false_iff.mpr c4
  subst c4
  rw [if_neg Bool.false_ne_true] at H
  obtain rfl := Option.some.inj H
  go_enter Try.func9,Try.ntmps9
  go_wp2_with (first | ((with_reducible refine gate_dst (N := 2) rfl ?_);refine bE 2 #[.slice A0_0 l0_0.length c0_0,.slice A0_1 l0_1.length c0_1] 32 (h := ?_);intro gb595 hg wq1 hbox hb;have n_ := Z21;clear HB;obtain ⟨HB,BK595,GW595,GE595⟩ := n_;clear hb hbox hg) | ((with_reducible refine gate_dst (N := 3) rfl ?_);refine bE 3 #[.slice A1_0 l1_0.length c1_0,.slice A1_1 l1_1.length c1_1] 32 (h := ?_);intro gb596 hg wq2 hbox hb;have n_ := Z6;clear BK595 HB;obtain ⟨BK595,HB,BK596,GW596,GE596,NB595_596,NB596_595⟩ := n_;clear hb hbox hg;have hnbq3 := NB595_596.out;have hncq3 := NB596_595.out;obtain ⟨hczq4_0,hczq4_1,hfzq4_0,hfzq4_1⟩ := cells2 BK595.out;obtain ⟨hczq5_0,hczq5_1,hfzq5_0,hfzq5_1⟩ := cells2 BK596.out) | ((with_reducible refine gate_callee (f := 27) rfl ?_);refine goesL_ (some 9) rfl rfl Try.func27 Z256 rfl #[.slice A0_0 l0_0.length c0_0,.slice A1_0 l1_0.length c1_0] rfl Z159 ?_;(with_reducible refine (impl_sameLists.calls k _ _ l0_0 _ _ l1_0 false _ ?side1 ?side2 ?side3 ?side4 A3.out).mono ?_);(case side1 => exact Z106);(case side2 => exact Z253);(case side3 => exact Z108);(case side4 => exact HC1_0.out);rintro e w' ⟨rfl,⟨nd,rfl⟩⟩;refine ⟨_,rfl,?_⟩))
  go_ret
  exact ⟨Z212,Z88⟩
 subst c4
 rw [if_pos rfl] at H
 obtain ⟨t598,A50,H⟩ := Option.bind_eq_some_iff.mp H
 have A5 := Aside0.mk A50
 clear A50
 obtain rfl := Option.some.inj H
 go_enter Try.func9,Try.ntmps9
 go_wp2_with (first | ((with_reducible refine gate_dst (N := 2) rfl ?_);refine bE 2 #[.slice A0_0 l0_0.length c0_0,.slice A0_1 l0_1.length c0_1] 32 (h := ?_);intro gb595 hg wq1 hbox hb;have n_ := Z21;clear HB;obtain ⟨HB,BK595,GW595,GE595⟩ := n_;clear hb hbox hg) | ((with_reducible refine gate_dst (N := 3) rfl ?_);refine bE 3 #[.slice A1_0 l1_0.length c1_0,.slice A1_1 l1_1.length c1_1] 32 (h := ?_);intro gb596 hg wq2 hbox hb;have n_ := Z6;clear BK595 HB;obtain ⟨BK595,HB,BK596,GW596,GE596,NB595_596,NB596_595⟩ := n_;clear hb hbox hg;have hnbq3 := NB595_596.out;have hncq3 := NB596_595.out;obtain ⟨hczq4_0,hczq4_1,hfzq4_0,hfzq4_1⟩ := cells2 BK595.out;obtain ⟨hczq5_0,hczq5_1,hfzq5_0,hfzq5_1⟩ := cells2 BK596.out) | ((with_reducible refine gate_callee (f := 27) rfl ?_);refine goesL_ (some 9) rfl rfl Try.func27 Z256 rfl #[.slice A0_0 l0_0.length c0_0,.slice A1_0 l1_0.length c1_0] rfl Z159 ?_;(with_reducible refine (impl_sameLists.calls k _ _ l0_0 _ _ l1_0 true _ ?side1 ?side2 ?side3 ?side4 A3.out).mono ?_);(case side1 => exact Z106);(case side2 => exact Z253);(case side3 => exact Z108);(case side4 => exact HC1_0.out);rintro e w' ⟨rfl,⟨nd,rfl⟩⟩;refine ⟨_,rfl,?_⟩) | (go_at_call 27;(with_reducible refine (impl_sameLists.calls k _ _ l0_1 _ _ l1_1 t598 _ ?side1 ?side2 ?side3 ?side4 A5.out).mono ?_);(case side1 => repeat (first | exact (Kd.C_below HR0_1.out Z88) | (with_reducible refine Kd.C_alloc ?_ _) | (with_reducible refine Kd.C_drewN ?_ _) | (with_reducible refine Kd.C_drew ?_)));(case side2 => exact HC0_1.out);(case side3 => repeat (first | exact (Kd.C_below HR1_1.out Z88) | (with_reducible refine Kd.C_alloc ?_ _) | (with_reducible refine Kd.C_drewN ?_ _) | (with_reducible refine Kd.C_drew ?_)));(case side4 => exact HC1_1.out);rintro e w' ⟨rfl,⟨nd,rfl⟩⟩))
 go_ret
 exact ⟨Z212,Z88⟩

/-! ### impl_RowsIn: function 13 -/
def impl_RowsIn.f (l0_0 : List (List Int)) (l0_1 : List (List Int)) : Option (Int) := if (l0_1.length : Int) = 0 then (some 0) else (if 0 < (l0_1.length : Int) then (some ((rd_L3 l0_1 0).length : Int)) else (none))
set_option maxHeartbeats 8000000 in
set_option maxRecDepth 100000 in
theorem impl_RowsIn.calls (A0_0 : Option Addr) (c0_0 : Nat) (l0_0 : List (List Int)) (A0_1 : Option Addr) (c0_1 : Nat) (l0_1 : List (List Int)) (r : Int) (w : World) (hr0_0 : Kd.C (Kd.slice 3 (Kd.int .i64)) w A0_0 l0_0.length l0_0) (hc0_0 : l0_0.length ≤ c0_0) (hr0_1 : Kd.C (Kd.slice 3 (Kd.int .i64)) w A0_1 l0_1.length l0_1) (hc0_1 : l0_1.length ≤ c0_1) (h : impl_RowsIn.f l0_0 l0_1 = some r) :
  Calls Try.prog 13 #[.agg #[.slice A0_0 l0_0.length c0_0,.slice A0_1 l0_1.length c0_1]] w fun e w' => e = .returned (.int .i64 r) ∧ Below w.heap.size w w' := by
 have hu32 := Try.underlying32
 have HR0_0 := Aside0.mk hr0_0
 have HC0_0 := Aside0.mk hc0_0
 clear hr0_0 hc0_0
 have HR0_1 := Aside0.mk hr0_1
 have HC0_1 := Aside0.mk hc0_1
 clear hr0_1 hc0_1
 have HB := Aside0.mk (Below.refl w.heap.size w)
 have H := h
 clear h
 unfold impl_RowsIn.f at H
 by_cases c2 : (l0_1.length : Int) = 0
 ·rw [if_pos c2] at H
  have c2b0 : ((l0_1.length : Int) == 0) = true := beq_iff_eq.mpr c2
  have c2b1 : ((l0_1.length : Int) != 0) = false := bne_eq_false_iff_eq.mpr c2
  clear c2
  obtain rfl := Option.some.inj H
  go_enter Try.func13,Try.ntmps13
  go_wp2_with (first | ((with_reducible refine gate_dst (N := 1) rfl ?_);refine bE 1 #[.slice A0_0 l0_0.length c0_0,.slice A0_1 l0_1.length c0_1] 32 (h := ?_);intro gb599 hg wq1 hbox hb;have n_ := Z20;clear HB;obtain ⟨HB,BK599,GW599,GE599⟩ := n_;clear hb hbox hg;obtain ⟨hczq2_0,hczq2_1,hfzq2_0,hfzq2_1⟩ := cells2 BK599.out))
  go_ret
  exact ⟨Z212,Z125⟩
 rw [if_neg c2] at H
 have c2b0 : ((l0_1.length : Int) == 0) = false := beq_eq_false_iff_ne.mpr c2
 have c2b1 : ((l0_1.length : Int) != 0) = true := bne_iff_ne.mpr c2
 have c2b2 : ¬ (l0_1 = []) := fun h_ => c2 (by rw [h_];rfl)
 obtain ⟨c5,H⟩ := ifp H
 have c5b0 : decide (0 < (l0_1.length : Int)) = true := decide_eq_true c5
 have c5b1 : decide (0 < l0_1.length) = true := decide_eq_true Z331
 clear c5
 obtain rfl := Option.some.inj H
 go_enter Try.func13,Try.ntmps13
 go_wp2_with (first | ((with_reducible refine gate_dst (N := 1) rfl ?_);refine bE 1 #[.slice A0_0 l0_0.length c0_0,.slice A0_1 l0_1.length c0_1] 32 (h := ?_);intro gb599 hg wq1 hbox hb;have n_ := Z20;clear HB;obtain ⟨HB,BK599,GW599,GE599⟩ := n_;clear hb hbox hg;obtain ⟨hczq2_0,hczq2_1,hfzq2_0,hfzq2_1⟩ := cells2 BK599.out;have pq3 : 0 ≤ (0 : Int) := Z331;have qq3 : 0 < (l0_1.length : Int) := of_decide_eq_true Z229;obtain ⟨adq3,A600_0,c600_0,eq3,hxq3_0,hlq3_0,hiq3_0⟩ := at_L3 HR0_1.out 0 pq3 qq3;cases eq3;have qiq3 : (0 < l0_1.length) = True := eq_true Z331;(try rw [show ((0 : Int)).toNat = 0 from rfl] at hxq3_0);(try rw [Addr.add_zero'] at hxq3_0);replace hxq3_0 := (HB.out.cell (World.block_lt_of_cell? w _ hxq3_0)).trans hxq3_0;have HR600_0 := Aside0.mk hiq3_0;have HC600_0 := Aside0.mk hlq3_0;clear hiq3_0 hlq3_0;replace pq3 := eq_true pq3;replace qq3 := eq_true qq3))
 go_ret
 exact ⟨Z212,Z125⟩

end Go.Proofs.Ytlflcgdcegohjab.QFnGrid
