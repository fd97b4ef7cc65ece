/- The machine side of FnExactGridOf: what each Go function that it reaches comes to. Conditions: none. -/
import Derived.Test.YtnidkpkfkklkaaaQFnExactGridOfx0
import Derived.Test.YtnidkpkfkklkaaaQFnExactGridOfx1
import Derived.Test.YtnidkpkfkklkaaaQFnExactGridOfx2
import Derived.Test.YtnidkpkfkklkaaaQFnExactGridOfx3
import Derived.Test.YtnidkpkfkklkaaaQFnExactGridOfx5
namespace Go.Proofs.Ytnidkpkfkklkaaa.QFnExactGridOf
open Go.RowKit Go.Proofs.YtnidkpkfkklkaaaW.PrintWords Go.Proofs.YtnidkpkfkklkaaaW.PrintLast Go.Proofs.YtnidkpkfkklkaaaW.PrintMore
attribute [local go_sem] max2_int min2_int max_two min_two max_three min_three max_four min_four   -- for this text's walks alone
set_option linter.unusedVariables false
set_option linter.unusedSimpArgs false

/-! ### spec_GridOf: function 5 -/
mutual
def spec_GridOf.j0 : Nat → Int → Bool → List ByteArray → ByteArray → List (List Int) → List Int → Option ((List (List Int)) × (List (List Int)))
 | 0,_,_,_,_,_,_ => none
 | k + 1,x1,x19,x236000,x236001,x236002,x236003 => if x19 = true then (some (([] : List (List Int)),([] : List (List Int)))) else (spec_GridOf.l0 k x1 0 x236000 x236001 x236002 x236003 ([] : List (List Int)) ([] : List (List Int)))
def spec_GridOf.l0 : Nat → Int → Int → List ByteArray → ByteArray → List (List Int) → List Int → List (List Int) → List (List Int) → Option ((List (List Int)) × (List (List Int)))
 | 0,_,_,_,_,_,_,_,_ => none
 | k + 1,x1,x6,x236000,x236001,x236002,x236003,x238000,x238001 => if x6 < (x236000.length : Int) then ((spec_Column.f k x236000 x236001 x236002 x236003 x6).bind fun t240 => ((spec_CutsOf.f k t240 x1).bind fun t243 => (spec_GridOf.l1 k x1 x6 t240 t243 (([] : List Int)) 0 x236000 x236001 x236002 x236003 x238000 x238001))) else (some (x238000,x238001))
def spec_GridOf.l1 : Nat → Int → Int → List Int → List Int → List Int → Int → List ByteArray → ByteArray → List (List Int) → List Int → List (List Int) → List (List Int) → Option ((List (List Int)) × (List (List Int)))
 | 0,_,_,_,_,_,_,_,_,_,_,_,_ => none
 | k + 1,x1,x6,x7,x8,x9,x10,x236000,x236001,x236002,x236003,x238000,x238001 => if x10 < (x7.length : Int) then (if 0 ≤ x10 then ((spec_BinOf.f k x8 (rd x7 x10)).bind fun t250 => (if x9.length < 17592186044416 then (spec_GridOf.l1 k x1 x6 x7 x8 (x9 ++ [t250]) (wrap64 (x10 + 1)) x236000 x236001 x236002 x236003 x238000 x238001) else (none))) else (none)) else (if x238000.length < 5864062014805 then (if x238001.length < 5864062014805 then (spec_GridOf.l0 k x1 (wrap64 (x6 + 1)) x236000 x236001 x236002 x236003 (x238000 ++ [x8]) (x238001 ++ [x9])) else (none)) else (none))
end
def spec_GridOf.f (k : Nat) (l0_0 : List ByteArray) (a0_1 : ByteArray) (l0_2 : List (List Int)) (l0_3 : List Int) (a1 : Int) : Option ((List (List Int)) × (List (List Int))) := (spec_TableOk.f k l0_0 a0_1 l0_2 l0_3).bind fun t238 => (if t238 = true then ((spec_l1In.f a1 2 8).bind fun t239 => (spec_GridOf.j0 k a1 (!t239) l0_0 a0_1 l0_2 l0_3)) else (spec_GridOf.j0 k a1 true l0_0 a0_1 l0_2 l0_3))
theorem spec_GridOf.mono_l : ∀ k,(∀ y0 y1 y2 y3 y4 y5,LeO (spec_GridOf.j0 k y0 y1 y2 y3 y4 y5) (spec_GridOf.j0 (k + 1) y0 y1 y2 y3 y4 y5)) ∧ (∀ y0 y1 y2 y3 y4 y5 y6 y7,LeO (spec_GridOf.l0 k y0 y1 y2 y3 y4 y5 y6 y7) (spec_GridOf.l0 (k + 1) y0 y1 y2 y3 y4 y5 y6 y7)) ∧ (∀ y0 y1 y2 y3 y4 y5 y6 y7 y8 y9 y10 y11,LeO (spec_GridOf.l1 k y0 y1 y2 y3 y4 y5 y6 y7 y8 y9 y10 y11) (spec_GridOf.l1 (k + 1) y0 y1 y2 y3 y4 y5 y6 y7 y8 y9 y10 y11))
 | 0 => ⟨fun _ _ _ _ _ _ r h => by simp [spec_GridOf.j0] at h,fun _ _ _ _ _ _ _ _ r h => by simp [spec_GridOf.l0] at h,fun _ _ _ _ _ _ _ _ _ _ _ _ r h => by simp [spec_GridOf.l1] at h⟩
 | k + 1 => by
  obtain ⟨ih0,ih1,ih2⟩ := spec_GridOf.mono_l k
  refine ⟨?_,?_,?_⟩
  ·intro y0 y1 y2 y3 y4 y5
   unfold spec_GridOf.j0
   repeat' first
   | (with_reducible exact ih0 _ _ _ _ _ _)
   | (with_reducible exact ih1 _ _ _ _ _ _ _ _)
   | (with_reducible exact ih2 _ _ _ _ _ _ _ _ _ _ _ _)
   | (with_reducible exact spec_BinOf.mono _ _ _)
   | (with_reducible exact spec_Column.mono _ _ _ _ _ _)
   | (with_reducible exact spec_CutsOf.mono _ _ _)
   | (with_reducible exact spec_TableOk.mono _ _ _ _ _)
   | (with_reducible exact LeO.refl _)
   | (with_reducible exact LeO.none _)
   | (with_reducible refine LeO.ite ?_ ?_)
   | (with_reducible refine LeO.bind ?_ (fun _ => ?_))
   | exact ih0 _ _ _ _ _ _
   | exact ih1 _ _ _ _ _ _ _ _
   | exact ih2 _ _ _ _ _ _ _ _ _ _ _ _
   | exact spec_BinOf.mono _ _ _
   | exact spec_Column.mono _ _ _ _ _ _
   | exact spec_CutsOf.mono _ _ _
   | exact spec_TableOk.mono _ _ _ _ _
   | exact LeO.none _
   | refine LeO.ite ?_ ?_
   | refine LeO.bind ?_ (fun _ => ?_)
  ·intro y0 y1 y2 y3 y4 y5 y6 y7
   unfold spec_GridOf.l0
   repeat' first
   | (with_reducible exact ih0 _ _ _ _ _ _)
   | (with_reducible exact ih1 _ _ _ _ _ _ _ _)
   | (with_reducible exact ih2 _ _ _ _ _ _ _ _ _ _ _ _)
   | (with_reducible exact spec_BinOf.mono _ _ _)
   | (with_reducible exact spec_Column.mono _ _ _ _ _ _)
   | (with_reducible exact spec_CutsOf.mono _ _ _)
   | (with_reducible exact spec_TableOk.mono _ _ _ _ _)
   | (with_reducible exact LeO.refl _)
   | (with_reducible exact LeO.none _)
   | (with_reducible refine LeO.ite ?_ ?_)
   | (with_reducible refine LeO.bind ?_ (fun _ => ?_))
   | exact ih0 _ _ _ _ _ _
   | exact ih1 _ _ _ _ _ _ _ _
   | exact ih2 _ _ _ _ _ _ _ _ _ _ _ _
   | exact spec_BinOf.mono _ _ _
   | exact spec_Column.mono _ _ _ _ _ _
   | exact spec_CutsOf.mono _ _ _
   | exact spec_TableOk.mono _ _ _ _ _
   | exact LeO.none _
   | refine LeO.ite ?_ ?_
   | refine LeO.bind ?_ (fun _ => ?_)
  ·intro y0 y1 y2 y3 y4 y5 y6 y7 y8 y9 y10 y11
   unfold spec_GridOf.l1
   repeat' first
   | (with_reducible exact ih0 _ _ _ _ _ _)
   | (with_reducible exact ih1 _ _ _ _ _ _ _ _)
   | (with_reducible exact ih2 _ _ _ _ _ _ _ _ _ _ _ _)
   | (with_reducible exact spec_BinOf.mono _ _ _)
   | (with_reducible exact spec_Column.mono _ _ _ _ _ _)
   | (with_reducible exact spec_CutsOf.mono _ _ _)
   | (with_reducible exact spec_TableOk.mono _ _ _ _ _)
   | (with_reducible exact LeO.refl _)
   | (with_reducible exact LeO.none _)
   | (with_reducible refine LeO.ite ?_ ?_)
   | (with_reducible refine LeO.bind ?_ (fun _ => ?_))
   | exact ih0 _ _ _ _ _ _
   | exact ih1 _ _ _ _ _ _ _ _
   | exact ih2 _ _ _ _ _ _ _ _ _ _ _ _
   | exact spec_BinOf.mono _ _ _
   | exact spec_Column.mono _ _ _ _ _ _
   | exact spec_CutsOf.mono _ _ _
   | exact spec_TableOk.mono _ _ _ _ _
   | exact LeO.none _
   | refine LeO.ite ?_ ?_
   | refine LeO.bind ?_ (fun _ => ?_)
theorem spec_GridOf.mono : ∀ a0 a1 a2 a3 a4 k,LeO (spec_GridOf.f k a0 a1 a2 a3 a4) (spec_GridOf.f (k + 1) a0 a1 a2 a3 a4) := by
 intro a0 a1 a2 a3 a4 k
 obtain ⟨ih0,ih1,ih2⟩ := spec_GridOf.mono_l k
 unfold spec_GridOf.f
 repeat' first
   | (with_reducible exact ih0 _ _ _ _ _ _)
   | (with_reducible exact ih1 _ _ _ _ _ _ _ _)
   | (with_reducible exact ih2 _ _ _ _ _ _ _ _ _ _ _ _)
   | (with_reducible exact spec_BinOf.mono _ _ _)
   | (with_reducible exact spec_Column.mono _ _ _ _ _ _)
   | (with_reducible exact spec_CutsOf.mono _ _ _)
   | (with_reducible exact spec_TableOk.mono _ _ _ _ _)
   | (with_reducible exact LeO.refl _)
   | (with_reducible exact LeO.none _)
   | (with_reducible refine LeO.ite ?_ ?_)
   | (with_reducible refine LeO.bind ?_ (fun _ => ?_))
   | exact ih0 _ _ _ _ _ _
   | exact ih1 _ _ _ _ _ _ _ _
   | exact ih2 _ _ _ _ _ _ _ _ _ _ _ _
   | exact spec_BinOf.mono _ _ _
   | exact spec_Column.mono _ _ _ _ _ _
   | exact spec_CutsOf.mono _ _ _
   | exact spec_TableOk.mono _ _ _ _ _
   | exact LeO.none _
   | refine LeO.ite ?_ ?_
   | refine LeO.bind ?_ (fun _ => ?_)
set_option maxHeartbeats 8000000 in
set_option maxRecDepth 100000 in
theorem spec_GridOf.calls (k : Nat) (A0_0 : Option Addr) (c0_0 : Nat) (l0_0 : List ByteArray) (a0_1 : ByteArray) (A0_2 : Option Addr) (c0_2 : Nat) (l0_2 : List (List Int)) (A0_3 : Option Addr) (c0_3 : Nat) (l0_3 : List Int) (a1 : Int) (r1 : List (List Int)) (r2 : List (List Int)) (w : World) (hr0_0 : Kd.C Kd.string w A0_0 l0_0.length l0_0) (hc0_0 : l0_0.length ≤ c0_0) (hr0_2 : Kd.C (Kd.slice 3 (Kd.int .i64)) w A0_2 l0_2.length l0_2) (hc0_2 : l0_2.length ≤ c0_2) (hr0_3 : Kd.C (Kd.int .i64) w A0_3 l0_3.length l0_3) (hc0_3 : l0_3.length ≤ c0_3) (h : spec_GridOf.f k l0_0 a0_1 l0_2 l0_3 a1 = some (r1,r2)) :
  Calls Try.prog 5 #[.agg #[.slice A0_0 l0_0.length c0_0,.string a0_1,.slice A0_2 l0_2.length c0_2,.slice A0_3 l0_3.length c0_3],.int .i64 a1] w fun e w' => ∃ v0_ v1_ : Value,e = .returned (.agg #[v0_,v1_]) ∧ Kd.S (Kd.slice 3 (Kd.int .i64)) 24 w' w.heap.size (fun k_ => some k_ ≠ (v1_ : Value).ownBlock) v0_ r1 ∧ Kd.S (Kd.slice 3 (Kd.int .i64)) 24 w' w.heap.size (fun k_ => some k_ ≠ (v0_ : Value).ownBlock) v1_ r2 ∧ Below w.heap.size w w' := by
 have hu31 := Try.underlying31
 have hu29 := Try.underlying29
 have HR0_0 := Aside0.mk hr0_0
 have HC0_0 := Aside0.mk hc0_0
 clear hr0_0 hc0_0
 have HR0_2 := Aside0.mk hr0_2
 have HC0_2 := Aside0.mk hc0_2
 clear hr0_2 hc0_2
 have HR0_3 := Aside0.mk hr0_3
 have HC0_3 := Aside0.mk hc0_3
 clear hr0_3 hc0_3
 have HB := Aside0.mk (Below.refl w.heap.size w)
 have H := h
 clear h
 unfold spec_GridOf.f at H
 have HC3 := Aside0.mk H
 clear H
 go_enter Try.func5,Try.ntmps5
 go_upto_region 2 with (first | ((with_reducible refine gate_dst (N := 2) rfl ?_);refine bE 2 #[.slice A0_0 l0_0.length c0_0,.string a0_1,.slice A0_2 l0_2.length c0_2,.slice A0_3 l0_3.length c0_3] 31 (h := ?_);intro gb235 hg w4 hbox hb;have n_ := jA (below_step Z297 hb) (jA (hbox) (jA ((Z254 : w.heap.size ≤ gb235)) (Aside0.mk ((Z254 : w.heap.size ≤ gb235)))));clear HB;obtain ⟨HB,BK235,GW235,GE235⟩ := n_;clear hb hbox hg) | ((with_reducible refine gate_dst (N := 4) rfl ?_);refine bE 4 #[.slice none 0 0,.slice none 0 0] 29 (h := ?_);intro gb236 hg w5 hbox hb;have n_ := jA (blk_below (g := gb235) (o := .cells #[.slice A0_0 l0_0.length c0_0,.string a0_1,.slice A0_2 l0_2.length c0_2,.slice A0_3 l0_3.length c0_3] 31 (0,0)) Z287 hb) (jA (below_step Z263 hb) (jA (hbox) (jA ((Z101 : w.heap.size ≤ gb236)) (jA ((Z101 : w.heap.size ≤ gb236)) (jA ((Z94 : gb235 ≠ gb236)) (Aside0.mk ((Z97 : gb236 ≠ gb235))))))));clear BK235 HB;obtain ⟨BK235,HB,BK236,GW236,GE236,NB235_236,NB236_235⟩ := n_;clear hb hbox hg) | ((with_reducible refine gate_dst (N := 5) rfl ?_);refine bE 5 #[.slice none 0 0,.slice none 0 0] 29 (h := ?_);intro gb237 hg w6 hbox hb;have n_ := jA (blk_below (g := gb235) (o := .cells #[.slice A0_0 l0_0.length c0_0,.string a0_1,.slice A0_2 l0_2.length c0_2,.slice A0_3 l0_3.length c0_3] 31 (0,0)) Z287 hb) (jA (blk_below (g := gb236) (o := .cells #[.slice none 0 0,.slice none 0 0] 29 (0,0)) Z226 hb) (jA (below_step Z248 hb) (jA (hbox) (jA ((Z89 : w.heap.size ≤ gb237)) (jA ((Z89 : w.heap.size ≤ gb237)) (jA ((Z94 : gb235 ≠ gb237)) (jA ((Z97 : gb237 ≠ gb235)) (jA ((by rw [hg];exact Nat.ne_of_lt (blk_lt (g := gb236) (o := .cells #[.slice none 0 0,.slice none 0 0] 29 (0,0)) Z226) : gb236 ≠ gb237)) (Aside0.mk ((by rw [hg];exact Nat.ne_of_gt (blk_lt (g := gb236) (o := .cells #[.slice none 0 0,.slice none 0 0] 29 (0,0)) Z226) : gb237 ≠ gb236)))))))))));clear BK235 BK236 HB;obtain ⟨BK235,BK236,HB,BK237,GW237,GE237,NB235_237,NB237_235,NB236_237,NB237_236⟩ := n_;clear hb hbox hg;have hnb7 := NB237_235.out;have hnc7 := NB235_237.out;have hnb8 := NB237_236.out;have hnc8 := NB236_237.out;obtain ⟨hcz9_0,hcz9_1,hfz9_0,hfz9_1⟩ := cells2 BK237.out))
 (try simp only [Act.put,List.setIfInBounds_toArray,List.set_cons_zero,List.set_cons_succ])
 go_cut [19] (fun v19 wc => ∃ (kq : Nat) (x19_2 : Bool),v19 = .bool x19_2 ∧ Aside0 (spec_GridOf.j0 kq a1 x19_2 l0_0 a0_1 l0_2 l0_3 = some (r1,r2)) ∧ Aside0 (kq ≤ k) ∧ Aside0 (wc.heap[gb235]? = some (.cells #[(.slice A0_0 l0_0.length c0_0),.string a0_1,(.slice A0_2 l0_2.length c0_2),(.slice A0_3 l0_3.length c0_3)] 31 (0,0))) ∧ Aside0 (wc.heap[gb236]? = some (.cells #[(.slice none 0 0),(.slice none 0 0)] 29 (0,0))) ∧ Aside0 (wc.heap[gb237]? = some (.cells #[(.slice none 0 0),(.slice none 0 0)] 29 (0,0))) ∧ Aside0 (Below w.heap.size w wc))
 case first =>
  have H := HC3.out
  clear HC3
  obtain ⟨t238,A100,H⟩ := Option.bind_eq_some_iff.mp H
  have A10 := Aside0.mk A100
  clear A100
  by_cases c11 : t238 = true
  rotate_left
  ·replace c11 := Bool.eq_false_iff.mpr c11
   subst c11
   rw [if_neg Bool.false_ne_true] at H
   have H' := Aside0.mk H
   clear H
   have hnb17 := NB235_236.out
   have hnc17 := NB236_235.out
   have hnb18 := NB235_237.out
   have hnc18 := NB237_235.out
   obtain ⟨hcz19_0,hcz19_1,hcz19_2,hcz19_3,hfz19_0,hfz19_1,hfz19_2,hfz19_3⟩ := cells4 BK235.out
   go_wp2_with (first | ((with_reducible refine gate_callee (f := 16) rfl ?_);refine goesL_ (some 13) rfl rfl Try.func16 Z236 rfl #[.agg #[.slice A0_0 l0_0.length c0_0,.string a0_1,.slice A0_2 l0_2.length c0_2,.slice A0_3 l0_3.length c0_3]] rfl Z146 ?_;(with_reducible refine (spec_TableOk.calls k _ _ l0_0 a0_1 _ _ l0_2 _ _ l0_3 false _ ?side1 ?side2 ?side3 ?side4 ?side5 ?side6 A10.out).mono ?_);(case side1 => exact Z75);(case side2 => exact Z233);(case side3 => exact Z73);(case side4 => exact Z234);(case side5 => exact Z71);(case side6 => exact Z235);rintro e w20 ⟨rfl,hb⟩;refine ⟨_,rfl,?_⟩;have n_ := Z5;clear BK235 BK236 BK237 HB;obtain ⟨BK235,BK236,BK237,HB⟩ := n_;(try clear hb);(try clear hb2);(try clear hk);(try clear hi)))
   go_meet
   case rel => exact ⟨_,(true),Z218,H',⟨Z223⟩,⟨Z287⟩,⟨Z226⟩,⟨Z229⟩,⟨Z241⟩⟩
  subst c11
  rw [if_pos rfl] at H
  obtain ⟨t239,A120,H⟩ := Option.bind_eq_some_iff.mp H
  have A12 := Aside0.mk A120
  clear A120
  have H' := Aside0.mk H
  clear H
  have hnb13 := NB235_236.out
  have hnc13 := NB236_235.out
  have hnb14 := NB235_237.out
  have hnc14 := NB237_235.out
  obtain ⟨hcz15_0,hcz15_1,hcz15_2,hcz15_3,hfz15_0,hfz15_1,hfz15_2,hfz15_3⟩ := cells4 BK235.out
  go_wp2_with (first | ((with_reducible refine gate_callee (f := 16) rfl ?_);refine goesL_ (some 13) rfl rfl Try.func16 Z236 rfl #[.agg #[.slice A0_0 l0_0.length c0_0,.string a0_1,.slice A0_2 l0_2.length c0_2,.slice A0_3 l0_3.length c0_3]] rfl Z146 ?_;(with_reducible refine (spec_TableOk.calls k _ _ l0_0 a0_1 _ _ l0_2 _ _ l0_3 true _ ?side1 ?side2 ?side3 ?side4 ?side5 ?side6 A10.out).mono ?_);(case side1 => exact Z75);(case side2 => exact Z233);(case side3 => exact Z73);(case side4 => exact Z234);(case side5 => exact Z71);(case side6 => exact Z235);rintro e w16 ⟨rfl,hb⟩;refine ⟨_,rfl,?_⟩;have n_ := Z5;clear BK235 BK236 BK237 HB;obtain ⟨BK235,BK236,BK237,HB⟩ := n_;(try clear hb);(try clear hb2);(try clear hk);(try clear hi)) | (go_at_call 17;(with_reducible refine (spec_l1In.calls a1 2 8 t239 _ A12.out).mono ?_);rintro e w' ⟨rfl,⟨nd,rfl⟩⟩))
  go_meet
  case rel => exact ⟨_,(!t239),Z218,H',⟨Z223⟩,⟨Z287⟩,⟨Z226⟩,⟨Z229⟩,⟨Z241⟩⟩
 case rest =>
  clear HC3
  try clear c1
  try clear p2
  try clear c5
  try clear c7
  try clear c8
  try clear c11
  try clear c13
  try clear c14
  try clear c16
  try clear c17
  try clear c18
  obtain ⟨kq,x19_2,rfl,HA,HJ2,BK235,BK236,BK237,HB⟩ := hcut
  cases kq with
  | zero => exact absurd HA.out (by simp [spec_GridOf.j0])
  | succ kj2 =>
   have H := HA.out
   clear HA
   simp only [spec_GridOf.j0] at H
   by_cases c21 : x19_2 = true
   ·subst c21
    rw [if_pos rfl] at H
    simp only [Option.some.injEq,Prod.mk.injEq] at H
    obtain ⟨rfl,rfl⟩ := H
    have hnb22 := NB237_235.out
    have hnc22 := NB235_237.out
    have hnb23 := NB237_236.out
    have hnc23 := NB236_237.out
    obtain ⟨hcz24_0,hcz24_1,hfz24_0,hfz24_1⟩ := cells2 BK237.out
    have hnb25 := NB236_235.out
    have hnc25 := NB235_236.out
    obtain ⟨hcz26_0,hcz26_1,hfz26_0,hfz26_1⟩ := cells2 BK236.out
    go_wp2
    refine bodyPost_ret (results_cell_row rfl _ _ gb236 29 #[.slice none 0 0,.slice none 0 0] (0,0) _ rfl (by refine bP ?_;refine blk_put (cs := #[.slice none 0 0,.slice none 0 0]) ?_ 1 _ rfl;refine bP ?_;refine blk_put (cs := #[.slice none 0 0,.slice none 0 0]) ?_ 0 _ rfl;refine bP ?_;exact BK236.out) Try.underlying29 rfl Z236) rfl ?_
    exact ⟨_,_,Z207,Z145,Z145,Z241⟩
   replace c21 := Bool.eq_false_iff.mpr c21
   subst c21
   rw [if_neg Bool.false_ne_true] at H
   have H' := Aside0.mk H
   clear H
   go_wp2
   go_loopg [6] kj2 (fun kq v6 w' => ∃ (x6_2 : Int) (x238000_2 : List (List Int)) (x238001_2 : List (List Int)) (u238000 : Value) (u238001 : Value),v6 = .int .i64 x6_2 ∧ Aside0 (spec_GridOf.l0 kq a1 x6_2 l0_0 a0_1 l0_2 l0_3 x238000_2 x238001_2 = some (r1,r2)) ∧ Aside0 (kq ≤ kj2) ∧ Aside0 (Kd.S (Kd.slice 3 (Kd.int .i64)) 24 w' w.heap.size (fun k_ => some k_ ≠ (u238001 : Value).ownBlock) u238000 x238000_2) ∧ Aside0 (Kd.S (Kd.slice 3 (Kd.int .i64)) 24 w' w.heap.size (fun k_ => some k_ ≠ (u238000 : Value).ownBlock) u238001 x238001_2) ∧ Aside0 (w'.heap[gb235]? = some (.cells #[(.slice A0_0 l0_0.length c0_0),.string a0_1,(.slice A0_2 l0_2.length c0_2),(.slice A0_3 l0_3.length c0_3)] 31 (0,0))) ∧ Aside0 (w'.heap[gb236]? = some (.cells #[(.slice none 0 0),(.slice none 0 0)] 29 (0,0))) ∧ Aside0 (w'.heap[gb237]? = some (.cells #[u238000,u238001] 29 (0,0))) ∧ Aside0 (Below w.heap.size w w'))
   case atStart => exact ⟨(0),(([] : List (List Int))),(([] : List (List Int))),(.slice none 0 0),(.slice none 0 0),Z218,H',⟨Nat.le_refl _⟩,⟨Z145⟩,⟨Z145⟩,⟨Z287⟩,⟨Z226⟩,⟨Z229⟩,⟨Z241⟩⟩
   case round =>
    clear H'
    try clear c1
    try clear c2
    try clear p2
    try clear c5
    try clear c7
    try clear c8
    try clear c11
    try clear c13
    try clear c14
    try clear c16
    try clear c17
    try clear c18
    try clear c21
    try clear c22
    try clear c23
    try clear c25
    try clear p2
    obtain ⟨x6_2,x238000_2,x238001_2,u238000,u238001,rfl,HA,HK2,HO_238000,HO_238001,BK235,BK236,BK237,HB⟩ := hrel
    cases gk with
    | zero => exact absurd HA.out (by simp [spec_GridOf.l0])
    | succ k2 =>
     have H := HA.out
     clear HA
     simp only [spec_GridOf.l0] at H
     by_cases c27 : x6_2 < (l0_0.length : Int)
     rotate_left
     ·rw [if_neg c27] at H
      have c27b0 : decide (x6_2 < (l0_0.length : Int)) = false := decide_eq_false c27
      clear c27
      simp only [Option.some.injEq,Prod.mk.injEq] at H
      obtain ⟨rfl,rfl⟩ := H
      have hnb59 := NB235_236.out
      have hnc59 := NB236_235.out
      have hnb60 := NB235_237.out
      have hnc60 := NB237_235.out
      obtain ⟨hcz61_0,hcz61_1,hcz61_2,hcz61_3,hfz61_0,hfz61_1,hfz61_2,hfz61_3⟩ := cells4 BK235.out
      have hnb62 := NB237_236.out
      have hnc62 := NB236_237.out
      obtain ⟨hcz63_0,hcz63_1,hfz63_0,hfz63_1⟩ := cells2 BK237.out
      obtain ⟨Ao64,co64,eo64⟩ := Kd.S_slice HO_238000.out
      subst eo64
      obtain ⟨hcz65_0,hcz65_1,hfz65_0,hfz65_1⟩ := cells2 BK236.out
      obtain ⟨Ao66,co66,eo66⟩ := Kd.S_slice HO_238001.out
      subst eo66
      go_wp2
      refine bodyPost_ret (results_cell_row rfl _ _ gb236 29 #[.slice Ao64 x238000_2.length co64,.slice Ao66 x238001_2.length co66] (0,0) _ rfl (by refine bP ?_;refine blk_put (cs := #[.slice Ao64 x238000_2.length co64,.slice none 0 0]) ?_ 1 _ rfl;refine bP ?_;refine blk_put (cs := #[.slice none 0 0,.slice none 0 0]) ?_ 0 _ rfl;refine bP ?_;exact BK236.out) Try.underlying29 rfl Z236) rfl ?_
      exact ⟨_,_,Z207,by (with_reducible repeat (first | apply Kd.S_alloc | apply Kd.S_drewN | apply Kd.S_drew));exact Kd.S_mono (Kd.S_far (p := ⟨gb236,1,none⟩) (Kd.S_far (p := ⟨gb236,0,none⟩) (Kd.S_types HO_238000.out BK236.out Z293) (fun _ hk => hk.2) (.slice Ao64 x238000_2.length co64)) (fun _ hk => hk.2) (.slice Ao66 x238001_2.length co66)) (fun _ hk => hk.1),by (with_reducible repeat (first | apply Kd.S_alloc | apply Kd.S_drewN | apply Kd.S_drew));exact Kd.S_mono (Kd.S_far (p := ⟨gb236,1,none⟩) (Kd.S_far (p := ⟨gb236,0,none⟩) (Kd.S_types HO_238001.out BK236.out Z293) (fun _ hk => hk.2) (.slice Ao64 x238000_2.length co64)) (fun _ hk => hk.2) (.slice Ao66 x238001_2.length co66)) (fun _ hk => hk.1),Z241⟩
     rw [if_pos c27] at H
     have c27b0 : decide (x6_2 < (l0_0.length : Int)) = true := decide_eq_true c27
     clear c27
     obtain ⟨t240,A280,H⟩ := Option.bind_eq_some_iff.mp H
     have A28 := Aside0.mk A280
     clear A280
     obtain ⟨t243,A290,H⟩ := Option.bind_eq_some_iff.mp H
     have A29 := Aside0.mk A290
     clear A290
     obtain ⟨y246,hyy⟩ : ∃ y_ : List Int,y_ = (([] : List Int)) := ⟨_,rfl⟩
     replace H : (spec_GridOf.l1 k2 a1 x6_2 t240 t243 y246 0 l0_0 a0_1 l0_2 l0_3 x238000_2 x238001_2) = some (r1,r2) := zR
     have Ny246 := Aside0.mk hyy
     clear hyy
     have H' := Aside0.mk H
     clear H
     have hnb30 := NB235_236.out
     have hnc30 := NB236_235.out
     have hnb31 := NB235_237.out
     have hnc31 := NB237_235.out
     obtain ⟨hcz32_0,hcz32_1,hcz32_2,hcz32_3,hfz32_0,hfz32_1,hfz32_2,hfz32_3⟩ := cells4 BK235.out
     go_wp2_with (first | ((with_reducible refine gate_callee (f := 18) rfl ?_);refine goesL_ (some 30) rfl rfl Try.func18 Z236 rfl #[.agg #[.slice A0_0 l0_0.length c0_0,.string a0_1,.slice A0_2 l0_2.length c0_2,.slice A0_3 l0_3.length c0_3],.int .i64 x6_2] rfl Z146 ?_;(with_reducible refine (spec_Column.calls k2 _ _ l0_0 a0_1 _ _ l0_2 _ _ l0_3 x6_2 t240 _ ?side1 ?side2 ?side3 ?side4 ?side5 ?side6 A28.out).mono ?_);(case side1 => exact Z105);(case side2 => exact Z233);(case side3 => exact Z108);(case side4 => exact Z234);(case side5 => exact Z107);(case side6 => exact Z235);rintro e w33 ⟨v241,rfl,ho0,hb⟩;refine ⟨_,rfl,?_⟩;have n_ := jA (Kd.S_elder' Z163 (Kd.R_base ho0) hb) (jA (Kd.S_elder' Z162 (Kd.R_base ho0) hb) (jA (Kd.R_lower ho0 (below_size Z241)) (jA (blk_below (g := gb235) (o := .cells #[.slice A0_0 l0_0.length c0_0,.string a0_1,.slice A0_2 l0_2.length c0_2,.slice A0_3 l0_3.length c0_3] 31 (0,0)) Z287 hb) (jA (blk_below (g := gb236) (o := .cells #[.slice none 0 0,.slice none 0 0] 29 (0,0)) Z226 hb) (jA (blk_below (g := gb237) (o := .cells #[u238000,u238001] 29 (0,0)) Z229 hb) (Aside0.mk (below_step Z241 hb)))))));clear HO_238000 HO_238001 BK235 BK236 BK237 HB;obtain ⟨HO_238000,HO_238001,HO242,BK235,BK236,BK237,HB⟩ := n_;(try clear hb);(try clear hb2);(try clear hk);(try clear hi);(try clear ho0);obtain ⟨Ao34,co34,eo34⟩ := Kd.R_slice HO242.out;subst eo34) | ((with_reducible refine gate_callee (f := 19) rfl ?_);refine goesL_ (some 33) rfl rfl Try.func19 Z236 rfl #[.slice Ao34 t240.length co34,.int .i64 a1] rfl Z146 ?_;(with_reducible refine (spec_CutsOf.calls k2 _ _ t240 a1 t243 _ ?side1 ?side2 A29.out).mono ?_);(case side1 => repeat (first | exact (Kd.R_reads' HO242.out).2.2 | (with_reducible refine Kd.C_alloc ?_ _) | (with_reducible refine Kd.C_drewN ?_ _) | (with_reducible refine Kd.C_drew ?_)));(case side2 => exact (Kd.R_reads' HO242.out).2.1);rintro e w35 ⟨v244,rfl,ho0,hb⟩;refine ⟨_,rfl,?_⟩;have n_ := jA (Kd.S_elder' Z163 (Kd.R_base ho0) hb) (jA (Kd.S_elder' Z162 (Kd.R_base ho0) hb) (jA (Kd.R_elder' Z170 (Kd.R_base ho0) hb) (jA (Kd.R_lower (Kd.R_new' ho0 (Kd.R_lt Z170)) (below_size Z241)) (jA (blk_below (g := gb235) (o := .cells #[.slice A0_0 l0_0.length c0_0,.string a0_1,.slice A0_2 l0_2.length c0_2,.slice A0_3 l0_3.length c0_3] 31 (0,0)) Z287 hb) (jA (blk_below (g := gb236) (o := .cells #[.slice none 0 0,.slice none 0 0] 29 (0,0)) Z226 hb) (jA (blk_below (g := gb237) (o := .cells #[u238000,u238001] 29 (0,0)) Z229 hb) (Aside0.mk (below_step Z241 hb))))))));clear HO_238000 HO_238001 HO242 BK235 BK236 BK237 HB;obtain ⟨HO_238000,HO_238001,HO242,HO245,BK235,BK236,BK237,HB⟩ := n_;(try clear hb);(try clear hb2);(try clear hk);(try clear hi);(try clear ho0)) | ((with_reducible refine gate_dst (N := 34) rfl ?_);refine Kd.R_lit (Kd.int .i64) _ 3 ?hg (N := 34) ?hd (xs := ([] : List Int)) (inner := []) (ok := fun _ => True) (okp := fun _ => True) ?hr ?hp (fun _ hk => hk) trivial (Below.refl _ _) (Nat.le_refl _) Z294 ?_;(case hd => rfl);(case hg => rfl);(case hr => exact Z219);(case hp => exact Z232);intro v247 w36 ho37 hb hg_ hnew_;clear hg_ hnew_;(first | rw [← Ny246.out] at ho37 | (simp only [Int.reduceToNat] at ho37;rw [← Ny246.out] at ho37));have n_ := jA (Kd.S_elder' Z163 (Kd.R_base ho37) hb) (jA (Kd.S_elder' Z162 (Kd.R_base ho37) hb) (jA (Kd.R_elder' Z170 (Kd.R_base ho37) hb) (jA (Kd.R_elder' Z175 (Kd.R_base ho37) hb) (jA (Kd.R_lower (Kd.R_new' (Kd.R_new' ho37 (Kd.R_lt Z170)) (Kd.R_lt Z175)) (below_size Z241)) (jA (blk_below (g := gb235) (o := .cells #[.slice A0_0 l0_0.length c0_0,.string a0_1,.slice A0_2 l0_2.length c0_2,.slice A0_3 l0_3.length c0_3] 31 (0,0)) Z287 hb) (jA (blk_below (g := gb236) (o := .cells #[.slice none 0 0,.slice none 0 0] 29 (0,0)) Z226 hb) (jA (blk_below (g := gb237) (o := .cells #[u238000,u238001] 29 (0,0)) Z229 hb) (Aside0.mk (below_step Z241 hb)))))))));clear HO_238000 HO_238001 HO242 HO245 BK235 BK236 BK237 HB;obtain ⟨HO_238000,HO_238001,HO242,HO245,HO248,BK235,BK236,BK237,HB⟩ := n_;clear hb ho37))
     go_loopg [9,10] k2 (fun kq v9 v10 w' => ∃ (x9_3 : List Int) (x10_3 : Int),v10 = .int .i64 x10_3 ∧ Aside0 (spec_GridOf.l1 kq a1 x6_2 t240 t243 x9_3 x10_3 l0_0 a0_1 l0_2 l0_3 x238000_2 x238001_2 = some (r1,r2)) ∧ Aside0 (kq ≤ k2) ∧ Aside0 (Kd.R (Kd.int .i64) 3 w' w.heap.size (fun k_ => some k_ ≠ (v244 : Value).ownBlock ∧ some k_ ≠ (v9 : Value).ownBlock) (.slice Ao34 t240.length co34) t240) ∧ Aside0 (Kd.R (Kd.int .i64) 3 w' w.heap.size (fun k_ => some k_ ≠ ((.slice Ao34 t240.length co34) : Value).ownBlock ∧ some k_ ≠ (v9 : Value).ownBlock) v244 t243) ∧ Aside0 (Kd.R (Kd.int .i64) 3 w' w.heap.size (fun k_ => some k_ ≠ ((.slice Ao34 t240.length co34) : Value).ownBlock ∧ some k_ ≠ (v244 : Value).ownBlock) v9 x9_3) ∧ Aside0 (Kd.S (Kd.slice 3 (Kd.int .i64)) 24 w' w.heap.size (fun k_ => some k_ ≠ ((.slice Ao34 t240.length co34) : Value).ownBlock ∧ some k_ ≠ (v244 : Value).ownBlock ∧ some k_ ≠ (v9 : Value).ownBlock ∧ some k_ ≠ (u238001 : Value).ownBlock) u238000 x238000_2) ∧ Aside0 (Kd.S (Kd.slice 3 (Kd.int .i64)) 24 w' w.heap.size (fun k_ => some k_ ≠ ((.slice Ao34 t240.length co34) : Value).ownBlock ∧ some k_ ≠ (v244 : Value).ownBlock ∧ some k_ ≠ (v9 : Value).ownBlock ∧ some k_ ≠ (u238000 : Value).ownBlock) u238001 x238001_2) ∧ Aside0 (w'.heap[gb235]? = some (.cells #[(.slice A0_0 l0_0.length c0_0),.string a0_1,(.slice A0_2 l0_2.length c0_2),(.slice A0_3 l0_3.length c0_3)] 31 (0,0))) ∧ Aside0 (w'.heap[gb236]? = some (.cells #[(.slice none 0 0),(.slice none 0 0)] 29 (0,0))) ∧ Aside0 (w'.heap[gb237]? = some (.cells #[u238000,u238001] 29 (0,0))) ∧ Aside0 (Below w.heap.size w w'))
     case atStart => exact ⟨(y246),(0),Z218,H',⟨Nat.le_refl _⟩,⟨by (with_reducible repeat (first | apply Kd.R_alloc | apply Kd.R_drewN | apply Kd.R_drew));exact Kd.R_mono HO242.out (fun _ hk => ⟨hk.1.2,hk.2⟩)⟩,⟨by (with_reducible repeat (first | apply Kd.R_alloc | apply Kd.R_drewN | apply Kd.R_drew));exact Kd.R_mono HO245.out (fun _ hk => ⟨hk.1.2,hk.2⟩)⟩,⟨by (with_reducible repeat (first | apply Kd.R_alloc | apply Kd.R_drewN | apply Kd.R_drew));exact Kd.R_mono HO248.out (fun _ hk => ⟨hk.1.2,hk.2⟩)⟩,⟨by (with_reducible repeat (first | apply Kd.S_alloc | apply Kd.S_drewN | apply Kd.S_drew));exact Kd.S_mono HO_238000.out (fun _ hk => ⟨hk.1.1.2,⟨hk.1.2,⟨hk.2,hk.1.1.1⟩⟩⟩)⟩,⟨by (with_reducible repeat (first | apply Kd.S_alloc | apply Kd.S_drewN | apply Kd.S_drew));exact Kd.S_mono HO_238001.out (fun _ hk => ⟨hk.1.1.2,⟨hk.1.2,⟨hk.2,hk.1.1.1⟩⟩⟩)⟩,⟨Z287⟩,⟨Z226⟩,⟨Z229⟩,⟨Z241⟩⟩
     case round =>
      clear H'
      try clear c1
      try clear c2
      try clear p2
      try clear c3
      try clear c5
      try clear c7
      try clear c8
      try clear c11
      try clear c13
      try clear c14
      try clear c16
      try clear c17
      try clear c18
      try clear c19
      try clear c21
      try clear c22
      try clear c23
      try clear c25
      try clear c27
      try clear c27b0
      try clear c30
      try clear c31
      try clear p2
      obtain ⟨x9_3,x10_3,rfl,HA,HK3,HO_7,HO_8,HO_9,HO_238000,HO_238001,BK235,BK236,BK237,HB⟩ := hrel
      cases gk with
      | zero => exact absurd HA.out (by simp [spec_GridOf.l1])
      | succ k3 =>
       have H := HA.out
       clear HA
       simp only [spec_GridOf.l1] at H
       by_cases c38 : x10_3 < (t240.length : Int)
       ·rw [if_pos c38] at H
        have c38b0 : decide (x10_3 < (t240.length : Int)) = true := decide_eq_true c38
        clear c38
        obtain ⟨c39,H⟩ := ifp H
        have c39b0 : decide (0 ≤ x10_3) = true := decide_eq_true c39
        clear c39
        obtain ⟨t250,A400,H⟩ := Option.bind_eq_some_iff.mp H
        have A40 := Aside0.mk A400
        clear A400
        obtain ⟨c41,H⟩ := ifp H
        have LMc41 := Aside0.mk c41
        clear c41
        obtain ⟨y251,hyy⟩ : ∃ y_ : List Int,y_ = (x9_3 ++ [t250]) := ⟨_,rfl⟩
        replace H : (spec_GridOf.l1 k3 a1 x6_2 t240 t243 y251 (wrap64 (x10_3 + 1)) l0_0 a0_1 l0_2 l0_3 x238000_2 x238001_2) = some (r1,r2) := zR
        have Ny251 := Aside0.mk hyy
        clear hyy
        have H' := Aside0.mk H
        clear H
        have p249 : 0 ≤ (x10_3 : Int) := of_decide_eq_true Z217
        have q249 : x10_3 < (t240.length : Int) := of_decide_eq_true Z217
        obtain ⟨ad249,e249,hx249_0⟩ := Kd.at_int (Kd.R_reads' HO_7.out).2.2 x10_3 p249 q249
        cases e249
        replace p249 := eq_true p249
        replace q249 := eq_true q249
        obtain ⟨Ao42,co42,eo42⟩ := Kd.R_slice HO_8.out
        subst eo42
        go_wp2_with (first | ((with_reducible refine gate_callee (f := 20) rfl ?_);refine goesL_ (some 47) rfl rfl Try.func20 Z236 rfl #[.slice Ao42 t243.length co42,.int .i64 (rd t240 x10_3)] rfl Z146 ?_;(with_reducible refine (spec_BinOf.calls k3 _ _ t243 (rd t240 x10_3) t250 _ ?side1 ?side2 A40.out).mono ?_);(case side1 => repeat (first | exact (Kd.R_reads' HO_8.out).2.2 | (with_reducible refine Kd.C_alloc ?_ _) | (with_reducible refine Kd.C_drewN ?_ _) | (with_reducible refine Kd.C_drew ?_)));(case side2 => exact (Kd.R_reads' HO_8.out).2.1);rintro e w' ⟨rfl,⟨nd,rfl⟩⟩;refine ⟨_,rfl,?_⟩) | ((with_reducible refine gate_builtin (b := .append) (xs := #[.tmp 41,.tmp 48]) rfl ?_);at_builtin;refine Kd.R_append (Kd.int .i64) (w0 := w) w.heap.size rfl (.tmp 41) (.tmp 48) 24 3 (.int .i64 0) 8 rfl Try.underlying24 info3 rfl Z293 Z237 u9 x9_3 t250 [.int .i64 t250] (fun k_ => some k_ ≠ (.slice (some ad249) t240.length co34 : Value).ownBlock ∧ some k_ ≠ (.slice Ao42 t243.length co42 : Value).ownBlock) (fun _ => False) rfl rfl ?aP (fun _ hk => hk.elim) ?aF ?aO ?aB ?aS ?aL ?_;(case aP => exact rfl);(case aB => exact Z81);(case aF => exact (fun k_ hk => ⟨Kd.fresh' (Kd.R_lt Z274) k_ hk,Kd.fresh' (Kd.R_lt Z182) k_ hk⟩));(case aO => exact Z183);(case aS => exact Z79);(case aL => have := LMc41.out;omega);intro v252 w43 ho hb hg hat;rw [← Ny251.out] at ho;have n_ := jA (Kd.R_after (ok := (fun k_ => some k_ ≠ (.slice Ao42 t243.length co42 : Value).ownBlock)) Z274 hg hat) (jA (Kd.R_after (ok := (fun k_ => some k_ ≠ (.slice (some ad249) t240.length co34 : Value).ownBlock)) Z182 hg hat) (jA (Kd.S_after (ok := (fun k_ => some k_ ≠ (.slice (some ad249) t240.length co34 : Value).ownBlock ∧ some k_ ≠ (.slice Ao42 t243.length co42 : Value).ownBlock ∧ some k_ ≠ (u238001 : Value).ownBlock)) (by (with_reducible repeat (first | apply Kd.S_alloc | apply Kd.S_drewN | apply Kd.S_drew));exact Kd.S_mono HO_238000.out (fun _ hk => ⟨⟨hk.1,⟨hk.2.1,hk.2.2.2⟩⟩,hk.2.2.1⟩)) hg hat) (jA (Kd.S_after (ok := (fun k_ => some k_ ≠ (.slice (some ad249) t240.length co34 : Value).ownBlock ∧ some k_ ≠ (.slice Ao42 t243.length co42 : Value).ownBlock ∧ some k_ ≠ (u238000 : Value).ownBlock)) (by (with_reducible repeat (first | apply Kd.S_alloc | apply Kd.S_drewN | apply Kd.S_drew));exact Kd.S_mono HO_238001.out (fun _ hk => ⟨⟨hk.1,⟨hk.2.1,hk.2.2.2⟩⟩,hk.2.2.1⟩)) hg hat) (jA (blk_grown (g := gb235) (o := .cells #[.slice A0_0 l0_0.length c0_0,.string a0_1,.slice A0_2 l0_2.length c0_2,.slice A0_3 l0_3.length c0_3] 31 (0,0)) Z287 hg (Kd.R_ne HO_9.out BK235.out Z293)) (jA (blk_grown (g := gb236) (o := .cells #[.slice none 0 0,.slice none 0 0] 29 (0,0)) Z226 hg (Kd.R_ne HO_9.out BK236.out Z293)) (jA (blk_grown (g := gb237) (o := .cells #[u238000,u238001] 29 (0,0)) Z229 hg (Kd.R_ne HO_9.out BK237.out Z293)) (jA (hb) (Aside0.mk (ho)))))))));clear HO_7 HO_8 HO_238000 HO_238001 BK235 BK236 BK237 HB HO_9;obtain ⟨HO_7,HO_8,HO_238000,HO_238001,BK235,BK236,BK237,HB,HO253⟩ := n_;clear ho hb hg hat))
        go_roundg k3
        case measure => have := HJ2.out;have := HK2.out;have := HK3.out;omega
        case rel => exact ⟨(y251),(wrap64 (x10_3 + 1)),Z218,H',⟨Z215⟩,⟨Z274⟩,⟨Z182⟩,⟨by (with_reducible repeat (first | apply Kd.R_alloc | apply Kd.R_drewN | apply Kd.R_drew));exact HO253.out⟩,⟨by (with_reducible repeat (first | apply Kd.S_alloc | apply Kd.S_drewN | apply Kd.S_drew));exact Kd.S_mono HO_238000.out (fun _ hk => ⟨hk.1.1,⟨hk.1.2.1,⟨hk.2,hk.1.2.2⟩⟩⟩)⟩,⟨by (with_reducible repeat (first | apply Kd.S_alloc | apply Kd.S_drewN | apply Kd.S_drew));exact Kd.S_mono HO_238001.out (fun _ hk => ⟨hk.1.1,⟨hk.1.2.1,⟨hk.2,hk.1.2.2⟩⟩⟩)⟩,⟨Z287⟩,⟨Z226⟩,⟨Z229⟩,⟨Z241⟩⟩
       rw [if_neg c38] at H
       have c38b0 : decide (x10_3 < (t240.length : Int)) = false := decide_eq_false c38
       clear c38
       obtain ⟨c44,H⟩ := ifp H
       have LMc44 := Aside0.mk c44
       clear c44
       obtain ⟨y254,hyy⟩ : ∃ y_ : List (List Int),y_ = (x238000_2 ++ [t243]) := ⟨_,rfl⟩
       replace H : (if x238001_2.length < 5864062014805 then (spec_GridOf.l0 k3 a1 (wrap64 (x6_2 + 1)) l0_0 a0_1 l0_2 l0_3 y254 (x238001_2 ++ [x9_3])) else (none)) = some (r1,r2) := zR
       have Ny254 := Aside0.mk hyy
       clear hyy
       obtain ⟨c45,H⟩ := ifp H
       have LMc45 := Aside0.mk c45
       clear c45
       obtain ⟨y257,hyy⟩ : ∃ y_ : List (List Int),y_ = (x238001_2 ++ [x9_3]) := ⟨_,rfl⟩
       replace H : (spec_GridOf.l0 k3 a1 (wrap64 (x6_2 + 1)) l0_0 a0_1 l0_2 l0_3 y254 y257) = some (r1,r2) := zR
       have Ny257 := Aside0.mk hyy
       clear hyy
       have H' := Aside0.mk H
       clear H
       have hnb46 := NB237_235.out
       have hnc46 := NB235_237.out
       have hnb47 := NB237_236.out
       have hnc47 := NB236_237.out
       obtain ⟨hcz48_0,hcz48_1,hfz48_0,hfz48_1⟩ := cells2 BK237.out
       obtain ⟨Ao50,co50,eo50⟩ := Kd.R_slice HO_8.out
       subst eo50
       go_wp2_with (first | ((with_reducible refine gate_builtin (b := .append) (xs := #[.tmp 51,.tmp 53]) rfl ?_);at_builtin;refine Kd.S_append (Kd.slice 3 (Kd.int .i64)) (w0 := w) w.heap.size rfl (.tmp 51) (.tmp 53) 23 24 (.slice none 0 0) 24 rfl Try.underlying23 info24 rfl Z293 Z237 u238000 x238000_2 t243 [.slice Ao50 t243.length co50] (fun k_ => some k_ ≠ (.slice Ao34 t240.length co34 : Value).ownBlock ∧ some k_ ≠ (u9 : Value).ownBlock ∧ some k_ ≠ (u238001 : Value).ownBlock) (fun k_ => some k_ = (.slice Ao50 t243.length co50 : Value).ownBlock) rfl rfl ?aP (fun k_ hk_ => ((Kd.R_mono (ok' := fun k_ => ((fun k_ => some k_ ≠ (.slice Ao34 t240.length co34 : Value).ownBlock ∧ some k_ ≠ (u9 : Value).ownBlock ∧ some k_ ≠ (u238001 : Value).ownBlock)) k_ ∧ some k_ ≠ (u238000 : Value).ownBlock) (Kd.R_apart' (Kd.R_apart' (HO_8.out) (Kd.S_typed HO_238001.out) Z293) (Kd.S_typed HO_238000.out) Z293) (fun k_ hk => ⟨⟨hk.1.1.1,⟨hk.1.1.2,hk.1.2⟩⟩,hk.2⟩))).1 k_ hk_.symm) ?aF ?aO ?aB ?aS ?aL ?_;(case aP => exact Kd.M_row (Kd.R_mono (Kd.R_tight rfl (Kd.R_mono (ok' := fun k_ => ((fun k_ => some k_ ≠ (.slice Ao34 t240.length co34 : Value).ownBlock ∧ some k_ ≠ (u9 : Value).ownBlock ∧ some k_ ≠ (u238001 : Value).ownBlock)) k_ ∧ some k_ ≠ (u238000 : Value).ownBlock) (Kd.R_apart' (Kd.R_apart' (HO_8.out) (Kd.S_typed HO_238001.out) Z293) (Kd.S_typed HO_238000.out) Z293) (fun k_ hk => ⟨⟨hk.1.1.1,⟨hk.1.1.2,hk.1.2⟩⟩,hk.2⟩))) (fun _ h_ => h_)));(case aB => exact Z81);(case aF => exact (fun k_ hk => ⟨Kd.fresh' (Kd.R_lt Z274) k_ hk,Kd.fresh' (Kd.R_lt Z183) k_ hk,Kd.fresh' (Kd.S_lt Z162) k_ hk⟩));(case aO => exact (by (with_reducible repeat (first | apply Kd.S_alloc | apply Kd.S_drewN | apply Kd.S_drew));exact Kd.S_mono HO_238000.out (fun k_ hk => ⟨⟨hk.1,⟨hk.2.2.1,hk.2.2.2⟩⟩,fun e_ => hk.2.1 e_⟩)));(case aS => exact Z79);(case aL => have := LMc44.out;omega);intro v255 w49 ho hb hg hat;rw [← Ny254.out] at ho;have n_ := jA (Kd.R_over' Z274 (Kd.S_typed Z163) Z293 hg) (jA (Kd.R_over' Z183 (Kd.S_typed Z163) Z293 hg) (jA (Kd.S_after (ok := (fun k_ => some k_ ≠ (.slice Ao34 t240.length co34 : Value).ownBlock ∧ some k_ ≠ (.slice Ao50 t243.length co50 : Value).ownBlock ∧ some k_ ≠ (u9 : Value).ownBlock)) (by (with_reducible repeat (first | apply Kd.S_alloc | apply Kd.S_drewN | apply Kd.S_drew));exact Kd.S_mono HO_238001.out (fun _ hk => ⟨⟨hk.1,⟨hk.2.1,hk.2.2.1⟩⟩,hk.2.2.2⟩)) hg hat) (jA (blk_grown (g := gb235) (o := .cells #[.slice A0_0 l0_0.length c0_0,.string a0_1,.slice A0_2 l0_2.length c0_2,.slice A0_3 l0_3.length c0_3] 31 (0,0)) Z287 hg (Kd.S_ne HO_238000.out BK235.out Z293)) (jA (blk_grown (g := gb236) (o := .cells #[.slice none 0 0,.slice none 0 0] 29 (0,0)) Z226 hg (Kd.S_ne HO_238000.out BK236.out Z293)) (jA (blk_grown (g := gb237) (o := .cells #[u238000,u238001] 29 (0,0)) Z229 hg (Kd.S_ne HO_238000.out BK237.out Z293)) (jA (hb) (Aside0.mk (ho))))))));clear HO_7 HO_9 HO_238001 BK235 BK236 BK237 HB HO_238000 HO_8;obtain ⟨HO_7,HO_9,HO_238001,BK235,BK236,BK237,HB,HO256⟩ := n_;clear ho hb hg hat;obtain ⟨Ao51,co51,eo51⟩ := Kd.S_slice HO256.out;subst eo51;obtain ⟨hcz52_0,hcz52_1,hfz52_0,hfz52_1⟩ := cells2 BK237.out) | ((with_reducible refine gate_store (t := 23) (p := 55) rfl ?_);refine store_event (t := 23) (p := 55) (v := ?vo_w53) (w1 := (w49.setCell ⟨gb237,0,none⟩ (.slice Ao51 y254.length co51))) ?hg ?ho ?hn ?hr ?_;(case ho => rfl);(case hg => rfl);(case hn => rfl);(case hr => exact Z219);intro w53 hw;have n0_ : Aside0 (Kd.R (Kd.int .i64) 3 w53 w.heap.size (fun k_ => some k_ ≠ (u9 : Value).ownBlock) (.slice Ao34 t240.length co34) t240) := ⟨(by rw [hw];exact (by (with_reducible repeat (first | apply Kd.R_alloc | apply Kd.R_drewN | apply Kd.R_drew));exact Kd.R_mono (Kd.R_far (p := ⟨gb237,0,none⟩) (Kd.R_types HO_7.out BK237.out Z293) (fun _ hk => hk.2) (.slice Ao51 y254.length co51)) (fun _ hk => hk.1.2)))⟩;have n1_ : Aside0 (Kd.R (Kd.int .i64) 3 w53 w.heap.size (fun k_ => some k_ ≠ (.slice Ao34 t240.length co34 : Value).ownBlock) u9 x9_3) := ⟨(by rw [hw];exact (by (with_reducible repeat (first | apply Kd.R_alloc | apply Kd.R_drewN | apply Kd.R_drew));exact Kd.R_mono (Kd.R_far (p := ⟨gb237,0,none⟩) (Kd.R_types HO_9.out BK237.out Z293) (fun _ hk => hk.2) (.slice Ao51 y254.length co51)) (fun _ hk => hk.1.1)))⟩;have n2_ : Aside0 (Kd.S (Kd.slice 3 (Kd.int .i64)) 24 w53 w.heap.size (fun k_ => some k_ ≠ (.slice Ao34 t240.length co34 : Value).ownBlock ∧ some k_ ≠ (u9 : Value).ownBlock ∧ some k_ ≠ (.slice Ao51 y254.length co51 : Value).ownBlock) u238001 x238001_2) := ⟨(by rw [hw];exact (by (with_reducible repeat (first | apply Kd.S_alloc | apply Kd.S_drewN | apply Kd.S_drew));exact Kd.S_mono (Kd.S_far (p := ⟨gb237,0,none⟩) (Kd.S_types HO_238001.out BK237.out Z293) (fun _ hk => hk.2) (.slice Ao51 y254.length co51)) (fun _ hk => ⟨hk.1.1.1,⟨hk.1.1.2.2,hk.1.2⟩⟩)))⟩;have n3_ : Aside0 (Kd.S (Kd.slice 3 (Kd.int .i64)) 24 w53 w.heap.size (fun k_ => some k_ ≠ (.slice Ao34 t240.length co34 : Value).ownBlock ∧ some k_ ≠ (u9 : Value).ownBlock ∧ some k_ ≠ (u238001 : Value).ownBlock) (.slice Ao51 y254.length co51) y254) := ⟨(by rw [hw];exact (by (with_reducible repeat (first | apply Kd.S_alloc | apply Kd.S_drewN | apply Kd.S_drew));exact Kd.S_mono (Kd.S_far (p := ⟨gb237,0,none⟩) (Kd.S_types HO256.out BK237.out Z293) (fun _ hk => hk.2) (.slice Ao51 y254.length co51)) (fun _ hk => ⟨hk.1.1,⟨hk.1.2.1,hk.1.2.2⟩⟩)))⟩;have n4_ : Aside0 (w53.heap[gb235]? = some (.cells #[.slice A0_0 l0_0.length c0_0,.string a0_1,.slice A0_2 l0_2.length c0_2,.slice A0_3 l0_3.length c0_3] 31 (0,0))) := ⟨(by rw [hw];exact Z213)⟩;have n5_ : Aside0 (w53.heap[gb236]? = some (.cells #[.slice none 0 0,.slice none 0 0] 29 (0,0))) := ⟨(by rw [hw];exact Z212)⟩;have n6_ : Aside0 (w53.heap[gb237]? = some (.cells #[.slice Ao51 y254.length co51,u238001] 29 (0,0))) := ⟨(by rw [hw];exact (by refine bP ?_;refine blk_put (cs := #[u238000,u238001]) ?_ 0 _ rfl;refine bP ?_;exact BK237.out))⟩;have n7_ : Aside0 (Below w.heap.size w w53) := ⟨(by rw [hw];exact Z241)⟩;clear hw;clear HO_7;clear HO_9;clear HO_238001;clear HO256;clear BK235;clear BK236;clear BK237;clear HB;have HO_7 := n0_;have HO_9 := n1_;have HO_238001 := n2_;have HO256 := n3_;have BK235 := n4_;have BK236 := n5_;have BK237 := n6_;have HB := n7_;clear n0_ n1_ n2_ n3_ n4_ n5_ n6_ n7_;obtain ⟨hcz54_0,hcz54_1,hfz54_0,hfz54_1⟩ := cells2 BK237.out;obtain ⟨Ao56,co56,eo56⟩ := Kd.R_slice HO_9.out;subst eo56) | ((with_reducible refine gate_builtin (b := .append) (xs := #[.tmp 57,.tmp 59]) rfl ?_);at_builtin;refine Kd.S_append (Kd.slice 3 (Kd.int .i64)) (w0 := w) w.heap.size rfl (.tmp 57) (.tmp 59) 23 24 (.slice none 0 0) 24 rfl Try.underlying23 info24 rfl Z293 Z237 u238001 x238001_2 x9_3 [.slice Ao56 x9_3.length co56] (fun k_ => some k_ ≠ (.slice Ao34 t240.length co34 : Value).ownBlock ∧ some k_ ≠ (.slice Ao51 y254.length co51 : Value).ownBlock) (fun k_ => some k_ = (.slice Ao56 x9_3.length co56 : Value).ownBlock) rfl rfl ?aP (fun k_ hk_ => ((Kd.R_mono (ok' := fun k_ => ((fun k_ => some k_ ≠ (.slice Ao34 t240.length co34 : Value).ownBlock ∧ some k_ ≠ (.slice Ao51 y254.length co51 : Value).ownBlock)) k_ ∧ some k_ ≠ (u238001 : Value).ownBlock) (Kd.R_apart' (Kd.R_apart' (HO_9.out) (Kd.S_typed HO256.out) Z293) (Kd.S_typed HO_238001.out) Z293) (fun k_ hk => ⟨⟨hk.1.1,hk.1.2⟩,hk.2⟩))).1 k_ hk_.symm) ?aF ?aO ?aB ?aS ?aL ?_;(case aP => exact Kd.M_row (Kd.R_mono (Kd.R_tight rfl (Kd.R_mono (ok' := fun k_ => ((fun k_ => some k_ ≠ (.slice Ao34 t240.length co34 : Value).ownBlock ∧ some k_ ≠ (.slice Ao51 y254.length co51 : Value).ownBlock)) k_ ∧ some k_ ≠ (u238001 : Value).ownBlock) (Kd.R_apart' (Kd.R_apart' (HO_9.out) (Kd.S_typed HO256.out) Z293) (Kd.S_typed HO_238001.out) Z293) (fun k_ hk => ⟨⟨hk.1.1,hk.1.2⟩,hk.2⟩))) (fun _ h_ => h_)));(case aB => exact Z81);(case aF => exact (fun k_ hk => ⟨Kd.fresh' (Kd.R_lt Z274) k_ hk,Kd.fresh' (Kd.S_lt (by (with_reducible repeat (first | apply Kd.S_alloc | apply Kd.S_drewN | apply Kd.S_drew));exact HO256.out)) k_ hk⟩));(case aO => exact (by (with_reducible repeat (first | apply Kd.S_alloc | apply Kd.S_drewN | apply Kd.S_drew));exact Kd.S_mono HO_238001.out (fun k_ hk => ⟨⟨hk.1,hk.2.2⟩,fun e_ => hk.2.1 e_⟩)));(case aS => exact Z79);(case aL => have := LMc45.out;omega);intro v258 w55 ho hb hg hat;rw [← Ny257.out] at ho;have n_ := jA (Kd.R_over' Z274 (Kd.S_typed Z162) Z293 hg) (jA (blk_grown (g := gb235) (o := .cells #[.slice A0_0 l0_0.length c0_0,.string a0_1,.slice A0_2 l0_2.length c0_2,.slice A0_3 l0_3.length c0_3] 31 (0,0)) Z287 hg (Kd.S_ne HO_238001.out BK235.out Z293)) (jA (blk_grown (g := gb236) (o := .cells #[.slice none 0 0,.slice none 0 0] 29 (0,0)) Z226 hg (Kd.S_ne HO_238001.out BK236.out Z293)) (jA (blk_grown (g := gb237) (o := .cells #[.slice Ao51 y254.length co51,u238001] 29 (0,0)) Z229 hg (Kd.S_ne HO_238001.out BK237.out Z293)) (jA (Kd.S_after (ok := (fun k_ => some k_ ≠ (.slice Ao34 t240.length co34 : Value).ownBlock ∧ some k_ ≠ (.slice Ao56 x9_3.length co56 : Value).ownBlock)) (by (with_reducible repeat (first | apply Kd.S_alloc | apply Kd.S_drewN | apply Kd.S_drew));exact Kd.S_mono HO256.out (fun _ hk => ⟨⟨hk.1,hk.2.1⟩,hk.2.2⟩)) hg hat) (jA (hb) (Aside0.mk (ho)))))));clear HO_7 BK235 BK236 BK237 HO256 HB HO_238001 HO_9;obtain ⟨HO_7,BK235,BK236,BK237,HO256,HB,HO259⟩ := n_;clear ho hb hg hat;obtain ⟨Ao57,co57,eo57⟩ := Kd.S_slice HO259.out;subst eo57;obtain ⟨hcz58_0,hcz58_1,hfz58_0,hfz58_1⟩ := cells2 BK237.out))
       go_roundg k3
       case measure => have := HJ2.out;have := HK2.out;have := HK3.out;omega
       case rel => exact ⟨(wrap64 (x6_2 + 1)),(y254),(y257),(.slice Ao51 y254.length co51),(.slice Ao57 y257.length co57),Z218,H',⟨Z215⟩,⟨by (with_reducible repeat (first | apply Kd.S_alloc | apply Kd.S_drewN | apply Kd.S_drew));exact Kd.S_mono (Kd.S_far (p := ⟨gb237,1,none⟩) (Kd.S_types HO256.out BK237.out Z293) (fun _ hk => hk.2) (.slice Ao57 y257.length co57)) (fun _ hk => hk.1.2)⟩,⟨by (with_reducible repeat (first | apply Kd.S_alloc | apply Kd.S_drewN | apply Kd.S_drew));exact Kd.S_mono (Kd.S_far (p := ⟨gb237,1,none⟩) (Kd.S_types HO259.out BK237.out Z293) (fun _ hk => hk.2) (.slice Ao57 y257.length co57)) (fun _ hk => hk.1.2)⟩,⟨Z213⟩,⟨Z212⟩,⟨by refine bP ?_;refine blk_put (cs := #[.slice Ao51 y254.length co51,u238001]) ?_ 1 _ rfl;refine bP ?_;exact BK237.out⟩,⟨Z241⟩⟩

/-! ### laws_toStringS: function 21 -/
def laws_toStringS.l0 : Nat → List ByteArray → List ByteArray → Int → Option (List ByteArray)
 | 0,_,_,_ => none
 | k + 1,x0,x3,x4 => if x4 < (x0.length : Int) then (if 0 ≤ x4 then (if x4 < (x3.length : Int) then (laws_toStringS.l0 k x0 (x3.set (x4 : Int).toNat (rdOf ByteArray.empty x0 x4)) (wrap64 (x4 + 1))) else (none)) else (none)) else (some x3)
def laws_toStringS.f (k : Nat) (l0 : List ByteArray) : Option (List ByteArray) := if 0 ≤ (l0.length : Int) then (if ((l0.length : Int) : Int).toNat ≤ 17592186044416 then (laws_toStringS.l0 k l0 (List.replicate ((l0.length : Int) : Int).toNat (⟨#[]⟩ : ByteArray)) 0) else (none)) else (none)
theorem laws_toStringS.mono_l : ∀ k,(∀ y0 y1 y2,LeO (laws_toStringS.l0 k y0 y1 y2) (laws_toStringS.l0 (k + 1) y0 y1 y2))
 | 0 => fun _ _ _ r h => by simp [laws_toStringS.l0] at h
 | k + 1 => by
  have ih0 := laws_toStringS.mono_l k
  ·intro y0 y1 y2
   unfold laws_toStringS.l0
   repeat' first
   | (with_reducible exact ih0 _ _ _)
   | (with_reducible exact LeO.refl _)
   | (with_reducible exact LeO.none _)
   | (with_reducible refine LeO.ite ?_ ?_)
   | (with_reducible refine LeO.bind ?_ (fun _ => ?_))
   | exact ih0 _ _ _
   | exact LeO.none _
   | refine LeO.ite ?_ ?_
   | refine LeO.bind ?_ (fun _ => ?_)
theorem laws_toStringS.mono : ∀ a0 k,LeO (laws_toStringS.f k a0) (laws_toStringS.f (k + 1) a0) := by
 intro a0 k
 have ih0 := laws_toStringS.mono_l k
 unfold laws_toStringS.f
 repeat' first
   | (with_reducible exact ih0 _ _ _)
   | (with_reducible exact LeO.refl _)
   | (with_reducible exact LeO.none _)
   | (with_reducible refine LeO.ite ?_ ?_)
   | (with_reducible refine LeO.bind ?_ (fun _ => ?_))
   | exact ih0 _ _ _
   | exact LeO.none _
   | refine LeO.ite ?_ ?_
   | refine LeO.bind ?_ (fun _ => ?_)
set_option maxHeartbeats 8000000 in
set_option maxRecDepth 100000 in
theorem laws_toStringS.calls (k : Nat) (A0 : Option Addr) (c0 : Nat) (l0 : List ByteArray) (r : List ByteArray) (w : World) (hr0 : Kd.C Kd.string w A0 l0.length l0) (hc0 : l0.length ≤ c0) (h : laws_toStringS.f k l0 = some r) :
  Calls Try.prog 21 #[.slice A0 l0.length c0] w fun e w' => ∃ v0_ : Value,e = .returned (v0_) ∧ Kd.R Kd.string 9 w' w.heap.size (fun _ => True) v0_ r ∧ Below w.heap.size w w' := by
 have HR0 := Aside0.mk hr0
 have HC0 := Aside0.mk hc0
 clear hr0 hc0
 have HB := Aside0.mk (Below.refl w.heap.size w)
 have H := h
 clear h
 unfold laws_toStringS.f at H
 obtain ⟨c2,H⟩ := ifp H
 have c2b0 := eq_true c2
 have c2b1 : decide (0 ≤ (l0.length : Int)) = true := decide_eq_true c2
 clear c2
 obtain ⟨c3,H⟩ := ifp H
 have c3b0 := eq_true c3
 have c3b1 : decide (((l0.length : Int) : Int).toNat ≤ 17592186044416) = true := decide_eq_true c3
 clear c3
 obtain ⟨y260,hyy⟩ : ∃ y_ : List ByteArray,y_ = (List.replicate ((l0.length : Int) : Int).toNat (⟨#[]⟩ : ByteArray)) := ⟨_,rfl⟩
 replace H : (laws_toStringS.l0 k l0 y260 0) = some r := zR
 have Ny260 := Aside0.mk hyy
 clear hyy
 have H' := Aside0.mk H
 clear H
 go_enter Try.func21,Try.ntmps21
 go_wp2_with (first | ((with_reducible refine gate_dst (N := 7) rfl ?_);refine Kd.R_make Kd.string _ 9 rfl (N := 7) rfl 22 _ _ rfl (l0.length : Int) rfl rfl Try.underlying22 (.string ⟨#[]⟩) 16 info9 rfl Z293 Z237 (⟨#[]⟩ : ByteArray) (ok := fun _ => True) (okp := fun _ => True) rfl (fun _ hk => hk) trivial (of_decide_eq_true Z217) (Nat.le_trans (Nat.mul_le_mul_right _ (of_decide_eq_true Z217 : (l0.length : Int).toNat ≤ 17592186044416)) Z237) (Below.refl _ _) (Nat.le_refl _) ?_;intro v261 w4 ho5 hb hg_ hnew_;clear hg_ hnew_;(first | rw [← Ny260.out] at ho5 | (simp only [Int.reduceToNat] at ho5;rw [← Ny260.out] at ho5));have n_ := Z37;clear HB;obtain ⟨HO262,HB⟩ := n_;clear hb ho5))
 go_loopg [4] k (fun kq v4 w' => ∃ (x3_1 : List ByteArray) (x4_1 : Int),v4 = .int .i64 x4_1 ∧ Aside0 (laws_toStringS.l0 kq l0 x3_1 x4_1 = some r) ∧ Aside0 (kq ≤ k) ∧ Aside0 (Kd.R Kd.string 9 w' w.heap.size (fun _ => True) v261 x3_1) ∧ Aside0 (Below w.heap.size w w'))
 case atStart => exact ⟨(y260),(0),Z218,H',⟨Nat.le_refl _⟩,⟨by (with_reducible repeat (first | apply Kd.R_alloc | apply Kd.R_drewN | apply Kd.R_drew));exact HO262.out⟩,⟨Z297⟩⟩
 case round =>
  clear H'
  try clear c2
  try clear c2b0
  try clear c2b1
  try clear p2
  try clear c3
  try clear c3b0
  try clear c3b1
  obtain ⟨x3_1,x4_1,rfl,HA,HK1,HO_3,HB⟩ := hrel
  cases gk with
  | zero => exact absurd HA.out (by simp [laws_toStringS.l0])
  | succ k1 =>
   have H := HA.out
   clear HA
   simp only [laws_toStringS.l0] at H
   by_cases c6 : x4_1 < (l0.length : Int)
   rotate_left
   ·rw [if_neg c6] at H
    have c6b0 : decide (x4_1 < (l0.length : Int)) = false := decide_eq_false c6
    clear c6
    obtain rfl := Option.some.inj H
    go_wp2
    go_ret
    exact ⟨_,Z207,Z273,Z297⟩
   rw [if_pos c6] at H
   have c6b0 : decide (x4_1 < (l0.length : Int)) = true := decide_eq_true c6
   clear c6
   obtain ⟨c7,H⟩ := ifp H
   have c7b0 : decide (0 ≤ x4_1) = true := decide_eq_true c7
   clear c7
   obtain ⟨c8,H⟩ := ifp H
   have c8b0 : decide (x4_1 < (x3_1.length : Int)) = true := decide_eq_true c8
   clear c8
   obtain ⟨y264,hyy⟩ : ∃ y_ : List ByteArray,y_ = (x3_1.set (x4_1 : Int).toNat (rdOf ByteArray.empty l0 x4_1)) := ⟨_,rfl⟩
   replace H : (laws_toStringS.l0 k1 l0 y264 (wrap64 (x4_1 + 1))) = some r := zR
   have Ny264 := Aside0.mk hyy
   clear hyy
   have H' := Aside0.mk H
   clear H
   have p263 : 0 ≤ (x4_1 : Int) := of_decide_eq_true Z217
   have q263 : x4_1 < (l0.length : Int) := of_decide_eq_true Z217
   obtain ⟨ad263,e263,hx263_0⟩ := Kd.at_string HR0.out x4_1 p263 q263
   cases e263
   replace hx263_0 := (HB.out.cell (World.block_lt_of_cell? w _ hx263_0)).trans hx263_0
   replace p263 := eq_true p263
   replace q263 := eq_true q263
   have p9 : 0 ≤ (x4_1 : Int) := of_decide_eq_true Z217
   have q9 : (x4_1 : Int) < ((x3_1.length : Int) : Int) := of_decide_eq_true Z217
   obtain ⟨go9,co9,eo9,gb9,gl9,cl9,HG9⟩ := Kd.R_form HO_3.out Z237
   (first | cases eo9 | (injection eo9 with ea_ en_ ec_;(first | subst ea_ | (injection ea_ with ea_;subst ea_));subst ec_;clear en_))
   have GB9 := Aside0.mk gb9
   have GG9 := Aside0.mk HG9
   clear gb9 gl9 HG9
   obtain ⟨hx9_0,hf9_0⟩ := Kd.R_celln (⟨#[]⟩ : ByteArray) HO_3.out (x4_1 : Int) p9 q9
   replace p9 := eq_true p9
   replace q9 := eq_true q9
   have HP10 := Kd.R_putg HO_3.out (x4_1 : Int) (rdOf ByteArray.empty l0 x4_1)
   go_wp2_with (first | ((with_reducible refine gate_store (t := 9) (p := 20) rfl ?_);refine store_event (t := 9) (p := 20) (v := ?vo_w11) (w1 := (wr.setCell ⟨go9,(x4_1 : Int).toNat,none⟩ (.string (rdOf ByteArray.empty l0 x4_1)))) ?hg ?ho ?hn ?hr ?_;(case ho => rfl);(case hg => rfl);(case hn => rfl);(case hr => exact Z219);intro w11 hw;have hg : wr.grownBy w11 (some go9) := (by rw [hw];exact HP10.2);have hp_ : Kd.R Kd.string 9 w11 w.heap.size (fun _ => True) (.slice (some ⟨go9,0,none⟩) x3_1.length co9) y264 := (by rw [hw,Ny264.out];exact HP10.1);clear HP10;have n_ := Z194;clear HO_3 HB;obtain ⟨HO_3,HB⟩ := n_;clear hg hw hp_))
   go_roundg k1
   case measure => have := HK1.out;omega
   case rel => exact ⟨(y264),(wrap64 (x4_1 + 1)),Z218,H',⟨Z231⟩,⟨Z273⟩,⟨Z297⟩⟩

/-! ### laws_toIntS: function 23 -/
def laws_toIntS.l0 : Nat → List Int → List Int → Int → Option (List Int)
 | 0,_,_,_ => none
 | k + 1,x0,x3,x4 => if x4 < (x0.length : Int) then (if 0 ≤ x4 then (if x4 < (x3.length : Int) then (laws_toIntS.l0 k x0 (x3.set (x4 : Int).toNat (rd x0 x4)) (wrap64 (x4 + 1))) else (none)) else (none)) else (some x3)
def laws_toIntS.f (k : Nat) (l0 : List Int) : Option (List Int) := if 0 ≤ (l0.length : Int) then (if ((l0.length : Int) : Int).toNat ≤ 35184372088832 then (laws_toIntS.l0 k l0 (List.replicate ((l0.length : Int) : Int).toNat 0) 0) else (none)) else (none)
theorem laws_toIntS.mono_l : ∀ k,(∀ y0 y1 y2,LeO (laws_toIntS.l0 k y0 y1 y2) (laws_toIntS.l0 (k + 1) y0 y1 y2))
 | 0 => fun _ _ _ r h => by simp [laws_toIntS.l0] at h
 | k + 1 => by
  have ih0 := laws_toIntS.mono_l k
  ·intro y0 y1 y2
   unfold laws_toIntS.l0
   repeat' first
   | (with_reducible exact ih0 _ _ _)
   | (with_reducible exact LeO.refl _)
   | (with_reducible exact LeO.none _)
   | (with_reducible refine LeO.ite ?_ ?_)
   | (with_reducible refine LeO.bind ?_ (fun _ => ?_))
   | exact ih0 _ _ _
   | exact LeO.none _
   | refine LeO.ite ?_ ?_
   | refine LeO.bind ?_ (fun _ => ?_)
theorem laws_toIntS.mono : ∀ a0 k,LeO (laws_toIntS.f k a0) (laws_toIntS.f (k + 1) a0) := by
 intro a0 k
 have ih0 := laws_toIntS.mono_l k
 unfold laws_toIntS.f
 repeat' first
   | (with_reducible exact ih0 _ _ _)
   | (with_reducible exact LeO.refl _)
   | (with_reducible exact LeO.none _)
   | (with_reducible refine LeO.ite ?_ ?_)
   | (with_reducible refine LeO.bind ?_ (fun _ => ?_))
   | exact ih0 _ _ _
   | exact LeO.none _
   | refine LeO.ite ?_ ?_
   | refine LeO.bind ?_ (fun _ => ?_)
set_option maxHeartbeats 8000000 in
set_option maxRecDepth 100000 in
theorem laws_toIntS.calls (k : Nat) (A0 : Option Addr) (c0 : Nat) (l0 : List Int) (r : List Int) (w : World) (hr0 : Kd.C (Kd.int .i64) w A0 l0.length l0) (hc0 : l0.length ≤ c0) (h : laws_toIntS.f k l0 = some r) :
  Calls Try.prog 23 #[.slice A0 l0.length c0] w fun e w' => ∃ v0_ : Value,e = .returned (v0_) ∧ Kd.R (Kd.int .i64) 3 w' w.heap.size (fun _ => True) v0_ r ∧ Below w.heap.size w w' := by
 have HR0 := Aside0.mk hr0
 have HC0 := Aside0.mk hc0
 clear hr0 hc0
 have HB := Aside0.mk (Below.refl w.heap.size w)
 have H := h
 clear h
 unfold laws_toIntS.f at H
 obtain ⟨c2,H⟩ := ifp H
 have c2b0 := eq_true c2
 have c2b1 : decide (0 ≤ (l0.length : Int)) = true := decide_eq_true c2
 clear c2
 obtain ⟨c3,H⟩ := ifp H
 have c3b0 := eq_true c3
 have c3b1 : decide (((l0.length : Int) : Int).toNat ≤ 35184372088832) = true := decide_eq_true c3
 clear c3
 obtain ⟨y265,hyy⟩ : ∃ y_ : List Int,y_ = (List.replicate ((l0.length : Int) : Int).toNat 0) := ⟨_,rfl⟩
 replace H : (laws_toIntS.l0 k l0 y265 0) = some r := zR
 have Ny265 := Aside0.mk hyy
 clear hyy
 have H' := Aside0.mk H
 clear H
 go_enter Try.func23,Try.ntmps23
 go_wp2_with (first | ((with_reducible refine gate_dst (N := 7) rfl ?_);refine Kd.R_make (Kd.int .i64) _ 3 rfl (N := 7) rfl 24 _ _ rfl (l0.length : Int) rfl rfl Try.underlying24 (.int .i64 0) 8 info3 rfl Z293 Z237 0 (ok := fun _ => True) (okp := fun _ => True) rfl (fun _ hk => hk) trivial (of_decide_eq_true Z217) (Nat.le_trans (Nat.mul_le_mul_right _ (of_decide_eq_true Z217 : (l0.length : Int).toNat ≤ 35184372088832)) Z237) (Below.refl _ _) (Nat.le_refl _) ?_;intro v266 w4 ho5 hb hg_ hnew_;clear hg_ hnew_;(first | rw [← Ny265.out] at ho5 | (simp only [Int.reduceToNat] at ho5;rw [← Ny265.out] at ho5));have n_ := Z37;clear HB;obtain ⟨HO267,HB⟩ := n_;clear hb ho5))
 go_loopg [4] k (fun kq v4 w' => ∃ (x3_1 : List Int) (x4_1 : Int),v4 = .int .i64 x4_1 ∧ Aside0 (laws_toIntS.l0 kq l0 x3_1 x4_1 = some r) ∧ Aside0 (kq ≤ k) ∧ Aside0 (Kd.R (Kd.int .i64) 3 w' w.heap.size (fun _ => True) v266 x3_1) ∧ Aside0 (Below w.heap.size w w'))
 case atStart => exact ⟨(y265),(0),Z218,H',⟨Nat.le_refl _⟩,⟨by (with_reducible repeat (first | apply Kd.R_alloc | apply Kd.R_drewN | apply Kd.R_drew));exact HO267.out⟩,⟨Z297⟩⟩
 case round =>
  clear H'
  try clear c2
  try clear c2b0
  try clear c2b1
  try clear p2
  try clear c3
  try clear c3b0
  try clear c3b1
  obtain ⟨x3_1,x4_1,rfl,HA,HK1,HO_3,HB⟩ := hrel
  cases gk with
  | zero => exact absurd HA.out (by simp [laws_toIntS.l0])
  | succ k1 =>
   have H := HA.out
   clear HA
   simp only [laws_toIntS.l0] at H
   by_cases c6 : x4_1 < (l0.length : Int)
   rotate_left
   ·rw [if_neg c6] at H
    have c6b0 : decide (x4_1 < (l0.length : Int)) = false := decide_eq_false c6
    clear c6
    obtain rfl := Option.some.inj H
    go_wp2
    go_ret
    exact ⟨_,Z207,Z273,Z297⟩
   rw [if_pos c6] at H
   have c6b0 : decide (x4_1 < (l0.length : Int)) = true := decide_eq_true c6
   clear c6
   obtain ⟨c7,H⟩ := ifp H
   have c7b0 : decide (0 ≤ x4_1) = true := decide_eq_true c7
   clear c7
   obtain ⟨c8,H⟩ := ifp H
   have c8b0 : decide (x4_1 < (x3_1.length : Int)) = true := decide_eq_true c8
   clear c8
   obtain ⟨y269,hyy⟩ : ∃ y_ : List Int,y_ = (x3_1.set (x4_1 : Int).toNat (rd l0 x4_1)) := ⟨_,rfl⟩
   replace H : (laws_toIntS.l0 k1 l0 y269 (wrap64 (x4_1 + 1))) = some r := zR
   have Ny269 := Aside0.mk hyy
   clear hyy
   have H' := Aside0.mk H
   clear H
   have p268 : 0 ≤ (x4_1 : Int) := of_decide_eq_true Z217
   have q268 : x4_1 < (l0.length : Int) := of_decide_eq_true Z217
   obtain ⟨ad268,e268,hx268_0⟩ := Kd.at_int HR0.out x4_1 p268 q268
   cases e268
   replace hx268_0 := (HB.out.cell (World.block_lt_of_cell? w _ hx268_0)).trans hx268_0
   replace p268 := eq_true p268
   replace q268 := eq_true q268
   have p9 : 0 ≤ (x4_1 : Int) := of_decide_eq_true Z217
   have q9 : (x4_1 : Int) < ((x3_1.length : Int) : Int) := of_decide_eq_true Z217
   obtain ⟨go9,co9,eo9,gb9,gl9,cl9,HG9⟩ := Kd.R_form HO_3.out Z237
   (first | cases eo9 | (injection eo9 with ea_ en_ ec_;(first | subst ea_ | (injection ea_ with ea_;subst ea_));subst ec_;clear en_))
   have GB9 := Aside0.mk gb9
   have GG9 := Aside0.mk HG9
   clear gb9 gl9 HG9
   obtain ⟨hx9_0,hf9_0⟩ := Kd.R_celln 0 HO_3.out (x4_1 : Int) p9 q9
   replace p9 := eq_true p9
   replace q9 := eq_true q9
   have HP10 := Kd.R_putg HO_3.out (x4_1 : Int) (rd l0 x4_1)
   go_wp2_with (first | ((with_reducible refine gate_store (t := 3) (p := 20) rfl ?_);refine store_event (t := 3) (p := 20) (v := ?vo_w11) (w1 := (wr.setCell ⟨go9,(x4_1 : Int).toNat,none⟩ (.int .i64 (rd l0 x4_1)))) ?hg ?ho ?hn ?hr ?_;(case ho => rfl);(case hg => rfl);(case hn => rfl);(case hr => exact Z219);intro w11 hw;have hg : wr.grownBy w11 (some go9) := (by rw [hw];exact HP10.2);have hp_ : Kd.R (Kd.int .i64) 3 w11 w.heap.size (fun _ => True) (.slice (some ⟨go9,0,none⟩) x3_1.length co9) y269 := (by rw [hw,Ny269.out];exact HP10.1);clear HP10;have n_ := Z194;clear HO_3 HB;obtain ⟨HO_3,HB⟩ := n_;clear hg hw hp_))
   go_roundg k1
   case measure => have := HK1.out;omega
   case rel => exact ⟨(y269),(wrap64 (x4_1 + 1)),Z218,H',⟨Z231⟩,⟨Z273⟩,⟨Z297⟩⟩

end Go.Proofs.Ytnidkpkfkklkaaa.QFnExactGridOf
