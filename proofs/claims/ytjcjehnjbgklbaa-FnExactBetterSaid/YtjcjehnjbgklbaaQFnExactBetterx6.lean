/- The machine side of FnExactBetter: what each Go function that it reaches comes to. Conditions: none. -/
import Derived.Test.YtjcjehnjbgklbaaQFnExactBetterx0
import Derived.Test.YtjcjehnjbgklbaaQFnExactBetterx5
namespace Go.Proofs.Ytjcjehnjbgklbaa.QFnExactBetter
open Go.RowKit Go.Proofs.YtjcjehnjbgklbaaW.PrintWords Go.Proofs.YtjcjehnjbgklbaaW.PrintLast Go.Proofs.YtjcjehnjbgklbaaW.PrintMore
attribute [local go_sem] max2_int min2_int max_two min_two max_three min_three max_four min_four   -- for this text's walks alone
set_option linter.unusedVariables false
set_option linter.unusedSimpArgs false

/-! ### spec_Better: function 16 -/
theorem spec_Better.cells4 {w : World} {g : Nat} {t : TypeId} {a0 a1 a2 a3 : Value} (h : w.heap[g]? = some (.cells #[a0,a1,a2,a3] t (0,0))) : w.cell? ⟨g,0,none⟩ = some a0 ∧ w.cell? ⟨g,1,none⟩ = some a1 ∧ w.cell? ⟨g,2,none⟩ = some a2 ∧ w.cell? ⟨g,3,none⟩ = some a3 ∧ w.frozen? ⟨g,0,none⟩ = false ∧ w.frozen? ⟨g,1,none⟩ = false ∧ w.frozen? ⟨g,2,none⟩ = false ∧ w.frozen? ⟨g,3,none⟩ = false := ⟨(blk_cell h 0).trans rfl,(blk_cell h 1).trans rfl,(blk_cell h 2).trans rfl,(blk_cell h 3).trans rfl,blk_frozen h 0,blk_frozen h 1,blk_frozen h 2,blk_frozen h 3⟩
theorem spec_Better.cells6 {w : World} {g : Nat} {t : TypeId} {a0 a1 a2 a3 a4 a5 : Value} (h : w.heap[g]? = some (.cells #[a0,a1,a2,a3,a4,a5] t (0,0))) : w.cell? ⟨g,0,none⟩ = some a0 ∧ w.cell? ⟨g,1,none⟩ = some a1 ∧ w.cell? ⟨g,2,none⟩ = some a2 ∧ w.cell? ⟨g,3,none⟩ = some a3 ∧ w.cell? ⟨g,4,none⟩ = some a4 ∧ w.cell? ⟨g,5,none⟩ = some a5 ∧ w.frozen? ⟨g,0,none⟩ = false ∧ w.frozen? ⟨g,1,none⟩ = false ∧ w.frozen? ⟨g,2,none⟩ = false ∧ w.frozen? ⟨g,3,none⟩ = false ∧ w.frozen? ⟨g,4,none⟩ = false ∧ w.frozen? ⟨g,5,none⟩ = false := ⟨(blk_cell h 0).trans rfl,(blk_cell h 1).trans rfl,(blk_cell h 2).trans rfl,(blk_cell h 3).trans rfl,(blk_cell h 4).trans rfl,(blk_cell h 5).trans rfl,blk_frozen h 0,blk_frozen h 1,blk_frozen h 2,blk_frozen h 3,blk_frozen h 4,blk_frozen h 5⟩
def spec_Better.j0 : Nat → Bool → Int → Int → Int → Int → Int → Int → Int → Int → Int → Int → Int → Int → Bool → Int → Int → Int → Bool → Int → Int → Int → Option (Bool)
  | 0,_,_,_,_,_,_,_,_,_,_,_,_,_,_,_,_,_,_,_,_,_ => none
  | k + 1,x30,x239000,x239001,x239002,x239003,x239004,x239005,x240000,x240001,x240002,x240003,x240004,x240005,x246000,x246001,x246002,x246003,x252000,x252001,x252002,x252003 => if x30 = true then (some false) else ((spec_CompareFrac.f k x246000 x246001 x246002 x246003 x252000 x252001 x252002 x252003).bind fun bt252 => (if bt252.2 = true then (if bt252.1 > 0 then (some true) else (if bt252.1 = 0 then ((spec_CandLess.f x239000 x239001 x239002 x239003 x239004 x239005 x240000 x240001 x240002 x240003 x240004 x240005).bind fun t254 => (some t254)) else (some false))) else (some false)))
def spec_Better.f (k : Nat) (a0_0 : Int) (a0_1 : Int) (a0_2 : Int) (a0_3 : Int) (a0_4 : Int) (a0_5 : Int) (a1_0 : Int) (a1_1 : Int) (a1_2 : Int) (a1_3 : Int) (a1_4 : Int) (a1_5 : Int) (a2 : Int) : Option (Bool) := (spec_GainOf.f k a0_0 a0_1 a0_2 a0_3 a0_4 a0_5 a2).bind fun bt240 => ((spec_GainOf.f k a1_0 a1_1 a1_2 a1_3 a1_4 a1_5 a2).bind fun bt246 => (if bt240.2.2.2.2 = true then (spec_Better.j0 k (!bt246.2.2.2.2) a0_0 a0_1 a0_2 a0_3 a0_4 a0_5 a1_0 a1_1 a1_2 a1_3 a1_4 a1_5 bt240.1 bt240.2.1 bt240.2.2.1 bt240.2.2.2.1 bt246.1 bt246.2.1 bt246.2.2.1 bt246.2.2.2.1) else (spec_Better.j0 k true a0_0 a0_1 a0_2 a0_3 a0_4 a0_5 a1_0 a1_1 a1_2 a1_3 a1_4 a1_5 bt240.1 bt240.2.1 bt240.2.2.1 bt240.2.2.2.1 bt246.1 bt246.2.1 bt246.2.2.1 bt246.2.2.2.1)))
theorem spec_Better.mono_l : ∀ k,(∀ y0 y1 y2 y3 y4 y5 y6 y7 y8 y9 y10 y11 y12 y13 y14 y15 y16 y17 y18 y19 y20,LeO (spec_Better.j0 k y0 y1 y2 y3 y4 y5 y6 y7 y8 y9 y10 y11 y12 y13 y14 y15 y16 y17 y18 y19 y20) (spec_Better.j0 (k + 1) y0 y1 y2 y3 y4 y5 y6 y7 y8 y9 y10 y11 y12 y13 y14 y15 y16 y17 y18 y19 y20))
  | 0 => fun _ _ _ _ _ _ _ _ _ _ _ _ _ _ _ _ _ _ _ _ _ r h => by simp [spec_Better.j0] at h
  | k + 1 => by
    have ih0 := spec_Better.mono_l k
    · intro y0 y1 y2 y3 y4 y5 y6 y7 y8 y9 y10 y11 y12 y13 y14 y15 y16 y17 y18 y19 y20
      unfold spec_Better.j0
      repeat' first
      | (with_reducible exact ih0 _ _ _ _ _ _ _ _ _ _ _ _ _ _ _ _ _ _ _ _ _)
      | (with_reducible exact spec_CompareFrac.mono _ _ _ _ _ _ _ _ _)
      | (with_reducible exact spec_GainOf.mono _ _ _ _ _ _ _ _)
      | (with_reducible exact LeO.refl _)
      | (with_reducible exact LeO.none _)
      | (with_reducible refine LeO.ite ?_ ?_)
      | (with_reducible refine LeO.bind ?_ (fun _ => ?_))
      | exact ih0 _ _ _ _ _ _ _ _ _ _ _ _ _ _ _ _ _ _ _ _ _
      | exact spec_CompareFrac.mono _ _ _ _ _ _ _ _ _
      | exact spec_GainOf.mono _ _ _ _ _ _ _ _
      | exact LeO.none _
      | refine LeO.ite ?_ ?_
      | refine LeO.bind ?_ (fun _ => ?_)
theorem spec_Better.mono : ∀ a0 a1 a2 a3 a4 a5 a6 a7 a8 a9 a10 a11 a12 k,LeO (spec_Better.f k a0 a1 a2 a3 a4 a5 a6 a7 a8 a9 a10 a11 a12) (spec_Better.f (k + 1) a0 a1 a2 a3 a4 a5 a6 a7 a8 a9 a10 a11 a12) := by
  intro a0 a1 a2 a3 a4 a5 a6 a7 a8 a9 a10 a11 a12 k
  have ih0 := spec_Better.mono_l k
  unfold spec_Better.f
  repeat' first
      | (with_reducible exact ih0 _ _ _ _ _ _ _ _ _ _ _ _ _ _ _ _ _ _ _ _ _)
      | (with_reducible exact spec_CompareFrac.mono _ _ _ _ _ _ _ _ _)
      | (with_reducible exact spec_GainOf.mono _ _ _ _ _ _ _ _)
      | (with_reducible exact LeO.refl _)
      | (with_reducible exact LeO.none _)
      | (with_reducible refine LeO.ite ?_ ?_)
      | (with_reducible refine LeO.bind ?_ (fun _ => ?_))
      | exact ih0 _ _ _ _ _ _ _ _ _ _ _ _ _ _ _ _ _ _ _ _ _
      | exact spec_CompareFrac.mono _ _ _ _ _ _ _ _ _
      | exact spec_GainOf.mono _ _ _ _ _ _ _ _
      | exact LeO.none _
      | refine LeO.ite ?_ ?_
      | refine LeO.bind ?_ (fun _ => ?_)
set_option maxHeartbeats 8000000 in
set_option maxRecDepth 100000 in
theorem spec_Better.calls (k : Nat) (a0_0 : Int) (a0_1 : Int) (a0_2 : Int) (a0_3 : Int) (a0_4 : Int) (a0_5 : Int) (a1_0 : Int) (a1_1 : Int) (a1_2 : Int) (a1_3 : Int) (a1_4 : Int) (a1_5 : Int) (a2 : Int) (r : Bool) (w : World) (h : spec_Better.f k a0_0 a0_1 a0_2 a0_3 a0_4 a0_5 a1_0 a1_1 a1_2 a1_3 a1_4 a1_5 a2 = some r) :
    Calls Try.prog 16 #[.agg #[.int .i64 a0_0,.int .i64 a0_1,.int .i64 a0_2,.int .i64 a0_3,.int .i64 a0_4,.int .i64 a0_5],.agg #[.int .i64 a1_0,.int .i64 a1_1,.int .i64 a1_2,.int .i64 a1_3,.int .i64 a1_4,.int .i64 a1_5],.int .i64 a2] w fun e w' => e = .returned (.bool r) ∧ Below w.heap.size w w' := by
  have hu35 := Try.underlying35
  have hu30 := Try.underlying30
  have HB := Aside0.mk (Below.refl w.heap.size w)
  have H : ((spec_GainOf.f k a0_0 a0_1 a0_2 a0_3 a0_4 a0_5 a2).bind fun bt240 => ((spec_GainOf.f k a1_0 a1_1 a1_2 a1_3 a1_4 a1_5 a2).bind fun bt246 => (if bt240.2.2.2.2 = true then (spec_Better.j0 k (!bt246.2.2.2.2) a0_0 a0_1 a0_2 a0_3 a0_4 a0_5 a1_0 a1_1 a1_2 a1_3 a1_4 a1_5 bt240.1 bt240.2.1 bt240.2.2.1 bt240.2.2.2.1 bt246.1 bt246.2.1 bt246.2.2.1 bt246.2.2.2.1) else (spec_Better.j0 k true a0_0 a0_1 a0_2 a0_3 a0_4 a0_5 a1_0 a1_1 a1_2 a1_3 a1_4 a1_5 bt240.1 bt240.2.1 bt240.2.2.1 bt240.2.2.2.1 bt246.1 bt246.2.1 bt246.2.2.1 bt246.2.2.2.1)))) = some r := h
  clear h
  obtain ⟨⟨t240,t241,t242,t243,t244⟩,A40,H⟩ := Option.bind_eq_some_iff.mp H
  try dsimp only at H
  have A4 := Aside0.mk A40
  clear A40
  obtain ⟨⟨t246,t247,t248,t249,t250⟩,A50,H⟩ := Option.bind_eq_some_iff.mp H
  try dsimp only at H
  have A5 := Aside0.mk A50
  clear A50
  have HC6 := Aside0.mk H
  clear H
  go_enter Try.func16,Try.ntmps16
  go_upto_region 3 with (first | ((with_reducible refine gate_dst (N := 3) rfl ?_);refine box_event ?hg (N := 3) ?hd (cs := #[.int .i64 a0_0,.int .i64 a0_1,.int .i64 a0_2,.int .i64 a0_3,.int .i64 a0_4,.int .i64 a0_5]) (t := 35) ?hr ?_;(case hd => rfl);(case hg => rfl);(case hr => exact Z393);intro gb238 hg w7 hbox hb;have n_ := jA (below_step Z476 hb) (jA (hbox) (jA ((Z345 : w.heap.size ≤ gb238)) (Aside0.mk ((Z345 : w.heap.size ≤ gb238)))));clear HB;obtain ⟨HB,BK238,GW238,GE238⟩ := n_;clear hb hbox hg) | ((with_reducible refine gate_dst (N := 4) rfl ?_);refine box_event ?hg (N := 4) ?hd (cs := #[.int .i64 a1_0,.int .i64 a1_1,.int .i64 a1_2,.int .i64 a1_3,.int .i64 a1_4,.int .i64 a1_5]) (t := 35) ?hr ?_;(case hd => rfl);(case hg => rfl);(case hr => exact Z393);intro gb239 hg w8 hbox hb;have n_ := jA (blk_below (g := gb238) (o := .cells #[.int .i64 a0_0,.int .i64 a0_1,.int .i64 a0_2,.int .i64 a0_3,.int .i64 a0_4,.int .i64 a0_5] 35 (0,0)) Z506 hb) (jA (below_step Z469 hb) (jA (hbox) (jA ((Z336 : w.heap.size ≤ gb239)) (jA ((Z336 : w.heap.size ≤ gb239)) (jA ((Z150 : gb238 ≠ gb239)) (Aside0.mk ((Z152 : gb239 ≠ gb238))))))));clear BK238 HB;obtain ⟨BK238,HB,BK239,GW239,GE239,NB238_239,NB239_238⟩ := n_;clear hb hbox hg;have hnb9 := NB238_239.out;have hnc9 := NB239_238.out;obtain ⟨hcz10_0,hcz10_1,hcz10_2,hcz10_3,hcz10_4,hcz10_5,hfz10_0,hfz10_1,hfz10_2,hfz10_3,hfz10_4,hfz10_5⟩ := spec_Better.cells6 BK238.out) | ((with_reducible refine gate_callee (f := 9) rfl ?_);refine goesL_ (some 16) rfl rfl Try.func9 Z396 rfl #[.agg #[.int .i64 a0_0,.int .i64 a0_1,.int .i64 a0_2,.int .i64 a0_3,.int .i64 a0_4,.int .i64 a0_5],.int .i64 a2] rfl Z353 ?_;(with_reducible refine (spec_GainOf.calls k a0_0 a0_1 a0_2 a0_3 a0_4 a0_5 a2 t240 t241 t242 t243 t244 _ A4.out).mono ?_);rintro e w11 ⟨rfl,hb⟩;refine ⟨_,rfl,?_⟩;have n_ := jA (blk_below (g := gb238) (o := .cells #[.int .i64 a0_0,.int .i64 a0_1,.int .i64 a0_2,.int .i64 a0_3,.int .i64 a0_4,.int .i64 a0_5] 35 (0,0)) Z506 hb) (jA (blk_below (g := gb239) (o := .cells #[.int .i64 a1_0,.int .i64 a1_1,.int .i64 a1_2,.int .i64 a1_3,.int .i64 a1_4,.int .i64 a1_5] 35 (0,0)) Z510 hb) (Aside0.mk (below_step Z440 hb)));clear BK238 BK239 HB;obtain ⟨BK238,BK239,HB⟩ := n_;(try clear hb);(try clear hb2);(try clear hk);(try clear hi)) | ((with_reducible refine gate_dst (N := 7) rfl ?_);refine box_event ?hg (N := 7) ?hd (cs := #[.bool false,.int .u64 0,.int .u64 0,.int .i64 0]) (t := 30) ?hr ?_;(case hd => rfl);(case hg => rfl);(case hr => exact Z393);intro gb245 hg w12 hbox hb;have n_ := jA (blk_below (g := gb238) (o := .cells #[.int .i64 a0_0,.int .i64 a0_1,.int .i64 a0_2,.int .i64 a0_3,.int .i64 a0_4,.int .i64 a0_5] 35 (0,0)) Z506 hb) (jA (blk_below (g := gb239) (o := .cells #[.int .i64 a1_0,.int .i64 a1_1,.int .i64 a1_2,.int .i64 a1_3,.int .i64 a1_4,.int .i64 a1_5] 35 (0,0)) Z510 hb) (jA (below_step Z440 hb) (jA (hbox) (jA ((Z229 : w.heap.size ≤ gb245)) (jA ((Z229 : w.heap.size ≤ gb245)) (jA ((Z150 : gb238 ≠ gb245)) (jA ((Z152 : gb245 ≠ gb238)) (jA ((Z154 : gb239 ≠ gb245)) (Aside0.mk ((Z156 : gb245 ≠ gb239)))))))))));clear BK238 BK239 HB;obtain ⟨BK238,BK239,HB,BK245,GW245,GE245,NB238_245,NB245_238,NB239_245,NB245_239⟩ := n_;clear hb hbox hg;have hnb13 := NB245_238.out;have hnc13 := NB238_245.out;have hnb14 := NB245_239.out;have hnc14 := NB239_245.out;obtain ⟨hcz15_0,hcz15_1,hcz15_2,hcz15_3,hfz15_0,hfz15_1,hfz15_2,hfz15_3⟩ := spec_Better.cells4 BK245.out;obtain ⟨hcz16_0,hcz16_1,hcz16_2,hcz16_3,hcz16_4,hcz16_5,hfz16_0,hfz16_1,hfz16_2,hfz16_3,hfz16_4,hfz16_5⟩ := spec_Better.cells6 BK239.out) | ((with_reducible refine gate_callee (f := 9) rfl ?_);refine goesL_ (some 22) rfl rfl Try.func9 Z396 rfl #[.agg #[.int .i64 a1_0,.int .i64 a1_1,.int .i64 a1_2,.int .i64 a1_3,.int .i64 a1_4,.int .i64 a1_5],.int .i64 a2] rfl Z353 ?_;(with_reducible refine (spec_GainOf.calls k a1_0 a1_1 a1_2 a1_3 a1_4 a1_5 a2 t246 t247 t248 t249 t250 _ A5.out).mono ?_);rintro e w17 ⟨rfl,hb⟩;refine ⟨_,rfl,?_⟩;have n_ := jA (blk_below (g := gb238) (o := .cells #[.int .i64 a0_0,.int .i64 a0_1,.int .i64 a0_2,.int .i64 a0_3,.int .i64 a0_4,.int .i64 a0_5] 35 (0,0)) (by (with_reducible repeat (first | refine bA ?_ _ | refine bB ?_ | refine bC ?_ _));refine blk_far ?_ NB238_245.out _;(with_reducible repeat (first | refine bA ?_ _ | refine bB ?_ | refine bC ?_ _));refine blk_far ?_ NB238_245.out _;(with_reducible repeat (first | refine bA ?_ _ | refine bB ?_ | refine bC ?_ _));refine blk_far ?_ NB238_245.out _;(with_reducible repeat (first | refine bA ?_ _ | refine bB ?_ | refine bC ?_ _));refine blk_far ?_ NB238_245.out _;(with_reducible repeat (first | refine bA ?_ _ | refine bB ?_ | refine bC ?_ _));exact BK238.out) hb) (jA (blk_below (g := gb239) (o := .cells #[.int .i64 a1_0,.int .i64 a1_1,.int .i64 a1_2,.int .i64 a1_3,.int .i64 a1_4,.int .i64 a1_5] 35 (0,0)) (by (with_reducible repeat (first | refine bA ?_ _ | refine bB ?_ | refine bC ?_ _));refine blk_far ?_ NB239_245.out _;(with_reducible repeat (first | refine bA ?_ _ | refine bB ?_ | refine bC ?_ _));refine blk_far ?_ NB239_245.out _;(with_reducible repeat (first | refine bA ?_ _ | refine bB ?_ | refine bC ?_ _));refine blk_far ?_ NB239_245.out _;(with_reducible repeat (first | refine bA ?_ _ | refine bB ?_ | refine bC ?_ _));refine blk_far ?_ NB239_245.out _;(with_reducible repeat (first | refine bA ?_ _ | refine bB ?_ | refine bC ?_ _));exact BK239.out) hb) (jA (blk_below (g := gb245) (o := .cells #[.bool t240,.int .u64 t241,.int .u64 t242,.int .i64 t243] 30 (0,0)) (by (with_reducible repeat (first | refine bA ?_ _ | refine bB ?_ | refine bC ?_ _));refine blk_put (cs := #[.bool t240,.int .u64 t241,.int .u64 t242,.int .i64 0]) ?_ 3 _ rfl;(with_reducible repeat (first | refine bA ?_ _ | refine bB ?_ | refine bC ?_ _));refine blk_put (cs := #[.bool t240,.int .u64 t241,.int .u64 0,.int .i64 0]) ?_ 2 _ rfl;(with_reducible repeat (first | refine bA ?_ _ | refine bB ?_ | refine bC ?_ _));refine blk_put (cs := #[.bool t240,.int .u64 0,.int .u64 0,.int .i64 0]) ?_ 1 _ rfl;(with_reducible repeat (first | refine bA ?_ _ | refine bB ?_ | refine bC ?_ _));refine blk_put (cs := #[.bool false,.int .u64 0,.int .u64 0,.int .i64 0]) ?_ 0 _ rfl;(with_reducible repeat (first | refine bA ?_ _ | refine bB ?_ | refine bC ?_ _));exact BK245.out) hb) (Aside0.mk (below_step Z424 hb))));clear BK238 BK239 BK245 HB;obtain ⟨BK238,BK239,BK245,HB⟩ := n_;(try clear hb);(try clear hb2);(try clear hk);(try clear hi)) | ((with_reducible refine gate_dst (N := 9) rfl ?_);refine box_event ?hg (N := 9) ?hd (cs := #[.bool false,.int .u64 0,.int .u64 0,.int .i64 0]) (t := 30) ?hr ?_;(case hd => rfl);(case hg => rfl);(case hr => exact Z393);intro gb251 hg w18 hbox hb;have n_ := jA (blk_below (g := gb238) (o := .cells #[.int .i64 a0_0,.int .i64 a0_1,.int .i64 a0_2,.int .i64 a0_3,.int .i64 a0_4,.int .i64 a0_5] 35 (0,0)) Z506 hb) (jA (blk_below (g := gb239) (o := .cells #[.int .i64 a1_0,.int .i64 a1_1,.int .i64 a1_2,.int .i64 a1_3,.int .i64 a1_4,.int .i64 a1_5] 35 (0,0)) Z510 hb) (jA (blk_below (g := gb245) (o := .cells #[.bool t240,.int .u64 t241,.int .u64 t242,.int .i64 t243] 30 (0,0)) Z371 hb) (jA (below_step Z424 hb) (jA (hbox) (jA ((Z176 : w.heap.size ≤ gb251)) (jA ((Z176 : w.heap.size ≤ gb251)) (jA ((Z150 : gb238 ≠ gb251)) (jA ((Z152 : gb251 ≠ gb238)) (jA ((Z154 : gb239 ≠ gb251)) (jA ((Z156 : gb251 ≠ gb239)) (jA ((by rw [hg];exact Nat.ne_of_lt (blk_lt (g := gb245) (o := .cells #[.bool t240,.int .u64 t241,.int .u64 t242,.int .i64 t243] 30 (0,0)) Z371) : gb245 ≠ gb251)) (Aside0.mk ((by rw [hg];exact Nat.ne_of_gt (blk_lt (g := gb245) (o := .cells #[.bool t240,.int .u64 t241,.int .u64 t242,.int .i64 t243] 30 (0,0)) Z371) : gb251 ≠ gb245))))))))))))));clear BK238 BK239 BK245 HB;obtain ⟨BK238,BK239,BK245,HB,BK251,GW251,GE251,NB238_251,NB251_238,NB239_251,NB251_239,NB245_251,NB251_245⟩ := n_;clear hb hbox hg;have hnb19 := NB251_238.out;have hnc19 := NB238_251.out;have hnb20 := NB251_239.out;have hnc20 := NB239_251.out;have hnb21 := NB251_245.out;have hnc21 := NB245_251.out;obtain ⟨hcz22_0,hcz22_1,hcz22_2,hcz22_3,hfz22_0,hfz22_1,hfz22_2,hfz22_3⟩ := spec_Better.cells4 BK251.out))
  (try simp only [Act.put,List.setIfInBounds_toArray,List.set_cons_zero,List.set_cons_succ])
  go_cut [30] (fun v30 wc => ∃ (kq : Nat) (x30_5 : Bool),v30 = .bool x30_5 ∧ Aside0 (spec_Better.j0 kq x30_5 a0_0 a0_1 a0_2 a0_3 a0_4 a0_5 a1_0 a1_1 a1_2 a1_3 a1_4 a1_5 t240 t241 t242 t243 t246 t247 t248 t249 = some r) ∧ Aside0 (kq ≤ k) ∧ Aside0 (wc.heap[gb238]? = some (.cells #[.int .i64 a0_0,.int .i64 a0_1,.int .i64 a0_2,.int .i64 a0_3,.int .i64 a0_4,.int .i64 a0_5] 35 (0,0))) ∧ Aside0 (wc.heap[gb239]? = some (.cells #[.int .i64 a1_0,.int .i64 a1_1,.int .i64 a1_2,.int .i64 a1_3,.int .i64 a1_4,.int .i64 a1_5] 35 (0,0))) ∧ Aside0 (wc.heap[gb245]? = some (.cells #[.bool t240,.int .u64 t241,.int .u64 t242,.int .i64 t243] 30 (0,0))) ∧ Aside0 (wc.heap[gb251]? = some (.cells #[.bool t246,.int .u64 t247,.int .u64 t248,.int .i64 t249] 30 (0,0))) ∧ Aside0 (Below w.heap.size w wc))
  case first =>
    have H := HC6.out
    clear HC6
    by_cases c23 : t244 = true
    · subst c23
      have H1 : (spec_Better.j0 k (!t250) a0_0 a0_1 a0_2 a0_3 a0_4 a0_5 a1_0 a1_1 a1_2 a1_3 a1_4 a1_5 t240 t241 t242 t243 t246 t247 t248 t249) = some r := by rw [if_pos rfl] at H;exact H
      clear H
      have H := H1
      clear H1
      have H' := Aside0.mk H
      clear H
      go_wp2
      go_meet
      case rel => exact ⟨_,(!t250),Z392,H',⟨Z394⟩,⟨Z86⟩,⟨Z85⟩,⟨Z84⟩,⟨Z28⟩,⟨Z159⟩⟩
    · replace c23 := Bool.eq_false_iff.mpr c23
      subst c23
      have H1 : (spec_Better.j0 k true a0_0 a0_1 a0_2 a0_3 a0_4 a0_5 a1_0 a1_1 a1_2 a1_3 a1_4 a1_5 t240 t241 t242 t243 t246 t247 t248 t249) = some r := by rw [if_neg (show ¬ (false = true) by decide)] at H;exact H
      clear H
      have H := H1
      clear H1
      have H' := Aside0.mk H
      clear H
      go_wp2
      go_meet
      case rel => exact ⟨_,(true),Z392,H',⟨Z394⟩,⟨Z86⟩,⟨Z85⟩,⟨Z84⟩,⟨Z28⟩,⟨Z159⟩⟩
  case rest =>
    clear HC6
    try clear c1
    try clear c2
    try clear p2
    try clear c9
    try clear c13
    try clear c14
    try clear c16
    try clear c19
    try clear c20
    try clear c21
    try clear c23
    try clear hcz10_0
    try clear hcz10_1
    try clear hcz10_2
    try clear hcz10_3
    try clear hcz10_4
    try clear hcz10_5
    try clear hcz15_0
    try clear hcz15_1
    try clear hcz15_2
    try clear hcz15_3
    try clear hcz16_0
    try clear hcz16_1
    try clear hcz16_2
    try clear hcz16_3
    try clear hcz16_4
    try clear hcz16_5
    try clear hcz22_0
    try clear hcz22_1
    try clear hcz22_2
    try clear hcz22_3
    try clear hfz10_0
    try clear hfz10_1
    try clear hfz10_2
    try clear hfz10_3
    try clear hfz10_4
    try clear hfz10_5
    try clear hfz15_0
    try clear hfz15_1
    try clear hfz15_2
    try clear hfz15_3
    try clear hfz16_0
    try clear hfz16_1
    try clear hfz16_2
    try clear hfz16_3
    try clear hfz16_4
    try clear hfz16_5
    try clear hfz22_0
    try clear hfz22_1
    try clear hfz22_2
    try clear hfz22_3
    obtain ⟨kq,x30_5,rfl,HA,HJ5,BK238,BK239,BK245,BK251,HB⟩ := hcut
    cases kq with
    | zero => exact absurd HA.out (by simp [spec_Better.j0])
    | succ kj5 =>
      have H := HA.out
      clear HA
      simp only [spec_Better.j0] at H
      by_cases c24 : x30_5 = true
      · subst c24
        have H1 : (some false) = some r := by rw [if_pos rfl] at H;exact H
        clear H
        have H := H1
        clear H1
        obtain rfl := Option.some.inj H
        go_wp2
        go_ret
        exact ⟨Z385,Z159⟩
      · replace c24 := Bool.eq_false_iff.mpr c24
        subst c24
        have H1 : ((spec_CompareFrac.f kj5 t240 t241 t242 t243 t246 t247 t248 t249).bind fun bt252 => (if bt252.2 = true then (if bt252.1 > 0 then (some true) else (if bt252.1 = 0 then ((spec_CandLess.f a0_0 a0_1 a0_2 a0_3 a0_4 a0_5 a1_0 a1_1 a1_2 a1_3 a1_4 a1_5).bind fun t254 => (some t254)) else (some false))) else (some false))) = some r := by rw [if_neg (show ¬ (false = true) by decide)] at H;exact H
        clear H
        have H := H1
        clear H1
        obtain ⟨⟨t252,t253⟩,A250,H⟩ := Option.bind_eq_some_iff.mp H
        try dsimp only at H
        have A25 := Aside0.mk A250
        clear A250
        by_cases c26 : t253 = true
        · subst c26
          have H1 : (if t252 > 0 then (some true) else (if t252 = 0 then ((spec_CandLess.f a0_0 a0_1 a0_2 a0_3 a0_4 a0_5 a1_0 a1_1 a1_2 a1_3 a1_4 a1_5).bind fun t254 => (some t254)) else (some false))) = some r := by rw [if_pos rfl] at H;exact H
          clear H
          have H := H1
          clear H1
          by_cases c27 : t252 > 0
          · rw [if_pos c27] at H
            have c27b0 : decide (0 < t252) = true := decide_eq_true c27
            clear c27
            obtain rfl := Option.some.inj H
            have hnb28 := NB245_238.out
            have hnc28 := NB238_245.out
            have hnb29 := NB245_239.out
            have hnc29 := NB239_245.out
            have hnb30 := NB245_251.out
            have hnc30 := NB251_245.out
            obtain ⟨hcz31_0,hcz31_1,hcz31_2,hcz31_3,hfz31_0,hfz31_1,hfz31_2,hfz31_3⟩ := spec_Better.cells4 BK245.out
            have hnb32 := NB251_238.out
            have hnc32 := NB238_251.out
            have hnb33 := NB251_239.out
            have hnc33 := NB239_251.out
            obtain ⟨hcz34_0,hcz34_1,hcz34_2,hcz34_3,hfz34_0,hfz34_1,hfz34_2,hfz34_3⟩ := spec_Better.cells4 BK251.out
            go_wp2_with (first | ((with_reducible refine gate_callee (f := 33) rfl ?_);refine goesL_ (some 34) rfl rfl Try.func33 Z396 rfl #[.agg #[.bool t240,.int .u64 t241,.int .u64 t242,.int .i64 t243],.agg #[.bool t246,.int .u64 t247,.int .u64 t248,.int .i64 t249]] rfl Z353 ?_;(with_reducible refine (spec_CompareFrac.calls kj5 t240 t241 t242 t243 t246 t247 t248 t249 t252 true _ A25.out).mono ?_);rintro e w35 ⟨rfl,hb⟩;refine ⟨_,rfl,?_⟩;have n_ := jA (blk_below (g := gb238) (o := .cells #[.int .i64 a0_0,.int .i64 a0_1,.int .i64 a0_2,.int .i64 a0_3,.int .i64 a0_4,.int .i64 a0_5] 35 (0,0)) Z506 hb) (jA (blk_below (g := gb239) (o := .cells #[.int .i64 a1_0,.int .i64 a1_1,.int .i64 a1_2,.int .i64 a1_3,.int .i64 a1_4,.int .i64 a1_5] 35 (0,0)) Z510 hb) (jA (blk_below (g := gb245) (o := .cells #[.bool t240,.int .u64 t241,.int .u64 t242,.int .i64 t243] 30 (0,0)) Z371 hb) (jA (blk_below (g := gb251) (o := .cells #[.bool t246,.int .u64 t247,.int .u64 t248,.int .i64 t249] 30 (0,0)) Z375 hb) (Aside0.mk (below_step Z159 hb)))));clear BK238 BK239 BK245 BK251 HB;obtain ⟨BK238,BK239,BK245,BK251,HB⟩ := n_;(try clear hb);(try clear hb2);(try clear hk);(try clear hi)))
            go_ret
            exact ⟨Z385,Z159⟩
          · rw [if_neg c27] at H
            have c27b0 : decide (0 < t252) = false := decide_eq_false c27
            clear c27
            by_cases c36 : t252 = 0
            · rw [if_pos c36] at H
              have c36b0 : (t252 == 0) = true := beq_iff_eq.mpr c36
              have c36b1 : (t252 != 0) = false := bne_eq_false_iff_eq.mpr c36
              clear c36
              obtain ⟨t254,A370,H⟩ := Option.bind_eq_some_iff.mp H
              have A37 := Aside0.mk A370
              clear A370
              obtain rfl := Option.some.inj H
              have hnb38 := NB245_238.out
              have hnc38 := NB238_245.out
              have hnb39 := NB245_239.out
              have hnc39 := NB239_245.out
              have hnb40 := NB245_251.out
              have hnc40 := NB251_245.out
              obtain ⟨hcz41_0,hcz41_1,hcz41_2,hcz41_3,hfz41_0,hfz41_1,hfz41_2,hfz41_3⟩ := spec_Better.cells4 BK245.out
              have hnb42 := NB251_238.out
              have hnc42 := NB238_251.out
              have hnb43 := NB251_239.out
              have hnc43 := NB239_251.out
              obtain ⟨hcz44_0,hcz44_1,hcz44_2,hcz44_3,hfz44_0,hfz44_1,hfz44_2,hfz44_3⟩ := spec_Better.cells4 BK251.out
              go_wp2_with (first | ((with_reducible refine gate_callee (f := 33) rfl ?_);refine goesL_ (some 34) rfl rfl Try.func33 Z396 rfl #[.agg #[.bool t240,.int .u64 t241,.int .u64 t242,.int .i64 t243],.agg #[.bool t246,.int .u64 t247,.int .u64 t248,.int .i64 t249]] rfl Z353 ?_;(with_reducible refine (spec_CompareFrac.calls kj5 t240 t241 t242 t243 t246 t247 t248 t249 t252 true _ A25.out).mono ?_);rintro e w45 ⟨rfl,hb⟩;refine ⟨_,rfl,?_⟩;have n_ := jA (blk_below (g := gb238) (o := .cells #[.int .i64 a0_0,.int .i64 a0_1,.int .i64 a0_2,.int .i64 a0_3,.int .i64 a0_4,.int .i64 a0_5] 35 (0,0)) Z506 hb) (jA (blk_below (g := gb239) (o := .cells #[.int .i64 a1_0,.int .i64 a1_1,.int .i64 a1_2,.int .i64 a1_3,.int .i64 a1_4,.int .i64 a1_5] 35 (0,0)) Z510 hb) (jA (blk_below (g := gb245) (o := .cells #[.bool t240,.int .u64 t241,.int .u64 t242,.int .i64 t243] 30 (0,0)) Z371 hb) (jA (blk_below (g := gb251) (o := .cells #[.bool t246,.int .u64 t247,.int .u64 t248,.int .i64 t249] 30 (0,0)) Z375 hb) (Aside0.mk (below_step Z159 hb)))));clear BK238 BK239 BK245 BK251 HB;obtain ⟨BK238,BK239,BK245,BK251,HB⟩ := n_;(try clear hb);(try clear hb2);(try clear hk);(try clear hi);have hnb46 := NB238_239.out;have hnc46 := NB239_238.out;obtain ⟨hcz47_0,hcz47_1,hcz47_2,hcz47_3,hcz47_4,hcz47_5,hfz47_0,hfz47_1,hfz47_2,hfz47_3,hfz47_4,hfz47_5⟩ := spec_Better.cells6 BK238.out;obtain ⟨hcz48_0,hcz48_1,hcz48_2,hcz48_3,hcz48_4,hcz48_5,hfz48_0,hfz48_1,hfz48_2,hfz48_3,hfz48_4,hfz48_5⟩ := spec_Better.cells6 BK239.out) | (go_at_call 34;(with_reducible refine (spec_CandLess.calls a0_0 a0_1 a0_2 a0_3 a0_4 a0_5 a1_0 a1_1 a1_2 a1_3 a1_4 a1_5 t254 _ A37.out).mono ?_);rintro e w49 ⟨rfl,hb⟩;have n_ := jA (blk_below (g := gb238) (o := .cells #[.int .i64 a0_0,.int .i64 a0_1,.int .i64 a0_2,.int .i64 a0_3,.int .i64 a0_4,.int .i64 a0_5] 35 (0,0)) Z506 hb) (jA (blk_below (g := gb239) (o := .cells #[.int .i64 a1_0,.int .i64 a1_1,.int .i64 a1_2,.int .i64 a1_3,.int .i64 a1_4,.int .i64 a1_5] 35 (0,0)) Z510 hb) (jA (blk_below (g := gb245) (o := .cells #[.bool t240,.int .u64 t241,.int .u64 t242,.int .i64 t243] 30 (0,0)) Z371 hb) (jA (blk_below (g := gb251) (o := .cells #[.bool t246,.int .u64 t247,.int .u64 t248,.int .i64 t249] 30 (0,0)) Z375 hb) (Aside0.mk (below_step Z159 hb)))));clear BK238 BK239 BK245 BK251 HB;obtain ⟨BK238,BK239,BK245,BK251,HB⟩ := n_;(try clear hb);(try clear hb2);(try clear hk);(try clear hi)))
              go_ret
              exact ⟨Z385,Z159⟩
            · rw [if_neg c36] at H
              have c36b0 : (t252 == 0) = false := beq_eq_false_iff_ne.mpr c36
              have c36b1 : (t252 != 0) = true := bne_iff_ne.mpr c36
              obtain rfl := Option.some.inj H
              have hnb50 := NB245_238.out
              have hnc50 := NB238_245.out
              have hnb51 := NB245_239.out
              have hnc51 := NB239_245.out
              have hnb52 := NB245_251.out
              have hnc52 := NB251_245.out
              obtain ⟨hcz53_0,hcz53_1,hcz53_2,hcz53_3,hfz53_0,hfz53_1,hfz53_2,hfz53_3⟩ := spec_Better.cells4 BK245.out
              have hnb54 := NB251_238.out
              have hnc54 := NB238_251.out
              have hnb55 := NB251_239.out
              have hnc55 := NB239_251.out
              obtain ⟨hcz56_0,hcz56_1,hcz56_2,hcz56_3,hfz56_0,hfz56_1,hfz56_2,hfz56_3⟩ := spec_Better.cells4 BK251.out
              go_wp2_with (first | ((with_reducible refine gate_callee (f := 33) rfl ?_);refine goesL_ (some 34) rfl rfl Try.func33 Z396 rfl #[.agg #[.bool t240,.int .u64 t241,.int .u64 t242,.int .i64 t243],.agg #[.bool t246,.int .u64 t247,.int .u64 t248,.int .i64 t249]] rfl Z353 ?_;(with_reducible refine (spec_CompareFrac.calls kj5 t240 t241 t242 t243 t246 t247 t248 t249 t252 true _ A25.out).mono ?_);rintro e w57 ⟨rfl,hb⟩;refine ⟨_,rfl,?_⟩;have n_ := jA (blk_below (g := gb238) (o := .cells #[.int .i64 a0_0,.int .i64 a0_1,.int .i64 a0_2,.int .i64 a0_3,.int .i64 a0_4,.int .i64 a0_5] 35 (0,0)) Z506 hb) (jA (blk_below (g := gb239) (o := .cells #[.int .i64 a1_0,.int .i64 a1_1,.int .i64 a1_2,.int .i64 a1_3,.int .i64 a1_4,.int .i64 a1_5] 35 (0,0)) Z510 hb) (jA (blk_below (g := gb245) (o := .cells #[.bool t240,.int .u64 t241,.int .u64 t242,.int .i64 t243] 30 (0,0)) Z371 hb) (jA (blk_below (g := gb251) (o := .cells #[.bool t246,.int .u64 t247,.int .u64 t248,.int .i64 t249] 30 (0,0)) Z375 hb) (Aside0.mk (below_step Z159 hb)))));clear BK238 BK239 BK245 BK251 HB;obtain ⟨BK238,BK239,BK245,BK251,HB⟩ := n_;(try clear hb);(try clear hb2);(try clear hk);(try clear hi)))
              go_ret
              exact ⟨Z385,Z159⟩
        · replace c26 := Bool.eq_false_iff.mpr c26
          subst c26
          have H1 : (some false) = some r := by rw [if_neg (show ¬ (false = true) by decide)] at H;exact H
          clear H
          have H := H1
          clear H1
          obtain rfl := Option.some.inj H
          have hnb58 := NB245_238.out
          have hnc58 := NB238_245.out
          have hnb59 := NB245_239.out
          have hnc59 := NB239_245.out
          have hnb60 := NB245_251.out
          have hnc60 := NB251_245.out
          obtain ⟨hcz61_0,hcz61_1,hcz61_2,hcz61_3,hfz61_0,hfz61_1,hfz61_2,hfz61_3⟩ := spec_Better.cells4 BK245.out
          have hnb62 := NB251_238.out
          have hnc62 := NB238_251.out
          have hnb63 := NB251_239.out
          have hnc63 := NB239_251.out
          obtain ⟨hcz64_0,hcz64_1,hcz64_2,hcz64_3,hfz64_0,hfz64_1,hfz64_2,hfz64_3⟩ := spec_Better.cells4 BK251.out
          go_wp2_with (first | ((with_reducible refine gate_callee (f := 33) rfl ?_);refine goesL_ (some 34) rfl rfl Try.func33 Z396 rfl #[.agg #[.bool t240,.int .u64 t241,.int .u64 t242,.int .i64 t243],.agg #[.bool t246,.int .u64 t247,.int .u64 t248,.int .i64 t249]] rfl Z353 ?_;(with_reducible refine (spec_CompareFrac.calls kj5 t240 t241 t242 t243 t246 t247 t248 t249 t252 false _ A25.out).mono ?_);rintro e w65 ⟨rfl,hb⟩;refine ⟨_,rfl,?_⟩;have n_ := jA (blk_below (g := gb238) (o := .cells #[.int .i64 a0_0,.int .i64 a0_1,.int .i64 a0_2,.int .i64 a0_3,.int .i64 a0_4,.int .i64 a0_5] 35 (0,0)) Z506 hb) (jA (blk_below (g := gb239) (o := .cells #[.int .i64 a1_0,.int .i64 a1_1,.int .i64 a1_2,.int .i64 a1_3,.int .i64 a1_4,.int .i64 a1_5] 35 (0,0)) Z510 hb) (jA (blk_below (g := gb245) (o := .cells #[.bool t240,.int .u64 t241,.int .u64 t242,.int .i64 t243] 30 (0,0)) Z371 hb) (jA (blk_below (g := gb251) (o := .cells #[.bool t246,.int .u64 t247,.int .u64 t248,.int .i64 t249] 30 (0,0)) Z375 hb) (Aside0.mk (below_step Z159 hb)))));clear BK238 BK239 BK245 BK251 HB;obtain ⟨BK238,BK239,BK245,BK251,HB⟩ := n_;(try clear hb);(try clear hb2);(try clear hk);(try clear hi)))
          go_ret
          exact ⟨Z385,Z159⟩

/-! ### impl_within: function 32 -/
def impl_within.f (a0 : Int) (a1 : Int) (a2 : Int) : Option (Bool) := if a0 ≥ a1 then (some (decide (a0 ≤ a2))) else (some false)
set_option maxHeartbeats 8000000 in
set_option maxRecDepth 100000 in
theorem impl_within.calls (a0 : Int) (a1 : Int) (a2 : Int) (r : Bool) (w : World) (h : impl_within.f a0 a1 a2 = some r) :
    Calls Try.prog 32 #[.int .i64 a0,.int .i64 a1,.int .i64 a2] w fun e w' => e = .returned (.bool r) ∧ Drawn0 w w' := by
  have H : (if a0 ≥ a1 then (some (decide (a0 ≤ a2))) else (some false)) = some r := h
  clear h
  by_cases c4 : a0 ≥ a1
  · rw [if_pos c4] at H
    have c4b0 : decide (a1 ≤ a0) = true := decide_eq_true c4
    clear c4
    obtain rfl := Option.some.inj H
    go_enter Try.func32,Try.ntmps32
    go_wp2
    go_ret
    exact ⟨Z392,Z388⟩
  · rw [if_neg c4] at H
    have c4b0 : decide (a1 ≤ a0) = false := decide_eq_false c4
    clear c4
    obtain rfl := Option.some.inj H
    go_enter Try.func32,Try.ntmps32
    go_wp2
    go_ret
    exact ⟨Z392,Z388⟩

/-! ### impl_isCount: function 39 -/
def impl_isCount.f (a0 : Int) (a1 : Int) : Option (Bool) := (impl_within.f a0 0 40).bind fun t255 => (if t255 = true then ((impl_within.f a1 1 100).bind fun t256 => (some t256)) else (some false))
set_option maxHeartbeats 8000000 in
set_option maxRecDepth 100000 in
theorem impl_isCount.calls (a0 : Int) (a1 : Int) (r : Bool) (w : World) (h : impl_isCount.f a0 a1 = some r) :
    Calls Try.prog 39 #[.int .i64 a0,.int .i64 a1] w fun e w' => e = .returned (.bool r) ∧ Drawn0 w w' := by
  have H : ((impl_within.f a0 0 40).bind fun t255 => (if t255 = true then ((impl_within.f a1 1 100).bind fun t256 => (some t256)) else (some false))) = some r := h
  clear h
  obtain ⟨t255,A30,H⟩ := Option.bind_eq_some_iff.mp H
  have A3 := Aside0.mk A30
  clear A30
  by_cases c4 : t255 = true
  · subst c4
    have H1 : ((impl_within.f a1 1 100).bind fun t256 => (some t256)) = some r := by rw [if_pos rfl] at H;exact H
    clear H
    have H := H1
    clear H1
    obtain ⟨t256,A50,H⟩ := Option.bind_eq_some_iff.mp H
    have A5 := Aside0.mk A50
    clear A50
    obtain rfl := Option.some.inj H
    go_enter Try.func39,Try.ntmps39
    go_wp2_with (first | ((with_reducible refine gate_callee (f := 32) rfl ?_);refine goesL_ (some 6) rfl rfl Try.func32 Z396 rfl #[.int .i64 a0,.int .i64 0,.int .i64 40] rfl Z353 ?_;(with_reducible refine (impl_within.calls a0 0 40 true _ A3.out).mono ?_);rintro e w' ⟨rfl,⟨nd,rfl⟩⟩;refine ⟨_,rfl,?_⟩) | (go_at_call 32;(with_reducible refine (impl_within.calls a1 1 100 t256 _ A5.out).mono ?_);rintro e w' ⟨rfl,⟨nd,rfl⟩⟩))
    go_ret
    exact ⟨Z392,Z388⟩
  · replace c4 := Bool.eq_false_iff.mpr c4
    subst c4
    have H1 : (some false) = some r := by rw [if_neg (show ¬ (false = true) by decide)] at H;exact H
    clear H
    have H := H1
    clear H1
    obtain rfl := Option.some.inj H
    go_enter Try.func39,Try.ntmps39
    go_wp2_with (first | ((with_reducible refine gate_callee (f := 32) rfl ?_);refine goesL_ (some 6) rfl rfl Try.func32 Z396 rfl #[.int .i64 a0,.int .i64 0,.int .i64 40] rfl Z353 ?_;(with_reducible refine (impl_within.calls a0 0 40 false _ A3.out).mono ?_);rintro e w' ⟨rfl,⟨nd,rfl⟩⟩;refine ⟨_,rfl,?_⟩))
    go_ret
    exact ⟨Z392,Z388⟩

/-! ### impl_WideOk: function 31 -/
theorem impl_WideOk.cells3 {w : World} {g : Nat} {t : TypeId} {a0 a1 a2 : Value} (h : w.heap[g]? = some (.cells #[a0,a1,a2] t (0,0))) : w.cell? ⟨g,0,none⟩ = some a0 ∧ w.cell? ⟨g,1,none⟩ = some a1 ∧ w.cell? ⟨g,2,none⟩ = some a2 ∧ w.frozen? ⟨g,0,none⟩ = false ∧ w.frozen? ⟨g,1,none⟩ = false ∧ w.frozen? ⟨g,2,none⟩ = false := ⟨(blk_cell h 0).trans rfl,(blk_cell h 1).trans rfl,(blk_cell h 2).trans rfl,blk_frozen h 0,blk_frozen h 1,blk_frozen h 2⟩
def impl_WideOk.f (a0_0 : Bool) (a0_1 : Int) (a0_2 : Int) : Option (Bool) := if a0_1 < 9223372036854775808 then (if a0_0 = true then (if a0_1 > 0 then (some true) else (some (decide (a0_2 > 0)))) else (some true)) else (some false)
set_option maxHeartbeats 8000000 in
set_option maxRecDepth 100000 in
theorem impl_WideOk.calls (a0_0 : Bool) (a0_1 : Int) (a0_2 : Int) (r : Bool) (w : World) (h : impl_WideOk.f a0_0 a0_1 a0_2 = some r) :
    Calls Try.prog 31 #[.agg #[.bool a0_0,.int .u64 a0_1,.int .u64 a0_2]] w fun e w' => e = .returned (.bool r) ∧ Below w.heap.size w w' := by
  have hu28 := Try.underlying28
  have HB := Aside0.mk (Below.refl w.heap.size w)
  have H : (if a0_1 < 9223372036854775808 then (if a0_0 = true then (if a0_1 > 0 then (some true) else (some (decide (a0_2 > 0)))) else (some true)) else (some false)) = some r := h
  clear h
  by_cases c2 : a0_1 < 9223372036854775808
  · rw [if_pos c2] at H
    have c2b0 : decide (a0_1 < 9223372036854775808) = true := decide_eq_true c2
    clear c2
    by_cases c3 : a0_0 = true
    · subst c3
      have H1 : (if a0_1 > 0 then (some true) else (some (decide (a0_2 > 0)))) = some r := by rw [if_pos rfl] at H;exact H
      clear H
      have H := H1
      clear H1
      by_cases c4 : a0_1 > 0
      · rw [if_pos c4] at H
        have c4b0 : decide (0 < a0_1) = true := decide_eq_true c4
        clear c4
        obtain rfl := Option.some.inj H
        go_enter Try.func31,Try.ntmps31
        go_wp2_with (first | ((with_reducible refine gate_dst (N := 1) rfl ?_);refine box_event ?hg (N := 1) ?hd (cs := #[.bool true,.int .u64 a0_1,.int .u64 a0_2]) (t := 28) ?hr ?_;(case hd => rfl);(case hg => rfl);(case hr => exact Z393);intro gb257 hg w5 hbox hb;have n_ := jA (below_step Z476 hb) (jA (hbox) (jA ((Z345 : w.heap.size ≤ gb257)) (Aside0.mk ((Z345 : w.heap.size ≤ gb257)))));clear HB;obtain ⟨HB,BK257,GW257,GE257⟩ := n_;clear hb hbox hg;obtain ⟨hcz6_0,hcz6_1,hcz6_2,hfz6_0,hfz6_1,hfz6_2⟩ := impl_WideOk.cells3 BK257.out))
        go_ret
        exact ⟨Z385,Z348⟩
      · rw [if_neg c4] at H
        have c4b0 : decide (0 < a0_1) = false := decide_eq_false c4
        clear c4
        obtain rfl := Option.some.inj H
        go_enter Try.func31,Try.ntmps31
        go_wp2_with (first | ((with_reducible refine gate_dst (N := 1) rfl ?_);refine box_event ?hg (N := 1) ?hd (cs := #[.bool true,.int .u64 a0_1,.int .u64 a0_2]) (t := 28) ?hr ?_;(case hd => rfl);(case hg => rfl);(case hr => exact Z393);intro gb257 hg w7 hbox hb;have n_ := jA (below_step Z476 hb) (jA (hbox) (jA ((Z345 : w.heap.size ≤ gb257)) (Aside0.mk ((Z345 : w.heap.size ≤ gb257)))));clear HB;obtain ⟨HB,BK257,GW257,GE257⟩ := n_;clear hb hbox hg;obtain ⟨hcz8_0,hcz8_1,hcz8_2,hfz8_0,hfz8_1,hfz8_2⟩ := impl_WideOk.cells3 BK257.out))
        go_ret
        exact ⟨Z385,Z348⟩
    · replace c3 := Bool.eq_false_iff.mpr c3
      subst c3
      have H1 : (some true) = some r := by rw [if_neg (show ¬ (false = true) by decide)] at H;exact H
      clear H
      have H := H1
      clear H1
      obtain rfl := Option.some.inj H
      go_enter Try.func31,Try.ntmps31
      go_wp2_with (first | ((with_reducible refine gate_dst (N := 1) rfl ?_);refine box_event ?hg (N := 1) ?hd (cs := #[.bool false,.int .u64 a0_1,.int .u64 a0_2]) (t := 28) ?hr ?_;(case hd => rfl);(case hg => rfl);(case hr => exact Z393);intro gb257 hg w9 hbox hb;have n_ := jA (below_step Z476 hb) (jA (hbox) (jA ((Z345 : w.heap.size ≤ gb257)) (Aside0.mk ((Z345 : w.heap.size ≤ gb257)))));clear HB;obtain ⟨HB,BK257,GW257,GE257⟩ := n_;clear hb hbox hg;obtain ⟨hcz10_0,hcz10_1,hcz10_2,hfz10_0,hfz10_1,hfz10_2⟩ := impl_WideOk.cells3 BK257.out))
      go_ret
      exact ⟨Z385,Z348⟩
  · rw [if_neg c2] at H
    have c2b0 : decide (a0_1 < 9223372036854775808) = false := decide_eq_false c2
    clear c2
    obtain rfl := Option.some.inj H
    go_enter Try.func31,Try.ntmps31
    go_wp2_with (first | ((with_reducible refine gate_dst (N := 1) rfl ?_);refine box_event ?hg (N := 1) ?hd (cs := #[.bool a0_0,.int .u64 a0_1,.int .u64 a0_2]) (t := 28) ?hr ?_;(case hd => rfl);(case hg => rfl);(case hr => exact Z393);intro gb257 hg w11 hbox hb;have n_ := jA (below_step Z476 hb) (jA (hbox) (jA ((Z345 : w.heap.size ≤ gb257)) (Aside0.mk ((Z345 : w.heap.size ≤ gb257)))));clear HB;obtain ⟨HB,BK257,GW257,GE257⟩ := n_;clear hb hbox hg;obtain ⟨hcz12_0,hcz12_1,hcz12_2,hfz12_0,hfz12_1,hfz12_2⟩ := impl_WideOk.cells3 BK257.out))
    go_ret
    exact ⟨Z385,Z348⟩

/-! ### impl_FracOk: function 15 -/
theorem impl_FracOk.cells4 {w : World} {g : Nat} {t : TypeId} {a0 a1 a2 a3 : Value} (h : w.heap[g]? = some (.cells #[a0,a1,a2,a3] t (0,0))) : w.cell? ⟨g,0,none⟩ = some a0 ∧ w.cell? ⟨g,1,none⟩ = some a1 ∧ w.cell? ⟨g,2,none⟩ = some a2 ∧ w.cell? ⟨g,3,none⟩ = some a3 ∧ w.frozen? ⟨g,0,none⟩ = false ∧ w.frozen? ⟨g,1,none⟩ = false ∧ w.frozen? ⟨g,2,none⟩ = false ∧ w.frozen? ⟨g,3,none⟩ = false := ⟨(blk_cell h 0).trans rfl,(blk_cell h 1).trans rfl,(blk_cell h 2).trans rfl,(blk_cell h 3).trans rfl,blk_frozen h 0,blk_frozen h 1,blk_frozen h 2,blk_frozen h 3⟩
def impl_FracOk.f (a0_0 : Bool) (a0_1 : Int) (a0_2 : Int) (a0_3 : Int) : Option (Bool) := (impl_WideOk.f a0_0 a0_1 a0_2).bind fun t259 => (if t259 = true then ((impl_within.f a0_3 1 1000000).bind fun t260 => (some t260)) else (some false))
set_option maxHeartbeats 8000000 in
set_option maxRecDepth 100000 in
theorem impl_FracOk.calls (a0_0 : Bool) (a0_1 : Int) (a0_2 : Int) (a0_3 : Int) (r : Bool) (w : World) (h : impl_FracOk.f a0_0 a0_1 a0_2 a0_3 = some r) :
    Calls Try.prog 15 #[.agg #[.bool a0_0,.int .u64 a0_1,.int .u64 a0_2,.int .i64 a0_3]] w fun e w' => e = .returned (.bool r) ∧ Below w.heap.size w w' := by
  have hu30 := Try.underlying30
  have hu28 := Try.underlying28
  have HB := Aside0.mk (Below.refl w.heap.size w)
  have H : ((impl_WideOk.f a0_0 a0_1 a0_2).bind fun t259 => (if t259 = true then ((impl_within.f a0_3 1 1000000).bind fun t260 => (some t260)) else (some false))) = some r := h
  clear h
  obtain ⟨t259,A20,H⟩ := Option.bind_eq_some_iff.mp H
  have A2 := Aside0.mk A20
  clear A20
  by_cases c3 : t259 = true
  · subst c3
    have H1 : ((impl_within.f a0_3 1 1000000).bind fun t260 => (some t260)) = some r := by rw [if_pos rfl] at H;exact H
    clear H
    have H := H1
    clear H1
    obtain ⟨t260,A40,H⟩ := Option.bind_eq_some_iff.mp H
    have A4 := Aside0.mk A40
    clear A40
    obtain rfl := Option.some.inj H
    go_enter Try.func15,Try.ntmps15
    go_wp2_with (first | ((with_reducible refine gate_dst (N := 1) rfl ?_);refine box_event ?hg (N := 1) ?hd (cs := #[.bool a0_0,.int .u64 a0_1,.int .u64 a0_2,.int .i64 a0_3]) (t := 30) ?hr ?_;(case hd => rfl);(case hg => rfl);(case hr => exact Z393);intro gb258 hg w5 hbox hb;have n_ := jA (below_step Z476 hb) (jA (hbox) (jA ((Z345 : w.heap.size ≤ gb258)) (Aside0.mk ((Z345 : w.heap.size ≤ gb258)))));clear HB;obtain ⟨HB,BK258,GW258,GE258⟩ := n_;clear hb hbox hg;obtain ⟨hcz6_0,hcz6_1,hcz6_2,hcz6_3,hfz6_0,hfz6_1,hfz6_2,hfz6_3⟩ := impl_FracOk.cells4 BK258.out) | ((with_reducible refine gate_callee (f := 31) rfl ?_);refine goesL_ (some 5) rfl rfl Try.func31 Z396 rfl #[.agg #[.bool a0_0,.int .u64 a0_1,.int .u64 a0_2]] rfl Z353 ?_;(with_reducible refine (impl_WideOk.calls a0_0 a0_1 a0_2 true _ A2.out).mono ?_);rintro e w7 ⟨rfl,hb⟩;refine ⟨_,rfl,?_⟩;have n_ := jA (blk_below (g := gb258) (o := .cells #[.bool a0_0,.int .u64 a0_1,.int .u64 a0_2,.int .i64 a0_3] 30 (0,0)) Z382 hb) (Aside0.mk (below_step Z346 hb));clear BK258 HB;obtain ⟨BK258,HB⟩ := n_;(try clear hb);(try clear hb2);(try clear hk);(try clear hi);obtain ⟨hcz8_0,hcz8_1,hcz8_2,hcz8_3,hfz8_0,hfz8_1,hfz8_2,hfz8_3⟩ := impl_FracOk.cells4 BK258.out) | (go_at_call 32;(with_reducible refine (impl_within.calls a0_3 1 1000000 t260 _ A4.out).mono ?_);rintro e w' ⟨rfl,⟨nd,rfl⟩⟩))
    go_ret
    exact ⟨Z385,Z346⟩
  · replace c3 := Bool.eq_false_iff.mpr c3
    subst c3
    have H1 : (some false) = some r := by rw [if_neg (show ¬ (false = true) by decide)] at H;exact H
    clear H
    have H := H1
    clear H1
    obtain rfl := Option.some.inj H
    go_enter Try.func15,Try.ntmps15
    go_wp2_with (first | ((with_reducible refine gate_dst (N := 1) rfl ?_);refine box_event ?hg (N := 1) ?hd (cs := #[.bool a0_0,.int .u64 a0_1,.int .u64 a0_2,.int .i64 a0_3]) (t := 30) ?hr ?_;(case hd => rfl);(case hg => rfl);(case hr => exact Z393);intro gb258 hg w9 hbox hb;have n_ := jA (below_step Z476 hb) (jA (hbox) (jA ((Z345 : w.heap.size ≤ gb258)) (Aside0.mk ((Z345 : w.heap.size ≤ gb258)))));clear HB;obtain ⟨HB,BK258,GW258,GE258⟩ := n_;clear hb hbox hg;obtain ⟨hcz10_0,hcz10_1,hcz10_2,hcz10_3,hfz10_0,hfz10_1,hfz10_2,hfz10_3⟩ := impl_FracOk.cells4 BK258.out) | ((with_reducible refine gate_callee (f := 31) rfl ?_);refine goesL_ (some 5) rfl rfl Try.func31 Z396 rfl #[.agg #[.bool a0_0,.int .u64 a0_1,.int .u64 a0_2]] rfl Z353 ?_;(with_reducible refine (impl_WideOk.calls a0_0 a0_1 a0_2 false _ A2.out).mono ?_);rintro e w11 ⟨rfl,hb⟩;refine ⟨_,rfl,?_⟩;have n_ := jA (blk_below (g := gb258) (o := .cells #[.bool a0_0,.int .u64 a0_1,.int .u64 a0_2,.int .i64 a0_3] 30 (0,0)) Z382 hb) (Aside0.mk (below_step Z346 hb));clear BK258 HB;obtain ⟨BK258,HB⟩ := n_;(try clear hb);(try clear hb2);(try clear hk);(try clear hi)))
    go_ret
    exact ⟨Z385,Z346⟩

/-! ### impl_fracOf: function 50 -/
theorem impl_fracOf.cells3 {w : World} {g : Nat} {t : TypeId} {a0 a1 a2 : Value} (h : w.heap[g]? = some (.cells #[a0,a1,a2] t (0,0))) : w.cell? ⟨g,0,none⟩ = some a0 ∧ w.cell? ⟨g,1,none⟩ = some a1 ∧ w.cell? ⟨g,2,none⟩ = some a2 ∧ w.frozen? ⟨g,0,none⟩ = false ∧ w.frozen? ⟨g,1,none⟩ = false ∧ w.frozen? ⟨g,2,none⟩ = false := ⟨(blk_cell h 0).trans rfl,(blk_cell h 1).trans rfl,(blk_cell h 2).trans rfl,blk_frozen h 0,blk_frozen h 1,blk_frozen h 2⟩
theorem impl_fracOf.cells4 {w : World} {g : Nat} {t : TypeId} {a0 a1 a2 a3 : Value} (h : w.heap[g]? = some (.cells #[a0,a1,a2,a3] t (0,0))) : w.cell? ⟨g,0,none⟩ = some a0 ∧ w.cell? ⟨g,1,none⟩ = some a1 ∧ w.cell? ⟨g,2,none⟩ = some a2 ∧ w.cell? ⟨g,3,none⟩ = some a3 ∧ w.frozen? ⟨g,0,none⟩ = false ∧ w.frozen? ⟨g,1,none⟩ = false ∧ w.frozen? ⟨g,2,none⟩ = false ∧ w.frozen? ⟨g,3,none⟩ = false := ⟨(blk_cell h 0).trans rfl,(blk_cell h 1).trans rfl,(blk_cell h 2).trans rfl,(blk_cell h 3).trans rfl,blk_frozen h 0,blk_frozen h 1,blk_frozen h 2,blk_frozen h 3⟩
def impl_fracOf.f (a0_0 : Bool) (a0_1 : Int) (a0_2 : Int) (a1 : Int) : Option (Bool × Int × Int × Int × Bool) := (impl_FracOk.f a0_0 a0_1 a0_2 a1).bind fun t264 => (if t264 = true then (some (a0_0,a0_1,a0_2,a1,true)) else (some (false,0,0,0,false)))
set_option maxHeartbeats 8000000 in
set_option maxRecDepth 100000 in
theorem impl_fracOf.calls (a0_0 : Bool) (a0_1 : Int) (a0_2 : Int) (a1 : Int) (r1 : Bool) (r2 : Int) (r3 : Int) (r4 : Int) (r5 : Bool) (w : World) (h : impl_fracOf.f a0_0 a0_1 a0_2 a1 = some (r1,r2,r3,r4,r5)) :
    Calls Try.prog 50 #[.agg #[.bool a0_0,.int .u64 a0_1,.int .u64 a0_2],.int .i64 a1] w fun e w' => e = .returned (.tuple #[.agg #[.bool r1,.int .u64 r2,.int .u64 r3,.int .i64 r4],.bool r5]) ∧ Below w.heap.size w w' := by
  have hu28 := Try.underlying28
  have hu30 := Try.underlying30
  have HB := Aside0.mk (Below.refl w.heap.size w)
  have H : ((impl_FracOk.f a0_0 a0_1 a0_2 a1).bind fun t264 => (if t264 = true then (some (a0_0,a0_1,a0_2,a1,true)) else (some (false,0,0,0,false)))) = some (r1,r2,r3,r4,r5) := h
  clear h
  obtain ⟨t264,A30,H⟩ := Option.bind_eq_some_iff.mp H
  have A3 := Aside0.mk A30
  clear A30
  by_cases c4 : t264 = true
  · subst c4
    have H1 : (some (a0_0,a0_1,a0_2,a1,true)) = some (r1,r2,r3,r4,r5) := by rw [if_pos rfl] at H;exact H
    clear H
    have H := H1
    clear H1
    simp only [Option.some.injEq,Prod.mk.injEq] at H
    obtain ⟨rfl,rfl,rfl,rfl,rfl⟩ := H
    go_enter Try.func50,Try.ntmps50
    go_wp2_with (first | ((with_reducible refine gate_dst (N := 2) rfl ?_);refine box_event ?hg (N := 2) ?hd (cs := #[.bool a0_0,.int .u64 a0_1,.int .u64 a0_2]) (t := 28) ?hr ?_;(case hd => rfl);(case hg => rfl);(case hr => exact Z393);intro gb261 hg w5 hbox hb;have n_ := jA (below_step Z476 hb) (jA (hbox) (jA ((Z345 : w.heap.size ≤ gb261)) (Aside0.mk ((Z345 : w.heap.size ≤ gb261)))));clear HB;obtain ⟨HB,BK261,GW261,GE261⟩ := n_;clear hb hbox hg) | ((with_reducible refine gate_dst (N := 4) rfl ?_);refine box_event ?hg (N := 4) ?hd (cs := #[.bool false,.int .u64 0,.int .u64 0,.int .i64 0]) (t := 30) ?hr ?_;(case hd => rfl);(case hg => rfl);(case hr => exact Z393);intro gb262 hg w6 hbox hb;have n_ := jA (blk_below (g := gb261) (o := .cells #[.bool a0_0,.int .u64 a0_1,.int .u64 a0_2] 28 (0,0)) Z520 hb) (jA (below_step Z460 hb) (jA (hbox) (jA ((Z324 : w.heap.size ≤ gb262)) (jA ((Z324 : w.heap.size ≤ gb262)) (jA ((Z259 : gb261 ≠ gb262)) (Aside0.mk ((Z261 : gb262 ≠ gb261))))))));clear BK261 HB;obtain ⟨BK261,HB,BK262,GW262,GE262,NB261_262,NB262_261⟩ := n_;clear hb hbox hg;have hnb7 := NB261_262.out;have hnc7 := NB262_261.out;obtain ⟨hcz8_0,hcz8_1,hcz8_2,hfz8_0,hfz8_1,hfz8_2⟩ := impl_fracOf.cells3 BK261.out) | ((with_reducible refine gate_dst (N := 6) rfl ?_);refine box_event ?hg (N := 6) ?hd (cs := #[.bool false,.int .u64 0,.int .u64 0,.int .i64 0]) (t := 30) ?hr ?_;(case hd => rfl);(case hg => rfl);(case hr => exact Z393);intro gb263 hg w9 hbox hb;have n_ := jA (blk_below (g := gb261) (o := .cells #[.bool a0_0,.int .u64 a0_1,.int .u64 a0_2] 28 (0,0)) Z520 hb) (jA (blk_below (g := gb262) (o := .cells #[.bool false,.int .u64 0,.int .u64 0,.int .i64 0] 30 (0,0)) Z529 hb) (jA (below_step Z439 hb) (jA (hbox) (jA ((Z224 : w.heap.size ≤ gb263)) (jA ((Z224 : w.heap.size ≤ gb263)) (jA ((Z259 : gb261 ≠ gb263)) (jA ((Z261 : gb263 ≠ gb261)) (jA ((Z242 : gb262 ≠ gb263)) (Aside0.mk ((Z244 : gb263 ≠ gb262)))))))))));clear BK261 BK262 HB;obtain ⟨BK261,BK262,HB,BK263,GW263,GE263,NB261_263,NB263_261,NB262_263,NB263_262⟩ := n_;clear hb hbox hg;have hnb10 := NB263_261.out;have hnc10 := NB261_263.out;have hnb11 := NB263_262.out;have hnc11 := NB262_263.out;obtain ⟨hcz12_0,hcz12_1,hcz12_2,hcz12_3,hfz12_0,hfz12_1,hfz12_2,hfz12_3⟩ := impl_fracOf.cells4 BK263.out) | ((with_reducible refine gate_callee (f := 15) rfl ?_);refine goesL_ (some 11) rfl rfl Try.func15 Z396 rfl #[.agg #[.bool a0_0,.int .u64 a0_1,.int .u64 a0_2,.int .i64 a1]] rfl Z353 ?_;(with_reducible refine (impl_FracOk.calls a0_0 a0_1 a0_2 a1 true _ A3.out).mono ?_);rintro e w13 ⟨rfl,hb⟩;refine ⟨_,rfl,?_⟩;have n_ := jA (blk_below (g := gb261) (o := .cells #[.bool a0_0,.int .u64 a0_1,.int .u64 a0_2] 28 (0,0)) Z68 hb) (jA (blk_below (g := gb262) (o := .cells #[.bool false,.int .u64 0,.int .u64 0,.int .i64 0] 30 (0,0)) Z67 hb) (jA (blk_below (g := gb263) (o := .cells #[.bool a0_0,.int .u64 a0_1,.int .u64 a0_2,.int .i64 a1] 30 (0,0)) Z27 hb) (Aside0.mk (below_step Z222 hb))));clear BK261 BK262 BK263 HB;obtain ⟨BK261,BK262,BK263,HB⟩ := n_;(try clear hb);(try clear hb2);(try clear hk);(try clear hi);obtain ⟨hcz14_0,hcz14_1,hcz14_2,hcz14_3,hfz14_0,hfz14_1,hfz14_2,hfz14_3⟩ := impl_fracOf.cells4 BK263.out;obtain ⟨hcz15_0,hcz15_1,hcz15_2,hcz15_3,hfz15_0,hfz15_1,hfz15_2,hfz15_3⟩ := impl_fracOf.cells4 BK262.out))
    refine bodyPost_ret (results_ct rfl _ _ gb262 30 #[.bool a0_0,.int .u64 a0_1,.int .u64 a0_2,.int .i64 a1] (0,0) _ rfl (by (with_reducible repeat (first | refine bA ?_ _ | refine bB ?_ | refine bC ?_ _));refine blk_put (cs := #[.bool a0_0,.int .u64 a0_1,.int .u64 a0_2,.int .i64 0]) ?_ 3 _ rfl;(with_reducible repeat (first | refine bA ?_ _ | refine bB ?_ | refine bC ?_ _));refine blk_put (cs := #[.bool a0_0,.int .u64 a0_1,.int .u64 0,.int .i64 0]) ?_ 2 _ rfl;(with_reducible repeat (first | refine bA ?_ _ | refine bB ?_ | refine bC ?_ _));refine blk_put (cs := #[.bool a0_0,.int .u64 0,.int .u64 0,.int .i64 0]) ?_ 1 _ rfl;(with_reducible repeat (first | refine bA ?_ _ | refine bB ?_ | refine bC ?_ _));refine blk_put (cs := #[.bool false,.int .u64 0,.int .u64 0,.int .i64 0]) ?_ 0 _ rfl;(with_reducible repeat (first | refine bA ?_ _ | refine bB ?_ | refine bC ?_ _));exact BK262.out) Try.underlying30 rfl Z396) rfl ?_
    exact ⟨Z385,Z222⟩
  · replace c4 := Bool.eq_false_iff.mpr c4
    subst c4
    have H1 : (some (false,0,0,0,false)) = some (r1,r2,r3,r4,r5) := by rw [if_neg (show ¬ (false = true) by decide)] at H;exact H
    clear H
    have H := H1
    clear H1
    simp only [Option.some.injEq,Prod.mk.injEq] at H
    obtain ⟨rfl,rfl,rfl,rfl,rfl⟩ := H
    go_enter Try.func50,Try.ntmps50
    go_wp2_with (first | ((with_reducible refine gate_dst (N := 2) rfl ?_);refine box_event ?hg (N := 2) ?hd (cs := #[.bool a0_0,.int .u64 a0_1,.int .u64 a0_2]) (t := 28) ?hr ?_;(case hd => rfl);(case hg => rfl);(case hr => exact Z393);intro gb261 hg w16 hbox hb;have n_ := jA (below_step Z476 hb) (jA (hbox) (jA ((Z345 : w.heap.size ≤ gb261)) (Aside0.mk ((Z345 : w.heap.size ≤ gb261)))));clear HB;obtain ⟨HB,BK261,GW261,GE261⟩ := n_;clear hb hbox hg) | ((with_reducible refine gate_dst (N := 4) rfl ?_);refine box_event ?hg (N := 4) ?hd (cs := #[.bool false,.int .u64 0,.int .u64 0,.int .i64 0]) (t := 30) ?hr ?_;(case hd => rfl);(case hg => rfl);(case hr => exact Z393);intro gb262 hg w17 hbox hb;have n_ := jA (blk_below (g := gb261) (o := .cells #[.bool a0_0,.int .u64 a0_1,.int .u64 a0_2] 28 (0,0)) Z520 hb) (jA (below_step Z460 hb) (jA (hbox) (jA ((Z324 : w.heap.size ≤ gb262)) (jA ((Z324 : w.heap.size ≤ gb262)) (jA ((Z259 : gb261 ≠ gb262)) (Aside0.mk ((Z261 : gb262 ≠ gb261))))))));clear BK261 HB;obtain ⟨BK261,HB,BK262,GW262,GE262,NB261_262,NB262_261⟩ := n_;clear hb hbox hg;have hnb18 := NB261_262.out;have hnc18 := NB262_261.out;obtain ⟨hcz19_0,hcz19_1,hcz19_2,hfz19_0,hfz19_1,hfz19_2⟩ := impl_fracOf.cells3 BK261.out) | ((with_reducible refine gate_dst (N := 6) rfl ?_);refine box_event ?hg (N := 6) ?hd (cs := #[.bool false,.int .u64 0,.int .u64 0,.int .i64 0]) (t := 30) ?hr ?_;(case hd => rfl);(case hg => rfl);(case hr => exact Z393);intro gb263 hg w20 hbox hb;have n_ := jA (blk_below (g := gb261) (o := .cells #[.bool a0_0,.int .u64 a0_1,.int .u64 a0_2] 28 (0,0)) Z520 hb) (jA (blk_below (g := gb262) (o := .cells #[.bool false,.int .u64 0,.int .u64 0,.int .i64 0] 30 (0,0)) Z529 hb) (jA (below_step Z439 hb) (jA (hbox) (jA ((Z224 : w.heap.size ≤ gb263)) (jA ((Z224 : w.heap.size ≤ gb263)) (jA ((Z259 : gb261 ≠ gb263)) (jA ((Z261 : gb263 ≠ gb261)) (jA ((Z242 : gb262 ≠ gb263)) (Aside0.mk ((Z244 : gb263 ≠ gb262)))))))))));clear BK261 BK262 HB;obtain ⟨BK261,BK262,HB,BK263,GW263,GE263,NB261_263,NB263_261,NB262_263,NB263_262⟩ := n_;clear hb hbox hg;have hnb21 := NB263_261.out;have hnc21 := NB261_263.out;have hnb22 := NB263_262.out;have hnc22 := NB262_263.out;obtain ⟨hcz23_0,hcz23_1,hcz23_2,hcz23_3,hfz23_0,hfz23_1,hfz23_2,hfz23_3⟩ := impl_fracOf.cells4 BK263.out) | ((with_reducible refine gate_callee (f := 15) rfl ?_);refine goesL_ (some 11) rfl rfl Try.func15 Z396 rfl #[.agg #[.bool a0_0,.int .u64 a0_1,.int .u64 a0_2,.int .i64 a1]] rfl Z353 ?_;(with_reducible refine (impl_FracOk.calls a0_0 a0_1 a0_2 a1 false _ A3.out).mono ?_);rintro e w24 ⟨rfl,hb⟩;refine ⟨_,rfl,?_⟩;have n_ := jA (blk_below (g := gb261) (o := .cells #[.bool a0_0,.int .u64 a0_1,.int .u64 a0_2] 28 (0,0)) Z68 hb) (jA (blk_below (g := gb262) (o := .cells #[.bool false,.int .u64 0,.int .u64 0,.int .i64 0] 30 (0,0)) Z67 hb) (jA (blk_below (g := gb263) (o := .cells #[.bool a0_0,.int .u64 a0_1,.int .u64 a0_2,.int .i64 a1] 30 (0,0)) Z27 hb) (Aside0.mk (below_step Z222 hb))));clear BK261 BK262 BK263 HB;obtain ⟨BK261,BK262,BK263,HB⟩ := n_;(try clear hb);(try clear hb2);(try clear hk);(try clear hi);obtain ⟨hcz25_0,hcz25_1,hcz25_2,hcz25_3,hfz25_0,hfz25_1,hfz25_2,hfz25_3⟩ := impl_fracOf.cells4 BK262.out))
    refine bodyPost_ret (results_ct rfl _ _ gb262 30 #[.bool false,.int .u64 0,.int .u64 0,.int .i64 0] (0,0) _ rfl (by (with_reducible repeat (first | refine bA ?_ _ | refine bB ?_ | refine bC ?_ _));refine blk_put (cs := #[.bool false,.int .u64 0,.int .u64 0,.int .i64 0]) ?_ 3 _ rfl;(with_reducible repeat (first | refine bA ?_ _ | refine bB ?_ | refine bC ?_ _));refine blk_put (cs := #[.bool false,.int .u64 0,.int .u64 0,.int .i64 0]) ?_ 2 _ rfl;(with_reducible repeat (first | refine bA ?_ _ | refine bB ?_ | refine bC ?_ _));refine blk_put (cs := #[.bool false,.int .u64 0,.int .u64 0,.int .i64 0]) ?_ 1 _ rfl;(with_reducible repeat (first | refine bA ?_ _ | refine bB ?_ | refine bC ?_ _));refine blk_put (cs := #[.bool false,.int .u64 0,.int .u64 0,.int .i64 0]) ?_ 0 _ rfl;(with_reducible repeat (first | refine bA ?_ _ | refine bB ?_ | refine bC ?_ _));exact BK262.out) Try.underlying30 rfl Z396) rfl ?_
    exact ⟨Z385,Z222⟩

/-! ### impl_wideOf: function 71 -/
theorem impl_wideOf.cells3 {w : World} {g : Nat} {t : TypeId} {a0 a1 a2 : Value} (h : w.heap[g]? = some (.cells #[a0,a1,a2] t (0,0))) : w.cell? ⟨g,0,none⟩ = some a0 ∧ w.cell? ⟨g,1,none⟩ = some a1 ∧ w.cell? ⟨g,2,none⟩ = some a2 ∧ w.frozen? ⟨g,0,none⟩ = false ∧ w.frozen? ⟨g,1,none⟩ = false ∧ w.frozen? ⟨g,2,none⟩ = false := ⟨(blk_cell h 0).trans rfl,(blk_cell h 1).trans rfl,(blk_cell h 2).trans rfl,blk_frozen h 0,blk_frozen h 1,blk_frozen h 2⟩
def impl_wideOf.f (a0 : Bool) (a1 : Int) (a2 : Int) : Option (Bool × Int × Int) := if a0 = true then (if a1 > 0 then (some (true,a1,a2)) else (some (decide (a2 > 0),a1,a2))) else (some (false,a1,a2))
set_option maxHeartbeats 8000000 in
set_option maxRecDepth 100000 in
theorem impl_wideOf.calls (a0 : Bool) (a1 : Int) (a2 : Int) (r1 : Bool) (r2 : Int) (r3 : Int) (w : World) (h : impl_wideOf.f a0 a1 a2 = some (r1,r2,r3)) :
    Calls Try.prog 71 #[.bool a0,.int .u64 a1,.int .u64 a2] w fun e w' => e = .returned (.agg #[.bool r1,.int .u64 r2,.int .u64 r3]) ∧ Below w.heap.size w w' := by
  have hu28 := Try.underlying28
  have HB := Aside0.mk (Below.refl w.heap.size w)
  have H : (if a0 = true then (if a1 > 0 then (some (true,a1,a2)) else (some (decide (a2 > 0),a1,a2))) else (some (false,a1,a2))) = some (r1,r2,r3) := h
  clear h
  by_cases c4 : a0 = true
  · subst c4
    have H1 : (if a1 > 0 then (some (true,a1,a2)) else (some (decide (a2 > 0),a1,a2))) = some (r1,r2,r3) := by rw [if_pos rfl] at H;exact H
    clear H
    have H := H1
    clear H1
    by_cases c5 : a1 > 0
    · rw [if_pos c5] at H
      have c5b0 : decide (0 < a1) = true := decide_eq_true c5
      clear c5
      simp only [Option.some.injEq,Prod.mk.injEq] at H
      obtain ⟨rfl,rfl,rfl⟩ := H
      go_enter Try.func71,Try.ntmps71
      go_wp2_with (first | ((with_reducible refine gate_dst (N := 6) rfl ?_);refine box_event ?hg (N := 6) ?hd (cs := #[.bool false,.int .u64 0,.int .u64 0]) (t := 28) ?hr ?_;(case hd => rfl);(case hg => rfl);(case hr => exact Z393);intro gb265 hg w6 hbox hb;have n_ := jA (below_step Z476 hb) (jA (hbox) (jA ((Z345 : w.heap.size ≤ gb265)) (Aside0.mk ((Z345 : w.heap.size ≤ gb265)))));clear HB;obtain ⟨HB,BK265,GW265,GE265⟩ := n_;clear hb hbox hg;obtain ⟨hcz7_0,hcz7_1,hcz7_2,hfz7_0,hfz7_1,hfz7_2⟩ := impl_wideOf.cells3 BK265.out))
      refine bodyPost_ret (results_cell_row rfl _ _ gb265 28 #[.bool true,.int .u64 a1,.int .u64 a2] (0,0) _ rfl (by (with_reducible repeat (first | refine bA ?_ _ | refine bB ?_ | refine bC ?_ _));refine blk_put (cs := #[.bool true,.int .u64 a1,.int .u64 0]) ?_ 2 _ rfl;(with_reducible repeat (first | refine bA ?_ _ | refine bB ?_ | refine bC ?_ _));refine blk_put (cs := #[.bool true,.int .u64 0,.int .u64 0]) ?_ 1 _ rfl;(with_reducible repeat (first | refine bA ?_ _ | refine bB ?_ | refine bC ?_ _));refine blk_put (cs := #[.bool false,.int .u64 0,.int .u64 0]) ?_ 0 _ rfl;(with_reducible repeat (first | refine bA ?_ _ | refine bB ?_ | refine bC ?_ _));exact BK265.out) Try.underlying28 rfl Z396) rfl ?_
      exact ⟨Z385,Z351⟩
    · rw [if_neg c5] at H
      have c5b0 : decide (0 < a1) = false := decide_eq_false c5
      clear c5
      simp only [Option.some.injEq,Prod.mk.injEq] at H
      obtain ⟨rfl,rfl,rfl⟩ := H
      go_enter Try.func71,Try.ntmps71
      go_wp2_with (first | ((with_reducible refine gate_dst (N := 6) rfl ?_);refine box_event ?hg (N := 6) ?hd (cs := #[.bool false,.int .u64 0,.int .u64 0]) (t := 28) ?hr ?_;(case hd => rfl);(case hg => rfl);(case hr => exact Z393);intro gb265 hg w8 hbox hb;have n_ := jA (below_step Z476 hb) (jA (hbox) (jA ((Z345 : w.heap.size ≤ gb265)) (Aside0.mk ((Z345 : w.heap.size ≤ gb265)))));clear HB;obtain ⟨HB,BK265,GW265,GE265⟩ := n_;clear hb hbox hg;obtain ⟨hcz9_0,hcz9_1,hcz9_2,hfz9_0,hfz9_1,hfz9_2⟩ := impl_wideOf.cells3 BK265.out))
      refine bodyPost_ret (results_cell_row rfl _ _ gb265 28 #[.bool (decide (a2 > 0)),.int .u64 a1,.int .u64 a2] (0,0) _ rfl (by (with_reducible repeat (first | refine bA ?_ _ | refine bB ?_ | refine bC ?_ _));refine blk_put (cs := #[.bool (decide (a2 > 0)),.int .u64 a1,.int .u64 0]) ?_ 2 _ rfl;(with_reducible repeat (first | refine bA ?_ _ | refine bB ?_ | refine bC ?_ _));refine blk_put (cs := #[.bool (decide (a2 > 0)),.int .u64 0,.int .u64 0]) ?_ 1 _ rfl;(with_reducible repeat (first | refine bA ?_ _ | refine bB ?_ | refine bC ?_ _));refine blk_put (cs := #[.bool false,.int .u64 0,.int .u64 0]) ?_ 0 _ rfl;(with_reducible repeat (first | refine bA ?_ _ | refine bB ?_ | refine bC ?_ _));exact BK265.out) Try.underlying28 rfl Z396) rfl ?_
      exact ⟨Z385,Z351⟩
  · replace c4 := Bool.eq_false_iff.mpr c4
    subst c4
    have H1 : (some (false,a1,a2)) = some (r1,r2,r3) := by rw [if_neg (show ¬ (false = true) by decide)] at H;exact H
    clear H
    have H := H1
    clear H1
    simp only [Option.some.injEq,Prod.mk.injEq] at H
    obtain ⟨rfl,rfl,rfl⟩ := H
    go_enter Try.func71,Try.ntmps71
    go_wp2_with (first | ((with_reducible refine gate_dst (N := 6) rfl ?_);refine box_event ?hg (N := 6) ?hd (cs := #[.bool false,.int .u64 0,.int .u64 0]) (t := 28) ?hr ?_;(case hd => rfl);(case hg => rfl);(case hr => exact Z393);intro gb265 hg w10 hbox hb;have n_ := jA (below_step Z476 hb) (jA (hbox) (jA ((Z345 : w.heap.size ≤ gb265)) (Aside0.mk ((Z345 : w.heap.size ≤ gb265)))));clear HB;obtain ⟨HB,BK265,GW265,GE265⟩ := n_;clear hb hbox hg;obtain ⟨hcz11_0,hcz11_1,hcz11_2,hfz11_0,hfz11_1,hfz11_2⟩ := impl_wideOf.cells3 BK265.out))
    refine bodyPost_ret (results_cell_row rfl _ _ gb265 28 #[.bool false,.int .u64 a1,.int .u64 a2] (0,0) _ rfl (by (with_reducible repeat (first | refine bA ?_ _ | refine bB ?_ | refine bC ?_ _));refine blk_put (cs := #[.bool false,.int .u64 a1,.int .u64 0]) ?_ 2 _ rfl;(with_reducible repeat (first | refine bA ?_ _ | refine bB ?_ | refine bC ?_ _));refine blk_put (cs := #[.bool false,.int .u64 0,.int .u64 0]) ?_ 1 _ rfl;(with_reducible repeat (first | refine bA ?_ _ | refine bB ?_ | refine bC ?_ _));refine blk_put (cs := #[.bool false,.int .u64 0,.int .u64 0]) ?_ 0 _ rfl;(with_reducible repeat (first | refine bA ?_ _ | refine bB ?_ | refine bC ?_ _));exact BK265.out) Try.underlying28 rfl Z396) rfl ?_
    exact ⟨Z385,Z351⟩

/-! ### bits_Mul64: function 77 -/
def bits_Mul64.f (a0 : Int) (a1 : Int) : Option (Int × Int) := some (IntKind.u64.wrap ((IntKind.u64.wrap ((IntKind.u64.wrap ((a0 / 4294967296) * (a1 / 4294967296))) + ((IntKind.u64.wrap ((IntKind.u64.wrap ((a0 / 4294967296) * (Go.bits .and .u64 a1 4294967295))) + ((IntKind.u64.wrap ((Go.bits .and .u64 a0 4294967295) * (Go.bits .and .u64 a1 4294967295))) / 4294967296))) / 4294967296))) + ((IntKind.u64.wrap ((Go.bits .and .u64 (IntKind.u64.wrap ((IntKind.u64.wrap ((a0 / 4294967296) * (Go.bits .and .u64 a1 4294967295))) + ((IntKind.u64.wrap ((Go.bits .and .u64 a0 4294967295) * (Go.bits .and .u64 a1 4294967295))) / 4294967296))) 4294967295) + (IntKind.u64.wrap ((Go.bits .and .u64 a0 4294967295) * (a1 / 4294967296))))) / 4294967296)),IntKind.u64.wrap (a0 * a1))
set_option maxHeartbeats 8000000 in
set_option maxRecDepth 100000 in
theorem bits_Mul64.calls (a0 : Int) (a1 : Int) (r1 : Int) (r2 : Int) (w : World) (h : bits_Mul64.f a0 a1 = some (r1,r2)) :
    Calls Try.prog 77 #[.int .u64 a0,.int .u64 a1] w fun e w' => e = .returned (.tuple #[.int .u64 r1,.int .u64 r2]) ∧ Drawn0 w w' := by
  have H : (some (IntKind.u64.wrap ((IntKind.u64.wrap ((IntKind.u64.wrap ((a0 / 4294967296) * (a1 / 4294967296))) + ((IntKind.u64.wrap ((IntKind.u64.wrap ((a0 / 4294967296) * (Go.bits .and .u64 a1 4294967295))) + ((IntKind.u64.wrap ((Go.bits .and .u64 a0 4294967295) * (Go.bits .and .u64 a1 4294967295))) / 4294967296))) / 4294967296))) + ((IntKind.u64.wrap ((Go.bits .and .u64 (IntKind.u64.wrap ((IntKind.u64.wrap ((a0 / 4294967296) * (Go.bits .and .u64 a1 4294967295))) + ((IntKind.u64.wrap ((Go.bits .and .u64 a0 4294967295) * (Go.bits .and .u64 a1 4294967295))) / 4294967296))) 4294967295) + (IntKind.u64.wrap ((Go.bits .and .u64 a0 4294967295) * (a1 / 4294967296))))) / 4294967296)),IntKind.u64.wrap (a0 * a1))) = some (r1,r2) := h
  clear h
  simp only [Option.some.injEq,Prod.mk.injEq] at H
  obtain ⟨rfl,rfl⟩ := H
  go_enter Try.func77,Try.ntmps77
  go_wp2
  go_ret2
  exact ⟨Z392,Z388⟩

/-! ### impl_size: function 78 -/
def impl_size.f (a0 : Int) : Option (Int) := if a0 < 0 then (some (IntKind.u64.wrap (-(IntKind.u64.wrap (a0))))) else (some (IntKind.u64.wrap (a0)))
set_option maxHeartbeats 8000000 in
set_option maxRecDepth 100000 in
theorem impl_size.calls (a0 : Int) (r : Int) (w : World) (h : impl_size.f a0 = some r) :
    Calls Try.prog 78 #[.int .i64 a0] w fun e w' => e = .returned (.int .u64 r) ∧ Drawn0 w w' := by
  have H : (if a0 < 0 then (some (IntKind.u64.wrap (-(IntKind.u64.wrap (a0))))) else (some (IntKind.u64.wrap (a0)))) = some r := h
  clear h
  by_cases c2 : a0 < 0
  · rw [if_pos c2] at H
    have c2b0 : decide (a0 < 0) = true := decide_eq_true c2
    clear c2
    obtain rfl := Option.some.inj H
    go_enter Try.func78,Try.ntmps78
    go_wp2
    go_ret
    exact ⟨Z392,Z388⟩
  · rw [if_neg c2] at H
    have c2b0 : decide (a0 < 0) = false := decide_eq_false c2
    clear c2
    obtain rfl := Option.some.inj H
    go_enter Try.func78,Try.ntmps78
    go_wp2
    go_ret
    exact ⟨Z392,Z388⟩

/-! ### impl_MulWide: function 59 -/
theorem impl_MulWide.cells3 {w : World} {g : Nat} {t : TypeId} {a0 a1 a2 : Value} (h : w.heap[g]? = some (.cells #[a0,a1,a2] t (0,0))) : w.cell? ⟨g,0,none⟩ = some a0 ∧ w.cell? ⟨g,1,none⟩ = some a1 ∧ w.cell? ⟨g,2,none⟩ = some a2 ∧ w.frozen? ⟨g,0,none⟩ = false ∧ w.frozen? ⟨g,1,none⟩ = false ∧ w.frozen? ⟨g,2,none⟩ = false := ⟨(blk_cell h 0).trans rfl,(blk_cell h 1).trans rfl,(blk_cell h 2).trans rfl,blk_frozen h 0,blk_frozen h 1,blk_frozen h 2⟩
def impl_MulWide.f (a0 : Int) (a1 : Int) : Option (Bool × Int × Int) := (impl_size.f a0).bind fun t267 => ((impl_size.f a1).bind fun t268 => ((bits_Mul64.f t267 t268).bind fun bt269 => ((impl_wideOf.f ((decide (a0 < 0)) != (decide (a1 < 0))) bt269.1 bt269.2).bind fun bt271 => (some (bt271.1,bt271.2.1,bt271.2.2)))))
set_option maxHeartbeats 8000000 in
set_option maxRecDepth 100000 in
theorem impl_MulWide.calls (a0 : Int) (a1 : Int) (r1 : Bool) (r2 : Int) (r3 : Int) (w : World) (h : impl_MulWide.f a0 a1 = some (r1,r2,r3)) :
    Calls Try.prog 59 #[.int .i64 a0,.int .i64 a1] w fun e w' => e = .returned (.agg #[.bool r1,.int .u64 r2,.int .u64 r3]) ∧ Below w.heap.size w w' := by
  have hu28 := Try.underlying28
  have HB := Aside0.mk (Below.refl w.heap.size w)
  have H : ((impl_size.f a0).bind fun t267 => ((impl_size.f a1).bind fun t268 => ((bits_Mul64.f t267 t268).bind fun bt269 => ((impl_wideOf.f ((decide (a0 < 0)) != (decide (a1 < 0))) bt269.1 bt269.2).bind fun bt271 => (some (bt271.1,bt271.2.1,bt271.2.2)))))) = some (r1,r2,r3) := h
  clear h
  obtain ⟨t267,A30,H⟩ := Option.bind_eq_some_iff.mp H
  have A3 := Aside0.mk A30
  clear A30
  obtain ⟨t268,A40,H⟩ := Option.bind_eq_some_iff.mp H
  have A4 := Aside0.mk A40
  clear A40
  obtain ⟨⟨t269,t270⟩,A50,H⟩ := Option.bind_eq_some_iff.mp H
  try dsimp only at H
  have A5 := Aside0.mk A50
  clear A50
  obtain ⟨⟨t271,t272,t273⟩,A60,H⟩ := Option.bind_eq_some_iff.mp H
  try dsimp only at H
  have A6 := Aside0.mk A60
  clear A60
  simp only [Option.some.injEq,Prod.mk.injEq] at H
  obtain ⟨rfl,rfl,rfl⟩ := H
  go_enter Try.func59,Try.ntmps59
  go_wp2_with (first | ((with_reducible refine gate_dst (N := 4) rfl ?_);refine box_event ?hg (N := 4) ?hd (cs := #[.bool false,.int .u64 0,.int .u64 0]) (t := 28) ?hr ?_;(case hd => rfl);(case hg => rfl);(case hr => exact Z393);intro gb266 hg w7 hbox hb;have n_ := jA (below_step Z476 hb) (jA (hbox) (jA ((Z345 : w.heap.size ≤ gb266)) (Aside0.mk ((Z345 : w.heap.size ≤ gb266)))));clear HB;obtain ⟨HB,BK266,GW266,GE266⟩ := n_;clear hb hbox hg) | ((with_reducible refine gate_callee (f := 78) rfl ?_);refine goesL_ (some 9) rfl rfl Try.func78 Z396 rfl #[.int .i64 a0] rfl Z353 ?_;(with_reducible refine (impl_size.calls a0 t267 _ A3.out).mono ?_);rintro e w' ⟨rfl,⟨nd,rfl⟩⟩;refine ⟨_,rfl,?_⟩;(iterate 4 (try (rw [drewN_self w7];generalize hq_ : World.drewN w7 _ = w7;have n0_ : Aside0 (w7.heap[gb266]? = some (.cells #[.bool false,.int .u64 0,.int .u64 0] 28 (0,0))) := ⟨Z364⟩;have n1_ : Aside0 (Below w.heap.size w w7) := ⟨Z344⟩;clear BK266 HB hq_;have BK266 := n0_;have HB := n1_;clear n0_ n1_)))) | ((with_reducible refine gate_callee (f := 78) rfl ?_);refine goesL_ (some 11) rfl rfl Try.func78 Z396 rfl #[.int .i64 a1] rfl Z353 ?_;(with_reducible refine (impl_size.calls a1 t268 _ A4.out).mono ?_);rintro e w' ⟨rfl,⟨nd,rfl⟩⟩;refine ⟨_,rfl,?_⟩;(iterate 4 (try (rw [drewN_self w7];generalize hq_ : World.drewN w7 _ = w7;have n0_ : Aside0 (w7.heap[gb266]? = some (.cells #[.bool false,.int .u64 0,.int .u64 0] 28 (0,0))) := ⟨Z364⟩;have n1_ : Aside0 (Below w.heap.size w w7) := ⟨Z344⟩;clear BK266 HB hq_;have BK266 := n0_;have HB := n1_;clear n0_ n1_)))) | ((with_reducible refine gate_callee (f := 77) rfl ?_);refine goesL_ (some 12) rfl rfl Try.func77 Z396 rfl #[.int .u64 t267,.int .u64 t268] rfl Z353 ?_;(with_reducible refine (bits_Mul64.calls t267 t268 t269 t270 _ A5.out).mono ?_);rintro e w' ⟨rfl,⟨nd,rfl⟩⟩;refine ⟨_,rfl,?_⟩;(iterate 4 (try (rw [drewN_self w7];generalize hq_ : World.drewN w7 _ = w7;have n0_ : Aside0 (w7.heap[gb266]? = some (.cells #[.bool false,.int .u64 0,.int .u64 0] 28 (0,0))) := ⟨Z364⟩;have n1_ : Aside0 (Below w.heap.size w w7) := ⟨Z344⟩;clear BK266 HB hq_;have BK266 := n0_;have HB := n1_;clear n0_ n1_)))) | ((with_reducible refine gate_callee (f := 71) rfl ?_);refine goesL_ (some 22) rfl rfl Try.func71 Z396 rfl #[.bool ((decide (a0 < 0)) != (decide (a1 < 0))),.int .u64 t269,.int .u64 t270] rfl Z353 ?_;(with_reducible refine (impl_wideOf.calls ((decide (a0 < 0)) != (decide (a1 < 0))) t269 t270 t271 t272 t273 _ A6.out).mono ?_);rintro e w8 ⟨rfl,hb⟩;refine ⟨_,rfl,?_⟩;have n_ := jA (blk_below (g := gb266) (o := .cells #[.bool false,.int .u64 0,.int .u64 0] 28 (0,0)) Z535 hb) (Aside0.mk (below_step Z462 hb));clear BK266 HB;obtain ⟨BK266,HB⟩ := n_;(try clear hb);(try clear hb2);(try clear hk);(try clear hi);obtain ⟨hcz9_0,hcz9_1,hcz9_2,hfz9_0,hfz9_1,hfz9_2⟩ := impl_MulWide.cells3 BK266.out))
  refine bodyPost_ret (results_cell_row rfl _ _ gb266 28 #[.bool t271,.int .u64 t272,.int .u64 t273] (0,0) _ rfl (by (with_reducible repeat (first | refine bA ?_ _ | refine bB ?_ | refine bC ?_ _));refine blk_put (cs := #[.bool t271,.int .u64 t272,.int .u64 0]) ?_ 2 _ rfl;(with_reducible repeat (first | refine bA ?_ _ | refine bB ?_ | refine bC ?_ _));refine blk_put (cs := #[.bool t271,.int .u64 0,.int .u64 0]) ?_ 1 _ rfl;(with_reducible repeat (first | refine bA ?_ _ | refine bB ?_ | refine bC ?_ _));refine blk_put (cs := #[.bool false,.int .u64 0,.int .u64 0]) ?_ 0 _ rfl;(with_reducible repeat (first | refine bA ?_ _ | refine bB ?_ | refine bC ?_ _));exact BK266.out) Try.underlying28 rfl Z396) rfl ?_
  exact ⟨Z385,Z462⟩

/-! ### impl_SquareOver: function 40 -/
theorem impl_SquareOver.cells4 {w : World} {g : Nat} {t : TypeId} {a0 a1 a2 a3 : Value} (h : w.heap[g]? = some (.cells #[a0,a1,a2,a3] t (0,0))) : w.cell? ⟨g,0,none⟩ = some a0 ∧ w.cell? ⟨g,1,none⟩ = some a1 ∧ w.cell? ⟨g,2,none⟩ = some a2 ∧ w.cell? ⟨g,3,none⟩ = some a3 ∧ w.frozen? ⟨g,0,none⟩ = false ∧ w.frozen? ⟨g,1,none⟩ = false ∧ w.frozen? ⟨g,2,none⟩ = false ∧ w.frozen? ⟨g,3,none⟩ = false := ⟨(blk_cell h 0).trans rfl,(blk_cell h 1).trans rfl,(blk_cell h 2).trans rfl,(blk_cell h 3).trans rfl,blk_frozen h 0,blk_frozen h 1,blk_frozen h 2,blk_frozen h 3⟩
def impl_SquareOver.f (a0 : Int) (a1 : Int) : Option (Bool × Int × Int × Int × Bool) := (impl_MulWide.f a0 a0).bind fun bt275 => ((impl_fracOf.f bt275.1 bt275.2.1 bt275.2.2 a1).bind fun bt278 => (some (bt278.1,bt278.2.1,bt278.2.2.1,bt278.2.2.2.1,bt278.2.2.2.2)))
set_option maxHeartbeats 8000000 in
set_option maxRecDepth 100000 in
theorem impl_SquareOver.calls (a0 : Int) (a1 : Int) (r1 : Bool) (r2 : Int) (r3 : Int) (r4 : Int) (r5 : Bool) (w : World) (h : impl_SquareOver.f a0 a1 = some (r1,r2,r3,r4,r5)) :
    Calls Try.prog 40 #[.int .i64 a0,.int .i64 a1] w fun e w' => e = .returned (.tuple #[.agg #[.bool r1,.int .u64 r2,.int .u64 r3,.int .i64 r4],.bool r5]) ∧ Below w.heap.size w w' := by
  have hu30 := Try.underlying30
  have HB := Aside0.mk (Below.refl w.heap.size w)
  have H : ((impl_MulWide.f a0 a0).bind fun bt275 => ((impl_fracOf.f bt275.1 bt275.2.1 bt275.2.2 a1).bind fun bt278 => (some (bt278.1,bt278.2.1,bt278.2.2.1,bt278.2.2.2.1,bt278.2.2.2.2)))) = some (r1,r2,r3,r4,r5) := h
  clear h
  obtain ⟨⟨t275,t276,t277⟩,A30,H⟩ := Option.bind_eq_some_iff.mp H
  try dsimp only at H
  have A3 := Aside0.mk A30
  clear A30
  obtain ⟨⟨t278,t279,t280,t281,t282⟩,A40,H⟩ := Option.bind_eq_some_iff.mp H
  try dsimp only at H
  have A4 := Aside0.mk A40
  clear A40
  simp only [Option.some.injEq,Prod.mk.injEq] at H
  obtain ⟨rfl,rfl,rfl,rfl,rfl⟩ := H
  go_enter Try.func40,Try.ntmps40
  go_wp2_with (first | ((with_reducible refine gate_dst (N := 4) rfl ?_);refine box_event ?hg (N := 4) ?hd (cs := #[.bool false,.int .u64 0,.int .u64 0,.int .i64 0]) (t := 30) ?hr ?_;(case hd => rfl);(case hg => rfl);(case hr => exact Z393);intro gb274 hg w5 hbox hb;have n_ := jA (below_step Z476 hb) (jA (hbox) (jA ((Z345 : w.heap.size ≤ gb274)) (Aside0.mk ((Z345 : w.heap.size ≤ gb274)))));clear HB;obtain ⟨HB,BK274,GW274,GE274⟩ := n_;clear hb hbox hg) | ((with_reducible refine gate_callee (f := 59) rfl ?_);refine goesL_ (some 8) rfl rfl Try.func59 Z396 rfl #[.int .i64 a0,.int .i64 a0] rfl Z353 ?_;(with_reducible refine (impl_MulWide.calls a0 a0 t275 t276 t277 _ A3.out).mono ?_);rintro e w6 ⟨rfl,hb⟩;refine ⟨_,rfl,?_⟩;have n_ := jA (blk_below (g := gb274) (o := .cells #[.bool false,.int .u64 0,.int .u64 0,.int .i64 0] 30 (0,0)) Z381 hb) (Aside0.mk (below_step Z350 hb));clear BK274 HB;obtain ⟨BK274,HB⟩ := n_;(try clear hb);(try clear hb2);(try clear hk);(try clear hi)) | ((with_reducible refine gate_callee (f := 50) rfl ?_);refine goesL_ (some 10) rfl rfl Try.func50 Z396 rfl #[.agg #[.bool t275,.int .u64 t276,.int .u64 t277],.int .i64 a1] rfl Z353 ?_;(with_reducible refine (impl_fracOf.calls t275 t276 t277 a1 t278 t279 t280 t281 t282 _ A4.out).mono ?_);rintro e w7 ⟨rfl,hb⟩;refine ⟨_,rfl,?_⟩;have n_ := jA (blk_below (g := gb274) (o := .cells #[.bool false,.int .u64 0,.int .u64 0,.int .i64 0] 30 (0,0)) Z381 hb) (Aside0.mk (below_step Z350 hb));clear BK274 HB;obtain ⟨BK274,HB⟩ := n_;(try clear hb);(try clear hb2);(try clear hk);(try clear hi);obtain ⟨hcz8_0,hcz8_1,hcz8_2,hcz8_3,hfz8_0,hfz8_1,hfz8_2,hfz8_3⟩ := impl_SquareOver.cells4 BK274.out))
  refine bodyPost_ret (results_ct rfl _ _ gb274 30 #[.bool t278,.int .u64 t279,.int .u64 t280,.int .i64 t281] (0,0) _ rfl (by (with_reducible repeat (first | refine bA ?_ _ | refine bB ?_ | refine bC ?_ _));refine blk_put (cs := #[.bool t278,.int .u64 t279,.int .u64 t280,.int .i64 0]) ?_ 3 _ rfl;(with_reducible repeat (first | refine bA ?_ _ | refine bB ?_ | refine bC ?_ _));refine blk_put (cs := #[.bool t278,.int .u64 t279,.int .u64 0,.int .i64 0]) ?_ 2 _ rfl;(with_reducible repeat (first | refine bA ?_ _ | refine bB ?_ | refine bC ?_ _));refine blk_put (cs := #[.bool t278,.int .u64 0,.int .u64 0,.int .i64 0]) ?_ 1 _ rfl;(with_reducible repeat (first | refine bA ?_ _ | refine bB ?_ | refine bC ?_ _));refine blk_put (cs := #[.bool false,.int .u64 0,.int .u64 0,.int .i64 0]) ?_ 0 _ rfl;(with_reducible repeat (first | refine bA ?_ _ | refine bB ?_ | refine bC ?_ _));exact BK274.out) Try.underlying30 rfl Z396) rfl ?_
  exact ⟨Z385,Z350⟩

/-! ### impl_PlainGain: function 21 -/
theorem impl_PlainGain.cells2 {w : World} {g : Nat} {t : TypeId} {a0 a1 : Value} (h : w.heap[g]? = some (.cells #[a0,a1] t (0,0))) : w.cell? ⟨g,0,none⟩ = some a0 ∧ w.cell? ⟨g,1,none⟩ = some a1 ∧ w.frozen? ⟨g,0,none⟩ = false ∧ w.frozen? ⟨g,1,none⟩ = false := ⟨(blk_cell h 0).trans rfl,(blk_cell h 1).trans rfl,blk_frozen h 0,blk_frozen h 1⟩
theorem impl_PlainGain.cells4 {w : World} {g : Nat} {t : TypeId} {a0 a1 a2 a3 : Value} (h : w.heap[g]? = some (.cells #[a0,a1,a2,a3] t (0,0))) : w.cell? ⟨g,0,none⟩ = some a0 ∧ w.cell? ⟨g,1,none⟩ = some a1 ∧ w.cell? ⟨g,2,none⟩ = some a2 ∧ w.cell? ⟨g,3,none⟩ = some a3 ∧ w.frozen? ⟨g,0,none⟩ = false ∧ w.frozen? ⟨g,1,none⟩ = false ∧ w.frozen? ⟨g,2,none⟩ = false ∧ w.frozen? ⟨g,3,none⟩ = false := ⟨(blk_cell h 0).trans rfl,(blk_cell h 1).trans rfl,(blk_cell h 2).trans rfl,(blk_cell h 3).trans rfl,blk_frozen h 0,blk_frozen h 1,blk_frozen h 2,blk_frozen h 3⟩
def impl_PlainGain.f (a0_0 : Int) (a0_1 : Int) (a1 : Int) : Option (Bool × Int × Int × Int × Bool) := (impl_isCount.f a0_0 a1).bind fun t285 => (if t285 = true then ((impl_SquareOver.f a0_1 (wrap64 (a0_0 + a1))).bind fun bt286 => (some (bt286.1,bt286.2.1,bt286.2.2.1,bt286.2.2.2.1,bt286.2.2.2.2))) else (some (false,0,0,0,false)))
set_option maxHeartbeats 8000000 in
set_option maxRecDepth 100000 in
theorem impl_PlainGain.calls (a0_0 : Int) (a0_1 : Int) (a1 : Int) (r1 : Bool) (r2 : Int) (r3 : Int) (r4 : Int) (r5 : Bool) (w : World) (h : impl_PlainGain.f a0_0 a0_1 a1 = some (r1,r2,r3,r4,r5)) :
    Calls Try.prog 21 #[.agg #[.int .i64 a0_0,.int .i64 a0_1],.int .i64 a1] w fun e w' => e = .returned (.tuple #[.agg #[.bool r1,.int .u64 r2,.int .u64 r3,.int .i64 r4],.bool r5]) ∧ Below w.heap.size w w' := by
  have hu33 := Try.underlying33
  have hu30 := Try.underlying30
  have HB := Aside0.mk (Below.refl w.heap.size w)
  have H : ((impl_isCount.f a0_0 a1).bind fun t285 => (if t285 = true then ((impl_SquareOver.f a0_1 (wrap64 (a0_0 + a1))).bind fun bt286 => (some (bt286.1,bt286.2.1,bt286.2.2.1,bt286.2.2.2.1,bt286.2.2.2.2))) else (some (false,0,0,0,false)))) = some (r1,r2,r3,r4,r5) := h
  clear h
  obtain ⟨t285,A30,H⟩ := Option.bind_eq_some_iff.mp H
  have A3 := Aside0.mk A30
  clear A30
  by_cases c4 : t285 = true
  · subst c4
    have H1 : ((impl_SquareOver.f a0_1 (wrap64 (a0_0 + a1))).bind fun bt286 => (some (bt286.1,bt286.2.1,bt286.2.2.1,bt286.2.2.2.1,bt286.2.2.2.2))) = some (r1,r2,r3,r4,r5) := by rw [if_pos rfl] at H;exact H
    clear H
    have H := H1
    clear H1
    obtain ⟨⟨t286,t287,t288,t289,t290⟩,A50,H⟩ := Option.bind_eq_some_iff.mp H
    try dsimp only at H
    have A5 := Aside0.mk A50
    clear A50
    simp only [Option.some.injEq,Prod.mk.injEq] at H
    obtain ⟨rfl,rfl,rfl,rfl,rfl⟩ := H
    go_enter Try.func21,Try.ntmps21
    go_wp2_with (first | ((with_reducible refine gate_dst (N := 2) rfl ?_);refine box_event ?hg (N := 2) ?hd (cs := #[.int .i64 a0_0,.int .i64 a0_1]) (t := 33) ?hr ?_;(case hd => rfl);(case hg => rfl);(case hr => exact Z393);intro gb283 hg w6 hbox hb;have n_ := jA (below_step Z476 hb) (jA (hbox) (jA ((Z345 : w.heap.size ≤ gb283)) (Aside0.mk ((Z345 : w.heap.size ≤ gb283)))));clear HB;obtain ⟨HB,BK283,GW283,GE283⟩ := n_;clear hb hbox hg) | ((with_reducible refine gate_dst (N := 4) rfl ?_);refine box_event ?hg (N := 4) ?hd (cs := #[.bool false,.int .u64 0,.int .u64 0,.int .i64 0]) (t := 30) ?hr ?_;(case hd => rfl);(case hg => rfl);(case hr => exact Z393);intro gb284 hg w7 hbox hb;have n_ := jA (blk_below (g := gb283) (o := .cells #[.int .i64 a0_0,.int .i64 a0_1] 33 (0,0)) Z519 hb) (jA (below_step Z459 hb) (jA (hbox) (jA ((Z323 : w.heap.size ≤ gb284)) (jA ((Z323 : w.heap.size ≤ gb284)) (jA ((Z304 : gb283 ≠ gb284)) (Aside0.mk ((Z306 : gb284 ≠ gb283))))))));clear BK283 HB;obtain ⟨BK283,HB,BK284,GW284,GE284,NB283_284,NB284_283⟩ := n_;clear hb hbox hg;have hnb8 := NB283_284.out;have hnc8 := NB284_283.out;obtain ⟨hcz9_0,hcz9_1,hfz9_0,hfz9_1⟩ := impl_PlainGain.cells2 BK283.out) | ((with_reducible refine gate_callee (f := 39) rfl ?_);refine goesL_ (some 9) rfl rfl Try.func39 Z396 rfl #[.int .i64 a0_0,.int .i64 a1] rfl Z353 ?_;(with_reducible refine (impl_isCount.calls a0_0 a1 true _ A3.out).mono ?_);rintro e w' ⟨rfl,⟨nd,rfl⟩⟩;refine ⟨_,rfl,?_⟩;(iterate 4 (try (rw [drewN_self w7];generalize hq_ : World.drewN w7 _ = w7;have n0_ : Aside0 (w7.heap[gb283]? = some (.cells #[.int .i64 a0_0,.int .i64 a0_1] 33 (0,0))) := ⟨Z366⟩;have n1_ : Aside0 (w7.heap[gb284]? = some (.cells #[.bool false,.int .u64 0,.int .u64 0,.int .i64 0] 30 (0,0))) := ⟨Z365⟩;have n2_ : Aside0 (Below w.heap.size w w7) := ⟨Z249⟩;clear BK283 BK284 HB hq_;have BK283 := n0_;have BK284 := n1_;have HB := n2_;clear n0_ n1_ n2_)));(try (obtain ⟨hcz9_0,hcz9_1,hfz9_0,hfz9_1⟩ := impl_PlainGain.cells2 BK283.out))) | ((with_reducible refine gate_callee (f := 40) rfl ?_);refine goesL_ (some 18) rfl rfl Try.func40 Z396 rfl #[.int .i64 a0_1,.int .i64 (wrap64 (a0_0 + a1))] rfl Z353 ?_;(with_reducible refine (impl_SquareOver.calls a0_1 (wrap64 (a0_0 + a1)) t286 t287 t288 t289 t290 _ A5.out).mono ?_);rintro e w10 ⟨rfl,hb⟩;refine ⟨_,rfl,?_⟩;have n_ := jA (blk_below (g := gb283) (o := .cells #[.int .i64 a0_0,.int .i64 a0_1] 33 (0,0)) Z519 hb) (jA (blk_below (g := gb284) (o := .cells #[.bool false,.int .u64 0,.int .u64 0,.int .i64 0] 30 (0,0)) Z534 hb) (Aside0.mk (below_step Z438 hb)));clear BK283 BK284 HB;obtain ⟨BK283,BK284,HB⟩ := n_;(try clear hb);(try clear hb2);(try clear hk);(try clear hi);obtain ⟨hcz11_0,hcz11_1,hcz11_2,hcz11_3,hfz11_0,hfz11_1,hfz11_2,hfz11_3⟩ := impl_PlainGain.cells4 BK284.out))
    refine bodyPost_ret (results_ct rfl _ _ gb284 30 #[.bool t286,.int .u64 t287,.int .u64 t288,.int .i64 t289] (0,0) _ rfl (by (with_reducible repeat (first | refine bA ?_ _ | refine bB ?_ | refine bC ?_ _));refine blk_put (cs := #[.bool t286,.int .u64 t287,.int .u64 t288,.int .i64 0]) ?_ 3 _ rfl;(with_reducible repeat (first | refine bA ?_ _ | refine bB ?_ | refine bC ?_ _));refine blk_put (cs := #[.bool t286,.int .u64 t287,.int .u64 0,.int .i64 0]) ?_ 2 _ rfl;(with_reducible repeat (first | refine bA ?_ _ | refine bB ?_ | refine bC ?_ _));refine blk_put (cs := #[.bool t286,.int .u64 0,.int .u64 0,.int .i64 0]) ?_ 1 _ rfl;(with_reducible repeat (first | refine bA ?_ _ | refine bB ?_ | refine bC ?_ _));refine blk_put (cs := #[.bool false,.int .u64 0,.int .u64 0,.int .i64 0]) ?_ 0 _ rfl;(with_reducible repeat (first | refine bA ?_ _ | refine bB ?_ | refine bC ?_ _));exact BK284.out) Try.underlying30 rfl Z396) rfl ?_
    exact ⟨Z385,Z438⟩
  · replace c4 := Bool.eq_false_iff.mpr c4
    subst c4
    have H1 : (some (false,0,0,0,false)) = some (r1,r2,r3,r4,r5) := by rw [if_neg (show ¬ (false = true) by decide)] at H;exact H
    clear H
    have H := H1
    clear H1
    simp only [Option.some.injEq,Prod.mk.injEq] at H
    obtain ⟨rfl,rfl,rfl,rfl,rfl⟩ := H
    go_enter Try.func21,Try.ntmps21
    go_wp2_with (first | ((with_reducible refine gate_dst (N := 2) rfl ?_);refine box_event ?hg (N := 2) ?hd (cs := #[.int .i64 a0_0,.int .i64 a0_1]) (t := 33) ?hr ?_;(case hd => rfl);(case hg => rfl);(case hr => exact Z393);intro gb283 hg w12 hbox hb;have n_ := jA (below_step Z476 hb) (jA (hbox) (jA ((Z345 : w.heap.size ≤ gb283)) (Aside0.mk ((Z345 : w.heap.size ≤ gb283)))));clear HB;obtain ⟨HB,BK283,GW283,GE283⟩ := n_;clear hb hbox hg) | ((with_reducible refine gate_dst (N := 4) rfl ?_);refine box_event ?hg (N := 4) ?hd (cs := #[.bool false,.int .u64 0,.int .u64 0,.int .i64 0]) (t := 30) ?hr ?_;(case hd => rfl);(case hg => rfl);(case hr => exact Z393);intro gb284 hg w13 hbox hb;have n_ := jA (blk_below (g := gb283) (o := .cells #[.int .i64 a0_0,.int .i64 a0_1] 33 (0,0)) Z519 hb) (jA (below_step Z459 hb) (jA (hbox) (jA ((Z323 : w.heap.size ≤ gb284)) (jA ((Z323 : w.heap.size ≤ gb284)) (jA ((Z304 : gb283 ≠ gb284)) (Aside0.mk ((Z306 : gb284 ≠ gb283))))))));clear BK283 HB;obtain ⟨BK283,HB,BK284,GW284,GE284,NB283_284,NB284_283⟩ := n_;clear hb hbox hg;have hnb14 := NB283_284.out;have hnc14 := NB284_283.out;obtain ⟨hcz15_0,hcz15_1,hfz15_0,hfz15_1⟩ := impl_PlainGain.cells2 BK283.out) | ((with_reducible refine gate_callee (f := 39) rfl ?_);refine goesL_ (some 9) rfl rfl Try.func39 Z396 rfl #[.int .i64 a0_0,.int .i64 a1] rfl Z353 ?_;(with_reducible refine (impl_isCount.calls a0_0 a1 false _ A3.out).mono ?_);rintro e w' ⟨rfl,⟨nd,rfl⟩⟩;refine ⟨_,rfl,?_⟩;(iterate 4 (try (rw [drewN_self w13];generalize hq_ : World.drewN w13 _ = w13;have n0_ : Aside0 (w13.heap[gb283]? = some (.cells #[.int .i64 a0_0,.int .i64 a0_1] 33 (0,0))) := ⟨Z366⟩;have n1_ : Aside0 (w13.heap[gb284]? = some (.cells #[.bool false,.int .u64 0,.int .u64 0,.int .i64 0] 30 (0,0))) := ⟨Z365⟩;have n2_ : Aside0 (Below w.heap.size w w13) := ⟨Z249⟩;clear BK283 BK284 HB hq_;have BK283 := n0_;have BK284 := n1_;have HB := n2_;clear n0_ n1_ n2_)));(try (obtain ⟨hcz15_0,hcz15_1,hfz15_0,hfz15_1⟩ := impl_PlainGain.cells2 BK283.out));obtain ⟨hcz16_0,hcz16_1,hcz16_2,hcz16_3,hfz16_0,hfz16_1,hfz16_2,hfz16_3⟩ := impl_PlainGain.cells4 BK284.out))
    refine bodyPost_ret (results_ct rfl _ _ gb284 30 #[.bool false,.int .u64 0,.int .u64 0,.int .i64 0] (0,0) _ rfl (by (with_reducible repeat (first | refine bA ?_ _ | refine bB ?_ | refine bC ?_ _));refine blk_put (cs := #[.bool false,.int .u64 0,.int .u64 0,.int .i64 0]) ?_ 3 _ rfl;(with_reducible repeat (first | refine bA ?_ _ | refine bB ?_ | refine bC ?_ _));refine blk_put (cs := #[.bool false,.int .u64 0,.int .u64 0,.int .i64 0]) ?_ 2 _ rfl;(with_reducible repeat (first | refine bA ?_ _ | refine bB ?_ | refine bC ?_ _));refine blk_put (cs := #[.bool false,.int .u64 0,.int .u64 0,.int .i64 0]) ?_ 1 _ rfl;(with_reducible repeat (first | refine bA ?_ _ | refine bB ?_ | refine bC ?_ _));refine blk_put (cs := #[.bool false,.int .u64 0,.int .u64 0,.int .i64 0]) ?_ 0 _ rfl;(with_reducible repeat (first | refine bA ?_ _ | refine bB ?_ | refine bC ?_ _));exact BK284.out) Try.underlying30 rfl Z396) rfl ?_
    exact ⟨Z385,Z438⟩

/-! ### bits_Add64: function 72: the model stands in for it -/
def bits_Add64.f (a0 : Int) (a1 : Int) (a2 : Int) : Option (Int × Int) := if 0 ≤ a0 ∧ 0 ≤ a1 ∧ 0 ≤ a2 ∧ a2 ≤ 1 then some ((a0 + a1 + a2) % 18446744073709551616,(a0 + a1 + a2) / 18446744073709551616) else none
theorem bits_Add64.run (a0 a1 a2 r1 r2 : Int) (h : bits_Add64.f a0 a1 a2 = some (r1,r2)) (w : World) : (callFunc 72 #[.int .u64 a0,.int .u64 a1,.int .u64 a2]).run Try.prog w = .ok (.value (.tuple #[.int .u64 r1,.int .u64 r2])) w := by
  unfold bits_Add64.f at h
  split at h
  · rename_i g
    simp only [Option.some.injEq,Prod.mk.injEq] at h
    obtain ⟨rfl,rfl⟩ := h
    obtain ⟨g0,g1,g2,g3⟩ := g
    rw [run_callFunc_extern Try.func72 Z396 Z396 Z396 (e := add64Entry) Z396,run_add64 a0 a1 a2 g0 g1 g2 g3]
    rfl
  · simp at h

/-! ### impl_ScaleWide: function 68 -/
theorem impl_ScaleWide.cells3 {w : World} {g : Nat} {t : TypeId} {a0 a1 a2 : Value} (h : w.heap[g]? = some (.cells #[a0,a1,a2] t (0,0))) : w.cell? ⟨g,0,none⟩ = some a0 ∧ w.cell? ⟨g,1,none⟩ = some a1 ∧ w.cell? ⟨g,2,none⟩ = some a2 ∧ w.frozen? ⟨g,0,none⟩ = false ∧ w.frozen? ⟨g,1,none⟩ = false ∧ w.frozen? ⟨g,2,none⟩ = false := ⟨(blk_cell h 0).trans rfl,(blk_cell h 1).trans rfl,(blk_cell h 2).trans rfl,blk_frozen h 0,blk_frozen h 1,blk_frozen h 2⟩
def impl_ScaleWide.f (a0_0 : Bool) (a0_1 : Int) (a0_2 : Int) (a1 : Int) : Option (Bool × Int × Int × Bool) := (impl_WideOk.f a0_0 a0_1 a0_2).bind fun t293 => (if t293 = true then ((impl_size.f a1).bind fun t294 => ((bits_Mul64.f a0_1 t294).bind fun bt295 => ((bits_Mul64.f a0_2 t294).bind fun bt297 => ((bits_Add64.f bt295.2 bt297.1 0).bind fun bt299 => ((impl_wideOf.f (a0_0 != (decide (a1 < 0))) bt299.1 bt297.2).bind fun bt301 => (if bt295.1 > 0 then (some (false,0,0,false)) else (if bt299.2 > 0 then (some (false,0,0,false)) else ((impl_WideOk.f bt301.1 bt301.2.1 bt301.2.2).bind fun t305 => (if t305 = true then (some (bt301.1,bt301.2.1,bt301.2.2,true)) else (some (false,0,0,false))))))))))) else (some (false,0,0,false)))
set_option maxHeartbeats 8000000 in
set_option maxRecDepth 100000 in
theorem impl_ScaleWide.calls (a0_0 : Bool) (a0_1 : Int) (a0_2 : Int) (a1 : Int) (r1 : Bool) (r2 : Int) (r3 : Int) (r4 : Bool) (w : World) (h : impl_ScaleWide.f a0_0 a0_1 a0_2 a1 = some (r1,r2,r3,r4)) :
    Calls Try.prog 68 #[.agg #[.bool a0_0,.int .u64 a0_1,.int .u64 a0_2],.int .i64 a1] w fun e w' => e = .returned (.tuple #[.agg #[.bool r1,.int .u64 r2,.int .u64 r3],.bool r4]) ∧ Below w.heap.size w w' := by
  have hu28 := Try.underlying28
  have HB := Aside0.mk (Below.refl w.heap.size w)
  have H : ((impl_WideOk.f a0_0 a0_1 a0_2).bind fun t293 => (if t293 = true then ((impl_size.f a1).bind fun t294 => ((bits_Mul64.f a0_1 t294).bind fun bt295 => ((bits_Mul64.f a0_2 t294).bind fun bt297 => ((bits_Add64.f bt295.2 bt297.1 0).bind fun bt299 => ((impl_wideOf.f (a0_0 != (decide (a1 < 0))) bt299.1 bt297.2).bind fun bt301 => (if bt295.1 > 0 then (some (false,0,0,false)) else (if bt299.2 > 0 then (some (false,0,0,false)) else ((impl_WideOk.f bt301.1 bt301.2.1 bt301.2.2).bind fun t305 => (if t305 = true then (some (bt301.1,bt301.2.1,bt301.2.2,true)) else (some (false,0,0,false))))))))))) else (some (false,0,0,false)))) = some (r1,r2,r3,r4) := h
  clear h
  obtain ⟨t293,A30,H⟩ := Option.bind_eq_some_iff.mp H
  have A3 := Aside0.mk A30
  clear A30
  by_cases c4 : t293 = true
  · subst c4
    have H1 : ((impl_size.f a1).bind fun t294 => ((bits_Mul64.f a0_1 t294).bind fun bt295 => ((bits_Mul64.f a0_2 t294).bind fun bt297 => ((bits_Add64.f bt295.2 bt297.1 0).bind fun bt299 => ((impl_wideOf.f (a0_0 != (decide (a1 < 0))) bt299.1 bt297.2).bind fun bt301 => (if bt295.1 > 0 then (some (false,0,0,false)) else (if bt299.2 > 0 then (some (false,0,0,false)) else ((impl_WideOk.f bt301.1 bt301.2.1 bt301.2.2).bind fun t305 => (if t305 = true then (some (bt301.1,bt301.2.1,bt301.2.2,true)) else (some (false,0,0,false))))))))))) = some (r1,r2,r3,r4) := by rw [if_pos rfl] at H;exact H
    clear H
    have H := H1
    clear H1
    obtain ⟨t294,A50,H⟩ := Option.bind_eq_some_iff.mp H
    have A5 := Aside0.mk A50
    clear A50
    obtain ⟨⟨t295,t296⟩,A60,H⟩ := Option.bind_eq_some_iff.mp H
    try dsimp only at H
    have A6 := Aside0.mk A60
    clear A60
    obtain ⟨⟨t297,t298⟩,A70,H⟩ := Option.bind_eq_some_iff.mp H
    try dsimp only at H
    have A7 := Aside0.mk A70
    clear A70
    obtain ⟨⟨t299,t300⟩,A80,H⟩ := Option.bind_eq_some_iff.mp H
    try dsimp only at H
    have A8 := Aside0.mk A80
    clear A80
    obtain ⟨⟨t301,t302,t303⟩,A90,H⟩ := Option.bind_eq_some_iff.mp H
    try dsimp only at H
    have A9 := Aside0.mk A90
    clear A90
    by_cases c10 : t295 > 0
    · rw [if_pos c10] at H
      have c10b0 : decide (0 < t295) = true := decide_eq_true c10
      clear c10
      simp only [Option.some.injEq,Prod.mk.injEq] at H
      obtain ⟨rfl,rfl,rfl,rfl⟩ := H
      go_enter Try.func68,Try.ntmps68
      go_wp2_with (first | ((with_reducible refine gate_dst (N := 2) rfl ?_);refine box_event ?hg (N := 2) ?hd (cs := #[.bool a0_0,.int .u64 a0_1,.int .u64 a0_2]) (t := 28) ?hr ?_;(case hd => rfl);(case hg => rfl);(case hr => exact Z393);intro gb291 hg w11 hbox hb;have n_ := jA (below_step Z476 hb) (jA (hbox) (jA ((Z345 : w.heap.size ≤ gb291)) (Aside0.mk ((Z345 : w.heap.size ≤ gb291)))));clear HB;obtain ⟨HB,BK291,GW291,GE291⟩ := n_;clear hb hbox hg) | ((with_reducible refine gate_dst (N := 4) rfl ?_);refine box_event ?hg (N := 4) ?hd (cs := #[.bool false,.int .u64 0,.int .u64 0]) (t := 28) ?hr ?_;(case hd => rfl);(case hg => rfl);(case hr => exact Z393);intro gb292 hg w12 hbox hb;have n_ := jA (blk_below (g := gb291) (o := .cells #[.bool a0_0,.int .u64 a0_1,.int .u64 a0_2] 28 (0,0)) Z482 hb) (jA (below_step Z449 hb) (jA (hbox) (jA ((Z312 : w.heap.size ≤ gb292)) (jA ((Z312 : w.heap.size ≤ gb292)) (jA ((Z256 : gb291 ≠ gb292)) (Aside0.mk ((Z257 : gb292 ≠ gb291))))))));clear BK291 HB;obtain ⟨BK291,HB,BK292,GW292,GE292,NB291_292,NB292_291⟩ := n_;clear hb hbox hg;have hnb13 := NB291_292.out;have hnc13 := NB292_291.out;obtain ⟨hcz14_0,hcz14_1,hcz14_2,hfz14_0,hfz14_1,hfz14_2⟩ := impl_ScaleWide.cells3 BK291.out) | ((with_reducible refine gate_callee (f := 31) rfl ?_);refine goesL_ (some 14) rfl rfl Try.func31 Z396 rfl #[.agg #[.bool a0_0,.int .u64 a0_1,.int .u64 a0_2]] rfl Z353 ?_;(with_reducible refine (impl_WideOk.calls a0_0 a0_1 a0_2 true _ A3.out).mono ?_);rintro e w15 ⟨rfl,hb⟩;refine ⟨_,rfl,?_⟩;have n_ := jA (blk_below (g := gb291) (o := .cells #[.bool a0_0,.int .u64 a0_1,.int .u64 a0_2] 28 (0,0)) Z482 hb) (jA (blk_below (g := gb292) (o := .cells #[.bool false,.int .u64 0,.int .u64 0] 28 (0,0)) Z491 hb) (Aside0.mk (below_step Z429 hb)));clear BK291 BK292 HB;obtain ⟨BK291,BK292,HB⟩ := n_;(try clear hb);(try clear hb2);(try clear hk);(try clear hi)) | ((with_reducible refine gate_callee (f := 78) rfl ?_);refine goesL_ (some 18) rfl rfl Try.func78 Z396 rfl #[.int .i64 a1] rfl Z353 ?_;(with_reducible refine (impl_size.calls a1 t294 _ A5.out).mono ?_);rintro e w' ⟨rfl,⟨nd,rfl⟩⟩;refine ⟨_,rfl,?_⟩;(iterate 4 (try (rw [drewN_self w15];generalize hq_ : World.drewN w15 _ = w15;have n0_ : Aside0 (w15.heap[gb291]? = some (.cells #[.bool a0_0,.int .u64 a0_1,.int .u64 a0_2] 28 (0,0))) := ⟨Z357⟩;have n1_ : Aside0 (w15.heap[gb292]? = some (.cells #[.bool false,.int .u64 0,.int .u64 0] 28 (0,0))) := ⟨Z356⟩;have n2_ : Aside0 (Below w.heap.size w w15) := ⟨Z247⟩;clear BK291 BK292 HB hq_;have BK291 := n0_;have BK292 := n1_;have HB := n2_;clear n0_ n1_ n2_)));obtain ⟨hcz16_0,hcz16_1,hcz16_2,hfz16_0,hfz16_1,hfz16_2⟩ := impl_ScaleWide.cells3 BK291.out) | ((with_reducible refine gate_callee (f := 77) rfl ?_);refine goesL_ (some 23) rfl rfl Try.func77 Z396 rfl #[.int .u64 a0_1,.int .u64 t294] rfl Z353 ?_;(with_reducible refine (bits_Mul64.calls a0_1 t294 t295 t296 _ A6.out).mono ?_);rintro e w' ⟨rfl,⟨nd,rfl⟩⟩;refine ⟨_,rfl,?_⟩;(iterate 4 (try (rw [drewN_self w15];generalize hq_ : World.drewN w15 _ = w15;have n0_ : Aside0 (w15.heap[gb291]? = some (.cells #[.bool a0_0,.int .u64 a0_1,.int .u64 a0_2] 28 (0,0))) := ⟨Z357⟩;have n1_ : Aside0 (w15.heap[gb292]? = some (.cells #[.bool false,.int .u64 0,.int .u64 0] 28 (0,0))) := ⟨Z356⟩;have n2_ : Aside0 (Below w.heap.size w w15) := ⟨Z247⟩;clear BK291 BK292 HB hq_;have BK291 := n0_;have BK292 := n1_;have HB := n2_;clear n0_ n1_ n2_)));(try (obtain ⟨hcz16_0,hcz16_1,hcz16_2,hfz16_0,hfz16_1,hfz16_2⟩ := impl_ScaleWide.cells3 BK291.out))) | ((with_reducible refine gate_callee (f := 77) rfl ?_);refine goesL_ (some 30) rfl rfl Try.func77 Z396 rfl #[.int .u64 a0_2,.int .u64 t294] rfl Z353 ?_;(with_reducible refine (bits_Mul64.calls a0_2 t294 t297 t298 _ A7.out).mono ?_);rintro e w' ⟨rfl,⟨nd,rfl⟩⟩;refine ⟨_,rfl,?_⟩;(iterate 4 (try (rw [drewN_self w15];generalize hq_ : World.drewN w15 _ = w15;have n0_ : Aside0 (w15.heap[gb291]? = some (.cells #[.bool a0_0,.int .u64 a0_1,.int .u64 a0_2] 28 (0,0))) := ⟨Z357⟩;have n1_ : Aside0 (w15.heap[gb292]? = some (.cells #[.bool false,.int .u64 0,.int .u64 0] 28 (0,0))) := ⟨Z356⟩;have n2_ : Aside0 (Below w.heap.size w w15) := ⟨Z247⟩;clear BK291 BK292 HB hq_;have BK291 := n0_;have BK292 := n1_;have HB := n2_;clear n0_ n1_ n2_)));(try (obtain ⟨hcz16_0,hcz16_1,hcz16_2,hfz16_0,hfz16_1,hfz16_2⟩ := impl_ScaleWide.cells3 BK291.out))) | (simp only [bits_Add64.run t296 t297 0 t299 t300 A8.out];(iterate 4 (try (rw [drewN_self w15];generalize hq_ : World.drewN w15 _ = w15;have n0_ : Aside0 (w15.heap[gb291]? = some (.cells #[.bool a0_0,.int .u64 a0_1,.int .u64 a0_2] 28 (0,0))) := ⟨Z357⟩;have n1_ : Aside0 (w15.heap[gb292]? = some (.cells #[.bool false,.int .u64 0,.int .u64 0] 28 (0,0))) := ⟨Z356⟩;have n2_ : Aside0 (Below w.heap.size w w15) := ⟨Z247⟩;clear BK291 BK292 HB hq_;have BK291 := n0_;have BK292 := n1_;have HB := n2_;clear n0_ n1_ n2_)));(try (obtain ⟨hcz16_0,hcz16_1,hcz16_2,hfz16_0,hfz16_1,hfz16_2⟩ := impl_ScaleWide.cells3 BK291.out))) | ((with_reducible refine gate_callee (f := 71) rfl ?_);refine goesL_ (some 46) rfl rfl Try.func71 Z396 rfl #[.bool (a0_0 != (decide (a1 < 0))),.int .u64 t299,.int .u64 t298] rfl Z353 ?_;(with_reducible refine (impl_wideOf.calls (a0_0 != (decide (a1 < 0))) t299 t298 t301 t302 t303 _ A9.out).mono ?_);rintro e w17 ⟨rfl,hb⟩;refine ⟨_,rfl,?_⟩;have n_ := jA (blk_below (g := gb291) (o := .cells #[.bool a0_0,.int .u64 a0_1,.int .u64 a0_2] 28 (0,0)) Z482 hb) (jA (blk_below (g := gb292) (o := .cells #[.bool false,.int .u64 0,.int .u64 0] 28 (0,0)) Z491 hb) (Aside0.mk (below_step Z429 hb)));clear BK291 BK292 HB;obtain ⟨BK291,BK292,HB⟩ := n_;(try clear hb);(try clear hb2);(try clear hk);(try clear hi)) | ((with_reducible refine gate_dst (N := 12) rfl ?_);refine box_event ?hg (N := 12) ?hd (cs := #[.bool false,.int .u64 0,.int .u64 0]) (t := 28) ?hr ?_;(case hd => rfl);(case hg => rfl);(case hr => exact Z393);intro gb304 hg w18 hbox hb;have n_ := jA (blk_below (g := gb291) (o := .cells #[.bool a0_0,.int .u64 a0_1,.int .u64 a0_2] 28 (0,0)) Z482 hb) (jA (blk_below (g := gb292) (o := .cells #[.bool false,.int .u64 0,.int .u64 0] 28 (0,0)) Z491 hb) (jA (below_step Z429 hb) (jA (hbox) (jA ((Z216 : w.heap.size ≤ gb304)) (jA ((Z216 : w.heap.size ≤ gb304)) (jA ((Z256 : gb291 ≠ gb304)) (jA ((Z257 : gb304 ≠ gb291)) (jA ((Z285 : gb292 ≠ gb304)) (Aside0.mk ((Z289 : gb304 ≠ gb292)))))))))));clear BK291 BK292 HB;obtain ⟨BK291,BK292,HB,BK304,GW304,GE304,NB291_304,NB304_291,NB292_304,NB304_292⟩ := n_;clear hb hbox hg;have hnb19 := NB304_291.out;have hnc19 := NB291_304.out;have hnb20 := NB304_292.out;have hnc20 := NB292_304.out;obtain ⟨hcz21_0,hcz21_1,hcz21_2,hfz21_0,hfz21_1,hfz21_2⟩ := impl_ScaleWide.cells3 BK304.out;obtain ⟨hcz22_0,hcz22_1,hcz22_2,hfz22_0,hfz22_1,hfz22_2⟩ := impl_ScaleWide.cells3 BK292.out))
      refine bodyPost_ret (results_ct rfl _ _ gb292 28 #[.bool false,.int .u64 0,.int .u64 0] (0,0) _ rfl Z12 Try.underlying28 rfl Z396) rfl ?_
      exact ⟨Z385,Z218⟩
    · rw [if_neg c10] at H
      have c10b0 : decide (0 < t295) = false := decide_eq_false c10
      clear c10
      by_cases c23 : t300 > 0
      · rw [if_pos c23] at H
        have c23b0 : decide (0 < t300) = true := decide_eq_true c23
        clear c23
        simp only [Option.some.injEq,Prod.mk.injEq] at H
        obtain ⟨rfl,rfl,rfl,rfl⟩ := H
        go_enter Try.func68,Try.ntmps68
        go_wp2_with (first | ((with_reducible refine gate_dst (N := 2) rfl ?_);refine box_event ?hg (N := 2) ?hd (cs := #[.bool a0_0,.int .u64 a0_1,.int .u64 a0_2]) (t := 28) ?hr ?_;(case hd => rfl);(case hg => rfl);(case hr => exact Z393);intro gb291 hg w24 hbox hb;have n_ := jA (below_step Z476 hb) (jA (hbox) (jA ((Z345 : w.heap.size ≤ gb291)) (Aside0.mk ((Z345 : w.heap.size ≤ gb291)))));clear HB;obtain ⟨HB,BK291,GW291,GE291⟩ := n_;clear hb hbox hg) | ((with_reducible refine gate_dst (N := 4) rfl ?_);refine box_event ?hg (N := 4) ?hd (cs := #[.bool false,.int .u64 0,.int .u64 0]) (t := 28) ?hr ?_;(case hd => rfl);(case hg => rfl);(case hr => exact Z393);intro gb292 hg w25 hbox hb;have n_ := jA (blk_below (g := gb291) (o := .cells #[.bool a0_0,.int .u64 a0_1,.int .u64 a0_2] 28 (0,0)) Z482 hb) (jA (below_step Z449 hb) (jA (hbox) (jA ((Z312 : w.heap.size ≤ gb292)) (jA ((Z312 : w.heap.size ≤ gb292)) (jA ((Z256 : gb291 ≠ gb292)) (Aside0.mk ((Z257 : gb292 ≠ gb291))))))));clear BK291 HB;obtain ⟨BK291,HB,BK292,GW292,GE292,NB291_292,NB292_291⟩ := n_;clear hb hbox hg;have hnb26 := NB291_292.out;have hnc26 := NB292_291.out;obtain ⟨hcz27_0,hcz27_1,hcz27_2,hfz27_0,hfz27_1,hfz27_2⟩ := impl_ScaleWide.cells3 BK291.out) | ((with_reducible refine gate_callee (f := 31) rfl ?_);refine goesL_ (some 14) rfl rfl Try.func31 Z396 rfl #[.agg #[.bool a0_0,.int .u64 a0_1,.int .u64 a0_2]] rfl Z353 ?_;(with_reducible refine (impl_WideOk.calls a0_0 a0_1 a0_2 true _ A3.out).mono ?_);rintro e w28 ⟨rfl,hb⟩;refine ⟨_,rfl,?_⟩;have n_ := jA (blk_below (g := gb291) (o := .cells #[.bool a0_0,.int .u64 a0_1,.int .u64 a0_2] 28 (0,0)) Z482 hb) (jA (blk_below (g := gb292) (o := .cells #[.bool false,.int .u64 0,.int .u64 0] 28 (0,0)) Z491 hb) (Aside0.mk (below_step Z429 hb)));clear BK291 BK292 HB;obtain ⟨BK291,BK292,HB⟩ := n_;(try clear hb);(try clear hb2);(try clear hk);(try clear hi)) | ((with_reducible refine gate_callee (f := 78) rfl ?_);refine goesL_ (some 18) rfl rfl Try.func78 Z396 rfl #[.int .i64 a1] rfl Z353 ?_;(with_reducible refine (impl_size.calls a1 t294 _ A5.out).mono ?_);rintro e w' ⟨rfl,⟨nd,rfl⟩⟩;refine ⟨_,rfl,?_⟩;(iterate 4 (try (rw [drewN_self w28];generalize hq_ : World.drewN w28 _ = w28;have n0_ : Aside0 (w28.heap[gb291]? = some (.cells #[.bool a0_0,.int .u64 a0_1,.int .u64 a0_2] 28 (0,0))) := ⟨Z357⟩;have n1_ : Aside0 (w28.heap[gb292]? = some (.cells #[.bool false,.int .u64 0,.int .u64 0] 28 (0,0))) := ⟨Z356⟩;have n2_ : Aside0 (Below w.heap.size w w28) := ⟨Z247⟩;clear BK291 BK292 HB hq_;have BK291 := n0_;have BK292 := n1_;have HB := n2_;clear n0_ n1_ n2_)));obtain ⟨hcz29_0,hcz29_1,hcz29_2,hfz29_0,hfz29_1,hfz29_2⟩ := impl_ScaleWide.cells3 BK291.out) | ((with_reducible refine gate_callee (f := 77) rfl ?_);refine goesL_ (some 23) rfl rfl Try.func77 Z396 rfl #[.int .u64 a0_1,.int .u64 t294] rfl Z353 ?_;(with_reducible refine (bits_Mul64.calls a0_1 t294 t295 t296 _ A6.out).mono ?_);rintro e w' ⟨rfl,⟨nd,rfl⟩⟩;refine ⟨_,rfl,?_⟩;(iterate 4 (try (rw [drewN_self w28];generalize hq_ : World.drewN w28 _ = w28;have n0_ : Aside0 (w28.heap[gb291]? = some (.cells #[.bool a0_0,.int .u64 a0_1,.int .u64 a0_2] 28 (0,0))) := ⟨Z357⟩;have n1_ : Aside0 (w28.heap[gb292]? = some (.cells #[.bool false,.int .u64 0,.int .u64 0] 28 (0,0))) := ⟨Z356⟩;have n2_ : Aside0 (Below w.heap.size w w28) := ⟨Z247⟩;clear BK291 BK292 HB hq_;have BK291 := n0_;have BK292 := n1_;have HB := n2_;clear n0_ n1_ n2_)));(try (obtain ⟨hcz29_0,hcz29_1,hcz29_2,hfz29_0,hfz29_1,hfz29_2⟩ := impl_ScaleWide.cells3 BK291.out))) | ((with_reducible refine gate_callee (f := 77) rfl ?_);refine goesL_ (some 30) rfl rfl Try.func77 Z396 rfl #[.int .u64 a0_2,.int .u64 t294] rfl Z353 ?_;(with_reducible refine (bits_Mul64.calls a0_2 t294 t297 t298 _ A7.out).mono ?_);rintro e w' ⟨rfl,⟨nd,rfl⟩⟩;refine ⟨_,rfl,?_⟩;(iterate 4 (try (rw [drewN_self w28];generalize hq_ : World.drewN w28 _ = w28;have n0_ : Aside0 (w28.heap[gb291]? = some (.cells #[.bool a0_0,.int .u64 a0_1,.int .u64 a0_2] 28 (0,0))) := ⟨Z357⟩;have n1_ : Aside0 (w28.heap[gb292]? = some (.cells #[.bool false,.int .u64 0,.int .u64 0] 28 (0,0))) := ⟨Z356⟩;have n2_ : Aside0 (Below w.heap.size w w28) := ⟨Z247⟩;clear BK291 BK292 HB hq_;have BK291 := n0_;have BK292 := n1_;have HB := n2_;clear n0_ n1_ n2_)));(try (obtain ⟨hcz29_0,hcz29_1,hcz29_2,hfz29_0,hfz29_1,hfz29_2⟩ := impl_ScaleWide.cells3 BK291.out))) | (simp only [bits_Add64.run t296 t297 0 t299 t300 A8.out];(iterate 4 (try (rw [drewN_self w28];generalize hq_ : World.drewN w28 _ = w28;have n0_ : Aside0 (w28.heap[gb291]? = some (.cells #[.bool a0_0,.int .u64 a0_1,.int .u64 a0_2] 28 (0,0))) := ⟨Z357⟩;have n1_ : Aside0 (w28.heap[gb292]? = some (.cells #[.bool false,.int .u64 0,.int .u64 0] 28 (0,0))) := ⟨Z356⟩;have n2_ : Aside0 (Below w.heap.size w w28) := ⟨Z247⟩;clear BK291 BK292 HB hq_;have BK291 := n0_;have BK292 := n1_;have HB := n2_;clear n0_ n1_ n2_)));(try (obtain ⟨hcz29_0,hcz29_1,hcz29_2,hfz29_0,hfz29_1,hfz29_2⟩ := impl_ScaleWide.cells3 BK291.out))) | ((with_reducible refine gate_callee (f := 71) rfl ?_);refine goesL_ (some 46) rfl rfl Try.func71 Z396 rfl #[.bool (a0_0 != (decide (a1 < 0))),.int .u64 t299,.int .u64 t298] rfl Z353 ?_;(with_reducible refine (impl_wideOf.calls (a0_0 != (decide (a1 < 0))) t299 t298 t301 t302 t303 _ A9.out).mono ?_);rintro e w30 ⟨rfl,hb⟩;refine ⟨_,rfl,?_⟩;have n_ := jA (blk_below (g := gb291) (o := .cells #[.bool a0_0,.int .u64 a0_1,.int .u64 a0_2] 28 (0,0)) Z482 hb) (jA (blk_below (g := gb292) (o := .cells #[.bool false,.int .u64 0,.int .u64 0] 28 (0,0)) Z491 hb) (Aside0.mk (below_step Z429 hb)));clear BK291 BK292 HB;obtain ⟨BK291,BK292,HB⟩ := n_;(try clear hb);(try clear hb2);(try clear hk);(try clear hi)) | ((with_reducible refine gate_dst (N := 12) rfl ?_);refine box_event ?hg (N := 12) ?hd (cs := #[.bool false,.int .u64 0,.int .u64 0]) (t := 28) ?hr ?_;(case hd => rfl);(case hg => rfl);(case hr => exact Z393);intro gb304 hg w31 hbox hb;have n_ := jA (blk_below (g := gb291) (o := .cells #[.bool a0_0,.int .u64 a0_1,.int .u64 a0_2] 28 (0,0)) Z482 hb) (jA (blk_below (g := gb292) (o := .cells #[.bool false,.int .u64 0,.int .u64 0] 28 (0,0)) Z491 hb) (jA (below_step Z429 hb) (jA (hbox) (jA ((Z216 : w.heap.size ≤ gb304)) (jA ((Z216 : w.heap.size ≤ gb304)) (jA ((Z256 : gb291 ≠ gb304)) (jA ((Z257 : gb304 ≠ gb291)) (jA ((Z285 : gb292 ≠ gb304)) (Aside0.mk ((Z289 : gb304 ≠ gb292)))))))))));clear BK291 BK292 HB;obtain ⟨BK291,BK292,HB,BK304,GW304,GE304,NB291_304,NB304_291,NB292_304,NB304_292⟩ := n_;clear hb hbox hg;have hnb32 := NB304_291.out;have hnc32 := NB291_304.out;have hnb33 := NB304_292.out;have hnc33 := NB292_304.out;obtain ⟨hcz34_0,hcz34_1,hcz34_2,hfz34_0,hfz34_1,hfz34_2⟩ := impl_ScaleWide.cells3 BK304.out;obtain ⟨hcz35_0,hcz35_1,hcz35_2,hfz35_0,hfz35_1,hfz35_2⟩ := impl_ScaleWide.cells3 BK292.out))
        refine bodyPost_ret (results_ct rfl _ _ gb292 28 #[.bool false,.int .u64 0,.int .u64 0] (0,0) _ rfl Z12 Try.underlying28 rfl Z396) rfl ?_
        exact ⟨Z385,Z218⟩
      · rw [if_neg c23] at H
        have c23b0 : decide (0 < t300) = false := decide_eq_false c23
        clear c23
        obtain ⟨t305,A360,H⟩ := Option.bind_eq_some_iff.mp H
        have A36 := Aside0.mk A360
        clear A360
        by_cases c37 : t305 = true
        · subst c37
          have H1 : (some (t301,t302,t303,true)) = some (r1,r2,r3,r4) := by rw [if_pos rfl] at H;exact H
          clear H
          have H := H1
          clear H1
          simp only [Option.some.injEq,Prod.mk.injEq] at H
          obtain ⟨rfl,rfl,rfl,rfl⟩ := H
          go_enter Try.func68,Try.ntmps68
          go_wp2_with (first | ((with_reducible refine gate_dst (N := 2) rfl ?_);refine box_event ?hg (N := 2) ?hd (cs := #[.bool a0_0,.int .u64 a0_1,.int .u64 a0_2]) (t := 28) ?hr ?_;(case hd => rfl);(case hg => rfl);(case hr => exact Z393);intro gb291 hg w38 hbox hb;have n_ := jA (below_step Z476 hb) (jA (hbox) (jA ((Z345 : w.heap.size ≤ gb291)) (Aside0.mk ((Z345 : w.heap.size ≤ gb291)))));clear HB;obtain ⟨HB,BK291,GW291,GE291⟩ := n_;clear hb hbox hg) | ((with_reducible refine gate_dst (N := 4) rfl ?_);refine box_event ?hg (N := 4) ?hd (cs := #[.bool false,.int .u64 0,.int .u64 0]) (t := 28) ?hr ?_;(case hd => rfl);(case hg => rfl);(case hr => exact Z393);intro gb292 hg w39 hbox hb;have n_ := jA (blk_below (g := gb291) (o := .cells #[.bool a0_0,.int .u64 a0_1,.int .u64 a0_2] 28 (0,0)) Z482 hb) (jA (below_step Z449 hb) (jA (hbox) (jA ((Z312 : w.heap.size ≤ gb292)) (jA ((Z312 : w.heap.size ≤ gb292)) (jA ((Z256 : gb291 ≠ gb292)) (Aside0.mk ((Z257 : gb292 ≠ gb291))))))));clear BK291 HB;obtain ⟨BK291,HB,BK292,GW292,GE292,NB291_292,NB292_291⟩ := n_;clear hb hbox hg;have hnb40 := NB291_292.out;have hnc40 := NB292_291.out;obtain ⟨hcz41_0,hcz41_1,hcz41_2,hfz41_0,hfz41_1,hfz41_2⟩ := impl_ScaleWide.cells3 BK291.out) | ((with_reducible refine gate_callee (f := 31) rfl ?_);refine goesL_ (some 14) rfl rfl Try.func31 Z396 rfl #[.agg #[.bool a0_0,.int .u64 a0_1,.int .u64 a0_2]] rfl Z353 ?_;(with_reducible refine (impl_WideOk.calls a0_0 a0_1 a0_2 true _ A3.out).mono ?_);rintro e w42 ⟨rfl,hb⟩;refine ⟨_,rfl,?_⟩;have n_ := jA (blk_below (g := gb291) (o := .cells #[.bool a0_0,.int .u64 a0_1,.int .u64 a0_2] 28 (0,0)) Z482 hb) (jA (blk_below (g := gb292) (o := .cells #[.bool false,.int .u64 0,.int .u64 0] 28 (0,0)) Z491 hb) (Aside0.mk (below_step Z429 hb)));clear BK291 BK292 HB;obtain ⟨BK291,BK292,HB⟩ := n_;(try clear hb);(try clear hb2);(try clear hk);(try clear hi)) | ((with_reducible refine gate_callee (f := 78) rfl ?_);refine goesL_ (some 18) rfl rfl Try.func78 Z396 rfl #[.int .i64 a1] rfl Z353 ?_;(with_reducible refine (impl_size.calls a1 t294 _ A5.out).mono ?_);rintro e w' ⟨rfl,⟨nd,rfl⟩⟩;refine ⟨_,rfl,?_⟩;(iterate 4 (try (rw [drewN_self w42];generalize hq_ : World.drewN w42 _ = w42;have n0_ : Aside0 (w42.heap[gb291]? = some (.cells #[.bool a0_0,.int .u64 a0_1,.int .u64 a0_2] 28 (0,0))) := ⟨Z357⟩;have n1_ : Aside0 (w42.heap[gb292]? = some (.cells #[.bool false,.int .u64 0,.int .u64 0] 28 (0,0))) := ⟨Z356⟩;have n2_ : Aside0 (Below w.heap.size w w42) := ⟨Z247⟩;clear BK291 BK292 HB hq_;have BK291 := n0_;have BK292 := n1_;have HB := n2_;clear n0_ n1_ n2_)));obtain ⟨hcz43_0,hcz43_1,hcz43_2,hfz43_0,hfz43_1,hfz43_2⟩ := impl_ScaleWide.cells3 BK291.out) | ((with_reducible refine gate_callee (f := 77) rfl ?_);refine goesL_ (some 23) rfl rfl Try.func77 Z396 rfl #[.int .u64 a0_1,.int .u64 t294] rfl Z353 ?_;(with_reducible refine (bits_Mul64.calls a0_1 t294 t295 t296 _ A6.out).mono ?_);rintro e w' ⟨rfl,⟨nd,rfl⟩⟩;refine ⟨_,rfl,?_⟩;(iterate 4 (try (rw [drewN_self w42];generalize hq_ : World.drewN w42 _ = w42;have n0_ : Aside0 (w42.heap[gb291]? = some (.cells #[.bool a0_0,.int .u64 a0_1,.int .u64 a0_2] 28 (0,0))) := ⟨Z357⟩;have n1_ : Aside0 (w42.heap[gb292]? = some (.cells #[.bool false,.int .u64 0,.int .u64 0] 28 (0,0))) := ⟨Z356⟩;have n2_ : Aside0 (Below w.heap.size w w42) := ⟨Z247⟩;clear BK291 BK292 HB hq_;have BK291 := n0_;have BK292 := n1_;have HB := n2_;clear n0_ n1_ n2_)));(try (obtain ⟨hcz43_0,hcz43_1,hcz43_2,hfz43_0,hfz43_1,hfz43_2⟩ := impl_ScaleWide.cells3 BK291.out))) | ((with_reducible refine gate_callee (f := 77) rfl ?_);refine goesL_ (some 30) rfl rfl Try.func77 Z396 rfl #[.int .u64 a0_2,.int .u64 t294] rfl Z353 ?_;(with_reducible refine (bits_Mul64.calls a0_2 t294 t297 t298 _ A7.out).mono ?_);rintro e w' ⟨rfl,⟨nd,rfl⟩⟩;refine ⟨_,rfl,?_⟩;(iterate 4 (try (rw [drewN_self w42];generalize hq_ : World.drewN w42 _ = w42;have n0_ : Aside0 (w42.heap[gb291]? = some (.cells #[.bool a0_0,.int .u64 a0_1,.int .u64 a0_2] 28 (0,0))) := ⟨Z357⟩;have n1_ : Aside0 (w42.heap[gb292]? = some (.cells #[.bool false,.int .u64 0,.int .u64 0] 28 (0,0))) := ⟨Z356⟩;have n2_ : Aside0 (Below w.heap.size w w42) := ⟨Z247⟩;clear BK291 BK292 HB hq_;have BK291 := n0_;have BK292 := n1_;have HB := n2_;clear n0_ n1_ n2_)));(try (obtain ⟨hcz43_0,hcz43_1,hcz43_2,hfz43_0,hfz43_1,hfz43_2⟩ := impl_ScaleWide.cells3 BK291.out))) | (simp only [bits_Add64.run t296 t297 0 t299 t300 A8.out];(iterate 4 (try (rw [drewN_self w42];generalize hq_ : World.drewN w42 _ = w42;have n0_ : Aside0 (w42.heap[gb291]? = some (.cells #[.bool a0_0,.int .u64 a0_1,.int .u64 a0_2] 28 (0,0))) := ⟨Z357⟩;have n1_ : Aside0 (w42.heap[gb292]? = some (.cells #[.bool false,.int .u64 0,.int .u64 0] 28 (0,0))) := ⟨Z356⟩;have n2_ : Aside0 (Below w.heap.size w w42) := ⟨Z247⟩;clear BK291 BK292 HB hq_;have BK291 := n0_;have BK292 := n1_;have HB := n2_;clear n0_ n1_ n2_)));(try (obtain ⟨hcz43_0,hcz43_1,hcz43_2,hfz43_0,hfz43_1,hfz43_2⟩ := impl_ScaleWide.cells3 BK291.out))) | ((with_reducible refine gate_callee (f := 71) rfl ?_);refine goesL_ (some 46) rfl rfl Try.func71 Z396 rfl #[.bool (a0_0 != (decide (a1 < 0))),.int .u64 t299,.int .u64 t298] rfl Z353 ?_;(with_reducible refine (impl_wideOf.calls (a0_0 != (decide (a1 < 0))) t299 t298 t301 t302 t303 _ A9.out).mono ?_);rintro e w44 ⟨rfl,hb⟩;refine ⟨_,rfl,?_⟩;have n_ := jA (blk_below (g := gb291) (o := .cells #[.bool a0_0,.int .u64 a0_1,.int .u64 a0_2] 28 (0,0)) Z482 hb) (jA (blk_below (g := gb292) (o := .cells #[.bool false,.int .u64 0,.int .u64 0] 28 (0,0)) Z491 hb) (Aside0.mk (below_step Z429 hb)));clear BK291 BK292 HB;obtain ⟨BK291,BK292,HB⟩ := n_;(try clear hb);(try clear hb2);(try clear hk);(try clear hi)) | ((with_reducible refine gate_dst (N := 12) rfl ?_);refine box_event ?hg (N := 12) ?hd (cs := #[.bool false,.int .u64 0,.int .u64 0]) (t := 28) ?hr ?_;(case hd => rfl);(case hg => rfl);(case hr => exact Z393);intro gb304 hg w45 hbox hb;have n_ := jA (blk_below (g := gb291) (o := .cells #[.bool a0_0,.int .u64 a0_1,.int .u64 a0_2] 28 (0,0)) Z482 hb) (jA (blk_below (g := gb292) (o := .cells #[.bool false,.int .u64 0,.int .u64 0] 28 (0,0)) Z491 hb) (jA (below_step Z429 hb) (jA (hbox) (jA ((Z216 : w.heap.size ≤ gb304)) (jA ((Z216 : w.heap.size ≤ gb304)) (jA ((Z256 : gb291 ≠ gb304)) (jA ((Z257 : gb304 ≠ gb291)) (jA ((Z285 : gb292 ≠ gb304)) (Aside0.mk ((Z289 : gb304 ≠ gb292)))))))))));clear BK291 BK292 HB;obtain ⟨BK291,BK292,HB,BK304,GW304,GE304,NB291_304,NB304_291,NB292_304,NB304_292⟩ := n_;clear hb hbox hg;have hnb46 := NB304_291.out;have hnc46 := NB291_304.out;have hnb47 := NB304_292.out;have hnc47 := NB292_304.out;obtain ⟨hcz48_0,hcz48_1,hcz48_2,hfz48_0,hfz48_1,hfz48_2⟩ := impl_ScaleWide.cells3 BK304.out) | (go_at_call 31;(with_reducible refine (impl_WideOk.calls t301 t302 t303 true _ A36.out).mono ?_);rintro e w49 ⟨rfl,hb⟩;have n_ := jA (blk_below (g := gb291) (o := .cells #[.bool a0_0,.int .u64 a0_1,.int .u64 a0_2] 28 (0,0)) Z100 hb) (jA (blk_below (g := gb292) (o := .cells #[.bool false,.int .u64 0,.int .u64 0] 28 (0,0)) Z99 hb) (jA (blk_below (g := gb304) (o := .cells #[.bool t301,.int .u64 t302,.int .u64 t303] 28 (0,0)) Z50 hb) (Aside0.mk (below_step Z218 hb))));clear BK291 BK292 BK304 HB;obtain ⟨BK291,BK292,BK304,HB⟩ := n_;(try clear hb);(try clear hb2);(try clear hk);(try clear hi);obtain ⟨hcz50_0,hcz50_1,hcz50_2,hfz50_0,hfz50_1,hfz50_2⟩ := impl_ScaleWide.cells3 BK304.out;obtain ⟨hcz51_0,hcz51_1,hcz51_2,hfz51_0,hfz51_1,hfz51_2⟩ := impl_ScaleWide.cells3 BK292.out))
          refine bodyPost_ret (results_ct rfl _ _ gb292 28 #[.bool t301,.int .u64 t302,.int .u64 t303] (0,0) _ rfl (by (with_reducible repeat (first | refine bA ?_ _ | refine bB ?_ | refine bC ?_ _));refine blk_put (cs := #[.bool t301,.int .u64 t302,.int .u64 0]) ?_ 2 _ rfl;(with_reducible repeat (first | refine bA ?_ _ | refine bB ?_ | refine bC ?_ _));refine blk_put (cs := #[.bool t301,.int .u64 0,.int .u64 0]) ?_ 1 _ rfl;(with_reducible repeat (first | refine bA ?_ _ | refine bB ?_ | refine bC ?_ _));refine blk_put (cs := #[.bool false,.int .u64 0,.int .u64 0]) ?_ 0 _ rfl;(with_reducible repeat (first | refine bA ?_ _ | refine bB ?_ | refine bC ?_ _));exact BK292.out) Try.underlying28 rfl Z396) rfl ?_
          exact ⟨Z385,Z218⟩
        · replace c37 := Bool.eq_false_iff.mpr c37
          subst c37
          have H1 : (some (false,0,0,false)) = some (r1,r2,r3,r4) := by rw [if_neg (show ¬ (false = true) by decide)] at H;exact H
          clear H
          have H := H1
          clear H1
          simp only [Option.some.injEq,Prod.mk.injEq] at H
          obtain ⟨rfl,rfl,rfl,rfl⟩ := H
          go_enter Try.func68,Try.ntmps68
          go_wp2_with (first | ((with_reducible refine gate_dst (N := 2) rfl ?_);refine box_event ?hg (N := 2) ?hd (cs := #[.bool a0_0,.int .u64 a0_1,.int .u64 a0_2]) (t := 28) ?hr ?_;(case hd => rfl);(case hg => rfl);(case hr => exact Z393);intro gb291 hg w52 hbox hb;have n_ := jA (below_step Z476 hb) (jA (hbox) (jA ((Z345 : w.heap.size ≤ gb291)) (Aside0.mk ((Z345 : w.heap.size ≤ gb291)))));clear HB;obtain ⟨HB,BK291,GW291,GE291⟩ := n_;clear hb hbox hg) | ((with_reducible refine gate_dst (N := 4) rfl ?_);refine box_event ?hg (N := 4) ?hd (cs := #[.bool false,.int .u64 0,.int .u64 0]) (t := 28) ?hr ?_;(case hd => rfl);(case hg => rfl);(case hr => exact Z393);intro gb292 hg w53 hbox hb;have n_ := jA (blk_below (g := gb291) (o := .cells #[.bool a0_0,.int .u64 a0_1,.int .u64 a0_2] 28 (0,0)) Z482 hb) (jA (below_step Z449 hb) (jA (hbox) (jA ((Z312 : w.heap.size ≤ gb292)) (jA ((Z312 : w.heap.size ≤ gb292)) (jA ((Z256 : gb291 ≠ gb292)) (Aside0.mk ((Z257 : gb292 ≠ gb291))))))));clear BK291 HB;obtain ⟨BK291,HB,BK292,GW292,GE292,NB291_292,NB292_291⟩ := n_;clear hb hbox hg;have hnb54 := NB291_292.out;have hnc54 := NB292_291.out;obtain ⟨hcz55_0,hcz55_1,hcz55_2,hfz55_0,hfz55_1,hfz55_2⟩ := impl_ScaleWide.cells3 BK291.out) | ((with_reducible refine gate_callee (f := 31) rfl ?_);refine goesL_ (some 14) rfl rfl Try.func31 Z396 rfl #[.agg #[.bool a0_0,.int .u64 a0_1,.int .u64 a0_2]] rfl Z353 ?_;(with_reducible refine (impl_WideOk.calls a0_0 a0_1 a0_2 true _ A3.out).mono ?_);rintro e w56 ⟨rfl,hb⟩;refine ⟨_,rfl,?_⟩;have n_ := jA (blk_below (g := gb291) (o := .cells #[.bool a0_0,.int .u64 a0_1,.int .u64 a0_2] 28 (0,0)) Z482 hb) (jA (blk_below (g := gb292) (o := .cells #[.bool false,.int .u64 0,.int .u64 0] 28 (0,0)) Z491 hb) (Aside0.mk (below_step Z429 hb)));clear BK291 BK292 HB;obtain ⟨BK291,BK292,HB⟩ := n_;(try clear hb);(try clear hb2);(try clear hk);(try clear hi)) | ((with_reducible refine gate_callee (f := 78) rfl ?_);refine goesL_ (some 18) rfl rfl Try.func78 Z396 rfl #[.int .i64 a1] rfl Z353 ?_;(with_reducible refine (impl_size.calls a1 t294 _ A5.out).mono ?_);rintro e w' ⟨rfl,⟨nd,rfl⟩⟩;refine ⟨_,rfl,?_⟩;(iterate 4 (try (rw [drewN_self w56];generalize hq_ : World.drewN w56 _ = w56;have n0_ : Aside0 (w56.heap[gb291]? = some (.cells #[.bool a0_0,.int .u64 a0_1,.int .u64 a0_2] 28 (0,0))) := ⟨Z357⟩;have n1_ : Aside0 (w56.heap[gb292]? = some (.cells #[.bool false,.int .u64 0,.int .u64 0] 28 (0,0))) := ⟨Z356⟩;have n2_ : Aside0 (Below w.heap.size w w56) := ⟨Z247⟩;clear BK291 BK292 HB hq_;have BK291 := n0_;have BK292 := n1_;have HB := n2_;clear n0_ n1_ n2_)));obtain ⟨hcz57_0,hcz57_1,hcz57_2,hfz57_0,hfz57_1,hfz57_2⟩ := impl_ScaleWide.cells3 BK291.out) | ((with_reducible refine gate_callee (f := 77) rfl ?_);refine goesL_ (some 23) rfl rfl Try.func77 Z396 rfl #[.int .u64 a0_1,.int .u64 t294] rfl Z353 ?_;(with_reducible refine (bits_Mul64.calls a0_1 t294 t295 t296 _ A6.out).mono ?_);rintro e w' ⟨rfl,⟨nd,rfl⟩⟩;refine ⟨_,rfl,?_⟩;(iterate 4 (try (rw [drewN_self w56];generalize hq_ : World.drewN w56 _ = w56;have n0_ : Aside0 (w56.heap[gb291]? = some (.cells #[.bool a0_0,.int .u64 a0_1,.int .u64 a0_2] 28 (0,0))) := ⟨Z357⟩;have n1_ : Aside0 (w56.heap[gb292]? = some (.cells #[.bool false,.int .u64 0,.int .u64 0] 28 (0,0))) := ⟨Z356⟩;have n2_ : Aside0 (Below w.heap.size w w56) := ⟨Z247⟩;clear BK291 BK292 HB hq_;have BK291 := n0_;have BK292 := n1_;have HB := n2_;clear n0_ n1_ n2_)));(try (obtain ⟨hcz57_0,hcz57_1,hcz57_2,hfz57_0,hfz57_1,hfz57_2⟩ := impl_ScaleWide.cells3 BK291.out))) | ((with_reducible refine gate_callee (f := 77) rfl ?_);refine goesL_ (some 30) rfl rfl Try.func77 Z396 rfl #[.int .u64 a0_2,.int .u64 t294] rfl Z353 ?_;(with_reducible refine (bits_Mul64.calls a0_2 t294 t297 t298 _ A7.out).mono ?_);rintro e w' ⟨rfl,⟨nd,rfl⟩⟩;refine ⟨_,rfl,?_⟩;(iterate 4 (try (rw [drewN_self w56];generalize hq_ : World.drewN w56 _ = w56;have n0_ : Aside0 (w56.heap[gb291]? = some (.cells #[.bool a0_0,.int .u64 a0_1,.int .u64 a0_2] 28 (0,0))) := ⟨Z357⟩;have n1_ : Aside0 (w56.heap[gb292]? = some (.cells #[.bool false,.int .u64 0,.int .u64 0] 28 (0,0))) := ⟨Z356⟩;have n2_ : Aside0 (Below w.heap.size w w56) := ⟨Z247⟩;clear BK291 BK292 HB hq_;have BK291 := n0_;have BK292 := n1_;have HB := n2_;clear n0_ n1_ n2_)));(try (obtain ⟨hcz57_0,hcz57_1,hcz57_2,hfz57_0,hfz57_1,hfz57_2⟩ := impl_ScaleWide.cells3 BK291.out))) | (simp only [bits_Add64.run t296 t297 0 t299 t300 A8.out];(iterate 4 (try (rw [drewN_self w56];generalize hq_ : World.drewN w56 _ = w56;have n0_ : Aside0 (w56.heap[gb291]? = some (.cells #[.bool a0_0,.int .u64 a0_1,.int .u64 a0_2] 28 (0,0))) := ⟨Z357⟩;have n1_ : Aside0 (w56.heap[gb292]? = some (.cells #[.bool false,.int .u64 0,.int .u64 0] 28 (0,0))) := ⟨Z356⟩;have n2_ : Aside0 (Below w.heap.size w w56) := ⟨Z247⟩;clear BK291 BK292 HB hq_;have BK291 := n0_;have BK292 := n1_;have HB := n2_;clear n0_ n1_ n2_)));(try (obtain ⟨hcz57_0,hcz57_1,hcz57_2,hfz57_0,hfz57_1,hfz57_2⟩ := impl_ScaleWide.cells3 BK291.out))) | ((with_reducible refine gate_callee (f := 71) rfl ?_);refine goesL_ (some 46) rfl rfl Try.func71 Z396 rfl #[.bool (a0_0 != (decide (a1 < 0))),.int .u64 t299,.int .u64 t298] rfl Z353 ?_;(with_reducible refine (impl_wideOf.calls (a0_0 != (decide (a1 < 0))) t299 t298 t301 t302 t303 _ A9.out).mono ?_);rintro e w58 ⟨rfl,hb⟩;refine ⟨_,rfl,?_⟩;have n_ := jA (blk_below (g := gb291) (o := .cells #[.bool a0_0,.int .u64 a0_1,.int .u64 a0_2] 28 (0,0)) Z482 hb) (jA (blk_below (g := gb292) (o := .cells #[.bool false,.int .u64 0,.int .u64 0] 28 (0,0)) Z491 hb) (Aside0.mk (below_step Z429 hb)));clear BK291 BK292 HB;obtain ⟨BK291,BK292,HB⟩ := n_;(try clear hb);(try clear hb2);(try clear hk);(try clear hi)) | ((with_reducible refine gate_dst (N := 12) rfl ?_);refine box_event ?hg (N := 12) ?hd (cs := #[.bool false,.int .u64 0,.int .u64 0]) (t := 28) ?hr ?_;(case hd => rfl);(case hg => rfl);(case hr => exact Z393);intro gb304 hg w59 hbox hb;have n_ := jA (blk_below (g := gb291) (o := .cells #[.bool a0_0,.int .u64 a0_1,.int .u64 a0_2] 28 (0,0)) Z482 hb) (jA (blk_below (g := gb292) (o := .cells #[.bool false,.int .u64 0,.int .u64 0] 28 (0,0)) Z491 hb) (jA (below_step Z429 hb) (jA (hbox) (jA ((Z216 : w.heap.size ≤ gb304)) (jA ((Z216 : w.heap.size ≤ gb304)) (jA ((Z256 : gb291 ≠ gb304)) (jA ((Z257 : gb304 ≠ gb291)) (jA ((Z285 : gb292 ≠ gb304)) (Aside0.mk ((Z289 : gb304 ≠ gb292)))))))))));clear BK291 BK292 HB;obtain ⟨BK291,BK292,HB,BK304,GW304,GE304,NB291_304,NB304_291,NB292_304,NB304_292⟩ := n_;clear hb hbox hg;have hnb60 := NB304_291.out;have hnc60 := NB291_304.out;have hnb61 := NB304_292.out;have hnc61 := NB292_304.out;obtain ⟨hcz62_0,hcz62_1,hcz62_2,hfz62_0,hfz62_1,hfz62_2⟩ := impl_ScaleWide.cells3 BK304.out) | (go_at_call 31;(with_reducible refine (impl_WideOk.calls t301 t302 t303 false _ A36.out).mono ?_);rintro e w63 ⟨rfl,hb⟩;have n_ := jA (blk_below (g := gb291) (o := .cells #[.bool a0_0,.int .u64 a0_1,.int .u64 a0_2] 28 (0,0)) Z100 hb) (jA (blk_below (g := gb292) (o := .cells #[.bool false,.int .u64 0,.int .u64 0] 28 (0,0)) Z99 hb) (jA (blk_below (g := gb304) (o := .cells #[.bool t301,.int .u64 t302,.int .u64 t303] 28 (0,0)) Z50 hb) (Aside0.mk (below_step Z218 hb))));clear BK291 BK292 BK304 HB;obtain ⟨BK291,BK292,BK304,HB⟩ := n_;(try clear hb);(try clear hb2);(try clear hk);(try clear hi);obtain ⟨hcz64_0,hcz64_1,hcz64_2,hfz64_0,hfz64_1,hfz64_2⟩ := impl_ScaleWide.cells3 BK292.out))
          refine bodyPost_ret (results_ct rfl _ _ gb292 28 #[.bool false,.int .u64 0,.int .u64 0] (0,0) _ rfl Z57 Try.underlying28 rfl Z396) rfl ?_
          exact ⟨Z385,Z218⟩
  · replace c4 := Bool.eq_false_iff.mpr c4
    subst c4
    have H1 : (some (false,0,0,false)) = some (r1,r2,r3,r4) := by rw [if_neg (show ¬ (false = true) by decide)] at H;exact H
    clear H
    have H := H1
    clear H1
    simp only [Option.some.injEq,Prod.mk.injEq] at H
    obtain ⟨rfl,rfl,rfl,rfl⟩ := H
    go_enter Try.func68,Try.ntmps68
    go_wp2_with (first | ((with_reducible refine gate_dst (N := 2) rfl ?_);refine box_event ?hg (N := 2) ?hd (cs := #[.bool a0_0,.int .u64 a0_1,.int .u64 a0_2]) (t := 28) ?hr ?_;(case hd => rfl);(case hg => rfl);(case hr => exact Z393);intro gb291 hg w65 hbox hb;have n_ := jA (below_step Z476 hb) (jA (hbox) (jA ((Z345 : w.heap.size ≤ gb291)) (Aside0.mk ((Z345 : w.heap.size ≤ gb291)))));clear HB;obtain ⟨HB,BK291,GW291,GE291⟩ := n_;clear hb hbox hg) | ((with_reducible refine gate_dst (N := 4) rfl ?_);refine box_event ?hg (N := 4) ?hd (cs := #[.bool false,.int .u64 0,.int .u64 0]) (t := 28) ?hr ?_;(case hd => rfl);(case hg => rfl);(case hr => exact Z393);intro gb292 hg w66 hbox hb;have n_ := jA (blk_below (g := gb291) (o := .cells #[.bool a0_0,.int .u64 a0_1,.int .u64 a0_2] 28 (0,0)) Z482 hb) (jA (below_step Z449 hb) (jA (hbox) (jA ((Z312 : w.heap.size ≤ gb292)) (jA ((Z312 : w.heap.size ≤ gb292)) (jA ((Z256 : gb291 ≠ gb292)) (Aside0.mk ((Z257 : gb292 ≠ gb291))))))));clear BK291 HB;obtain ⟨BK291,HB,BK292,GW292,GE292,NB291_292,NB292_291⟩ := n_;clear hb hbox hg;have hnb67 := NB291_292.out;have hnc67 := NB292_291.out;obtain ⟨hcz68_0,hcz68_1,hcz68_2,hfz68_0,hfz68_1,hfz68_2⟩ := impl_ScaleWide.cells3 BK291.out) | ((with_reducible refine gate_callee (f := 31) rfl ?_);refine goesL_ (some 14) rfl rfl Try.func31 Z396 rfl #[.agg #[.bool a0_0,.int .u64 a0_1,.int .u64 a0_2]] rfl Z353 ?_;(with_reducible refine (impl_WideOk.calls a0_0 a0_1 a0_2 false _ A3.out).mono ?_);rintro e w69 ⟨rfl,hb⟩;refine ⟨_,rfl,?_⟩;have n_ := jA (blk_below (g := gb291) (o := .cells #[.bool a0_0,.int .u64 a0_1,.int .u64 a0_2] 28 (0,0)) Z482 hb) (jA (blk_below (g := gb292) (o := .cells #[.bool false,.int .u64 0,.int .u64 0] 28 (0,0)) Z491 hb) (Aside0.mk (below_step Z429 hb)));clear BK291 BK292 HB;obtain ⟨BK291,BK292,HB⟩ := n_;(try clear hb);(try clear hb2);(try clear hk);(try clear hi);obtain ⟨hcz70_0,hcz70_1,hcz70_2,hfz70_0,hfz70_1,hfz70_2⟩ := impl_ScaleWide.cells3 BK292.out))
    refine bodyPost_ret (results_ct rfl _ _ gb292 28 #[.bool false,.int .u64 0,.int .u64 0] (0,0) _ rfl Z57 Try.underlying28 rfl Z396) rfl ?_
    exact ⟨Z385,Z429⟩

end Go.Proofs.Ytjcjehnjbgklbaa.QFnExactBetter
