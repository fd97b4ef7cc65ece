/- The machine side of FnExactGainOf: what each Go function that it reaches comes to. Conditions: none. -/
import Derived.Test.YtjcjehnjbgklbaaQFnExactGainOfx0
import Derived.Test.YtjcjehnjbgklbaaQFnExactGainOfx5
namespace Go.Proofs.Ytjcjehnjbgklbaa.QFnExactGainOf
open Go.RowKit Go.Proofs.YtjcjehnjbgklbaaW.PrintWords Go.Proofs.YtjcjehnjbgklbaaW.PrintLast Go.Proofs.YtjcjehnjbgklbaaW.PrintMore
attribute [local go_sem] max2_int min2_int max_two min_two max_three min_three max_four min_four   -- for this text's walks alone
set_option linter.unusedVariables false
set_option linter.unusedSimpArgs false

/-! ### impl_PlainGain: function 21 -/
theorem impl_PlainGain.cells2 {w : World} {g : Nat} {t : TypeId} {a0 a1 : Value} (h : w.heap[g]? = some (.cells #[a0,a1] t (0,0))) : w.cell? ⟨g,0,none⟩ = some a0 ∧ w.cell? ⟨g,1,none⟩ = some a1 ∧ w.frozen? ⟨g,0,none⟩ = false ∧ w.frozen? ⟨g,1,none⟩ = false := ⟨(blk_cell h 0).trans rfl,(blk_cell h 1).trans rfl,blk_frozen h 0,blk_frozen h 1⟩
theorem impl_PlainGain.cells4 {w : World} {g : Nat} {t : TypeId} {a0 a1 a2 a3 : Value} (h : w.heap[g]? = some (.cells #[a0,a1,a2,a3] t (0,0))) : w.cell? ⟨g,0,none⟩ = some a0 ∧ w.cell? ⟨g,1,none⟩ = some a1 ∧ w.cell? ⟨g,2,none⟩ = some a2 ∧ w.cell? ⟨g,3,none⟩ = some a3 ∧ w.frozen? ⟨g,0,none⟩ = false ∧ w.frozen? ⟨g,1,none⟩ = false ∧ w.frozen? ⟨g,2,none⟩ = false ∧ w.frozen? ⟨g,3,none⟩ = false := ⟨(blk_cell h 0).trans rfl,(blk_cell h 1).trans rfl,(blk_cell h 2).trans rfl,(blk_cell h 3).trans rfl,blk_frozen h 0,blk_frozen h 1,blk_frozen h 2,blk_frozen h 3⟩
def impl_PlainGain.f (a0_0 : Int) (a0_1 : Int) (a1 : Int) : Option (Bool × Int × Int × Int × Bool) := (impl_isCount.f a0_0 a1).bind fun t248 => (if t248 = true then ((impl_SquareOver.f a0_1 (wrap64 (a0_0 + a1))).bind fun bt249 => (some (bt249.1,bt249.2.1,bt249.2.2.1,bt249.2.2.2.1,bt249.2.2.2.2))) else (some (false,0,0,0,false)))
set_option maxHeartbeats 8000000 in
set_option maxRecDepth 100000 in
theorem impl_PlainGain.calls (a0_0 : Int) (a0_1 : Int) (a1 : Int) (r1 : Bool) (r2 : Int) (r3 : Int) (r4 : Int) (r5 : Bool) (w : World) (h : impl_PlainGain.f a0_0 a0_1 a1 = some (r1,r2,r3,r4,r5)) :
    Calls Try.prog 21 #[.agg #[.int .i64 a0_0,.int .i64 a0_1],.int .i64 a1] w fun e w' => e = .returned (.tuple #[.agg #[.bool r1,.int .u64 r2,.int .u64 r3,.int .i64 r4],.bool r5]) ∧ Below w.heap.size w w' := by
  have hu33 := Try.underlying33
  have hu30 := Try.underlying30
  have HB := Aside0.mk (Below.refl w.heap.size w)
  have H : ((impl_isCount.f a0_0 a1).bind fun t248 => (if t248 = true then ((impl_SquareOver.f a0_1 (wrap64 (a0_0 + a1))).bind fun bt249 => (some (bt249.1,bt249.2.1,bt249.2.2.1,bt249.2.2.2.1,bt249.2.2.2.2))) else (some (false,0,0,0,false)))) = some (r1,r2,r3,r4,r5) := h
  clear h
  obtain ⟨t248,A30,H⟩ := Option.bind_eq_some_iff.mp H
  have A3 := Aside0.mk A30
  clear A30
  by_cases c4 : t248 = true
  · subst c4
    have H1 : ((impl_SquareOver.f a0_1 (wrap64 (a0_0 + a1))).bind fun bt249 => (some (bt249.1,bt249.2.1,bt249.2.2.1,bt249.2.2.2.1,bt249.2.2.2.2))) = some (r1,r2,r3,r4,r5) := by rw [if_pos rfl] at H;exact H
    clear H
    have H := H1
    clear H1
    obtain ⟨⟨t249,t250,t251,t252,t253⟩,A50,H⟩ := Option.bind_eq_some_iff.mp H
    try dsimp only at H
    have A5 := Aside0.mk A50
    clear A50
    simp only [Option.some.injEq,Prod.mk.injEq] at H
    obtain ⟨rfl,rfl,rfl,rfl,rfl⟩ := H
    go_enter Try.func21,Try.ntmps21
    go_wp2_with (first | ((with_reducible refine gate_dst (N := 2) rfl ?_);refine box_event ?hg (N := 2) ?hd (cs := #[.int .i64 a0_0,.int .i64 a0_1]) (t := 33) ?hr ?_;(case hd => rfl);(case hg => rfl);(case hr => exact Z334);intro gb246 hg w6 hbox hb;have n_ := jA (below_step Z404 hb) (jA (hbox) (jA ((Z296 : w.heap.size ≤ gb246)) (Aside0.mk ((Z296 : w.heap.size ≤ gb246)))));clear HB;obtain ⟨HB,BK246,GW246,GE246⟩ := n_;clear hb hbox hg) | ((with_reducible refine gate_dst (N := 4) rfl ?_);refine box_event ?hg (N := 4) ?hd (cs := #[.bool false,.int .u64 0,.int .u64 0,.int .i64 0]) (t := 30) ?hr ?_;(case hd => rfl);(case hg => rfl);(case hr => exact Z334);intro gb247 hg w7 hbox hb;have n_ := jA (blk_below (g := gb246) (o := .cells #[.int .i64 a0_0,.int .i64 a0_1] 33 (0,0)) Z441 hb) (jA (below_step Z393 hb) (jA (hbox) (jA ((Z280 : w.heap.size ≤ gb247)) (jA ((Z280 : w.heap.size ≤ gb247)) (jA ((Z264 : gb246 ≠ gb247)) (Aside0.mk ((Z266 : gb247 ≠ gb246))))))));clear BK246 HB;obtain ⟨BK246,HB,BK247,GW247,GE247,NB246_247,NB247_246⟩ := n_;clear hb hbox hg;have hnb8 := NB246_247.out;have hnc8 := NB247_246.out;obtain ⟨hcz9_0,hcz9_1,hfz9_0,hfz9_1⟩ := impl_PlainGain.cells2 BK246.out) | ((with_reducible refine gate_callee (f := 39) rfl ?_);refine goesL_ (some 9) rfl rfl Try.func39 Z337 rfl #[.int .i64 a0_0,.int .i64 a1] rfl Z304 ?_;(with_reducible refine (impl_isCount.calls a0_0 a1 true _ A3.out).mono ?_);rintro e w' ⟨rfl,⟨nd,rfl⟩⟩;refine ⟨_,rfl,?_⟩;(iterate 4 (try (rw [drewN_self w7];generalize hq_ : World.drewN w7 _ = w7;have n0_ : Aside0 (w7.heap[gb246]? = some (.cells #[.int .i64 a0_0,.int .i64 a0_1] 33 (0,0))) := ⟨Z317⟩;have n1_ : Aside0 (w7.heap[gb247]? = some (.cells #[.bool false,.int .u64 0,.int .u64 0,.int .i64 0] 30 (0,0))) := ⟨Z316⟩;have n2_ : Aside0 (Below w.heap.size w w7) := ⟨Z211⟩;clear BK246 BK247 HB hq_;have BK246 := n0_;have BK247 := n1_;have HB := n2_;clear n0_ n1_ n2_)));(try (obtain ⟨hcz9_0,hcz9_1,hfz9_0,hfz9_1⟩ := impl_PlainGain.cells2 BK246.out))) | ((with_reducible refine gate_callee (f := 40) rfl ?_);refine goesL_ (some 18) rfl rfl Try.func40 Z337 rfl #[.int .i64 a0_1,.int .i64 (wrap64 (a0_0 + a1))] rfl Z304 ?_;(with_reducible refine (impl_SquareOver.calls a0_1 (wrap64 (a0_0 + a1)) t249 t250 t251 t252 t253 _ A5.out).mono ?_);rintro e w10 ⟨rfl,hb⟩;refine ⟨_,rfl,?_⟩;have n_ := jA (blk_below (g := gb246) (o := .cells #[.int .i64 a0_0,.int .i64 a0_1] 33 (0,0)) Z441 hb) (jA (blk_below (g := gb247) (o := .cells #[.bool false,.int .u64 0,.int .u64 0,.int .i64 0] 30 (0,0)) Z453 hb) (Aside0.mk (below_step Z373 hb)));clear BK246 BK247 HB;obtain ⟨BK246,BK247,HB⟩ := n_;(try clear hb);(try clear hb2);(try clear hk);(try clear hi);obtain ⟨hcz11_0,hcz11_1,hcz11_2,hcz11_3,hfz11_0,hfz11_1,hfz11_2,hfz11_3⟩ := impl_PlainGain.cells4 BK247.out))
    refine bodyPost_ret (results_ct rfl _ _ gb247 30 #[.bool t249,.int .u64 t250,.int .u64 t251,.int .i64 t252] (0,0) _ rfl (by (with_reducible repeat (first | refine bA ?_ _ | refine bB ?_ | refine bC ?_ _));refine blk_put (cs := #[.bool t249,.int .u64 t250,.int .u64 t251,.int .i64 0]) ?_ 3 _ rfl;(with_reducible repeat (first | refine bA ?_ _ | refine bB ?_ | refine bC ?_ _));refine blk_put (cs := #[.bool t249,.int .u64 t250,.int .u64 0,.int .i64 0]) ?_ 2 _ rfl;(with_reducible repeat (first | refine bA ?_ _ | refine bB ?_ | refine bC ?_ _));refine blk_put (cs := #[.bool t249,.int .u64 0,.int .u64 0,.int .i64 0]) ?_ 1 _ rfl;(with_reducible repeat (first | refine bA ?_ _ | refine bB ?_ | refine bC ?_ _));refine blk_put (cs := #[.bool false,.int .u64 0,.int .u64 0,.int .i64 0]) ?_ 0 _ rfl;(with_reducible repeat (first | refine bA ?_ _ | refine bB ?_ | refine bC ?_ _));exact BK247.out) Try.underlying30 rfl Z337) rfl ?_
    exact ⟨Z329,Z373⟩
  · replace c4 := Bool.eq_false_iff.mpr c4
    subst c4
    have H1 : (some (false,0,0,0,false)) = some (r1,r2,r3,r4,r5) := by rw [if_neg (show ¬ (false = true) by decide)] at H;exact H
    clear H
    have H := H1
    clear H1
    simp only [Option.some.injEq,Prod.mk.injEq] at H
    obtain ⟨rfl,rfl,rfl,rfl,rfl⟩ := H
    go_enter Try.func21,Try.ntmps21
    go_wp2_with (first | ((with_reducible refine gate_dst (N := 2) rfl ?_);refine box_event ?hg (N := 2) ?hd (cs := #[.int .i64 a0_0,.int .i64 a0_1]) (t := 33) ?hr ?_;(case hd => rfl);(case hg => rfl);(case hr => exact Z334);intro gb246 hg w12 hbox hb;have n_ := jA (below_step Z404 hb) (jA (hbox) (jA ((Z296 : w.heap.size ≤ gb246)) (Aside0.mk ((Z296 : w.heap.size ≤ gb246)))));clear HB;obtain ⟨HB,BK246,GW246,GE246⟩ := n_;clear hb hbox hg) | ((with_reducible refine gate_dst (N := 4) rfl ?_);refine box_event ?hg (N := 4) ?hd (cs := #[.bool false,.int .u64 0,.int .u64 0,.int .i64 0]) (t := 30) ?hr ?_;(case hd => rfl);(case hg => rfl);(case hr => exact Z334);intro gb247 hg w13 hbox hb;have n_ := jA (blk_below (g := gb246) (o := .cells #[.int .i64 a0_0,.int .i64 a0_1] 33 (0,0)) Z441 hb) (jA (below_step Z393 hb) (jA (hbox) (jA ((Z280 : w.heap.size ≤ gb247)) (jA ((Z280 : w.heap.size ≤ gb247)) (jA ((Z264 : gb246 ≠ gb247)) (Aside0.mk ((Z266 : gb247 ≠ gb246))))))));clear BK246 HB;obtain ⟨BK246,HB,BK247,GW247,GE247,NB246_247,NB247_246⟩ := n_;clear hb hbox hg;have hnb14 := NB246_247.out;have hnc14 := NB247_246.out;obtain ⟨hcz15_0,hcz15_1,hfz15_0,hfz15_1⟩ := impl_PlainGain.cells2 BK246.out) | ((with_reducible refine gate_callee (f := 39) rfl ?_);refine goesL_ (some 9) rfl rfl Try.func39 Z337 rfl #[.int .i64 a0_0,.int .i64 a1] rfl Z304 ?_;(with_reducible refine (impl_isCount.calls a0_0 a1 false _ A3.out).mono ?_);rintro e w' ⟨rfl,⟨nd,rfl⟩⟩;refine ⟨_,rfl,?_⟩;(iterate 4 (try (rw [drewN_self w13];generalize hq_ : World.drewN w13 _ = w13;have n0_ : Aside0 (w13.heap[gb246]? = some (.cells #[.int .i64 a0_0,.int .i64 a0_1] 33 (0,0))) := ⟨Z317⟩;have n1_ : Aside0 (w13.heap[gb247]? = some (.cells #[.bool false,.int .u64 0,.int .u64 0,.int .i64 0] 30 (0,0))) := ⟨Z316⟩;have n2_ : Aside0 (Below w.heap.size w w13) := ⟨Z211⟩;clear BK246 BK247 HB hq_;have BK246 := n0_;have BK247 := n1_;have HB := n2_;clear n0_ n1_ n2_)));(try (obtain ⟨hcz15_0,hcz15_1,hfz15_0,hfz15_1⟩ := impl_PlainGain.cells2 BK246.out));obtain ⟨hcz16_0,hcz16_1,hcz16_2,hcz16_3,hfz16_0,hfz16_1,hfz16_2,hfz16_3⟩ := impl_PlainGain.cells4 BK247.out))
    refine bodyPost_ret (results_ct rfl _ _ gb247 30 #[.bool false,.int .u64 0,.int .u64 0,.int .i64 0] (0,0) _ rfl (by (with_reducible repeat (first | refine bA ?_ _ | refine bB ?_ | refine bC ?_ _));refine blk_put (cs := #[.bool false,.int .u64 0,.int .u64 0,.int .i64 0]) ?_ 3 _ rfl;(with_reducible repeat (first | refine bA ?_ _ | refine bB ?_ | refine bC ?_ _));refine blk_put (cs := #[.bool false,.int .u64 0,.int .u64 0,.int .i64 0]) ?_ 2 _ rfl;(with_reducible repeat (first | refine bA ?_ _ | refine bB ?_ | refine bC ?_ _));refine blk_put (cs := #[.bool false,.int .u64 0,.int .u64 0,.int .i64 0]) ?_ 1 _ rfl;(with_reducible repeat (first | refine bA ?_ _ | refine bB ?_ | refine bC ?_ _));refine blk_put (cs := #[.bool false,.int .u64 0,.int .u64 0,.int .i64 0]) ?_ 0 _ rfl;(with_reducible repeat (first | refine bA ?_ _ | refine bB ?_ | refine bC ?_ _));exact BK247.out) Try.underlying30 rfl Z337) rfl ?_
    exact ⟨Z329,Z373⟩

/-! ### bits_Add64: function 72: the model stands in for it -/
def bits_Add64.f (a0 : Int) (a1 : Int) (a2 : Int) : Option (Int × Int) := if 0 ≤ a0 ∧ 0 ≤ a1 ∧ 0 ≤ a2 ∧ a2 ≤ 1 then some ((a0 + a1 + a2) % 18446744073709551616,(a0 + a1 + a2) / 18446744073709551616) else none
theorem bits_Add64.run (a0 a1 a2 r1 r2 : Int) (h : bits_Add64.f a0 a1 a2 = some (r1,r2)) (w : World) : (callFunc 72 #[.int .u64 a0,.int .u64 a1,.int .u64 a2]).run Try.prog w = .ok (.value (.tuple #[.int .u64 r1,.int .u64 r2])) w := by
  unfold bits_Add64.f at h
  split at h
  · rename_i g
    simp only [Option.some.injEq,Prod.mk.injEq] at h
    obtain ⟨rfl,rfl⟩ := h
    obtain ⟨g0,g1,g2,g3⟩ := g
    rw [run_callFunc_extern Try.func72 Z337 Z337 Z337 (e := add64Entry) Z337,run_add64 a0 a1 a2 g0 g1 g2 g3]
    rfl
  · simp at h

/-! ### impl_ScaleWide: function 68 -/
theorem impl_ScaleWide.cells3 {w : World} {g : Nat} {t : TypeId} {a0 a1 a2 : Value} (h : w.heap[g]? = some (.cells #[a0,a1,a2] t (0,0))) : w.cell? ⟨g,0,none⟩ = some a0 ∧ w.cell? ⟨g,1,none⟩ = some a1 ∧ w.cell? ⟨g,2,none⟩ = some a2 ∧ w.frozen? ⟨g,0,none⟩ = false ∧ w.frozen? ⟨g,1,none⟩ = false ∧ w.frozen? ⟨g,2,none⟩ = false := ⟨(blk_cell h 0).trans rfl,(blk_cell h 1).trans rfl,(blk_cell h 2).trans rfl,blk_frozen h 0,blk_frozen h 1,blk_frozen h 2⟩
def impl_ScaleWide.f (a0_0 : Bool) (a0_1 : Int) (a0_2 : Int) (a1 : Int) : Option (Bool × Int × Int × Bool) := (impl_WideOk.f a0_0 a0_1 a0_2).bind fun t256 => (if t256 = true then ((impl_size.f a1).bind fun t257 => ((bits_Mul64.f a0_1 t257).bind fun bt258 => ((bits_Mul64.f a0_2 t257).bind fun bt260 => ((bits_Add64.f bt258.2 bt260.1 0).bind fun bt262 => ((impl_wideOf.f (a0_0 != (decide (a1 < 0))) bt262.1 bt260.2).bind fun bt264 => (if bt258.1 > 0 then (some (false,0,0,false)) else (if bt262.2 > 0 then (some (false,0,0,false)) else ((impl_WideOk.f bt264.1 bt264.2.1 bt264.2.2).bind fun t268 => (if t268 = true then (some (bt264.1,bt264.2.1,bt264.2.2,true)) else (some (false,0,0,false))))))))))) else (some (false,0,0,false)))
set_option maxHeartbeats 8000000 in
set_option maxRecDepth 100000 in
theorem impl_ScaleWide.calls (a0_0 : Bool) (a0_1 : Int) (a0_2 : Int) (a1 : Int) (r1 : Bool) (r2 : Int) (r3 : Int) (r4 : Bool) (w : World) (h : impl_ScaleWide.f a0_0 a0_1 a0_2 a1 = some (r1,r2,r3,r4)) :
    Calls Try.prog 68 #[.agg #[.bool a0_0,.int .u64 a0_1,.int .u64 a0_2],.int .i64 a1] w fun e w' => e = .returned (.tuple #[.agg #[.bool r1,.int .u64 r2,.int .u64 r3],.bool r4]) ∧ Below w.heap.size w w' := by
  have hu28 := Try.underlying28
  have HB := Aside0.mk (Below.refl w.heap.size w)
  have H : ((impl_WideOk.f a0_0 a0_1 a0_2).bind fun t256 => (if t256 = true then ((impl_size.f a1).bind fun t257 => ((bits_Mul64.f a0_1 t257).bind fun bt258 => ((bits_Mul64.f a0_2 t257).bind fun bt260 => ((bits_Add64.f bt258.2 bt260.1 0).bind fun bt262 => ((impl_wideOf.f (a0_0 != (decide (a1 < 0))) bt262.1 bt260.2).bind fun bt264 => (if bt258.1 > 0 then (some (false,0,0,false)) else (if bt262.2 > 0 then (some (false,0,0,false)) else ((impl_WideOk.f bt264.1 bt264.2.1 bt264.2.2).bind fun t268 => (if t268 = true then (some (bt264.1,bt264.2.1,bt264.2.2,true)) else (some (false,0,0,false))))))))))) else (some (false,0,0,false)))) = some (r1,r2,r3,r4) := h
  clear h
  obtain ⟨t256,A30,H⟩ := Option.bind_eq_some_iff.mp H
  have A3 := Aside0.mk A30
  clear A30
  by_cases c4 : t256 = true
  · subst c4
    have H1 : ((impl_size.f a1).bind fun t257 => ((bits_Mul64.f a0_1 t257).bind fun bt258 => ((bits_Mul64.f a0_2 t257).bind fun bt260 => ((bits_Add64.f bt258.2 bt260.1 0).bind fun bt262 => ((impl_wideOf.f (a0_0 != (decide (a1 < 0))) bt262.1 bt260.2).bind fun bt264 => (if bt258.1 > 0 then (some (false,0,0,false)) else (if bt262.2 > 0 then (some (false,0,0,false)) else ((impl_WideOk.f bt264.1 bt264.2.1 bt264.2.2).bind fun t268 => (if t268 = true then (some (bt264.1,bt264.2.1,bt264.2.2,true)) else (some (false,0,0,false))))))))))) = some (r1,r2,r3,r4) := by rw [if_pos rfl] at H;exact H
    clear H
    have H := H1
    clear H1
    obtain ⟨t257,A50,H⟩ := Option.bind_eq_some_iff.mp H
    have A5 := Aside0.mk A50
    clear A50
    obtain ⟨⟨t258,t259⟩,A60,H⟩ := Option.bind_eq_some_iff.mp H
    try dsimp only at H
    have A6 := Aside0.mk A60
    clear A60
    obtain ⟨⟨t260,t261⟩,A70,H⟩ := Option.bind_eq_some_iff.mp H
    try dsimp only at H
    have A7 := Aside0.mk A70
    clear A70
    obtain ⟨⟨t262,t263⟩,A80,H⟩ := Option.bind_eq_some_iff.mp H
    try dsimp only at H
    have A8 := Aside0.mk A80
    clear A80
    obtain ⟨⟨t264,t265,t266⟩,A90,H⟩ := Option.bind_eq_some_iff.mp H
    try dsimp only at H
    have A9 := Aside0.mk A90
    clear A90
    by_cases c10 : t258 > 0
    · rw [if_pos c10] at H
      have c10b0 : decide (0 < t258) = true := decide_eq_true c10
      clear c10
      simp only [Option.some.injEq,Prod.mk.injEq] at H
      obtain ⟨rfl,rfl,rfl,rfl⟩ := H
      go_enter Try.func68,Try.ntmps68
      go_wp2_with (first | ((with_reducible refine gate_dst (N := 2) rfl ?_);refine box_event ?hg (N := 2) ?hd (cs := #[.bool a0_0,.int .u64 a0_1,.int .u64 a0_2]) (t := 28) ?hr ?_;(case hd => rfl);(case hg => rfl);(case hr => exact Z334);intro gb254 hg w11 hbox hb;have n_ := jA (below_step Z404 hb) (jA (hbox) (jA ((Z296 : w.heap.size ≤ gb254)) (Aside0.mk ((Z296 : w.heap.size ≤ gb254)))));clear HB;obtain ⟨HB,BK254,GW254,GE254⟩ := n_;clear hb hbox hg) | ((with_reducible refine gate_dst (N := 4) rfl ?_);refine box_event ?hg (N := 4) ?hd (cs := #[.bool false,.int .u64 0,.int .u64 0]) (t := 28) ?hr ?_;(case hd => rfl);(case hg => rfl);(case hr => exact Z334);intro gb255 hg w12 hbox hb;have n_ := jA (blk_below (g := gb254) (o := .cells #[.bool a0_0,.int .u64 a0_1,.int .u64 a0_2] 28 (0,0)) Z408 hb) (jA (below_step Z382 hb) (jA (hbox) (jA ((Z269 : w.heap.size ≤ gb255)) (jA ((Z269 : w.heap.size ≤ gb255)) (jA ((Z218 : gb254 ≠ gb255)) (Aside0.mk ((Z219 : gb255 ≠ gb254))))))));clear BK254 HB;obtain ⟨BK254,HB,BK255,GW255,GE255,NB254_255,NB255_254⟩ := n_;clear hb hbox hg;have hnb13 := NB254_255.out;have hnc13 := NB255_254.out;obtain ⟨hcz14_0,hcz14_1,hcz14_2,hfz14_0,hfz14_1,hfz14_2⟩ := impl_ScaleWide.cells3 BK254.out) | ((with_reducible refine gate_callee (f := 31) rfl ?_);refine goesL_ (some 14) rfl rfl Try.func31 Z337 rfl #[.agg #[.bool a0_0,.int .u64 a0_1,.int .u64 a0_2]] rfl Z304 ?_;(with_reducible refine (impl_WideOk.calls a0_0 a0_1 a0_2 true _ A3.out).mono ?_);rintro e w15 ⟨rfl,hb⟩;refine ⟨_,rfl,?_⟩;have n_ := jA (blk_below (g := gb254) (o := .cells #[.bool a0_0,.int .u64 a0_1,.int .u64 a0_2] 28 (0,0)) Z408 hb) (jA (blk_below (g := gb255) (o := .cells #[.bool false,.int .u64 0,.int .u64 0] 28 (0,0)) Z417 hb) (Aside0.mk (below_step Z366 hb)));clear BK254 BK255 HB;obtain ⟨BK254,BK255,HB⟩ := n_;(try clear hb);(try clear hb2);(try clear hk);(try clear hi)) | ((with_reducible refine gate_callee (f := 78) rfl ?_);refine goesL_ (some 18) rfl rfl Try.func78 Z337 rfl #[.int .i64 a1] rfl Z304 ?_;(with_reducible refine (impl_size.calls a1 t257 _ A5.out).mono ?_);rintro e w' ⟨rfl,⟨nd,rfl⟩⟩;refine ⟨_,rfl,?_⟩;(iterate 4 (try (rw [drewN_self w15];generalize hq_ : World.drewN w15 _ = w15;have n0_ : Aside0 (w15.heap[gb254]? = some (.cells #[.bool a0_0,.int .u64 a0_1,.int .u64 a0_2] 28 (0,0))) := ⟨Z308⟩;have n1_ : Aside0 (w15.heap[gb255]? = some (.cells #[.bool false,.int .u64 0,.int .u64 0] 28 (0,0))) := ⟨Z307⟩;have n2_ : Aside0 (Below w.heap.size w w15) := ⟨Z209⟩;clear BK254 BK255 HB hq_;have BK254 := n0_;have BK255 := n1_;have HB := n2_;clear n0_ n1_ n2_)));obtain ⟨hcz16_0,hcz16_1,hcz16_2,hfz16_0,hfz16_1,hfz16_2⟩ := impl_ScaleWide.cells3 BK254.out) | ((with_reducible refine gate_callee (f := 77) rfl ?_);refine goesL_ (some 23) rfl rfl Try.func77 Z337 rfl #[.int .u64 a0_1,.int .u64 t257] rfl Z304 ?_;(with_reducible refine (bits_Mul64.calls a0_1 t257 t258 t259 _ A6.out).mono ?_);rintro e w' ⟨rfl,⟨nd,rfl⟩⟩;refine ⟨_,rfl,?_⟩;(iterate 4 (try (rw [drewN_self w15];generalize hq_ : World.drewN w15 _ = w15;have n0_ : Aside0 (w15.heap[gb254]? = some (.cells #[.bool a0_0,.int .u64 a0_1,.int .u64 a0_2] 28 (0,0))) := ⟨Z308⟩;have n1_ : Aside0 (w15.heap[gb255]? = some (.cells #[.bool false,.int .u64 0,.int .u64 0] 28 (0,0))) := ⟨Z307⟩;have n2_ : Aside0 (Below w.heap.size w w15) := ⟨Z209⟩;clear BK254 BK255 HB hq_;have BK254 := n0_;have BK255 := n1_;have HB := n2_;clear n0_ n1_ n2_)));(try (obtain ⟨hcz16_0,hcz16_1,hcz16_2,hfz16_0,hfz16_1,hfz16_2⟩ := impl_ScaleWide.cells3 BK254.out))) | ((with_reducible refine gate_callee (f := 77) rfl ?_);refine goesL_ (some 30) rfl rfl Try.func77 Z337 rfl #[.int .u64 a0_2,.int .u64 t257] rfl Z304 ?_;(with_reducible refine (bits_Mul64.calls a0_2 t257 t260 t261 _ A7.out).mono ?_);rintro e w' ⟨rfl,⟨nd,rfl⟩⟩;refine ⟨_,rfl,?_⟩;(iterate 4 (try (rw [drewN_self w15];generalize hq_ : World.drewN w15 _ = w15;have n0_ : Aside0 (w15.heap[gb254]? = some (.cells #[.bool a0_0,.int .u64 a0_1,.int .u64 a0_2] 28 (0,0))) := ⟨Z308⟩;have n1_ : Aside0 (w15.heap[gb255]? = some (.cells #[.bool false,.int .u64 0,.int .u64 0] 28 (0,0))) := ⟨Z307⟩;have n2_ : Aside0 (Below w.heap.size w w15) := ⟨Z209⟩;clear BK254 BK255 HB hq_;have BK254 := n0_;have BK255 := n1_;have HB := n2_;clear n0_ n1_ n2_)));(try (obtain ⟨hcz16_0,hcz16_1,hcz16_2,hfz16_0,hfz16_1,hfz16_2⟩ := impl_ScaleWide.cells3 BK254.out))) | (simp only [bits_Add64.run t259 t260 0 t262 t263 A8.out];(iterate 4 (try (rw [drewN_self w15];generalize hq_ : World.drewN w15 _ = w15;have n0_ : Aside0 (w15.heap[gb254]? = some (.cells #[.bool a0_0,.int .u64 a0_1,.int .u64 a0_2] 28 (0,0))) := ⟨Z308⟩;have n1_ : Aside0 (w15.heap[gb255]? = some (.cells #[.bool false,.int .u64 0,.int .u64 0] 28 (0,0))) := ⟨Z307⟩;have n2_ : Aside0 (Below w.heap.size w w15) := ⟨Z209⟩;clear BK254 BK255 HB hq_;have BK254 := n0_;have BK255 := n1_;have HB := n2_;clear n0_ n1_ n2_)));(try (obtain ⟨hcz16_0,hcz16_1,hcz16_2,hfz16_0,hfz16_1,hfz16_2⟩ := impl_ScaleWide.cells3 BK254.out))) | ((with_reducible refine gate_callee (f := 71) rfl ?_);refine goesL_ (some 46) rfl rfl Try.func71 Z337 rfl #[.bool (a0_0 != (decide (a1 < 0))),.int .u64 t262,.int .u64 t261] rfl Z304 ?_;(with_reducible refine (impl_wideOf.calls (a0_0 != (decide (a1 < 0))) t262 t261 t264 t265 t266 _ A9.out).mono ?_);rintro e w17 ⟨rfl,hb⟩;refine ⟨_,rfl,?_⟩;have n_ := jA (blk_below (g := gb254) (o := .cells #[.bool a0_0,.int .u64 a0_1,.int .u64 a0_2] 28 (0,0)) Z408 hb) (jA (blk_below (g := gb255) (o := .cells #[.bool false,.int .u64 0,.int .u64 0] 28 (0,0)) Z417 hb) (Aside0.mk (below_step Z366 hb)));clear BK254 BK255 HB;obtain ⟨BK254,BK255,HB⟩ := n_;(try clear hb);(try clear hb2);(try clear hk);(try clear hi)) | ((with_reducible refine gate_dst (N := 12) rfl ?_);refine box_event ?hg (N := 12) ?hd (cs := #[.bool false,.int .u64 0,.int .u64 0]) (t := 28) ?hr ?_;(case hd => rfl);(case hg => rfl);(case hr => exact Z334);intro gb267 hg w18 hbox hb;have n_ := jA (blk_below (g := gb254) (o := .cells #[.bool a0_0,.int .u64 a0_1,.int .u64 a0_2] 28 (0,0)) Z408 hb) (jA (blk_below (g := gb255) (o := .cells #[.bool false,.int .u64 0,.int .u64 0] 28 (0,0)) Z417 hb) (jA (below_step Z366 hb) (jA (hbox) (jA ((Z179 : w.heap.size ≤ gb267)) (jA ((Z179 : w.heap.size ≤ gb267)) (jA ((Z218 : gb254 ≠ gb267)) (jA ((Z219 : gb267 ≠ gb254)) (jA ((Z249 : gb255 ≠ gb267)) (Aside0.mk ((Z253 : gb267 ≠ gb255)))))))))));clear BK254 BK255 HB;obtain ⟨BK254,BK255,HB,BK267,GW267,GE267,NB254_267,NB267_254,NB255_267,NB267_255⟩ := n_;clear hb hbox hg;have hnb19 := NB267_254.out;have hnc19 := NB254_267.out;have hnb20 := NB267_255.out;have hnc20 := NB255_267.out;obtain ⟨hcz21_0,hcz21_1,hcz21_2,hfz21_0,hfz21_1,hfz21_2⟩ := impl_ScaleWide.cells3 BK267.out;obtain ⟨hcz22_0,hcz22_1,hcz22_2,hfz22_0,hfz22_1,hfz22_2⟩ := impl_ScaleWide.cells3 BK255.out))
      refine bodyPost_ret (results_ct rfl _ _ gb255 28 #[.bool false,.int .u64 0,.int .u64 0] (0,0) _ rfl Z11 Try.underlying28 rfl Z337) rfl ?_
      exact ⟨Z329,Z181⟩
    · rw [if_neg c10] at H
      have c10b0 : decide (0 < t258) = false := decide_eq_false c10
      clear c10
      by_cases c23 : t263 > 0
      · rw [if_pos c23] at H
        have c23b0 : decide (0 < t263) = true := decide_eq_true c23
        clear c23
        simp only [Option.some.injEq,Prod.mk.injEq] at H
        obtain ⟨rfl,rfl,rfl,rfl⟩ := H
        go_enter Try.func68,Try.ntmps68
        go_wp2_with (first | ((with_reducible refine gate_dst (N := 2) rfl ?_);refine box_event ?hg (N := 2) ?hd (cs := #[.bool a0_0,.int .u64 a0_1,.int .u64 a0_2]) (t := 28) ?hr ?_;(case hd => rfl);(case hg => rfl);(case hr => exact Z334);intro gb254 hg w24 hbox hb;have n_ := jA (below_step Z404 hb) (jA (hbox) (jA ((Z296 : w.heap.size ≤ gb254)) (Aside0.mk ((Z296 : w.heap.size ≤ gb254)))));clear HB;obtain ⟨HB,BK254,GW254,GE254⟩ := n_;clear hb hbox hg) | ((with_reducible refine gate_dst (N := 4) rfl ?_);refine box_event ?hg (N := 4) ?hd (cs := #[.bool false,.int .u64 0,.int .u64 0]) (t := 28) ?hr ?_;(case hd => rfl);(case hg => rfl);(case hr => exact Z334);intro gb255 hg w25 hbox hb;have n_ := jA (blk_below (g := gb254) (o := .cells #[.bool a0_0,.int .u64 a0_1,.int .u64 a0_2] 28 (0,0)) Z408 hb) (jA (below_step Z382 hb) (jA (hbox) (jA ((Z269 : w.heap.size ≤ gb255)) (jA ((Z269 : w.heap.size ≤ gb255)) (jA ((Z218 : gb254 ≠ gb255)) (Aside0.mk ((Z219 : gb255 ≠ gb254))))))));clear BK254 HB;obtain ⟨BK254,HB,BK255,GW255,GE255,NB254_255,NB255_254⟩ := n_;clear hb hbox hg;have hnb26 := NB254_255.out;have hnc26 := NB255_254.out;obtain ⟨hcz27_0,hcz27_1,hcz27_2,hfz27_0,hfz27_1,hfz27_2⟩ := impl_ScaleWide.cells3 BK254.out) | ((with_reducible refine gate_callee (f := 31) rfl ?_);refine goesL_ (some 14) rfl rfl Try.func31 Z337 rfl #[.agg #[.bool a0_0,.int .u64 a0_1,.int .u64 a0_2]] rfl Z304 ?_;(with_reducible refine (impl_WideOk.calls a0_0 a0_1 a0_2 true _ A3.out).mono ?_);rintro e w28 ⟨rfl,hb⟩;refine ⟨_,rfl,?_⟩;have n_ := jA (blk_below (g := gb254) (o := .cells #[.bool a0_0,.int .u64 a0_1,.int .u64 a0_2] 28 (0,0)) Z408 hb) (jA (blk_below (g := gb255) (o := .cells #[.bool false,.int .u64 0,.int .u64 0] 28 (0,0)) Z417 hb) (Aside0.mk (below_step Z366 hb)));clear BK254 BK255 HB;obtain ⟨BK254,BK255,HB⟩ := n_;(try clear hb);(try clear hb2);(try clear hk);(try clear hi)) | ((with_reducible refine gate_callee (f := 78) rfl ?_);refine goesL_ (some 18) rfl rfl Try.func78 Z337 rfl #[.int .i64 a1] rfl Z304 ?_;(with_reducible refine (impl_size.calls a1 t257 _ A5.out).mono ?_);rintro e w' ⟨rfl,⟨nd,rfl⟩⟩;refine ⟨_,rfl,?_⟩;(iterate 4 (try (rw [drewN_self w28];generalize hq_ : World.drewN w28 _ = w28;have n0_ : Aside0 (w28.heap[gb254]? = some (.cells #[.bool a0_0,.int .u64 a0_1,.int .u64 a0_2] 28 (0,0))) := ⟨Z308⟩;have n1_ : Aside0 (w28.heap[gb255]? = some (.cells #[.bool false,.int .u64 0,.int .u64 0] 28 (0,0))) := ⟨Z307⟩;have n2_ : Aside0 (Below w.heap.size w w28) := ⟨Z209⟩;clear BK254 BK255 HB hq_;have BK254 := n0_;have BK255 := n1_;have HB := n2_;clear n0_ n1_ n2_)));obtain ⟨hcz29_0,hcz29_1,hcz29_2,hfz29_0,hfz29_1,hfz29_2⟩ := impl_ScaleWide.cells3 BK254.out) | ((with_reducible refine gate_callee (f := 77) rfl ?_);refine goesL_ (some 23) rfl rfl Try.func77 Z337 rfl #[.int .u64 a0_1,.int .u64 t257] rfl Z304 ?_;(with_reducible refine (bits_Mul64.calls a0_1 t257 t258 t259 _ A6.out).mono ?_);rintro e w' ⟨rfl,⟨nd,rfl⟩⟩;refine ⟨_,rfl,?_⟩;(iterate 4 (try (rw [drewN_self w28];generalize hq_ : World.drewN w28 _ = w28;have n0_ : Aside0 (w28.heap[gb254]? = some (.cells #[.bool a0_0,.int .u64 a0_1,.int .u64 a0_2] 28 (0,0))) := ⟨Z308⟩;have n1_ : Aside0 (w28.heap[gb255]? = some (.cells #[.bool false,.int .u64 0,.int .u64 0] 28 (0,0))) := ⟨Z307⟩;have n2_ : Aside0 (Below w.heap.size w w28) := ⟨Z209⟩;clear BK254 BK255 HB hq_;have BK254 := n0_;have BK255 := n1_;have HB := n2_;clear n0_ n1_ n2_)));(try (obtain ⟨hcz29_0,hcz29_1,hcz29_2,hfz29_0,hfz29_1,hfz29_2⟩ := impl_ScaleWide.cells3 BK254.out))) | ((with_reducible refine gate_callee (f := 77) rfl ?_);refine goesL_ (some 30) rfl rfl Try.func77 Z337 rfl #[.int .u64 a0_2,.int .u64 t257] rfl Z304 ?_;(with_reducible refine (bits_Mul64.calls a0_2 t257 t260 t261 _ A7.out).mono ?_);rintro e w' ⟨rfl,⟨nd,rfl⟩⟩;refine ⟨_,rfl,?_⟩;(iterate 4 (try (rw [drewN_self w28];generalize hq_ : World.drewN w28 _ = w28;have n0_ : Aside0 (w28.heap[gb254]? = some (.cells #[.bool a0_0,.int .u64 a0_1,.int .u64 a0_2] 28 (0,0))) := ⟨Z308⟩;have n1_ : Aside0 (w28.heap[gb255]? = some (.cells #[.bool false,.int .u64 0,.int .u64 0] 28 (0,0))) := ⟨Z307⟩;have n2_ : Aside0 (Below w.heap.size w w28) := ⟨Z209⟩;clear BK254 BK255 HB hq_;have BK254 := n0_;have BK255 := n1_;have HB := n2_;clear n0_ n1_ n2_)));(try (obtain ⟨hcz29_0,hcz29_1,hcz29_2,hfz29_0,hfz29_1,hfz29_2⟩ := impl_ScaleWide.cells3 BK254.out))) | (simp only [bits_Add64.run t259 t260 0 t262 t263 A8.out];(iterate 4 (try (rw [drewN_self w28];generalize hq_ : World.drewN w28 _ = w28;have n0_ : Aside0 (w28.heap[gb254]? = some (.cells #[.bool a0_0,.int .u64 a0_1,.int .u64 a0_2] 28 (0,0))) := ⟨Z308⟩;have n1_ : Aside0 (w28.heap[gb255]? = some (.cells #[.bool false,.int .u64 0,.int .u64 0] 28 (0,0))) := ⟨Z307⟩;have n2_ : Aside0 (Below w.heap.size w w28) := ⟨Z209⟩;clear BK254 BK255 HB hq_;have BK254 := n0_;have BK255 := n1_;have HB := n2_;clear n0_ n1_ n2_)));(try (obtain ⟨hcz29_0,hcz29_1,hcz29_2,hfz29_0,hfz29_1,hfz29_2⟩ := impl_ScaleWide.cells3 BK254.out))) | ((with_reducible refine gate_callee (f := 71) rfl ?_);refine goesL_ (some 46) rfl rfl Try.func71 Z337 rfl #[.bool (a0_0 != (decide (a1 < 0))),.int .u64 t262,.int .u64 t261] rfl Z304 ?_;(with_reducible refine (impl_wideOf.calls (a0_0 != (decide (a1 < 0))) t262 t261 t264 t265 t266 _ A9.out).mono ?_);rintro e w30 ⟨rfl,hb⟩;refine ⟨_,rfl,?_⟩;have n_ := jA (blk_below (g := gb254) (o := .cells #[.bool a0_0,.int .u64 a0_1,.int .u64 a0_2] 28 (0,0)) Z408 hb) (jA (blk_below (g := gb255) (o := .cells #[.bool false,.int .u64 0,.int .u64 0] 28 (0,0)) Z417 hb) (Aside0.mk (below_step Z366 hb)));clear BK254 BK255 HB;obtain ⟨BK254,BK255,HB⟩ := n_;(try clear hb);(try clear hb2);(try clear hk);(try clear hi)) | ((with_reducible refine gate_dst (N := 12) rfl ?_);refine box_event ?hg (N := 12) ?hd (cs := #[.bool false,.int .u64 0,.int .u64 0]) (t := 28) ?hr ?_;(case hd => rfl);(case hg => rfl);(case hr => exact Z334);intro gb267 hg w31 hbox hb;have n_ := jA (blk_below (g := gb254) (o := .cells #[.bool a0_0,.int .u64 a0_1,.int .u64 a0_2] 28 (0,0)) Z408 hb) (jA (blk_below (g := gb255) (o := .cells #[.bool false,.int .u64 0,.int .u64 0] 28 (0,0)) Z417 hb) (jA (below_step Z366 hb) (jA (hbox) (jA ((Z179 : w.heap.size ≤ gb267)) (jA ((Z179 : w.heap.size ≤ gb267)) (jA ((Z218 : gb254 ≠ gb267)) (jA ((Z219 : gb267 ≠ gb254)) (jA ((Z249 : gb255 ≠ gb267)) (Aside0.mk ((Z253 : gb267 ≠ gb255)))))))))));clear BK254 BK255 HB;obtain ⟨BK254,BK255,HB,BK267,GW267,GE267,NB254_267,NB267_254,NB255_267,NB267_255⟩ := n_;clear hb hbox hg;have hnb32 := NB267_254.out;have hnc32 := NB254_267.out;have hnb33 := NB267_255.out;have hnc33 := NB255_267.out;obtain ⟨hcz34_0,hcz34_1,hcz34_2,hfz34_0,hfz34_1,hfz34_2⟩ := impl_ScaleWide.cells3 BK267.out;obtain ⟨hcz35_0,hcz35_1,hcz35_2,hfz35_0,hfz35_1,hfz35_2⟩ := impl_ScaleWide.cells3 BK255.out))
        refine bodyPost_ret (results_ct rfl _ _ gb255 28 #[.bool false,.int .u64 0,.int .u64 0] (0,0) _ rfl Z11 Try.underlying28 rfl Z337) rfl ?_
        exact ⟨Z329,Z181⟩
      · rw [if_neg c23] at H
        have c23b0 : decide (0 < t263) = false := decide_eq_false c23
        clear c23
        obtain ⟨t268,A360,H⟩ := Option.bind_eq_some_iff.mp H
        have A36 := Aside0.mk A360
        clear A360
        by_cases c37 : t268 = true
        · subst c37
          have H1 : (some (t264,t265,t266,true)) = some (r1,r2,r3,r4) := by rw [if_pos rfl] at H;exact H
          clear H
          have H := H1
          clear H1
          simp only [Option.some.injEq,Prod.mk.injEq] at H
          obtain ⟨rfl,rfl,rfl,rfl⟩ := H
          go_enter Try.func68,Try.ntmps68
          go_wp2_with (first | ((with_reducible refine gate_dst (N := 2) rfl ?_);refine box_event ?hg (N := 2) ?hd (cs := #[.bool a0_0,.int .u64 a0_1,.int .u64 a0_2]) (t := 28) ?hr ?_;(case hd => rfl);(case hg => rfl);(case hr => exact Z334);intro gb254 hg w38 hbox hb;have n_ := jA (below_step Z404 hb) (jA (hbox) (jA ((Z296 : w.heap.size ≤ gb254)) (Aside0.mk ((Z296 : w.heap.size ≤ gb254)))));clear HB;obtain ⟨HB,BK254,GW254,GE254⟩ := n_;clear hb hbox hg) | ((with_reducible refine gate_dst (N := 4) rfl ?_);refine box_event ?hg (N := 4) ?hd (cs := #[.bool false,.int .u64 0,.int .u64 0]) (t := 28) ?hr ?_;(case hd => rfl);(case hg => rfl);(case hr => exact Z334);intro gb255 hg w39 hbox hb;have n_ := jA (blk_below (g := gb254) (o := .cells #[.bool a0_0,.int .u64 a0_1,.int .u64 a0_2] 28 (0,0)) Z408 hb) (jA (below_step Z382 hb) (jA (hbox) (jA ((Z269 : w.heap.size ≤ gb255)) (jA ((Z269 : w.heap.size ≤ gb255)) (jA ((Z218 : gb254 ≠ gb255)) (Aside0.mk ((Z219 : gb255 ≠ gb254))))))));clear BK254 HB;obtain ⟨BK254,HB,BK255,GW255,GE255,NB254_255,NB255_254⟩ := n_;clear hb hbox hg;have hnb40 := NB254_255.out;have hnc40 := NB255_254.out;obtain ⟨hcz41_0,hcz41_1,hcz41_2,hfz41_0,hfz41_1,hfz41_2⟩ := impl_ScaleWide.cells3 BK254.out) | ((with_reducible refine gate_callee (f := 31) rfl ?_);refine goesL_ (some 14) rfl rfl Try.func31 Z337 rfl #[.agg #[.bool a0_0,.int .u64 a0_1,.int .u64 a0_2]] rfl Z304 ?_;(with_reducible refine (impl_WideOk.calls a0_0 a0_1 a0_2 true _ A3.out).mono ?_);rintro e w42 ⟨rfl,hb⟩;refine ⟨_,rfl,?_⟩;have n_ := jA (blk_below (g := gb254) (o := .cells #[.bool a0_0,.int .u64 a0_1,.int .u64 a0_2] 28 (0,0)) Z408 hb) (jA (blk_below (g := gb255) (o := .cells #[.bool false,.int .u64 0,.int .u64 0] 28 (0,0)) Z417 hb) (Aside0.mk (below_step Z366 hb)));clear BK254 BK255 HB;obtain ⟨BK254,BK255,HB⟩ := n_;(try clear hb);(try clear hb2);(try clear hk);(try clear hi)) | ((with_reducible refine gate_callee (f := 78) rfl ?_);refine goesL_ (some 18) rfl rfl Try.func78 Z337 rfl #[.int .i64 a1] rfl Z304 ?_;(with_reducible refine (impl_size.calls a1 t257 _ A5.out).mono ?_);rintro e w' ⟨rfl,⟨nd,rfl⟩⟩;refine ⟨_,rfl,?_⟩;(iterate 4 (try (rw [drewN_self w42];generalize hq_ : World.drewN w42 _ = w42;have n0_ : Aside0 (w42.heap[gb254]? = some (.cells #[.bool a0_0,.int .u64 a0_1,.int .u64 a0_2] 28 (0,0))) := ⟨Z308⟩;have n1_ : Aside0 (w42.heap[gb255]? = some (.cells #[.bool false,.int .u64 0,.int .u64 0] 28 (0,0))) := ⟨Z307⟩;have n2_ : Aside0 (Below w.heap.size w w42) := ⟨Z209⟩;clear BK254 BK255 HB hq_;have BK254 := n0_;have BK255 := n1_;have HB := n2_;clear n0_ n1_ n2_)));obtain ⟨hcz43_0,hcz43_1,hcz43_2,hfz43_0,hfz43_1,hfz43_2⟩ := impl_ScaleWide.cells3 BK254.out) | ((with_reducible refine gate_callee (f := 77) rfl ?_);refine goesL_ (some 23) rfl rfl Try.func77 Z337 rfl #[.int .u64 a0_1,.int .u64 t257] rfl Z304 ?_;(with_reducible refine (bits_Mul64.calls a0_1 t257 t258 t259 _ A6.out).mono ?_);rintro e w' ⟨rfl,⟨nd,rfl⟩⟩;refine ⟨_,rfl,?_⟩;(iterate 4 (try (rw [drewN_self w42];generalize hq_ : World.drewN w42 _ = w42;have n0_ : Aside0 (w42.heap[gb254]? = some (.cells #[.bool a0_0,.int .u64 a0_1,.int .u64 a0_2] 28 (0,0))) := ⟨Z308⟩;have n1_ : Aside0 (w42.heap[gb255]? = some (.cells #[.bool false,.int .u64 0,.int .u64 0] 28 (0,0))) := ⟨Z307⟩;have n2_ : Aside0 (Below w.heap.size w w42) := ⟨Z209⟩;clear BK254 BK255 HB hq_;have BK254 := n0_;have BK255 := n1_;have HB := n2_;clear n0_ n1_ n2_)));(try (obtain ⟨hcz43_0,hcz43_1,hcz43_2,hfz43_0,hfz43_1,hfz43_2⟩ := impl_ScaleWide.cells3 BK254.out))) | ((with_reducible refine gate_callee (f := 77) rfl ?_);refine goesL_ (some 30) rfl rfl Try.func77 Z337 rfl #[.int .u64 a0_2,.int .u64 t257] rfl Z304 ?_;(with_reducible refine (bits_Mul64.calls a0_2 t257 t260 t261 _ A7.out).mono ?_);rintro e w' ⟨rfl,⟨nd,rfl⟩⟩;refine ⟨_,rfl,?_⟩;(iterate 4 (try (rw [drewN_self w42];generalize hq_ : World.drewN w42 _ = w42;have n0_ : Aside0 (w42.heap[gb254]? = some (.cells #[.bool a0_0,.int .u64 a0_1,.int .u64 a0_2] 28 (0,0))) := ⟨Z308⟩;have n1_ : Aside0 (w42.heap[gb255]? = some (.cells #[.bool false,.int .u64 0,.int .u64 0] 28 (0,0))) := ⟨Z307⟩;have n2_ : Aside0 (Below w.heap.size w w42) := ⟨Z209⟩;clear BK254 BK255 HB hq_;have BK254 := n0_;have BK255 := n1_;have HB := n2_;clear n0_ n1_ n2_)));(try (obtain ⟨hcz43_0,hcz43_1,hcz43_2,hfz43_0,hfz43_1,hfz43_2⟩ := impl_ScaleWide.cells3 BK254.out))) | (simp only [bits_Add64.run t259 t260 0 t262 t263 A8.out];(iterate 4 (try (rw [drewN_self w42];generalize hq_ : World.drewN w42 _ = w42;have n0_ : Aside0 (w42.heap[gb254]? = some (.cells #[.bool a0_0,.int .u64 a0_1,.int .u64 a0_2] 28 (0,0))) := ⟨Z308⟩;have n1_ : Aside0 (w42.heap[gb255]? = some (.cells #[.bool false,.int .u64 0,.int .u64 0] 28 (0,0))) := ⟨Z307⟩;have n2_ : Aside0 (Below w.heap.size w w42) := ⟨Z209⟩;clear BK254 BK255 HB hq_;have BK254 := n0_;have BK255 := n1_;have HB := n2_;clear n0_ n1_ n2_)));(try (obtain ⟨hcz43_0,hcz43_1,hcz43_2,hfz43_0,hfz43_1,hfz43_2⟩ := impl_ScaleWide.cells3 BK254.out))) | ((with_reducible refine gate_callee (f := 71) rfl ?_);refine goesL_ (some 46) rfl rfl Try.func71 Z337 rfl #[.bool (a0_0 != (decide (a1 < 0))),.int .u64 t262,.int .u64 t261] rfl Z304 ?_;(with_reducible refine (impl_wideOf.calls (a0_0 != (decide (a1 < 0))) t262 t261 t264 t265 t266 _ A9.out).mono ?_);rintro e w44 ⟨rfl,hb⟩;refine ⟨_,rfl,?_⟩;have n_ := jA (blk_below (g := gb254) (o := .cells #[.bool a0_0,.int .u64 a0_1,.int .u64 a0_2] 28 (0,0)) Z408 hb) (jA (blk_below (g := gb255) (o := .cells #[.bool false,.int .u64 0,.int .u64 0] 28 (0,0)) Z417 hb) (Aside0.mk (below_step Z366 hb)));clear BK254 BK255 HB;obtain ⟨BK254,BK255,HB⟩ := n_;(try clear hb);(try clear hb2);(try clear hk);(try clear hi)) | ((with_reducible refine gate_dst (N := 12) rfl ?_);refine box_event ?hg (N := 12) ?hd (cs := #[.bool false,.int .u64 0,.int .u64 0]) (t := 28) ?hr ?_;(case hd => rfl);(case hg => rfl);(case hr => exact Z334);intro gb267 hg w45 hbox hb;have n_ := jA (blk_below (g := gb254) (o := .cells #[.bool a0_0,.int .u64 a0_1,.int .u64 a0_2] 28 (0,0)) Z408 hb) (jA (blk_below (g := gb255) (o := .cells #[.bool false,.int .u64 0,.int .u64 0] 28 (0,0)) Z417 hb) (jA (below_step Z366 hb) (jA (hbox) (jA ((Z179 : w.heap.size ≤ gb267)) (jA ((Z179 : w.heap.size ≤ gb267)) (jA ((Z218 : gb254 ≠ gb267)) (jA ((Z219 : gb267 ≠ gb254)) (jA ((Z249 : gb255 ≠ gb267)) (Aside0.mk ((Z253 : gb267 ≠ gb255)))))))))));clear BK254 BK255 HB;obtain ⟨BK254,BK255,HB,BK267,GW267,GE267,NB254_267,NB267_254,NB255_267,NB267_255⟩ := n_;clear hb hbox hg;have hnb46 := NB267_254.out;have hnc46 := NB254_267.out;have hnb47 := NB267_255.out;have hnc47 := NB255_267.out;obtain ⟨hcz48_0,hcz48_1,hcz48_2,hfz48_0,hfz48_1,hfz48_2⟩ := impl_ScaleWide.cells3 BK267.out) | (go_at_call 31;(with_reducible refine (impl_WideOk.calls t264 t265 t266 true _ A36.out).mono ?_);rintro e w49 ⟨rfl,hb⟩;have n_ := jA (blk_below (g := gb254) (o := .cells #[.bool a0_0,.int .u64 a0_1,.int .u64 a0_2] 28 (0,0)) Z88 hb) (jA (blk_below (g := gb255) (o := .cells #[.bool false,.int .u64 0,.int .u64 0] 28 (0,0)) Z87 hb) (jA (blk_below (g := gb267) (o := .cells #[.bool t264,.int .u64 t265,.int .u64 t266] 28 (0,0)) Z46 hb) (Aside0.mk (below_step Z181 hb))));clear BK254 BK255 BK267 HB;obtain ⟨BK254,BK255,BK267,HB⟩ := n_;(try clear hb);(try clear hb2);(try clear hk);(try clear hi);obtain ⟨hcz50_0,hcz50_1,hcz50_2,hfz50_0,hfz50_1,hfz50_2⟩ := impl_ScaleWide.cells3 BK267.out;obtain ⟨hcz51_0,hcz51_1,hcz51_2,hfz51_0,hfz51_1,hfz51_2⟩ := impl_ScaleWide.cells3 BK255.out))
          refine bodyPost_ret (results_ct rfl _ _ gb255 28 #[.bool t264,.int .u64 t265,.int .u64 t266] (0,0) _ rfl (by (with_reducible repeat (first | refine bA ?_ _ | refine bB ?_ | refine bC ?_ _));refine blk_put (cs := #[.bool t264,.int .u64 t265,.int .u64 0]) ?_ 2 _ rfl;(with_reducible repeat (first | refine bA ?_ _ | refine bB ?_ | refine bC ?_ _));refine blk_put (cs := #[.bool t264,.int .u64 0,.int .u64 0]) ?_ 1 _ rfl;(with_reducible repeat (first | refine bA ?_ _ | refine bB ?_ | refine bC ?_ _));refine blk_put (cs := #[.bool false,.int .u64 0,.int .u64 0]) ?_ 0 _ rfl;(with_reducible repeat (first | refine bA ?_ _ | refine bB ?_ | refine bC ?_ _));exact BK255.out) Try.underlying28 rfl Z337) rfl ?_
          exact ⟨Z329,Z181⟩
        · replace c37 := Bool.eq_false_iff.mpr c37
          subst c37
          have H1 : (some (false,0,0,false)) = some (r1,r2,r3,r4) := by rw [if_neg (show ¬ (false = true) by decide)] at H;exact H
          clear H
          have H := H1
          clear H1
          simp only [Option.some.injEq,Prod.mk.injEq] at H
          obtain ⟨rfl,rfl,rfl,rfl⟩ := H
          go_enter Try.func68,Try.ntmps68
          go_wp2_with (first | ((with_reducible refine gate_dst (N := 2) rfl ?_);refine box_event ?hg (N := 2) ?hd (cs := #[.bool a0_0,.int .u64 a0_1,.int .u64 a0_2]) (t := 28) ?hr ?_;(case hd => rfl);(case hg => rfl);(case hr => exact Z334);intro gb254 hg w52 hbox hb;have n_ := jA (below_step Z404 hb) (jA (hbox) (jA ((Z296 : w.heap.size ≤ gb254)) (Aside0.mk ((Z296 : w.heap.size ≤ gb254)))));clear HB;obtain ⟨HB,BK254,GW254,GE254⟩ := n_;clear hb hbox hg) | ((with_reducible refine gate_dst (N := 4) rfl ?_);refine box_event ?hg (N := 4) ?hd (cs := #[.bool false,.int .u64 0,.int .u64 0]) (t := 28) ?hr ?_;(case hd => rfl);(case hg => rfl);(case hr => exact Z334);intro gb255 hg w53 hbox hb;have n_ := jA (blk_below (g := gb254) (o := .cells #[.bool a0_0,.int .u64 a0_1,.int .u64 a0_2] 28 (0,0)) Z408 hb) (jA (below_step Z382 hb) (jA (hbox) (jA ((Z269 : w.heap.size ≤ gb255)) (jA ((Z269 : w.heap.size ≤ gb255)) (jA ((Z218 : gb254 ≠ gb255)) (Aside0.mk ((Z219 : gb255 ≠ gb254))))))));clear BK254 HB;obtain ⟨BK254,HB,BK255,GW255,GE255,NB254_255,NB255_254⟩ := n_;clear hb hbox hg;have hnb54 := NB254_255.out;have hnc54 := NB255_254.out;obtain ⟨hcz55_0,hcz55_1,hcz55_2,hfz55_0,hfz55_1,hfz55_2⟩ := impl_ScaleWide.cells3 BK254.out) | ((with_reducible refine gate_callee (f := 31) rfl ?_);refine goesL_ (some 14) rfl rfl Try.func31 Z337 rfl #[.agg #[.bool a0_0,.int .u64 a0_1,.int .u64 a0_2]] rfl Z304 ?_;(with_reducible refine (impl_WideOk.calls a0_0 a0_1 a0_2 true _ A3.out).mono ?_);rintro e w56 ⟨rfl,hb⟩;refine ⟨_,rfl,?_⟩;have n_ := jA (blk_below (g := gb254) (o := .cells #[.bool a0_0,.int .u64 a0_1,.int .u64 a0_2] 28 (0,0)) Z408 hb) (jA (blk_below (g := gb255) (o := .cells #[.bool false,.int .u64 0,.int .u64 0] 28 (0,0)) Z417 hb) (Aside0.mk (below_step Z366 hb)));clear BK254 BK255 HB;obtain ⟨BK254,BK255,HB⟩ := n_;(try clear hb);(try clear hb2);(try clear hk);(try clear hi)) | ((with_reducible refine gate_callee (f := 78) rfl ?_);refine goesL_ (some 18) rfl rfl Try.func78 Z337 rfl #[.int .i64 a1] rfl Z304 ?_;(with_reducible refine (impl_size.calls a1 t257 _ A5.out).mono ?_);rintro e w' ⟨rfl,⟨nd,rfl⟩⟩;refine ⟨_,rfl,?_⟩;(iterate 4 (try (rw [drewN_self w56];generalize hq_ : World.drewN w56 _ = w56;have n0_ : Aside0 (w56.heap[gb254]? = some (.cells #[.bool a0_0,.int .u64 a0_1,.int .u64 a0_2] 28 (0,0))) := ⟨Z308⟩;have n1_ : Aside0 (w56.heap[gb255]? = some (.cells #[.bool false,.int .u64 0,.int .u64 0] 28 (0,0))) := ⟨Z307⟩;have n2_ : Aside0 (Below w.heap.size w w56) := ⟨Z209⟩;clear BK254 BK255 HB hq_;have BK254 := n0_;have BK255 := n1_;have HB := n2_;clear n0_ n1_ n2_)));obtain ⟨hcz57_0,hcz57_1,hcz57_2,hfz57_0,hfz57_1,hfz57_2⟩ := impl_ScaleWide.cells3 BK254.out) | ((with_reducible refine gate_callee (f := 77) rfl ?_);refine goesL_ (some 23) rfl rfl Try.func77 Z337 rfl #[.int .u64 a0_1,.int .u64 t257] rfl Z304 ?_;(with_reducible refine (bits_Mul64.calls a0_1 t257 t258 t259 _ A6.out).mono ?_);rintro e w' ⟨rfl,⟨nd,rfl⟩⟩;refine ⟨_,rfl,?_⟩;(iterate 4 (try (rw [drewN_self w56];generalize hq_ : World.drewN w56 _ = w56;have n0_ : Aside0 (w56.heap[gb254]? = some (.cells #[.bool a0_0,.int .u64 a0_1,.int .u64 a0_2] 28 (0,0))) := ⟨Z308⟩;have n1_ : Aside0 (w56.heap[gb255]? = some (.cells #[.bool false,.int .u64 0,.int .u64 0] 28 (0,0))) := ⟨Z307⟩;have n2_ : Aside0 (Below w.heap.size w w56) := ⟨Z209⟩;clear BK254 BK255 HB hq_;have BK254 := n0_;have BK255 := n1_;have HB := n2_;clear n0_ n1_ n2_)));(try (obtain ⟨hcz57_0,hcz57_1,hcz57_2,hfz57_0,hfz57_1,hfz57_2⟩ := impl_ScaleWide.cells3 BK254.out))) | ((with_reducible refine gate_callee (f := 77) rfl ?_);refine goesL_ (some 30) rfl rfl Try.func77 Z337 rfl #[.int .u64 a0_2,.int .u64 t257] rfl Z304 ?_;(with_reducible refine (bits_Mul64.calls a0_2 t257 t260 t261 _ A7.out).mono ?_);rintro e w' ⟨rfl,⟨nd,rfl⟩⟩;refine ⟨_,rfl,?_⟩;(iterate 4 (try (rw [drewN_self w56];generalize hq_ : World.drewN w56 _ = w56;have n0_ : Aside0 (w56.heap[gb254]? = some (.cells #[.bool a0_0,.int .u64 a0_1,.int .u64 a0_2] 28 (0,0))) := ⟨Z308⟩;have n1_ : Aside0 (w56.heap[gb255]? = some (.cells #[.bool false,.int .u64 0,.int .u64 0] 28 (0,0))) := ⟨Z307⟩;have n2_ : Aside0 (Below w.heap.size w w56) := ⟨Z209⟩;clear BK254 BK255 HB hq_;have BK254 := n0_;have BK255 := n1_;have HB := n2_;clear n0_ n1_ n2_)));(try (obtain ⟨hcz57_0,hcz57_1,hcz57_2,hfz57_0,hfz57_1,hfz57_2⟩ := impl_ScaleWide.cells3 BK254.out))) | (simp only [bits_Add64.run t259 t260 0 t262 t263 A8.out];(iterate 4 (try (rw [drewN_self w56];generalize hq_ : World.drewN w56 _ = w56;have n0_ : Aside0 (w56.heap[gb254]? = some (.cells #[.bool a0_0,.int .u64 a0_1,.int .u64 a0_2] 28 (0,0))) := ⟨Z308⟩;have n1_ : Aside0 (w56.heap[gb255]? = some (.cells #[.bool false,.int .u64 0,.int .u64 0] 28 (0,0))) := ⟨Z307⟩;have n2_ : Aside0 (Below w.heap.size w w56) := ⟨Z209⟩;clear BK254 BK255 HB hq_;have BK254 := n0_;have BK255 := n1_;have HB := n2_;clear n0_ n1_ n2_)));(try (obtain ⟨hcz57_0,hcz57_1,hcz57_2,hfz57_0,hfz57_1,hfz57_2⟩ := impl_ScaleWide.cells3 BK254.out))) | ((with_reducible refine gate_callee (f := 71) rfl ?_);refine goesL_ (some 46) rfl rfl Try.func71 Z337 rfl #[.bool (a0_0 != (decide (a1 < 0))),.int .u64 t262,.int .u64 t261] rfl Z304 ?_;(with_reducible refine (impl_wideOf.calls (a0_0 != (decide (a1 < 0))) t262 t261 t264 t265 t266 _ A9.out).mono ?_);rintro e w58 ⟨rfl,hb⟩;refine ⟨_,rfl,?_⟩;have n_ := jA (blk_below (g := gb254) (o := .cells #[.bool a0_0,.int .u64 a0_1,.int .u64 a0_2] 28 (0,0)) Z408 hb) (jA (blk_below (g := gb255) (o := .cells #[.bool false,.int .u64 0,.int .u64 0] 28 (0,0)) Z417 hb) (Aside0.mk (below_step Z366 hb)));clear BK254 BK255 HB;obtain ⟨BK254,BK255,HB⟩ := n_;(try clear hb);(try clear hb2);(try clear hk);(try clear hi)) | ((with_reducible refine gate_dst (N := 12) rfl ?_);refine box_event ?hg (N := 12) ?hd (cs := #[.bool false,.int .u64 0,.int .u64 0]) (t := 28) ?hr ?_;(case hd => rfl);(case hg => rfl);(case hr => exact Z334);intro gb267 hg w59 hbox hb;have n_ := jA (blk_below (g := gb254) (o := .cells #[.bool a0_0,.int .u64 a0_1,.int .u64 a0_2] 28 (0,0)) Z408 hb) (jA (blk_below (g := gb255) (o := .cells #[.bool false,.int .u64 0,.int .u64 0] 28 (0,0)) Z417 hb) (jA (below_step Z366 hb) (jA (hbox) (jA ((Z179 : w.heap.size ≤ gb267)) (jA ((Z179 : w.heap.size ≤ gb267)) (jA ((Z218 : gb254 ≠ gb267)) (jA ((Z219 : gb267 ≠ gb254)) (jA ((Z249 : gb255 ≠ gb267)) (Aside0.mk ((Z253 : gb267 ≠ gb255)))))))))));clear BK254 BK255 HB;obtain ⟨BK254,BK255,HB,BK267,GW267,GE267,NB254_267,NB267_254,NB255_267,NB267_255⟩ := n_;clear hb hbox hg;have hnb60 := NB267_254.out;have hnc60 := NB254_267.out;have hnb61 := NB267_255.out;have hnc61 := NB255_267.out;obtain ⟨hcz62_0,hcz62_1,hcz62_2,hfz62_0,hfz62_1,hfz62_2⟩ := impl_ScaleWide.cells3 BK267.out) | (go_at_call 31;(with_reducible refine (impl_WideOk.calls t264 t265 t266 false _ A36.out).mono ?_);rintro e w63 ⟨rfl,hb⟩;have n_ := jA (blk_below (g := gb254) (o := .cells #[.bool a0_0,.int .u64 a0_1,.int .u64 a0_2] 28 (0,0)) Z88 hb) (jA (blk_below (g := gb255) (o := .cells #[.bool false,.int .u64 0,.int .u64 0] 28 (0,0)) Z87 hb) (jA (blk_below (g := gb267) (o := .cells #[.bool t264,.int .u64 t265,.int .u64 t266] 28 (0,0)) Z46 hb) (Aside0.mk (below_step Z181 hb))));clear BK254 BK255 BK267 HB;obtain ⟨BK254,BK255,BK267,HB⟩ := n_;(try clear hb);(try clear hb2);(try clear hk);(try clear hi);obtain ⟨hcz64_0,hcz64_1,hcz64_2,hfz64_0,hfz64_1,hfz64_2⟩ := impl_ScaleWide.cells3 BK255.out))
          refine bodyPost_ret (results_ct rfl _ _ gb255 28 #[.bool false,.int .u64 0,.int .u64 0] (0,0) _ rfl Z53 Try.underlying28 rfl Z337) rfl ?_
          exact ⟨Z329,Z181⟩
  · replace c4 := Bool.eq_false_iff.mpr c4
    subst c4
    have H1 : (some (false,0,0,false)) = some (r1,r2,r3,r4) := by rw [if_neg (show ¬ (false = true) by decide)] at H;exact H
    clear H
    have H := H1
    clear H1
    simp only [Option.some.injEq,Prod.mk.injEq] at H
    obtain ⟨rfl,rfl,rfl,rfl⟩ := H
    go_enter Try.func68,Try.ntmps68
    go_wp2_with (first | ((with_reducible refine gate_dst (N := 2) rfl ?_);refine box_event ?hg (N := 2) ?hd (cs := #[.bool a0_0,.int .u64 a0_1,.int .u64 a0_2]) (t := 28) ?hr ?_;(case hd => rfl);(case hg => rfl);(case hr => exact Z334);intro gb254 hg w65 hbox hb;have n_ := jA (below_step Z404 hb) (jA (hbox) (jA ((Z296 : w.heap.size ≤ gb254)) (Aside0.mk ((Z296 : w.heap.size ≤ gb254)))));clear HB;obtain ⟨HB,BK254,GW254,GE254⟩ := n_;clear hb hbox hg) | ((with_reducible refine gate_dst (N := 4) rfl ?_);refine box_event ?hg (N := 4) ?hd (cs := #[.bool false,.int .u64 0,.int .u64 0]) (t := 28) ?hr ?_;(case hd => rfl);(case hg => rfl);(case hr => exact Z334);intro gb255 hg w66 hbox hb;have n_ := jA (blk_below (g := gb254) (o := .cells #[.bool a0_0,.int .u64 a0_1,.int .u64 a0_2] 28 (0,0)) Z408 hb) (jA (below_step Z382 hb) (jA (hbox) (jA ((Z269 : w.heap.size ≤ gb255)) (jA ((Z269 : w.heap.size ≤ gb255)) (jA ((Z218 : gb254 ≠ gb255)) (Aside0.mk ((Z219 : gb255 ≠ gb254))))))));clear BK254 HB;obtain ⟨BK254,HB,BK255,GW255,GE255,NB254_255,NB255_254⟩ := n_;clear hb hbox hg;have hnb67 := NB254_255.out;have hnc67 := NB255_254.out;obtain ⟨hcz68_0,hcz68_1,hcz68_2,hfz68_0,hfz68_1,hfz68_2⟩ := impl_ScaleWide.cells3 BK254.out) | ((with_reducible refine gate_callee (f := 31) rfl ?_);refine goesL_ (some 14) rfl rfl Try.func31 Z337 rfl #[.agg #[.bool a0_0,.int .u64 a0_1,.int .u64 a0_2]] rfl Z304 ?_;(with_reducible refine (impl_WideOk.calls a0_0 a0_1 a0_2 false _ A3.out).mono ?_);rintro e w69 ⟨rfl,hb⟩;refine ⟨_,rfl,?_⟩;have n_ := jA (blk_below (g := gb254) (o := .cells #[.bool a0_0,.int .u64 a0_1,.int .u64 a0_2] 28 (0,0)) Z408 hb) (jA (blk_below (g := gb255) (o := .cells #[.bool false,.int .u64 0,.int .u64 0] 28 (0,0)) Z417 hb) (Aside0.mk (below_step Z366 hb)));clear BK254 BK255 HB;obtain ⟨BK254,BK255,HB⟩ := n_;(try clear hb);(try clear hb2);(try clear hk);(try clear hi);obtain ⟨hcz70_0,hcz70_1,hcz70_2,hfz70_0,hfz70_1,hfz70_2⟩ := impl_ScaleWide.cells3 BK255.out))
    refine bodyPost_ret (results_ct rfl _ _ gb255 28 #[.bool false,.int .u64 0,.int .u64 0] (0,0) _ rfl Z53 Try.underlying28 rfl Z337) rfl ?_
    exact ⟨Z329,Z366⟩

/-! ### impl_crossed: function 48 -/
theorem impl_crossed.cells3 {w : World} {g : Nat} {t : TypeId} {a0 a1 a2 : Value} (h : w.heap[g]? = some (.cells #[a0,a1,a2] t (0,0))) : w.cell? ⟨g,0,none⟩ = some a0 ∧ w.cell? ⟨g,1,none⟩ = some a1 ∧ w.cell? ⟨g,2,none⟩ = some a2 ∧ w.frozen? ⟨g,0,none⟩ = false ∧ w.frozen? ⟨g,1,none⟩ = false ∧ w.frozen? ⟨g,2,none⟩ = false := ⟨(blk_cell h 0).trans rfl,(blk_cell h 1).trans rfl,(blk_cell h 2).trans rfl,blk_frozen h 0,blk_frozen h 1,blk_frozen h 2⟩
theorem impl_crossed.cells4 {w : World} {g : Nat} {t : TypeId} {a0 a1 a2 a3 : Value} (h : w.heap[g]? = some (.cells #[a0,a1,a2,a3] t (0,0))) : w.cell? ⟨g,0,none⟩ = some a0 ∧ w.cell? ⟨g,1,none⟩ = some a1 ∧ w.cell? ⟨g,2,none⟩ = some a2 ∧ w.cell? ⟨g,3,none⟩ = some a3 ∧ w.frozen? ⟨g,0,none⟩ = false ∧ w.frozen? ⟨g,1,none⟩ = false ∧ w.frozen? ⟨g,2,none⟩ = false ∧ w.frozen? ⟨g,3,none⟩ = false := ⟨(blk_cell h 0).trans rfl,(blk_cell h 1).trans rfl,(blk_cell h 2).trans rfl,(blk_cell h 3).trans rfl,blk_frozen h 0,blk_frozen h 1,blk_frozen h 2,blk_frozen h 3⟩
def impl_crossed.j0 : Nat → Bool → Bool → Int → Int → Int → Bool → Int → Int → Int → Option (Bool × Int × Int × Bool × Int × Int × Bool)
  | 0,_,_,_,_,_,_,_,_,_ => none
  | k + 1,x18,x270000,x270001,x270002,x270003,x271000,x271001,x271002,x271003 => if x18 = true then (some (false,0,0,false,0,0,false)) else ((impl_ScaleWide.f x270000 x270001 x270002 x271003).bind fun bt275 => ((impl_ScaleWide.f x271000 x271001 x271002 x270003).bind fun bt280 => (if bt275.2.2.2 = true then (some (bt275.1,bt275.2.1,bt275.2.2.1,bt280.1,bt280.2.1,bt280.2.2.1,bt280.2.2.2)) else (some (bt275.1,bt275.2.1,bt275.2.2.1,bt280.1,bt280.2.1,bt280.2.2.1,false)))))
def impl_crossed.f (k : Nat) (a0_0 : Bool) (a0_1 : Int) (a0_2 : Int) (a0_3 : Int) (a1_0 : Bool) (a1_1 : Int) (a1_2 : Int) (a1_3 : Int) : Option (Bool × Int × Int × Bool × Int × Int × Bool) := (impl_FracOk.f a0_0 a0_1 a0_2 a0_3).bind fun t273 => (if t273 = true then ((impl_FracOk.f a1_0 a1_1 a1_2 a1_3).bind fun t274 => (impl_crossed.j0 k (!t274) a0_0 a0_1 a0_2 a0_3 a1_0 a1_1 a1_2 a1_3)) else (impl_crossed.j0 k true a0_0 a0_1 a0_2 a0_3 a1_0 a1_1 a1_2 a1_3))
theorem impl_crossed.mono_l : ∀ k,(∀ y0 y1 y2 y3 y4 y5 y6 y7 y8,LeO (impl_crossed.j0 k y0 y1 y2 y3 y4 y5 y6 y7 y8) (impl_crossed.j0 (k + 1) y0 y1 y2 y3 y4 y5 y6 y7 y8))
  | 0 => fun _ _ _ _ _ _ _ _ _ r h => by simp [impl_crossed.j0] at h
  | k + 1 => by
    have ih0 := impl_crossed.mono_l k
    · intro y0 y1 y2 y3 y4 y5 y6 y7 y8
      unfold impl_crossed.j0
      repeat' first
      | (with_reducible exact ih0 _ _ _ _ _ _ _ _ _)
      | (with_reducible exact LeO.refl _)
      | (with_reducible exact LeO.none _)
      | (with_reducible refine LeO.ite ?_ ?_)
      | (with_reducible refine LeO.bind ?_ (fun _ => ?_))
      | exact ih0 _ _ _ _ _ _ _ _ _
      | exact LeO.none _
      | refine LeO.ite ?_ ?_
      | refine LeO.bind ?_ (fun _ => ?_)
theorem impl_crossed.mono : ∀ a0 a1 a2 a3 a4 a5 a6 a7 k,LeO (impl_crossed.f k a0 a1 a2 a3 a4 a5 a6 a7) (impl_crossed.f (k + 1) a0 a1 a2 a3 a4 a5 a6 a7) := by
  intro a0 a1 a2 a3 a4 a5 a6 a7 k
  have ih0 := impl_crossed.mono_l k
  unfold impl_crossed.f
  repeat' first
      | (with_reducible exact ih0 _ _ _ _ _ _ _ _ _)
      | (with_reducible exact LeO.refl _)
      | (with_reducible exact LeO.none _)
      | (with_reducible refine LeO.ite ?_ ?_)
      | (with_reducible refine LeO.bind ?_ (fun _ => ?_))
      | exact ih0 _ _ _ _ _ _ _ _ _
      | exact LeO.none _
      | refine LeO.ite ?_ ?_
      | refine LeO.bind ?_ (fun _ => ?_)
def impl_crossed.T5 : Bool × List (List Nat × List Nat) := (true,[([],[]),([],[]),([],[]),([2],[2]),([3],[3]),([3,4],[3,4]),([0,3,0],[0]),([1,6,0,1,6],[1]),([5,7,0,1,2,3,4,5,6,7],[5])])
def impl_crossed.B5 : List Nat := [0,0,0,4,12,28,13,79,255]
theorem impl_crossed.tab5 : rtab .any (opsOf Try.f48 5) = impl_crossed.T5 := by kernel_rfl
theorem impl_crossed.bits5 : waitsOk impl_crossed.T5.2 impl_crossed.B5 = true := by kernel_rfl
set_option maxHeartbeats 8000000 in
set_option maxRecDepth 100000 in
theorem impl_crossed.calls (k : Nat) (a0_0 : Bool) (a0_1 : Int) (a0_2 : Int) (a0_3 : Int) (a1_0 : Bool) (a1_1 : Int) (a1_2 : Int) (a1_3 : Int) (r1 : Bool) (r2 : Int) (r3 : Int) (r4 : Bool) (r5 : Int) (r6 : Int) (r7 : Bool) (w : World) (h : impl_crossed.f k a0_0 a0_1 a0_2 a0_3 a1_0 a1_1 a1_2 a1_3 = some (r1,r2,r3,r4,r5,r6,r7)) :
    Calls Try.prog 48 #[.agg #[.bool a0_0,.int .u64 a0_1,.int .u64 a0_2,.int .i64 a0_3],.agg #[.bool a1_0,.int .u64 a1_1,.int .u64 a1_2,.int .i64 a1_3]] w fun e w' => e = .returned (.tuple #[.agg #[.bool r1,.int .u64 r2,.int .u64 r3],.agg #[.bool r4,.int .u64 r5,.int .u64 r6],.bool r7]) ∧ Below w.heap.size w w' := by
  have hu30 := Try.underlying30
  have hu28 := Try.underlying28
  have HB := Aside0.mk (Below.refl w.heap.size w)
  have H : ((impl_FracOk.f a0_0 a0_1 a0_2 a0_3).bind fun t273 => (if t273 = true then ((impl_FracOk.f a1_0 a1_1 a1_2 a1_3).bind fun t274 => (impl_crossed.j0 k (!t274) a0_0 a0_1 a0_2 a0_3 a1_0 a1_1 a1_2 a1_3)) else (impl_crossed.j0 k true a0_0 a0_1 a0_2 a0_3 a1_0 a1_1 a1_2 a1_3))) = some (r1,r2,r3,r4,r5,r6,r7) := h
  clear h
  have HC3 := Aside0.mk H
  clear H
  go_enter Try.func48,Try.ntmps48
  go_upto_region 1 with (first | ((with_reducible refine gate_dst (N := 2) rfl ?_);refine box_event ?hg (N := 2) ?hd (cs := #[.bool a0_0,.int .u64 a0_1,.int .u64 a0_2,.int .i64 a0_3]) (t := 30) ?hr ?_;(case hd => rfl);(case hg => rfl);(case hr => exact Z334);intro gb269 hg w4 hbox hb;have n_ := jA (below_step Z404 hb) (jA (hbox) (jA ((Z296 : w.heap.size ≤ gb269)) (Aside0.mk ((Z296 : w.heap.size ≤ gb269)))));clear HB;obtain ⟨HB,BK269,GW269,GE269⟩ := n_;clear hb hbox hg) | ((with_reducible refine gate_dst (N := 3) rfl ?_);refine box_event ?hg (N := 3) ?hd (cs := #[.bool a1_0,.int .u64 a1_1,.int .u64 a1_2,.int .i64 a1_3]) (t := 30) ?hr ?_;(case hd => rfl);(case hg => rfl);(case hr => exact Z334);intro gb270 hg w5 hbox hb;have n_ := jA (blk_below (g := gb269) (o := .cells #[.bool a0_0,.int .u64 a0_1,.int .u64 a0_2,.int .i64 a0_3] 30 (0,0)) Z419 hb) (jA (below_step Z398 hb) (jA (hbox) (jA ((Z288 : w.heap.size ≤ gb270)) (jA ((Z288 : w.heap.size ≤ gb270)) (jA ((Z163 : gb269 ≠ gb270)) (Aside0.mk ((Z165 : gb270 ≠ gb269))))))));clear BK269 HB;obtain ⟨BK269,HB,BK270,GW270,GE270,NB269_270,NB270_269⟩ := n_;clear hb hbox hg) | ((with_reducible refine gate_dst (N := 4) rfl ?_);refine box_event ?hg (N := 4) ?hd (cs := #[.bool false,.int .u64 0,.int .u64 0]) (t := 28) ?hr ?_;(case hd => rfl);(case hg => rfl);(case hr => exact Z334);intro gb271 hg w6 hbox hb;have n_ := jA (blk_below (g := gb269) (o := .cells #[.bool a0_0,.int .u64 a0_1,.int .u64 a0_2,.int .i64 a0_3] 30 (0,0)) Z419 hb) (jA (blk_below (g := gb270) (o := .cells #[.bool a1_0,.int .u64 a1_1,.int .u64 a1_2,.int .i64 a1_3] 30 (0,0)) Z422 hb) (jA (below_step Z376 hb) (jA (hbox) (jA ((Z191 : w.heap.size ≤ gb271)) (jA ((Z191 : w.heap.size ≤ gb271)) (jA ((Z163 : gb269 ≠ gb271)) (jA ((Z165 : gb271 ≠ gb269)) (jA ((Z167 : gb270 ≠ gb271)) (Aside0.mk ((Z169 : gb271 ≠ gb270)))))))))));clear BK269 BK270 HB;obtain ⟨BK269,BK270,HB,BK271,GW271,GE271,NB269_271,NB271_269,NB270_271,NB271_270⟩ := n_;clear hb hbox hg) | ((with_reducible refine gate_dst (N := 5) rfl ?_);refine box_event ?hg (N := 5) ?hd (cs := #[.bool false,.int .u64 0,.int .u64 0]) (t := 28) ?hr ?_;(case hd => rfl);(case hg => rfl);(case hr => exact Z334);intro gb272 hg w7 hbox hb;have n_ := jA (blk_below (g := gb269) (o := .cells #[.bool a0_0,.int .u64 a0_1,.int .u64 a0_2,.int .i64 a0_3] 30 (0,0)) Z419 hb) (jA (blk_below (g := gb270) (o := .cells #[.bool a1_0,.int .u64 a1_1,.int .u64 a1_2,.int .i64 a1_3] 30 (0,0)) Z422 hb) (jA (blk_below (g := gb271) (o := .cells #[.bool false,.int .u64 0,.int .u64 0] 28 (0,0)) Z426 hb) (jA (below_step Z363 hb) (jA (hbox) (jA ((Z148 : w.heap.size ≤ gb272)) (jA ((Z148 : w.heap.size ≤ gb272)) (jA ((Z163 : gb269 ≠ gb272)) (jA ((Z165 : gb272 ≠ gb269)) (jA ((Z167 : gb270 ≠ gb272)) (jA ((Z169 : gb272 ≠ gb270)) (jA ((Z244 : gb271 ≠ gb272)) (Aside0.mk ((Z246 : gb272 ≠ gb271))))))))))))));clear BK269 BK270 BK271 HB;obtain ⟨BK269,BK270,BK271,HB,BK272,GW272,GE272,NB269_272,NB272_269,NB270_272,NB272_270,NB271_272,NB272_271⟩ := n_;clear hb hbox hg))
  (try simp only [Act.put,List.setIfInBounds_toArray,List.set_cons_zero,List.set_cons_succ])
  go_cut [18] (fun v18 wc => ∃ (kq : Nat) (x18_2 : Bool),v18 = .bool x18_2 ∧ Aside0 (impl_crossed.j0 kq x18_2 a0_0 a0_1 a0_2 a0_3 a1_0 a1_1 a1_2 a1_3 = some (r1,r2,r3,r4,r5,r6,r7)) ∧ Aside0 (kq ≤ k) ∧ Aside0 (wc.heap[gb269]? = some (.cells #[.bool a0_0,.int .u64 a0_1,.int .u64 a0_2,.int .i64 a0_3] 30 (0,0))) ∧ Aside0 (wc.heap[gb270]? = some (.cells #[.bool a1_0,.int .u64 a1_1,.int .u64 a1_2,.int .i64 a1_3] 30 (0,0))) ∧ Aside0 (wc.heap[gb271]? = some (.cells #[.bool false,.int .u64 0,.int .u64 0] 28 (0,0))) ∧ Aside0 (wc.heap[gb272]? = some (.cells #[.bool false,.int .u64 0,.int .u64 0] 28 (0,0))) ∧ Aside0 (Below w.heap.size w wc))
  case first =>
    have H := HC3.out
    clear HC3
    obtain ⟨t273,A80,H⟩ := Option.bind_eq_some_iff.mp H
    have A8 := Aside0.mk A80
    clear A80
    by_cases c9 : t273 = true
    · subst c9
      have H1 : ((impl_FracOk.f a1_0 a1_1 a1_2 a1_3).bind fun t274 => (impl_crossed.j0 k (!t274) a0_0 a0_1 a0_2 a0_3 a1_0 a1_1 a1_2 a1_3)) = some (r1,r2,r3,r4,r5,r6,r7) := by rw [if_pos rfl] at H;exact H
      clear H
      have H := H1
      clear H1
      obtain ⟨t274,A100,H⟩ := Option.bind_eq_some_iff.mp H
      have A10 := Aside0.mk A100
      clear A100
      have H' := Aside0.mk H
      clear H
      have hnb11 := NB269_270.out
      have hnc11 := NB270_269.out
      have hnb12 := NB269_271.out
      have hnc12 := NB271_269.out
      have hnb13 := NB269_272.out
      have hnc13 := NB272_269.out
      obtain ⟨hcz14_0,hcz14_1,hcz14_2,hcz14_3,hfz14_0,hfz14_1,hfz14_2,hfz14_3⟩ := impl_crossed.cells4 BK269.out
      go_wp2_with (first | ((with_reducible refine gate_callee (f := 15) rfl ?_);refine goesL_ (some 12) rfl rfl Try.func15 Z337 rfl #[.agg #[.bool a0_0,.int .u64 a0_1,.int .u64 a0_2,.int .i64 a0_3]] rfl Z304 ?_;(with_reducible refine (impl_FracOk.calls a0_0 a0_1 a0_2 a0_3 true _ A8.out).mono ?_);rintro e w15 ⟨rfl,hb⟩;refine ⟨_,rfl,?_⟩;have n_ := jA (blk_below (g := gb269) (o := .cells #[.bool a0_0,.int .u64 a0_1,.int .u64 a0_2,.int .i64 a0_3] 30 (0,0)) Z419 hb) (jA (blk_below (g := gb270) (o := .cells #[.bool a1_0,.int .u64 a1_1,.int .u64 a1_2,.int .i64 a1_3] 30 (0,0)) Z422 hb) (jA (blk_below (g := gb271) (o := .cells #[.bool false,.int .u64 0,.int .u64 0] 28 (0,0)) Z426 hb) (jA (blk_below (g := gb272) (o := .cells #[.bool false,.int .u64 0,.int .u64 0] 28 (0,0)) Z429 hb) (Aside0.mk (below_step Z352 hb)))));clear BK269 BK270 BK271 BK272 HB;obtain ⟨BK269,BK270,BK271,BK272,HB⟩ := n_;(try clear hb);(try clear hb2);(try clear hk);(try clear hi);have hnb16 := NB270_271.out;have hnc16 := NB271_270.out;have hnb17 := NB270_272.out;have hnc17 := NB272_270.out;obtain ⟨hcz18_0,hcz18_1,hcz18_2,hcz18_3,hfz18_0,hfz18_1,hfz18_2,hfz18_3⟩ := impl_crossed.cells4 BK270.out) | (go_at_call 15;(with_reducible refine (impl_FracOk.calls a1_0 a1_1 a1_2 a1_3 t274 _ A10.out).mono ?_);rintro e w19 ⟨rfl,hb⟩;have n_ := jA (blk_below (g := gb269) (o := .cells #[.bool a0_0,.int .u64 a0_1,.int .u64 a0_2,.int .i64 a0_3] 30 (0,0)) Z419 hb) (jA (blk_below (g := gb270) (o := .cells #[.bool a1_0,.int .u64 a1_1,.int .u64 a1_2,.int .i64 a1_3] 30 (0,0)) Z422 hb) (jA (blk_below (g := gb271) (o := .cells #[.bool false,.int .u64 0,.int .u64 0] 28 (0,0)) Z426 hb) (jA (blk_below (g := gb272) (o := .cells #[.bool false,.int .u64 0,.int .u64 0] 28 (0,0)) Z429 hb) (Aside0.mk (below_step Z352 hb)))));clear BK269 BK270 BK271 BK272 HB;obtain ⟨BK269,BK270,BK271,BK272,HB⟩ := n_;(try clear hb);(try clear hb2);(try clear hk);(try clear hi)))
      go_meet
      case rel => exact ⟨_,(!t274),Z333,H',⟨Z335⟩,⟨Z419⟩,⟨Z422⟩,⟨Z426⟩,⟨Z429⟩,⟨Z352⟩⟩
    · replace c9 := Bool.eq_false_iff.mpr c9
      subst c9
      have H1 : (impl_crossed.j0 k true a0_0 a0_1 a0_2 a0_3 a1_0 a1_1 a1_2 a1_3) = some (r1,r2,r3,r4,r5,r6,r7) := by rw [if_neg (show ¬ (false = true) by decide)] at H;exact H
      clear H
      have H := H1
      clear H1
      have H' := Aside0.mk H
      clear H
      have hnb20 := NB269_270.out
      have hnc20 := NB270_269.out
      have hnb21 := NB269_271.out
      have hnc21 := NB271_269.out
      have hnb22 := NB269_272.out
      have hnc22 := NB272_269.out
      obtain ⟨hcz23_0,hcz23_1,hcz23_2,hcz23_3,hfz23_0,hfz23_1,hfz23_2,hfz23_3⟩ := impl_crossed.cells4 BK269.out
      go_wp2_with (first | ((with_reducible refine gate_callee (f := 15) rfl ?_);refine goesL_ (some 12) rfl rfl Try.func15 Z337 rfl #[.agg #[.bool a0_0,.int .u64 a0_1,.int .u64 a0_2,.int .i64 a0_3]] rfl Z304 ?_;(with_reducible refine (impl_FracOk.calls a0_0 a0_1 a0_2 a0_3 false _ A8.out).mono ?_);rintro e w24 ⟨rfl,hb⟩;refine ⟨_,rfl,?_⟩;have n_ := jA (blk_below (g := gb269) (o := .cells #[.bool a0_0,.int .u64 a0_1,.int .u64 a0_2,.int .i64 a0_3] 30 (0,0)) Z419 hb) (jA (blk_below (g := gb270) (o := .cells #[.bool a1_0,.int .u64 a1_1,.int .u64 a1_2,.int .i64 a1_3] 30 (0,0)) Z422 hb) (jA (blk_below (g := gb271) (o := .cells #[.bool false,.int .u64 0,.int .u64 0] 28 (0,0)) Z426 hb) (jA (blk_below (g := gb272) (o := .cells #[.bool false,.int .u64 0,.int .u64 0] 28 (0,0)) Z429 hb) (Aside0.mk (below_step Z352 hb)))));clear BK269 BK270 BK271 BK272 HB;obtain ⟨BK269,BK270,BK271,BK272,HB⟩ := n_;(try clear hb);(try clear hb2);(try clear hk);(try clear hi)))
      go_meet
      case rel => exact ⟨_,(true),Z333,H',⟨Z335⟩,⟨Z419⟩,⟨Z422⟩,⟨Z426⟩,⟨Z429⟩,⟨Z352⟩⟩
  case rest =>
    clear HC3
    try clear c1
    try clear c2
    try clear p2
    try clear c4
    try clear c9
    try clear c11
    try clear c12
    try clear c13
    try clear c15
    try clear c16
    try clear c17
    try clear c20
    try clear c21
    try clear c22
    try clear hcz14_0
    try clear hcz14_1
    try clear hcz14_2
    try clear hcz14_3
    try clear hcz18_0
    try clear hcz18_1
    try clear hcz18_2
    try clear hcz18_3
    try clear hcz23_0
    try clear hcz23_1
    try clear hcz23_2
    try clear hcz23_3
    try clear hfz14_0
    try clear hfz14_1
    try clear hfz14_2
    try clear hfz14_3
    try clear hfz18_0
    try clear hfz18_1
    try clear hfz18_2
    try clear hfz18_3
    try clear hfz23_0
    try clear hfz23_1
    try clear hfz23_2
    try clear hfz23_3
    obtain ⟨kq,x18_2,rfl,HA,HJ2,BK269,BK270,BK271,BK272,HB⟩ := hcut
    cases kq with
    | zero => exact absurd HA.out (by simp [impl_crossed.j0])
    | succ kj2 =>
      have H := HA.out
      clear HA
      simp only [impl_crossed.j0] at H
      by_cases c25 : x18_2 = true
      · subst c25
        have H1 : (some (false,0,0,false,0,0,false)) = some (r1,r2,r3,r4,r5,r6,r7) := by rw [if_pos rfl] at H;exact H
        clear H
        have H := H1
        clear H1
        simp only [Option.some.injEq,Prod.mk.injEq] at H
        obtain ⟨rfl,rfl,rfl,rfl,rfl,rfl,rfl⟩ := H
        have hnb26 := NB271_269.out
        have hnc26 := NB269_271.out
        have hnb27 := NB271_270.out
        have hnc27 := NB270_271.out
        have hnb28 := NB271_272.out
        have hnc28 := NB272_271.out
        obtain ⟨hcz29_0,hcz29_1,hcz29_2,hfz29_0,hfz29_1,hfz29_2⟩ := impl_crossed.cells3 BK271.out
        have hnb30 := NB272_269.out
        have hnc30 := NB269_272.out
        have hnb31 := NB272_270.out
        have hnc31 := NB270_272.out
        obtain ⟨hcz32_0,hcz32_1,hcz32_2,hfz32_0,hfz32_1,hfz32_2⟩ := impl_crossed.cells3 BK272.out
        go_wp2
        refine bodyPost_ret (results_list (rs := [.cell 4 28,.cell 5 28,.tmp 6]) rfl (by simp) (.cell gb271 28 #[.bool false,.int .u64 0,.int .u64 0] (0,0) _ rfl (by (with_reducible repeat (first | refine bA ?_ _ | refine bB ?_ | refine bC ?_ _));refine blk_far ?_ NB271_272.out _;(with_reducible repeat (first | refine bA ?_ _ | refine bB ?_ | refine bC ?_ _));refine blk_far ?_ NB271_272.out _;(with_reducible repeat (first | refine bA ?_ _ | refine bB ?_ | refine bC ?_ _));refine blk_far ?_ NB271_272.out _;(with_reducible repeat (first | refine bA ?_ _ | refine bB ?_ | refine bC ?_ _));refine blk_put (cs := #[.bool false,.int .u64 0,.int .u64 0]) ?_ 2 _ rfl;(with_reducible repeat (first | refine bA ?_ _ | refine bB ?_ | refine bC ?_ _));refine blk_put (cs := #[.bool false,.int .u64 0,.int .u64 0]) ?_ 1 _ rfl;(with_reducible repeat (first | refine bA ?_ _ | refine bB ?_ | refine bC ?_ _));refine blk_put (cs := #[.bool false,.int .u64 0,.int .u64 0]) ?_ 0 _ rfl;(with_reducible repeat (first | refine bA ?_ _ | refine bB ?_ | refine bC ?_ _));exact BK271.out) Try.underlying28 rfl Z337 (.cell gb272 28 #[.bool false,.int .u64 0,.int .u64 0] (0,0) _ rfl (by (with_reducible repeat (first | refine bA ?_ _ | refine bB ?_ | refine bC ?_ _));refine blk_put (cs := #[.bool false,.int .u64 0,.int .u64 0]) ?_ 2 _ rfl;(with_reducible repeat (first | refine bA ?_ _ | refine bB ?_ | refine bC ?_ _));refine blk_put (cs := #[.bool false,.int .u64 0,.int .u64 0]) ?_ 1 _ rfl;(with_reducible repeat (first | refine bA ?_ _ | refine bB ?_ | refine bC ?_ _));refine blk_put (cs := #[.bool false,.int .u64 0,.int .u64 0]) ?_ 0 _ rfl;(with_reducible repeat (first | refine bA ?_ _ | refine bB ?_ | refine bC ?_ _));refine blk_far ?_ NB272_271.out _;(with_reducible repeat (first | refine bA ?_ _ | refine bB ?_ | refine bC ?_ _));refine blk_far ?_ NB272_271.out _;(with_reducible repeat (first | refine bA ?_ _ | refine bB ?_ | refine bC ?_ _));refine blk_far ?_ NB272_271.out _;(with_reducible repeat (first | refine bA ?_ _ | refine bB ?_ | refine bC ?_ _));exact BK272.out) Try.underlying28 rfl Z337 (.tmp .nil)))) rfl ?_
        exact ⟨Z329,Z352⟩
      · replace c25 := Bool.eq_false_iff.mpr c25
        subst c25
        have H1 : ((impl_ScaleWide.f a0_0 a0_1 a0_2 a1_3).bind fun bt275 => ((impl_ScaleWide.f a1_0 a1_1 a1_2 a0_3).bind fun bt280 => (if bt275.2.2.2 = true then (some (bt275.1,bt275.2.1,bt275.2.2.1,bt280.1,bt280.2.1,bt280.2.2.1,bt280.2.2.2)) else (some (bt275.1,bt275.2.1,bt275.2.2.1,bt280.1,bt280.2.1,bt280.2.2.1,false))))) = some (r1,r2,r3,r4,r5,r6,r7) := by rw [if_neg (show ¬ (false = true) by decide)] at H;exact H
        clear H
        have H := H1
        clear H1
        obtain ⟨⟨t275,t276,t277,t278⟩,A330,H⟩ := Option.bind_eq_some_iff.mp H
        try dsimp only at H
        have A33 := Aside0.mk A330
        clear A330
        obtain ⟨⟨t280,t281,t282,t283⟩,A340,H⟩ := Option.bind_eq_some_iff.mp H
        try dsimp only at H
        have A34 := Aside0.mk A340
        clear A340
        by_cases c35 : t278 = true
        · subst c35
          have H1 : (some (t275,t276,t277,t280,t281,t282,t283)) = some (r1,r2,r3,r4,r5,r6,r7) := by rw [if_pos rfl] at H;exact H
          clear H
          have H := H1
          clear H1
          simp only [Option.some.injEq,Prod.mk.injEq] at H
          obtain ⟨rfl,rfl,rfl,rfl,rfl,rfl,rfl⟩ := H
          have hnb36 := NB269_270.out
          have hnc36 := NB270_269.out
          have hnb37 := NB269_271.out
          have hnc37 := NB271_269.out
          have hnb38 := NB269_272.out
          have hnc38 := NB272_269.out
          obtain ⟨hcz39_0,hcz39_1,hcz39_2,hcz39_3,hfz39_0,hfz39_1,hfz39_2,hfz39_3⟩ := impl_crossed.cells4 BK269.out
          have hnb40 := NB270_271.out
          have hnc40 := NB271_270.out
          have hnb41 := NB270_272.out
          have hnc41 := NB272_270.out
          obtain ⟨hcz42_0,hcz42_1,hcz42_2,hcz42_3,hfz42_0,hfz42_1,hfz42_2,hfz42_3⟩ := impl_crossed.cells4 BK270.out
          try go_wp2_with (first | ((with_reducible refine gate_callee (f := 68) rfl ?_);refine goesL_ (some 26) rfl rfl Try.func68 Z337 rfl #[.agg #[.bool a0_0,.int .u64 a0_1,.int .u64 a0_2],.int .i64 a1_3] rfl Z304 ?_;(with_reducible refine (impl_ScaleWide.calls a0_0 a0_1 a0_2 a1_3 t275 t276 t277 true _ A33.out).mono ?_);rintro e w43 ⟨rfl,hb⟩;refine ⟨_,rfl,?_⟩;have n_ := jA (blk_below (g := gb269) (o := .cells #[.bool a0_0,.int .u64 a0_1,.int .u64 a0_2,.int .i64 a0_3] 30 (0,0)) Z419 hb) (jA (blk_below (g := gb270) (o := .cells #[.bool a1_0,.int .u64 a1_1,.int .u64 a1_2,.int .i64 a1_3] 30 (0,0)) Z422 hb) (jA (blk_below (g := gb271) (o := .cells #[.bool false,.int .u64 0,.int .u64 0] 28 (0,0)) Z426 hb) (jA (blk_below (g := gb272) (o := .cells #[.bool false,.int .u64 0,.int .u64 0] 28 (0,0)) Z429 hb) (Aside0.mk (below_step Z352 hb)))));clear BK269 BK270 BK271 BK272 HB;obtain ⟨BK269,BK270,BK271,BK272,HB⟩ := n_;(try clear hb);(try clear hb2);(try clear hk);(try clear hi)) | ((with_reducible refine gate_dst (N := 7) rfl ?_);refine box_event ?hg (N := 7) ?hd (cs := #[.bool false,.int .u64 0,.int .u64 0]) (t := 28) ?hr ?_;(case hd => rfl);(case hg => rfl);(case hr => exact Z334);intro gb279 hg w44 hbox hb;have n_ := jA (blk_below (g := gb269) (o := .cells #[.bool a0_0,.int .u64 a0_1,.int .u64 a0_2,.int .i64 a0_3] 30 (0,0)) Z419 hb) (jA (blk_below (g := gb270) (o := .cells #[.bool a1_0,.int .u64 a1_1,.int .u64 a1_2,.int .i64 a1_3] 30 (0,0)) Z422 hb) (jA (blk_below (g := gb271) (o := .cells #[.bool false,.int .u64 0,.int .u64 0] 28 (0,0)) Z426 hb) (jA (blk_below (g := gb272) (o := .cells #[.bool false,.int .u64 0,.int .u64 0] 28 (0,0)) Z429 hb) (jA (below_step Z352 hb) (jA (hbox) (jA ((Z127 : w.heap.size ≤ gb279)) (jA ((Z127 : w.heap.size ≤ gb279)) (jA ((Z163 : gb269 ≠ gb279)) (jA ((Z165 : gb279 ≠ gb269)) (jA ((Z167 : gb270 ≠ gb279)) (jA ((Z169 : gb279 ≠ gb270)) (jA ((Z244 : gb271 ≠ gb279)) (jA ((Z246 : gb279 ≠ gb271)) (jA ((Z248 : gb272 ≠ gb279)) (Aside0.mk ((Z252 : gb279 ≠ gb272)))))))))))))))));clear BK269 BK270 BK271 BK272 HB;obtain ⟨BK269,BK270,BK271,BK272,HB,BK279,GW279,GE279,NB269_279,NB279_269,NB270_279,NB279_270,NB271_279,NB279_271,NB272_279,NB279_272⟩ := n_;clear hb hbox hg;have hnb45 := NB279_269.out;have hnc45 := NB269_279.out;have hnb46 := NB279_270.out;have hnc46 := NB270_279.out;have hnb47 := NB279_271.out;have hnc47 := NB271_279.out;have hnb48 := NB279_272.out;have hnc48 := NB272_279.out;obtain ⟨hcz49_0,hcz49_1,hcz49_2,hfz49_0,hfz49_1,hfz49_2⟩ := impl_crossed.cells3 BK279.out;obtain ⟨hcz50_0,hcz50_1,hcz50_2,hcz50_3,hfz50_0,hfz50_1,hfz50_2,hfz50_3⟩ := impl_crossed.cells4 BK270.out;obtain ⟨hcz51_0,hcz51_1,hcz51_2,hcz51_3,hfz51_0,hfz51_1,hfz51_2,hfz51_3⟩ := impl_crossed.cells4 BK269.out) | ((with_reducible refine gate_callee (f := 68) rfl ?_);refine goesL_ (some 34) rfl rfl Try.func68 Z337 rfl #[.agg #[.bool a1_0,.int .u64 a1_1,.int .u64 a1_2],.int .i64 a0_3] rfl Z304 ?_;(with_reducible refine (impl_ScaleWide.calls a1_0 a1_1 a1_2 a0_3 t280 t281 t282 t283 _ A34.out).mono ?_);rintro e w52 ⟨rfl,hb⟩;refine ⟨_,rfl,?_⟩;have n_ := jA (blk_below (g := gb269) (o := .cells #[.bool a0_0,.int .u64 a0_1,.int .u64 a0_2,.int .i64 a0_3] 30 (0,0)) Z86 hb) (jA (blk_below (g := gb270) (o := .cells #[.bool a1_0,.int .u64 a1_1,.int .u64 a1_2,.int .i64 a1_3] 30 (0,0)) Z85 hb) (jA (blk_below (g := gb271) (o := .cells #[.bool false,.int .u64 0,.int .u64 0] 28 (0,0)) Z84 hb) (jA (blk_below (g := gb272) (o := .cells #[.bool false,.int .u64 0,.int .u64 0] 28 (0,0)) Z83 hb) (jA (blk_below (g := gb279) (o := .cells #[.bool t275,.int .u64 t276,.int .u64 t277] 28 (0,0)) Z45 hb) (Aside0.mk (below_step Z350 hb))))));clear BK269 BK270 BK271 BK272 BK279 HB;obtain ⟨BK269,BK270,BK271,BK272,BK279,HB⟩ := n_;(try clear hb);(try clear hb2);(try clear hk);(try clear hi)) | ((with_reducible refine gate_dst (N := 9) rfl ?_);refine box_event ?hg (N := 9) ?hd (cs := #[.bool false,.int .u64 0,.int .u64 0]) (t := 28) ?hr ?_;(case hd => rfl);(case hg => rfl);(case hr => exact Z334);intro gb284 hg w53 hbox hb;have n_ := jA (blk_below (g := gb269) (o := .cells #[.bool a0_0,.int .u64 a0_1,.int .u64 a0_2,.int .i64 a0_3] 30 (0,0)) Z419 hb) (jA (blk_below (g := gb270) (o := .cells #[.bool a1_0,.int .u64 a1_1,.int .u64 a1_2,.int .i64 a1_3] 30 (0,0)) Z422 hb) (jA (blk_below (g := gb271) (o := .cells #[.bool false,.int .u64 0,.int .u64 0] 28 (0,0)) Z426 hb) (jA (blk_below (g := gb272) (o := .cells #[.bool false,.int .u64 0,.int .u64 0] 28 (0,0)) Z429 hb) (jA (blk_below (g := gb279) (o := .cells #[.bool t275,.int .u64 t276,.int .u64 t277] 28 (0,0)) Z448 hb) (jA (below_step Z350 hb) (jA (hbox) (jA ((Z119 : w.heap.size ≤ gb284)) (jA ((Z119 : w.heap.size ≤ gb284)) (jA ((Z163 : gb269 ≠ gb284)) (jA ((Z165 : gb284 ≠ gb269)) (jA ((Z167 : gb270 ≠ gb284)) (jA ((Z169 : gb284 ≠ gb270)) (jA ((Z244 : gb271 ≠ gb284)) (jA ((Z246 : gb284 ≠ gb271)) (jA ((Z248 : gb272 ≠ gb284)) (jA ((Z252 : gb284 ≠ gb272)) (jA ((Z234 : gb279 ≠ gb284)) (Aside0.mk ((Z238 : gb284 ≠ gb279))))))))))))))))))));clear BK269 BK270 BK271 BK272 BK279 HB;obtain ⟨BK269,BK270,BK271,BK272,BK279,HB,BK284,GW284,GE284,NB269_284,NB284_269,NB270_284,NB284_270,NB271_284,NB284_271,NB272_284,NB284_272,NB279_284,NB284_279⟩ := n_;clear hb hbox hg;have hnb54 := NB284_269.out;have hnc54 := NB269_284.out;have hnb55 := NB284_270.out;have hnc55 := NB270_284.out;have hnb56 := NB284_271.out;have hnc56 := NB271_284.out;have hnb57 := NB284_272.out;have hnc57 := NB272_284.out;have hnb58 := NB284_279.out;have hnc58 := NB279_284.out;obtain ⟨hcz59_0,hcz59_1,hcz59_2,hfz59_0,hfz59_1,hfz59_2⟩ := impl_crossed.cells3 BK284.out))
          have n0_ : Aside0 ((((w53.setCell ⟨gb284,0,none⟩ (.bool t280)).setCell ⟨gb284,1,none⟩ (.int .u64 t281)).setCell ⟨gb284,2,none⟩ (.int .u64 t282)).heap[gb269]? = some (.cells #[.bool a0_0,.int .u64 a0_1,.int .u64 a0_2,.int .i64 a0_3] 30 (0,0))) := ⟨Z105⟩
          have n1_ : Aside0 ((((w53.setCell ⟨gb284,0,none⟩ (.bool t280)).setCell ⟨gb284,1,none⟩ (.int .u64 t281)).setCell ⟨gb284,2,none⟩ (.int .u64 t282)).heap[gb270]? = some (.cells #[.bool a1_0,.int .u64 a1_1,.int .u64 a1_2,.int .i64 a1_3] 30 (0,0))) := ⟨Z104⟩
          have n2_ : Aside0 ((((w53.setCell ⟨gb284,0,none⟩ (.bool t280)).setCell ⟨gb284,1,none⟩ (.int .u64 t281)).setCell ⟨gb284,2,none⟩ (.int .u64 t282)).heap[gb271]? = some (.cells #[.bool false,.int .u64 0,.int .u64 0] 28 (0,0))) := ⟨Z103⟩
          have n3_ : Aside0 ((((w53.setCell ⟨gb284,0,none⟩ (.bool t280)).setCell ⟨gb284,1,none⟩ (.int .u64 t281)).setCell ⟨gb284,2,none⟩ (.int .u64 t282)).heap[gb272]? = some (.cells #[.bool false,.int .u64 0,.int .u64 0] 28 (0,0))) := ⟨Z102⟩
          have n4_ : Aside0 ((((w53.setCell ⟨gb284,0,none⟩ (.bool t280)).setCell ⟨gb284,1,none⟩ (.int .u64 t281)).setCell ⟨gb284,2,none⟩ (.int .u64 t282)).heap[gb279]? = some (.cells #[.bool t275,.int .u64 t276,.int .u64 t277] 28 (0,0))) := ⟨Z101⟩
          have n5_ : Aside0 ((((w53.setCell ⟨gb284,0,none⟩ (.bool t280)).setCell ⟨gb284,1,none⟩ (.int .u64 t281)).setCell ⟨gb284,2,none⟩ (.int .u64 t282)).heap[gb284]? = some (.cells #[.bool t280,.int .u64 t281,.int .u64 t282] 28 (0,0))) := ⟨Z48⟩
          have n6_ : Aside0 (Below w.heap.size w (((w53.setCell ⟨gb284,0,none⟩ (.bool t280)).setCell ⟨gb284,1,none⟩ (.int .u64 t281)).setCell ⟨gb284,2,none⟩ (.int .u64 t282))) := ⟨Z121⟩
          (try clear BK269)
          (try clear BK270)
          (try clear BK271)
          (try clear BK272)
          (try clear BK279)
          (try clear BK284)
          (try clear HB)
          generalize (((w53.setCell ⟨gb284,0,none⟩ (.bool t280)).setCell ⟨gb284,1,none⟩ (.int .u64 t281)).setCell ⟨gb284,2,none⟩ (.int .u64 t282)) = w60 at n0_ n1_ n2_ n3_ n4_ n5_ n6_ ⊢
          have BK269 := n0_
          have BK270 := n1_
          have BK271 := n2_
          have BK272 := n3_
          have BK279 := n4_
          have BK284 := n5_
          have HB := n6_
          clear n0_ n1_ n2_ n3_ n4_ n5_ n6_
          have n0_ := Aside0.mk (blk_drew BK269.out)
          have n1_ := Aside0.mk (blk_drew BK270.out)
          have n2_ := Aside0.mk (blk_drew BK271.out)
          have n3_ := Aside0.mk (blk_drew BK272.out)
          have n4_ := Aside0.mk (blk_drew BK279.out)
          have n5_ := Aside0.mk (blk_drew BK284.out)
          have n6_ := Aside0.mk (below_drew1 HB.out)
          clear BK269
          clear BK270
          clear BK271
          clear BK272
          clear BK279
          clear BK284
          clear HB
          have BK269 := n0_
          have BK270 := n1_
          have BK271 := n2_
          have BK272 := n3_
          have BK279 := n4_
          have BK284 := n5_
          have HB := n6_
          clear n0_ n1_ n2_ n3_ n4_ n5_ n6_
          refine start_ (n := 9) (S := fun w' => w'.cell? ⟨gb279,0,none⟩ = some (.bool t275) ∧ w'.cell? ⟨gb279,1,none⟩ = some (.int .u64 t276) ∧ w'.cell? ⟨gb279,2,none⟩ = some (.int .u64 t277) ∧ w'.cell? ⟨gb284,0,none⟩ = some (.bool t280) ∧ w'.cell? ⟨gb284,1,none⟩ = some (.int .u64 t281) ∧ w'.cell? ⟨gb284,2,none⟩ = some (.int .u64 t282)) (ds := []) #[false,false,false,false,false,false,false,false,false] Z337 rfl rfl ⟨(blk_cell BK279.out 0).trans rfl,(blk_cell BK279.out 1).trans rfl,(blk_cell BK279.out 2).trans rfl,(blk_cell BK284.out 0).trans rfl,(blk_cell BK284.out 1).trans rfl,(blk_cell BK284.out 2).trans rfl⟩ (fun hHeld => ?_);refine with_tabW impl_crossed.tab5 impl_crossed.bits5 (fun HT_ HW_ => ?_)
          generalize w60.drew = w61 at BK269 BK270 BK271 BK272 BK279 BK284 HB hHeld ⊢
          refine pure_ (i := 2) (N := some 39) (v := ?_) (a' := ?_) #[false,false,true,false,false,false,false,false,false] rfl rfl (any_of HT_.out Z337) (fun _ _ _ h => h) (Or.inl ⟨Z339,?_⟩) ?_ ?_
          rotate_left
          · intro w'
            go_simp
            with_reducible rfl
          rotate_left
          · simp only [Act.put,List.setIfInBounds_toArray,List.set_cons_zero,List.set_cons_succ,i64_w,i32_w]
            rfl
          refine pure_ (i := 3) (N := some 40) (v := ?_) (a' := ?_) #[false,false,true,true,false,false,false,false,false] rfl rfl (any_of HT_.out Z337) (fun _ _ _ h => h) (Or.inl ⟨Z339,?_⟩) ?_ ?_
          rotate_left
          · intro w'
            go_simp
            with_reducible rfl
          rotate_left
          · simp only [Act.put,List.setIfInBounds_toArray,List.set_cons_zero,List.set_cons_succ,i64_w,i32_w]
            rfl
          refine pure_ (i := 4) (N := some 41) (v := ?_) (a' := ?_) #[false,false,true,true,true,false,false,false,false] rfl rfl (any_of HT_.out Z337) (fun _ _ _ h => h) (Or.inl ⟨Z339,?_⟩) ?_ ?_
          rotate_left
          · intro w'
            go_simp
            with_reducible rfl
          rotate_left
          · simp only [Act.put,List.setIfInBounds_toArray,List.set_cons_zero,List.set_cons_succ,i64_w,i32_w]
            rfl
          refine pure_ (i := 5) (N := some 42) (v := ?_) (a' := ?_) #[false,false,true,true,true,true,false,false,false] rfl rfl (any_of HT_.out Z337) (fun _ _ _ h => h) (Or.inl ⟨Z339,?_⟩) ?_ ?_
          rotate_left
          · intro w'
            go_simp
            with_reducible rfl
          rotate_left
          · simp only [Act.put,List.setIfInBounds_toArray,List.set_cons_zero,List.set_cons_succ,i64_w,i32_w]
            rfl
          refine take_ (i := 0) (N := some 37) (v := ?_) (a' := ?_) #[true,false,true,true,true,true,false,false,false] rfl rfl (take_ofW HT_.out HW_.out Z337) (fun _ _ _ h => h) (Or.inl ⟨Z339,?_⟩) hHeld ?_ ?_
          rotate_left
          · rintro w' ⟨s0,s1,s2,s3,s4,s5⟩
            go_simp
            with_reducible rfl
          rotate_left
          · simp only [Act.put,List.setIfInBounds_toArray,List.set_cons_zero,List.set_cons_succ,i64_w,i32_w]
            rfl
          refine take_ (i := 1) (N := some 38) (v := ?_) (a' := ?_) #[true,true,true,true,true,true,false,false,false] rfl rfl (take_ofW HT_.out HW_.out Z337) (fun _ _ _ h => h) (Or.inl ⟨Z339,?_⟩) hHeld ?_ ?_
          rotate_left
          · rintro w' ⟨s0,s1,s2,s3,s4,s5⟩
            go_simp
            with_reducible rfl
          rotate_left
          · simp only [Act.put,List.setIfInBounds_toArray,List.set_cons_zero,List.set_cons_succ,i64_w,i32_w]
            rfl
          refine one_ (i := 6) (N := none) #[true,true,true,true,true,true,true,false,false] rfl rfl (one_of HT_.out Z337) Z338 (fun K hK => ?_)
          have hs62 : w61.cell? ⟨gb271,0,none⟩ = some (.bool false) := (blk_cell BK271.out 0).trans rfl
          have hfs62 := blk_frozen BK271.out 0
          have hns62_0 := NB269_271.out
          have hns62_1 := NB270_271.out
          have hns62_3 := NB272_271.out
          have hns62_4 := NB279_271.out
          have hns62_5 := NB284_271.out
          have hms62_0 := NB271_269.out
          have hms62_1 := NB271_270.out
          have hms62_3 := NB271_272.out
          have hms62_4 := NB271_279.out
          have hms62_5 := NB271_284.out
          have hs63 : w61.cell? ⟨gb271,1,none⟩ = some (.int .u64 0) := (blk_cell BK271.out 1).trans rfl
          have hfs63 := blk_frozen BK271.out 1
          have hns63_0 := NB269_271.out
          have hns63_1 := NB270_271.out
          have hns63_3 := NB272_271.out
          have hns63_4 := NB279_271.out
          have hns63_5 := NB284_271.out
          have hms63_0 := NB271_269.out
          have hms63_1 := NB271_270.out
          have hms63_3 := NB271_272.out
          have hms63_4 := NB271_279.out
          have hms63_5 := NB271_284.out
          have hs64 : w61.cell? ⟨gb271,2,none⟩ = some (.int .u64 0) := (blk_cell BK271.out 2).trans rfl
          have hfs64 := blk_frozen BK271.out 2
          have hns64_0 := NB269_271.out
          have hns64_1 := NB270_271.out
          have hns64_3 := NB272_271.out
          have hns64_4 := NB279_271.out
          have hns64_5 := NB284_271.out
          have hms64_0 := NB271_269.out
          have hms64_1 := NB271_270.out
          have hms64_3 := NB271_272.out
          have hms64_4 := NB271_279.out
          have hms64_5 := NB271_284.out
          refine skip_ (w1 := ?_) Z339 rfl ?_ ?_
          rotate_left
          · go_simp
            rfl
          refine hK.out _ _ ⟨((cell_far (p := ⟨gb271,_,none⟩) NB279_271.out _).trans (((cell_far (p := ⟨gb271,_,none⟩) NB279_271.out _).trans (((cell_far (p := ⟨gb271,_,none⟩) NB279_271.out _).trans (hHeld.1)))))),((cell_far (p := ⟨gb271,_,none⟩) NB279_271.out _).trans (((cell_far (p := ⟨gb271,_,none⟩) NB279_271.out _).trans (((cell_far (p := ⟨gb271,_,none⟩) NB279_271.out _).trans (hHeld.2.1)))))),((cell_far (p := ⟨gb271,_,none⟩) NB279_271.out _).trans (((cell_far (p := ⟨gb271,_,none⟩) NB279_271.out _).trans (((cell_far (p := ⟨gb271,_,none⟩) NB279_271.out _).trans (hHeld.2.2.1)))))),((cell_far (p := ⟨gb271,_,none⟩) NB284_271.out _).trans (((cell_far (p := ⟨gb271,_,none⟩) NB284_271.out _).trans (((cell_far (p := ⟨gb271,_,none⟩) NB284_271.out _).trans (hHeld.2.2.2.1)))))),((cell_far (p := ⟨gb271,_,none⟩) NB284_271.out _).trans (((cell_far (p := ⟨gb271,_,none⟩) NB284_271.out _).trans (((cell_far (p := ⟨gb271,_,none⟩) NB284_271.out _).trans (hHeld.2.2.2.2.1)))))),((cell_far (p := ⟨gb271,_,none⟩) NB284_271.out _).trans (((cell_far (p := ⟨gb271,_,none⟩) NB284_271.out _).trans (((cell_far (p := ⟨gb271,_,none⟩) NB284_271.out _).trans (hHeld.2.2.2.2.2))))))⟩ (fun hHeld => ?_)
          clear hK K
          refine one_ (i := 7) (N := none) #[true,true,true,true,true,true,true,true,false] rfl rfl (one_of HT_.out Z337) Z338 (fun K hK => ?_)
          have hs65 : w61.cell? ⟨gb272,0,none⟩ = some (.bool false) := (blk_cell BK272.out 0).trans rfl
          have hfs65 := blk_frozen BK272.out 0
          have hns65_0 := NB269_272.out
          have hns65_1 := NB270_272.out
          have hns65_2 := NB271_272.out
          have hns65_4 := NB279_272.out
          have hns65_5 := NB284_272.out
          have hms65_0 := NB272_269.out
          have hms65_1 := NB272_270.out
          have hms65_2 := NB272_271.out
          have hms65_4 := NB272_279.out
          have hms65_5 := NB272_284.out
          have hs66 : w61.cell? ⟨gb272,1,none⟩ = some (.int .u64 0) := (blk_cell BK272.out 1).trans rfl
          have hfs66 := blk_frozen BK272.out 1
          have hns66_0 := NB269_272.out
          have hns66_1 := NB270_272.out
          have hns66_2 := NB271_272.out
          have hns66_4 := NB279_272.out
          have hns66_5 := NB284_272.out
          have hms66_0 := NB272_269.out
          have hms66_1 := NB272_270.out
          have hms66_2 := NB272_271.out
          have hms66_4 := NB272_279.out
          have hms66_5 := NB272_284.out
          have hs67 : w61.cell? ⟨gb272,2,none⟩ = some (.int .u64 0) := (blk_cell BK272.out 2).trans rfl
          have hfs67 := blk_frozen BK272.out 2
          have hns67_0 := NB269_272.out
          have hns67_1 := NB270_272.out
          have hns67_2 := NB271_272.out
          have hns67_4 := NB279_272.out
          have hns67_5 := NB284_272.out
          have hms67_0 := NB272_269.out
          have hms67_1 := NB272_270.out
          have hms67_2 := NB272_271.out
          have hms67_4 := NB272_279.out
          have hms67_5 := NB272_284.out
          refine skip_ (w1 := ?_) Z339 rfl ?_ ?_
          rotate_left
          · go_simp
            rfl
          refine hK.out _ _ ⟨((cell_far (p := ⟨gb272,_,none⟩) NB279_272.out _).trans (((cell_far (p := ⟨gb272,_,none⟩) NB279_272.out _).trans (((cell_far (p := ⟨gb272,_,none⟩) NB279_272.out _).trans (hHeld.1)))))),((cell_far (p := ⟨gb272,_,none⟩) NB279_272.out _).trans (((cell_far (p := ⟨gb272,_,none⟩) NB279_272.out _).trans (((cell_far (p := ⟨gb272,_,none⟩) NB279_272.out _).trans (hHeld.2.1)))))),((cell_far (p := ⟨gb272,_,none⟩) NB279_272.out _).trans (((cell_far (p := ⟨gb272,_,none⟩) NB279_272.out _).trans (((cell_far (p := ⟨gb272,_,none⟩) NB279_272.out _).trans (hHeld.2.2.1)))))),((cell_far (p := ⟨gb272,_,none⟩) NB284_272.out _).trans (((cell_far (p := ⟨gb272,_,none⟩) NB284_272.out _).trans (((cell_far (p := ⟨gb272,_,none⟩) NB284_272.out _).trans (hHeld.2.2.2.1)))))),((cell_far (p := ⟨gb272,_,none⟩) NB284_272.out _).trans (((cell_far (p := ⟨gb272,_,none⟩) NB284_272.out _).trans (((cell_far (p := ⟨gb272,_,none⟩) NB284_272.out _).trans (hHeld.2.2.2.2.1)))))),((cell_far (p := ⟨gb272,_,none⟩) NB284_272.out _).trans (((cell_far (p := ⟨gb272,_,none⟩) NB284_272.out _).trans (((cell_far (p := ⟨gb272,_,none⟩) NB284_272.out _).trans (hHeld.2.2.2.2.2))))))⟩ (fun hHeld => ?_)
          clear hK K
          refine pure_ (i := 8) (N := some 6) (v := ?_) (a' := ?_) #[true,true,true,true,true,true,true,true,true] rfl rfl (any_of HT_.out Z337) (fun _ _ _ h => h) (Or.inl ⟨Z339,?_⟩) ?_ ?_
          rotate_left
          · intro w'
            go_simp
            with_reducible rfl
          rotate_left
          · simp only [Act.put,List.setIfInBounds_toArray,List.set_cons_zero,List.set_cons_succ,i64_w,i32_w]
            rfl
          refine done_ (done_of HT_.out Z337) ?_
          try go_wp2
          refine bodyPost_ret (results_list (rs := [.cell 4 28,.cell 5 28,.tmp 6]) rfl (by simp) (.cell gb271 28 #[.bool t275,.int .u64 t276,.int .u64 t277] (0,0) _ rfl Z9 Try.underlying28 rfl Z337 (.cell gb272 28 #[.bool t280,.int .u64 t281,.int .u64 t282] (0,0) _ rfl Z6 Try.underlying28 rfl Z337 (.tmp .nil)))) rfl ?_
          exact ⟨Z329,Z121⟩
        · replace c35 := Bool.eq_false_iff.mpr c35
          subst c35
          have H1 : (some (t275,t276,t277,t280,t281,t282,false)) = some (r1,r2,r3,r4,r5,r6,r7) := by rw [if_neg (show ¬ (false = true) by decide)] at H;exact H
          clear H
          have H := H1
          clear H1
          simp only [Option.some.injEq,Prod.mk.injEq] at H
          obtain ⟨rfl,rfl,rfl,rfl,rfl,rfl,rfl⟩ := H
          have hnb68 := NB269_270.out
          have hnc68 := NB270_269.out
          have hnb69 := NB269_271.out
          have hnc69 := NB271_269.out
          have hnb70 := NB269_272.out
          have hnc70 := NB272_269.out
          obtain ⟨hcz71_0,hcz71_1,hcz71_2,hcz71_3,hfz71_0,hfz71_1,hfz71_2,hfz71_3⟩ := impl_crossed.cells4 BK269.out
          have hnb72 := NB270_271.out
          have hnc72 := NB271_270.out
          have hnb73 := NB270_272.out
          have hnc73 := NB272_270.out
          obtain ⟨hcz74_0,hcz74_1,hcz74_2,hcz74_3,hfz74_0,hfz74_1,hfz74_2,hfz74_3⟩ := impl_crossed.cells4 BK270.out
          try go_wp2_with (first | ((with_reducible refine gate_callee (f := 68) rfl ?_);refine goesL_ (some 26) rfl rfl Try.func68 Z337 rfl #[.agg #[.bool a0_0,.int .u64 a0_1,.int .u64 a0_2],.int .i64 a1_3] rfl Z304 ?_;(with_reducible refine (impl_ScaleWide.calls a0_0 a0_1 a0_2 a1_3 t275 t276 t277 false _ A33.out).mono ?_);rintro e w75 ⟨rfl,hb⟩;refine ⟨_,rfl,?_⟩;have n_ := jA (blk_below (g := gb269) (o := .cells #[.bool a0_0,.int .u64 a0_1,.int .u64 a0_2,.int .i64 a0_3] 30 (0,0)) Z419 hb) (jA (blk_below (g := gb270) (o := .cells #[.bool a1_0,.int .u64 a1_1,.int .u64 a1_2,.int .i64 a1_3] 30 (0,0)) Z422 hb) (jA (blk_below (g := gb271) (o := .cells #[.bool false,.int .u64 0,.int .u64 0] 28 (0,0)) Z426 hb) (jA (blk_below (g := gb272) (o := .cells #[.bool false,.int .u64 0,.int .u64 0] 28 (0,0)) Z429 hb) (Aside0.mk (below_step Z352 hb)))));clear BK269 BK270 BK271 BK272 HB;obtain ⟨BK269,BK270,BK271,BK272,HB⟩ := n_;(try clear hb);(try clear hb2);(try clear hk);(try clear hi)) | ((with_reducible refine gate_dst (N := 7) rfl ?_);refine box_event ?hg (N := 7) ?hd (cs := #[.bool false,.int .u64 0,.int .u64 0]) (t := 28) ?hr ?_;(case hd => rfl);(case hg => rfl);(case hr => exact Z334);intro gb279 hg w76 hbox hb;have n_ := jA (blk_below (g := gb269) (o := .cells #[.bool a0_0,.int .u64 a0_1,.int .u64 a0_2,.int .i64 a0_3] 30 (0,0)) Z419 hb) (jA (blk_below (g := gb270) (o := .cells #[.bool a1_0,.int .u64 a1_1,.int .u64 a1_2,.int .i64 a1_3] 30 (0,0)) Z422 hb) (jA (blk_below (g := gb271) (o := .cells #[.bool false,.int .u64 0,.int .u64 0] 28 (0,0)) Z426 hb) (jA (blk_below (g := gb272) (o := .cells #[.bool false,.int .u64 0,.int .u64 0] 28 (0,0)) Z429 hb) (jA (below_step Z352 hb) (jA (hbox) (jA ((Z127 : w.heap.size ≤ gb279)) (jA ((Z127 : w.heap.size ≤ gb279)) (jA ((Z163 : gb269 ≠ gb279)) (jA ((Z165 : gb279 ≠ gb269)) (jA ((Z167 : gb270 ≠ gb279)) (jA ((Z169 : gb279 ≠ gb270)) (jA ((Z244 : gb271 ≠ gb279)) (jA ((Z246 : gb279 ≠ gb271)) (jA ((Z248 : gb272 ≠ gb279)) (Aside0.mk ((Z252 : gb279 ≠ gb272)))))))))))))))));clear BK269 BK270 BK271 BK272 HB;obtain ⟨BK269,BK270,BK271,BK272,HB,BK279,GW279,GE279,NB269_279,NB279_269,NB270_279,NB279_270,NB271_279,NB279_271,NB272_279,NB279_272⟩ := n_;clear hb hbox hg;have hnb77 := NB279_269.out;have hnc77 := NB269_279.out;have hnb78 := NB279_270.out;have hnc78 := NB270_279.out;have hnb79 := NB279_271.out;have hnc79 := NB271_279.out;have hnb80 := NB279_272.out;have hnc80 := NB272_279.out;obtain ⟨hcz81_0,hcz81_1,hcz81_2,hfz81_0,hfz81_1,hfz81_2⟩ := impl_crossed.cells3 BK279.out;obtain ⟨hcz82_0,hcz82_1,hcz82_2,hcz82_3,hfz82_0,hfz82_1,hfz82_2,hfz82_3⟩ := impl_crossed.cells4 BK270.out;obtain ⟨hcz83_0,hcz83_1,hcz83_2,hcz83_3,hfz83_0,hfz83_1,hfz83_2,hfz83_3⟩ := impl_crossed.cells4 BK269.out) | ((with_reducible refine gate_callee (f := 68) rfl ?_);refine goesL_ (some 34) rfl rfl Try.func68 Z337 rfl #[.agg #[.bool a1_0,.int .u64 a1_1,.int .u64 a1_2],.int .i64 a0_3] rfl Z304 ?_;(with_reducible refine (impl_ScaleWide.calls a1_0 a1_1 a1_2 a0_3 t280 t281 t282 t283 _ A34.out).mono ?_);rintro e w84 ⟨rfl,hb⟩;refine ⟨_,rfl,?_⟩;have n_ := jA (blk_below (g := gb269) (o := .cells #[.bool a0_0,.int .u64 a0_1,.int .u64 a0_2,.int .i64 a0_3] 30 (0,0)) Z86 hb) (jA (blk_below (g := gb270) (o := .cells #[.bool a1_0,.int .u64 a1_1,.int .u64 a1_2,.int .i64 a1_3] 30 (0,0)) Z85 hb) (jA (blk_below (g := gb271) (o := .cells #[.bool false,.int .u64 0,.int .u64 0] 28 (0,0)) Z84 hb) (jA (blk_below (g := gb272) (o := .cells #[.bool false,.int .u64 0,.int .u64 0] 28 (0,0)) Z83 hb) (jA (blk_below (g := gb279) (o := .cells #[.bool t275,.int .u64 t276,.int .u64 t277] 28 (0,0)) Z45 hb) (Aside0.mk (below_step Z350 hb))))));clear BK269 BK270 BK271 BK272 BK279 HB;obtain ⟨BK269,BK270,BK271,BK272,BK279,HB⟩ := n_;(try clear hb);(try clear hb2);(try clear hk);(try clear hi)) | ((with_reducible refine gate_dst (N := 9) rfl ?_);refine box_event ?hg (N := 9) ?hd (cs := #[.bool false,.int .u64 0,.int .u64 0]) (t := 28) ?hr ?_;(case hd => rfl);(case hg => rfl);(case hr => exact Z334);intro gb284 hg w85 hbox hb;have n_ := jA (blk_below (g := gb269) (o := .cells #[.bool a0_0,.int .u64 a0_1,.int .u64 a0_2,.int .i64 a0_3] 30 (0,0)) Z419 hb) (jA (blk_below (g := gb270) (o := .cells #[.bool a1_0,.int .u64 a1_1,.int .u64 a1_2,.int .i64 a1_3] 30 (0,0)) Z422 hb) (jA (blk_below (g := gb271) (o := .cells #[.bool false,.int .u64 0,.int .u64 0] 28 (0,0)) Z426 hb) (jA (blk_below (g := gb272) (o := .cells #[.bool false,.int .u64 0,.int .u64 0] 28 (0,0)) Z429 hb) (jA (blk_below (g := gb279) (o := .cells #[.bool t275,.int .u64 t276,.int .u64 t277] 28 (0,0)) Z448 hb) (jA (below_step Z350 hb) (jA (hbox) (jA ((Z119 : w.heap.size ≤ gb284)) (jA ((Z119 : w.heap.size ≤ gb284)) (jA ((Z163 : gb269 ≠ gb284)) (jA ((Z165 : gb284 ≠ gb269)) (jA ((Z167 : gb270 ≠ gb284)) (jA ((Z169 : gb284 ≠ gb270)) (jA ((Z244 : gb271 ≠ gb284)) (jA ((Z246 : gb284 ≠ gb271)) (jA ((Z248 : gb272 ≠ gb284)) (jA ((Z252 : gb284 ≠ gb272)) (jA ((Z234 : gb279 ≠ gb284)) (Aside0.mk ((Z238 : gb284 ≠ gb279))))))))))))))))))));clear BK269 BK270 BK271 BK272 BK279 HB;obtain ⟨BK269,BK270,BK271,BK272,BK279,HB,BK284,GW284,GE284,NB269_284,NB284_269,NB270_284,NB284_270,NB271_284,NB284_271,NB272_284,NB284_272,NB279_284,NB284_279⟩ := n_;clear hb hbox hg;have hnb86 := NB284_269.out;have hnc86 := NB269_284.out;have hnb87 := NB284_270.out;have hnc87 := NB270_284.out;have hnb88 := NB284_271.out;have hnc88 := NB271_284.out;have hnb89 := NB284_272.out;have hnc89 := NB272_284.out;have hnb90 := NB284_279.out;have hnc90 := NB279_284.out;obtain ⟨hcz91_0,hcz91_1,hcz91_2,hfz91_0,hfz91_1,hfz91_2⟩ := impl_crossed.cells3 BK284.out))
          have n0_ : Aside0 ((((w85.setCell ⟨gb284,0,none⟩ (.bool t280)).setCell ⟨gb284,1,none⟩ (.int .u64 t281)).setCell ⟨gb284,2,none⟩ (.int .u64 t282)).heap[gb269]? = some (.cells #[.bool a0_0,.int .u64 a0_1,.int .u64 a0_2,.int .i64 a0_3] 30 (0,0))) := ⟨Z105⟩
          have n1_ : Aside0 ((((w85.setCell ⟨gb284,0,none⟩ (.bool t280)).setCell ⟨gb284,1,none⟩ (.int .u64 t281)).setCell ⟨gb284,2,none⟩ (.int .u64 t282)).heap[gb270]? = some (.cells #[.bool a1_0,.int .u64 a1_1,.int .u64 a1_2,.int .i64 a1_3] 30 (0,0))) := ⟨Z104⟩
          have n2_ : Aside0 ((((w85.setCell ⟨gb284,0,none⟩ (.bool t280)).setCell ⟨gb284,1,none⟩ (.int .u64 t281)).setCell ⟨gb284,2,none⟩ (.int .u64 t282)).heap[gb271]? = some (.cells #[.bool false,.int .u64 0,.int .u64 0] 28 (0,0))) := ⟨Z103⟩
          have n3_ : Aside0 ((((w85.setCell ⟨gb284,0,none⟩ (.bool t280)).setCell ⟨gb284,1,none⟩ (.int .u64 t281)).setCell ⟨gb284,2,none⟩ (.int .u64 t282)).heap[gb272]? = some (.cells #[.bool false,.int .u64 0,.int .u64 0] 28 (0,0))) := ⟨Z102⟩
          have n4_ : Aside0 ((((w85.setCell ⟨gb284,0,none⟩ (.bool t280)).setCell ⟨gb284,1,none⟩ (.int .u64 t281)).setCell ⟨gb284,2,none⟩ (.int .u64 t282)).heap[gb279]? = some (.cells #[.bool t275,.int .u64 t276,.int .u64 t277] 28 (0,0))) := ⟨Z101⟩
          have n5_ : Aside0 ((((w85.setCell ⟨gb284,0,none⟩ (.bool t280)).setCell ⟨gb284,1,none⟩ (.int .u64 t281)).setCell ⟨gb284,2,none⟩ (.int .u64 t282)).heap[gb284]? = some (.cells #[.bool t280,.int .u64 t281,.int .u64 t282] 28 (0,0))) := ⟨Z48⟩
          have n6_ : Aside0 (Below w.heap.size w (((w85.setCell ⟨gb284,0,none⟩ (.bool t280)).setCell ⟨gb284,1,none⟩ (.int .u64 t281)).setCell ⟨gb284,2,none⟩ (.int .u64 t282))) := ⟨Z121⟩
          (try clear BK269)
          (try clear BK270)
          (try clear BK271)
          (try clear BK272)
          (try clear BK279)
          (try clear BK284)
          (try clear HB)
          generalize (((w85.setCell ⟨gb284,0,none⟩ (.bool t280)).setCell ⟨gb284,1,none⟩ (.int .u64 t281)).setCell ⟨gb284,2,none⟩ (.int .u64 t282)) = w92 at n0_ n1_ n2_ n3_ n4_ n5_ n6_ ⊢
          have BK269 := n0_
          have BK270 := n1_
          have BK271 := n2_
          have BK272 := n3_
          have BK279 := n4_
          have BK284 := n5_
          have HB := n6_
          clear n0_ n1_ n2_ n3_ n4_ n5_ n6_
          have n0_ := Aside0.mk (blk_drew BK269.out)
          have n1_ := Aside0.mk (blk_drew BK270.out)
          have n2_ := Aside0.mk (blk_drew BK271.out)
          have n3_ := Aside0.mk (blk_drew BK272.out)
          have n4_ := Aside0.mk (blk_drew BK279.out)
          have n5_ := Aside0.mk (blk_drew BK284.out)
          have n6_ := Aside0.mk (below_drew1 HB.out)
          clear BK269
          clear BK270
          clear BK271
          clear BK272
          clear BK279
          clear BK284
          clear HB
          have BK269 := n0_
          have BK270 := n1_
          have BK271 := n2_
          have BK272 := n3_
          have BK279 := n4_
          have BK284 := n5_
          have HB := n6_
          clear n0_ n1_ n2_ n3_ n4_ n5_ n6_
          refine start_ (n := 9) (S := fun w' => w'.cell? ⟨gb279,0,none⟩ = some (.bool t275) ∧ w'.cell? ⟨gb279,1,none⟩ = some (.int .u64 t276) ∧ w'.cell? ⟨gb279,2,none⟩ = some (.int .u64 t277) ∧ w'.cell? ⟨gb284,0,none⟩ = some (.bool t280) ∧ w'.cell? ⟨gb284,1,none⟩ = some (.int .u64 t281) ∧ w'.cell? ⟨gb284,2,none⟩ = some (.int .u64 t282)) (ds := []) #[false,false,false,false,false,false,false,false,false] Z337 rfl rfl ⟨(blk_cell BK279.out 0).trans rfl,(blk_cell BK279.out 1).trans rfl,(blk_cell BK279.out 2).trans rfl,(blk_cell BK284.out 0).trans rfl,(blk_cell BK284.out 1).trans rfl,(blk_cell BK284.out 2).trans rfl⟩ (fun hHeld => ?_);refine with_tabW impl_crossed.tab5 impl_crossed.bits5 (fun HT_ HW_ => ?_)
          generalize w92.drew = w93 at BK269 BK270 BK271 BK272 BK279 BK284 HB hHeld ⊢
          refine pure_ (i := 2) (N := some 39) (v := ?_) (a' := ?_) #[false,false,true,false,false,false,false,false,false] rfl rfl (any_of HT_.out Z337) (fun _ _ _ h => h) (Or.inl ⟨Z339,?_⟩) ?_ ?_
          rotate_left
          · intro w'
            go_simp
            with_reducible rfl
          rotate_left
          · simp only [Act.put,List.setIfInBounds_toArray,List.set_cons_zero,List.set_cons_succ,i64_w,i32_w]
            rfl
          refine pure_ (i := 3) (N := some 40) (v := ?_) (a' := ?_) #[false,false,true,true,false,false,false,false,false] rfl rfl (any_of HT_.out Z337) (fun _ _ _ h => h) (Or.inl ⟨Z339,?_⟩) ?_ ?_
          rotate_left
          · intro w'
            go_simp
            with_reducible rfl
          rotate_left
          · simp only [Act.put,List.setIfInBounds_toArray,List.set_cons_zero,List.set_cons_succ,i64_w,i32_w]
            rfl
          refine pure_ (i := 4) (N := some 41) (v := undef) (a' := ?_) #[false,false,true,true,true,false,false,false,false] rfl rfl (any_of HT_.out Z337) (fun _ _ _ h => h) (Or.inr ⟨Z339,rfl⟩) ?_ ?_
          rotate_left
          · simp only [Act.put,List.setIfInBounds_toArray,List.set_cons_zero,List.set_cons_succ,i64_w,i32_w]
            rfl
          refine pure_ (i := 5) (N := some 42) (v := ?_) (a' := ?_) #[false,false,true,true,true,true,false,false,false] rfl rfl (any_of HT_.out Z337) (fun _ _ _ h => h) (Or.inl ⟨Z339,?_⟩) ?_ ?_
          rotate_left
          · intro w'
            go_simp
            with_reducible rfl
          rotate_left
          · simp only [Act.put,List.setIfInBounds_toArray,List.set_cons_zero,List.set_cons_succ,i64_w,i32_w]
            rfl
          refine take_ (i := 0) (N := some 37) (v := ?_) (a' := ?_) #[true,false,true,true,true,true,false,false,false] rfl rfl (take_ofW HT_.out HW_.out Z337) (fun _ _ _ h => h) (Or.inl ⟨Z339,?_⟩) hHeld ?_ ?_
          rotate_left
          · rintro w' ⟨s0,s1,s2,s3,s4,s5⟩
            go_simp
            with_reducible rfl
          rotate_left
          · simp only [Act.put,List.setIfInBounds_toArray,List.set_cons_zero,List.set_cons_succ,i64_w,i32_w]
            rfl
          refine take_ (i := 1) (N := some 38) (v := ?_) (a' := ?_) #[true,true,true,true,true,true,false,false,false] rfl rfl (take_ofW HT_.out HW_.out Z337) (fun _ _ _ h => h) (Or.inl ⟨Z339,?_⟩) hHeld ?_ ?_
          rotate_left
          · rintro w' ⟨s0,s1,s2,s3,s4,s5⟩
            go_simp
            with_reducible rfl
          rotate_left
          · simp only [Act.put,List.setIfInBounds_toArray,List.set_cons_zero,List.set_cons_succ,i64_w,i32_w]
            rfl
          refine one_ (i := 6) (N := none) #[true,true,true,true,true,true,true,false,false] rfl rfl (one_of HT_.out Z337) Z338 (fun K hK => ?_)
          have hs94 : w93.cell? ⟨gb271,0,none⟩ = some (.bool false) := (blk_cell BK271.out 0).trans rfl
          have hfs94 := blk_frozen BK271.out 0
          have hns94_0 := NB269_271.out
          have hns94_1 := NB270_271.out
          have hns94_3 := NB272_271.out
          have hns94_4 := NB279_271.out
          have hns94_5 := NB284_271.out
          have hms94_0 := NB271_269.out
          have hms94_1 := NB271_270.out
          have hms94_3 := NB271_272.out
          have hms94_4 := NB271_279.out
          have hms94_5 := NB271_284.out
          have hs95 : w93.cell? ⟨gb271,1,none⟩ = some (.int .u64 0) := (blk_cell BK271.out 1).trans rfl
          have hfs95 := blk_frozen BK271.out 1
          have hns95_0 := NB269_271.out
          have hns95_1 := NB270_271.out
          have hns95_3 := NB272_271.out
          have hns95_4 := NB279_271.out
          have hns95_5 := NB284_271.out
          have hms95_0 := NB271_269.out
          have hms95_1 := NB271_270.out
          have hms95_3 := NB271_272.out
          have hms95_4 := NB271_279.out
          have hms95_5 := NB271_284.out
          have hs96 : w93.cell? ⟨gb271,2,none⟩ = some (.int .u64 0) := (blk_cell BK271.out 2).trans rfl
          have hfs96 := blk_frozen BK271.out 2
          have hns96_0 := NB269_271.out
          have hns96_1 := NB270_271.out
          have hns96_3 := NB272_271.out
          have hns96_4 := NB279_271.out
          have hns96_5 := NB284_271.out
          have hms96_0 := NB271_269.out
          have hms96_1 := NB271_270.out
          have hms96_3 := NB271_272.out
          have hms96_4 := NB271_279.out
          have hms96_5 := NB271_284.out
          refine skip_ (w1 := ?_) Z339 rfl ?_ ?_
          rotate_left
          · go_simp
            rfl
          refine hK.out _ _ ⟨((cell_far (p := ⟨gb271,_,none⟩) NB279_271.out _).trans (((cell_far (p := ⟨gb271,_,none⟩) NB279_271.out _).trans (((cell_far (p := ⟨gb271,_,none⟩) NB279_271.out _).trans (hHeld.1)))))),((cell_far (p := ⟨gb271,_,none⟩) NB279_271.out _).trans (((cell_far (p := ⟨gb271,_,none⟩) NB279_271.out _).trans (((cell_far (p := ⟨gb271,_,none⟩) NB279_271.out _).trans (hHeld.2.1)))))),((cell_far (p := ⟨gb271,_,none⟩) NB279_271.out _).trans (((cell_far (p := ⟨gb271,_,none⟩) NB279_271.out _).trans (((cell_far (p := ⟨gb271,_,none⟩) NB279_271.out _).trans (hHeld.2.2.1)))))),((cell_far (p := ⟨gb271,_,none⟩) NB284_271.out _).trans (((cell_far (p := ⟨gb271,_,none⟩) NB284_271.out _).trans (((cell_far (p := ⟨gb271,_,none⟩) NB284_271.out _).trans (hHeld.2.2.2.1)))))),((cell_far (p := ⟨gb271,_,none⟩) NB284_271.out _).trans (((cell_far (p := ⟨gb271,_,none⟩) NB284_271.out _).trans (((cell_far (p := ⟨gb271,_,none⟩) NB284_271.out _).trans (hHeld.2.2.2.2.1)))))),((cell_far (p := ⟨gb271,_,none⟩) NB284_271.out _).trans (((cell_far (p := ⟨gb271,_,none⟩) NB284_271.out _).trans (((cell_far (p := ⟨gb271,_,none⟩) NB284_271.out _).trans (hHeld.2.2.2.2.2))))))⟩ (fun hHeld => ?_)
          clear hK K
          refine one_ (i := 7) (N := none) #[true,true,true,true,true,true,true,true,false] rfl rfl (one_of HT_.out Z337) Z338 (fun K hK => ?_)
          have hs97 : w93.cell? ⟨gb272,0,none⟩ = some (.bool false) := (blk_cell BK272.out 0).trans rfl
          have hfs97 := blk_frozen BK272.out 0
          have hns97_0 := NB269_272.out
          have hns97_1 := NB270_272.out
          have hns97_2 := NB271_272.out
          have hns97_4 := NB279_272.out
          have hns97_5 := NB284_272.out
          have hms97_0 := NB272_269.out
          have hms97_1 := NB272_270.out
          have hms97_2 := NB272_271.out
          have hms97_4 := NB272_279.out
          have hms97_5 := NB272_284.out
          have hs98 : w93.cell? ⟨gb272,1,none⟩ = some (.int .u64 0) := (blk_cell BK272.out 1).trans rfl
          have hfs98 := blk_frozen BK272.out 1
          have hns98_0 := NB269_272.out
          have hns98_1 := NB270_272.out
          have hns98_2 := NB271_272.out
          have hns98_4 := NB279_272.out
          have hns98_5 := NB284_272.out
          have hms98_0 := NB272_269.out
          have hms98_1 := NB272_270.out
          have hms98_2 := NB272_271.out
          have hms98_4 := NB272_279.out
          have hms98_5 := NB272_284.out
          have hs99 : w93.cell? ⟨gb272,2,none⟩ = some (.int .u64 0) := (blk_cell BK272.out 2).trans rfl
          have hfs99 := blk_frozen BK272.out 2
          have hns99_0 := NB269_272.out
          have hns99_1 := NB270_272.out
          have hns99_2 := NB271_272.out
          have hns99_4 := NB279_272.out
          have hns99_5 := NB284_272.out
          have hms99_0 := NB272_269.out
          have hms99_1 := NB272_270.out
          have hms99_2 := NB272_271.out
          have hms99_4 := NB272_279.out
          have hms99_5 := NB272_284.out
          refine skip_ (w1 := ?_) Z339 rfl ?_ ?_
          rotate_left
          · go_simp
            rfl
          refine hK.out _ _ ⟨((cell_far (p := ⟨gb272,_,none⟩) NB279_272.out _).trans (((cell_far (p := ⟨gb272,_,none⟩) NB279_272.out _).trans (((cell_far (p := ⟨gb272,_,none⟩) NB279_272.out _).trans (hHeld.1)))))),((cell_far (p := ⟨gb272,_,none⟩) NB279_272.out _).trans (((cell_far (p := ⟨gb272,_,none⟩) NB279_272.out _).trans (((cell_far (p := ⟨gb272,_,none⟩) NB279_272.out _).trans (hHeld.2.1)))))),((cell_far (p := ⟨gb272,_,none⟩) NB279_272.out _).trans (((cell_far (p := ⟨gb272,_,none⟩) NB279_272.out _).trans (((cell_far (p := ⟨gb272,_,none⟩) NB279_272.out _).trans (hHeld.2.2.1)))))),((cell_far (p := ⟨gb272,_,none⟩) NB284_272.out _).trans (((cell_far (p := ⟨gb272,_,none⟩) NB284_272.out _).trans (((cell_far (p := ⟨gb272,_,none⟩) NB284_272.out _).trans (hHeld.2.2.2.1)))))),((cell_far (p := ⟨gb272,_,none⟩) NB284_272.out _).trans (((cell_far (p := ⟨gb272,_,none⟩) NB284_272.out _).trans (((cell_far (p := ⟨gb272,_,none⟩) NB284_272.out _).trans (hHeld.2.2.2.2.1)))))),((cell_far (p := ⟨gb272,_,none⟩) NB284_272.out _).trans (((cell_far (p := ⟨gb272,_,none⟩) NB284_272.out _).trans (((cell_far (p := ⟨gb272,_,none⟩) NB284_272.out _).trans (hHeld.2.2.2.2.2))))))⟩ (fun hHeld => ?_)
          clear hK K
          refine pure_ (i := 8) (N := some 6) (v := ?_) (a' := ?_) #[true,true,true,true,true,true,true,true,true] rfl rfl (any_of HT_.out Z337) (fun _ _ _ h => h) (Or.inl ⟨Z339,?_⟩) ?_ ?_
          rotate_left
          · intro w'
            go_simp
            with_reducible rfl
          rotate_left
          · simp only [Act.put,List.setIfInBounds_toArray,List.set_cons_zero,List.set_cons_succ,i64_w,i32_w]
            rfl
          refine done_ (done_of HT_.out Z337) ?_
          try go_wp2
          refine bodyPost_ret (results_list (rs := [.cell 4 28,.cell 5 28,.tmp 6]) rfl (by simp) (.cell gb271 28 #[.bool t275,.int .u64 t276,.int .u64 t277] (0,0) _ rfl Z9 Try.underlying28 rfl Z337 (.cell gb272 28 #[.bool t280,.int .u64 t281,.int .u64 t282] (0,0) _ rfl Z6 Try.underlying28 rfl Z337 (.tmp .nil)))) rfl ?_
          exact ⟨Z329,Z121⟩

end Go.Proofs.Ytjcjehnjbgklbaa.QFnExactGainOf
