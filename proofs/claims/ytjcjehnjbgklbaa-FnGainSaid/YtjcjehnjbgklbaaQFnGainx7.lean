/- The machine side of FnGain: what each Go function that it reaches comes to. Conditions: none. -/
import Derived.Test.YtjcjehnjbgklbaaQFnGainx0
import Derived.Test.YtjcjehnjbgklbaaQFnGainx6
namespace Go.Proofs.Ytjcjehnjbgklbaa.QFnGain
open Go.RowKit Go.Proofs.YtjcjehnjbgklbaaW.PrintWords Go.Proofs.YtjcjehnjbgklbaaW.PrintLast Go.Proofs.YtjcjehnjbgklbaaW.PrintMore
attribute [local go_sem] max2_int min2_int max_two min_two max_three min_three max_four min_four   -- for this text's walks alone
set_option linter.unusedVariables false
set_option linter.unusedSimpArgs false

/-! ### impl_ScaleWide: function 68 -/
theorem impl_ScaleWide.cells3 {w : World} {g : Nat} {t : TypeId} {a0 a1 a2 : Value} (h : w.heap[g]? = some (.cells #[a0,a1,a2] t (0,0))) : w.cell? ⟨g,0,none⟩ = some a0 ∧ w.cell? ⟨g,1,none⟩ = some a1 ∧ w.cell? ⟨g,2,none⟩ = some a2 ∧ w.frozen? ⟨g,0,none⟩ = false ∧ w.frozen? ⟨g,1,none⟩ = false ∧ w.frozen? ⟨g,2,none⟩ = false := ⟨(blk_cell h 0).trans rfl,(blk_cell h 1).trans rfl,(blk_cell h 2).trans rfl,blk_frozen h 0,blk_frozen h 1,blk_frozen h 2⟩
def impl_ScaleWide.f (a0_0 : Bool) (a0_1 : Int) (a0_2 : Int) (a1 : Int) : Option (Bool × Int × Int × Bool) := (impl_WideOk.f a0_0 a0_1 a0_2).bind fun t246 => (if t246 = true then ((impl_size.f a1).bind fun t247 => ((bits_Mul64.f a0_1 t247).bind fun bt248 => ((bits_Mul64.f a0_2 t247).bind fun bt250 => ((bits_Add64.f bt248.2 bt250.1 0).bind fun bt252 => ((impl_wideOf.f (a0_0 != (decide (a1 < 0))) bt252.1 bt250.2).bind fun bt254 => (if bt248.1 > 0 then (some (false,0,0,false)) else (if bt252.2 > 0 then (some (false,0,0,false)) else ((impl_WideOk.f bt254.1 bt254.2.1 bt254.2.2).bind fun t258 => (if t258 = true then (some (bt254.1,bt254.2.1,bt254.2.2,true)) else (some (false,0,0,false))))))))))) else (some (false,0,0,false)))
set_option maxHeartbeats 8000000 in
set_option maxRecDepth 100000 in
theorem impl_ScaleWide.calls (a0_0 : Bool) (a0_1 : Int) (a0_2 : Int) (a1 : Int) (r1 : Bool) (r2 : Int) (r3 : Int) (r4 : Bool) (w : World) (h : impl_ScaleWide.f a0_0 a0_1 a0_2 a1 = some (r1,r2,r3,r4)) :
    Calls Try.prog 68 #[.agg #[.bool a0_0,.int .u64 a0_1,.int .u64 a0_2],.int .i64 a1] w fun e w' => e = .returned (.tuple #[.agg #[.bool r1,.int .u64 r2,.int .u64 r3],.bool r4]) ∧ Below w.heap.size w w' := by
  have hu28 := Try.underlying28
  have HB := Aside0.mk (Below.refl w.heap.size w)
  have H : ((impl_WideOk.f a0_0 a0_1 a0_2).bind fun t246 => (if t246 = true then ((impl_size.f a1).bind fun t247 => ((bits_Mul64.f a0_1 t247).bind fun bt248 => ((bits_Mul64.f a0_2 t247).bind fun bt250 => ((bits_Add64.f bt248.2 bt250.1 0).bind fun bt252 => ((impl_wideOf.f (a0_0 != (decide (a1 < 0))) bt252.1 bt250.2).bind fun bt254 => (if bt248.1 > 0 then (some (false,0,0,false)) else (if bt252.2 > 0 then (some (false,0,0,false)) else ((impl_WideOk.f bt254.1 bt254.2.1 bt254.2.2).bind fun t258 => (if t258 = true then (some (bt254.1,bt254.2.1,bt254.2.2,true)) else (some (false,0,0,false))))))))))) else (some (false,0,0,false)))) = some (r1,r2,r3,r4) := h
  clear h
  obtain ⟨t246,A30,H⟩ := Option.bind_eq_some_iff.mp H
  have A3 := Aside0.mk A30
  clear A30
  by_cases c4 : t246 = true
  · subst c4
    have H1 : ((impl_size.f a1).bind fun t247 => ((bits_Mul64.f a0_1 t247).bind fun bt248 => ((bits_Mul64.f a0_2 t247).bind fun bt250 => ((bits_Add64.f bt248.2 bt250.1 0).bind fun bt252 => ((impl_wideOf.f (a0_0 != (decide (a1 < 0))) bt252.1 bt250.2).bind fun bt254 => (if bt248.1 > 0 then (some (false,0,0,false)) else (if bt252.2 > 0 then (some (false,0,0,false)) else ((impl_WideOk.f bt254.1 bt254.2.1 bt254.2.2).bind fun t258 => (if t258 = true then (some (bt254.1,bt254.2.1,bt254.2.2,true)) else (some (false,0,0,false))))))))))) = some (r1,r2,r3,r4) := by rw [if_pos rfl] at H;exact H
    clear H
    have H := H1
    clear H1
    obtain ⟨t247,A50,H⟩ := Option.bind_eq_some_iff.mp H
    have A5 := Aside0.mk A50
    clear A50
    obtain ⟨⟨t248,t249⟩,A60,H⟩ := Option.bind_eq_some_iff.mp H
    try dsimp only at H
    have A6 := Aside0.mk A60
    clear A60
    obtain ⟨⟨t250,t251⟩,A70,H⟩ := Option.bind_eq_some_iff.mp H
    try dsimp only at H
    have A7 := Aside0.mk A70
    clear A70
    obtain ⟨⟨t252,t253⟩,A80,H⟩ := Option.bind_eq_some_iff.mp H
    try dsimp only at H
    have A8 := Aside0.mk A80
    clear A80
    obtain ⟨⟨t254,t255,t256⟩,A90,H⟩ := Option.bind_eq_some_iff.mp H
    try dsimp only at H
    have A9 := Aside0.mk A90
    clear A90
    by_cases c10 : t248 > 0
    · rw [if_pos c10] at H
      have c10b0 : decide (0 < t248) = true := decide_eq_true c10
      clear c10
      simp only [Option.some.injEq,Prod.mk.injEq] at H
      obtain ⟨rfl,rfl,rfl,rfl⟩ := H
      go_enter Try.func68,Try.ntmps68
      go_wp2_with (first | ((with_reducible refine gate_dst (N := 2) rfl ?_);refine box_event ?hg (N := 2) ?hd (cs := #[.bool a0_0,.int .u64 a0_1,.int .u64 a0_2]) (t := 28) ?hr ?_;(case hd => rfl);(case hg => rfl);(case hr => exact Z359);intro gb244 hg w11 hbox hb;have n_ := jA (below_step Z430 hb) (jA (hbox) (jA ((Z321 : w.heap.size ≤ gb244)) (Aside0.mk ((Z321 : w.heap.size ≤ gb244)))));clear HB;obtain ⟨HB,BK244,GW244,GE244⟩ := n_;clear hb hbox hg) | ((with_reducible refine gate_dst (N := 4) rfl ?_);refine box_event ?hg (N := 4) ?hd (cs := #[.bool false,.int .u64 0,.int .u64 0]) (t := 28) ?hr ?_;(case hd => rfl);(case hg => rfl);(case hr => exact Z359);intro gb245 hg w12 hbox hb;have n_ := jA (blk_below (g := gb244) (o := .cells #[.bool a0_0,.int .u64 a0_1,.int .u64 a0_2] 28 (0,0)) Z435 hb) (jA (below_step Z410 hb) (jA (hbox) (jA ((Z296 : w.heap.size ≤ gb245)) (jA ((Z296 : w.heap.size ≤ gb245)) (jA ((Z239 : gb244 ≠ gb245)) (Aside0.mk ((Z240 : gb245 ≠ gb244))))))));clear BK244 HB;obtain ⟨BK244,HB,BK245,GW245,GE245,NB244_245,NB245_244⟩ := n_;clear hb hbox hg;have hnb13 := NB244_245.out;have hnc13 := NB245_244.out;obtain ⟨hcz14_0,hcz14_1,hcz14_2,hfz14_0,hfz14_1,hfz14_2⟩ := impl_ScaleWide.cells3 BK244.out) | ((with_reducible refine gate_callee (f := 31) rfl ?_);refine goesL_ (some 14) rfl rfl Try.func31 Z363 rfl #[.agg #[.bool a0_0,.int .u64 a0_1,.int .u64 a0_2]] rfl Z330 ?_;(with_reducible refine (impl_WideOk.calls a0_0 a0_1 a0_2 true _ A3.out).mono ?_);rintro e w15 ⟨rfl,hb⟩;refine ⟨_,rfl,?_⟩;have n_ := jA (blk_below (g := gb244) (o := .cells #[.bool a0_0,.int .u64 a0_1,.int .u64 a0_2] 28 (0,0)) Z435 hb) (jA (blk_below (g := gb245) (o := .cells #[.bool false,.int .u64 0,.int .u64 0] 28 (0,0)) Z444 hb) (Aside0.mk (below_step Z395 hb)));clear BK244 BK245 HB;obtain ⟨BK244,BK245,HB⟩ := n_;(try clear hb);(try clear hb2);(try clear hk);(try clear hi)) | ((with_reducible refine gate_callee (f := 78) rfl ?_);refine goesL_ (some 18) rfl rfl Try.func78 Z363 rfl #[.int .i64 a1] rfl Z330 ?_;(with_reducible refine (impl_size.calls a1 t247 _ A5.out).mono ?_);rintro e w' ⟨rfl,⟨nd,rfl⟩⟩;refine ⟨_,rfl,?_⟩;(iterate 4 (try (rw [drewN_self w15];generalize hq_ : World.drewN w15 _ = w15;have n0_ : Aside0 (w15.heap[gb244]? = some (.cells #[.bool a0_0,.int .u64 a0_1,.int .u64 a0_2] 28 (0,0))) := ⟨Z334⟩;have n1_ : Aside0 (w15.heap[gb245]? = some (.cells #[.bool false,.int .u64 0,.int .u64 0] 28 (0,0))) := ⟨Z333⟩;have n2_ : Aside0 (Below w.heap.size w w15) := ⟨Z230⟩;clear BK244 BK245 HB hq_;have BK244 := n0_;have BK245 := n1_;have HB := n2_;clear n0_ n1_ n2_)));obtain ⟨hcz16_0,hcz16_1,hcz16_2,hfz16_0,hfz16_1,hfz16_2⟩ := impl_ScaleWide.cells3 BK244.out) | ((with_reducible refine gate_callee (f := 77) rfl ?_);refine goesL_ (some 23) rfl rfl Try.func77 Z363 rfl #[.int .u64 a0_1,.int .u64 t247] rfl Z330 ?_;(with_reducible refine (bits_Mul64.calls a0_1 t247 t248 t249 _ A6.out).mono ?_);rintro e w' ⟨rfl,⟨nd,rfl⟩⟩;refine ⟨_,rfl,?_⟩;(iterate 4 (try (rw [drewN_self w15];generalize hq_ : World.drewN w15 _ = w15;have n0_ : Aside0 (w15.heap[gb244]? = some (.cells #[.bool a0_0,.int .u64 a0_1,.int .u64 a0_2] 28 (0,0))) := ⟨Z334⟩;have n1_ : Aside0 (w15.heap[gb245]? = some (.cells #[.bool false,.int .u64 0,.int .u64 0] 28 (0,0))) := ⟨Z333⟩;have n2_ : Aside0 (Below w.heap.size w w15) := ⟨Z230⟩;clear BK244 BK245 HB hq_;have BK244 := n0_;have BK245 := n1_;have HB := n2_;clear n0_ n1_ n2_)));(try (obtain ⟨hcz16_0,hcz16_1,hcz16_2,hfz16_0,hfz16_1,hfz16_2⟩ := impl_ScaleWide.cells3 BK244.out))) | ((with_reducible refine gate_callee (f := 77) rfl ?_);refine goesL_ (some 30) rfl rfl Try.func77 Z363 rfl #[.int .u64 a0_2,.int .u64 t247] rfl Z330 ?_;(with_reducible refine (bits_Mul64.calls a0_2 t247 t250 t251 _ A7.out).mono ?_);rintro e w' ⟨rfl,⟨nd,rfl⟩⟩;refine ⟨_,rfl,?_⟩;(iterate 4 (try (rw [drewN_self w15];generalize hq_ : World.drewN w15 _ = w15;have n0_ : Aside0 (w15.heap[gb244]? = some (.cells #[.bool a0_0,.int .u64 a0_1,.int .u64 a0_2] 28 (0,0))) := ⟨Z334⟩;have n1_ : Aside0 (w15.heap[gb245]? = some (.cells #[.bool false,.int .u64 0,.int .u64 0] 28 (0,0))) := ⟨Z333⟩;have n2_ : Aside0 (Below w.heap.size w w15) := ⟨Z230⟩;clear BK244 BK245 HB hq_;have BK244 := n0_;have BK245 := n1_;have HB := n2_;clear n0_ n1_ n2_)));(try (obtain ⟨hcz16_0,hcz16_1,hcz16_2,hfz16_0,hfz16_1,hfz16_2⟩ := impl_ScaleWide.cells3 BK244.out))) | (simp only [bits_Add64.run t249 t250 0 t252 t253 A8.out];(iterate 4 (try (rw [drewN_self w15];generalize hq_ : World.drewN w15 _ = w15;have n0_ : Aside0 (w15.heap[gb244]? = some (.cells #[.bool a0_0,.int .u64 a0_1,.int .u64 a0_2] 28 (0,0))) := ⟨Z334⟩;have n1_ : Aside0 (w15.heap[gb245]? = some (.cells #[.bool false,.int .u64 0,.int .u64 0] 28 (0,0))) := ⟨Z333⟩;have n2_ : Aside0 (Below w.heap.size w w15) := ⟨Z230⟩;clear BK244 BK245 HB hq_;have BK244 := n0_;have BK245 := n1_;have HB := n2_;clear n0_ n1_ n2_)));(try (obtain ⟨hcz16_0,hcz16_1,hcz16_2,hfz16_0,hfz16_1,hfz16_2⟩ := impl_ScaleWide.cells3 BK244.out))) | ((with_reducible refine gate_callee (f := 71) rfl ?_);refine goesL_ (some 46) rfl rfl Try.func71 Z363 rfl #[.bool (a0_0 != (decide (a1 < 0))),.int .u64 t252,.int .u64 t251] rfl Z330 ?_;(with_reducible refine (impl_wideOf.calls (a0_0 != (decide (a1 < 0))) t252 t251 t254 t255 t256 _ A9.out).mono ?_);rintro e w17 ⟨rfl,hb⟩;refine ⟨_,rfl,?_⟩;have n_ := jA (blk_below (g := gb244) (o := .cells #[.bool a0_0,.int .u64 a0_1,.int .u64 a0_2] 28 (0,0)) Z435 hb) (jA (blk_below (g := gb245) (o := .cells #[.bool false,.int .u64 0,.int .u64 0] 28 (0,0)) Z444 hb) (Aside0.mk (below_step Z395 hb)));clear BK244 BK245 HB;obtain ⟨BK244,BK245,HB⟩ := n_;(try clear hb);(try clear hb2);(try clear hk);(try clear hi)) | ((with_reducible refine gate_dst (N := 12) rfl ?_);refine box_event ?hg (N := 12) ?hd (cs := #[.bool false,.int .u64 0,.int .u64 0]) (t := 28) ?hr ?_;(case hd => rfl);(case hg => rfl);(case hr => exact Z359);intro gb257 hg w18 hbox hb;have n_ := jA (blk_below (g := gb244) (o := .cells #[.bool a0_0,.int .u64 a0_1,.int .u64 a0_2] 28 (0,0)) Z435 hb) (jA (blk_below (g := gb245) (o := .cells #[.bool false,.int .u64 0,.int .u64 0] 28 (0,0)) Z444 hb) (jA (below_step Z395 hb) (jA (hbox) (jA ((Z204 : w.heap.size ≤ gb257)) (jA ((Z204 : w.heap.size ≤ gb257)) (jA ((Z239 : gb244 ≠ gb257)) (jA ((Z240 : gb257 ≠ gb244)) (jA ((Z269 : gb245 ≠ gb257)) (Aside0.mk ((Z273 : gb257 ≠ gb245)))))))))));clear BK244 BK245 HB;obtain ⟨BK244,BK245,HB,BK257,GW257,GE257,NB244_257,NB257_244,NB245_257,NB257_245⟩ := n_;clear hb hbox hg;have hnb19 := NB257_244.out;have hnc19 := NB244_257.out;have hnb20 := NB257_245.out;have hnc20 := NB245_257.out;obtain ⟨hcz21_0,hcz21_1,hcz21_2,hfz21_0,hfz21_1,hfz21_2⟩ := impl_ScaleWide.cells3 BK257.out;obtain ⟨hcz22_0,hcz22_1,hcz22_2,hfz22_0,hfz22_1,hfz22_2⟩ := impl_ScaleWide.cells3 BK245.out))
      refine bodyPost_ret (results_ct rfl _ _ gb245 28 #[.bool false,.int .u64 0,.int .u64 0] (0,0) _ rfl Z16 Try.underlying28 rfl Z363) rfl ?_
      exact ⟨Z354,Z206⟩
    · rw [if_neg c10] at H
      have c10b0 : decide (0 < t248) = false := decide_eq_false c10
      clear c10
      by_cases c23 : t253 > 0
      · rw [if_pos c23] at H
        have c23b0 : decide (0 < t253) = true := decide_eq_true c23
        clear c23
        simp only [Option.some.injEq,Prod.mk.injEq] at H
        obtain ⟨rfl,rfl,rfl,rfl⟩ := H
        go_enter Try.func68,Try.ntmps68
        go_wp2_with (first | ((with_reducible refine gate_dst (N := 2) rfl ?_);refine box_event ?hg (N := 2) ?hd (cs := #[.bool a0_0,.int .u64 a0_1,.int .u64 a0_2]) (t := 28) ?hr ?_;(case hd => rfl);(case hg => rfl);(case hr => exact Z359);intro gb244 hg w24 hbox hb;have n_ := jA (below_step Z430 hb) (jA (hbox) (jA ((Z321 : w.heap.size ≤ gb244)) (Aside0.mk ((Z321 : w.heap.size ≤ gb244)))));clear HB;obtain ⟨HB,BK244,GW244,GE244⟩ := n_;clear hb hbox hg) | ((with_reducible refine gate_dst (N := 4) rfl ?_);refine box_event ?hg (N := 4) ?hd (cs := #[.bool false,.int .u64 0,.int .u64 0]) (t := 28) ?hr ?_;(case hd => rfl);(case hg => rfl);(case hr => exact Z359);intro gb245 hg w25 hbox hb;have n_ := jA (blk_below (g := gb244) (o := .cells #[.bool a0_0,.int .u64 a0_1,.int .u64 a0_2] 28 (0,0)) Z435 hb) (jA (below_step Z410 hb) (jA (hbox) (jA ((Z296 : w.heap.size ≤ gb245)) (jA ((Z296 : w.heap.size ≤ gb245)) (jA ((Z239 : gb244 ≠ gb245)) (Aside0.mk ((Z240 : gb245 ≠ gb244))))))));clear BK244 HB;obtain ⟨BK244,HB,BK245,GW245,GE245,NB244_245,NB245_244⟩ := n_;clear hb hbox hg;have hnb26 := NB244_245.out;have hnc26 := NB245_244.out;obtain ⟨hcz27_0,hcz27_1,hcz27_2,hfz27_0,hfz27_1,hfz27_2⟩ := impl_ScaleWide.cells3 BK244.out) | ((with_reducible refine gate_callee (f := 31) rfl ?_);refine goesL_ (some 14) rfl rfl Try.func31 Z363 rfl #[.agg #[.bool a0_0,.int .u64 a0_1,.int .u64 a0_2]] rfl Z330 ?_;(with_reducible refine (impl_WideOk.calls a0_0 a0_1 a0_2 true _ A3.out).mono ?_);rintro e w28 ⟨rfl,hb⟩;refine ⟨_,rfl,?_⟩;have n_ := jA (blk_below (g := gb244) (o := .cells #[.bool a0_0,.int .u64 a0_1,.int .u64 a0_2] 28 (0,0)) Z435 hb) (jA (blk_below (g := gb245) (o := .cells #[.bool false,.int .u64 0,.int .u64 0] 28 (0,0)) Z444 hb) (Aside0.mk (below_step Z395 hb)));clear BK244 BK245 HB;obtain ⟨BK244,BK245,HB⟩ := n_;(try clear hb);(try clear hb2);(try clear hk);(try clear hi)) | ((with_reducible refine gate_callee (f := 78) rfl ?_);refine goesL_ (some 18) rfl rfl Try.func78 Z363 rfl #[.int .i64 a1] rfl Z330 ?_;(with_reducible refine (impl_size.calls a1 t247 _ A5.out).mono ?_);rintro e w' ⟨rfl,⟨nd,rfl⟩⟩;refine ⟨_,rfl,?_⟩;(iterate 4 (try (rw [drewN_self w28];generalize hq_ : World.drewN w28 _ = w28;have n0_ : Aside0 (w28.heap[gb244]? = some (.cells #[.bool a0_0,.int .u64 a0_1,.int .u64 a0_2] 28 (0,0))) := ⟨Z334⟩;have n1_ : Aside0 (w28.heap[gb245]? = some (.cells #[.bool false,.int .u64 0,.int .u64 0] 28 (0,0))) := ⟨Z333⟩;have n2_ : Aside0 (Below w.heap.size w w28) := ⟨Z230⟩;clear BK244 BK245 HB hq_;have BK244 := n0_;have BK245 := n1_;have HB := n2_;clear n0_ n1_ n2_)));obtain ⟨hcz29_0,hcz29_1,hcz29_2,hfz29_0,hfz29_1,hfz29_2⟩ := impl_ScaleWide.cells3 BK244.out) | ((with_reducible refine gate_callee (f := 77) rfl ?_);refine goesL_ (some 23) rfl rfl Try.func77 Z363 rfl #[.int .u64 a0_1,.int .u64 t247] rfl Z330 ?_;(with_reducible refine (bits_Mul64.calls a0_1 t247 t248 t249 _ A6.out).mono ?_);rintro e w' ⟨rfl,⟨nd,rfl⟩⟩;refine ⟨_,rfl,?_⟩;(iterate 4 (try (rw [drewN_self w28];generalize hq_ : World.drewN w28 _ = w28;have n0_ : Aside0 (w28.heap[gb244]? = some (.cells #[.bool a0_0,.int .u64 a0_1,.int .u64 a0_2] 28 (0,0))) := ⟨Z334⟩;have n1_ : Aside0 (w28.heap[gb245]? = some (.cells #[.bool false,.int .u64 0,.int .u64 0] 28 (0,0))) := ⟨Z333⟩;have n2_ : Aside0 (Below w.heap.size w w28) := ⟨Z230⟩;clear BK244 BK245 HB hq_;have BK244 := n0_;have BK245 := n1_;have HB := n2_;clear n0_ n1_ n2_)));(try (obtain ⟨hcz29_0,hcz29_1,hcz29_2,hfz29_0,hfz29_1,hfz29_2⟩ := impl_ScaleWide.cells3 BK244.out))) | ((with_reducible refine gate_callee (f := 77) rfl ?_);refine goesL_ (some 30) rfl rfl Try.func77 Z363 rfl #[.int .u64 a0_2,.int .u64 t247] rfl Z330 ?_;(with_reducible refine (bits_Mul64.calls a0_2 t247 t250 t251 _ A7.out).mono ?_);rintro e w' ⟨rfl,⟨nd,rfl⟩⟩;refine ⟨_,rfl,?_⟩;(iterate 4 (try (rw [drewN_self w28];generalize hq_ : World.drewN w28 _ = w28;have n0_ : Aside0 (w28.heap[gb244]? = some (.cells #[.bool a0_0,.int .u64 a0_1,.int .u64 a0_2] 28 (0,0))) := ⟨Z334⟩;have n1_ : Aside0 (w28.heap[gb245]? = some (.cells #[.bool false,.int .u64 0,.int .u64 0] 28 (0,0))) := ⟨Z333⟩;have n2_ : Aside0 (Below w.heap.size w w28) := ⟨Z230⟩;clear BK244 BK245 HB hq_;have BK244 := n0_;have BK245 := n1_;have HB := n2_;clear n0_ n1_ n2_)));(try (obtain ⟨hcz29_0,hcz29_1,hcz29_2,hfz29_0,hfz29_1,hfz29_2⟩ := impl_ScaleWide.cells3 BK244.out))) | (simp only [bits_Add64.run t249 t250 0 t252 t253 A8.out];(iterate 4 (try (rw [drewN_self w28];generalize hq_ : World.drewN w28 _ = w28;have n0_ : Aside0 (w28.heap[gb244]? = some (.cells #[.bool a0_0,.int .u64 a0_1,.int .u64 a0_2] 28 (0,0))) := ⟨Z334⟩;have n1_ : Aside0 (w28.heap[gb245]? = some (.cells #[.bool false,.int .u64 0,.int .u64 0] 28 (0,0))) := ⟨Z333⟩;have n2_ : Aside0 (Below w.heap.size w w28) := ⟨Z230⟩;clear BK244 BK245 HB hq_;have BK244 := n0_;have BK245 := n1_;have HB := n2_;clear n0_ n1_ n2_)));(try (obtain ⟨hcz29_0,hcz29_1,hcz29_2,hfz29_0,hfz29_1,hfz29_2⟩ := impl_ScaleWide.cells3 BK244.out))) | ((with_reducible refine gate_callee (f := 71) rfl ?_);refine goesL_ (some 46) rfl rfl Try.func71 Z363 rfl #[.bool (a0_0 != (decide (a1 < 0))),.int .u64 t252,.int .u64 t251] rfl Z330 ?_;(with_reducible refine (impl_wideOf.calls (a0_0 != (decide (a1 < 0))) t252 t251 t254 t255 t256 _ A9.out).mono ?_);rintro e w30 ⟨rfl,hb⟩;refine ⟨_,rfl,?_⟩;have n_ := jA (blk_below (g := gb244) (o := .cells #[.bool a0_0,.int .u64 a0_1,.int .u64 a0_2] 28 (0,0)) Z435 hb) (jA (blk_below (g := gb245) (o := .cells #[.bool false,.int .u64 0,.int .u64 0] 28 (0,0)) Z444 hb) (Aside0.mk (below_step Z395 hb)));clear BK244 BK245 HB;obtain ⟨BK244,BK245,HB⟩ := n_;(try clear hb);(try clear hb2);(try clear hk);(try clear hi)) | ((with_reducible refine gate_dst (N := 12) rfl ?_);refine box_event ?hg (N := 12) ?hd (cs := #[.bool false,.int .u64 0,.int .u64 0]) (t := 28) ?hr ?_;(case hd => rfl);(case hg => rfl);(case hr => exact Z359);intro gb257 hg w31 hbox hb;have n_ := jA (blk_below (g := gb244) (o := .cells #[.bool a0_0,.int .u64 a0_1,.int .u64 a0_2] 28 (0,0)) Z435 hb) (jA (blk_below (g := gb245) (o := .cells #[.bool false,.int .u64 0,.int .u64 0] 28 (0,0)) Z444 hb) (jA (below_step Z395 hb) (jA (hbox) (jA ((Z204 : w.heap.size ≤ gb257)) (jA ((Z204 : w.heap.size ≤ gb257)) (jA ((Z239 : gb244 ≠ gb257)) (jA ((Z240 : gb257 ≠ gb244)) (jA ((Z269 : gb245 ≠ gb257)) (Aside0.mk ((Z273 : gb257 ≠ gb245)))))))))));clear BK244 BK245 HB;obtain ⟨BK244,BK245,HB,BK257,GW257,GE257,NB244_257,NB257_244,NB245_257,NB257_245⟩ := n_;clear hb hbox hg;have hnb32 := NB257_244.out;have hnc32 := NB244_257.out;have hnb33 := NB257_245.out;have hnc33 := NB245_257.out;obtain ⟨hcz34_0,hcz34_1,hcz34_2,hfz34_0,hfz34_1,hfz34_2⟩ := impl_ScaleWide.cells3 BK257.out;obtain ⟨hcz35_0,hcz35_1,hcz35_2,hfz35_0,hfz35_1,hfz35_2⟩ := impl_ScaleWide.cells3 BK245.out))
        refine bodyPost_ret (results_ct rfl _ _ gb245 28 #[.bool false,.int .u64 0,.int .u64 0] (0,0) _ rfl Z16 Try.underlying28 rfl Z363) rfl ?_
        exact ⟨Z354,Z206⟩
      · rw [if_neg c23] at H
        have c23b0 : decide (0 < t253) = false := decide_eq_false c23
        clear c23
        obtain ⟨t258,A360,H⟩ := Option.bind_eq_some_iff.mp H
        have A36 := Aside0.mk A360
        clear A360
        by_cases c37 : t258 = true
        · subst c37
          have H1 : (some (t254,t255,t256,true)) = some (r1,r2,r3,r4) := by rw [if_pos rfl] at H;exact H
          clear H
          have H := H1
          clear H1
          simp only [Option.some.injEq,Prod.mk.injEq] at H
          obtain ⟨rfl,rfl,rfl,rfl⟩ := H
          go_enter Try.func68,Try.ntmps68
          go_wp2_with (first | ((with_reducible refine gate_dst (N := 2) rfl ?_);refine box_event ?hg (N := 2) ?hd (cs := #[.bool a0_0,.int .u64 a0_1,.int .u64 a0_2]) (t := 28) ?hr ?_;(case hd => rfl);(case hg => rfl);(case hr => exact Z359);intro gb244 hg w38 hbox hb;have n_ := jA (below_step Z430 hb) (jA (hbox) (jA ((Z321 : w.heap.size ≤ gb244)) (Aside0.mk ((Z321 : w.heap.size ≤ gb244)))));clear HB;obtain ⟨HB,BK244,GW244,GE244⟩ := n_;clear hb hbox hg) | ((with_reducible refine gate_dst (N := 4) rfl ?_);refine box_event ?hg (N := 4) ?hd (cs := #[.bool false,.int .u64 0,.int .u64 0]) (t := 28) ?hr ?_;(case hd => rfl);(case hg => rfl);(case hr => exact Z359);intro gb245 hg w39 hbox hb;have n_ := jA (blk_below (g := gb244) (o := .cells #[.bool a0_0,.int .u64 a0_1,.int .u64 a0_2] 28 (0,0)) Z435 hb) (jA (below_step Z410 hb) (jA (hbox) (jA ((Z296 : w.heap.size ≤ gb245)) (jA ((Z296 : w.heap.size ≤ gb245)) (jA ((Z239 : gb244 ≠ gb245)) (Aside0.mk ((Z240 : gb245 ≠ gb244))))))));clear BK244 HB;obtain ⟨BK244,HB,BK245,GW245,GE245,NB244_245,NB245_244⟩ := n_;clear hb hbox hg;have hnb40 := NB244_245.out;have hnc40 := NB245_244.out;obtain ⟨hcz41_0,hcz41_1,hcz41_2,hfz41_0,hfz41_1,hfz41_2⟩ := impl_ScaleWide.cells3 BK244.out) | ((with_reducible refine gate_callee (f := 31) rfl ?_);refine goesL_ (some 14) rfl rfl Try.func31 Z363 rfl #[.agg #[.bool a0_0,.int .u64 a0_1,.int .u64 a0_2]] rfl Z330 ?_;(with_reducible refine (impl_WideOk.calls a0_0 a0_1 a0_2 true _ A3.out).mono ?_);rintro e w42 ⟨rfl,hb⟩;refine ⟨_,rfl,?_⟩;have n_ := jA (blk_below (g := gb244) (o := .cells #[.bool a0_0,.int .u64 a0_1,.int .u64 a0_2] 28 (0,0)) Z435 hb) (jA (blk_below (g := gb245) (o := .cells #[.bool false,.int .u64 0,.int .u64 0] 28 (0,0)) Z444 hb) (Aside0.mk (below_step Z395 hb)));clear BK244 BK245 HB;obtain ⟨BK244,BK245,HB⟩ := n_;(try clear hb);(try clear hb2);(try clear hk);(try clear hi)) | ((with_reducible refine gate_callee (f := 78) rfl ?_);refine goesL_ (some 18) rfl rfl Try.func78 Z363 rfl #[.int .i64 a1] rfl Z330 ?_;(with_reducible refine (impl_size.calls a1 t247 _ A5.out).mono ?_);rintro e w' ⟨rfl,⟨nd,rfl⟩⟩;refine ⟨_,rfl,?_⟩;(iterate 4 (try (rw [drewN_self w42];generalize hq_ : World.drewN w42 _ = w42;have n0_ : Aside0 (w42.heap[gb244]? = some (.cells #[.bool a0_0,.int .u64 a0_1,.int .u64 a0_2] 28 (0,0))) := ⟨Z334⟩;have n1_ : Aside0 (w42.heap[gb245]? = some (.cells #[.bool false,.int .u64 0,.int .u64 0] 28 (0,0))) := ⟨Z333⟩;have n2_ : Aside0 (Below w.heap.size w w42) := ⟨Z230⟩;clear BK244 BK245 HB hq_;have BK244 := n0_;have BK245 := n1_;have HB := n2_;clear n0_ n1_ n2_)));obtain ⟨hcz43_0,hcz43_1,hcz43_2,hfz43_0,hfz43_1,hfz43_2⟩ := impl_ScaleWide.cells3 BK244.out) | ((with_reducible refine gate_callee (f := 77) rfl ?_);refine goesL_ (some 23) rfl rfl Try.func77 Z363 rfl #[.int .u64 a0_1,.int .u64 t247] rfl Z330 ?_;(with_reducible refine (bits_Mul64.calls a0_1 t247 t248 t249 _ A6.out).mono ?_);rintro e w' ⟨rfl,⟨nd,rfl⟩⟩;refine ⟨_,rfl,?_⟩;(iterate 4 (try (rw [drewN_self w42];generalize hq_ : World.drewN w42 _ = w42;have n0_ : Aside0 (w42.heap[gb244]? = some (.cells #[.bool a0_0,.int .u64 a0_1,.int .u64 a0_2] 28 (0,0))) := ⟨Z334⟩;have n1_ : Aside0 (w42.heap[gb245]? = some (.cells #[.bool false,.int .u64 0,.int .u64 0] 28 (0,0))) := ⟨Z333⟩;have n2_ : Aside0 (Below w.heap.size w w42) := ⟨Z230⟩;clear BK244 BK245 HB hq_;have BK244 := n0_;have BK245 := n1_;have HB := n2_;clear n0_ n1_ n2_)));(try (obtain ⟨hcz43_0,hcz43_1,hcz43_2,hfz43_0,hfz43_1,hfz43_2⟩ := impl_ScaleWide.cells3 BK244.out))) | ((with_reducible refine gate_callee (f := 77) rfl ?_);refine goesL_ (some 30) rfl rfl Try.func77 Z363 rfl #[.int .u64 a0_2,.int .u64 t247] rfl Z330 ?_;(with_reducible refine (bits_Mul64.calls a0_2 t247 t250 t251 _ A7.out).mono ?_);rintro e w' ⟨rfl,⟨nd,rfl⟩⟩;refine ⟨_,rfl,?_⟩;(iterate 4 (try (rw [drewN_self w42];generalize hq_ : World.drewN w42 _ = w42;have n0_ : Aside0 (w42.heap[gb244]? = some (.cells #[.bool a0_0,.int .u64 a0_1,.int .u64 a0_2] 28 (0,0))) := ⟨Z334⟩;have n1_ : Aside0 (w42.heap[gb245]? = some (.cells #[.bool false,.int .u64 0,.int .u64 0] 28 (0,0))) := ⟨Z333⟩;have n2_ : Aside0 (Below w.heap.size w w42) := ⟨Z230⟩;clear BK244 BK245 HB hq_;have BK244 := n0_;have BK245 := n1_;have HB := n2_;clear n0_ n1_ n2_)));(try (obtain ⟨hcz43_0,hcz43_1,hcz43_2,hfz43_0,hfz43_1,hfz43_2⟩ := impl_ScaleWide.cells3 BK244.out))) | (simp only [bits_Add64.run t249 t250 0 t252 t253 A8.out];(iterate 4 (try (rw [drewN_self w42];generalize hq_ : World.drewN w42 _ = w42;have n0_ : Aside0 (w42.heap[gb244]? = some (.cells #[.bool a0_0,.int .u64 a0_1,.int .u64 a0_2] 28 (0,0))) := ⟨Z334⟩;have n1_ : Aside0 (w42.heap[gb245]? = some (.cells #[.bool false,.int .u64 0,.int .u64 0] 28 (0,0))) := ⟨Z333⟩;have n2_ : Aside0 (Below w.heap.size w w42) := ⟨Z230⟩;clear BK244 BK245 HB hq_;have BK244 := n0_;have BK245 := n1_;have HB := n2_;clear n0_ n1_ n2_)));(try (obtain ⟨hcz43_0,hcz43_1,hcz43_2,hfz43_0,hfz43_1,hfz43_2⟩ := impl_ScaleWide.cells3 BK244.out))) | ((with_reducible refine gate_callee (f := 71) rfl ?_);refine goesL_ (some 46) rfl rfl Try.func71 Z363 rfl #[.bool (a0_0 != (decide (a1 < 0))),.int .u64 t252,.int .u64 t251] rfl Z330 ?_;(with_reducible refine (impl_wideOf.calls (a0_0 != (decide (a1 < 0))) t252 t251 t254 t255 t256 _ A9.out).mono ?_);rintro e w44 ⟨rfl,hb⟩;refine ⟨_,rfl,?_⟩;have n_ := jA (blk_below (g := gb244) (o := .cells #[.bool a0_0,.int .u64 a0_1,.int .u64 a0_2] 28 (0,0)) Z435 hb) (jA (blk_below (g := gb245) (o := .cells #[.bool false,.int .u64 0,.int .u64 0] 28 (0,0)) Z444 hb) (Aside0.mk (below_step Z395 hb)));clear BK244 BK245 HB;obtain ⟨BK244,BK245,HB⟩ := n_;(try clear hb);(try clear hb2);(try clear hk);(try clear hi)) | ((with_reducible refine gate_dst (N := 12) rfl ?_);refine box_event ?hg (N := 12) ?hd (cs := #[.bool false,.int .u64 0,.int .u64 0]) (t := 28) ?hr ?_;(case hd => rfl);(case hg => rfl);(case hr => exact Z359);intro gb257 hg w45 hbox hb;have n_ := jA (blk_below (g := gb244) (o := .cells #[.bool a0_0,.int .u64 a0_1,.int .u64 a0_2] 28 (0,0)) Z435 hb) (jA (blk_below (g := gb245) (o := .cells #[.bool false,.int .u64 0,.int .u64 0] 28 (0,0)) Z444 hb) (jA (below_step Z395 hb) (jA (hbox) (jA ((Z204 : w.heap.size ≤ gb257)) (jA ((Z204 : w.heap.size ≤ gb257)) (jA ((Z239 : gb244 ≠ gb257)) (jA ((Z240 : gb257 ≠ gb244)) (jA ((Z269 : gb245 ≠ gb257)) (Aside0.mk ((Z273 : gb257 ≠ gb245)))))))))));clear BK244 BK245 HB;obtain ⟨BK244,BK245,HB,BK257,GW257,GE257,NB244_257,NB257_244,NB245_257,NB257_245⟩ := n_;clear hb hbox hg;have hnb46 := NB257_244.out;have hnc46 := NB244_257.out;have hnb47 := NB257_245.out;have hnc47 := NB245_257.out;obtain ⟨hcz48_0,hcz48_1,hcz48_2,hfz48_0,hfz48_1,hfz48_2⟩ := impl_ScaleWide.cells3 BK257.out) | (go_at_call 31;(with_reducible refine (impl_WideOk.calls t254 t255 t256 true _ A36.out).mono ?_);rintro e w49 ⟨rfl,hb⟩;have n_ := jA (blk_below (g := gb244) (o := .cells #[.bool a0_0,.int .u64 a0_1,.int .u64 a0_2] 28 (0,0)) Z100 hb) (jA (blk_below (g := gb245) (o := .cells #[.bool false,.int .u64 0,.int .u64 0] 28 (0,0)) Z99 hb) (jA (blk_below (g := gb257) (o := .cells #[.bool t254,.int .u64 t255,.int .u64 t256] 28 (0,0)) Z58 hb) (Aside0.mk (below_step Z206 hb))));clear BK244 BK245 BK257 HB;obtain ⟨BK244,BK245,BK257,HB⟩ := n_;(try clear hb);(try clear hb2);(try clear hk);(try clear hi);obtain ⟨hcz50_0,hcz50_1,hcz50_2,hfz50_0,hfz50_1,hfz50_2⟩ := impl_ScaleWide.cells3 BK257.out;obtain ⟨hcz51_0,hcz51_1,hcz51_2,hfz51_0,hfz51_1,hfz51_2⟩ := impl_ScaleWide.cells3 BK245.out))
          refine bodyPost_ret (results_ct rfl _ _ gb245 28 #[.bool t254,.int .u64 t255,.int .u64 t256] (0,0) _ rfl (by (with_reducible repeat (first | refine bA ?_ _ | refine bB ?_ | refine bC ?_ _));refine blk_put (cs := #[.bool t254,.int .u64 t255,.int .u64 0]) ?_ 2 _ rfl;(with_reducible repeat (first | refine bA ?_ _ | refine bB ?_ | refine bC ?_ _));refine blk_put (cs := #[.bool t254,.int .u64 0,.int .u64 0]) ?_ 1 _ rfl;(with_reducible repeat (first | refine bA ?_ _ | refine bB ?_ | refine bC ?_ _));refine blk_put (cs := #[.bool false,.int .u64 0,.int .u64 0]) ?_ 0 _ rfl;(with_reducible repeat (first | refine bA ?_ _ | refine bB ?_ | refine bC ?_ _));exact BK245.out) Try.underlying28 rfl Z363) rfl ?_
          exact ⟨Z354,Z206⟩
        · replace c37 := Bool.eq_false_iff.mpr c37
          subst c37
          have H1 : (some (false,0,0,false)) = some (r1,r2,r3,r4) := by rw [if_neg (show ¬ (false = true) by decide)] at H;exact H
          clear H
          have H := H1
          clear H1
          simp only [Option.some.injEq,Prod.mk.injEq] at H
          obtain ⟨rfl,rfl,rfl,rfl⟩ := H
          go_enter Try.func68,Try.ntmps68
          go_wp2_with (first | ((with_reducible refine gate_dst (N := 2) rfl ?_);refine box_event ?hg (N := 2) ?hd (cs := #[.bool a0_0,.int .u64 a0_1,.int .u64 a0_2]) (t := 28) ?hr ?_;(case hd => rfl);(case hg => rfl);(case hr => exact Z359);intro gb244 hg w52 hbox hb;have n_ := jA (below_step Z430 hb) (jA (hbox) (jA ((Z321 : w.heap.size ≤ gb244)) (Aside0.mk ((Z321 : w.heap.size ≤ gb244)))));clear HB;obtain ⟨HB,BK244,GW244,GE244⟩ := n_;clear hb hbox hg) | ((with_reducible refine gate_dst (N := 4) rfl ?_);refine box_event ?hg (N := 4) ?hd (cs := #[.bool false,.int .u64 0,.int .u64 0]) (t := 28) ?hr ?_;(case hd => rfl);(case hg => rfl);(case hr => exact Z359);intro gb245 hg w53 hbox hb;have n_ := jA (blk_below (g := gb244) (o := .cells #[.bool a0_0,.int .u64 a0_1,.int .u64 a0_2] 28 (0,0)) Z435 hb) (jA (below_step Z410 hb) (jA (hbox) (jA ((Z296 : w.heap.size ≤ gb245)) (jA ((Z296 : w.heap.size ≤ gb245)) (jA ((Z239 : gb244 ≠ gb245)) (Aside0.mk ((Z240 : gb245 ≠ gb244))))))));clear BK244 HB;obtain ⟨BK244,HB,BK245,GW245,GE245,NB244_245,NB245_244⟩ := n_;clear hb hbox hg;have hnb54 := NB244_245.out;have hnc54 := NB245_244.out;obtain ⟨hcz55_0,hcz55_1,hcz55_2,hfz55_0,hfz55_1,hfz55_2⟩ := impl_ScaleWide.cells3 BK244.out) | ((with_reducible refine gate_callee (f := 31) rfl ?_);refine goesL_ (some 14) rfl rfl Try.func31 Z363 rfl #[.agg #[.bool a0_0,.int .u64 a0_1,.int .u64 a0_2]] rfl Z330 ?_;(with_reducible refine (impl_WideOk.calls a0_0 a0_1 a0_2 true _ A3.out).mono ?_);rintro e w56 ⟨rfl,hb⟩;refine ⟨_,rfl,?_⟩;have n_ := jA (blk_below (g := gb244) (o := .cells #[.bool a0_0,.int .u64 a0_1,.int .u64 a0_2] 28 (0,0)) Z435 hb) (jA (blk_below (g := gb245) (o := .cells #[.bool false,.int .u64 0,.int .u64 0] 28 (0,0)) Z444 hb) (Aside0.mk (below_step Z395 hb)));clear BK244 BK245 HB;obtain ⟨BK244,BK245,HB⟩ := n_;(try clear hb);(try clear hb2);(try clear hk);(try clear hi)) | ((with_reducible refine gate_callee (f := 78) rfl ?_);refine goesL_ (some 18) rfl rfl Try.func78 Z363 rfl #[.int .i64 a1] rfl Z330 ?_;(with_reducible refine (impl_size.calls a1 t247 _ A5.out).mono ?_);rintro e w' ⟨rfl,⟨nd,rfl⟩⟩;refine ⟨_,rfl,?_⟩;(iterate 4 (try (rw [drewN_self w56];generalize hq_ : World.drewN w56 _ = w56;have n0_ : Aside0 (w56.heap[gb244]? = some (.cells #[.bool a0_0,.int .u64 a0_1,.int .u64 a0_2] 28 (0,0))) := ⟨Z334⟩;have n1_ : Aside0 (w56.heap[gb245]? = some (.cells #[.bool false,.int .u64 0,.int .u64 0] 28 (0,0))) := ⟨Z333⟩;have n2_ : Aside0 (Below w.heap.size w w56) := ⟨Z230⟩;clear BK244 BK245 HB hq_;have BK244 := n0_;have BK245 := n1_;have HB := n2_;clear n0_ n1_ n2_)));obtain ⟨hcz57_0,hcz57_1,hcz57_2,hfz57_0,hfz57_1,hfz57_2⟩ := impl_ScaleWide.cells3 BK244.out) | ((with_reducible refine gate_callee (f := 77) rfl ?_);refine goesL_ (some 23) rfl rfl Try.func77 Z363 rfl #[.int .u64 a0_1,.int .u64 t247] rfl Z330 ?_;(with_reducible refine (bits_Mul64.calls a0_1 t247 t248 t249 _ A6.out).mono ?_);rintro e w' ⟨rfl,⟨nd,rfl⟩⟩;refine ⟨_,rfl,?_⟩;(iterate 4 (try (rw [drewN_self w56];generalize hq_ : World.drewN w56 _ = w56;have n0_ : Aside0 (w56.heap[gb244]? = some (.cells #[.bool a0_0,.int .u64 a0_1,.int .u64 a0_2] 28 (0,0))) := ⟨Z334⟩;have n1_ : Aside0 (w56.heap[gb245]? = some (.cells #[.bool false,.int .u64 0,.int .u64 0] 28 (0,0))) := ⟨Z333⟩;have n2_ : Aside0 (Below w.heap.size w w56) := ⟨Z230⟩;clear BK244 BK245 HB hq_;have BK244 := n0_;have BK245 := n1_;have HB := n2_;clear n0_ n1_ n2_)));(try (obtain ⟨hcz57_0,hcz57_1,hcz57_2,hfz57_0,hfz57_1,hfz57_2⟩ := impl_ScaleWide.cells3 BK244.out))) | ((with_reducible refine gate_callee (f := 77) rfl ?_);refine goesL_ (some 30) rfl rfl Try.func77 Z363 rfl #[.int .u64 a0_2,.int .u64 t247] rfl Z330 ?_;(with_reducible refine (bits_Mul64.calls a0_2 t247 t250 t251 _ A7.out).mono ?_);rintro e w' ⟨rfl,⟨nd,rfl⟩⟩;refine ⟨_,rfl,?_⟩;(iterate 4 (try (rw [drewN_self w56];generalize hq_ : World.drewN w56 _ = w56;have n0_ : Aside0 (w56.heap[gb244]? = some (.cells #[.bool a0_0,.int .u64 a0_1,.int .u64 a0_2] 28 (0,0))) := ⟨Z334⟩;have n1_ : Aside0 (w56.heap[gb245]? = some (.cells #[.bool false,.int .u64 0,.int .u64 0] 28 (0,0))) := ⟨Z333⟩;have n2_ : Aside0 (Below w.heap.size w w56) := ⟨Z230⟩;clear BK244 BK245 HB hq_;have BK244 := n0_;have BK245 := n1_;have HB := n2_;clear n0_ n1_ n2_)));(try (obtain ⟨hcz57_0,hcz57_1,hcz57_2,hfz57_0,hfz57_1,hfz57_2⟩ := impl_ScaleWide.cells3 BK244.out))) | (simp only [bits_Add64.run t249 t250 0 t252 t253 A8.out];(iterate 4 (try (rw [drewN_self w56];generalize hq_ : World.drewN w56 _ = w56;have n0_ : Aside0 (w56.heap[gb244]? = some (.cells #[.bool a0_0,.int .u64 a0_1,.int .u64 a0_2] 28 (0,0))) := ⟨Z334⟩;have n1_ : Aside0 (w56.heap[gb245]? = some (.cells #[.bool false,.int .u64 0,.int .u64 0] 28 (0,0))) := ⟨Z333⟩;have n2_ : Aside0 (Below w.heap.size w w56) := ⟨Z230⟩;clear BK244 BK245 HB hq_;have BK244 := n0_;have BK245 := n1_;have HB := n2_;clear n0_ n1_ n2_)));(try (obtain ⟨hcz57_0,hcz57_1,hcz57_2,hfz57_0,hfz57_1,hfz57_2⟩ := impl_ScaleWide.cells3 BK244.out))) | ((with_reducible refine gate_callee (f := 71) rfl ?_);refine goesL_ (some 46) rfl rfl Try.func71 Z363 rfl #[.bool (a0_0 != (decide (a1 < 0))),.int .u64 t252,.int .u64 t251] rfl Z330 ?_;(with_reducible refine (impl_wideOf.calls (a0_0 != (decide (a1 < 0))) t252 t251 t254 t255 t256 _ A9.out).mono ?_);rintro e w58 ⟨rfl,hb⟩;refine ⟨_,rfl,?_⟩;have n_ := jA (blk_below (g := gb244) (o := .cells #[.bool a0_0,.int .u64 a0_1,.int .u64 a0_2] 28 (0,0)) Z435 hb) (jA (blk_below (g := gb245) (o := .cells #[.bool false,.int .u64 0,.int .u64 0] 28 (0,0)) Z444 hb) (Aside0.mk (below_step Z395 hb)));clear BK244 BK245 HB;obtain ⟨BK244,BK245,HB⟩ := n_;(try clear hb);(try clear hb2);(try clear hk);(try clear hi)) | ((with_reducible refine gate_dst (N := 12) rfl ?_);refine box_event ?hg (N := 12) ?hd (cs := #[.bool false,.int .u64 0,.int .u64 0]) (t := 28) ?hr ?_;(case hd => rfl);(case hg => rfl);(case hr => exact Z359);intro gb257 hg w59 hbox hb;have n_ := jA (blk_below (g := gb244) (o := .cells #[.bool a0_0,.int .u64 a0_1,.int .u64 a0_2] 28 (0,0)) Z435 hb) (jA (blk_below (g := gb245) (o := .cells #[.bool false,.int .u64 0,.int .u64 0] 28 (0,0)) Z444 hb) (jA (below_step Z395 hb) (jA (hbox) (jA ((Z204 : w.heap.size ≤ gb257)) (jA ((Z204 : w.heap.size ≤ gb257)) (jA ((Z239 : gb244 ≠ gb257)) (jA ((Z240 : gb257 ≠ gb244)) (jA ((Z269 : gb245 ≠ gb257)) (Aside0.mk ((Z273 : gb257 ≠ gb245)))))))))));clear BK244 BK245 HB;obtain ⟨BK244,BK245,HB,BK257,GW257,GE257,NB244_257,NB257_244,NB245_257,NB257_245⟩ := n_;clear hb hbox hg;have hnb60 := NB257_244.out;have hnc60 := NB244_257.out;have hnb61 := NB257_245.out;have hnc61 := NB245_257.out;obtain ⟨hcz62_0,hcz62_1,hcz62_2,hfz62_0,hfz62_1,hfz62_2⟩ := impl_ScaleWide.cells3 BK257.out) | (go_at_call 31;(with_reducible refine (impl_WideOk.calls t254 t255 t256 false _ A36.out).mono ?_);rintro e w63 ⟨rfl,hb⟩;have n_ := jA (blk_below (g := gb244) (o := .cells #[.bool a0_0,.int .u64 a0_1,.int .u64 a0_2] 28 (0,0)) Z100 hb) (jA (blk_below (g := gb245) (o := .cells #[.bool false,.int .u64 0,.int .u64 0] 28 (0,0)) Z99 hb) (jA (blk_below (g := gb257) (o := .cells #[.bool t254,.int .u64 t255,.int .u64 t256] 28 (0,0)) Z58 hb) (Aside0.mk (below_step Z206 hb))));clear BK244 BK245 BK257 HB;obtain ⟨BK244,BK245,BK257,HB⟩ := n_;(try clear hb);(try clear hb2);(try clear hk);(try clear hi);obtain ⟨hcz64_0,hcz64_1,hcz64_2,hfz64_0,hfz64_1,hfz64_2⟩ := impl_ScaleWide.cells3 BK245.out))
          refine bodyPost_ret (results_ct rfl _ _ gb245 28 #[.bool false,.int .u64 0,.int .u64 0] (0,0) _ rfl Z65 Try.underlying28 rfl Z363) rfl ?_
          exact ⟨Z354,Z206⟩
  · replace c4 := Bool.eq_false_iff.mpr c4
    subst c4
    have H1 : (some (false,0,0,false)) = some (r1,r2,r3,r4) := by rw [if_neg (show ¬ (false = true) by decide)] at H;exact H
    clear H
    have H := H1
    clear H1
    simp only [Option.some.injEq,Prod.mk.injEq] at H
    obtain ⟨rfl,rfl,rfl,rfl⟩ := H
    go_enter Try.func68,Try.ntmps68
    go_wp2_with (first | ((with_reducible refine gate_dst (N := 2) rfl ?_);refine box_event ?hg (N := 2) ?hd (cs := #[.bool a0_0,.int .u64 a0_1,.int .u64 a0_2]) (t := 28) ?hr ?_;(case hd => rfl);(case hg => rfl);(case hr => exact Z359);intro gb244 hg w65 hbox hb;have n_ := jA (below_step Z430 hb) (jA (hbox) (jA ((Z321 : w.heap.size ≤ gb244)) (Aside0.mk ((Z321 : w.heap.size ≤ gb244)))));clear HB;obtain ⟨HB,BK244,GW244,GE244⟩ := n_;clear hb hbox hg) | ((with_reducible refine gate_dst (N := 4) rfl ?_);refine box_event ?hg (N := 4) ?hd (cs := #[.bool false,.int .u64 0,.int .u64 0]) (t := 28) ?hr ?_;(case hd => rfl);(case hg => rfl);(case hr => exact Z359);intro gb245 hg w66 hbox hb;have n_ := jA (blk_below (g := gb244) (o := .cells #[.bool a0_0,.int .u64 a0_1,.int .u64 a0_2] 28 (0,0)) Z435 hb) (jA (below_step Z410 hb) (jA (hbox) (jA ((Z296 : w.heap.size ≤ gb245)) (jA ((Z296 : w.heap.size ≤ gb245)) (jA ((Z239 : gb244 ≠ gb245)) (Aside0.mk ((Z240 : gb245 ≠ gb244))))))));clear BK244 HB;obtain ⟨BK244,HB,BK245,GW245,GE245,NB244_245,NB245_244⟩ := n_;clear hb hbox hg;have hnb67 := NB244_245.out;have hnc67 := NB245_244.out;obtain ⟨hcz68_0,hcz68_1,hcz68_2,hfz68_0,hfz68_1,hfz68_2⟩ := impl_ScaleWide.cells3 BK244.out) | ((with_reducible refine gate_callee (f := 31) rfl ?_);refine goesL_ (some 14) rfl rfl Try.func31 Z363 rfl #[.agg #[.bool a0_0,.int .u64 a0_1,.int .u64 a0_2]] rfl Z330 ?_;(with_reducible refine (impl_WideOk.calls a0_0 a0_1 a0_2 false _ A3.out).mono ?_);rintro e w69 ⟨rfl,hb⟩;refine ⟨_,rfl,?_⟩;have n_ := jA (blk_below (g := gb244) (o := .cells #[.bool a0_0,.int .u64 a0_1,.int .u64 a0_2] 28 (0,0)) Z435 hb) (jA (blk_below (g := gb245) (o := .cells #[.bool false,.int .u64 0,.int .u64 0] 28 (0,0)) Z444 hb) (Aside0.mk (below_step Z395 hb)));clear BK244 BK245 HB;obtain ⟨BK244,BK245,HB⟩ := n_;(try clear hb);(try clear hb2);(try clear hk);(try clear hi);obtain ⟨hcz70_0,hcz70_1,hcz70_2,hfz70_0,hfz70_1,hfz70_2⟩ := impl_ScaleWide.cells3 BK245.out))
    refine bodyPost_ret (results_ct rfl _ _ gb245 28 #[.bool false,.int .u64 0,.int .u64 0] (0,0) _ rfl Z65 Try.underlying28 rfl Z363) rfl ?_
    exact ⟨Z354,Z395⟩

/-! ### impl_crossed: function 48 -/
theorem impl_crossed.cells3 {w : World} {g : Nat} {t : TypeId} {a0 a1 a2 : Value} (h : w.heap[g]? = some (.cells #[a0,a1,a2] t (0,0))) : w.cell? ⟨g,0,none⟩ = some a0 ∧ w.cell? ⟨g,1,none⟩ = some a1 ∧ w.cell? ⟨g,2,none⟩ = some a2 ∧ w.frozen? ⟨g,0,none⟩ = false ∧ w.frozen? ⟨g,1,none⟩ = false ∧ w.frozen? ⟨g,2,none⟩ = false := ⟨(blk_cell h 0).trans rfl,(blk_cell h 1).trans rfl,(blk_cell h 2).trans rfl,blk_frozen h 0,blk_frozen h 1,blk_frozen h 2⟩
theorem impl_crossed.cells4 {w : World} {g : Nat} {t : TypeId} {a0 a1 a2 a3 : Value} (h : w.heap[g]? = some (.cells #[a0,a1,a2,a3] t (0,0))) : w.cell? ⟨g,0,none⟩ = some a0 ∧ w.cell? ⟨g,1,none⟩ = some a1 ∧ w.cell? ⟨g,2,none⟩ = some a2 ∧ w.cell? ⟨g,3,none⟩ = some a3 ∧ w.frozen? ⟨g,0,none⟩ = false ∧ w.frozen? ⟨g,1,none⟩ = false ∧ w.frozen? ⟨g,2,none⟩ = false ∧ w.frozen? ⟨g,3,none⟩ = false := ⟨(blk_cell h 0).trans rfl,(blk_cell h 1).trans rfl,(blk_cell h 2).trans rfl,(blk_cell h 3).trans rfl,blk_frozen h 0,blk_frozen h 1,blk_frozen h 2,blk_frozen h 3⟩
def impl_crossed.j0 : Nat → Bool → Bool → Int → Int → Int → Bool → Int → Int → Int → Option (Bool × Int × Int × Bool × Int × Int × Bool)
  | 0,_,_,_,_,_,_,_,_,_ => none
  | k + 1,x18,x260000,x260001,x260002,x260003,x261000,x261001,x261002,x261003 => if x18 = true then (some (false,0,0,false,0,0,false)) else ((impl_ScaleWide.f x260000 x260001 x260002 x261003).bind fun bt265 => ((impl_ScaleWide.f x261000 x261001 x261002 x260003).bind fun bt270 => (if bt265.2.2.2 = true then (some (bt265.1,bt265.2.1,bt265.2.2.1,bt270.1,bt270.2.1,bt270.2.2.1,bt270.2.2.2)) else (some (bt265.1,bt265.2.1,bt265.2.2.1,bt270.1,bt270.2.1,bt270.2.2.1,false)))))
def impl_crossed.f (k : Nat) (a0_0 : Bool) (a0_1 : Int) (a0_2 : Int) (a0_3 : Int) (a1_0 : Bool) (a1_1 : Int) (a1_2 : Int) (a1_3 : Int) : Option (Bool × Int × Int × Bool × Int × Int × Bool) := (impl_FracOk.f a0_0 a0_1 a0_2 a0_3).bind fun t263 => (if t263 = true then ((impl_FracOk.f a1_0 a1_1 a1_2 a1_3).bind fun t264 => (impl_crossed.j0 k (!t264) a0_0 a0_1 a0_2 a0_3 a1_0 a1_1 a1_2 a1_3)) else (impl_crossed.j0 k true a0_0 a0_1 a0_2 a0_3 a1_0 a1_1 a1_2 a1_3))
theorem impl_crossed.mono_l : ∀ k,(∀ y0 y1 y2 y3 y4 y5 y6 y7 y8,LeO (impl_crossed.j0 k y0 y1 y2 y3 y4 y5 y6 y7 y8) (impl_crossed.j0 (k + 1) y0 y1 y2 y3 y4 y5 y6 y7 y8))
  | 0 => fun _ _ _ _ _ _ _ _ _ r h => by simp [impl_crossed.j0] at h
  | k + 1 => by
    have ih0 := impl_crossed.mono_l k
    · intro y0 y1 y2 y3 y4 y5 y6 y7 y8
      unfold impl_crossed.j0
      repeat' first
      | (with_reducible exact ih0 _ _ _ _ _ _ _ _ _)
      | (with_reducible exact LeO.refl _)
      | (with_reducible exact LeO.none _)
      | (with_reducible refine LeO.ite ?_ ?_)
      | (with_reducible refine LeO.bind ?_ (fun _ => ?_))
      | exact ih0 _ _ _ _ _ _ _ _ _
      | exact LeO.none _
      | refine LeO.ite ?_ ?_
      | refine LeO.bind ?_ (fun _ => ?_)
theorem impl_crossed.mono : ∀ a0 a1 a2 a3 a4 a5 a6 a7 k,LeO (impl_crossed.f k a0 a1 a2 a3 a4 a5 a6 a7) (impl_crossed.f (k + 1) a0 a1 a2 a3 a4 a5 a6 a7) := by
  intro a0 a1 a2 a3 a4 a5 a6 a7 k
  have ih0 := impl_crossed.mono_l k
  unfold impl_crossed.f
  repeat' first
      | (with_reducible exact ih0 _ _ _ _ _ _ _ _ _)
      | (with_reducible exact LeO.refl _)
      | (with_reducible exact LeO.none _)
      | (with_reducible refine LeO.ite ?_ ?_)
      | (with_reducible refine LeO.bind ?_ (fun _ => ?_))
      | exact ih0 _ _ _ _ _ _ _ _ _
      | exact LeO.none _
      | refine LeO.ite ?_ ?_
      | refine LeO.bind ?_ (fun _ => ?_)
def impl_crossed.T5 : Bool × List (List Nat × List Nat) := (true,[([],[]),([],[]),([],[]),([2],[2]),([3],[3]),([3,4],[3,4]),([0,3,0],[0]),([1,6,0,1,6],[1]),([5,7,0,1,2,3,4,5,6,7],[5])])
def impl_crossed.B5 : List Nat := [0,0,0,4,12,28,13,79,255]
theorem impl_crossed.tab5 : rtab .any (opsOf Try.f48 5) = impl_crossed.T5 := by kernel_rfl
theorem impl_crossed.bits5 : waitsOk impl_crossed.T5.2 impl_crossed.B5 = true := by kernel_rfl
set_option maxHeartbeats 8000000 in
set_option maxRecDepth 100000 in
theorem impl_crossed.calls (k : Nat) (a0_0 : Bool) (a0_1 : Int) (a0_2 : Int) (a0_3 : Int) (a1_0 : Bool) (a1_1 : Int) (a1_2 : Int) (a1_3 : Int) (r1 : Bool) (r2 : Int) (r3 : Int) (r4 : Bool) (r5 : Int) (r6 : Int) (r7 : Bool) (w : World) (h : impl_crossed.f k a0_0 a0_1 a0_2 a0_3 a1_0 a1_1 a1_2 a1_3 = some (r1,r2,r3,r4,r5,r6,r7)) :
    Calls Try.prog 48 #[.agg #[.bool a0_0,.int .u64 a0_1,.int .u64 a0_2,.int .i64 a0_3],.agg #[.bool a1_0,.int .u64 a1_1,.int .u64 a1_2,.int .i64 a1_3]] w fun e w' => e = .returned (.tuple #[.agg #[.bool r1,.int .u64 r2,.int .u64 r3],.agg #[.bool r4,.int .u64 r5,.int .u64 r6],.bool r7]) ∧ Below w.heap.size w w' := by
  have hu30 := Try.underlying30
  have hu28 := Try.underlying28
  have HB := Aside0.mk (Below.refl w.heap.size w)
  have H : ((impl_FracOk.f a0_0 a0_1 a0_2 a0_3).bind fun t263 => (if t263 = true then ((impl_FracOk.f a1_0 a1_1 a1_2 a1_3).bind fun t264 => (impl_crossed.j0 k (!t264) a0_0 a0_1 a0_2 a0_3 a1_0 a1_1 a1_2 a1_3)) else (impl_crossed.j0 k true a0_0 a0_1 a0_2 a0_3 a1_0 a1_1 a1_2 a1_3))) = some (r1,r2,r3,r4,r5,r6,r7) := h
  clear h
  have HC3 := Aside0.mk H
  clear H
  go_enter Try.func48,Try.ntmps48
  go_upto_region 1 with (first | ((with_reducible refine gate_dst (N := 2) rfl ?_);refine box_event ?hg (N := 2) ?hd (cs := #[.bool a0_0,.int .u64 a0_1,.int .u64 a0_2,.int .i64 a0_3]) (t := 30) ?hr ?_;(case hd => rfl);(case hg => rfl);(case hr => exact Z359);intro gb259 hg w4 hbox hb;have n_ := jA (below_step Z430 hb) (jA (hbox) (jA ((Z321 : w.heap.size ≤ gb259)) (Aside0.mk ((Z321 : w.heap.size ≤ gb259)))));clear HB;obtain ⟨HB,BK259,GW259,GE259⟩ := n_;clear hb hbox hg) | ((with_reducible refine gate_dst (N := 3) rfl ?_);refine box_event ?hg (N := 3) ?hd (cs := #[.bool a1_0,.int .u64 a1_1,.int .u64 a1_2,.int .i64 a1_3]) (t := 30) ?hr ?_;(case hd => rfl);(case hg => rfl);(case hr => exact Z359);intro gb260 hg w5 hbox hb;have n_ := jA (blk_below (g := gb259) (o := .cells #[.bool a0_0,.int .u64 a0_1,.int .u64 a0_2,.int .i64 a0_3] 30 (0,0)) Z446 hb) (jA (below_step Z424 hb) (jA (hbox) (jA ((Z311 : w.heap.size ≤ gb260)) (jA ((Z311 : w.heap.size ≤ gb260)) (jA ((Z185 : gb259 ≠ gb260)) (Aside0.mk ((Z188 : gb260 ≠ gb259))))))));clear BK259 HB;obtain ⟨BK259,HB,BK260,GW260,GE260,NB259_260,NB260_259⟩ := n_;clear hb hbox hg) | ((with_reducible refine gate_dst (N := 4) rfl ?_);refine box_event ?hg (N := 4) ?hd (cs := #[.bool false,.int .u64 0,.int .u64 0]) (t := 28) ?hr ?_;(case hd => rfl);(case hg => rfl);(case hr => exact Z359);intro gb261 hg w6 hbox hb;have n_ := jA (blk_below (g := gb259) (o := .cells #[.bool a0_0,.int .u64 a0_1,.int .u64 a0_2,.int .i64 a0_3] 30 (0,0)) Z446 hb) (jA (blk_below (g := gb260) (o := .cells #[.bool a1_0,.int .u64 a1_1,.int .u64 a1_2,.int .i64 a1_3] 30 (0,0)) Z449 hb) (jA (below_step Z405 hb) (jA (hbox) (jA ((Z214 : w.heap.size ≤ gb261)) (jA ((Z214 : w.heap.size ≤ gb261)) (jA ((Z185 : gb259 ≠ gb261)) (jA ((Z188 : gb261 ≠ gb259)) (jA ((Z191 : gb260 ≠ gb261)) (Aside0.mk ((Z194 : gb261 ≠ gb260)))))))))));clear BK259 BK260 HB;obtain ⟨BK259,BK260,HB,BK261,GW261,GE261,NB259_261,NB261_259,NB260_261,NB261_260⟩ := n_;clear hb hbox hg) | ((with_reducible refine gate_dst (N := 5) rfl ?_);refine box_event ?hg (N := 5) ?hd (cs := #[.bool false,.int .u64 0,.int .u64 0]) (t := 28) ?hr ?_;(case hd => rfl);(case hg => rfl);(case hr => exact Z359);intro gb262 hg w7 hbox hb;have n_ := jA (blk_below (g := gb259) (o := .cells #[.bool a0_0,.int .u64 a0_1,.int .u64 a0_2,.int .i64 a0_3] 30 (0,0)) Z446 hb) (jA (blk_below (g := gb260) (o := .cells #[.bool a1_0,.int .u64 a1_1,.int .u64 a1_2,.int .i64 a1_3] 30 (0,0)) Z449 hb) (jA (blk_below (g := gb261) (o := .cells #[.bool false,.int .u64 0,.int .u64 0] 28 (0,0)) Z454 hb) (jA (below_step Z392 hb) (jA (hbox) (jA ((Z164 : w.heap.size ≤ gb262)) (jA ((Z164 : w.heap.size ≤ gb262)) (jA ((Z185 : gb259 ≠ gb262)) (jA ((Z188 : gb262 ≠ gb259)) (jA ((Z191 : gb260 ≠ gb262)) (jA ((Z194 : gb262 ≠ gb260)) (jA ((Z264 : gb261 ≠ gb262)) (Aside0.mk ((Z266 : gb262 ≠ gb261))))))))))))));clear BK259 BK260 BK261 HB;obtain ⟨BK259,BK260,BK261,HB,BK262,GW262,GE262,NB259_262,NB262_259,NB260_262,NB262_260,NB261_262,NB262_261⟩ := n_;clear hb hbox hg))
  (try simp only [Act.put,List.setIfInBounds_toArray,List.set_cons_zero,List.set_cons_succ])
  go_cut [18] (fun v18 wc => ∃ (kq : Nat) (x18_2 : Bool),v18 = .bool x18_2 ∧ Aside0 (impl_crossed.j0 kq x18_2 a0_0 a0_1 a0_2 a0_3 a1_0 a1_1 a1_2 a1_3 = some (r1,r2,r3,r4,r5,r6,r7)) ∧ Aside0 (kq ≤ k) ∧ Aside0 (wc.heap[gb259]? = some (.cells #[.bool a0_0,.int .u64 a0_1,.int .u64 a0_2,.int .i64 a0_3] 30 (0,0))) ∧ Aside0 (wc.heap[gb260]? = some (.cells #[.bool a1_0,.int .u64 a1_1,.int .u64 a1_2,.int .i64 a1_3] 30 (0,0))) ∧ Aside0 (wc.heap[gb261]? = some (.cells #[.bool false,.int .u64 0,.int .u64 0] 28 (0,0))) ∧ Aside0 (wc.heap[gb262]? = some (.cells #[.bool false,.int .u64 0,.int .u64 0] 28 (0,0))) ∧ Aside0 (Below w.heap.size w wc))
  case first =>
    have H := HC3.out
    clear HC3
    obtain ⟨t263,A80,H⟩ := Option.bind_eq_some_iff.mp H
    have A8 := Aside0.mk A80
    clear A80
    by_cases c9 : t263 = true
    · subst c9
      have H1 : ((impl_FracOk.f a1_0 a1_1 a1_2 a1_3).bind fun t264 => (impl_crossed.j0 k (!t264) a0_0 a0_1 a0_2 a0_3 a1_0 a1_1 a1_2 a1_3)) = some (r1,r2,r3,r4,r5,r6,r7) := by rw [if_pos rfl] at H;exact H
      clear H
      have H := H1
      clear H1
      obtain ⟨t264,A100,H⟩ := Option.bind_eq_some_iff.mp H
      have A10 := Aside0.mk A100
      clear A100
      have H' := Aside0.mk H
      clear H
      have hnb11 := NB259_260.out
      have hnc11 := NB260_259.out
      have hnb12 := NB259_261.out
      have hnc12 := NB261_259.out
      have hnb13 := NB259_262.out
      have hnc13 := NB262_259.out
      obtain ⟨hcz14_0,hcz14_1,hcz14_2,hcz14_3,hfz14_0,hfz14_1,hfz14_2,hfz14_3⟩ := impl_crossed.cells4 BK259.out
      go_wp2_with (first | ((with_reducible refine gate_callee (f := 15) rfl ?_);refine goesL_ (some 12) rfl rfl Try.func15 Z363 rfl #[.agg #[.bool a0_0,.int .u64 a0_1,.int .u64 a0_2,.int .i64 a0_3]] rfl Z330 ?_;(with_reducible refine (impl_FracOk.calls a0_0 a0_1 a0_2 a0_3 true _ A8.out).mono ?_);rintro e w15 ⟨rfl,hb⟩;refine ⟨_,rfl,?_⟩;have n_ := jA (blk_below (g := gb259) (o := .cells #[.bool a0_0,.int .u64 a0_1,.int .u64 a0_2,.int .i64 a0_3] 30 (0,0)) Z446 hb) (jA (blk_below (g := gb260) (o := .cells #[.bool a1_0,.int .u64 a1_1,.int .u64 a1_2,.int .i64 a1_3] 30 (0,0)) Z449 hb) (jA (blk_below (g := gb261) (o := .cells #[.bool false,.int .u64 0,.int .u64 0] 28 (0,0)) Z454 hb) (jA (blk_below (g := gb262) (o := .cells #[.bool false,.int .u64 0,.int .u64 0] 28 (0,0)) Z457 hb) (Aside0.mk (below_step Z379 hb)))));clear BK259 BK260 BK261 BK262 HB;obtain ⟨BK259,BK260,BK261,BK262,HB⟩ := n_;(try clear hb);(try clear hb2);(try clear hk);(try clear hi);have hnb16 := NB260_261.out;have hnc16 := NB261_260.out;have hnb17 := NB260_262.out;have hnc17 := NB262_260.out;obtain ⟨hcz18_0,hcz18_1,hcz18_2,hcz18_3,hfz18_0,hfz18_1,hfz18_2,hfz18_3⟩ := impl_crossed.cells4 BK260.out) | (go_at_call 15;(with_reducible refine (impl_FracOk.calls a1_0 a1_1 a1_2 a1_3 t264 _ A10.out).mono ?_);rintro e w19 ⟨rfl,hb⟩;have n_ := jA (blk_below (g := gb259) (o := .cells #[.bool a0_0,.int .u64 a0_1,.int .u64 a0_2,.int .i64 a0_3] 30 (0,0)) Z446 hb) (jA (blk_below (g := gb260) (o := .cells #[.bool a1_0,.int .u64 a1_1,.int .u64 a1_2,.int .i64 a1_3] 30 (0,0)) Z449 hb) (jA (blk_below (g := gb261) (o := .cells #[.bool false,.int .u64 0,.int .u64 0] 28 (0,0)) Z454 hb) (jA (blk_below (g := gb262) (o := .cells #[.bool false,.int .u64 0,.int .u64 0] 28 (0,0)) Z457 hb) (Aside0.mk (below_step Z379 hb)))));clear BK259 BK260 BK261 BK262 HB;obtain ⟨BK259,BK260,BK261,BK262,HB⟩ := n_;(try clear hb);(try clear hb2);(try clear hk);(try clear hi)))
      go_meet
      case rel => exact ⟨_,(!t264),Z358,H',⟨Z360⟩,⟨Z446⟩,⟨Z449⟩,⟨Z454⟩,⟨Z457⟩,⟨Z379⟩⟩
    · replace c9 := Bool.eq_false_iff.mpr c9
      subst c9
      have H1 : (impl_crossed.j0 k true a0_0 a0_1 a0_2 a0_3 a1_0 a1_1 a1_2 a1_3) = some (r1,r2,r3,r4,r5,r6,r7) := by rw [if_neg (show ¬ (false = true) by decide)] at H;exact H
      clear H
      have H := H1
      clear H1
      have H' := Aside0.mk H
      clear H
      have hnb20 := NB259_260.out
      have hnc20 := NB260_259.out
      have hnb21 := NB259_261.out
      have hnc21 := NB261_259.out
      have hnb22 := NB259_262.out
      have hnc22 := NB262_259.out
      obtain ⟨hcz23_0,hcz23_1,hcz23_2,hcz23_3,hfz23_0,hfz23_1,hfz23_2,hfz23_3⟩ := impl_crossed.cells4 BK259.out
      go_wp2_with (first | ((with_reducible refine gate_callee (f := 15) rfl ?_);refine goesL_ (some 12) rfl rfl Try.func15 Z363 rfl #[.agg #[.bool a0_0,.int .u64 a0_1,.int .u64 a0_2,.int .i64 a0_3]] rfl Z330 ?_;(with_reducible refine (impl_FracOk.calls a0_0 a0_1 a0_2 a0_3 false _ A8.out).mono ?_);rintro e w24 ⟨rfl,hb⟩;refine ⟨_,rfl,?_⟩;have n_ := jA (blk_below (g := gb259) (o := .cells #[.bool a0_0,.int .u64 a0_1,.int .u64 a0_2,.int .i64 a0_3] 30 (0,0)) Z446 hb) (jA (blk_below (g := gb260) (o := .cells #[.bool a1_0,.int .u64 a1_1,.int .u64 a1_2,.int .i64 a1_3] 30 (0,0)) Z449 hb) (jA (blk_below (g := gb261) (o := .cells #[.bool false,.int .u64 0,.int .u64 0] 28 (0,0)) Z454 hb) (jA (blk_below (g := gb262) (o := .cells #[.bool false,.int .u64 0,.int .u64 0] 28 (0,0)) Z457 hb) (Aside0.mk (below_step Z379 hb)))));clear BK259 BK260 BK261 BK262 HB;obtain ⟨BK259,BK260,BK261,BK262,HB⟩ := n_;(try clear hb);(try clear hb2);(try clear hk);(try clear hi)))
      go_meet
      case rel => exact ⟨_,(true),Z358,H',⟨Z360⟩,⟨Z446⟩,⟨Z449⟩,⟨Z454⟩,⟨Z457⟩,⟨Z379⟩⟩
  case rest =>
    clear HC3
    try clear c1
    try clear c2
    try clear p2
    try clear c4
    try clear c9
    try clear c11
    try clear c12
    try clear c13
    try clear c15
    try clear c16
    try clear c17
    try clear c20
    try clear c21
    try clear c22
    try clear hcz14_0
    try clear hcz14_1
    try clear hcz14_2
    try clear hcz14_3
    try clear hcz18_0
    try clear hcz18_1
    try clear hcz18_2
    try clear hcz18_3
    try clear hcz23_0
    try clear hcz23_1
    try clear hcz23_2
    try clear hcz23_3
    try clear hfz14_0
    try clear hfz14_1
    try clear hfz14_2
    try clear hfz14_3
    try clear hfz18_0
    try clear hfz18_1
    try clear hfz18_2
    try clear hfz18_3
    try clear hfz23_0
    try clear hfz23_1
    try clear hfz23_2
    try clear hfz23_3
    obtain ⟨kq,x18_2,rfl,HA,HJ2,BK259,BK260,BK261,BK262,HB⟩ := hcut
    cases kq with
    | zero => exact absurd HA.out (by simp [impl_crossed.j0])
    | succ kj2 =>
      have H := HA.out
      clear HA
      simp only [impl_crossed.j0] at H
      by_cases c25 : x18_2 = true
      · subst c25
        have H1 : (some (false,0,0,false,0,0,false)) = some (r1,r2,r3,r4,r5,r6,r7) := by rw [if_pos rfl] at H;exact H
        clear H
        have H := H1
        clear H1
        simp only [Option.some.injEq,Prod.mk.injEq] at H
        obtain ⟨rfl,rfl,rfl,rfl,rfl,rfl,rfl⟩ := H
        have hnb26 := NB261_259.out
        have hnc26 := NB259_261.out
        have hnb27 := NB261_260.out
        have hnc27 := NB260_261.out
        have hnb28 := NB261_262.out
        have hnc28 := NB262_261.out
        obtain ⟨hcz29_0,hcz29_1,hcz29_2,hfz29_0,hfz29_1,hfz29_2⟩ := impl_crossed.cells3 BK261.out
        have hnb30 := NB262_259.out
        have hnc30 := NB259_262.out
        have hnb31 := NB262_260.out
        have hnc31 := NB260_262.out
        obtain ⟨hcz32_0,hcz32_1,hcz32_2,hfz32_0,hfz32_1,hfz32_2⟩ := impl_crossed.cells3 BK262.out
        go_wp2
        refine bodyPost_ret (results_list (rs := [.cell 4 28,.cell 5 28,.tmp 6]) rfl Z483 (.cell gb261 28 #[.bool false,.int .u64 0,.int .u64 0] (0,0) _ rfl (by (with_reducible repeat (first | refine bA ?_ _ | refine bB ?_ | refine bC ?_ _));refine blk_far ?_ NB261_262.out _;(with_reducible repeat (first | refine bA ?_ _ | refine bB ?_ | refine bC ?_ _));refine blk_far ?_ NB261_262.out _;(with_reducible repeat (first | refine bA ?_ _ | refine bB ?_ | refine bC ?_ _));refine blk_far ?_ NB261_262.out _;(with_reducible repeat (first | refine bA ?_ _ | refine bB ?_ | refine bC ?_ _));refine blk_put (cs := #[.bool false,.int .u64 0,.int .u64 0]) ?_ 2 _ rfl;(with_reducible repeat (first | refine bA ?_ _ | refine bB ?_ | refine bC ?_ _));refine blk_put (cs := #[.bool false,.int .u64 0,.int .u64 0]) ?_ 1 _ rfl;(with_reducible repeat (first | refine bA ?_ _ | refine bB ?_ | refine bC ?_ _));refine blk_put (cs := #[.bool false,.int .u64 0,.int .u64 0]) ?_ 0 _ rfl;(with_reducible repeat (first | refine bA ?_ _ | refine bB ?_ | refine bC ?_ _));exact BK261.out) Try.underlying28 rfl Z363 (.cell gb262 28 #[.bool false,.int .u64 0,.int .u64 0] (0,0) _ rfl (by (with_reducible repeat (first | refine bA ?_ _ | refine bB ?_ | refine bC ?_ _));refine blk_put (cs := #[.bool false,.int .u64 0,.int .u64 0]) ?_ 2 _ rfl;(with_reducible repeat (first | refine bA ?_ _ | refine bB ?_ | refine bC ?_ _));refine blk_put (cs := #[.bool false,.int .u64 0,.int .u64 0]) ?_ 1 _ rfl;(with_reducible repeat (first | refine bA ?_ _ | refine bB ?_ | refine bC ?_ _));refine blk_put (cs := #[.bool false,.int .u64 0,.int .u64 0]) ?_ 0 _ rfl;(with_reducible repeat (first | refine bA ?_ _ | refine bB ?_ | refine bC ?_ _));refine blk_far ?_ NB262_261.out _;(with_reducible repeat (first | refine bA ?_ _ | refine bB ?_ | refine bC ?_ _));refine blk_far ?_ NB262_261.out _;(with_reducible repeat (first | refine bA ?_ _ | refine bB ?_ | refine bC ?_ _));refine blk_far ?_ NB262_261.out _;(with_reducible repeat (first | refine bA ?_ _ | refine bB ?_ | refine bC ?_ _));exact BK262.out) Try.underlying28 rfl Z363 (.tmp .nil)))) rfl ?_
        exact ⟨Z354,Z379⟩
      · replace c25 := Bool.eq_false_iff.mpr c25
        subst c25
        have H1 : ((impl_ScaleWide.f a0_0 a0_1 a0_2 a1_3).bind fun bt265 => ((impl_ScaleWide.f a1_0 a1_1 a1_2 a0_3).bind fun bt270 => (if bt265.2.2.2 = true then (some (bt265.1,bt265.2.1,bt265.2.2.1,bt270.1,bt270.2.1,bt270.2.2.1,bt270.2.2.2)) else (some (bt265.1,bt265.2.1,bt265.2.2.1,bt270.1,bt270.2.1,bt270.2.2.1,false))))) = some (r1,r2,r3,r4,r5,r6,r7) := by rw [if_neg (show ¬ (false = true) by decide)] at H;exact H
        clear H
        have H := H1
        clear H1
        obtain ⟨⟨t265,t266,t267,t268⟩,A330,H⟩ := Option.bind_eq_some_iff.mp H
        try dsimp only at H
        have A33 := Aside0.mk A330
        clear A330
        obtain ⟨⟨t270,t271,t272,t273⟩,A340,H⟩ := Option.bind_eq_some_iff.mp H
        try dsimp only at H
        have A34 := Aside0.mk A340
        clear A340
        by_cases c35 : t268 = true
        · subst c35
          have H1 : (some (t265,t266,t267,t270,t271,t272,t273)) = some (r1,r2,r3,r4,r5,r6,r7) := by rw [if_pos rfl] at H;exact H
          clear H
          have H := H1
          clear H1
          simp only [Option.some.injEq,Prod.mk.injEq] at H
          obtain ⟨rfl,rfl,rfl,rfl,rfl,rfl,rfl⟩ := H
          have hnb36 := NB259_260.out
          have hnc36 := NB260_259.out
          have hnb37 := NB259_261.out
          have hnc37 := NB261_259.out
          have hnb38 := NB259_262.out
          have hnc38 := NB262_259.out
          obtain ⟨hcz39_0,hcz39_1,hcz39_2,hcz39_3,hfz39_0,hfz39_1,hfz39_2,hfz39_3⟩ := impl_crossed.cells4 BK259.out
          have hnb40 := NB260_261.out
          have hnc40 := NB261_260.out
          have hnb41 := NB260_262.out
          have hnc41 := NB262_260.out
          obtain ⟨hcz42_0,hcz42_1,hcz42_2,hcz42_3,hfz42_0,hfz42_1,hfz42_2,hfz42_3⟩ := impl_crossed.cells4 BK260.out
          try go_wp2_with (first | ((with_reducible refine gate_callee (f := 68) rfl ?_);refine goesL_ (some 26) rfl rfl Try.func68 Z363 rfl #[.agg #[.bool a0_0,.int .u64 a0_1,.int .u64 a0_2],.int .i64 a1_3] rfl Z330 ?_;(with_reducible refine (impl_ScaleWide.calls a0_0 a0_1 a0_2 a1_3 t265 t266 t267 true _ A33.out).mono ?_);rintro e w43 ⟨rfl,hb⟩;refine ⟨_,rfl,?_⟩;have n_ := jA (blk_below (g := gb259) (o := .cells #[.bool a0_0,.int .u64 a0_1,.int .u64 a0_2,.int .i64 a0_3] 30 (0,0)) Z446 hb) (jA (blk_below (g := gb260) (o := .cells #[.bool a1_0,.int .u64 a1_1,.int .u64 a1_2,.int .i64 a1_3] 30 (0,0)) Z449 hb) (jA (blk_below (g := gb261) (o := .cells #[.bool false,.int .u64 0,.int .u64 0] 28 (0,0)) Z454 hb) (jA (blk_below (g := gb262) (o := .cells #[.bool false,.int .u64 0,.int .u64 0] 28 (0,0)) Z457 hb) (Aside0.mk (below_step Z379 hb)))));clear BK259 BK260 BK261 BK262 HB;obtain ⟨BK259,BK260,BK261,BK262,HB⟩ := n_;(try clear hb);(try clear hb2);(try clear hk);(try clear hi)) | ((with_reducible refine gate_dst (N := 7) rfl ?_);refine box_event ?hg (N := 7) ?hd (cs := #[.bool false,.int .u64 0,.int .u64 0]) (t := 28) ?hr ?_;(case hd => rfl);(case hg => rfl);(case hr => exact Z359);intro gb269 hg w44 hbox hb;have n_ := jA (blk_below (g := gb259) (o := .cells #[.bool a0_0,.int .u64 a0_1,.int .u64 a0_2,.int .i64 a0_3] 30 (0,0)) Z446 hb) (jA (blk_below (g := gb260) (o := .cells #[.bool a1_0,.int .u64 a1_1,.int .u64 a1_2,.int .i64 a1_3] 30 (0,0)) Z449 hb) (jA (blk_below (g := gb261) (o := .cells #[.bool false,.int .u64 0,.int .u64 0] 28 (0,0)) Z454 hb) (jA (blk_below (g := gb262) (o := .cells #[.bool false,.int .u64 0,.int .u64 0] 28 (0,0)) Z457 hb) (jA (below_step Z379 hb) (jA (hbox) (jA ((Z140 : w.heap.size ≤ gb269)) (jA ((Z140 : w.heap.size ≤ gb269)) (jA ((Z185 : gb259 ≠ gb269)) (jA ((Z188 : gb269 ≠ gb259)) (jA ((Z191 : gb260 ≠ gb269)) (jA ((Z194 : gb269 ≠ gb260)) (jA ((Z264 : gb261 ≠ gb269)) (jA ((Z266 : gb269 ≠ gb261)) (jA ((Z268 : gb262 ≠ gb269)) (Aside0.mk ((Z272 : gb269 ≠ gb262)))))))))))))))));clear BK259 BK260 BK261 BK262 HB;obtain ⟨BK259,BK260,BK261,BK262,HB,BK269,GW269,GE269,NB259_269,NB269_259,NB260_269,NB269_260,NB261_269,NB269_261,NB262_269,NB269_262⟩ := n_;clear hb hbox hg;have hnb45 := NB269_259.out;have hnc45 := NB259_269.out;have hnb46 := NB269_260.out;have hnc46 := NB260_269.out;have hnb47 := NB269_261.out;have hnc47 := NB261_269.out;have hnb48 := NB269_262.out;have hnc48 := NB262_269.out;obtain ⟨hcz49_0,hcz49_1,hcz49_2,hfz49_0,hfz49_1,hfz49_2⟩ := impl_crossed.cells3 BK269.out;obtain ⟨hcz50_0,hcz50_1,hcz50_2,hcz50_3,hfz50_0,hfz50_1,hfz50_2,hfz50_3⟩ := impl_crossed.cells4 BK260.out;obtain ⟨hcz51_0,hcz51_1,hcz51_2,hcz51_3,hfz51_0,hfz51_1,hfz51_2,hfz51_3⟩ := impl_crossed.cells4 BK259.out) | ((with_reducible refine gate_callee (f := 68) rfl ?_);refine goesL_ (some 34) rfl rfl Try.func68 Z363 rfl #[.agg #[.bool a1_0,.int .u64 a1_1,.int .u64 a1_2],.int .i64 a0_3] rfl Z330 ?_;(with_reducible refine (impl_ScaleWide.calls a1_0 a1_1 a1_2 a0_3 t270 t271 t272 t273 _ A34.out).mono ?_);rintro e w52 ⟨rfl,hb⟩;refine ⟨_,rfl,?_⟩;have n_ := jA (blk_below (g := gb259) (o := .cells #[.bool a0_0,.int .u64 a0_1,.int .u64 a0_2,.int .i64 a0_3] 30 (0,0)) Z98 hb) (jA (blk_below (g := gb260) (o := .cells #[.bool a1_0,.int .u64 a1_1,.int .u64 a1_2,.int .i64 a1_3] 30 (0,0)) Z97 hb) (jA (blk_below (g := gb261) (o := .cells #[.bool false,.int .u64 0,.int .u64 0] 28 (0,0)) Z96 hb) (jA (blk_below (g := gb262) (o := .cells #[.bool false,.int .u64 0,.int .u64 0] 28 (0,0)) Z95 hb) (jA (blk_below (g := gb269) (o := .cells #[.bool t265,.int .u64 t266,.int .u64 t267] 28 (0,0)) Z57 hb) (Aside0.mk (below_step Z377 hb))))));clear BK259 BK260 BK261 BK262 BK269 HB;obtain ⟨BK259,BK260,BK261,BK262,BK269,HB⟩ := n_;(try clear hb);(try clear hb2);(try clear hk);(try clear hi)) | ((with_reducible refine gate_dst (N := 9) rfl ?_);refine box_event ?hg (N := 9) ?hd (cs := #[.bool false,.int .u64 0,.int .u64 0]) (t := 28) ?hr ?_;(case hd => rfl);(case hg => rfl);(case hr => exact Z359);intro gb274 hg w53 hbox hb;have n_ := jA (blk_below (g := gb259) (o := .cells #[.bool a0_0,.int .u64 a0_1,.int .u64 a0_2,.int .i64 a0_3] 30 (0,0)) Z446 hb) (jA (blk_below (g := gb260) (o := .cells #[.bool a1_0,.int .u64 a1_1,.int .u64 a1_2,.int .i64 a1_3] 30 (0,0)) Z449 hb) (jA (blk_below (g := gb261) (o := .cells #[.bool false,.int .u64 0,.int .u64 0] 28 (0,0)) Z454 hb) (jA (blk_below (g := gb262) (o := .cells #[.bool false,.int .u64 0,.int .u64 0] 28 (0,0)) Z457 hb) (jA (blk_below (g := gb269) (o := .cells #[.bool t265,.int .u64 t266,.int .u64 t267] 28 (0,0)) Z477 hb) (jA (below_step Z377 hb) (jA (hbox) (jA ((Z130 : w.heap.size ≤ gb274)) (jA ((Z130 : w.heap.size ≤ gb274)) (jA ((Z185 : gb259 ≠ gb274)) (jA ((Z188 : gb274 ≠ gb259)) (jA ((Z191 : gb260 ≠ gb274)) (jA ((Z194 : gb274 ≠ gb260)) (jA ((Z264 : gb261 ≠ gb274)) (jA ((Z266 : gb274 ≠ gb261)) (jA ((Z268 : gb262 ≠ gb274)) (jA ((Z272 : gb274 ≠ gb262)) (jA ((Z253 : gb269 ≠ gb274)) (Aside0.mk ((Z257 : gb274 ≠ gb269))))))))))))))))))));clear BK259 BK260 BK261 BK262 BK269 HB;obtain ⟨BK259,BK260,BK261,BK262,BK269,HB,BK274,GW274,GE274,NB259_274,NB274_259,NB260_274,NB274_260,NB261_274,NB274_261,NB262_274,NB274_262,NB269_274,NB274_269⟩ := n_;clear hb hbox hg;have hnb54 := NB274_259.out;have hnc54 := NB259_274.out;have hnb55 := NB274_260.out;have hnc55 := NB260_274.out;have hnb56 := NB274_261.out;have hnc56 := NB261_274.out;have hnb57 := NB274_262.out;have hnc57 := NB262_274.out;have hnb58 := NB274_269.out;have hnc58 := NB269_274.out;obtain ⟨hcz59_0,hcz59_1,hcz59_2,hfz59_0,hfz59_1,hfz59_2⟩ := impl_crossed.cells3 BK274.out))
          have n0_ : Aside0 ((((w53.setCell ⟨gb274,0,none⟩ (.bool t270)).setCell ⟨gb274,1,none⟩ (.int .u64 t271)).setCell ⟨gb274,2,none⟩ (.int .u64 t272)).heap[gb259]? = some (.cells #[.bool a0_0,.int .u64 a0_1,.int .u64 a0_2,.int .i64 a0_3] 30 (0,0))) := ⟨Z117⟩
          have n1_ : Aside0 ((((w53.setCell ⟨gb274,0,none⟩ (.bool t270)).setCell ⟨gb274,1,none⟩ (.int .u64 t271)).setCell ⟨gb274,2,none⟩ (.int .u64 t272)).heap[gb260]? = some (.cells #[.bool a1_0,.int .u64 a1_1,.int .u64 a1_2,.int .i64 a1_3] 30 (0,0))) := ⟨Z116⟩
          have n2_ : Aside0 ((((w53.setCell ⟨gb274,0,none⟩ (.bool t270)).setCell ⟨gb274,1,none⟩ (.int .u64 t271)).setCell ⟨gb274,2,none⟩ (.int .u64 t272)).heap[gb261]? = some (.cells #[.bool false,.int .u64 0,.int .u64 0] 28 (0,0))) := ⟨Z115⟩
          have n3_ : Aside0 ((((w53.setCell ⟨gb274,0,none⟩ (.bool t270)).setCell ⟨gb274,1,none⟩ (.int .u64 t271)).setCell ⟨gb274,2,none⟩ (.int .u64 t272)).heap[gb262]? = some (.cells #[.bool false,.int .u64 0,.int .u64 0] 28 (0,0))) := ⟨Z114⟩
          have n4_ : Aside0 ((((w53.setCell ⟨gb274,0,none⟩ (.bool t270)).setCell ⟨gb274,1,none⟩ (.int .u64 t271)).setCell ⟨gb274,2,none⟩ (.int .u64 t272)).heap[gb269]? = some (.cells #[.bool t265,.int .u64 t266,.int .u64 t267] 28 (0,0))) := ⟨Z113⟩
          have n5_ : Aside0 ((((w53.setCell ⟨gb274,0,none⟩ (.bool t270)).setCell ⟨gb274,1,none⟩ (.int .u64 t271)).setCell ⟨gb274,2,none⟩ (.int .u64 t272)).heap[gb274]? = some (.cells #[.bool t270,.int .u64 t271,.int .u64 t272] 28 (0,0))) := ⟨Z60⟩
          have n6_ : Aside0 (Below w.heap.size w (((w53.setCell ⟨gb274,0,none⟩ (.bool t270)).setCell ⟨gb274,1,none⟩ (.int .u64 t271)).setCell ⟨gb274,2,none⟩ (.int .u64 t272))) := ⟨Z132⟩
          (try clear BK259)
          (try clear BK260)
          (try clear BK261)
          (try clear BK262)
          (try clear BK269)
          (try clear BK274)
          (try clear HB)
          generalize (((w53.setCell ⟨gb274,0,none⟩ (.bool t270)).setCell ⟨gb274,1,none⟩ (.int .u64 t271)).setCell ⟨gb274,2,none⟩ (.int .u64 t272)) = w60 at n0_ n1_ n2_ n3_ n4_ n5_ n6_ ⊢
          have BK259 := n0_
          have BK260 := n1_
          have BK261 := n2_
          have BK262 := n3_
          have BK269 := n4_
          have BK274 := n5_
          have HB := n6_
          clear n0_ n1_ n2_ n3_ n4_ n5_ n6_
          have n0_ := Aside0.mk (blk_drew BK259.out)
          have n1_ := Aside0.mk (blk_drew BK260.out)
          have n2_ := Aside0.mk (blk_drew BK261.out)
          have n3_ := Aside0.mk (blk_drew BK262.out)
          have n4_ := Aside0.mk (blk_drew BK269.out)
          have n5_ := Aside0.mk (blk_drew BK274.out)
          have n6_ := Aside0.mk (below_drew1 HB.out)
          clear BK259
          clear BK260
          clear BK261
          clear BK262
          clear BK269
          clear BK274
          clear HB
          have BK259 := n0_
          have BK260 := n1_
          have BK261 := n2_
          have BK262 := n3_
          have BK269 := n4_
          have BK274 := n5_
          have HB := n6_
          clear n0_ n1_ n2_ n3_ n4_ n5_ n6_
          refine start_ (n := 9) (S := fun w' => w'.cell? ⟨gb269,0,none⟩ = some (.bool t265) ∧ w'.cell? ⟨gb269,1,none⟩ = some (.int .u64 t266) ∧ w'.cell? ⟨gb269,2,none⟩ = some (.int .u64 t267) ∧ w'.cell? ⟨gb274,0,none⟩ = some (.bool t270) ∧ w'.cell? ⟨gb274,1,none⟩ = some (.int .u64 t271) ∧ w'.cell? ⟨gb274,2,none⟩ = some (.int .u64 t272)) (ds := []) #[false,false,false,false,false,false,false,false,false] Z363 rfl rfl ⟨(blk_cell BK269.out 0).trans rfl,(blk_cell BK269.out 1).trans rfl,(blk_cell BK269.out 2).trans rfl,(blk_cell BK274.out 0).trans rfl,(blk_cell BK274.out 1).trans rfl,(blk_cell BK274.out 2).trans rfl⟩ (fun hHeld => ?_);refine with_tabW impl_crossed.tab5 impl_crossed.bits5 (fun HT_ HW_ => ?_)
          generalize w60.drew = w61 at BK259 BK260 BK261 BK262 BK269 BK274 HB hHeld ⊢
          refine pure_ (i := 2) (N := some 39) (v := ?_) (a' := ?_) #[false,false,true,false,false,false,false,false,false] rfl rfl (any_of HT_.out Z363) (fun _ _ _ h => h) (Or.inl ⟨Z365,?_⟩) ?_ ?_
          rotate_left
          · intro w'
            go_simp
            with_reducible rfl
          rotate_left
          · simp only [Act.put,List.setIfInBounds_toArray,List.set_cons_zero,List.set_cons_succ,i64_w,i32_w]
            rfl
          refine pure_ (i := 3) (N := some 40) (v := ?_) (a' := ?_) #[false,false,true,true,false,false,false,false,false] rfl rfl (any_of HT_.out Z363) (fun _ _ _ h => h) (Or.inl ⟨Z365,?_⟩) ?_ ?_
          rotate_left
          · intro w'
            go_simp
            with_reducible rfl
          rotate_left
          · simp only [Act.put,List.setIfInBounds_toArray,List.set_cons_zero,List.set_cons_succ,i64_w,i32_w]
            rfl
          refine pure_ (i := 4) (N := some 41) (v := ?_) (a' := ?_) #[false,false,true,true,true,false,false,false,false] rfl rfl (any_of HT_.out Z363) (fun _ _ _ h => h) (Or.inl ⟨Z365,?_⟩) ?_ ?_
          rotate_left
          · intro w'
            go_simp
            with_reducible rfl
          rotate_left
          · simp only [Act.put,List.setIfInBounds_toArray,List.set_cons_zero,List.set_cons_succ,i64_w,i32_w]
            rfl
          refine pure_ (i := 5) (N := some 42) (v := ?_) (a' := ?_) #[false,false,true,true,true,true,false,false,false] rfl rfl (any_of HT_.out Z363) (fun _ _ _ h => h) (Or.inl ⟨Z365,?_⟩) ?_ ?_
          rotate_left
          · intro w'
            go_simp
            with_reducible rfl
          rotate_left
          · simp only [Act.put,List.setIfInBounds_toArray,List.set_cons_zero,List.set_cons_succ,i64_w,i32_w]
            rfl
          refine take_ (i := 0) (N := some 37) (v := ?_) (a' := ?_) #[true,false,true,true,true,true,false,false,false] rfl rfl (take_ofW HT_.out HW_.out Z363) (fun _ _ _ h => h) (Or.inl ⟨Z365,?_⟩) hHeld ?_ ?_
          rotate_left
          · rintro w' ⟨s0,s1,s2,s3,s4,s5⟩
            go_simp
            with_reducible rfl
          rotate_left
          · simp only [Act.put,List.setIfInBounds_toArray,List.set_cons_zero,List.set_cons_succ,i64_w,i32_w]
            rfl
          refine take_ (i := 1) (N := some 38) (v := ?_) (a' := ?_) #[true,true,true,true,true,true,false,false,false] rfl rfl (take_ofW HT_.out HW_.out Z363) (fun _ _ _ h => h) (Or.inl ⟨Z365,?_⟩) hHeld ?_ ?_
          rotate_left
          · rintro w' ⟨s0,s1,s2,s3,s4,s5⟩
            go_simp
            with_reducible rfl
          rotate_left
          · simp only [Act.put,List.setIfInBounds_toArray,List.set_cons_zero,List.set_cons_succ,i64_w,i32_w]
            rfl
          refine one_ (i := 6) (N := none) #[true,true,true,true,true,true,true,false,false] rfl rfl (one_of HT_.out Z363) Z364 (fun K hK => ?_)
          have hs62 : w61.cell? ⟨gb261,0,none⟩ = some (.bool false) := (blk_cell BK261.out 0).trans rfl
          have hfs62 := blk_frozen BK261.out 0
          have hns62_0 := NB259_261.out
          have hns62_1 := NB260_261.out
          have hns62_3 := NB262_261.out
          have hns62_4 := NB269_261.out
          have hns62_5 := NB274_261.out
          have hms62_0 := NB261_259.out
          have hms62_1 := NB261_260.out
          have hms62_3 := NB261_262.out
          have hms62_4 := NB261_269.out
          have hms62_5 := NB261_274.out
          have hs63 : w61.cell? ⟨gb261,1,none⟩ = some (.int .u64 0) := (blk_cell BK261.out 1).trans rfl
          have hfs63 := blk_frozen BK261.out 1
          have hns63_0 := NB259_261.out
          have hns63_1 := NB260_261.out
          have hns63_3 := NB262_261.out
          have hns63_4 := NB269_261.out
          have hns63_5 := NB274_261.out
          have hms63_0 := NB261_259.out
          have hms63_1 := NB261_260.out
          have hms63_3 := NB261_262.out
          have hms63_4 := NB261_269.out
          have hms63_5 := NB261_274.out
          have hs64 : w61.cell? ⟨gb261,2,none⟩ = some (.int .u64 0) := (blk_cell BK261.out 2).trans rfl
          have hfs64 := blk_frozen BK261.out 2
          have hns64_0 := NB259_261.out
          have hns64_1 := NB260_261.out
          have hns64_3 := NB262_261.out
          have hns64_4 := NB269_261.out
          have hns64_5 := NB274_261.out
          have hms64_0 := NB261_259.out
          have hms64_1 := NB261_260.out
          have hms64_3 := NB261_262.out
          have hms64_4 := NB261_269.out
          have hms64_5 := NB261_274.out
          refine skip_ (w1 := ?_) Z365 rfl ?_ ?_
          rotate_left
          · go_simp
            rfl
          refine hK.out _ _ ⟨((cell_far (p := ⟨gb261,_,none⟩) NB269_261.out _).trans (((cell_far (p := ⟨gb261,_,none⟩) NB269_261.out _).trans (((cell_far (p := ⟨gb261,_,none⟩) NB269_261.out _).trans (hHeld.1)))))),((cell_far (p := ⟨gb261,_,none⟩) NB269_261.out _).trans (((cell_far (p := ⟨gb261,_,none⟩) NB269_261.out _).trans (((cell_far (p := ⟨gb261,_,none⟩) NB269_261.out _).trans (hHeld.2.1)))))),((cell_far (p := ⟨gb261,_,none⟩) NB269_261.out _).trans (((cell_far (p := ⟨gb261,_,none⟩) NB269_261.out _).trans (((cell_far (p := ⟨gb261,_,none⟩) NB269_261.out _).trans (hHeld.2.2.1)))))),((cell_far (p := ⟨gb261,_,none⟩) NB274_261.out _).trans (((cell_far (p := ⟨gb261,_,none⟩) NB274_261.out _).trans (((cell_far (p := ⟨gb261,_,none⟩) NB274_261.out _).trans (hHeld.2.2.2.1)))))),((cell_far (p := ⟨gb261,_,none⟩) NB274_261.out _).trans (((cell_far (p := ⟨gb261,_,none⟩) NB274_261.out _).trans (((cell_far (p := ⟨gb261,_,none⟩) NB274_261.out _).trans (hHeld.2.2.2.2.1)))))),((cell_far (p := ⟨gb261,_,none⟩) NB274_261.out _).trans (((cell_far (p := ⟨gb261,_,none⟩) NB274_261.out _).trans (((cell_far (p := ⟨gb261,_,none⟩) NB274_261.out _).trans (hHeld.2.2.2.2.2))))))⟩ (fun hHeld => ?_)
          clear hK K
          refine one_ (i := 7) (N := none) #[true,true,true,true,true,true,true,true,false] rfl rfl (one_of HT_.out Z363) Z364 (fun K hK => ?_)
          have hs65 : w61.cell? ⟨gb262,0,none⟩ = some (.bool false) := (blk_cell BK262.out 0).trans rfl
          have hfs65 := blk_frozen BK262.out 0
          have hns65_0 := NB259_262.out
          have hns65_1 := NB260_262.out
          have hns65_2 := NB261_262.out
          have hns65_4 := NB269_262.out
          have hns65_5 := NB274_262.out
          have hms65_0 := NB262_259.out
          have hms65_1 := NB262_260.out
          have hms65_2 := NB262_261.out
          have hms65_4 := NB262_269.out
          have hms65_5 := NB262_274.out
          have hs66 : w61.cell? ⟨gb262,1,none⟩ = some (.int .u64 0) := (blk_cell BK262.out 1).trans rfl
          have hfs66 := blk_frozen BK262.out 1
          have hns66_0 := NB259_262.out
          have hns66_1 := NB260_262.out
          have hns66_2 := NB261_262.out
          have hns66_4 := NB269_262.out
          have hns66_5 := NB274_262.out
          have hms66_0 := NB262_259.out
          have hms66_1 := NB262_260.out
          have hms66_2 := NB262_261.out
          have hms66_4 := NB262_269.out
          have hms66_5 := NB262_274.out
          have hs67 : w61.cell? ⟨gb262,2,none⟩ = some (.int .u64 0) := (blk_cell BK262.out 2).trans rfl
          have hfs67 := blk_frozen BK262.out 2
          have hns67_0 := NB259_262.out
          have hns67_1 := NB260_262.out
          have hns67_2 := NB261_262.out
          have hns67_4 := NB269_262.out
          have hns67_5 := NB274_262.out
          have hms67_0 := NB262_259.out
          have hms67_1 := NB262_260.out
          have hms67_2 := NB262_261.out
          have hms67_4 := NB262_269.out
          have hms67_5 := NB262_274.out
          refine skip_ (w1 := ?_) Z365 rfl ?_ ?_
          rotate_left
          · go_simp
            rfl
          refine hK.out _ _ ⟨((cell_far (p := ⟨gb262,_,none⟩) NB269_262.out _).trans (((cell_far (p := ⟨gb262,_,none⟩) NB269_262.out _).trans (((cell_far (p := ⟨gb262,_,none⟩) NB269_262.out _).trans (hHeld.1)))))),((cell_far (p := ⟨gb262,_,none⟩) NB269_262.out _).trans (((cell_far (p := ⟨gb262,_,none⟩) NB269_262.out _).trans (((cell_far (p := ⟨gb262,_,none⟩) NB269_262.out _).trans (hHeld.2.1)))))),((cell_far (p := ⟨gb262,_,none⟩) NB269_262.out _).trans (((cell_far (p := ⟨gb262,_,none⟩) NB269_262.out _).trans (((cell_far (p := ⟨gb262,_,none⟩) NB269_262.out _).trans (hHeld.2.2.1)))))),((cell_far (p := ⟨gb262,_,none⟩) NB274_262.out _).trans (((cell_far (p := ⟨gb262,_,none⟩) NB274_262.out _).trans (((cell_far (p := ⟨gb262,_,none⟩) NB274_262.out _).trans (hHeld.2.2.2.1)))))),((cell_far (p := ⟨gb262,_,none⟩) NB274_262.out _).trans (((cell_far (p := ⟨gb262,_,none⟩) NB274_262.out _).trans (((cell_far (p := ⟨gb262,_,none⟩) NB274_262.out _).trans (hHeld.2.2.2.2.1)))))),((cell_far (p := ⟨gb262,_,none⟩) NB274_262.out _).trans (((cell_far (p := ⟨gb262,_,none⟩) NB274_262.out _).trans (((cell_far (p := ⟨gb262,_,none⟩) NB274_262.out _).trans (hHeld.2.2.2.2.2))))))⟩ (fun hHeld => ?_)
          clear hK K
          refine pure_ (i := 8) (N := some 6) (v := ?_) (a' := ?_) #[true,true,true,true,true,true,true,true,true] rfl rfl (any_of HT_.out Z363) (fun _ _ _ h => h) (Or.inl ⟨Z365,?_⟩) ?_ ?_
          rotate_left
          · intro w'
            go_simp
            with_reducible rfl
          rotate_left
          · simp only [Act.put,List.setIfInBounds_toArray,List.set_cons_zero,List.set_cons_succ,i64_w,i32_w]
            rfl
          refine done_ (done_of HT_.out Z363) ?_
          try go_wp2
          refine bodyPost_ret (results_list (rs := [.cell 4 28,.cell 5 28,.tmp 6]) rfl Z483 (.cell gb261 28 #[.bool t265,.int .u64 t266,.int .u64 t267] (0,0) _ rfl Z14 Try.underlying28 rfl Z363 (.cell gb262 28 #[.bool t270,.int .u64 t271,.int .u64 t272] (0,0) _ rfl Z11 Try.underlying28 rfl Z363 (.tmp .nil)))) rfl ?_
          exact ⟨Z354,Z132⟩
        · replace c35 := Bool.eq_false_iff.mpr c35
          subst c35
          have H1 : (some (t265,t266,t267,t270,t271,t272,false)) = some (r1,r2,r3,r4,r5,r6,r7) := by rw [if_neg (show ¬ (false = true) by decide)] at H;exact H
          clear H
          have H := H1
          clear H1
          simp only [Option.some.injEq,Prod.mk.injEq] at H
          obtain ⟨rfl,rfl,rfl,rfl,rfl,rfl,rfl⟩ := H
          have hnb68 := NB259_260.out
          have hnc68 := NB260_259.out
          have hnb69 := NB259_261.out
          have hnc69 := NB261_259.out
          have hnb70 := NB259_262.out
          have hnc70 := NB262_259.out
          obtain ⟨hcz71_0,hcz71_1,hcz71_2,hcz71_3,hfz71_0,hfz71_1,hfz71_2,hfz71_3⟩ := impl_crossed.cells4 BK259.out
          have hnb72 := NB260_261.out
          have hnc72 := NB261_260.out
          have hnb73 := NB260_262.out
          have hnc73 := NB262_260.out
          obtain ⟨hcz74_0,hcz74_1,hcz74_2,hcz74_3,hfz74_0,hfz74_1,hfz74_2,hfz74_3⟩ := impl_crossed.cells4 BK260.out
          try go_wp2_with (first | ((with_reducible refine gate_callee (f := 68) rfl ?_);refine goesL_ (some 26) rfl rfl Try.func68 Z363 rfl #[.agg #[.bool a0_0,.int .u64 a0_1,.int .u64 a0_2],.int .i64 a1_3] rfl Z330 ?_;(with_reducible refine (impl_ScaleWide.calls a0_0 a0_1 a0_2 a1_3 t265 t266 t267 false _ A33.out).mono ?_);rintro e w75 ⟨rfl,hb⟩;refine ⟨_,rfl,?_⟩;have n_ := jA (blk_below (g := gb259) (o := .cells #[.bool a0_0,.int .u64 a0_1,.int .u64 a0_2,.int .i64 a0_3] 30 (0,0)) Z446 hb) (jA (blk_below (g := gb260) (o := .cells #[.bool a1_0,.int .u64 a1_1,.int .u64 a1_2,.int .i64 a1_3] 30 (0,0)) Z449 hb) (jA (blk_below (g := gb261) (o := .cells #[.bool false,.int .u64 0,.int .u64 0] 28 (0,0)) Z454 hb) (jA (blk_below (g := gb262) (o := .cells #[.bool false,.int .u64 0,.int .u64 0] 28 (0,0)) Z457 hb) (Aside0.mk (below_step Z379 hb)))));clear BK259 BK260 BK261 BK262 HB;obtain ⟨BK259,BK260,BK261,BK262,HB⟩ := n_;(try clear hb);(try clear hb2);(try clear hk);(try clear hi)) | ((with_reducible refine gate_dst (N := 7) rfl ?_);refine box_event ?hg (N := 7) ?hd (cs := #[.bool false,.int .u64 0,.int .u64 0]) (t := 28) ?hr ?_;(case hd => rfl);(case hg => rfl);(case hr => exact Z359);intro gb269 hg w76 hbox hb;have n_ := jA (blk_below (g := gb259) (o := .cells #[.bool a0_0,.int .u64 a0_1,.int .u64 a0_2,.int .i64 a0_3] 30 (0,0)) Z446 hb) (jA (blk_below (g := gb260) (o := .cells #[.bool a1_0,.int .u64 a1_1,.int .u64 a1_2,.int .i64 a1_3] 30 (0,0)) Z449 hb) (jA (blk_below (g := gb261) (o := .cells #[.bool false,.int .u64 0,.int .u64 0] 28 (0,0)) Z454 hb) (jA (blk_below (g := gb262) (o := .cells #[.bool false,.int .u64 0,.int .u64 0] 28 (0,0)) Z457 hb) (jA (below_step Z379 hb) (jA (hbox) (jA ((Z140 : w.heap.size ≤ gb269)) (jA ((Z140 : w.heap.size ≤ gb269)) (jA ((Z185 : gb259 ≠ gb269)) (jA ((Z188 : gb269 ≠ gb259)) (jA ((Z191 : gb260 ≠ gb269)) (jA ((Z194 : gb269 ≠ gb260)) (jA ((Z264 : gb261 ≠ gb269)) (jA ((Z266 : gb269 ≠ gb261)) (jA ((Z268 : gb262 ≠ gb269)) (Aside0.mk ((Z272 : gb269 ≠ gb262)))))))))))))))));clear BK259 BK260 BK261 BK262 HB;obtain ⟨BK259,BK260,BK261,BK262,HB,BK269,GW269,GE269,NB259_269,NB269_259,NB260_269,NB269_260,NB261_269,NB269_261,NB262_269,NB269_262⟩ := n_;clear hb hbox hg;have hnb77 := NB269_259.out;have hnc77 := NB259_269.out;have hnb78 := NB269_260.out;have hnc78 := NB260_269.out;have hnb79 := NB269_261.out;have hnc79 := NB261_269.out;have hnb80 := NB269_262.out;have hnc80 := NB262_269.out;obtain ⟨hcz81_0,hcz81_1,hcz81_2,hfz81_0,hfz81_1,hfz81_2⟩ := impl_crossed.cells3 BK269.out;obtain ⟨hcz82_0,hcz82_1,hcz82_2,hcz82_3,hfz82_0,hfz82_1,hfz82_2,hfz82_3⟩ := impl_crossed.cells4 BK260.out;obtain ⟨hcz83_0,hcz83_1,hcz83_2,hcz83_3,hfz83_0,hfz83_1,hfz83_2,hfz83_3⟩ := impl_crossed.cells4 BK259.out) | ((with_reducible refine gate_callee (f := 68) rfl ?_);refine goesL_ (some 34) rfl rfl Try.func68 Z363 rfl #[.agg #[.bool a1_0,.int .u64 a1_1,.int .u64 a1_2],.int .i64 a0_3] rfl Z330 ?_;(with_reducible refine (impl_ScaleWide.calls a1_0 a1_1 a1_2 a0_3 t270 t271 t272 t273 _ A34.out).mono ?_);rintro e w84 ⟨rfl,hb⟩;refine ⟨_,rfl,?_⟩;have n_ := jA (blk_below (g := gb259) (o := .cells #[.bool a0_0,.int .u64 a0_1,.int .u64 a0_2,.int .i64 a0_3] 30 (0,0)) Z98 hb) (jA (blk_below (g := gb260) (o := .cells #[.bool a1_0,.int .u64 a1_1,.int .u64 a1_2,.int .i64 a1_3] 30 (0,0)) Z97 hb) (jA (blk_below (g := gb261) (o := .cells #[.bool false,.int .u64 0,.int .u64 0] 28 (0,0)) Z96 hb) (jA (blk_below (g := gb262) (o := .cells #[.bool false,.int .u64 0,.int .u64 0] 28 (0,0)) Z95 hb) (jA (blk_below (g := gb269) (o := .cells #[.bool t265,.int .u64 t266,.int .u64 t267] 28 (0,0)) Z57 hb) (Aside0.mk (below_step Z377 hb))))));clear BK259 BK260 BK261 BK262 BK269 HB;obtain ⟨BK259,BK260,BK261,BK262,BK269,HB⟩ := n_;(try clear hb);(try clear hb2);(try clear hk);(try clear hi)) | ((with_reducible refine gate_dst (N := 9) rfl ?_);refine box_event ?hg (N := 9) ?hd (cs := #[.bool false,.int .u64 0,.int .u64 0]) (t := 28) ?hr ?_;(case hd => rfl);(case hg => rfl);(case hr => exact Z359);intro gb274 hg w85 hbox hb;have n_ := jA (blk_below (g := gb259) (o := .cells #[.bool a0_0,.int .u64 a0_1,.int .u64 a0_2,.int .i64 a0_3] 30 (0,0)) Z446 hb) (jA (blk_below (g := gb260) (o := .cells #[.bool a1_0,.int .u64 a1_1,.int .u64 a1_2,.int .i64 a1_3] 30 (0,0)) Z449 hb) (jA (blk_below (g := gb261) (o := .cells #[.bool false,.int .u64 0,.int .u64 0] 28 (0,0)) Z454 hb) (jA (blk_below (g := gb262) (o := .cells #[.bool false,.int .u64 0,.int .u64 0] 28 (0,0)) Z457 hb) (jA (blk_below (g := gb269) (o := .cells #[.bool t265,.int .u64 t266,.int .u64 t267] 28 (0,0)) Z477 hb) (jA (below_step Z377 hb) (jA (hbox) (jA ((Z130 : w.heap.size ≤ gb274)) (jA ((Z130 : w.heap.size ≤ gb274)) (jA ((Z185 : gb259 ≠ gb274)) (jA ((Z188 : gb274 ≠ gb259)) (jA ((Z191 : gb260 ≠ gb274)) (jA ((Z194 : gb274 ≠ gb260)) (jA ((Z264 : gb261 ≠ gb274)) (jA ((Z266 : gb274 ≠ gb261)) (jA ((Z268 : gb262 ≠ gb274)) (jA ((Z272 : gb274 ≠ gb262)) (jA ((Z253 : gb269 ≠ gb274)) (Aside0.mk ((Z257 : gb274 ≠ gb269))))))))))))))))))));clear BK259 BK260 BK261 BK262 BK269 HB;obtain ⟨BK259,BK260,BK261,BK262,BK269,HB,BK274,GW274,GE274,NB259_274,NB274_259,NB260_274,NB274_260,NB261_274,NB274_261,NB262_274,NB274_262,NB269_274,NB274_269⟩ := n_;clear hb hbox hg;have hnb86 := NB274_259.out;have hnc86 := NB259_274.out;have hnb87 := NB274_260.out;have hnc87 := NB260_274.out;have hnb88 := NB274_261.out;have hnc88 := NB261_274.out;have hnb89 := NB274_262.out;have hnc89 := NB262_274.out;have hnb90 := NB274_269.out;have hnc90 := NB269_274.out;obtain ⟨hcz91_0,hcz91_1,hcz91_2,hfz91_0,hfz91_1,hfz91_2⟩ := impl_crossed.cells3 BK274.out))
          have n0_ : Aside0 ((((w85.setCell ⟨gb274,0,none⟩ (.bool t270)).setCell ⟨gb274,1,none⟩ (.int .u64 t271)).setCell ⟨gb274,2,none⟩ (.int .u64 t272)).heap[gb259]? = some (.cells #[.bool a0_0,.int .u64 a0_1,.int .u64 a0_2,.int .i64 a0_3] 30 (0,0))) := ⟨Z117⟩
          have n1_ : Aside0 ((((w85.setCell ⟨gb274,0,none⟩ (.bool t270)).setCell ⟨gb274,1,none⟩ (.int .u64 t271)).setCell ⟨gb274,2,none⟩ (.int .u64 t272)).heap[gb260]? = some (.cells #[.bool a1_0,.int .u64 a1_1,.int .u64 a1_2,.int .i64 a1_3] 30 (0,0))) := ⟨Z116⟩
          have n2_ : Aside0 ((((w85.setCell ⟨gb274,0,none⟩ (.bool t270)).setCell ⟨gb274,1,none⟩ (.int .u64 t271)).setCell ⟨gb274,2,none⟩ (.int .u64 t272)).heap[gb261]? = some (.cells #[.bool false,.int .u64 0,.int .u64 0] 28 (0,0))) := ⟨Z115⟩
          have n3_ : Aside0 ((((w85.setCell ⟨gb274,0,none⟩ (.bool t270)).setCell ⟨gb274,1,none⟩ (.int .u64 t271)).setCell ⟨gb274,2,none⟩ (.int .u64 t272)).heap[gb262]? = some (.cells #[.bool false,.int .u64 0,.int .u64 0] 28 (0,0))) := ⟨Z114⟩
          have n4_ : Aside0 ((((w85.setCell ⟨gb274,0,none⟩ (.bool t270)).setCell ⟨gb274,1,none⟩ (.int .u64 t271)).setCell ⟨gb274,2,none⟩ (.int .u64 t272)).heap[gb269]? = some (.cells #[.bool t265,.int .u64 t266,.int .u64 t267] 28 (0,0))) := ⟨Z113⟩
          have n5_ : Aside0 ((((w85.setCell ⟨gb274,0,none⟩ (.bool t270)).setCell ⟨gb274,1,none⟩ (.int .u64 t271)).setCell ⟨gb274,2,none⟩ (.int .u64 t272)).heap[gb274]? = some (.cells #[.bool t270,.int .u64 t271,.int .u64 t272] 28 (0,0))) := ⟨Z60⟩
          have n6_ : Aside0 (Below w.heap.size w (((w85.setCell ⟨gb274,0,none⟩ (.bool t270)).setCell ⟨gb274,1,none⟩ (.int .u64 t271)).setCell ⟨gb274,2,none⟩ (.int .u64 t272))) := ⟨Z132⟩
          (try clear BK259)
          (try clear BK260)
          (try clear BK261)
          (try clear BK262)
          (try clear BK269)
          (try clear BK274)
          (try clear HB)
          generalize (((w85.setCell ⟨gb274,0,none⟩ (.bool t270)).setCell ⟨gb274,1,none⟩ (.int .u64 t271)).setCell ⟨gb274,2,none⟩ (.int .u64 t272)) = w92 at n0_ n1_ n2_ n3_ n4_ n5_ n6_ ⊢
          have BK259 := n0_
          have BK260 := n1_
          have BK261 := n2_
          have BK262 := n3_
          have BK269 := n4_
          have BK274 := n5_
          have HB := n6_
          clear n0_ n1_ n2_ n3_ n4_ n5_ n6_
          have n0_ := Aside0.mk (blk_drew BK259.out)
          have n1_ := Aside0.mk (blk_drew BK260.out)
          have n2_ := Aside0.mk (blk_drew BK261.out)
          have n3_ := Aside0.mk (blk_drew BK262.out)
          have n4_ := Aside0.mk (blk_drew BK269.out)
          have n5_ := Aside0.mk (blk_drew BK274.out)
          have n6_ := Aside0.mk (below_drew1 HB.out)
          clear BK259
          clear BK260
          clear BK261
          clear BK262
          clear BK269
          clear BK274
          clear HB
          have BK259 := n0_
          have BK260 := n1_
          have BK261 := n2_
          have BK262 := n3_
          have BK269 := n4_
          have BK274 := n5_
          have HB := n6_
          clear n0_ n1_ n2_ n3_ n4_ n5_ n6_
          refine start_ (n := 9) (S := fun w' => w'.cell? ⟨gb269,0,none⟩ = some (.bool t265) ∧ w'.cell? ⟨gb269,1,none⟩ = some (.int .u64 t266) ∧ w'.cell? ⟨gb269,2,none⟩ = some (.int .u64 t267) ∧ w'.cell? ⟨gb274,0,none⟩ = some (.bool t270) ∧ w'.cell? ⟨gb274,1,none⟩ = some (.int .u64 t271) ∧ w'.cell? ⟨gb274,2,none⟩ = some (.int .u64 t272)) (ds := []) #[false,false,false,false,false,false,false,false,false] Z363 rfl rfl ⟨(blk_cell BK269.out 0).trans rfl,(blk_cell BK269.out 1).trans rfl,(blk_cell BK269.out 2).trans rfl,(blk_cell BK274.out 0).trans rfl,(blk_cell BK274.out 1).trans rfl,(blk_cell BK274.out 2).trans rfl⟩ (fun hHeld => ?_);refine with_tabW impl_crossed.tab5 impl_crossed.bits5 (fun HT_ HW_ => ?_)
          generalize w92.drew = w93 at BK259 BK260 BK261 BK262 BK269 BK274 HB hHeld ⊢
          refine pure_ (i := 2) (N := some 39) (v := ?_) (a' := ?_) #[false,false,true,false,false,false,false,false,false] rfl rfl (any_of HT_.out Z363) (fun _ _ _ h => h) (Or.inl ⟨Z365,?_⟩) ?_ ?_
          rotate_left
          · intro w'
            go_simp
            with_reducible rfl
          rotate_left
          · simp only [Act.put,List.setIfInBounds_toArray,List.set_cons_zero,List.set_cons_succ,i64_w,i32_w]
            rfl
          refine pure_ (i := 3) (N := some 40) (v := ?_) (a' := ?_) #[false,false,true,true,false,false,false,false,false] rfl rfl (any_of HT_.out Z363) (fun _ _ _ h => h) (Or.inl ⟨Z365,?_⟩) ?_ ?_
          rotate_left
          · intro w'
            go_simp
            with_reducible rfl
          rotate_left
          · simp only [Act.put,List.setIfInBounds_toArray,List.set_cons_zero,List.set_cons_succ,i64_w,i32_w]
            rfl
          refine pure_ (i := 4) (N := some 41) (v := undef) (a' := ?_) #[false,false,true,true,true,false,false,false,false] rfl rfl (any_of HT_.out Z363) (fun _ _ _ h => h) (Or.inr ⟨Z365,rfl⟩) ?_ ?_
          rotate_left
          · simp only [Act.put,List.setIfInBounds_toArray,List.set_cons_zero,List.set_cons_succ,i64_w,i32_w]
            rfl
          refine pure_ (i := 5) (N := some 42) (v := ?_) (a' := ?_) #[false,false,true,true,true,true,false,false,false] rfl rfl (any_of HT_.out Z363) (fun _ _ _ h => h) (Or.inl ⟨Z365,?_⟩) ?_ ?_
          rotate_left
          · intro w'
            go_simp
            with_reducible rfl
          rotate_left
          · simp only [Act.put,List.setIfInBounds_toArray,List.set_cons_zero,List.set_cons_succ,i64_w,i32_w]
            rfl
          refine take_ (i := 0) (N := some 37) (v := ?_) (a' := ?_) #[true,false,true,true,true,true,false,false,false] rfl rfl (take_ofW HT_.out HW_.out Z363) (fun _ _ _ h => h) (Or.inl ⟨Z365,?_⟩) hHeld ?_ ?_
          rotate_left
          · rintro w' ⟨s0,s1,s2,s3,s4,s5⟩
            go_simp
            with_reducible rfl
          rotate_left
          · simp only [Act.put,List.setIfInBounds_toArray,List.set_cons_zero,List.set_cons_succ,i64_w,i32_w]
            rfl
          refine take_ (i := 1) (N := some 38) (v := ?_) (a' := ?_) #[true,true,true,true,true,true,false,false,false] rfl rfl (take_ofW HT_.out HW_.out Z363) (fun _ _ _ h => h) (Or.inl ⟨Z365,?_⟩) hHeld ?_ ?_
          rotate_left
          · rintro w' ⟨s0,s1,s2,s3,s4,s5⟩
            go_simp
            with_reducible rfl
          rotate_left
          · simp only [Act.put,List.setIfInBounds_toArray,List.set_cons_zero,List.set_cons_succ,i64_w,i32_w]
            rfl
          refine one_ (i := 6) (N := none) #[true,true,true,true,true,true,true,false,false] rfl rfl (one_of HT_.out Z363) Z364 (fun K hK => ?_)
          have hs94 : w93.cell? ⟨gb261,0,none⟩ = some (.bool false) := (blk_cell BK261.out 0).trans rfl
          have hfs94 := blk_frozen BK261.out 0
          have hns94_0 := NB259_261.out
          have hns94_1 := NB260_261.out
          have hns94_3 := NB262_261.out
          have hns94_4 := NB269_261.out
          have hns94_5 := NB274_261.out
          have hms94_0 := NB261_259.out
          have hms94_1 := NB261_260.out
          have hms94_3 := NB261_262.out
          have hms94_4 := NB261_269.out
          have hms94_5 := NB261_274.out
          have hs95 : w93.cell? ⟨gb261,1,none⟩ = some (.int .u64 0) := (blk_cell BK261.out 1).trans rfl
          have hfs95 := blk_frozen BK261.out 1
          have hns95_0 := NB259_261.out
          have hns95_1 := NB260_261.out
          have hns95_3 := NB262_261.out
          have hns95_4 := NB269_261.out
          have hns95_5 := NB274_261.out
          have hms95_0 := NB261_259.out
          have hms95_1 := NB261_260.out
          have hms95_3 := NB261_262.out
          have hms95_4 := NB261_269.out
          have hms95_5 := NB261_274.out
          have hs96 : w93.cell? ⟨gb261,2,none⟩ = some (.int .u64 0) := (blk_cell BK261.out 2).trans rfl
          have hfs96 := blk_frozen BK261.out 2
          have hns96_0 := NB259_261.out
          have hns96_1 := NB260_261.out
          have hns96_3 := NB262_261.out
          have hns96_4 := NB269_261.out
          have hns96_5 := NB274_261.out
          have hms96_0 := NB261_259.out
          have hms96_1 := NB261_260.out
          have hms96_3 := NB261_262.out
          have hms96_4 := NB261_269.out
          have hms96_5 := NB261_274.out
          refine skip_ (w1 := ?_) Z365 rfl ?_ ?_
          rotate_left
          · go_simp
            rfl
          refine hK.out _ _ ⟨((cell_far (p := ⟨gb261,_,none⟩) NB269_261.out _).trans (((cell_far (p := ⟨gb261,_,none⟩) NB269_261.out _).trans (((cell_far (p := ⟨gb261,_,none⟩) NB269_261.out _).trans (hHeld.1)))))),((cell_far (p := ⟨gb261,_,none⟩) NB269_261.out _).trans (((cell_far (p := ⟨gb261,_,none⟩) NB269_261.out _).trans (((cell_far (p := ⟨gb261,_,none⟩) NB269_261.out _).trans (hHeld.2.1)))))),((cell_far (p := ⟨gb261,_,none⟩) NB269_261.out _).trans (((cell_far (p := ⟨gb261,_,none⟩) NB269_261.out _).trans (((cell_far (p := ⟨gb261,_,none⟩) NB269_261.out _).trans (hHeld.2.2.1)))))),((cell_far (p := ⟨gb261,_,none⟩) NB274_261.out _).trans (((cell_far (p := ⟨gb261,_,none⟩) NB274_261.out _).trans (((cell_far (p := ⟨gb261,_,none⟩) NB274_261.out _).trans (hHeld.2.2.2.1)))))),((cell_far (p := ⟨gb261,_,none⟩) NB274_261.out _).trans (((cell_far (p := ⟨gb261,_,none⟩) NB274_261.out _).trans (((cell_far (p := ⟨gb261,_,none⟩) NB274_261.out _).trans (hHeld.2.2.2.2.1)))))),((cell_far (p := ⟨gb261,_,none⟩) NB274_261.out _).trans (((cell_far (p := ⟨gb261,_,none⟩) NB274_261.out _).trans (((cell_far (p := ⟨gb261,_,none⟩) NB274_261.out _).trans (hHeld.2.2.2.2.2))))))⟩ (fun hHeld => ?_)
          clear hK K
          refine one_ (i := 7) (N := none) #[true,true,true,true,true,true,true,true,false] rfl rfl (one_of HT_.out Z363) Z364 (fun K hK => ?_)
          have hs97 : w93.cell? ⟨gb262,0,none⟩ = some (.bool false) := (blk_cell BK262.out 0).trans rfl
          have hfs97 := blk_frozen BK262.out 0
          have hns97_0 := NB259_262.out
          have hns97_1 := NB260_262.out
          have hns97_2 := NB261_262.out
          have hns97_4 := NB269_262.out
          have hns97_5 := NB274_262.out
          have hms97_0 := NB262_259.out
          have hms97_1 := NB262_260.out
          have hms97_2 := NB262_261.out
          have hms97_4 := NB262_269.out
          have hms97_5 := NB262_274.out
          have hs98 : w93.cell? ⟨gb262,1,none⟩ = some (.int .u64 0) := (blk_cell BK262.out 1).trans rfl
          have hfs98 := blk_frozen BK262.out 1
          have hns98_0 := NB259_262.out
          have hns98_1 := NB260_262.out
          have hns98_2 := NB261_262.out
          have hns98_4 := NB269_262.out
          have hns98_5 := NB274_262.out
          have hms98_0 := NB262_259.out
          have hms98_1 := NB262_260.out
          have hms98_2 := NB262_261.out
          have hms98_4 := NB262_269.out
          have hms98_5 := NB262_274.out
          have hs99 : w93.cell? ⟨gb262,2,none⟩ = some (.int .u64 0) := (blk_cell BK262.out 2).trans rfl
          have hfs99 := blk_frozen BK262.out 2
          have hns99_0 := NB259_262.out
          have hns99_1 := NB260_262.out
          have hns99_2 := NB261_262.out
          have hns99_4 := NB269_262.out
          have hns99_5 := NB274_262.out
          have hms99_0 := NB262_259.out
          have hms99_1 := NB262_260.out
          have hms99_2 := NB262_261.out
          have hms99_4 := NB262_269.out
          have hms99_5 := NB262_274.out
          refine skip_ (w1 := ?_) Z365 rfl ?_ ?_
          rotate_left
          · go_simp
            rfl
          refine hK.out _ _ ⟨((cell_far (p := ⟨gb262,_,none⟩) NB269_262.out _).trans (((cell_far (p := ⟨gb262,_,none⟩) NB269_262.out _).trans (((cell_far (p := ⟨gb262,_,none⟩) NB269_262.out _).trans (hHeld.1)))))),((cell_far (p := ⟨gb262,_,none⟩) NB269_262.out _).trans (((cell_far (p := ⟨gb262,_,none⟩) NB269_262.out _).trans (((cell_far (p := ⟨gb262,_,none⟩) NB269_262.out _).trans (hHeld.2.1)))))),((cell_far (p := ⟨gb262,_,none⟩) NB269_262.out _).trans (((cell_far (p := ⟨gb262,_,none⟩) NB269_262.out _).trans (((cell_far (p := ⟨gb262,_,none⟩) NB269_262.out _).trans (hHeld.2.2.1)))))),((cell_far (p := ⟨gb262,_,none⟩) NB274_262.out _).trans (((cell_far (p := ⟨gb262,_,none⟩) NB274_262.out _).trans (((cell_far (p := ⟨gb262,_,none⟩) NB274_262.out _).trans (hHeld.2.2.2.1)))))),((cell_far (p := ⟨gb262,_,none⟩) NB274_262.out _).trans (((cell_far (p := ⟨gb262,_,none⟩) NB274_262.out _).trans (((cell_far (p := ⟨gb262,_,none⟩) NB274_262.out _).trans (hHeld.2.2.2.2.1)))))),((cell_far (p := ⟨gb262,_,none⟩) NB274_262.out _).trans (((cell_far (p := ⟨gb262,_,none⟩) NB274_262.out _).trans (((cell_far (p := ⟨gb262,_,none⟩) NB274_262.out _).trans (hHeld.2.2.2.2.2))))))⟩ (fun hHeld => ?_)
          clear hK K
          refine pure_ (i := 8) (N := some 6) (v := ?_) (a' := ?_) #[true,true,true,true,true,true,true,true,true] rfl rfl (any_of HT_.out Z363) (fun _ _ _ h => h) (Or.inl ⟨Z365,?_⟩) ?_ ?_
          rotate_left
          · intro w'
            go_simp
            with_reducible rfl
          rotate_left
          · simp only [Act.put,List.setIfInBounds_toArray,List.set_cons_zero,List.set_cons_succ,i64_w,i32_w]
            rfl
          refine done_ (done_of HT_.out Z363) ?_
          try go_wp2
          refine bodyPost_ret (results_list (rs := [.cell 4 28,.cell 5 28,.tmp 6]) rfl Z483 (.cell gb261 28 #[.bool t265,.int .u64 t266,.int .u64 t267] (0,0) _ rfl Z14 Try.underlying28 rfl Z363 (.cell gb262 28 #[.bool t270,.int .u64 t271,.int .u64 t272] (0,0) _ rfl Z11 Try.underlying28 rfl Z363 (.tmp .nil)))) rfl ?_
          exact ⟨Z354,Z132⟩

/-! ### cmp_Or_int: function 55 -/
def cmp_Or_int.l0 : Nat → Int → List Int → Int → Int → Option (Int)
  | 0,_,_,_,_ => none
  | k + 1,x3,x6,x7,x8 => if x8 < x7 then (if 0 ≤ x8 then (if x8 < (x6.length : Int) then (if (rd x6 x8) = x3 then (cmp_Or_int.l0 k x3 x6 x7 (wrap64 (x8 + 1))) else (some (rd x6 x8))) else (none)) else (none)) else (some x3)
def cmp_Or_int.f (k : Nat) (l0 : List Int) : Option (Int) := cmp_Or_int.l0 k 0 l0 (l0.length : Int) 0
theorem cmp_Or_int.mono_l : ∀ k,(∀ y0 y1 y2 y3,LeO (cmp_Or_int.l0 k y0 y1 y2 y3) (cmp_Or_int.l0 (k + 1) y0 y1 y2 y3))
  | 0 => fun _ _ _ _ r h => by simp [cmp_Or_int.l0] at h
  | k + 1 => by
    have ih0 := cmp_Or_int.mono_l k
    · intro y0 y1 y2 y3
      unfold cmp_Or_int.l0
      repeat' first
      | (with_reducible exact ih0 _ _ _ _)
      | (with_reducible exact LeO.refl _)
      | (with_reducible exact LeO.none _)
      | (with_reducible refine LeO.ite ?_ ?_)
      | (with_reducible refine LeO.bind ?_ (fun _ => ?_))
      | exact ih0 _ _ _ _
      | exact LeO.none _
      | refine LeO.ite ?_ ?_
      | refine LeO.bind ?_ (fun _ => ?_)
theorem cmp_Or_int.mono : ∀ a0 k,LeO (cmp_Or_int.f k a0) (cmp_Or_int.f (k + 1) a0) := by
  intro a0 k
  have ih0 := cmp_Or_int.mono_l k
  unfold cmp_Or_int.f
  repeat' first
      | (with_reducible exact ih0 _ _ _ _)
      | (with_reducible exact LeO.refl _)
      | (with_reducible exact LeO.none _)
      | (with_reducible refine LeO.ite ?_ ?_)
      | (with_reducible refine LeO.bind ?_ (fun _ => ?_))
      | exact ih0 _ _ _ _
      | exact LeO.none _
      | refine LeO.ite ?_ ?_
      | refine LeO.bind ?_ (fun _ => ?_)
set_option maxHeartbeats 8000000 in
set_option maxRecDepth 100000 in
theorem cmp_Or_int.calls (k : Nat) (A0 : Option Addr) (c0 : Nat) (l0 : List Int) (r : Int) (w : World) (hr0 : Kd.C (Kd.int .i64) w A0 l0.length l0) (hc0 : l0.length ≤ c0) (h : cmp_Or_int.f k l0 = some r) :
    Calls Try.prog 55 #[.slice A0 l0.length c0] w fun e w' => e = .returned (.int .i64 r) ∧ Drawn0 w w' := by
  have HR0 := Aside0.mk hr0
  have HC0 := Aside0.mk hc0
  clear hr0 hc0
  have H : (cmp_Or_int.l0 k 0 l0 (l0.length : Int) 0) = some r := h
  clear h
  have H' := Aside0.mk H
  clear H
  go_enter Try.func55,Try.ntmps55
  go_wp2
  go_loopg [8] k (fun kq v8 w' => ∃ (x8_1 : Int),v8 = .int .i64 x8_1 ∧ Aside0 (cmp_Or_int.l0 kq 0 l0 (l0.length : Int) x8_1 = some r) ∧ Aside0 (kq ≤ k) ∧ Drawn0 w w')
  case atStart => exact ⟨(0),Z358,H',⟨Nat.le_refl _⟩,Z355⟩
  case round =>
    clear H'
    obtain ⟨x8_1,rfl,HA,HK1,⟨m1,rfl⟩⟩ := hrel
    cases gk with
    | zero => exact absurd HA.out (by simp [cmp_Or_int.l0])
    | succ k1 =>
      have H := HA.out
      clear HA
      simp only [cmp_Or_int.l0] at H
      by_cases c2 : x8_1 < (l0.length : Int)
      · rw [if_pos c2] at H
        have c2b0 : decide (x8_1 < (l0.length : Int)) = true := decide_eq_true c2
        clear c2
        by_cases c3 : 0 ≤ x8_1
        · rw [if_pos c3] at H
          have c3b0 : decide (0 ≤ x8_1) = true := decide_eq_true c3
          clear c3
          by_cases c4 : x8_1 < (l0.length : Int)
          · rw [if_pos c4] at H
            have c4b0 : decide (x8_1 < (l0.length : Int)) = true := decide_eq_true c4
            clear c4
            by_cases c5 : (rd l0 x8_1) = 0
            · rw [if_pos c5] at H
              have c5b0 : ((rd l0 x8_1) == 0) = true := beq_iff_eq.mpr c5
              have c5b1 : ((rd l0 x8_1) != 0) = false := bne_eq_false_iff_eq.mpr c5
              clear c5
              have H' := Aside0.mk H
              clear H
              have p275 : 0 ≤ (x8_1 : Int) := of_decide_eq_true Z357
              have q275 : x8_1 < (l0.length : Int) := of_decide_eq_true Z357
              obtain ⟨ad275,e275,hx275_0⟩ := Kd.at_int HR0.out x8_1 p275 q275
              cases e275
              replace p275 := eq_true p275
              replace q275 := eq_true q275
              go_wp2
              go_roundg k1
              case measure => have := HK1.out;omega
              case rel => exact ⟨(wrap64 (x8_1 + 1)),Z358,H',⟨by have := HK1.out;omega⟩,Z355⟩
            · rw [if_neg c5] at H
              have c5b0 : ((rd l0 x8_1) == 0) = false := beq_eq_false_iff_ne.mpr c5
              have c5b1 : ((rd l0 x8_1) != 0) = true := bne_iff_ne.mpr c5
              obtain rfl := Option.some.inj H
              have p275 : 0 ≤ (x8_1 : Int) := of_decide_eq_true Z357
              have q275 : x8_1 < (l0.length : Int) := of_decide_eq_true Z357
              obtain ⟨ad275,e275,hx275_0⟩ := Kd.at_int HR0.out x8_1 p275 q275
              cases e275
              replace p275 := eq_true p275
              replace q275 := eq_true q275
              go_wp2
              go_ret
              exact ⟨Z358,Z355⟩
          · rw [if_neg c4] at H
            exact absurd H Z483
        · rw [if_neg c3] at H
          exact absurd H Z483
      · rw [if_neg c2] at H
        have c2b0 : decide (x8_1 < (l0.length : Int)) = false := decide_eq_false c2
        clear c2
        obtain rfl := Option.some.inj H
        go_wp2
        go_ret
        exact ⟨Z358,Z355⟩

end Go.Proofs.Ytjcjehnjbgklbaa.QFnGain
