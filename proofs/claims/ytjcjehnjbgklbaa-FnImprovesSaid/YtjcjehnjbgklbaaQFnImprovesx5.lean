/- The machine side of FnImproves: what each Go function that it reaches comes to. Conditions: none. -/
import Derived.Test.YtjcjehnjbgklbaaQFnImprovesx0
import Derived.Test.YtjcjehnjbgklbaaQFnImprovesx1
import Derived.Test.YtjcjehnjbgklbaaQFnImprovesx2
import Derived.Test.YtjcjehnjbgklbaaQFnImprovesx3
import Derived.Test.YtjcjehnjbgklbaaQFnImprovesx4
namespace Go.Proofs.Ytjcjehnjbgklbaa.QFnImproves
open Go.RowKit Go.Proofs.YtjcjehnjbgklbaaW.PrintWords Go.Proofs.YtjcjehnjbgklbaaW.PrintLast Go.Proofs.YtjcjehnjbgklbaaW.PrintMore
attribute [local go_sem] max2_int min2_int max_two min_two max_three min_three max_four min_four   -- for this text's walks alone
set_option linter.unusedVariables false
set_option linter.unusedSimpArgs false

/-! ### spec_AddFrac: function 24 -/
theorem spec_AddFrac.cells3 {w : World} {g : Nat} {t : TypeId} {a0 a1 a2 : Value} (h : w.heap[g]? = some (.cells #[a0,a1,a2] t (0,0))) : w.cell? ⟨g,0,none⟩ = some a0 ∧ w.cell? ⟨g,1,none⟩ = some a1 ∧ w.cell? ⟨g,2,none⟩ = some a2 ∧ w.frozen? ⟨g,0,none⟩ = false ∧ w.frozen? ⟨g,1,none⟩ = false ∧ w.frozen? ⟨g,2,none⟩ = false := ⟨(blk_cell h 0).trans rfl,(blk_cell h 1).trans rfl,(blk_cell h 2).trans rfl,blk_frozen h 0,blk_frozen h 1,blk_frozen h 2⟩
theorem spec_AddFrac.cells4 {w : World} {g : Nat} {t : TypeId} {a0 a1 a2 a3 : Value} (h : w.heap[g]? = some (.cells #[a0,a1,a2,a3] t (0,0))) : w.cell? ⟨g,0,none⟩ = some a0 ∧ w.cell? ⟨g,1,none⟩ = some a1 ∧ w.cell? ⟨g,2,none⟩ = some a2 ∧ w.cell? ⟨g,3,none⟩ = some a3 ∧ w.frozen? ⟨g,0,none⟩ = false ∧ w.frozen? ⟨g,1,none⟩ = false ∧ w.frozen? ⟨g,2,none⟩ = false ∧ w.frozen? ⟨g,3,none⟩ = false := ⟨(blk_cell h 0).trans rfl,(blk_cell h 1).trans rfl,(blk_cell h 2).trans rfl,(blk_cell h 3).trans rfl,blk_frozen h 0,blk_frozen h 1,blk_frozen h 2,blk_frozen h 3⟩
def spec_AddFrac.f (k : Nat) (a0_0 : Bool) (a0_1 : Int) (a0_2 : Int) (a0_3 : Int) (a1_0 : Bool) (a1_1 : Int) (a1_2 : Int) (a1_3 : Int) : Option (Bool × Int × Int × Int × Bool) := (spec_l5Cross.f k a0_0 a0_1 a0_2 a0_3 a1_0 a1_1 a1_2 a1_3).bind fun bt177 => (if bt177.2.2.2.2.2.2 = true then ((spec_AddWide.f k bt177.1 bt177.2.1 bt177.2.2.1 bt177.2.2.2.1 bt177.2.2.2.2.1 bt177.2.2.2.2.2.1).bind fun bt186 => (if bt186.2.2.2 = true then ((spec_FracOk.f bt186.1 bt186.2.1 bt186.2.2.1 (wrap64 (a0_3 * a1_3))).bind fun t192 => (if t192 = true then (some (bt186.1,bt186.2.1,bt186.2.2.1,wrap64 (a0_3 * a1_3),true)) else (some (false,0,0,0,false)))) else (some (false,0,0,0,false)))) else (some (false,0,0,0,false)))
theorem spec_AddFrac.mono : ∀ a0 a1 a2 a3 a4 a5 a6 a7 k,LeO (spec_AddFrac.f k a0 a1 a2 a3 a4 a5 a6 a7) (spec_AddFrac.f (k + 1) a0 a1 a2 a3 a4 a5 a6 a7) := by
  intro a0 a1 a2 a3 a4 a5 a6 a7 k
  unfold spec_AddFrac.f
  repeat' first
      | (with_reducible exact spec_AddWide.mono _ _ _ _ _ _ _)
      | (with_reducible exact spec_l5Cross.mono _ _ _ _ _ _ _ _ _)
      | (with_reducible exact LeO.refl _)
      | (with_reducible exact LeO.none _)
      | (with_reducible refine LeO.ite ?_ ?_)
      | (with_reducible refine LeO.bind ?_ (fun _ => ?_))
      | exact spec_AddWide.mono _ _ _ _ _ _ _
      | exact spec_l5Cross.mono _ _ _ _ _ _ _ _ _
      | exact LeO.none _
      | refine LeO.ite ?_ ?_
      | refine LeO.bind ?_ (fun _ => ?_)
set_option maxHeartbeats 8000000 in
set_option maxRecDepth 100000 in
theorem spec_AddFrac.calls (k : Nat) (a0_0 : Bool) (a0_1 : Int) (a0_2 : Int) (a0_3 : Int) (a1_0 : Bool) (a1_1 : Int) (a1_2 : Int) (a1_3 : Int) (r1 : Bool) (r2 : Int) (r3 : Int) (r4 : Int) (r5 : Bool) (w : World) (h : spec_AddFrac.f k a0_0 a0_1 a0_2 a0_3 a1_0 a1_1 a1_2 a1_3 = some (r1,r2,r3,r4,r5)) :
    Calls Try.prog 24 #[.agg #[.bool a0_0,.int .u64 a0_1,.int .u64 a0_2,.int .i64 a0_3],.agg #[.bool a1_0,.int .u64 a1_1,.int .u64 a1_2,.int .i64 a1_3]] w fun e w' => e = .returned (.tuple #[.agg #[.bool r1,.int .u64 r2,.int .u64 r3,.int .i64 r4],.bool r5]) ∧ Below w.heap.size w w' := by
  have hu30 := Try.underlying30
  have hu28 := Try.underlying28
  have HB := Aside0.mk (Below.refl w.heap.size w)
  have H : ((spec_l5Cross.f k a0_0 a0_1 a0_2 a0_3 a1_0 a1_1 a1_2 a1_3).bind fun bt177 => (if bt177.2.2.2.2.2.2 = true then ((spec_AddWide.f k bt177.1 bt177.2.1 bt177.2.2.1 bt177.2.2.2.1 bt177.2.2.2.2.1 bt177.2.2.2.2.2.1).bind fun bt186 => (if bt186.2.2.2 = true then ((spec_FracOk.f bt186.1 bt186.2.1 bt186.2.2.1 (wrap64 (a0_3 * a1_3))).bind fun t192 => (if t192 = true then (some (bt186.1,bt186.2.1,bt186.2.2.1,wrap64 (a0_3 * a1_3),true)) else (some (false,0,0,0,false)))) else (some (false,0,0,0,false)))) else (some (false,0,0,0,false)))) = some (r1,r2,r3,r4,r5) := h
  clear h
  obtain ⟨⟨t177,t178,t179,t180,t181,t182,t183⟩,A30,H⟩ := Option.bind_eq_some_iff.mp H
  try dsimp only at H
  have A3 := Aside0.mk A30
  clear A30
  by_cases c4 : t183 = true
  · subst c4
    have H1 : ((spec_AddWide.f k t177 t178 t179 t180 t181 t182).bind fun bt186 => (if bt186.2.2.2 = true then ((spec_FracOk.f bt186.1 bt186.2.1 bt186.2.2.1 (wrap64 (a0_3 * a1_3))).bind fun t192 => (if t192 = true then (some (bt186.1,bt186.2.1,bt186.2.2.1,wrap64 (a0_3 * a1_3),true)) else (some (false,0,0,0,false)))) else (some (false,0,0,0,false)))) = some (r1,r2,r3,r4,r5) := by rw [if_pos rfl] at H;exact H
    clear H
    have H := H1
    clear H1
    obtain ⟨⟨t186,t187,t188,t189⟩,A50,H⟩ := Option.bind_eq_some_iff.mp H
    try dsimp only at H
    have A5 := Aside0.mk A50
    clear A50
    by_cases c6 : t189 = true
    · subst c6
      have H1 : ((spec_FracOk.f t186 t187 t188 (wrap64 (a0_3 * a1_3))).bind fun t192 => (if t192 = true then (some (t186,t187,t188,wrap64 (a0_3 * a1_3),true)) else (some (false,0,0,0,false)))) = some (r1,r2,r3,r4,r5) := by rw [if_pos rfl] at H;exact H
      clear H
      have H := H1
      clear H1
      obtain ⟨t192,A70,H⟩ := Option.bind_eq_some_iff.mp H
      have A7 := Aside0.mk A70
      clear A70
      by_cases c8 : t192 = true
      · subst c8
        have H1 : (some (t186,t187,t188,wrap64 (a0_3 * a1_3),true)) = some (r1,r2,r3,r4,r5) := by rw [if_pos rfl] at H;exact H
        clear H
        have H := H1
        clear H1
        simp only [Option.some.injEq,Prod.mk.injEq] at H
        obtain ⟨rfl,rfl,rfl,rfl,rfl⟩ := H
        go_enter Try.func24,Try.ntmps24
        go_wp2_with (first | ((with_reducible refine gate_dst (N := 2) rfl ?_);refine box_event ?hg (N := 2) ?hd (cs := #[.bool a0_0,.int .u64 a0_1,.int .u64 a0_2,.int .i64 a0_3]) (t := 30) ?hr ?_;(case hd => rfl);(case hg => rfl);(case hr => exact Z515);intro gb174 hg w9 hbox hb;have n_ := jA (below_step Z486 hb) (jA (hbox) (jA ((Z271 : w.heap.size ≤ gb174)) (Aside0.mk ((Z271 : w.heap.size ≤ gb174)))));clear HB;obtain ⟨HB,BK174,GW174,GE174⟩ := n_;clear hb hbox hg) | ((with_reducible refine gate_dst (N := 3) rfl ?_);refine box_event ?hg (N := 3) ?hd (cs := #[.bool a1_0,.int .u64 a1_1,.int .u64 a1_2,.int .i64 a1_3]) (t := 30) ?hr ?_;(case hd => rfl);(case hg => rfl);(case hr => exact Z515);intro gb175 hg w10 hbox hb;have n_ := jA (blk_below (g := gb174) (o := .cells #[.bool a0_0,.int .u64 a0_1,.int .u64 a0_2,.int .i64 a0_3] 30 (0,0)) Z517 hb) (jA (below_step Z459 hb) (jA (hbox) (jA ((Z190 : w.heap.size ≤ gb175)) (jA ((Z190 : w.heap.size ≤ gb175)) (jA ((Z272 : gb174 ≠ gb175)) (Aside0.mk ((Z273 : gb175 ≠ gb174))))))));clear BK174 HB;obtain ⟨BK174,HB,BK175,GW175,GE175,NB174_175,NB175_174⟩ := n_;clear hb hbox hg) | ((with_reducible refine gate_dst (N := 4) rfl ?_);refine box_event ?hg (N := 4) ?hd (cs := #[.bool false,.int .u64 0,.int .u64 0,.int .i64 0]) (t := 30) ?hr ?_;(case hd => rfl);(case hg => rfl);(case hr => exact Z515);intro gb176 hg w11 hbox hb;have n_ := jA (blk_below (g := gb174) (o := .cells #[.bool a0_0,.int .u64 a0_1,.int .u64 a0_2,.int .i64 a0_3] 30 (0,0)) Z517 hb) (jA (blk_below (g := gb175) (o := .cells #[.bool a1_0,.int .u64 a1_1,.int .u64 a1_2,.int .i64 a1_3] 30 (0,0)) Z521 hb) (jA (below_step Z437 hb) (jA (hbox) (jA ((Z113 : w.heap.size ≤ gb176)) (jA ((Z113 : w.heap.size ≤ gb176)) (jA ((Z272 : gb174 ≠ gb176)) (jA ((Z273 : gb176 ≠ gb174)) (jA ((Z274 : gb175 ≠ gb176)) (Aside0.mk ((Z275 : gb176 ≠ gb175)))))))))));clear BK174 BK175 HB;obtain ⟨BK174,BK175,HB,BK176,GW176,GE176,NB174_176,NB176_174,NB175_176,NB176_175⟩ := n_;clear hb hbox hg;have hnb12 := NB174_175.out;have hnc12 := NB175_174.out;have hnb13 := NB174_176.out;have hnc13 := NB176_174.out;obtain ⟨hcz14_0,hcz14_1,hcz14_2,hcz14_3,hfz14_0,hfz14_1,hfz14_2,hfz14_3⟩ := spec_AddFrac.cells4 BK174.out;have hnb15 := NB175_176.out;have hnc15 := NB176_175.out;obtain ⟨hcz16_0,hcz16_1,hcz16_2,hcz16_3,hfz16_0,hfz16_1,hfz16_2,hfz16_3⟩ := spec_AddFrac.cells4 BK175.out) | ((with_reducible refine gate_callee (f := 45) rfl ?_);refine goesL_ (some 15) rfl rfl Try.func45 Z580 rfl #[.agg #[.bool a0_0,.int .u64 a0_1,.int .u64 a0_2,.int .i64 a0_3],.agg #[.bool a1_0,.int .u64 a1_1,.int .u64 a1_2,.int .i64 a1_3]] rfl Z395 ?_;(with_reducible refine (spec_l5Cross.calls k a0_0 a0_1 a0_2 a0_3 a1_0 a1_1 a1_2 a1_3 t177 t178 t179 t180 t181 t182 true _ A3.out).mono ?_);rintro e w17 ⟨rfl,hb⟩;refine ⟨_,rfl,?_⟩;have n_ := jA (blk_below (g := gb174) (o := .cells #[.bool a0_0,.int .u64 a0_1,.int .u64 a0_2,.int .i64 a0_3] 30 (0,0)) Z517 hb) (jA (blk_below (g := gb175) (o := .cells #[.bool a1_0,.int .u64 a1_1,.int .u64 a1_2,.int .i64 a1_3] 30 (0,0)) Z521 hb) (jA (blk_below (g := gb176) (o := .cells #[.bool false,.int .u64 0,.int .u64 0,.int .i64 0] 30 (0,0)) Z525 hb) (Aside0.mk (below_step Z418 hb))));clear BK174 BK175 BK176 HB;obtain ⟨BK174,BK175,BK176,HB⟩ := n_;(try clear hb);(try clear hb2);(try clear hk);(try clear hi)) | ((with_reducible refine gate_dst (N := 6) rfl ?_);refine box_event ?hg (N := 6) ?hd (cs := #[.bool false,.int .u64 0,.int .u64 0]) (t := 28) ?hr ?_;(case hd => rfl);(case hg => rfl);(case hr => exact Z515);intro gb184 hg w18 hbox hb;have n_ := jA (blk_below (g := gb174) (o := .cells #[.bool a0_0,.int .u64 a0_1,.int .u64 a0_2,.int .i64 a0_3] 30 (0,0)) Z517 hb) (jA (blk_below (g := gb175) (o := .cells #[.bool a1_0,.int .u64 a1_1,.int .u64 a1_2,.int .i64 a1_3] 30 (0,0)) Z521 hb) (jA (blk_below (g := gb176) (o := .cells #[.bool false,.int .u64 0,.int .u64 0,.int .i64 0] 30 (0,0)) Z525 hb) (jA (below_step Z418 hb) (jA (hbox) (jA ((Z86 : w.heap.size ≤ gb184)) (jA ((Z86 : w.heap.size ≤ gb184)) (jA ((Z272 : gb174 ≠ gb184)) (jA ((Z273 : gb184 ≠ gb174)) (jA ((Z274 : gb175 ≠ gb184)) (jA ((Z275 : gb184 ≠ gb175)) (jA ((Z314 : gb176 ≠ gb184)) (Aside0.mk ((Z315 : gb184 ≠ gb176))))))))))))));clear BK174 BK175 BK176 HB;obtain ⟨BK174,BK175,BK176,HB,BK184,GW184,GE184,NB174_184,NB184_174,NB175_184,NB184_175,NB176_184,NB184_176⟩ := n_;clear hb hbox hg) | ((with_reducible refine gate_dst (N := 7) rfl ?_);refine box_event ?hg (N := 7) ?hd (cs := #[.bool false,.int .u64 0,.int .u64 0]) (t := 28) ?hr ?_;(case hd => rfl);(case hg => rfl);(case hr => exact Z515);intro gb185 hg w19 hbox hb;have n_ := jA (blk_below (g := gb174) (o := .cells #[.bool a0_0,.int .u64 a0_1,.int .u64 a0_2,.int .i64 a0_3] 30 (0,0)) Z517 hb) (jA (blk_below (g := gb175) (o := .cells #[.bool a1_0,.int .u64 a1_1,.int .u64 a1_2,.int .i64 a1_3] 30 (0,0)) Z521 hb) (jA (blk_below (g := gb176) (o := .cells #[.bool false,.int .u64 0,.int .u64 0,.int .i64 0] 30 (0,0)) Z525 hb) (jA (blk_below (g := gb184) (o := .cells #[.bool false,.int .u64 0,.int .u64 0] 28 (0,0)) Z545 hb) (jA (below_step Z410 hb) (jA (hbox) (jA ((Z58 : w.heap.size ≤ gb185)) (jA ((Z58 : w.heap.size ≤ gb185)) (jA ((Z272 : gb174 ≠ gb185)) (jA ((Z273 : gb185 ≠ gb174)) (jA ((Z274 : gb175 ≠ gb185)) (jA ((Z275 : gb185 ≠ gb175)) (jA ((Z314 : gb176 ≠ gb185)) (jA ((Z315 : gb185 ≠ gb176)) (jA ((Z363 : gb184 ≠ gb185)) (Aside0.mk ((Z367 : gb185 ≠ gb184)))))))))))))))));clear BK174 BK175 BK176 BK184 HB;obtain ⟨BK174,BK175,BK176,BK184,HB,BK185,GW185,GE185,NB174_185,NB185_174,NB175_185,NB185_175,NB176_185,NB185_176,NB184_185,NB185_184⟩ := n_;clear hb hbox hg;have hnb20 := NB184_174.out;have hnc20 := NB174_184.out;have hnb21 := NB184_175.out;have hnc21 := NB175_184.out;have hnb22 := NB184_176.out;have hnc22 := NB176_184.out;have hnb23 := NB184_185.out;have hnc23 := NB185_184.out;obtain ⟨hcz24_0,hcz24_1,hcz24_2,hfz24_0,hfz24_1,hfz24_2⟩ := spec_AddFrac.cells3 BK184.out;have hnb25 := NB185_174.out;have hnc25 := NB174_185.out;have hnb26 := NB185_175.out;have hnc26 := NB175_185.out;have hnb27 := NB185_176.out;have hnc27 := NB176_185.out;obtain ⟨hcz28_0,hcz28_1,hcz28_2,hfz28_0,hfz28_1,hfz28_2⟩ := spec_AddFrac.cells3 BK185.out) | ((with_reducible refine gate_callee (f := 46) rfl ?_);refine goesL_ (some 25) rfl rfl Try.func46 Z580 rfl #[.agg #[.bool t177,.int .u64 t178,.int .u64 t179],.agg #[.bool t180,.int .u64 t181,.int .u64 t182]] rfl Z395 ?_;(with_reducible refine (spec_AddWide.calls k t177 t178 t179 t180 t181 t182 t186 t187 t188 true _ A5.out).mono ?_);rintro e w29 ⟨rfl,hb⟩;refine ⟨_,rfl,?_⟩;have n_ := jA (blk_below (g := gb174) (o := .cells #[.bool a0_0,.int .u64 a0_1,.int .u64 a0_2,.int .i64 a0_3] 30 (0,0)) Z48 hb) (jA (blk_below (g := gb175) (o := .cells #[.bool a1_0,.int .u64 a1_1,.int .u64 a1_2,.int .i64 a1_3] 30 (0,0)) Z47 hb) (jA (blk_below (g := gb176) (o := .cells #[.bool false,.int .u64 0,.int .u64 0,.int .i64 0] 30 (0,0)) Z46 hb) (jA (blk_below (g := gb184) (o := .cells #[.bool t177,.int .u64 t178,.int .u64 t179] 28 (0,0)) Z9 hb) (jA (blk_below (g := gb185) (o := .cells #[.bool t180,.int .u64 t181,.int .u64 t182] 28 (0,0)) Z8 hb) (Aside0.mk (below_step Z402 hb))))));clear BK174 BK175 BK176 BK184 BK185 HB;obtain ⟨BK174,BK175,BK176,BK184,BK185,HB⟩ := n_;(try clear hb);(try clear hb2);(try clear hk);(try clear hi)) | ((with_reducible refine gate_dst (N := 9) rfl ?_);refine box_event ?hg (N := 9) ?hd (cs := #[.bool false,.int .u64 0,.int .u64 0]) (t := 28) ?hr ?_;(case hd => rfl);(case hg => rfl);(case hr => exact Z515);intro gb190 hg w30 hbox hb;have n_ := jA (blk_below (g := gb174) (o := .cells #[.bool a0_0,.int .u64 a0_1,.int .u64 a0_2,.int .i64 a0_3] 30 (0,0)) Z517 hb) (jA (blk_below (g := gb175) (o := .cells #[.bool a1_0,.int .u64 a1_1,.int .u64 a1_2,.int .i64 a1_3] 30 (0,0)) Z521 hb) (jA (blk_below (g := gb176) (o := .cells #[.bool false,.int .u64 0,.int .u64 0,.int .i64 0] 30 (0,0)) Z525 hb) (jA (blk_below (g := gb184) (o := .cells #[.bool t177,.int .u64 t178,.int .u64 t179] 28 (0,0)) Z545 hb) (jA (blk_below (g := gb185) (o := .cells #[.bool t180,.int .u64 t181,.int .u64 t182] 28 (0,0)) Z567 hb) (jA (below_step Z402 hb) (jA (hbox) (jA ((Z37 : w.heap.size ≤ gb190)) (jA ((Z37 : w.heap.size ≤ gb190)) (jA ((Z272 : gb174 ≠ gb190)) (jA ((Z273 : gb190 ≠ gb174)) (jA ((Z274 : gb175 ≠ gb190)) (jA ((Z275 : gb190 ≠ gb175)) (jA ((Z314 : gb176 ≠ gb190)) (jA ((Z315 : gb190 ≠ gb176)) (jA ((Z341 : gb184 ≠ gb190)) (jA ((Z344 : gb190 ≠ gb184)) (jA ((Z340 : gb185 ≠ gb190)) (Aside0.mk ((Z343 : gb190 ≠ gb185))))))))))))))))))));clear BK174 BK175 BK176 BK184 BK185 HB;obtain ⟨BK174,BK175,BK176,BK184,BK185,HB,BK190,GW190,GE190,NB174_190,NB190_174,NB175_190,NB190_175,NB176_190,NB190_176,NB184_190,NB190_184,NB185_190,NB190_185⟩ := n_;clear hb hbox hg;have hnb31 := NB190_174.out;have hnc31 := NB174_190.out;have hnb32 := NB190_175.out;have hnc32 := NB175_190.out;have hnb33 := NB190_176.out;have hnc33 := NB176_190.out;have hnb34 := NB190_184.out;have hnc34 := NB184_190.out;have hnb35 := NB190_185.out;have hnc35 := NB185_190.out;obtain ⟨hcz36_0,hcz36_1,hcz36_2,hfz36_0,hfz36_1,hfz36_2⟩ := spec_AddFrac.cells3 BK190.out;obtain ⟨hcz37_0,hcz37_1,hcz37_2,hcz37_3,hfz37_0,hfz37_1,hfz37_2,hfz37_3⟩ := spec_AddFrac.cells4 BK174.out;obtain ⟨hcz38_0,hcz38_1,hcz38_2,hcz38_3,hfz38_0,hfz38_1,hfz38_2,hfz38_3⟩ := spec_AddFrac.cells4 BK175.out) | ((with_reducible refine gate_dst (N := 11) rfl ?_);refine box_event ?hg (N := 11) ?hd (cs := #[.bool false,.int .u64 0,.int .u64 0,.int .i64 0]) (t := 30) ?hr ?_;(case hd => rfl);(case hg => rfl);(case hr => exact Z515);intro gb191 hg w39 hbox hb;have n_ := jA (blk_below (g := gb174) (o := .cells #[.bool a0_0,.int .u64 a0_1,.int .u64 a0_2,.int .i64 a0_3] 30 (0,0)) Z454 hb) (jA (blk_below (g := gb175) (o := .cells #[.bool a1_0,.int .u64 a1_1,.int .u64 a1_2,.int .i64 a1_3] 30 (0,0)) Z453 hb) (jA (blk_below (g := gb176) (o := .cells #[.bool false,.int .u64 0,.int .u64 0,.int .i64 0] 30 (0,0)) Z452 hb) (jA (blk_below (g := gb184) (o := .cells #[.bool t177,.int .u64 t178,.int .u64 t179] 28 (0,0)) Z451 hb) (jA (blk_below (g := gb185) (o := .cells #[.bool t180,.int .u64 t181,.int .u64 t182] 28 (0,0)) Z450 hb) (jA (blk_below (g := gb190) (o := .cells #[.bool t186,.int .u64 t187,.int .u64 t188] 28 (0,0)) Z407 hb) (jA (below_step Z401 hb) (jA (hbox) (jA ((Z31 : w.heap.size ≤ gb191)) (jA ((Z31 : w.heap.size ≤ gb191)) (jA ((Z53 : gb174 ≠ gb191)) (jA ((Z55 : gb191 ≠ gb174)) (jA ((Z52 : gb175 ≠ gb191)) (jA ((Z54 : gb191 ≠ gb175)) (jA ((Z56 : gb176 ≠ gb191)) (jA ((Z57 : gb191 ≠ gb176)) (jA ((Z66 : gb184 ≠ gb191)) (jA ((Z68 : gb191 ≠ gb184)) (jA ((Z65 : gb185 ≠ gb191)) (jA ((Z67 : gb191 ≠ gb185)) (jA ((Z28 : gb190 ≠ gb191)) (Aside0.mk ((Z29 : gb191 ≠ gb190)))))))))))))))))))))));clear BK174 BK175 BK176 BK184 BK185 BK190 HB;obtain ⟨BK174,BK175,BK176,BK184,BK185,BK190,HB,BK191,GW191,GE191,NB174_191,NB191_174,NB175_191,NB191_175,NB176_191,NB191_176,NB184_191,NB191_184,NB185_191,NB191_185,NB190_191,NB191_190⟩ := n_;clear hb hbox hg;have hnb40 := NB191_174.out;have hnc40 := NB174_191.out;have hnb41 := NB191_175.out;have hnc41 := NB175_191.out;have hnb42 := NB191_176.out;have hnc42 := NB176_191.out;have hnb43 := NB191_184.out;have hnc43 := NB184_191.out;have hnb44 := NB191_185.out;have hnc44 := NB185_191.out;have hnb45 := NB191_190.out;have hnc45 := NB190_191.out;obtain ⟨hcz46_0,hcz46_1,hcz46_2,hcz46_3,hfz46_0,hfz46_1,hfz46_2,hfz46_3⟩ := spec_AddFrac.cells4 BK191.out) | (go_at_call 47;(with_reducible refine (spec_FracOk.calls t186 t187 t188 (wrap64 (a0_3 * a1_3)) true _ A7.out).mono ?_);rintro e w47 ⟨rfl,hb⟩;have n_ := jA (blk_below (g := gb174) (o := .cells #[.bool a0_0,.int .u64 a0_1,.int .u64 a0_2,.int .i64 a0_3] 30 (0,0)) Z153 hb) (jA (blk_below (g := gb175) (o := .cells #[.bool a1_0,.int .u64 a1_1,.int .u64 a1_2,.int .i64 a1_3] 30 (0,0)) Z152 hb) (jA (blk_below (g := gb176) (o := .cells #[.bool false,.int .u64 0,.int .u64 0,.int .i64 0] 30 (0,0)) Z151 hb) (jA (blk_below (g := gb184) (o := .cells #[.bool t177,.int .u64 t178,.int .u64 t179] 28 (0,0)) Z150 hb) (jA (blk_below (g := gb185) (o := .cells #[.bool t180,.int .u64 t181,.int .u64 t182] 28 (0,0)) Z149 hb) (jA (blk_below (g := gb190) (o := .cells #[.bool t186,.int .u64 t187,.int .u64 t188] 28 (0,0)) Z148 hb) (jA (blk_below (g := gb191) (o := .cells #[.bool t186,.int .u64 t187,.int .u64 t188,.int .i64 (wrap64 (a0_3 * a1_3))] 30 (0,0)) Z23 hb) (Aside0.mk (below_step Z32 hb))))))));clear BK174 BK175 BK176 BK184 BK185 BK190 BK191 HB;obtain ⟨BK174,BK175,BK176,BK184,BK185,BK190,BK191,HB⟩ := n_;(try clear hb);(try clear hb2);(try clear hk);(try clear hi);obtain ⟨hcz48_0,hcz48_1,hcz48_2,hcz48_3,hfz48_0,hfz48_1,hfz48_2,hfz48_3⟩ := spec_AddFrac.cells4 BK191.out;obtain ⟨hcz49_0,hcz49_1,hcz49_2,hcz49_3,hfz49_0,hfz49_1,hfz49_2,hfz49_3⟩ := spec_AddFrac.cells4 BK176.out))
        refine bodyPost_ret (results_ct rfl _ _ gb176 30 #[.bool t186,.int .u64 t187,.int .u64 t188,.int .i64 (wrap64 (a0_3 * a1_3))] (0,0) _ rfl (by refine bP ?_;refine blk_put (cs := #[.bool t186,.int .u64 t187,.int .u64 t188,.int .i64 0]) ?_ 3 _ rfl;refine bP ?_;refine blk_put (cs := #[.bool t186,.int .u64 t187,.int .u64 0,.int .i64 0]) ?_ 2 _ rfl;refine bP ?_;refine blk_put (cs := #[.bool t186,.int .u64 0,.int .u64 0,.int .i64 0]) ?_ 1 _ rfl;refine bP ?_;refine blk_put (cs := #[.bool false,.int .u64 0,.int .u64 0,.int .i64 0]) ?_ 0 _ rfl;refine bP ?_;exact BK176.out) Try.underlying30 rfl Z580) rfl ?_
        exact ⟨Z400,Z32⟩
      · replace c8 := Bool.eq_false_iff.mpr c8
        subst c8
        have H1 : (some (false,0,0,0,false)) = some (r1,r2,r3,r4,r5) := by rw [if_neg (show ¬ (false = true) by decide)] at H;exact H
        clear H
        have H := H1
        clear H1
        simp only [Option.some.injEq,Prod.mk.injEq] at H
        obtain ⟨rfl,rfl,rfl,rfl,rfl⟩ := H
        go_enter Try.func24,Try.ntmps24
        go_wp2_with (first | ((with_reducible refine gate_dst (N := 2) rfl ?_);refine box_event ?hg (N := 2) ?hd (cs := #[.bool a0_0,.int .u64 a0_1,.int .u64 a0_2,.int .i64 a0_3]) (t := 30) ?hr ?_;(case hd => rfl);(case hg => rfl);(case hr => exact Z515);intro gb174 hg w50 hbox hb;have n_ := jA (below_step Z486 hb) (jA (hbox) (jA ((Z271 : w.heap.size ≤ gb174)) (Aside0.mk ((Z271 : w.heap.size ≤ gb174)))));clear HB;obtain ⟨HB,BK174,GW174,GE174⟩ := n_;clear hb hbox hg) | ((with_reducible refine gate_dst (N := 3) rfl ?_);refine box_event ?hg (N := 3) ?hd (cs := #[.bool a1_0,.int .u64 a1_1,.int .u64 a1_2,.int .i64 a1_3]) (t := 30) ?hr ?_;(case hd => rfl);(case hg => rfl);(case hr => exact Z515);intro gb175 hg w51 hbox hb;have n_ := jA (blk_below (g := gb174) (o := .cells #[.bool a0_0,.int .u64 a0_1,.int .u64 a0_2,.int .i64 a0_3] 30 (0,0)) Z517 hb) (jA (below_step Z459 hb) (jA (hbox) (jA ((Z190 : w.heap.size ≤ gb175)) (jA ((Z190 : w.heap.size ≤ gb175)) (jA ((Z272 : gb174 ≠ gb175)) (Aside0.mk ((Z273 : gb175 ≠ gb174))))))));clear BK174 HB;obtain ⟨BK174,HB,BK175,GW175,GE175,NB174_175,NB175_174⟩ := n_;clear hb hbox hg) | ((with_reducible refine gate_dst (N := 4) rfl ?_);refine box_event ?hg (N := 4) ?hd (cs := #[.bool false,.int .u64 0,.int .u64 0,.int .i64 0]) (t := 30) ?hr ?_;(case hd => rfl);(case hg => rfl);(case hr => exact Z515);intro gb176 hg w52 hbox hb;have n_ := jA (blk_below (g := gb174) (o := .cells #[.bool a0_0,.int .u64 a0_1,.int .u64 a0_2,.int .i64 a0_3] 30 (0,0)) Z517 hb) (jA (blk_below (g := gb175) (o := .cells #[.bool a1_0,.int .u64 a1_1,.int .u64 a1_2,.int .i64 a1_3] 30 (0,0)) Z521 hb) (jA (below_step Z437 hb) (jA (hbox) (jA ((Z113 : w.heap.size ≤ gb176)) (jA ((Z113 : w.heap.size ≤ gb176)) (jA ((Z272 : gb174 ≠ gb176)) (jA ((Z273 : gb176 ≠ gb174)) (jA ((Z274 : gb175 ≠ gb176)) (Aside0.mk ((Z275 : gb176 ≠ gb175)))))))))));clear BK174 BK175 HB;obtain ⟨BK174,BK175,HB,BK176,GW176,GE176,NB174_176,NB176_174,NB175_176,NB176_175⟩ := n_;clear hb hbox hg;have hnb53 := NB174_175.out;have hnc53 := NB175_174.out;have hnb54 := NB174_176.out;have hnc54 := NB176_174.out;obtain ⟨hcz55_0,hcz55_1,hcz55_2,hcz55_3,hfz55_0,hfz55_1,hfz55_2,hfz55_3⟩ := spec_AddFrac.cells4 BK174.out;have hnb56 := NB175_176.out;have hnc56 := NB176_175.out;obtain ⟨hcz57_0,hcz57_1,hcz57_2,hcz57_3,hfz57_0,hfz57_1,hfz57_2,hfz57_3⟩ := spec_AddFrac.cells4 BK175.out) | ((with_reducible refine gate_callee (f := 45) rfl ?_);refine goesL_ (some 15) rfl rfl Try.func45 Z580 rfl #[.agg #[.bool a0_0,.int .u64 a0_1,.int .u64 a0_2,.int .i64 a0_3],.agg #[.bool a1_0,.int .u64 a1_1,.int .u64 a1_2,.int .i64 a1_3]] rfl Z395 ?_;(with_reducible refine (spec_l5Cross.calls k a0_0 a0_1 a0_2 a0_3 a1_0 a1_1 a1_2 a1_3 t177 t178 t179 t180 t181 t182 true _ A3.out).mono ?_);rintro e w58 ⟨rfl,hb⟩;refine ⟨_,rfl,?_⟩;have n_ := jA (blk_below (g := gb174) (o := .cells #[.bool a0_0,.int .u64 a0_1,.int .u64 a0_2,.int .i64 a0_3] 30 (0,0)) Z517 hb) (jA (blk_below (g := gb175) (o := .cells #[.bool a1_0,.int .u64 a1_1,.int .u64 a1_2,.int .i64 a1_3] 30 (0,0)) Z521 hb) (jA (blk_below (g := gb176) (o := .cells #[.bool false,.int .u64 0,.int .u64 0,.int .i64 0] 30 (0,0)) Z525 hb) (Aside0.mk (below_step Z418 hb))));clear BK174 BK175 BK176 HB;obtain ⟨BK174,BK175,BK176,HB⟩ := n_;(try clear hb);(try clear hb2);(try clear hk);(try clear hi)) | ((with_reducible refine gate_dst (N := 6) rfl ?_);refine box_event ?hg (N := 6) ?hd (cs := #[.bool false,.int .u64 0,.int .u64 0]) (t := 28) ?hr ?_;(case hd => rfl);(case hg => rfl);(case hr => exact Z515);intro gb184 hg w59 hbox hb;have n_ := jA (blk_below (g := gb174) (o := .cells #[.bool a0_0,.int .u64 a0_1,.int .u64 a0_2,.int .i64 a0_3] 30 (0,0)) Z517 hb) (jA (blk_below (g := gb175) (o := .cells #[.bool a1_0,.int .u64 a1_1,.int .u64 a1_2,.int .i64 a1_3] 30 (0,0)) Z521 hb) (jA (blk_below (g := gb176) (o := .cells #[.bool false,.int .u64 0,.int .u64 0,.int .i64 0] 30 (0,0)) Z525 hb) (jA (below_step Z418 hb) (jA (hbox) (jA ((Z86 : w.heap.size ≤ gb184)) (jA ((Z86 : w.heap.size ≤ gb184)) (jA ((Z272 : gb174 ≠ gb184)) (jA ((Z273 : gb184 ≠ gb174)) (jA ((Z274 : gb175 ≠ gb184)) (jA ((Z275 : gb184 ≠ gb175)) (jA ((Z314 : gb176 ≠ gb184)) (Aside0.mk ((Z315 : gb184 ≠ gb176))))))))))))));clear BK174 BK175 BK176 HB;obtain ⟨BK174,BK175,BK176,HB,BK184,GW184,GE184,NB174_184,NB184_174,NB175_184,NB184_175,NB176_184,NB184_176⟩ := n_;clear hb hbox hg) | ((with_reducible refine gate_dst (N := 7) rfl ?_);refine box_event ?hg (N := 7) ?hd (cs := #[.bool false,.int .u64 0,.int .u64 0]) (t := 28) ?hr ?_;(case hd => rfl);(case hg => rfl);(case hr => exact Z515);intro gb185 hg w60 hbox hb;have n_ := jA (blk_below (g := gb174) (o := .cells #[.bool a0_0,.int .u64 a0_1,.int .u64 a0_2,.int .i64 a0_3] 30 (0,0)) Z517 hb) (jA (blk_below (g := gb175) (o := .cells #[.bool a1_0,.int .u64 a1_1,.int .u64 a1_2,.int .i64 a1_3] 30 (0,0)) Z521 hb) (jA (blk_below (g := gb176) (o := .cells #[.bool false,.int .u64 0,.int .u64 0,.int .i64 0] 30 (0,0)) Z525 hb) (jA (blk_below (g := gb184) (o := .cells #[.bool false,.int .u64 0,.int .u64 0] 28 (0,0)) Z545 hb) (jA (below_step Z410 hb) (jA (hbox) (jA ((Z58 : w.heap.size ≤ gb185)) (jA ((Z58 : w.heap.size ≤ gb185)) (jA ((Z272 : gb174 ≠ gb185)) (jA ((Z273 : gb185 ≠ gb174)) (jA ((Z274 : gb175 ≠ gb185)) (jA ((Z275 : gb185 ≠ gb175)) (jA ((Z314 : gb176 ≠ gb185)) (jA ((Z315 : gb185 ≠ gb176)) (jA ((Z363 : gb184 ≠ gb185)) (Aside0.mk ((Z367 : gb185 ≠ gb184)))))))))))))))));clear BK174 BK175 BK176 BK184 HB;obtain ⟨BK174,BK175,BK176,BK184,HB,BK185,GW185,GE185,NB174_185,NB185_174,NB175_185,NB185_175,NB176_185,NB185_176,NB184_185,NB185_184⟩ := n_;clear hb hbox hg;have hnb61 := NB184_174.out;have hnc61 := NB174_184.out;have hnb62 := NB184_175.out;have hnc62 := NB175_184.out;have hnb63 := NB184_176.out;have hnc63 := NB176_184.out;have hnb64 := NB184_185.out;have hnc64 := NB185_184.out;obtain ⟨hcz65_0,hcz65_1,hcz65_2,hfz65_0,hfz65_1,hfz65_2⟩ := spec_AddFrac.cells3 BK184.out;have hnb66 := NB185_174.out;have hnc66 := NB174_185.out;have hnb67 := NB185_175.out;have hnc67 := NB175_185.out;have hnb68 := NB185_176.out;have hnc68 := NB176_185.out;obtain ⟨hcz69_0,hcz69_1,hcz69_2,hfz69_0,hfz69_1,hfz69_2⟩ := spec_AddFrac.cells3 BK185.out) | ((with_reducible refine gate_callee (f := 46) rfl ?_);refine goesL_ (some 25) rfl rfl Try.func46 Z580 rfl #[.agg #[.bool t177,.int .u64 t178,.int .u64 t179],.agg #[.bool t180,.int .u64 t181,.int .u64 t182]] rfl Z395 ?_;(with_reducible refine (spec_AddWide.calls k t177 t178 t179 t180 t181 t182 t186 t187 t188 true _ A5.out).mono ?_);rintro e w70 ⟨rfl,hb⟩;refine ⟨_,rfl,?_⟩;have n_ := jA (blk_below (g := gb174) (o := .cells #[.bool a0_0,.int .u64 a0_1,.int .u64 a0_2,.int .i64 a0_3] 30 (0,0)) Z48 hb) (jA (blk_below (g := gb175) (o := .cells #[.bool a1_0,.int .u64 a1_1,.int .u64 a1_2,.int .i64 a1_3] 30 (0,0)) Z47 hb) (jA (blk_below (g := gb176) (o := .cells #[.bool false,.int .u64 0,.int .u64 0,.int .i64 0] 30 (0,0)) Z46 hb) (jA (blk_below (g := gb184) (o := .cells #[.bool t177,.int .u64 t178,.int .u64 t179] 28 (0,0)) Z9 hb) (jA (blk_below (g := gb185) (o := .cells #[.bool t180,.int .u64 t181,.int .u64 t182] 28 (0,0)) Z8 hb) (Aside0.mk (below_step Z402 hb))))));clear BK174 BK175 BK176 BK184 BK185 HB;obtain ⟨BK174,BK175,BK176,BK184,BK185,HB⟩ := n_;(try clear hb);(try clear hb2);(try clear hk);(try clear hi)) | ((with_reducible refine gate_dst (N := 9) rfl ?_);refine box_event ?hg (N := 9) ?hd (cs := #[.bool false,.int .u64 0,.int .u64 0]) (t := 28) ?hr ?_;(case hd => rfl);(case hg => rfl);(case hr => exact Z515);intro gb190 hg w71 hbox hb;have n_ := jA (blk_below (g := gb174) (o := .cells #[.bool a0_0,.int .u64 a0_1,.int .u64 a0_2,.int .i64 a0_3] 30 (0,0)) Z517 hb) (jA (blk_below (g := gb175) (o := .cells #[.bool a1_0,.int .u64 a1_1,.int .u64 a1_2,.int .i64 a1_3] 30 (0,0)) Z521 hb) (jA (blk_below (g := gb176) (o := .cells #[.bool false,.int .u64 0,.int .u64 0,.int .i64 0] 30 (0,0)) Z525 hb) (jA (blk_below (g := gb184) (o := .cells #[.bool t177,.int .u64 t178,.int .u64 t179] 28 (0,0)) Z545 hb) (jA (blk_below (g := gb185) (o := .cells #[.bool t180,.int .u64 t181,.int .u64 t182] 28 (0,0)) Z567 hb) (jA (below_step Z402 hb) (jA (hbox) (jA ((Z37 : w.heap.size ≤ gb190)) (jA ((Z37 : w.heap.size ≤ gb190)) (jA ((Z272 : gb174 ≠ gb190)) (jA ((Z273 : gb190 ≠ gb174)) (jA ((Z274 : gb175 ≠ gb190)) (jA ((Z275 : gb190 ≠ gb175)) (jA ((Z314 : gb176 ≠ gb190)) (jA ((Z315 : gb190 ≠ gb176)) (jA ((Z341 : gb184 ≠ gb190)) (jA ((Z344 : gb190 ≠ gb184)) (jA ((Z340 : gb185 ≠ gb190)) (Aside0.mk ((Z343 : gb190 ≠ gb185))))))))))))))))))));clear BK174 BK175 BK176 BK184 BK185 HB;obtain ⟨BK174,BK175,BK176,BK184,BK185,HB,BK190,GW190,GE190,NB174_190,NB190_174,NB175_190,NB190_175,NB176_190,NB190_176,NB184_190,NB190_184,NB185_190,NB190_185⟩ := n_;clear hb hbox hg;have hnb72 := NB190_174.out;have hnc72 := NB174_190.out;have hnb73 := NB190_175.out;have hnc73 := NB175_190.out;have hnb74 := NB190_176.out;have hnc74 := NB176_190.out;have hnb75 := NB190_184.out;have hnc75 := NB184_190.out;have hnb76 := NB190_185.out;have hnc76 := NB185_190.out;obtain ⟨hcz77_0,hcz77_1,hcz77_2,hfz77_0,hfz77_1,hfz77_2⟩ := spec_AddFrac.cells3 BK190.out;obtain ⟨hcz78_0,hcz78_1,hcz78_2,hcz78_3,hfz78_0,hfz78_1,hfz78_2,hfz78_3⟩ := spec_AddFrac.cells4 BK174.out;obtain ⟨hcz79_0,hcz79_1,hcz79_2,hcz79_3,hfz79_0,hfz79_1,hfz79_2,hfz79_3⟩ := spec_AddFrac.cells4 BK175.out) | ((with_reducible refine gate_dst (N := 11) rfl ?_);refine box_event ?hg (N := 11) ?hd (cs := #[.bool false,.int .u64 0,.int .u64 0,.int .i64 0]) (t := 30) ?hr ?_;(case hd => rfl);(case hg => rfl);(case hr => exact Z515);intro gb191 hg w80 hbox hb;have n_ := jA (blk_below (g := gb174) (o := .cells #[.bool a0_0,.int .u64 a0_1,.int .u64 a0_2,.int .i64 a0_3] 30 (0,0)) Z454 hb) (jA (blk_below (g := gb175) (o := .cells #[.bool a1_0,.int .u64 a1_1,.int .u64 a1_2,.int .i64 a1_3] 30 (0,0)) Z453 hb) (jA (blk_below (g := gb176) (o := .cells #[.bool false,.int .u64 0,.int .u64 0,.int .i64 0] 30 (0,0)) Z452 hb) (jA (blk_below (g := gb184) (o := .cells #[.bool t177,.int .u64 t178,.int .u64 t179] 28 (0,0)) Z451 hb) (jA (blk_below (g := gb185) (o := .cells #[.bool t180,.int .u64 t181,.int .u64 t182] 28 (0,0)) Z450 hb) (jA (blk_below (g := gb190) (o := .cells #[.bool t186,.int .u64 t187,.int .u64 t188] 28 (0,0)) Z407 hb) (jA (below_step Z401 hb) (jA (hbox) (jA ((Z31 : w.heap.size ≤ gb191)) (jA ((Z31 : w.heap.size ≤ gb191)) (jA ((Z53 : gb174 ≠ gb191)) (jA ((Z55 : gb191 ≠ gb174)) (jA ((Z52 : gb175 ≠ gb191)) (jA ((Z54 : gb191 ≠ gb175)) (jA ((Z56 : gb176 ≠ gb191)) (jA ((Z57 : gb191 ≠ gb176)) (jA ((Z66 : gb184 ≠ gb191)) (jA ((Z68 : gb191 ≠ gb184)) (jA ((Z65 : gb185 ≠ gb191)) (jA ((Z67 : gb191 ≠ gb185)) (jA ((Z28 : gb190 ≠ gb191)) (Aside0.mk ((Z29 : gb191 ≠ gb190)))))))))))))))))))))));clear BK174 BK175 BK176 BK184 BK185 BK190 HB;obtain ⟨BK174,BK175,BK176,BK184,BK185,BK190,HB,BK191,GW191,GE191,NB174_191,NB191_174,NB175_191,NB191_175,NB176_191,NB191_176,NB184_191,NB191_184,NB185_191,NB191_185,NB190_191,NB191_190⟩ := n_;clear hb hbox hg;have hnb81 := NB191_174.out;have hnc81 := NB174_191.out;have hnb82 := NB191_175.out;have hnc82 := NB175_191.out;have hnb83 := NB191_176.out;have hnc83 := NB176_191.out;have hnb84 := NB191_184.out;have hnc84 := NB184_191.out;have hnb85 := NB191_185.out;have hnc85 := NB185_191.out;have hnb86 := NB191_190.out;have hnc86 := NB190_191.out;obtain ⟨hcz87_0,hcz87_1,hcz87_2,hcz87_3,hfz87_0,hfz87_1,hfz87_2,hfz87_3⟩ := spec_AddFrac.cells4 BK191.out) | (go_at_call 47;(with_reducible refine (spec_FracOk.calls t186 t187 t188 (wrap64 (a0_3 * a1_3)) false _ A7.out).mono ?_);rintro e w88 ⟨rfl,hb⟩;have n_ := jA (blk_below (g := gb174) (o := .cells #[.bool a0_0,.int .u64 a0_1,.int .u64 a0_2,.int .i64 a0_3] 30 (0,0)) Z153 hb) (jA (blk_below (g := gb175) (o := .cells #[.bool a1_0,.int .u64 a1_1,.int .u64 a1_2,.int .i64 a1_3] 30 (0,0)) Z152 hb) (jA (blk_below (g := gb176) (o := .cells #[.bool false,.int .u64 0,.int .u64 0,.int .i64 0] 30 (0,0)) Z151 hb) (jA (blk_below (g := gb184) (o := .cells #[.bool t177,.int .u64 t178,.int .u64 t179] 28 (0,0)) Z150 hb) (jA (blk_below (g := gb185) (o := .cells #[.bool t180,.int .u64 t181,.int .u64 t182] 28 (0,0)) Z149 hb) (jA (blk_below (g := gb190) (o := .cells #[.bool t186,.int .u64 t187,.int .u64 t188] 28 (0,0)) Z148 hb) (jA (blk_below (g := gb191) (o := .cells #[.bool t186,.int .u64 t187,.int .u64 t188,.int .i64 (wrap64 (a0_3 * a1_3))] 30 (0,0)) Z23 hb) (Aside0.mk (below_step Z32 hb))))))));clear BK174 BK175 BK176 BK184 BK185 BK190 BK191 HB;obtain ⟨BK174,BK175,BK176,BK184,BK185,BK190,BK191,HB⟩ := n_;(try clear hb);(try clear hb2);(try clear hk);(try clear hi);obtain ⟨hcz89_0,hcz89_1,hcz89_2,hcz89_3,hfz89_0,hfz89_1,hfz89_2,hfz89_3⟩ := spec_AddFrac.cells4 BK176.out))
        refine bodyPost_ret (results_ct rfl _ _ gb176 30 #[.bool false,.int .u64 0,.int .u64 0,.int .i64 0] (0,0) _ rfl (by refine bP ?_;refine blk_put (cs := #[.bool false,.int .u64 0,.int .u64 0,.int .i64 0]) ?_ 3 _ rfl;refine bP ?_;refine blk_put (cs := #[.bool false,.int .u64 0,.int .u64 0,.int .i64 0]) ?_ 2 _ rfl;refine bP ?_;refine blk_put (cs := #[.bool false,.int .u64 0,.int .u64 0,.int .i64 0]) ?_ 1 _ rfl;refine bP ?_;refine blk_put (cs := #[.bool false,.int .u64 0,.int .u64 0,.int .i64 0]) ?_ 0 _ rfl;refine bP ?_;exact BK176.out) Try.underlying30 rfl Z580) rfl ?_
        exact ⟨Z400,Z32⟩
    · replace c6 := Bool.eq_false_iff.mpr c6
      subst c6
      have H1 : (some (false,0,0,0,false)) = some (r1,r2,r3,r4,r5) := by rw [if_neg (show ¬ (false = true) by decide)] at H;exact H
      clear H
      have H := H1
      clear H1
      simp only [Option.some.injEq,Prod.mk.injEq] at H
      obtain ⟨rfl,rfl,rfl,rfl,rfl⟩ := H
      go_enter Try.func24,Try.ntmps24
      go_wp2_with (first | ((with_reducible refine gate_dst (N := 2) rfl ?_);refine box_event ?hg (N := 2) ?hd (cs := #[.bool a0_0,.int .u64 a0_1,.int .u64 a0_2,.int .i64 a0_3]) (t := 30) ?hr ?_;(case hd => rfl);(case hg => rfl);(case hr => exact Z515);intro gb174 hg w90 hbox hb;have n_ := jA (below_step Z486 hb) (jA (hbox) (jA ((Z271 : w.heap.size ≤ gb174)) (Aside0.mk ((Z271 : w.heap.size ≤ gb174)))));clear HB;obtain ⟨HB,BK174,GW174,GE174⟩ := n_;clear hb hbox hg) | ((with_reducible refine gate_dst (N := 3) rfl ?_);refine box_event ?hg (N := 3) ?hd (cs := #[.bool a1_0,.int .u64 a1_1,.int .u64 a1_2,.int .i64 a1_3]) (t := 30) ?hr ?_;(case hd => rfl);(case hg => rfl);(case hr => exact Z515);intro gb175 hg w91 hbox hb;have n_ := jA (blk_below (g := gb174) (o := .cells #[.bool a0_0,.int .u64 a0_1,.int .u64 a0_2,.int .i64 a0_3] 30 (0,0)) Z517 hb) (jA (below_step Z459 hb) (jA (hbox) (jA ((Z190 : w.heap.size ≤ gb175)) (jA ((Z190 : w.heap.size ≤ gb175)) (jA ((Z272 : gb174 ≠ gb175)) (Aside0.mk ((Z273 : gb175 ≠ gb174))))))));clear BK174 HB;obtain ⟨BK174,HB,BK175,GW175,GE175,NB174_175,NB175_174⟩ := n_;clear hb hbox hg) | ((with_reducible refine gate_dst (N := 4) rfl ?_);refine box_event ?hg (N := 4) ?hd (cs := #[.bool false,.int .u64 0,.int .u64 0,.int .i64 0]) (t := 30) ?hr ?_;(case hd => rfl);(case hg => rfl);(case hr => exact Z515);intro gb176 hg w92 hbox hb;have n_ := jA (blk_below (g := gb174) (o := .cells #[.bool a0_0,.int .u64 a0_1,.int .u64 a0_2,.int .i64 a0_3] 30 (0,0)) Z517 hb) (jA (blk_below (g := gb175) (o := .cells #[.bool a1_0,.int .u64 a1_1,.int .u64 a1_2,.int .i64 a1_3] 30 (0,0)) Z521 hb) (jA (below_step Z437 hb) (jA (hbox) (jA ((Z113 : w.heap.size ≤ gb176)) (jA ((Z113 : w.heap.size ≤ gb176)) (jA ((Z272 : gb174 ≠ gb176)) (jA ((Z273 : gb176 ≠ gb174)) (jA ((Z274 : gb175 ≠ gb176)) (Aside0.mk ((Z275 : gb176 ≠ gb175)))))))))));clear BK174 BK175 HB;obtain ⟨BK174,BK175,HB,BK176,GW176,GE176,NB174_176,NB176_174,NB175_176,NB176_175⟩ := n_;clear hb hbox hg;have hnb93 := NB174_175.out;have hnc93 := NB175_174.out;have hnb94 := NB174_176.out;have hnc94 := NB176_174.out;obtain ⟨hcz95_0,hcz95_1,hcz95_2,hcz95_3,hfz95_0,hfz95_1,hfz95_2,hfz95_3⟩ := spec_AddFrac.cells4 BK174.out;have hnb96 := NB175_176.out;have hnc96 := NB176_175.out;obtain ⟨hcz97_0,hcz97_1,hcz97_2,hcz97_3,hfz97_0,hfz97_1,hfz97_2,hfz97_3⟩ := spec_AddFrac.cells4 BK175.out) | ((with_reducible refine gate_callee (f := 45) rfl ?_);refine goesL_ (some 15) rfl rfl Try.func45 Z580 rfl #[.agg #[.bool a0_0,.int .u64 a0_1,.int .u64 a0_2,.int .i64 a0_3],.agg #[.bool a1_0,.int .u64 a1_1,.int .u64 a1_2,.int .i64 a1_3]] rfl Z395 ?_;(with_reducible refine (spec_l5Cross.calls k a0_0 a0_1 a0_2 a0_3 a1_0 a1_1 a1_2 a1_3 t177 t178 t179 t180 t181 t182 true _ A3.out).mono ?_);rintro e w98 ⟨rfl,hb⟩;refine ⟨_,rfl,?_⟩;have n_ := jA (blk_below (g := gb174) (o := .cells #[.bool a0_0,.int .u64 a0_1,.int .u64 a0_2,.int .i64 a0_3] 30 (0,0)) Z517 hb) (jA (blk_below (g := gb175) (o := .cells #[.bool a1_0,.int .u64 a1_1,.int .u64 a1_2,.int .i64 a1_3] 30 (0,0)) Z521 hb) (jA (blk_below (g := gb176) (o := .cells #[.bool false,.int .u64 0,.int .u64 0,.int .i64 0] 30 (0,0)) Z525 hb) (Aside0.mk (below_step Z418 hb))));clear BK174 BK175 BK176 HB;obtain ⟨BK174,BK175,BK176,HB⟩ := n_;(try clear hb);(try clear hb2);(try clear hk);(try clear hi)) | ((with_reducible refine gate_dst (N := 6) rfl ?_);refine box_event ?hg (N := 6) ?hd (cs := #[.bool false,.int .u64 0,.int .u64 0]) (t := 28) ?hr ?_;(case hd => rfl);(case hg => rfl);(case hr => exact Z515);intro gb184 hg w99 hbox hb;have n_ := jA (blk_below (g := gb174) (o := .cells #[.bool a0_0,.int .u64 a0_1,.int .u64 a0_2,.int .i64 a0_3] 30 (0,0)) Z517 hb) (jA (blk_below (g := gb175) (o := .cells #[.bool a1_0,.int .u64 a1_1,.int .u64 a1_2,.int .i64 a1_3] 30 (0,0)) Z521 hb) (jA (blk_below (g := gb176) (o := .cells #[.bool false,.int .u64 0,.int .u64 0,.int .i64 0] 30 (0,0)) Z525 hb) (jA (below_step Z418 hb) (jA (hbox) (jA ((Z86 : w.heap.size ≤ gb184)) (jA ((Z86 : w.heap.size ≤ gb184)) (jA ((Z272 : gb174 ≠ gb184)) (jA ((Z273 : gb184 ≠ gb174)) (jA ((Z274 : gb175 ≠ gb184)) (jA ((Z275 : gb184 ≠ gb175)) (jA ((Z314 : gb176 ≠ gb184)) (Aside0.mk ((Z315 : gb184 ≠ gb176))))))))))))));clear BK174 BK175 BK176 HB;obtain ⟨BK174,BK175,BK176,HB,BK184,GW184,GE184,NB174_184,NB184_174,NB175_184,NB184_175,NB176_184,NB184_176⟩ := n_;clear hb hbox hg) | ((with_reducible refine gate_dst (N := 7) rfl ?_);refine box_event ?hg (N := 7) ?hd (cs := #[.bool false,.int .u64 0,.int .u64 0]) (t := 28) ?hr ?_;(case hd => rfl);(case hg => rfl);(case hr => exact Z515);intro gb185 hg w100 hbox hb;have n_ := jA (blk_below (g := gb174) (o := .cells #[.bool a0_0,.int .u64 a0_1,.int .u64 a0_2,.int .i64 a0_3] 30 (0,0)) Z517 hb) (jA (blk_below (g := gb175) (o := .cells #[.bool a1_0,.int .u64 a1_1,.int .u64 a1_2,.int .i64 a1_3] 30 (0,0)) Z521 hb) (jA (blk_below (g := gb176) (o := .cells #[.bool false,.int .u64 0,.int .u64 0,.int .i64 0] 30 (0,0)) Z525 hb) (jA (blk_below (g := gb184) (o := .cells #[.bool false,.int .u64 0,.int .u64 0] 28 (0,0)) Z545 hb) (jA (below_step Z410 hb) (jA (hbox) (jA ((Z58 : w.heap.size ≤ gb185)) (jA ((Z58 : w.heap.size ≤ gb185)) (jA ((Z272 : gb174 ≠ gb185)) (jA ((Z273 : gb185 ≠ gb174)) (jA ((Z274 : gb175 ≠ gb185)) (jA ((Z275 : gb185 ≠ gb175)) (jA ((Z314 : gb176 ≠ gb185)) (jA ((Z315 : gb185 ≠ gb176)) (jA ((Z363 : gb184 ≠ gb185)) (Aside0.mk ((Z367 : gb185 ≠ gb184)))))))))))))))));clear BK174 BK175 BK176 BK184 HB;obtain ⟨BK174,BK175,BK176,BK184,HB,BK185,GW185,GE185,NB174_185,NB185_174,NB175_185,NB185_175,NB176_185,NB185_176,NB184_185,NB185_184⟩ := n_;clear hb hbox hg;have hnb101 := NB184_174.out;have hnc101 := NB174_184.out;have hnb102 := NB184_175.out;have hnc102 := NB175_184.out;have hnb103 := NB184_176.out;have hnc103 := NB176_184.out;have hnb104 := NB184_185.out;have hnc104 := NB185_184.out;obtain ⟨hcz105_0,hcz105_1,hcz105_2,hfz105_0,hfz105_1,hfz105_2⟩ := spec_AddFrac.cells3 BK184.out;have hnb106 := NB185_174.out;have hnc106 := NB174_185.out;have hnb107 := NB185_175.out;have hnc107 := NB175_185.out;have hnb108 := NB185_176.out;have hnc108 := NB176_185.out;obtain ⟨hcz109_0,hcz109_1,hcz109_2,hfz109_0,hfz109_1,hfz109_2⟩ := spec_AddFrac.cells3 BK185.out) | ((with_reducible refine gate_callee (f := 46) rfl ?_);refine goesL_ (some 25) rfl rfl Try.func46 Z580 rfl #[.agg #[.bool t177,.int .u64 t178,.int .u64 t179],.agg #[.bool t180,.int .u64 t181,.int .u64 t182]] rfl Z395 ?_;(with_reducible refine (spec_AddWide.calls k t177 t178 t179 t180 t181 t182 t186 t187 t188 false _ A5.out).mono ?_);rintro e w110 ⟨rfl,hb⟩;refine ⟨_,rfl,?_⟩;have n_ := jA (blk_below (g := gb174) (o := .cells #[.bool a0_0,.int .u64 a0_1,.int .u64 a0_2,.int .i64 a0_3] 30 (0,0)) Z48 hb) (jA (blk_below (g := gb175) (o := .cells #[.bool a1_0,.int .u64 a1_1,.int .u64 a1_2,.int .i64 a1_3] 30 (0,0)) Z47 hb) (jA (blk_below (g := gb176) (o := .cells #[.bool false,.int .u64 0,.int .u64 0,.int .i64 0] 30 (0,0)) Z46 hb) (jA (blk_below (g := gb184) (o := .cells #[.bool t177,.int .u64 t178,.int .u64 t179] 28 (0,0)) Z9 hb) (jA (blk_below (g := gb185) (o := .cells #[.bool t180,.int .u64 t181,.int .u64 t182] 28 (0,0)) Z8 hb) (Aside0.mk (below_step Z402 hb))))));clear BK174 BK175 BK176 BK184 BK185 HB;obtain ⟨BK174,BK175,BK176,BK184,BK185,HB⟩ := n_;(try clear hb);(try clear hb2);(try clear hk);(try clear hi)) | ((with_reducible refine gate_dst (N := 9) rfl ?_);refine box_event ?hg (N := 9) ?hd (cs := #[.bool false,.int .u64 0,.int .u64 0]) (t := 28) ?hr ?_;(case hd => rfl);(case hg => rfl);(case hr => exact Z515);intro gb190 hg w111 hbox hb;have n_ := jA (blk_below (g := gb174) (o := .cells #[.bool a0_0,.int .u64 a0_1,.int .u64 a0_2,.int .i64 a0_3] 30 (0,0)) Z517 hb) (jA (blk_below (g := gb175) (o := .cells #[.bool a1_0,.int .u64 a1_1,.int .u64 a1_2,.int .i64 a1_3] 30 (0,0)) Z521 hb) (jA (blk_below (g := gb176) (o := .cells #[.bool false,.int .u64 0,.int .u64 0,.int .i64 0] 30 (0,0)) Z525 hb) (jA (blk_below (g := gb184) (o := .cells #[.bool t177,.int .u64 t178,.int .u64 t179] 28 (0,0)) Z545 hb) (jA (blk_below (g := gb185) (o := .cells #[.bool t180,.int .u64 t181,.int .u64 t182] 28 (0,0)) Z567 hb) (jA (below_step Z402 hb) (jA (hbox) (jA ((Z37 : w.heap.size ≤ gb190)) (jA ((Z37 : w.heap.size ≤ gb190)) (jA ((Z272 : gb174 ≠ gb190)) (jA ((Z273 : gb190 ≠ gb174)) (jA ((Z274 : gb175 ≠ gb190)) (jA ((Z275 : gb190 ≠ gb175)) (jA ((Z314 : gb176 ≠ gb190)) (jA ((Z315 : gb190 ≠ gb176)) (jA ((Z341 : gb184 ≠ gb190)) (jA ((Z344 : gb190 ≠ gb184)) (jA ((Z340 : gb185 ≠ gb190)) (Aside0.mk ((Z343 : gb190 ≠ gb185))))))))))))))))))));clear BK174 BK175 BK176 BK184 BK185 HB;obtain ⟨BK174,BK175,BK176,BK184,BK185,HB,BK190,GW190,GE190,NB174_190,NB190_174,NB175_190,NB190_175,NB176_190,NB190_176,NB184_190,NB190_184,NB185_190,NB190_185⟩ := n_;clear hb hbox hg;have hnb112 := NB190_174.out;have hnc112 := NB174_190.out;have hnb113 := NB190_175.out;have hnc113 := NB175_190.out;have hnb114 := NB190_176.out;have hnc114 := NB176_190.out;have hnb115 := NB190_184.out;have hnc115 := NB184_190.out;have hnb116 := NB190_185.out;have hnc116 := NB185_190.out;obtain ⟨hcz117_0,hcz117_1,hcz117_2,hfz117_0,hfz117_1,hfz117_2⟩ := spec_AddFrac.cells3 BK190.out;obtain ⟨hcz118_0,hcz118_1,hcz118_2,hcz118_3,hfz118_0,hfz118_1,hfz118_2,hfz118_3⟩ := spec_AddFrac.cells4 BK174.out;obtain ⟨hcz119_0,hcz119_1,hcz119_2,hcz119_3,hfz119_0,hfz119_1,hfz119_2,hfz119_3⟩ := spec_AddFrac.cells4 BK175.out) | ((with_reducible refine gate_dst (N := 11) rfl ?_);refine box_event ?hg (N := 11) ?hd (cs := #[.bool false,.int .u64 0,.int .u64 0,.int .i64 0]) (t := 30) ?hr ?_;(case hd => rfl);(case hg => rfl);(case hr => exact Z515);intro gb191 hg w120 hbox hb;have n_ := jA (blk_below (g := gb174) (o := .cells #[.bool a0_0,.int .u64 a0_1,.int .u64 a0_2,.int .i64 a0_3] 30 (0,0)) Z454 hb) (jA (blk_below (g := gb175) (o := .cells #[.bool a1_0,.int .u64 a1_1,.int .u64 a1_2,.int .i64 a1_3] 30 (0,0)) Z453 hb) (jA (blk_below (g := gb176) (o := .cells #[.bool false,.int .u64 0,.int .u64 0,.int .i64 0] 30 (0,0)) Z452 hb) (jA (blk_below (g := gb184) (o := .cells #[.bool t177,.int .u64 t178,.int .u64 t179] 28 (0,0)) Z451 hb) (jA (blk_below (g := gb185) (o := .cells #[.bool t180,.int .u64 t181,.int .u64 t182] 28 (0,0)) Z450 hb) (jA (blk_below (g := gb190) (o := .cells #[.bool t186,.int .u64 t187,.int .u64 t188] 28 (0,0)) Z407 hb) (jA (below_step Z401 hb) (jA (hbox) (jA ((Z31 : w.heap.size ≤ gb191)) (jA ((Z31 : w.heap.size ≤ gb191)) (jA ((Z53 : gb174 ≠ gb191)) (jA ((Z55 : gb191 ≠ gb174)) (jA ((Z52 : gb175 ≠ gb191)) (jA ((Z54 : gb191 ≠ gb175)) (jA ((Z56 : gb176 ≠ gb191)) (jA ((Z57 : gb191 ≠ gb176)) (jA ((Z66 : gb184 ≠ gb191)) (jA ((Z68 : gb191 ≠ gb184)) (jA ((Z65 : gb185 ≠ gb191)) (jA ((Z67 : gb191 ≠ gb185)) (jA ((Z28 : gb190 ≠ gb191)) (Aside0.mk ((Z29 : gb191 ≠ gb190)))))))))))))))))))))));clear BK174 BK175 BK176 BK184 BK185 BK190 HB;obtain ⟨BK174,BK175,BK176,BK184,BK185,BK190,HB,BK191,GW191,GE191,NB174_191,NB191_174,NB175_191,NB191_175,NB176_191,NB191_176,NB184_191,NB191_184,NB185_191,NB191_185,NB190_191,NB191_190⟩ := n_;clear hb hbox hg;have hnb121 := NB191_174.out;have hnc121 := NB174_191.out;have hnb122 := NB191_175.out;have hnc122 := NB175_191.out;have hnb123 := NB191_176.out;have hnc123 := NB176_191.out;have hnb124 := NB191_184.out;have hnc124 := NB184_191.out;have hnb125 := NB191_185.out;have hnc125 := NB185_191.out;have hnb126 := NB191_190.out;have hnc126 := NB190_191.out;obtain ⟨hcz127_0,hcz127_1,hcz127_2,hcz127_3,hfz127_0,hfz127_1,hfz127_2,hfz127_3⟩ := spec_AddFrac.cells4 BK191.out;obtain ⟨hcz128_0,hcz128_1,hcz128_2,hcz128_3,hfz128_0,hfz128_1,hfz128_2,hfz128_3⟩ := spec_AddFrac.cells4 BK176.out))
      refine bodyPost_ret (results_ct rfl _ _ gb176 30 #[.bool false,.int .u64 0,.int .u64 0,.int .i64 0] (0,0) _ rfl (by refine bP ?_;refine blk_put (cs := #[.bool false,.int .u64 0,.int .u64 0,.int .i64 0]) ?_ 3 _ rfl;refine bP ?_;refine blk_put (cs := #[.bool false,.int .u64 0,.int .u64 0,.int .i64 0]) ?_ 2 _ rfl;refine bP ?_;refine blk_put (cs := #[.bool false,.int .u64 0,.int .u64 0,.int .i64 0]) ?_ 1 _ rfl;refine bP ?_;refine blk_put (cs := #[.bool false,.int .u64 0,.int .u64 0,.int .i64 0]) ?_ 0 _ rfl;refine bP ?_;refine blk_far ?_ NB176_191.out _;refine bP ?_;refine blk_far ?_ NB176_191.out _;refine bP ?_;refine blk_far ?_ NB176_191.out _;refine bP ?_;refine blk_far ?_ NB176_191.out _;refine bP ?_;exact BK176.out) Try.underlying30 rfl Z580) rfl ?_
      exact ⟨Z400,Z32⟩
  · replace c4 := Bool.eq_false_iff.mpr c4
    subst c4
    have H1 : (some (false,0,0,0,false)) = some (r1,r2,r3,r4,r5) := by rw [if_neg (show ¬ (false = true) by decide)] at H;exact H
    clear H
    have H := H1
    clear H1
    simp only [Option.some.injEq,Prod.mk.injEq] at H
    obtain ⟨rfl,rfl,rfl,rfl,rfl⟩ := H
    go_enter Try.func24,Try.ntmps24
    go_wp2_with (first | ((with_reducible refine gate_dst (N := 2) rfl ?_);refine box_event ?hg (N := 2) ?hd (cs := #[.bool a0_0,.int .u64 a0_1,.int .u64 a0_2,.int .i64 a0_3]) (t := 30) ?hr ?_;(case hd => rfl);(case hg => rfl);(case hr => exact Z515);intro gb174 hg w129 hbox hb;have n_ := jA (below_step Z486 hb) (jA (hbox) (jA ((Z271 : w.heap.size ≤ gb174)) (Aside0.mk ((Z271 : w.heap.size ≤ gb174)))));clear HB;obtain ⟨HB,BK174,GW174,GE174⟩ := n_;clear hb hbox hg) | ((with_reducible refine gate_dst (N := 3) rfl ?_);refine box_event ?hg (N := 3) ?hd (cs := #[.bool a1_0,.int .u64 a1_1,.int .u64 a1_2,.int .i64 a1_3]) (t := 30) ?hr ?_;(case hd => rfl);(case hg => rfl);(case hr => exact Z515);intro gb175 hg w130 hbox hb;have n_ := jA (blk_below (g := gb174) (o := .cells #[.bool a0_0,.int .u64 a0_1,.int .u64 a0_2,.int .i64 a0_3] 30 (0,0)) Z517 hb) (jA (below_step Z459 hb) (jA (hbox) (jA ((Z190 : w.heap.size ≤ gb175)) (jA ((Z190 : w.heap.size ≤ gb175)) (jA ((Z272 : gb174 ≠ gb175)) (Aside0.mk ((Z273 : gb175 ≠ gb174))))))));clear BK174 HB;obtain ⟨BK174,HB,BK175,GW175,GE175,NB174_175,NB175_174⟩ := n_;clear hb hbox hg) | ((with_reducible refine gate_dst (N := 4) rfl ?_);refine box_event ?hg (N := 4) ?hd (cs := #[.bool false,.int .u64 0,.int .u64 0,.int .i64 0]) (t := 30) ?hr ?_;(case hd => rfl);(case hg => rfl);(case hr => exact Z515);intro gb176 hg w131 hbox hb;have n_ := jA (blk_below (g := gb174) (o := .cells #[.bool a0_0,.int .u64 a0_1,.int .u64 a0_2,.int .i64 a0_3] 30 (0,0)) Z517 hb) (jA (blk_below (g := gb175) (o := .cells #[.bool a1_0,.int .u64 a1_1,.int .u64 a1_2,.int .i64 a1_3] 30 (0,0)) Z521 hb) (jA (below_step Z437 hb) (jA (hbox) (jA ((Z113 : w.heap.size ≤ gb176)) (jA ((Z113 : w.heap.size ≤ gb176)) (jA ((Z272 : gb174 ≠ gb176)) (jA ((Z273 : gb176 ≠ gb174)) (jA ((Z274 : gb175 ≠ gb176)) (Aside0.mk ((Z275 : gb176 ≠ gb175)))))))))));clear BK174 BK175 HB;obtain ⟨BK174,BK175,HB,BK176,GW176,GE176,NB174_176,NB176_174,NB175_176,NB176_175⟩ := n_;clear hb hbox hg;have hnb132 := NB174_175.out;have hnc132 := NB175_174.out;have hnb133 := NB174_176.out;have hnc133 := NB176_174.out;obtain ⟨hcz134_0,hcz134_1,hcz134_2,hcz134_3,hfz134_0,hfz134_1,hfz134_2,hfz134_3⟩ := spec_AddFrac.cells4 BK174.out;have hnb135 := NB175_176.out;have hnc135 := NB176_175.out;obtain ⟨hcz136_0,hcz136_1,hcz136_2,hcz136_3,hfz136_0,hfz136_1,hfz136_2,hfz136_3⟩ := spec_AddFrac.cells4 BK175.out) | ((with_reducible refine gate_callee (f := 45) rfl ?_);refine goesL_ (some 15) rfl rfl Try.func45 Z580 rfl #[.agg #[.bool a0_0,.int .u64 a0_1,.int .u64 a0_2,.int .i64 a0_3],.agg #[.bool a1_0,.int .u64 a1_1,.int .u64 a1_2,.int .i64 a1_3]] rfl Z395 ?_;(with_reducible refine (spec_l5Cross.calls k a0_0 a0_1 a0_2 a0_3 a1_0 a1_1 a1_2 a1_3 t177 t178 t179 t180 t181 t182 false _ A3.out).mono ?_);rintro e w137 ⟨rfl,hb⟩;refine ⟨_,rfl,?_⟩;have n_ := jA (blk_below (g := gb174) (o := .cells #[.bool a0_0,.int .u64 a0_1,.int .u64 a0_2,.int .i64 a0_3] 30 (0,0)) Z517 hb) (jA (blk_below (g := gb175) (o := .cells #[.bool a1_0,.int .u64 a1_1,.int .u64 a1_2,.int .i64 a1_3] 30 (0,0)) Z521 hb) (jA (blk_below (g := gb176) (o := .cells #[.bool false,.int .u64 0,.int .u64 0,.int .i64 0] 30 (0,0)) Z525 hb) (Aside0.mk (below_step Z418 hb))));clear BK174 BK175 BK176 HB;obtain ⟨BK174,BK175,BK176,HB⟩ := n_;(try clear hb);(try clear hb2);(try clear hk);(try clear hi)) | ((with_reducible refine gate_dst (N := 6) rfl ?_);refine box_event ?hg (N := 6) ?hd (cs := #[.bool false,.int .u64 0,.int .u64 0]) (t := 28) ?hr ?_;(case hd => rfl);(case hg => rfl);(case hr => exact Z515);intro gb184 hg w138 hbox hb;have n_ := jA (blk_below (g := gb174) (o := .cells #[.bool a0_0,.int .u64 a0_1,.int .u64 a0_2,.int .i64 a0_3] 30 (0,0)) Z517 hb) (jA (blk_below (g := gb175) (o := .cells #[.bool a1_0,.int .u64 a1_1,.int .u64 a1_2,.int .i64 a1_3] 30 (0,0)) Z521 hb) (jA (blk_below (g := gb176) (o := .cells #[.bool false,.int .u64 0,.int .u64 0,.int .i64 0] 30 (0,0)) Z525 hb) (jA (below_step Z418 hb) (jA (hbox) (jA ((Z86 : w.heap.size ≤ gb184)) (jA ((Z86 : w.heap.size ≤ gb184)) (jA ((Z272 : gb174 ≠ gb184)) (jA ((Z273 : gb184 ≠ gb174)) (jA ((Z274 : gb175 ≠ gb184)) (jA ((Z275 : gb184 ≠ gb175)) (jA ((Z314 : gb176 ≠ gb184)) (Aside0.mk ((Z315 : gb184 ≠ gb176))))))))))))));clear BK174 BK175 BK176 HB;obtain ⟨BK174,BK175,BK176,HB,BK184,GW184,GE184,NB174_184,NB184_174,NB175_184,NB184_175,NB176_184,NB184_176⟩ := n_;clear hb hbox hg) | ((with_reducible refine gate_dst (N := 7) rfl ?_);refine box_event ?hg (N := 7) ?hd (cs := #[.bool false,.int .u64 0,.int .u64 0]) (t := 28) ?hr ?_;(case hd => rfl);(case hg => rfl);(case hr => exact Z515);intro gb185 hg w139 hbox hb;have n_ := jA (blk_below (g := gb174) (o := .cells #[.bool a0_0,.int .u64 a0_1,.int .u64 a0_2,.int .i64 a0_3] 30 (0,0)) Z517 hb) (jA (blk_below (g := gb175) (o := .cells #[.bool a1_0,.int .u64 a1_1,.int .u64 a1_2,.int .i64 a1_3] 30 (0,0)) Z521 hb) (jA (blk_below (g := gb176) (o := .cells #[.bool false,.int .u64 0,.int .u64 0,.int .i64 0] 30 (0,0)) Z525 hb) (jA (blk_below (g := gb184) (o := .cells #[.bool false,.int .u64 0,.int .u64 0] 28 (0,0)) Z545 hb) (jA (below_step Z410 hb) (jA (hbox) (jA ((Z58 : w.heap.size ≤ gb185)) (jA ((Z58 : w.heap.size ≤ gb185)) (jA ((Z272 : gb174 ≠ gb185)) (jA ((Z273 : gb185 ≠ gb174)) (jA ((Z274 : gb175 ≠ gb185)) (jA ((Z275 : gb185 ≠ gb175)) (jA ((Z314 : gb176 ≠ gb185)) (jA ((Z315 : gb185 ≠ gb176)) (jA ((Z363 : gb184 ≠ gb185)) (Aside0.mk ((Z367 : gb185 ≠ gb184)))))))))))))))));clear BK174 BK175 BK176 BK184 HB;obtain ⟨BK174,BK175,BK176,BK184,HB,BK185,GW185,GE185,NB174_185,NB185_174,NB175_185,NB185_175,NB176_185,NB185_176,NB184_185,NB185_184⟩ := n_;clear hb hbox hg;have hnb140 := NB184_174.out;have hnc140 := NB174_184.out;have hnb141 := NB184_175.out;have hnc141 := NB175_184.out;have hnb142 := NB184_176.out;have hnc142 := NB176_184.out;have hnb143 := NB184_185.out;have hnc143 := NB185_184.out;obtain ⟨hcz144_0,hcz144_1,hcz144_2,hfz144_0,hfz144_1,hfz144_2⟩ := spec_AddFrac.cells3 BK184.out;have hnb145 := NB185_174.out;have hnc145 := NB174_185.out;have hnb146 := NB185_175.out;have hnc146 := NB175_185.out;have hnb147 := NB185_176.out;have hnc147 := NB176_185.out;obtain ⟨hcz148_0,hcz148_1,hcz148_2,hfz148_0,hfz148_1,hfz148_2⟩ := spec_AddFrac.cells3 BK185.out;obtain ⟨hcz149_0,hcz149_1,hcz149_2,hcz149_3,hfz149_0,hfz149_1,hfz149_2,hfz149_3⟩ := spec_AddFrac.cells4 BK176.out))
    refine bodyPost_ret (results_ct rfl _ _ gb176 30 #[.bool false,.int .u64 0,.int .u64 0,.int .i64 0] (0,0) _ rfl (by refine bP ?_;refine blk_put (cs := #[.bool false,.int .u64 0,.int .u64 0,.int .i64 0]) ?_ 3 _ rfl;refine bP ?_;refine blk_put (cs := #[.bool false,.int .u64 0,.int .u64 0,.int .i64 0]) ?_ 2 _ rfl;refine bP ?_;refine blk_put (cs := #[.bool false,.int .u64 0,.int .u64 0,.int .i64 0]) ?_ 1 _ rfl;refine bP ?_;refine blk_put (cs := #[.bool false,.int .u64 0,.int .u64 0,.int .i64 0]) ?_ 0 _ rfl;refine bP ?_;refine blk_far ?_ NB176_185.out _;refine bP ?_;refine blk_far ?_ NB176_185.out _;refine bP ?_;refine blk_far ?_ NB176_185.out _;refine bP ?_;refine blk_far ?_ NB176_184.out _;refine bP ?_;refine blk_far ?_ NB176_184.out _;refine bP ?_;refine blk_far ?_ NB176_184.out _;refine bP ?_;exact BK176.out) Try.underlying30 rfl Z580) rfl ?_
    exact ⟨Z400,Z402⟩

/-! ### spec_GainOf: function 9 -/
theorem spec_GainOf.cells4 {w : World} {g : Nat} {t : TypeId} {a0 a1 a2 a3 : Value} (h : w.heap[g]? = some (.cells #[a0,a1,a2,a3] t (0,0))) : w.cell? ⟨g,0,none⟩ = some a0 ∧ w.cell? ⟨g,1,none⟩ = some a1 ∧ w.cell? ⟨g,2,none⟩ = some a2 ∧ w.cell? ⟨g,3,none⟩ = some a3 ∧ w.frozen? ⟨g,0,none⟩ = false ∧ w.frozen? ⟨g,1,none⟩ = false ∧ w.frozen? ⟨g,2,none⟩ = false ∧ w.frozen? ⟨g,3,none⟩ = false := ⟨(blk_cell h 0).trans rfl,(blk_cell h 1).trans rfl,(blk_cell h 2).trans rfl,(blk_cell h 3).trans rfl,blk_frozen h 0,blk_frozen h 1,blk_frozen h 2,blk_frozen h 3⟩
theorem spec_GainOf.cells6 {w : World} {g : Nat} {t : TypeId} {a0 a1 a2 a3 a4 a5 : Value} (h : w.heap[g]? = some (.cells #[a0,a1,a2,a3,a4,a5] t (0,0))) : w.cell? ⟨g,0,none⟩ = some a0 ∧ w.cell? ⟨g,1,none⟩ = some a1 ∧ w.cell? ⟨g,2,none⟩ = some a2 ∧ w.cell? ⟨g,3,none⟩ = some a3 ∧ w.cell? ⟨g,4,none⟩ = some a4 ∧ w.cell? ⟨g,5,none⟩ = some a5 ∧ w.frozen? ⟨g,0,none⟩ = false ∧ w.frozen? ⟨g,1,none⟩ = false ∧ w.frozen? ⟨g,2,none⟩ = false ∧ w.frozen? ⟨g,3,none⟩ = false ∧ w.frozen? ⟨g,4,none⟩ = false ∧ w.frozen? ⟨g,5,none⟩ = false := ⟨(blk_cell h 0).trans rfl,(blk_cell h 1).trans rfl,(blk_cell h 2).trans rfl,(blk_cell h 3).trans rfl,(blk_cell h 4).trans rfl,(blk_cell h 5).trans rfl,blk_frozen h 0,blk_frozen h 1,blk_frozen h 2,blk_frozen h 3,blk_frozen h 4,blk_frozen h 5⟩
def spec_GainOf.f (k : Nat) (a0_0 : Int) (a0_1 : Int) (a0_2 : Int) (a0_3 : Int) (a0_4 : Int) (a0_5 : Int) (a1 : Int) : Option (Bool × Int × Int × Int × Bool) := (spec_PlainGain.f a0_2 a0_3 a1).bind fun bt195 => ((spec_PlainGain.f a0_4 a0_5 a1).bind fun bt201 => (if bt195.2.2.2.2 = true then (if bt201.2.2.2.2 = true then ((spec_AddFrac.f k bt195.1 bt195.2.1 bt195.2.2.1 bt195.2.2.2.1 bt201.1 bt201.2.1 bt201.2.2.1 bt201.2.2.2.1).bind fun bt207 => (some (bt207.1,bt207.2.1,bt207.2.2.1,bt207.2.2.2.1,bt207.2.2.2.2))) else (some (false,0,0,0,false))) else (some (false,0,0,0,false))))
theorem spec_GainOf.mono : ∀ a0 a1 a2 a3 a4 a5 a6 k,LeO (spec_GainOf.f k a0 a1 a2 a3 a4 a5 a6) (spec_GainOf.f (k + 1) a0 a1 a2 a3 a4 a5 a6) := by
  intro a0 a1 a2 a3 a4 a5 a6 k
  unfold spec_GainOf.f
  repeat' first
      | (with_reducible exact spec_AddFrac.mono _ _ _ _ _ _ _ _ _)
      | (with_reducible exact LeO.refl _)
      | (with_reducible exact LeO.none _)
      | (with_reducible refine LeO.ite ?_ ?_)
      | (with_reducible refine LeO.bind ?_ (fun _ => ?_))
      | exact spec_AddFrac.mono _ _ _ _ _ _ _ _ _
      | exact LeO.none _
      | refine LeO.ite ?_ ?_
      | refine LeO.bind ?_ (fun _ => ?_)
set_option maxHeartbeats 8000000 in
set_option maxRecDepth 100000 in
theorem spec_GainOf.calls (k : Nat) (a0_0 : Int) (a0_1 : Int) (a0_2 : Int) (a0_3 : Int) (a0_4 : Int) (a0_5 : Int) (a1 : Int) (r1 : Bool) (r2 : Int) (r3 : Int) (r4 : Int) (r5 : Bool) (w : World) (h : spec_GainOf.f k a0_0 a0_1 a0_2 a0_3 a0_4 a0_5 a1 = some (r1,r2,r3,r4,r5)) :
    Calls Try.prog 9 #[.agg #[.int .i64 a0_0,.int .i64 a0_1,.int .i64 a0_2,.int .i64 a0_3,.int .i64 a0_4,.int .i64 a0_5],.int .i64 a1] w fun e w' => e = .returned (.tuple #[.agg #[.bool r1,.int .u64 r2,.int .u64 r3,.int .i64 r4],.bool r5]) ∧ Below w.heap.size w w' := by
  have hu35 := Try.underlying35
  have hu30 := Try.underlying30
  have hu33 := Try.underlying33
  have HB := Aside0.mk (Below.refl w.heap.size w)
  have H : ((spec_PlainGain.f a0_2 a0_3 a1).bind fun bt195 => ((spec_PlainGain.f a0_4 a0_5 a1).bind fun bt201 => (if bt195.2.2.2.2 = true then (if bt201.2.2.2.2 = true then ((spec_AddFrac.f k bt195.1 bt195.2.1 bt195.2.2.1 bt195.2.2.2.1 bt201.1 bt201.2.1 bt201.2.2.1 bt201.2.2.2.1).bind fun bt207 => (some (bt207.1,bt207.2.1,bt207.2.2.1,bt207.2.2.2.1,bt207.2.2.2.2))) else (some (false,0,0,0,false))) else (some (false,0,0,0,false))))) = some (r1,r2,r3,r4,r5) := h
  clear h
  obtain ⟨⟨t195,t196,t197,t198,t199⟩,A30,H⟩ := Option.bind_eq_some_iff.mp H
  try dsimp only at H
  have A3 := Aside0.mk A30
  clear A30
  obtain ⟨⟨t201,t202,t203,t204,t205⟩,A40,H⟩ := Option.bind_eq_some_iff.mp H
  try dsimp only at H
  have A4 := Aside0.mk A40
  clear A40
  by_cases c5 : t199 = true
  · subst c5
    have H1 : (if t205 = true then ((spec_AddFrac.f k t195 t196 t197 t198 t201 t202 t203 t204).bind fun bt207 => (some (bt207.1,bt207.2.1,bt207.2.2.1,bt207.2.2.2.1,bt207.2.2.2.2))) else (some (false,0,0,0,false))) = some (r1,r2,r3,r4,r5) := by rw [if_pos rfl] at H;exact H
    clear H
    have H := H1
    clear H1
    by_cases c6 : t205 = true
    · subst c6
      have H1 : ((spec_AddFrac.f k t195 t196 t197 t198 t201 t202 t203 t204).bind fun bt207 => (some (bt207.1,bt207.2.1,bt207.2.2.1,bt207.2.2.2.1,bt207.2.2.2.2))) = some (r1,r2,r3,r4,r5) := by rw [if_pos rfl] at H;exact H
      clear H
      have H := H1
      clear H1
      obtain ⟨⟨t207,t208,t209,t210,t211⟩,A70,H⟩ := Option.bind_eq_some_iff.mp H
      try dsimp only at H
      have A7 := Aside0.mk A70
      clear A70
      simp only [Option.some.injEq,Prod.mk.injEq] at H
      obtain ⟨rfl,rfl,rfl,rfl,rfl⟩ := H
      go_enter Try.func9,Try.ntmps9
      go_wp2_with (first | ((with_reducible refine gate_dst (N := 2) rfl ?_);refine box_event ?hg (N := 2) ?hd (cs := #[.int .i64 a0_0,.int .i64 a0_1,.int .i64 a0_2,.int .i64 a0_3,.int .i64 a0_4,.int .i64 a0_5]) (t := 35) ?hr ?_;(case hd => rfl);(case hg => rfl);(case hr => exact Z515);intro gb193 hg w8 hbox hb;have n_ := jA (below_step Z486 hb) (jA (hbox) (jA ((Z271 : w.heap.size ≤ gb193)) (Aside0.mk ((Z271 : w.heap.size ≤ gb193)))));clear HB;obtain ⟨HB,BK193,GW193,GE193⟩ := n_;clear hb hbox hg) | ((with_reducible refine gate_dst (N := 4) rfl ?_);refine box_event ?hg (N := 4) ?hd (cs := #[.bool false,.int .u64 0,.int .u64 0,.int .i64 0]) (t := 30) ?hr ?_;(case hd => rfl);(case hg => rfl);(case hr => exact Z515);intro gb194 hg w9 hbox hb;have n_ := jA (blk_below (g := gb193) (o := .cells #[.int .i64 a0_0,.int .i64 a0_1,.int .i64 a0_2,.int .i64 a0_3,.int .i64 a0_4,.int .i64 a0_5] 35 (0,0)) Z534 hb) (jA (below_step Z466 hb) (jA (hbox) (jA ((Z196 : w.heap.size ≤ gb194)) (jA ((Z196 : w.heap.size ≤ gb194)) (jA ((Z179 : gb193 ≠ gb194)) (Aside0.mk ((Z181 : gb194 ≠ gb193))))))));clear BK193 HB;obtain ⟨BK193,HB,BK194,GW194,GE194,NB193_194,NB194_193⟩ := n_;clear hb hbox hg;have hnb10 := NB193_194.out;have hnc10 := NB194_193.out;obtain ⟨hcz11_0,hcz11_1,hcz11_2,hcz11_3,hcz11_4,hcz11_5,hfz11_0,hfz11_1,hfz11_2,hfz11_3,hfz11_4,hfz11_5⟩ := spec_GainOf.cells6 BK193.out) | ((with_reducible refine gate_callee (f := 22) rfl ?_);refine goesL_ (some 14) rfl rfl Try.func22 Z580 rfl #[.agg #[.int .i64 a0_2,.int .i64 a0_3],.int .i64 a1] rfl Z395 ?_;(with_reducible refine (spec_PlainGain.calls a0_2 a0_3 a1 t195 t196 t197 t198 true _ A3.out).mono ?_);rintro e w12 ⟨rfl,hb⟩;refine ⟨_,rfl,?_⟩;have n_ := jA (blk_below (g := gb193) (o := .cells #[.int .i64 a0_0,.int .i64 a0_1,.int .i64 a0_2,.int .i64 a0_3,.int .i64 a0_4,.int .i64 a0_5] 35 (0,0)) Z534 hb) (jA (blk_below (g := gb194) (o := .cells #[.bool false,.int .u64 0,.int .u64 0,.int .i64 0] 30 (0,0)) Z544 hb) (Aside0.mk (below_step Z434 hb)));clear BK193 BK194 HB;obtain ⟨BK193,BK194,HB⟩ := n_;(try clear hb);(try clear hb2);(try clear hk);(try clear hi)) | ((with_reducible refine gate_dst (N := 6) rfl ?_);refine box_event ?hg (N := 6) ?hd (cs := #[.bool false,.int .u64 0,.int .u64 0,.int .i64 0]) (t := 30) ?hr ?_;(case hd => rfl);(case hg => rfl);(case hr => exact Z515);intro gb200 hg w13 hbox hb;have n_ := jA (blk_below (g := gb193) (o := .cells #[.int .i64 a0_0,.int .i64 a0_1,.int .i64 a0_2,.int .i64 a0_3,.int .i64 a0_4,.int .i64 a0_5] 35 (0,0)) Z534 hb) (jA (blk_below (g := gb194) (o := .cells #[.bool false,.int .u64 0,.int .u64 0,.int .i64 0] 30 (0,0)) Z544 hb) (jA (below_step Z434 hb) (jA (hbox) (jA ((Z119 : w.heap.size ≤ gb200)) (jA ((Z119 : w.heap.size ≤ gb200)) (jA ((Z179 : gb193 ≠ gb200)) (jA ((Z181 : gb200 ≠ gb193)) (jA ((Z319 : gb194 ≠ gb200)) (Aside0.mk ((Z321 : gb200 ≠ gb194)))))))))));clear BK193 BK194 HB;obtain ⟨BK193,BK194,HB,BK200,GW200,GE200,NB193_200,NB200_193,NB194_200,NB200_194⟩ := n_;clear hb hbox hg;have hnb14 := NB200_193.out;have hnc14 := NB193_200.out;have hnb15 := NB200_194.out;have hnc15 := NB194_200.out;obtain ⟨hcz16_0,hcz16_1,hcz16_2,hcz16_3,hfz16_0,hfz16_1,hfz16_2,hfz16_3⟩ := spec_GainOf.cells4 BK200.out;obtain ⟨hcz17_0,hcz17_1,hcz17_2,hcz17_3,hcz17_4,hcz17_5,hfz17_0,hfz17_1,hfz17_2,hfz17_3,hfz17_4,hfz17_5⟩ := spec_GainOf.cells6 BK193.out) | ((with_reducible refine gate_callee (f := 22) rfl ?_);refine goesL_ (some 21) rfl rfl Try.func22 Z580 rfl #[.agg #[.int .i64 a0_4,.int .i64 a0_5],.int .i64 a1] rfl Z395 ?_;(with_reducible refine (spec_PlainGain.calls a0_4 a0_5 a1 t201 t202 t203 t204 true _ A4.out).mono ?_);rintro e w18 ⟨rfl,hb⟩;refine ⟨_,rfl,?_⟩;have n_ := jA (blk_below (g := gb193) (o := .cells #[.int .i64 a0_0,.int .i64 a0_1,.int .i64 a0_2,.int .i64 a0_3,.int .i64 a0_4,.int .i64 a0_5] 35 (0,0)) Z142 hb) (jA (blk_below (g := gb194) (o := .cells #[.bool false,.int .u64 0,.int .u64 0,.int .i64 0] 30 (0,0)) Z141 hb) (jA (blk_below (g := gb200) (o := .cells #[.bool t195,.int .u64 t196,.int .u64 t197,.int .i64 t198] 30 (0,0)) Z21 hb) (Aside0.mk (below_step Z421 hb))));clear BK193 BK194 BK200 HB;obtain ⟨BK193,BK194,BK200,HB⟩ := n_;(try clear hb);(try clear hb2);(try clear hk);(try clear hi)) | ((with_reducible refine gate_dst (N := 8) rfl ?_);refine box_event ?hg (N := 8) ?hd (cs := #[.bool false,.int .u64 0,.int .u64 0,.int .i64 0]) (t := 30) ?hr ?_;(case hd => rfl);(case hg => rfl);(case hr => exact Z515);intro gb206 hg w19 hbox hb;have n_ := jA (blk_below (g := gb193) (o := .cells #[.int .i64 a0_0,.int .i64 a0_1,.int .i64 a0_2,.int .i64 a0_3,.int .i64 a0_4,.int .i64 a0_5] 35 (0,0)) Z534 hb) (jA (blk_below (g := gb194) (o := .cells #[.bool false,.int .u64 0,.int .u64 0,.int .i64 0] 30 (0,0)) Z544 hb) (jA (blk_below (g := gb200) (o := .cells #[.bool t195,.int .u64 t196,.int .u64 t197,.int .i64 t198] 30 (0,0)) Z566 hb) (jA (below_step Z421 hb) (jA (hbox) (jA ((Z90 : w.heap.size ≤ gb206)) (jA ((Z90 : w.heap.size ≤ gb206)) (jA ((Z179 : gb193 ≠ gb206)) (jA ((Z181 : gb206 ≠ gb193)) (jA ((Z319 : gb194 ≠ gb206)) (jA ((Z321 : gb206 ≠ gb194)) (jA ((Z306 : gb200 ≠ gb206)) (Aside0.mk ((Z308 : gb206 ≠ gb200))))))))))))));clear BK193 BK194 BK200 HB;obtain ⟨BK193,BK194,BK200,HB,BK206,GW206,GE206,NB193_206,NB206_193,NB194_206,NB206_194,NB200_206,NB206_200⟩ := n_;clear hb hbox hg;have hnb20 := NB206_193.out;have hnc20 := NB193_206.out;have hnb21 := NB206_194.out;have hnc21 := NB194_206.out;have hnb22 := NB206_200.out;have hnc22 := NB200_206.out;obtain ⟨hcz23_0,hcz23_1,hcz23_2,hcz23_3,hfz23_0,hfz23_1,hfz23_2,hfz23_3⟩ := spec_GainOf.cells4 BK206.out;obtain ⟨hcz24_0,hcz24_1,hcz24_2,hcz24_3,hfz24_0,hfz24_1,hfz24_2,hfz24_3⟩ := spec_GainOf.cells4 BK200.out) | ((with_reducible refine gate_callee (f := 24) rfl ?_);refine goesL_ (some 33) rfl rfl Try.func24 Z580 rfl #[.agg #[.bool t195,.int .u64 t196,.int .u64 t197,.int .i64 t198],.agg #[.bool t201,.int .u64 t202,.int .u64 t203,.int .i64 t204]] rfl Z395 ?_;(with_reducible refine (spec_AddFrac.calls k t195 t196 t197 t198 t201 t202 t203 t204 t207 t208 t209 t210 t211 _ A7.out).mono ?_);rintro e w25 ⟨rfl,hb⟩;refine ⟨_,rfl,?_⟩;have n_ := jA (blk_below (g := gb193) (o := .cells #[.int .i64 a0_0,.int .i64 a0_1,.int .i64 a0_2,.int .i64 a0_3,.int .i64 a0_4,.int .i64 a0_5] 35 (0,0)) (by refine bP ?_;refine blk_far ?_ NB193_206.out _;refine bP ?_;refine blk_far ?_ NB193_206.out _;refine bP ?_;refine blk_far ?_ NB193_206.out _;refine bP ?_;refine blk_far ?_ NB193_206.out _;refine bP ?_;exact BK193.out) hb) (jA (blk_below (g := gb194) (o := .cells #[.bool false,.int .u64 0,.int .u64 0,.int .i64 0] 30 (0,0)) (by refine bP ?_;refine blk_far ?_ NB194_206.out _;refine bP ?_;refine blk_far ?_ NB194_206.out _;refine bP ?_;refine blk_far ?_ NB194_206.out _;refine bP ?_;refine blk_far ?_ NB194_206.out _;refine bP ?_;exact BK194.out) hb) (jA (blk_below (g := gb200) (o := .cells #[.bool t195,.int .u64 t196,.int .u64 t197,.int .i64 t198] 30 (0,0)) (by refine bP ?_;refine blk_far ?_ NB200_206.out _;refine bP ?_;refine blk_far ?_ NB200_206.out _;refine bP ?_;refine blk_far ?_ NB200_206.out _;refine bP ?_;refine blk_far ?_ NB200_206.out _;refine bP ?_;exact BK200.out) hb) (jA (blk_below (g := gb206) (o := .cells #[.bool t201,.int .u64 t202,.int .u64 t203,.int .i64 t204] 30 (0,0)) (by refine bP ?_;refine blk_put (cs := #[.bool t201,.int .u64 t202,.int .u64 t203,.int .i64 0]) ?_ 3 _ rfl;refine bP ?_;refine blk_put (cs := #[.bool t201,.int .u64 t202,.int .u64 0,.int .i64 0]) ?_ 2 _ rfl;refine bP ?_;refine blk_put (cs := #[.bool t201,.int .u64 0,.int .u64 0,.int .i64 0]) ?_ 1 _ rfl;refine bP ?_;refine blk_put (cs := #[.bool false,.int .u64 0,.int .u64 0,.int .i64 0]) ?_ 0 _ rfl;refine bP ?_;exact BK206.out) hb) (Aside0.mk (below_step Z93 hb)))));clear BK193 BK194 BK200 BK206 HB;obtain ⟨BK193,BK194,BK200,BK206,HB⟩ := n_;(try clear hb);(try clear hb2);(try clear hk);(try clear hi);obtain ⟨hcz26_0,hcz26_1,hcz26_2,hcz26_3,hfz26_0,hfz26_1,hfz26_2,hfz26_3⟩ := spec_GainOf.cells4 BK194.out))
      refine bodyPost_ret (results_ct rfl _ _ gb194 30 #[.bool t207,.int .u64 t208,.int .u64 t209,.int .i64 t210] (0,0) _ rfl (by refine bP ?_;refine blk_put (cs := #[.bool t207,.int .u64 t208,.int .u64 t209,.int .i64 0]) ?_ 3 _ rfl;refine bP ?_;refine blk_put (cs := #[.bool t207,.int .u64 t208,.int .u64 0,.int .i64 0]) ?_ 2 _ rfl;refine bP ?_;refine blk_put (cs := #[.bool t207,.int .u64 0,.int .u64 0,.int .i64 0]) ?_ 1 _ rfl;refine bP ?_;refine blk_put (cs := #[.bool false,.int .u64 0,.int .u64 0,.int .i64 0]) ?_ 0 _ rfl;refine bP ?_;exact BK194.out) Try.underlying30 rfl Z580) rfl ?_
      exact ⟨Z400,Z93⟩
    · replace c6 := Bool.eq_false_iff.mpr c6
      subst c6
      have H1 : (some (false,0,0,0,false)) = some (r1,r2,r3,r4,r5) := by rw [if_neg (show ¬ (false = true) by decide)] at H;exact H
      clear H
      have H := H1
      clear H1
      simp only [Option.some.injEq,Prod.mk.injEq] at H
      obtain ⟨rfl,rfl,rfl,rfl,rfl⟩ := H
      go_enter Try.func9,Try.ntmps9
      go_wp2_with (first | ((with_reducible refine gate_dst (N := 2) rfl ?_);refine box_event ?hg (N := 2) ?hd (cs := #[.int .i64 a0_0,.int .i64 a0_1,.int .i64 a0_2,.int .i64 a0_3,.int .i64 a0_4,.int .i64 a0_5]) (t := 35) ?hr ?_;(case hd => rfl);(case hg => rfl);(case hr => exact Z515);intro gb193 hg w27 hbox hb;have n_ := jA (below_step Z486 hb) (jA (hbox) (jA ((Z271 : w.heap.size ≤ gb193)) (Aside0.mk ((Z271 : w.heap.size ≤ gb193)))));clear HB;obtain ⟨HB,BK193,GW193,GE193⟩ := n_;clear hb hbox hg) | ((with_reducible refine gate_dst (N := 4) rfl ?_);refine box_event ?hg (N := 4) ?hd (cs := #[.bool false,.int .u64 0,.int .u64 0,.int .i64 0]) (t := 30) ?hr ?_;(case hd => rfl);(case hg => rfl);(case hr => exact Z515);intro gb194 hg w28 hbox hb;have n_ := jA (blk_below (g := gb193) (o := .cells #[.int .i64 a0_0,.int .i64 a0_1,.int .i64 a0_2,.int .i64 a0_3,.int .i64 a0_4,.int .i64 a0_5] 35 (0,0)) Z534 hb) (jA (below_step Z466 hb) (jA (hbox) (jA ((Z196 : w.heap.size ≤ gb194)) (jA ((Z196 : w.heap.size ≤ gb194)) (jA ((Z179 : gb193 ≠ gb194)) (Aside0.mk ((Z181 : gb194 ≠ gb193))))))));clear BK193 HB;obtain ⟨BK193,HB,BK194,GW194,GE194,NB193_194,NB194_193⟩ := n_;clear hb hbox hg;have hnb29 := NB193_194.out;have hnc29 := NB194_193.out;obtain ⟨hcz30_0,hcz30_1,hcz30_2,hcz30_3,hcz30_4,hcz30_5,hfz30_0,hfz30_1,hfz30_2,hfz30_3,hfz30_4,hfz30_5⟩ := spec_GainOf.cells6 BK193.out) | ((with_reducible refine gate_callee (f := 22) rfl ?_);refine goesL_ (some 14) rfl rfl Try.func22 Z580 rfl #[.agg #[.int .i64 a0_2,.int .i64 a0_3],.int .i64 a1] rfl Z395 ?_;(with_reducible refine (spec_PlainGain.calls a0_2 a0_3 a1 t195 t196 t197 t198 true _ A3.out).mono ?_);rintro e w31 ⟨rfl,hb⟩;refine ⟨_,rfl,?_⟩;have n_ := jA (blk_below (g := gb193) (o := .cells #[.int .i64 a0_0,.int .i64 a0_1,.int .i64 a0_2,.int .i64 a0_3,.int .i64 a0_4,.int .i64 a0_5] 35 (0,0)) Z534 hb) (jA (blk_below (g := gb194) (o := .cells #[.bool false,.int .u64 0,.int .u64 0,.int .i64 0] 30 (0,0)) Z544 hb) (Aside0.mk (below_step Z434 hb)));clear BK193 BK194 HB;obtain ⟨BK193,BK194,HB⟩ := n_;(try clear hb);(try clear hb2);(try clear hk);(try clear hi)) | ((with_reducible refine gate_dst (N := 6) rfl ?_);refine box_event ?hg (N := 6) ?hd (cs := #[.bool false,.int .u64 0,.int .u64 0,.int .i64 0]) (t := 30) ?hr ?_;(case hd => rfl);(case hg => rfl);(case hr => exact Z515);intro gb200 hg w32 hbox hb;have n_ := jA (blk_below (g := gb193) (o := .cells #[.int .i64 a0_0,.int .i64 a0_1,.int .i64 a0_2,.int .i64 a0_3,.int .i64 a0_4,.int .i64 a0_5] 35 (0,0)) Z534 hb) (jA (blk_below (g := gb194) (o := .cells #[.bool false,.int .u64 0,.int .u64 0,.int .i64 0] 30 (0,0)) Z544 hb) (jA (below_step Z434 hb) (jA (hbox) (jA ((Z119 : w.heap.size ≤ gb200)) (jA ((Z119 : w.heap.size ≤ gb200)) (jA ((Z179 : gb193 ≠ gb200)) (jA ((Z181 : gb200 ≠ gb193)) (jA ((Z319 : gb194 ≠ gb200)) (Aside0.mk ((Z321 : gb200 ≠ gb194)))))))))));clear BK193 BK194 HB;obtain ⟨BK193,BK194,HB,BK200,GW200,GE200,NB193_200,NB200_193,NB194_200,NB200_194⟩ := n_;clear hb hbox hg;have hnb33 := NB200_193.out;have hnc33 := NB193_200.out;have hnb34 := NB200_194.out;have hnc34 := NB194_200.out;obtain ⟨hcz35_0,hcz35_1,hcz35_2,hcz35_3,hfz35_0,hfz35_1,hfz35_2,hfz35_3⟩ := spec_GainOf.cells4 BK200.out;obtain ⟨hcz36_0,hcz36_1,hcz36_2,hcz36_3,hcz36_4,hcz36_5,hfz36_0,hfz36_1,hfz36_2,hfz36_3,hfz36_4,hfz36_5⟩ := spec_GainOf.cells6 BK193.out) | ((with_reducible refine gate_callee (f := 22) rfl ?_);refine goesL_ (some 21) rfl rfl Try.func22 Z580 rfl #[.agg #[.int .i64 a0_4,.int .i64 a0_5],.int .i64 a1] rfl Z395 ?_;(with_reducible refine (spec_PlainGain.calls a0_4 a0_5 a1 t201 t202 t203 t204 false _ A4.out).mono ?_);rintro e w37 ⟨rfl,hb⟩;refine ⟨_,rfl,?_⟩;have n_ := jA (blk_below (g := gb193) (o := .cells #[.int .i64 a0_0,.int .i64 a0_1,.int .i64 a0_2,.int .i64 a0_3,.int .i64 a0_4,.int .i64 a0_5] 35 (0,0)) Z142 hb) (jA (blk_below (g := gb194) (o := .cells #[.bool false,.int .u64 0,.int .u64 0,.int .i64 0] 30 (0,0)) Z141 hb) (jA (blk_below (g := gb200) (o := .cells #[.bool t195,.int .u64 t196,.int .u64 t197,.int .i64 t198] 30 (0,0)) Z21 hb) (Aside0.mk (below_step Z421 hb))));clear BK193 BK194 BK200 HB;obtain ⟨BK193,BK194,BK200,HB⟩ := n_;(try clear hb);(try clear hb2);(try clear hk);(try clear hi)) | ((with_reducible refine gate_dst (N := 8) rfl ?_);refine box_event ?hg (N := 8) ?hd (cs := #[.bool false,.int .u64 0,.int .u64 0,.int .i64 0]) (t := 30) ?hr ?_;(case hd => rfl);(case hg => rfl);(case hr => exact Z515);intro gb206 hg w38 hbox hb;have n_ := jA (blk_below (g := gb193) (o := .cells #[.int .i64 a0_0,.int .i64 a0_1,.int .i64 a0_2,.int .i64 a0_3,.int .i64 a0_4,.int .i64 a0_5] 35 (0,0)) Z534 hb) (jA (blk_below (g := gb194) (o := .cells #[.bool false,.int .u64 0,.int .u64 0,.int .i64 0] 30 (0,0)) Z544 hb) (jA (blk_below (g := gb200) (o := .cells #[.bool t195,.int .u64 t196,.int .u64 t197,.int .i64 t198] 30 (0,0)) Z566 hb) (jA (below_step Z421 hb) (jA (hbox) (jA ((Z90 : w.heap.size ≤ gb206)) (jA ((Z90 : w.heap.size ≤ gb206)) (jA ((Z179 : gb193 ≠ gb206)) (jA ((Z181 : gb206 ≠ gb193)) (jA ((Z319 : gb194 ≠ gb206)) (jA ((Z321 : gb206 ≠ gb194)) (jA ((Z306 : gb200 ≠ gb206)) (Aside0.mk ((Z308 : gb206 ≠ gb200))))))))))))));clear BK193 BK194 BK200 HB;obtain ⟨BK193,BK194,BK200,HB,BK206,GW206,GE206,NB193_206,NB206_193,NB194_206,NB206_194,NB200_206,NB206_200⟩ := n_;clear hb hbox hg;have hnb39 := NB206_193.out;have hnc39 := NB193_206.out;have hnb40 := NB206_194.out;have hnc40 := NB194_206.out;have hnb41 := NB206_200.out;have hnc41 := NB200_206.out;obtain ⟨hcz42_0,hcz42_1,hcz42_2,hcz42_3,hfz42_0,hfz42_1,hfz42_2,hfz42_3⟩ := spec_GainOf.cells4 BK206.out;obtain ⟨hcz43_0,hcz43_1,hcz43_2,hcz43_3,hfz43_0,hfz43_1,hfz43_2,hfz43_3⟩ := spec_GainOf.cells4 BK194.out))
      refine bodyPost_ret (results_ct rfl _ _ gb194 30 #[.bool false,.int .u64 0,.int .u64 0,.int .i64 0] (0,0) _ rfl Z4 Try.underlying30 rfl Z580) rfl ?_
      exact ⟨Z400,Z93⟩
  · replace c5 := Bool.eq_false_iff.mpr c5
    subst c5
    have H1 : (some (false,0,0,0,false)) = some (r1,r2,r3,r4,r5) := by rw [if_neg (show ¬ (false = true) by decide)] at H;exact H
    clear H
    have H := H1
    clear H1
    simp only [Option.some.injEq,Prod.mk.injEq] at H
    obtain ⟨rfl,rfl,rfl,rfl,rfl⟩ := H
    go_enter Try.func9,Try.ntmps9
    go_wp2_with (first | ((with_reducible refine gate_dst (N := 2) rfl ?_);refine box_event ?hg (N := 2) ?hd (cs := #[.int .i64 a0_0,.int .i64 a0_1,.int .i64 a0_2,.int .i64 a0_3,.int .i64 a0_4,.int .i64 a0_5]) (t := 35) ?hr ?_;(case hd => rfl);(case hg => rfl);(case hr => exact Z515);intro gb193 hg w44 hbox hb;have n_ := jA (below_step Z486 hb) (jA (hbox) (jA ((Z271 : w.heap.size ≤ gb193)) (Aside0.mk ((Z271 : w.heap.size ≤ gb193)))));clear HB;obtain ⟨HB,BK193,GW193,GE193⟩ := n_;clear hb hbox hg) | ((with_reducible refine gate_dst (N := 4) rfl ?_);refine box_event ?hg (N := 4) ?hd (cs := #[.bool false,.int .u64 0,.int .u64 0,.int .i64 0]) (t := 30) ?hr ?_;(case hd => rfl);(case hg => rfl);(case hr => exact Z515);intro gb194 hg w45 hbox hb;have n_ := jA (blk_below (g := gb193) (o := .cells #[.int .i64 a0_0,.int .i64 a0_1,.int .i64 a0_2,.int .i64 a0_3,.int .i64 a0_4,.int .i64 a0_5] 35 (0,0)) Z534 hb) (jA (below_step Z466 hb) (jA (hbox) (jA ((Z196 : w.heap.size ≤ gb194)) (jA ((Z196 : w.heap.size ≤ gb194)) (jA ((Z179 : gb193 ≠ gb194)) (Aside0.mk ((Z181 : gb194 ≠ gb193))))))));clear BK193 HB;obtain ⟨BK193,HB,BK194,GW194,GE194,NB193_194,NB194_193⟩ := n_;clear hb hbox hg;have hnb46 := NB193_194.out;have hnc46 := NB194_193.out;obtain ⟨hcz47_0,hcz47_1,hcz47_2,hcz47_3,hcz47_4,hcz47_5,hfz47_0,hfz47_1,hfz47_2,hfz47_3,hfz47_4,hfz47_5⟩ := spec_GainOf.cells6 BK193.out) | ((with_reducible refine gate_callee (f := 22) rfl ?_);refine goesL_ (some 14) rfl rfl Try.func22 Z580 rfl #[.agg #[.int .i64 a0_2,.int .i64 a0_3],.int .i64 a1] rfl Z395 ?_;(with_reducible refine (spec_PlainGain.calls a0_2 a0_3 a1 t195 t196 t197 t198 false _ A3.out).mono ?_);rintro e w48 ⟨rfl,hb⟩;refine ⟨_,rfl,?_⟩;have n_ := jA (blk_below (g := gb193) (o := .cells #[.int .i64 a0_0,.int .i64 a0_1,.int .i64 a0_2,.int .i64 a0_3,.int .i64 a0_4,.int .i64 a0_5] 35 (0,0)) Z534 hb) (jA (blk_below (g := gb194) (o := .cells #[.bool false,.int .u64 0,.int .u64 0,.int .i64 0] 30 (0,0)) Z544 hb) (Aside0.mk (below_step Z434 hb)));clear BK193 BK194 HB;obtain ⟨BK193,BK194,HB⟩ := n_;(try clear hb);(try clear hb2);(try clear hk);(try clear hi)) | ((with_reducible refine gate_dst (N := 6) rfl ?_);refine box_event ?hg (N := 6) ?hd (cs := #[.bool false,.int .u64 0,.int .u64 0,.int .i64 0]) (t := 30) ?hr ?_;(case hd => rfl);(case hg => rfl);(case hr => exact Z515);intro gb200 hg w49 hbox hb;have n_ := jA (blk_below (g := gb193) (o := .cells #[.int .i64 a0_0,.int .i64 a0_1,.int .i64 a0_2,.int .i64 a0_3,.int .i64 a0_4,.int .i64 a0_5] 35 (0,0)) Z534 hb) (jA (blk_below (g := gb194) (o := .cells #[.bool false,.int .u64 0,.int .u64 0,.int .i64 0] 30 (0,0)) Z544 hb) (jA (below_step Z434 hb) (jA (hbox) (jA ((Z119 : w.heap.size ≤ gb200)) (jA ((Z119 : w.heap.size ≤ gb200)) (jA ((Z179 : gb193 ≠ gb200)) (jA ((Z181 : gb200 ≠ gb193)) (jA ((Z319 : gb194 ≠ gb200)) (Aside0.mk ((Z321 : gb200 ≠ gb194)))))))))));clear BK193 BK194 HB;obtain ⟨BK193,BK194,HB,BK200,GW200,GE200,NB193_200,NB200_193,NB194_200,NB200_194⟩ := n_;clear hb hbox hg;have hnb50 := NB200_193.out;have hnc50 := NB193_200.out;have hnb51 := NB200_194.out;have hnc51 := NB194_200.out;obtain ⟨hcz52_0,hcz52_1,hcz52_2,hcz52_3,hfz52_0,hfz52_1,hfz52_2,hfz52_3⟩ := spec_GainOf.cells4 BK200.out;obtain ⟨hcz53_0,hcz53_1,hcz53_2,hcz53_3,hcz53_4,hcz53_5,hfz53_0,hfz53_1,hfz53_2,hfz53_3,hfz53_4,hfz53_5⟩ := spec_GainOf.cells6 BK193.out) | ((with_reducible refine gate_callee (f := 22) rfl ?_);refine goesL_ (some 21) rfl rfl Try.func22 Z580 rfl #[.agg #[.int .i64 a0_4,.int .i64 a0_5],.int .i64 a1] rfl Z395 ?_;(with_reducible refine (spec_PlainGain.calls a0_4 a0_5 a1 t201 t202 t203 t204 t205 _ A4.out).mono ?_);rintro e w54 ⟨rfl,hb⟩;refine ⟨_,rfl,?_⟩;have n_ := jA (blk_below (g := gb193) (o := .cells #[.int .i64 a0_0,.int .i64 a0_1,.int .i64 a0_2,.int .i64 a0_3,.int .i64 a0_4,.int .i64 a0_5] 35 (0,0)) Z142 hb) (jA (blk_below (g := gb194) (o := .cells #[.bool false,.int .u64 0,.int .u64 0,.int .i64 0] 30 (0,0)) Z141 hb) (jA (blk_below (g := gb200) (o := .cells #[.bool t195,.int .u64 t196,.int .u64 t197,.int .i64 t198] 30 (0,0)) Z21 hb) (Aside0.mk (below_step Z421 hb))));clear BK193 BK194 BK200 HB;obtain ⟨BK193,BK194,BK200,HB⟩ := n_;(try clear hb);(try clear hb2);(try clear hk);(try clear hi)) | ((with_reducible refine gate_dst (N := 8) rfl ?_);refine box_event ?hg (N := 8) ?hd (cs := #[.bool false,.int .u64 0,.int .u64 0,.int .i64 0]) (t := 30) ?hr ?_;(case hd => rfl);(case hg => rfl);(case hr => exact Z515);intro gb206 hg w55 hbox hb;have n_ := jA (blk_below (g := gb193) (o := .cells #[.int .i64 a0_0,.int .i64 a0_1,.int .i64 a0_2,.int .i64 a0_3,.int .i64 a0_4,.int .i64 a0_5] 35 (0,0)) Z534 hb) (jA (blk_below (g := gb194) (o := .cells #[.bool false,.int .u64 0,.int .u64 0,.int .i64 0] 30 (0,0)) Z544 hb) (jA (blk_below (g := gb200) (o := .cells #[.bool t195,.int .u64 t196,.int .u64 t197,.int .i64 t198] 30 (0,0)) Z566 hb) (jA (below_step Z421 hb) (jA (hbox) (jA ((Z90 : w.heap.size ≤ gb206)) (jA ((Z90 : w.heap.size ≤ gb206)) (jA ((Z179 : gb193 ≠ gb206)) (jA ((Z181 : gb206 ≠ gb193)) (jA ((Z319 : gb194 ≠ gb206)) (jA ((Z321 : gb206 ≠ gb194)) (jA ((Z306 : gb200 ≠ gb206)) (Aside0.mk ((Z308 : gb206 ≠ gb200))))))))))))));clear BK193 BK194 BK200 HB;obtain ⟨BK193,BK194,BK200,HB,BK206,GW206,GE206,NB193_206,NB206_193,NB194_206,NB206_194,NB200_206,NB206_200⟩ := n_;clear hb hbox hg;have hnb56 := NB206_193.out;have hnc56 := NB193_206.out;have hnb57 := NB206_194.out;have hnc57 := NB194_206.out;have hnb58 := NB206_200.out;have hnc58 := NB200_206.out;obtain ⟨hcz59_0,hcz59_1,hcz59_2,hcz59_3,hfz59_0,hfz59_1,hfz59_2,hfz59_3⟩ := spec_GainOf.cells4 BK206.out;obtain ⟨hcz60_0,hcz60_1,hcz60_2,hcz60_3,hfz60_0,hfz60_1,hfz60_2,hfz60_3⟩ := spec_GainOf.cells4 BK194.out))
    refine bodyPost_ret (results_ct rfl _ _ gb194 30 #[.bool false,.int .u64 0,.int .u64 0,.int .i64 0] (0,0) _ rfl Z4 Try.underlying30 rfl Z580) rfl ?_
    exact ⟨Z400,Z93⟩

/-! ### spec_CompareWide: function 53 -/
theorem spec_CompareWide.cells3 {w : World} {g : Nat} {t : TypeId} {a0 a1 a2 : Value} (h : w.heap[g]? = some (.cells #[a0,a1,a2] t (0,0))) : w.cell? ⟨g,0,none⟩ = some a0 ∧ w.cell? ⟨g,1,none⟩ = some a1 ∧ w.cell? ⟨g,2,none⟩ = some a2 ∧ w.frozen? ⟨g,0,none⟩ = false ∧ w.frozen? ⟨g,1,none⟩ = false ∧ w.frozen? ⟨g,2,none⟩ = false := ⟨(blk_cell h 0).trans rfl,(blk_cell h 1).trans rfl,(blk_cell h 2).trans rfl,blk_frozen h 0,blk_frozen h 1,blk_frozen h 2⟩
mutual
def spec_CompareWide.j0 : Nat → Bool → Bool → Int → Int → Bool → Int → Int → Option (Int)
  | 0,_,_,_,_,_,_,_ => none
  | k + 1,x5,x213000,x213001,x213002,x214000,x214001,x214002 => if x214000 = true then ((spec_l3Zero.f x214000 x214001 x214002).bind fun t215 => (spec_CompareWide.j1 k x5 (!t215) x213000 x213001 x213002 x214000 x214001 x214002)) else (spec_CompareWide.j1 k x5 false x213000 x213001 x213002 x214000 x214001 x214002)
def spec_CompareWide.j1 : Nat → Bool → Bool → Bool → Int → Int → Bool → Int → Int → Option (Int)
  | 0,_,_,_,_,_,_,_,_ => none
  | k + 1,x5,x6,x213000,x213001,x213002,x214000,x214001,x214002 => if x5 = true then (spec_CompareWide.j2 k x5 x6 (!x6) x213000 x213001 x213002 x214000 x214001 x214002) else (spec_CompareWide.j2 k x5 x6 false x213000 x213001 x213002 x214000 x214001 x214002)
def spec_CompareWide.j2 : Nat → Bool → Bool → Bool → Bool → Int → Int → Bool → Int → Int → Option (Int)
  | 0,_,_,_,_,_,_,_,_,_ => none
  | k + 1,x5,x6,x21,x213000,x213001,x213002,x214000,x214001,x214002 => if x21 = true then (some (-1)) else (if x6 = true then (spec_CompareWide.j3 k x5 (!x5) x213000 x213001 x213002 x214000 x214001 x214002) else (spec_CompareWide.j3 k x5 false x213000 x213001 x213002 x214000 x214001 x214002))
def spec_CompareWide.j3 : Nat → Bool → Bool → Bool → Int → Int → Bool → Int → Int → Option (Int)
  | 0,_,_,_,_,_,_,_,_ => none
  | k + 1,x5,x27,x213000,x213001,x213002,x214000,x214001,x214002 => if x27 = true then (some 1) else (if x5 = true then ((spec_l3Order.f k x214000 x214001 x214002 x213000 x213001 x213002).bind fun t216 => (some t216)) else ((spec_l3Order.f k x213000 x213001 x213002 x214000 x214001 x214002).bind fun t217 => (some t217)))
end
def spec_CompareWide.f (k : Nat) (a0_0 : Bool) (a0_1 : Int) (a0_2 : Int) (a1_0 : Bool) (a1_1 : Int) (a1_2 : Int) : Option (Int) := if a0_0 = true then ((spec_l3Zero.f a0_0 a0_1 a0_2).bind fun t214 => (spec_CompareWide.j0 k (!t214) a0_0 a0_1 a0_2 a1_0 a1_1 a1_2)) else (spec_CompareWide.j0 k false a0_0 a0_1 a0_2 a1_0 a1_1 a1_2)
theorem spec_CompareWide.mono_l : ∀ k,(∀ y0 y1 y2 y3 y4 y5 y6,LeO (spec_CompareWide.j0 k y0 y1 y2 y3 y4 y5 y6) (spec_CompareWide.j0 (k + 1) y0 y1 y2 y3 y4 y5 y6)) ∧ (∀ y0 y1 y2 y3 y4 y5 y6 y7,LeO (spec_CompareWide.j1 k y0 y1 y2 y3 y4 y5 y6 y7) (spec_CompareWide.j1 (k + 1) y0 y1 y2 y3 y4 y5 y6 y7)) ∧ (∀ y0 y1 y2 y3 y4 y5 y6 y7 y8,LeO (spec_CompareWide.j2 k y0 y1 y2 y3 y4 y5 y6 y7 y8) (spec_CompareWide.j2 (k + 1) y0 y1 y2 y3 y4 y5 y6 y7 y8)) ∧ (∀ y0 y1 y2 y3 y4 y5 y6 y7,LeO (spec_CompareWide.j3 k y0 y1 y2 y3 y4 y5 y6 y7) (spec_CompareWide.j3 (k + 1) y0 y1 y2 y3 y4 y5 y6 y7))
  | 0 => ⟨fun _ _ _ _ _ _ _ r h => by simp [spec_CompareWide.j0] at h,fun _ _ _ _ _ _ _ _ r h => by simp [spec_CompareWide.j1] at h,fun _ _ _ _ _ _ _ _ _ r h => by simp [spec_CompareWide.j2] at h,fun _ _ _ _ _ _ _ _ r h => by simp [spec_CompareWide.j3] at h⟩
  | k + 1 => by
    obtain ⟨ih0,ih1,ih2,ih3⟩ := spec_CompareWide.mono_l k
    refine ⟨?_,?_,?_,?_⟩
    · intro y0 y1 y2 y3 y4 y5 y6
      unfold spec_CompareWide.j0
      repeat' first
      | (with_reducible exact ih0 _ _ _ _ _ _ _)
      | (with_reducible exact ih1 _ _ _ _ _ _ _ _)
      | (with_reducible exact ih2 _ _ _ _ _ _ _ _ _)
      | (with_reducible exact ih3 _ _ _ _ _ _ _ _)
      | (with_reducible exact spec_l3Order.mono _ _ _ _ _ _ _)
      | (with_reducible exact LeO.refl _)
      | (with_reducible exact LeO.none _)
      | (with_reducible refine LeO.ite ?_ ?_)
      | (with_reducible refine LeO.bind ?_ (fun _ => ?_))
      | exact ih0 _ _ _ _ _ _ _
      | exact ih1 _ _ _ _ _ _ _ _
      | exact ih2 _ _ _ _ _ _ _ _ _
      | exact ih3 _ _ _ _ _ _ _ _
      | exact spec_l3Order.mono _ _ _ _ _ _ _
      | exact LeO.none _
      | refine LeO.ite ?_ ?_
      | refine LeO.bind ?_ (fun _ => ?_)
    · intro y0 y1 y2 y3 y4 y5 y6 y7
      unfold spec_CompareWide.j1
      repeat' first
      | (with_reducible exact ih0 _ _ _ _ _ _ _)
      | (with_reducible exact ih1 _ _ _ _ _ _ _ _)
      | (with_reducible exact ih2 _ _ _ _ _ _ _ _ _)
      | (with_reducible exact ih3 _ _ _ _ _ _ _ _)
      | (with_reducible exact spec_l3Order.mono _ _ _ _ _ _ _)
      | (with_reducible exact LeO.refl _)
      | (with_reducible exact LeO.none _)
      | (with_reducible refine LeO.ite ?_ ?_)
      | (with_reducible refine LeO.bind ?_ (fun _ => ?_))
      | exact ih0 _ _ _ _ _ _ _
      | exact ih1 _ _ _ _ _ _ _ _
      | exact ih2 _ _ _ _ _ _ _ _ _
      | exact ih3 _ _ _ _ _ _ _ _
      | exact spec_l3Order.mono _ _ _ _ _ _ _
      | exact LeO.none _
      | refine LeO.ite ?_ ?_
      | refine LeO.bind ?_ (fun _ => ?_)
    · intro y0 y1 y2 y3 y4 y5 y6 y7 y8
      unfold spec_CompareWide.j2
      repeat' first
      | (with_reducible exact ih0 _ _ _ _ _ _ _)
      | (with_reducible exact ih1 _ _ _ _ _ _ _ _)
      | (with_reducible exact ih2 _ _ _ _ _ _ _ _ _)
      | (with_reducible exact ih3 _ _ _ _ _ _ _ _)
      | (with_reducible exact spec_l3Order.mono _ _ _ _ _ _ _)
      | (with_reducible exact LeO.refl _)
      | (with_reducible exact LeO.none _)
      | (with_reducible refine LeO.ite ?_ ?_)
      | (with_reducible refine LeO.bind ?_ (fun _ => ?_))
      | exact ih0 _ _ _ _ _ _ _
      | exact ih1 _ _ _ _ _ _ _ _
      | exact ih2 _ _ _ _ _ _ _ _ _
      | exact ih3 _ _ _ _ _ _ _ _
      | exact spec_l3Order.mono _ _ _ _ _ _ _
      | exact LeO.none _
      | refine LeO.ite ?_ ?_
      | refine LeO.bind ?_ (fun _ => ?_)
    · intro y0 y1 y2 y3 y4 y5 y6 y7
      unfold spec_CompareWide.j3
      repeat' first
      | (with_reducible exact ih0 _ _ _ _ _ _ _)
      | (with_reducible exact ih1 _ _ _ _ _ _ _ _)
      | (with_reducible exact ih2 _ _ _ _ _ _ _ _ _)
      | (with_reducible exact ih3 _ _ _ _ _ _ _ _)
      | (with_reducible exact spec_l3Order.mono _ _ _ _ _ _ _)
      | (with_reducible exact LeO.refl _)
      | (with_reducible exact LeO.none _)
      | (with_reducible refine LeO.ite ?_ ?_)
      | (with_reducible refine LeO.bind ?_ (fun _ => ?_))
      | exact ih0 _ _ _ _ _ _ _
      | exact ih1 _ _ _ _ _ _ _ _
      | exact ih2 _ _ _ _ _ _ _ _ _
      | exact ih3 _ _ _ _ _ _ _ _
      | exact spec_l3Order.mono _ _ _ _ _ _ _
      | exact LeO.none _
      | refine LeO.ite ?_ ?_
      | refine LeO.bind ?_ (fun _ => ?_)
theorem spec_CompareWide.mono : ∀ a0 a1 a2 a3 a4 a5 k,LeO (spec_CompareWide.f k a0 a1 a2 a3 a4 a5) (spec_CompareWide.f (k + 1) a0 a1 a2 a3 a4 a5) := by
  intro a0 a1 a2 a3 a4 a5 k
  obtain ⟨ih0,ih1,ih2,ih3⟩ := spec_CompareWide.mono_l k
  unfold spec_CompareWide.f
  repeat' first
      | (with_reducible exact ih0 _ _ _ _ _ _ _)
      | (with_reducible exact ih1 _ _ _ _ _ _ _ _)
      | (with_reducible exact ih2 _ _ _ _ _ _ _ _ _)
      | (with_reducible exact ih3 _ _ _ _ _ _ _ _)
      | (with_reducible exact spec_l3Order.mono _ _ _ _ _ _ _)
      | (with_reducible exact LeO.refl _)
      | (with_reducible exact LeO.none _)
      | (with_reducible refine LeO.ite ?_ ?_)
      | (with_reducible refine LeO.bind ?_ (fun _ => ?_))
      | exact ih0 _ _ _ _ _ _ _
      | exact ih1 _ _ _ _ _ _ _ _
      | exact ih2 _ _ _ _ _ _ _ _ _
      | exact ih3 _ _ _ _ _ _ _ _
      | exact spec_l3Order.mono _ _ _ _ _ _ _
      | exact LeO.none _
      | refine LeO.ite ?_ ?_
      | refine LeO.bind ?_ (fun _ => ?_)
set_option maxHeartbeats 8000000 in
set_option maxRecDepth 100000 in
theorem spec_CompareWide.calls (k : Nat) (a0_0 : Bool) (a0_1 : Int) (a0_2 : Int) (a1_0 : Bool) (a1_1 : Int) (a1_2 : Int) (r : Int) (w : World) (h : spec_CompareWide.f k a0_0 a0_1 a0_2 a1_0 a1_1 a1_2 = some r) :
    Calls Try.prog 53 #[.agg #[.bool a0_0,.int .u64 a0_1,.int .u64 a0_2],.agg #[.bool a1_0,.int .u64 a1_1,.int .u64 a1_2]] w fun e w' => e = .returned (.int .i64 r) ∧ Below w.heap.size w w' := by
  have hu28 := Try.underlying28
  have HB := Aside0.mk (Below.refl w.heap.size w)
  have H : (if a0_0 = true then ((spec_l3Zero.f a0_0 a0_1 a0_2).bind fun t214 => (spec_CompareWide.j0 k (!t214) a0_0 a0_1 a0_2 a1_0 a1_1 a1_2)) else (spec_CompareWide.j0 k false a0_0 a0_1 a0_2 a1_0 a1_1 a1_2)) = some r := h
  clear h
  have HC3 := Aside0.mk H
  clear H
  go_enter Try.func53,Try.ntmps53
  go_upto_region 1 with (first | ((with_reducible refine gate_dst (N := 2) rfl ?_);refine box_event ?hg (N := 2) ?hd (cs := #[.bool a0_0,.int .u64 a0_1,.int .u64 a0_2]) (t := 28) ?hr ?_;(case hd => rfl);(case hg => rfl);(case hr => exact Z515);intro gb212 hg w4 hbox hb;have n_ := jA (below_step Z486 hb) (jA (hbox) (jA ((Z271 : w.heap.size ≤ gb212)) (Aside0.mk ((Z271 : w.heap.size ≤ gb212)))));clear HB;obtain ⟨HB,BK212,GW212,GE212⟩ := n_;clear hb hbox hg) | ((with_reducible refine gate_dst (N := 3) rfl ?_);refine box_event ?hg (N := 3) ?hd (cs := #[.bool a1_0,.int .u64 a1_1,.int .u64 a1_2]) (t := 28) ?hr ?_;(case hd => rfl);(case hg => rfl);(case hr => exact Z515);intro gb213 hg w5 hbox hb;have n_ := jA (blk_below (g := gb212) (o := .cells #[.bool a0_0,.int .u64 a0_1,.int .u64 a0_2] 28 (0,0)) Z532 hb) (jA (below_step Z480 hb) (jA (hbox) (jA ((Z214 : w.heap.size ≤ gb213)) (jA ((Z214 : w.heap.size ≤ gb213)) (jA ((by rw [hg];exact Nat.ne_of_lt (blk_lt (g := gb212) (o := .cells #[.bool a0_0,.int .u64 a0_1,.int .u64 a0_2] 28 (0,0)) Z532) : gb212 ≠ gb213)) (Aside0.mk ((by rw [hg];exact Nat.ne_of_gt (blk_lt (g := gb212) (o := .cells #[.bool a0_0,.int .u64 a0_1,.int .u64 a0_2] 28 (0,0)) Z532) : gb213 ≠ gb212))))))));clear BK212 HB;obtain ⟨BK212,HB,BK213,GW213,GE213,NB212_213,NB213_212⟩ := n_;clear hb hbox hg))
  (try simp only [Act.put,List.setIfInBounds_toArray,List.set_cons_zero,List.set_cons_succ])
  go_cut [5] (fun v5 wc => ∃ (kq : Nat) (x5_2 : Bool),v5 = .bool x5_2 ∧ Aside0 (spec_CompareWide.j0 kq x5_2 a0_0 a0_1 a0_2 a1_0 a1_1 a1_2 = some r) ∧ Aside0 (kq ≤ k) ∧ Aside0 (wc.heap[gb212]? = some (.cells #[.bool a0_0,.int .u64 a0_1,.int .u64 a0_2] 28 (0,0))) ∧ Aside0 (wc.heap[gb213]? = some (.cells #[.bool a1_0,.int .u64 a1_1,.int .u64 a1_2] 28 (0,0))) ∧ Aside0 (Below w.heap.size w wc))
  case first =>
    have H := HC3.out
    clear HC3
    by_cases c6 : a0_0 = true
    · subst c6
      have H1 : ((spec_l3Zero.f true a0_1 a0_2).bind fun t214 => (spec_CompareWide.j0 k (!t214) true a0_1 a0_2 a1_0 a1_1 a1_2)) = some r := by rw [if_pos rfl] at H;exact H
      clear H
      have H := H1
      clear H1
      obtain ⟨t214,A70,H⟩ := Option.bind_eq_some_iff.mp H
      have A7 := Aside0.mk A70
      clear A70
      have H' := Aside0.mk H
      clear H
      have hnb8 := NB212_213.out
      have hnc8 := NB213_212.out
      obtain ⟨hcz9_0,hcz9_1,hcz9_2,hfz9_0,hfz9_1,hfz9_2⟩ := spec_CompareWide.cells3 BK212.out
      go_wp2_with (first | (go_at_call 67;(with_reducible refine (spec_l3Zero.calls true a0_1 a0_2 t214 _ A7.out).mono ?_);rintro e w10 ⟨rfl,hb⟩;have n_ := jA (blk_below (g := gb212) (o := .cells #[.bool true,.int .u64 a0_1,.int .u64 a0_2] 28 (0,0)) Z532 hb) (jA (blk_below (g := gb213) (o := .cells #[.bool a1_0,.int .u64 a1_1,.int .u64 a1_2] 28 (0,0)) Z542 hb) (Aside0.mk (below_step Z185 hb)));clear BK212 BK213 HB;obtain ⟨BK212,BK213,HB⟩ := n_;(try clear hb);(try clear hb2);(try clear hk);(try clear hi)))
      go_meet
      case rel => exact ⟨_,(!t214),Z514,H',⟨Z516⟩,⟨Z532⟩,⟨Z542⟩,⟨Z185⟩⟩
    · replace c6 := Bool.eq_false_iff.mpr c6
      subst c6
      have H1 : (spec_CompareWide.j0 k false false a0_1 a0_2 a1_0 a1_1 a1_2) = some r := by rw [if_neg (show ¬ (false = true) by decide)] at H;exact H
      clear H
      have H := H1
      clear H1
      have H' := Aside0.mk H
      clear H
      have hnb11 := NB212_213.out
      have hnc11 := NB213_212.out
      obtain ⟨hcz12_0,hcz12_1,hcz12_2,hfz12_0,hfz12_1,hfz12_2⟩ := spec_CompareWide.cells3 BK212.out
      go_wp2
      go_meet
      case rel => exact ⟨_,(false),Z514,H',⟨Z516⟩,⟨Z532⟩,⟨Z542⟩,⟨Z185⟩⟩
  case rest =>
    clear HC3
    try clear c1
    try clear p2
    try clear c5
    try clear c6
    try clear c8
    try clear c11
    try clear hcz12_0
    try clear hcz12_1
    try clear hcz12_2
    try clear hcz9_0
    try clear hcz9_1
    try clear hcz9_2
    try clear hfz12_0
    try clear hfz12_1
    try clear hfz12_2
    try clear hfz9_0
    try clear hfz9_1
    try clear hfz9_2
    obtain ⟨kq,x5_2,rfl,HA,HJ2,BK212,BK213,HB⟩ := hcut
    cases kq with
    | zero => exact absurd HA.out (by simp [spec_CompareWide.j0])
    | succ kj2 =>
      have H := HA.out
      clear HA
      simp only [spec_CompareWide.j0] at H
      have HC13 := Aside0.mk H
      clear H
      go_upto_region 2 with (fail)
      go_cut [6] (fun v6 wc => ∃ (kq : Nat) (x6_12 : Bool),v6 = .bool x6_12 ∧ Aside0 (spec_CompareWide.j1 kq x5_2 x6_12 a0_0 a0_1 a0_2 a1_0 a1_1 a1_2 = some r) ∧ Aside0 (kq ≤ kj2) ∧ Aside0 (wc.heap[gb212]? = some (.cells #[.bool a0_0,.int .u64 a0_1,.int .u64 a0_2] 28 (0,0))) ∧ Aside0 (wc.heap[gb213]? = some (.cells #[.bool a1_0,.int .u64 a1_1,.int .u64 a1_2] 28 (0,0))) ∧ Aside0 (Below w.heap.size w wc))
      case first =>
        have H := HC13.out
        clear HC13
        by_cases c14 : a1_0 = true
        · subst c14
          have H1 : ((spec_l3Zero.f true a1_1 a1_2).bind fun t215 => (spec_CompareWide.j1 kj2 x5_2 (!t215) a0_0 a0_1 a0_2 true a1_1 a1_2)) = some r := by rw [if_pos rfl] at H;exact H
          clear H
          have H := H1
          clear H1
          obtain ⟨t215,A150,H⟩ := Option.bind_eq_some_iff.mp H
          have A15 := Aside0.mk A150
          clear A150
          have H' := Aside0.mk H
          clear H
          have hnb16 := NB213_212.out
          have hnc16 := NB212_213.out
          obtain ⟨hcz17_0,hcz17_1,hcz17_2,hfz17_0,hfz17_1,hfz17_2⟩ := spec_CompareWide.cells3 BK213.out
          go_wp2_with (first | (go_at_call 67;(with_reducible refine (spec_l3Zero.calls true a1_1 a1_2 t215 _ A15.out).mono ?_);rintro e w18 ⟨rfl,hb⟩;have n_ := jA (blk_below (g := gb212) (o := .cells #[.bool a0_0,.int .u64 a0_1,.int .u64 a0_2] 28 (0,0)) Z532 hb) (jA (blk_below (g := gb213) (o := .cells #[.bool true,.int .u64 a1_1,.int .u64 a1_2] 28 (0,0)) Z542 hb) (Aside0.mk (below_step Z185 hb)));clear BK212 BK213 HB;obtain ⟨BK212,BK213,HB⟩ := n_;(try clear hb);(try clear hb2);(try clear hk);(try clear hi)))
          go_meet
          case rel => exact ⟨_,(!t215),Z514,H',⟨Z511⟩,⟨Z532⟩,⟨Z542⟩,⟨Z185⟩⟩
        · replace c14 := Bool.eq_false_iff.mpr c14
          subst c14
          have H1 : (spec_CompareWide.j1 kj2 x5_2 false a0_0 a0_1 a0_2 false a1_1 a1_2) = some r := by rw [if_neg (show ¬ (false = true) by decide)] at H;exact H
          clear H
          have H := H1
          clear H1
          have H' := Aside0.mk H
          clear H
          have hnb19 := NB213_212.out
          have hnc19 := NB212_213.out
          obtain ⟨hcz20_0,hcz20_1,hcz20_2,hfz20_0,hfz20_1,hfz20_2⟩ := spec_CompareWide.cells3 BK213.out
          go_wp2
          go_meet
          case rel => exact ⟨_,(false),Z514,H',⟨Z511⟩,⟨Z532⟩,⟨Z542⟩,⟨Z185⟩⟩
      case rest =>
        clear HC13
        try clear c1
        try clear p2
        try clear c5
        try clear c6
        try clear c8
        try clear c11
        try clear c14
        try clear c16
        try clear c19
        try clear hcz12_0
        try clear hcz12_1
        try clear hcz12_2
        try clear hcz17_0
        try clear hcz17_1
        try clear hcz17_2
        try clear hcz20_0
        try clear hcz20_1
        try clear hcz20_2
        try clear hcz9_0
        try clear hcz9_1
        try clear hcz9_2
        try clear hfz12_0
        try clear hfz12_1
        try clear hfz12_2
        try clear hfz17_0
        try clear hfz17_1
        try clear hfz17_2
        try clear hfz20_0
        try clear hfz20_1
        try clear hfz20_2
        try clear hfz9_0
        try clear hfz9_1
        try clear hfz9_2
        try clear p2
        obtain ⟨kq,x6_12,rfl,HA,HJ12,BK212,BK213,HB⟩ := hcut
        cases kq with
        | zero => exact absurd HA.out (by simp [spec_CompareWide.j1])
        | succ kj12 =>
          have H := HA.out
          clear HA
          simp only [spec_CompareWide.j1] at H
          have HC21 := Aside0.mk H
          clear H
          go_upto_region 3 with (fail)
          go_cut [21] (fun v21 wc => ∃ (kq : Nat) (x21_20 : Bool),v21 = .bool x21_20 ∧ Aside0 (spec_CompareWide.j2 kq x5_2 x6_12 x21_20 a0_0 a0_1 a0_2 a1_0 a1_1 a1_2 = some r) ∧ Aside0 (kq ≤ kj12) ∧ Aside0 (wc.heap[gb212]? = some (.cells #[.bool a0_0,.int .u64 a0_1,.int .u64 a0_2] 28 (0,0))) ∧ Aside0 (wc.heap[gb213]? = some (.cells #[.bool a1_0,.int .u64 a1_1,.int .u64 a1_2] 28 (0,0))) ∧ Aside0 (Below w.heap.size w wc))
          case first =>
            have H := HC21.out
            clear HC21
            by_cases c22 : x5_2 = true
            · subst c22
              have H1 : (spec_CompareWide.j2 kj12 true x6_12 (!x6_12) a0_0 a0_1 a0_2 a1_0 a1_1 a1_2) = some r := by rw [if_pos rfl] at H;exact H
              clear H
              have H := H1
              clear H1
              have H' := Aside0.mk H
              clear H
              go_wp2
              go_meet
              case rel => exact ⟨_,(!x6_12),Z514,H',⟨Z490⟩,⟨Z532⟩,⟨Z542⟩,⟨Z185⟩⟩
            · replace c22 := Bool.eq_false_iff.mpr c22
              subst c22
              have H1 : (spec_CompareWide.j2 kj12 false x6_12 false a0_0 a0_1 a0_2 a1_0 a1_1 a1_2) = some r := by rw [if_neg (show ¬ (false = true) by decide)] at H;exact H
              clear H
              have H := H1
              clear H1
              have H' := Aside0.mk H
              clear H
              go_wp2
              go_meet
              case rel => exact ⟨_,(false),Z514,H',⟨Z490⟩,⟨Z532⟩,⟨Z542⟩,⟨Z185⟩⟩
          case rest =>
            clear HC21
            try clear c1
            try clear c2
            try clear p2
            try clear c5
            try clear c6
            try clear c8
            try clear c11
            try clear c14
            try clear c16
            try clear c19
            try clear c22
            try clear hcz12_0
            try clear hcz12_1
            try clear hcz12_2
            try clear hcz17_0
            try clear hcz17_1
            try clear hcz17_2
            try clear hcz20_0
            try clear hcz20_1
            try clear hcz20_2
            try clear hcz9_0
            try clear hcz9_1
            try clear hcz9_2
            try clear hfz12_0
            try clear hfz12_1
            try clear hfz12_2
            try clear hfz17_0
            try clear hfz17_1
            try clear hfz17_2
            try clear hfz20_0
            try clear hfz20_1
            try clear hfz20_2
            try clear hfz9_0
            try clear hfz9_1
            try clear hfz9_2
            try clear p2
            obtain ⟨kq,x21_20,rfl,HA,HJ20,BK212,BK213,HB⟩ := hcut
            cases kq with
            | zero => exact absurd HA.out (by simp [spec_CompareWide.j2])
            | succ kj20 =>
              have H := HA.out
              clear HA
              simp only [spec_CompareWide.j2] at H
              by_cases c23 : x21_20 = true
              · subst c23
                have H1 : (some (-1)) = some r := by rw [if_pos rfl] at H;exact H
                clear H
                have H := H1
                clear H1
                obtain rfl := Option.some.inj H
                go_wp2
                go_ret
                exact ⟨Z400,Z185⟩
              · replace c23 := Bool.eq_false_iff.mpr c23
                subst c23
                have H1 : (if x6_12 = true then (spec_CompareWide.j3 kj20 x5_2 (!x5_2) a0_0 a0_1 a0_2 a1_0 a1_1 a1_2) else (spec_CompareWide.j3 kj20 x5_2 false a0_0 a0_1 a0_2 a1_0 a1_1 a1_2)) = some r := by rw [if_neg (show ¬ (false = true) by decide)] at H;exact H
                clear H
                have H := H1
                clear H1
                have HC24 := Aside0.mk H
                clear H
                go_upto_region 5 with (fail)
                go_cut [27] (fun v27 wc => ∃ (kq : Nat) (x27_23 : Bool),v27 = .bool x27_23 ∧ Aside0 (spec_CompareWide.j3 kq x5_2 x27_23 a0_0 a0_1 a0_2 a1_0 a1_1 a1_2 = some r) ∧ Aside0 (kq ≤ kj20) ∧ Aside0 (wc.heap[gb212]? = some (.cells #[.bool a0_0,.int .u64 a0_1,.int .u64 a0_2] 28 (0,0))) ∧ Aside0 (wc.heap[gb213]? = some (.cells #[.bool a1_0,.int .u64 a1_1,.int .u64 a1_2] 28 (0,0))) ∧ Aside0 (Below w.heap.size w wc))
                case first =>
                  have H := HC24.out
                  clear HC24
                  by_cases c25 : x6_12 = true
                  · subst c25
                    have H1 : (spec_CompareWide.j3 kj20 x5_2 (!x5_2) a0_0 a0_1 a0_2 a1_0 a1_1 a1_2) = some r := by rw [if_pos rfl] at H;exact H
                    clear H
                    have H := H1
                    clear H1
                    have H' := Aside0.mk H
                    clear H
                    go_wp2
                    go_meet
                    case rel => exact ⟨_,(!x5_2),Z514,H',⟨Z487⟩,⟨Z532⟩,⟨Z542⟩,⟨Z185⟩⟩
                  · replace c25 := Bool.eq_false_iff.mpr c25
                    subst c25
                    have H1 : (spec_CompareWide.j3 kj20 x5_2 false a0_0 a0_1 a0_2 a1_0 a1_1 a1_2) = some r := by rw [if_neg (show ¬ (false = true) by decide)] at H;exact H
                    clear H
                    have H := H1
                    clear H1
                    have H' := Aside0.mk H
                    clear H
                    go_wp2
                    go_meet
                    case rel => exact ⟨_,(false),Z514,H',⟨Z487⟩,⟨Z532⟩,⟨Z542⟩,⟨Z185⟩⟩
                case rest =>
                  clear HC24
                  try clear c1
                  try clear c2
                  try clear p2
                  try clear c5
                  try clear c6
                  try clear c8
                  try clear c11
                  try clear c14
                  try clear c16
                  try clear c19
                  try clear c22
                  try clear c23
                  try clear c25
                  try clear hcz12_0
                  try clear hcz12_1
                  try clear hcz12_2
                  try clear hcz17_0
                  try clear hcz17_1
                  try clear hcz17_2
                  try clear hcz20_0
                  try clear hcz20_1
                  try clear hcz20_2
                  try clear hcz9_0
                  try clear hcz9_1
                  try clear hcz9_2
                  try clear hfz12_0
                  try clear hfz12_1
                  try clear hfz12_2
                  try clear hfz17_0
                  try clear hfz17_1
                  try clear hfz17_2
                  try clear hfz20_0
                  try clear hfz20_1
                  try clear hfz20_2
                  try clear hfz9_0
                  try clear hfz9_1
                  try clear hfz9_2
                  try clear p2
                  obtain ⟨kq,x27_23,rfl,HA,HJ23,BK212,BK213,HB⟩ := hcut
                  cases kq with
                  | zero => exact absurd HA.out (by simp [spec_CompareWide.j3])
                  | succ kj23 =>
                    have H := HA.out
                    clear HA
                    simp only [spec_CompareWide.j3] at H
                    by_cases c26 : x27_23 = true
                    · subst c26
                      have H1 : (some 1) = some r := by rw [if_pos rfl] at H;exact H
                      clear H
                      have H := H1
                      clear H1
                      obtain rfl := Option.some.inj H
                      go_wp2
                      go_ret
                      exact ⟨Z400,Z185⟩
                    · replace c26 := Bool.eq_false_iff.mpr c26
                      subst c26
                      have H1 : (if x5_2 = true then ((spec_l3Order.f kj23 a1_0 a1_1 a1_2 a0_0 a0_1 a0_2).bind fun t216 => (some t216)) else ((spec_l3Order.f kj23 a0_0 a0_1 a0_2 a1_0 a1_1 a1_2).bind fun t217 => (some t217))) = some r := by rw [if_neg (show ¬ (false = true) by decide)] at H;exact H
                      clear H
                      have H := H1
                      clear H1
                      by_cases c27 : x5_2 = true
                      · subst c27
                        have H1 : ((spec_l3Order.f kj23 a1_0 a1_1 a1_2 a0_0 a0_1 a0_2).bind fun t216 => (some t216)) = some r := by rw [if_pos rfl] at H;exact H
                        clear H
                        have H := H1
                        clear H1
                        obtain ⟨t216,A280,H⟩ := Option.bind_eq_some_iff.mp H
                        have A28 := Aside0.mk A280
                        clear A280
                        obtain rfl := Option.some.inj H
                        have hnb29 := NB213_212.out
                        have hnc29 := NB212_213.out
                        obtain ⟨hcz30_0,hcz30_1,hcz30_2,hfz30_0,hfz30_1,hfz30_2⟩ := spec_CompareWide.cells3 BK213.out
                        obtain ⟨hcz31_0,hcz31_1,hcz31_2,hfz31_0,hfz31_1,hfz31_2⟩ := spec_CompareWide.cells3 BK212.out
                        go_wp2_with (first | ((with_reducible refine gate_callee (f := 66) rfl ?_);refine goesL_ (some 37) rfl rfl Try.func66 Z580 rfl #[.agg #[.bool a1_0,.int .u64 a1_1,.int .u64 a1_2],.agg #[.bool a0_0,.int .u64 a0_1,.int .u64 a0_2]] rfl Z395 ?_;(with_reducible refine (spec_l3Order.calls kj23 a1_0 a1_1 a1_2 a0_0 a0_1 a0_2 t216 _ A28.out).mono ?_);rintro e w32 ⟨rfl,hb⟩;refine ⟨_,rfl,?_⟩;have n_ := jA (blk_below (g := gb212) (o := .cells #[.bool a0_0,.int .u64 a0_1,.int .u64 a0_2] 28 (0,0)) Z532 hb) (jA (blk_below (g := gb213) (o := .cells #[.bool a1_0,.int .u64 a1_1,.int .u64 a1_2] 28 (0,0)) Z542 hb) (Aside0.mk (below_step Z185 hb)));clear BK212 BK213 HB;obtain ⟨BK212,BK213,HB⟩ := n_;(try clear hb);(try clear hb2);(try clear hk);(try clear hi)))
                        go_ret
                        exact ⟨Z400,Z185⟩
                      · replace c27 := Bool.eq_false_iff.mpr c27
                        subst c27
                        have H1 : ((spec_l3Order.f kj23 a0_0 a0_1 a0_2 a1_0 a1_1 a1_2).bind fun t217 => (some t217)) = some r := by rw [if_neg (show ¬ (false = true) by decide)] at H;exact H
                        clear H
                        have H := H1
                        clear H1
                        obtain ⟨t217,A330,H⟩ := Option.bind_eq_some_iff.mp H
                        have A33 := Aside0.mk A330
                        clear A330
                        obtain rfl := Option.some.inj H
                        have hnb34 := NB212_213.out
                        have hnc34 := NB213_212.out
                        obtain ⟨hcz35_0,hcz35_1,hcz35_2,hfz35_0,hfz35_1,hfz35_2⟩ := spec_CompareWide.cells3 BK212.out
                        obtain ⟨hcz36_0,hcz36_1,hcz36_2,hfz36_0,hfz36_1,hfz36_2⟩ := spec_CompareWide.cells3 BK213.out
                        go_wp2_with (first | ((with_reducible refine gate_callee (f := 66) rfl ?_);refine goesL_ (some 40) rfl rfl Try.func66 Z580 rfl #[.agg #[.bool a0_0,.int .u64 a0_1,.int .u64 a0_2],.agg #[.bool a1_0,.int .u64 a1_1,.int .u64 a1_2]] rfl Z395 ?_;(with_reducible refine (spec_l3Order.calls kj23 a0_0 a0_1 a0_2 a1_0 a1_1 a1_2 t217 _ A33.out).mono ?_);rintro e w37 ⟨rfl,hb⟩;refine ⟨_,rfl,?_⟩;have n_ := jA (blk_below (g := gb212) (o := .cells #[.bool a0_0,.int .u64 a0_1,.int .u64 a0_2] 28 (0,0)) Z532 hb) (jA (blk_below (g := gb213) (o := .cells #[.bool a1_0,.int .u64 a1_1,.int .u64 a1_2] 28 (0,0)) Z542 hb) (Aside0.mk (below_step Z185 hb)));clear BK212 BK213 HB;obtain ⟨BK212,BK213,HB⟩ := n_;(try clear hb);(try clear hb2);(try clear hk);(try clear hi)))
                        go_ret
                        exact ⟨Z400,Z185⟩

/-! ### spec_CompareFrac: function 33 -/
theorem spec_CompareFrac.cells3 {w : World} {g : Nat} {t : TypeId} {a0 a1 a2 : Value} (h : w.heap[g]? = some (.cells #[a0,a1,a2] t (0,0))) : w.cell? ⟨g,0,none⟩ = some a0 ∧ w.cell? ⟨g,1,none⟩ = some a1 ∧ w.cell? ⟨g,2,none⟩ = some a2 ∧ w.frozen? ⟨g,0,none⟩ = false ∧ w.frozen? ⟨g,1,none⟩ = false ∧ w.frozen? ⟨g,2,none⟩ = false := ⟨(blk_cell h 0).trans rfl,(blk_cell h 1).trans rfl,(blk_cell h 2).trans rfl,blk_frozen h 0,blk_frozen h 1,blk_frozen h 2⟩
theorem spec_CompareFrac.cells4 {w : World} {g : Nat} {t : TypeId} {a0 a1 a2 a3 : Value} (h : w.heap[g]? = some (.cells #[a0,a1,a2,a3] t (0,0))) : w.cell? ⟨g,0,none⟩ = some a0 ∧ w.cell? ⟨g,1,none⟩ = some a1 ∧ w.cell? ⟨g,2,none⟩ = some a2 ∧ w.cell? ⟨g,3,none⟩ = some a3 ∧ w.frozen? ⟨g,0,none⟩ = false ∧ w.frozen? ⟨g,1,none⟩ = false ∧ w.frozen? ⟨g,2,none⟩ = false ∧ w.frozen? ⟨g,3,none⟩ = false := ⟨(blk_cell h 0).trans rfl,(blk_cell h 1).trans rfl,(blk_cell h 2).trans rfl,(blk_cell h 3).trans rfl,blk_frozen h 0,blk_frozen h 1,blk_frozen h 2,blk_frozen h 3⟩
def spec_CompareFrac.f (k : Nat) (a0_0 : Bool) (a0_1 : Int) (a0_2 : Int) (a0_3 : Int) (a1_0 : Bool) (a1_1 : Int) (a1_2 : Int) (a1_3 : Int) : Option (Int × Bool) := (spec_l5Cross.f k a0_0 a0_1 a0_2 a0_3 a1_0 a1_1 a1_2 a1_3).bind fun bt220 => (if bt220.2.2.2.2.2.2 = true then ((spec_CompareWide.f k bt220.1 bt220.2.1 bt220.2.2.1 bt220.2.2.2.1 bt220.2.2.2.2.1 bt220.2.2.2.2.2.1).bind fun t229 => (some (t229,true))) else (some (0,false)))
theorem spec_CompareFrac.mono : ∀ a0 a1 a2 a3 a4 a5 a6 a7 k,LeO (spec_CompareFrac.f k a0 a1 a2 a3 a4 a5 a6 a7) (spec_CompareFrac.f (k + 1) a0 a1 a2 a3 a4 a5 a6 a7) := by
  intro a0 a1 a2 a3 a4 a5 a6 a7 k
  unfold spec_CompareFrac.f
  repeat' first
      | (with_reducible exact spec_CompareWide.mono _ _ _ _ _ _ _)
      | (with_reducible exact spec_l5Cross.mono _ _ _ _ _ _ _ _ _)
      | (with_reducible exact LeO.refl _)
      | (with_reducible exact LeO.none _)
      | (with_reducible refine LeO.ite ?_ ?_)
      | (with_reducible refine LeO.bind ?_ (fun _ => ?_))
      | exact spec_CompareWide.mono _ _ _ _ _ _ _
      | exact spec_l5Cross.mono _ _ _ _ _ _ _ _ _
      | exact LeO.none _
      | refine LeO.ite ?_ ?_
      | refine LeO.bind ?_ (fun _ => ?_)
set_option maxHeartbeats 8000000 in
set_option maxRecDepth 100000 in
theorem spec_CompareFrac.calls (k : Nat) (a0_0 : Bool) (a0_1 : Int) (a0_2 : Int) (a0_3 : Int) (a1_0 : Bool) (a1_1 : Int) (a1_2 : Int) (a1_3 : Int) (r1 : Int) (r2 : Bool) (w : World) (h : spec_CompareFrac.f k a0_0 a0_1 a0_2 a0_3 a1_0 a1_1 a1_2 a1_3 = some (r1,r2)) :
    Calls Try.prog 33 #[.agg #[.bool a0_0,.int .u64 a0_1,.int .u64 a0_2,.int .i64 a0_3],.agg #[.bool a1_0,.int .u64 a1_1,.int .u64 a1_2,.int .i64 a1_3]] w fun e w' => e = .returned (.tuple #[.int .i64 r1,.bool r2]) ∧ Below w.heap.size w w' := by
  have hu30 := Try.underlying30
  have hu28 := Try.underlying28
  have HB := Aside0.mk (Below.refl w.heap.size w)
  have H : ((spec_l5Cross.f k a0_0 a0_1 a0_2 a0_3 a1_0 a1_1 a1_2 a1_3).bind fun bt220 => (if bt220.2.2.2.2.2.2 = true then ((spec_CompareWide.f k bt220.1 bt220.2.1 bt220.2.2.1 bt220.2.2.2.1 bt220.2.2.2.2.1 bt220.2.2.2.2.2.1).bind fun t229 => (some (t229,true))) else (some (0,false)))) = some (r1,r2) := h
  clear h
  obtain ⟨⟨t220,t221,t222,t223,t224,t225,t226⟩,A30,H⟩ := Option.bind_eq_some_iff.mp H
  try dsimp only at H
  have A3 := Aside0.mk A30
  clear A30
  by_cases c4 : t226 = true
  · subst c4
    have H1 : ((spec_CompareWide.f k t220 t221 t222 t223 t224 t225).bind fun t229 => (some (t229,true))) = some (r1,r2) := by rw [if_pos rfl] at H;exact H
    clear H
    have H := H1
    clear H1
    obtain ⟨t229,A50,H⟩ := Option.bind_eq_some_iff.mp H
    have A5 := Aside0.mk A50
    clear A50
    simp only [Option.some.injEq,Prod.mk.injEq] at H
    obtain ⟨rfl,rfl⟩ := H
    go_enter Try.func33,Try.ntmps33
    go_wp2_with (first | ((with_reducible refine gate_dst (N := 2) rfl ?_);refine box_event ?hg (N := 2) ?hd (cs := #[.bool a0_0,.int .u64 a0_1,.int .u64 a0_2,.int .i64 a0_3]) (t := 30) ?hr ?_;(case hd => rfl);(case hg => rfl);(case hr => exact Z515);intro gb218 hg w6 hbox hb;have n_ := jA (below_step Z486 hb) (jA (hbox) (jA ((Z271 : w.heap.size ≤ gb218)) (Aside0.mk ((Z271 : w.heap.size ≤ gb218)))));clear HB;obtain ⟨HB,BK218,GW218,GE218⟩ := n_;clear hb hbox hg) | ((with_reducible refine gate_dst (N := 3) rfl ?_);refine box_event ?hg (N := 3) ?hd (cs := #[.bool a1_0,.int .u64 a1_1,.int .u64 a1_2,.int .i64 a1_3]) (t := 30) ?hr ?_;(case hd => rfl);(case hg => rfl);(case hr => exact Z515);intro gb219 hg w7 hbox hb;have n_ := jA (blk_below (g := gb218) (o := .cells #[.bool a0_0,.int .u64 a0_1,.int .u64 a0_2,.int .i64 a0_3] 30 (0,0)) Z547 hb) (jA (below_step Z472 hb) (jA (hbox) (jA ((Z202 : w.heap.size ≤ gb219)) (jA ((Z202 : w.heap.size ≤ gb219)) (jA ((Z288 : gb218 ≠ gb219)) (Aside0.mk ((Z292 : gb219 ≠ gb218))))))));clear BK218 HB;obtain ⟨BK218,HB,BK219,GW219,GE219,NB218_219,NB219_218⟩ := n_;clear hb hbox hg;have hnb8 := NB218_219.out;have hnc8 := NB219_218.out;obtain ⟨hcz9_0,hcz9_1,hcz9_2,hcz9_3,hfz9_0,hfz9_1,hfz9_2,hfz9_3⟩ := spec_CompareFrac.cells4 BK218.out;obtain ⟨hcz10_0,hcz10_1,hcz10_2,hcz10_3,hfz10_0,hfz10_1,hfz10_2,hfz10_3⟩ := spec_CompareFrac.cells4 BK219.out) | ((with_reducible refine gate_callee (f := 45) rfl ?_);refine goesL_ (some 12) rfl rfl Try.func45 Z580 rfl #[.agg #[.bool a0_0,.int .u64 a0_1,.int .u64 a0_2,.int .i64 a0_3],.agg #[.bool a1_0,.int .u64 a1_1,.int .u64 a1_2,.int .i64 a1_3]] rfl Z395 ?_;(with_reducible refine (spec_l5Cross.calls k a0_0 a0_1 a0_2 a0_3 a1_0 a1_1 a1_2 a1_3 t220 t221 t222 t223 t224 t225 true _ A3.out).mono ?_);rintro e w11 ⟨rfl,hb⟩;refine ⟨_,rfl,?_⟩;have n_ := jA (blk_below (g := gb218) (o := .cells #[.bool a0_0,.int .u64 a0_1,.int .u64 a0_2,.int .i64 a0_3] 30 (0,0)) Z547 hb) (jA (blk_below (g := gb219) (o := .cells #[.bool a1_0,.int .u64 a1_1,.int .u64 a1_2,.int .i64 a1_3] 30 (0,0)) Z552 hb) (Aside0.mk (below_step Z436 hb)));clear BK218 BK219 HB;obtain ⟨BK218,BK219,HB⟩ := n_;(try clear hb);(try clear hb2);(try clear hk);(try clear hi)) | ((with_reducible refine gate_dst (N := 6) rfl ?_);refine box_event ?hg (N := 6) ?hd (cs := #[.bool false,.int .u64 0,.int .u64 0]) (t := 28) ?hr ?_;(case hd => rfl);(case hg => rfl);(case hr => exact Z515);intro gb227 hg w12 hbox hb;have n_ := jA (blk_below (g := gb218) (o := .cells #[.bool a0_0,.int .u64 a0_1,.int .u64 a0_2,.int .i64 a0_3] 30 (0,0)) Z547 hb) (jA (blk_below (g := gb219) (o := .cells #[.bool a1_0,.int .u64 a1_1,.int .u64 a1_2,.int .i64 a1_3] 30 (0,0)) Z552 hb) (jA (below_step Z436 hb) (jA (hbox) (jA ((Z123 : w.heap.size ≤ gb227)) (jA ((Z123 : w.heap.size ≤ gb227)) (jA ((Z288 : gb218 ≠ gb227)) (jA ((Z292 : gb227 ≠ gb218)) (jA ((Z299 : gb219 ≠ gb227)) (Aside0.mk ((Z301 : gb227 ≠ gb219)))))))))));clear BK218 BK219 HB;obtain ⟨BK218,BK219,HB,BK227,GW227,GE227,NB218_227,NB227_218,NB219_227,NB227_219⟩ := n_;clear hb hbox hg) | ((with_reducible refine gate_dst (N := 7) rfl ?_);refine box_event ?hg (N := 7) ?hd (cs := #[.bool false,.int .u64 0,.int .u64 0]) (t := 28) ?hr ?_;(case hd => rfl);(case hg => rfl);(case hr => exact Z515);intro gb228 hg w13 hbox hb;have n_ := jA (blk_below (g := gb218) (o := .cells #[.bool a0_0,.int .u64 a0_1,.int .u64 a0_2,.int .i64 a0_3] 30 (0,0)) Z547 hb) (jA (blk_below (g := gb219) (o := .cells #[.bool a1_0,.int .u64 a1_1,.int .u64 a1_2,.int .i64 a1_3] 30 (0,0)) Z552 hb) (jA (blk_below (g := gb227) (o := .cells #[.bool false,.int .u64 0,.int .u64 0] 28 (0,0)) Z576 hb) (jA (below_step Z426 hb) (jA (hbox) (jA ((Z96 : w.heap.size ≤ gb228)) (jA ((Z96 : w.heap.size ≤ gb228)) (jA ((Z288 : gb218 ≠ gb228)) (jA ((Z292 : gb228 ≠ gb218)) (jA ((Z299 : gb219 ≠ gb228)) (jA ((Z301 : gb228 ≠ gb219)) (jA ((Z373 : gb227 ≠ gb228)) (Aside0.mk ((Z376 : gb228 ≠ gb227))))))))))))));clear BK218 BK219 BK227 HB;obtain ⟨BK218,BK219,BK227,HB,BK228,GW228,GE228,NB218_228,NB228_218,NB219_228,NB228_219,NB227_228,NB228_227⟩ := n_;clear hb hbox hg;have hnb14 := NB227_218.out;have hnc14 := NB218_227.out;have hnb15 := NB227_219.out;have hnc15 := NB219_227.out;have hnb16 := NB227_228.out;have hnc16 := NB228_227.out;obtain ⟨hcz17_0,hcz17_1,hcz17_2,hfz17_0,hfz17_1,hfz17_2⟩ := spec_CompareFrac.cells3 BK227.out;have hnb18 := NB228_218.out;have hnc18 := NB218_228.out;have hnb19 := NB228_219.out;have hnc19 := NB219_228.out;obtain ⟨hcz20_0,hcz20_1,hcz20_2,hfz20_0,hfz20_1,hfz20_2⟩ := spec_CompareFrac.cells3 BK228.out) | ((with_reducible refine gate_callee (f := 53) rfl ?_);refine goesL_ (some 20) rfl rfl Try.func53 Z580 rfl #[.agg #[.bool t220,.int .u64 t221,.int .u64 t222],.agg #[.bool t223,.int .u64 t224,.int .u64 t225]] rfl Z395 ?_;(with_reducible refine (spec_CompareWide.calls k t220 t221 t222 t223 t224 t225 t229 _ A5.out).mono ?_);rintro e w21 ⟨rfl,hb⟩;refine ⟨_,rfl,?_⟩;have n_ := jA (blk_below (g := gb218) (o := .cells #[.bool a0_0,.int .u64 a0_1,.int .u64 a0_2,.int .i64 a0_3] 30 (0,0)) (by refine bP ?_;refine blk_far ?_ NB218_228.out _;refine bP ?_;refine blk_far ?_ NB218_228.out _;refine bP ?_;refine blk_far ?_ NB218_228.out _;refine bP ?_;refine blk_far ?_ NB218_227.out _;refine bP ?_;refine blk_far ?_ NB218_227.out _;refine bP ?_;refine blk_far ?_ NB218_227.out _;refine bP ?_;exact BK218.out) hb) (jA (blk_below (g := gb219) (o := .cells #[.bool a1_0,.int .u64 a1_1,.int .u64 a1_2,.int .i64 a1_3] 30 (0,0)) (by refine bP ?_;refine blk_far ?_ NB219_228.out _;refine bP ?_;refine blk_far ?_ NB219_228.out _;refine bP ?_;refine blk_far ?_ NB219_228.out _;refine bP ?_;refine blk_far ?_ NB219_227.out _;refine bP ?_;refine blk_far ?_ NB219_227.out _;refine bP ?_;refine blk_far ?_ NB219_227.out _;refine bP ?_;exact BK219.out) hb) (jA (blk_below (g := gb227) (o := .cells #[.bool t220,.int .u64 t221,.int .u64 t222] 28 (0,0)) (by refine bP ?_;refine blk_far ?_ NB227_228.out _;refine bP ?_;refine blk_far ?_ NB227_228.out _;refine bP ?_;refine blk_far ?_ NB227_228.out _;refine bP ?_;refine blk_put (cs := #[.bool t220,.int .u64 t221,.int .u64 0]) ?_ 2 _ rfl;refine bP ?_;refine blk_put (cs := #[.bool t220,.int .u64 0,.int .u64 0]) ?_ 1 _ rfl;refine bP ?_;refine blk_put (cs := #[.bool false,.int .u64 0,.int .u64 0]) ?_ 0 _ rfl;refine bP ?_;exact BK227.out) hb) (jA (blk_below (g := gb228) (o := .cells #[.bool t223,.int .u64 t224,.int .u64 t225] 28 (0,0)) (by refine bP ?_;refine blk_put (cs := #[.bool t223,.int .u64 t224,.int .u64 0]) ?_ 2 _ rfl;refine bP ?_;refine blk_put (cs := #[.bool t223,.int .u64 0,.int .u64 0]) ?_ 1 _ rfl;refine bP ?_;refine blk_put (cs := #[.bool false,.int .u64 0,.int .u64 0]) ?_ 0 _ rfl;refine bP ?_;refine blk_far ?_ NB228_227.out _;refine bP ?_;refine blk_far ?_ NB228_227.out _;refine bP ?_;refine blk_far ?_ NB228_227.out _;refine bP ?_;exact BK228.out) hb) (Aside0.mk (below_step Z98 hb)))));clear BK218 BK219 BK227 BK228 HB;obtain ⟨BK218,BK219,BK227,BK228,HB⟩ := n_;(try clear hb);(try clear hb2);(try clear hk);(try clear hi)))
    go_ret2
    exact ⟨Z400,Z98⟩
  · replace c4 := Bool.eq_false_iff.mpr c4
    subst c4
    have H1 : (some (0,false)) = some (r1,r2) := by rw [if_neg (show ¬ (false = true) by decide)] at H;exact H
    clear H
    have H := H1
    clear H1
    simp only [Option.some.injEq,Prod.mk.injEq] at H
    obtain ⟨rfl,rfl⟩ := H
    go_enter Try.func33,Try.ntmps33
    go_wp2_with (first | ((with_reducible refine gate_dst (N := 2) rfl ?_);refine box_event ?hg (N := 2) ?hd (cs := #[.bool a0_0,.int .u64 a0_1,.int .u64 a0_2,.int .i64 a0_3]) (t := 30) ?hr ?_;(case hd => rfl);(case hg => rfl);(case hr => exact Z515);intro gb218 hg w22 hbox hb;have n_ := jA (below_step Z486 hb) (jA (hbox) (jA ((Z271 : w.heap.size ≤ gb218)) (Aside0.mk ((Z271 : w.heap.size ≤ gb218)))));clear HB;obtain ⟨HB,BK218,GW218,GE218⟩ := n_;clear hb hbox hg) | ((with_reducible refine gate_dst (N := 3) rfl ?_);refine box_event ?hg (N := 3) ?hd (cs := #[.bool a1_0,.int .u64 a1_1,.int .u64 a1_2,.int .i64 a1_3]) (t := 30) ?hr ?_;(case hd => rfl);(case hg => rfl);(case hr => exact Z515);intro gb219 hg w23 hbox hb;have n_ := jA (blk_below (g := gb218) (o := .cells #[.bool a0_0,.int .u64 a0_1,.int .u64 a0_2,.int .i64 a0_3] 30 (0,0)) Z547 hb) (jA (below_step Z472 hb) (jA (hbox) (jA ((Z202 : w.heap.size ≤ gb219)) (jA ((Z202 : w.heap.size ≤ gb219)) (jA ((Z288 : gb218 ≠ gb219)) (Aside0.mk ((Z292 : gb219 ≠ gb218))))))));clear BK218 HB;obtain ⟨BK218,HB,BK219,GW219,GE219,NB218_219,NB219_218⟩ := n_;clear hb hbox hg;have hnb24 := NB218_219.out;have hnc24 := NB219_218.out;obtain ⟨hcz25_0,hcz25_1,hcz25_2,hcz25_3,hfz25_0,hfz25_1,hfz25_2,hfz25_3⟩ := spec_CompareFrac.cells4 BK218.out;obtain ⟨hcz26_0,hcz26_1,hcz26_2,hcz26_3,hfz26_0,hfz26_1,hfz26_2,hfz26_3⟩ := spec_CompareFrac.cells4 BK219.out) | ((with_reducible refine gate_callee (f := 45) rfl ?_);refine goesL_ (some 12) rfl rfl Try.func45 Z580 rfl #[.agg #[.bool a0_0,.int .u64 a0_1,.int .u64 a0_2,.int .i64 a0_3],.agg #[.bool a1_0,.int .u64 a1_1,.int .u64 a1_2,.int .i64 a1_3]] rfl Z395 ?_;(with_reducible refine (spec_l5Cross.calls k a0_0 a0_1 a0_2 a0_3 a1_0 a1_1 a1_2 a1_3 t220 t221 t222 t223 t224 t225 false _ A3.out).mono ?_);rintro e w27 ⟨rfl,hb⟩;refine ⟨_,rfl,?_⟩;have n_ := jA (blk_below (g := gb218) (o := .cells #[.bool a0_0,.int .u64 a0_1,.int .u64 a0_2,.int .i64 a0_3] 30 (0,0)) Z547 hb) (jA (blk_below (g := gb219) (o := .cells #[.bool a1_0,.int .u64 a1_1,.int .u64 a1_2,.int .i64 a1_3] 30 (0,0)) Z552 hb) (Aside0.mk (below_step Z436 hb)));clear BK218 BK219 HB;obtain ⟨BK218,BK219,HB⟩ := n_;(try clear hb);(try clear hb2);(try clear hk);(try clear hi)) | ((with_reducible refine gate_dst (N := 6) rfl ?_);refine box_event ?hg (N := 6) ?hd (cs := #[.bool false,.int .u64 0,.int .u64 0]) (t := 28) ?hr ?_;(case hd => rfl);(case hg => rfl);(case hr => exact Z515);intro gb227 hg w28 hbox hb;have n_ := jA (blk_below (g := gb218) (o := .cells #[.bool a0_0,.int .u64 a0_1,.int .u64 a0_2,.int .i64 a0_3] 30 (0,0)) Z547 hb) (jA (blk_below (g := gb219) (o := .cells #[.bool a1_0,.int .u64 a1_1,.int .u64 a1_2,.int .i64 a1_3] 30 (0,0)) Z552 hb) (jA (below_step Z436 hb) (jA (hbox) (jA ((Z123 : w.heap.size ≤ gb227)) (jA ((Z123 : w.heap.size ≤ gb227)) (jA ((Z288 : gb218 ≠ gb227)) (jA ((Z292 : gb227 ≠ gb218)) (jA ((Z299 : gb219 ≠ gb227)) (Aside0.mk ((Z301 : gb227 ≠ gb219)))))))))));clear BK218 BK219 HB;obtain ⟨BK218,BK219,HB,BK227,GW227,GE227,NB218_227,NB227_218,NB219_227,NB227_219⟩ := n_;clear hb hbox hg) | ((with_reducible refine gate_dst (N := 7) rfl ?_);refine box_event ?hg (N := 7) ?hd (cs := #[.bool false,.int .u64 0,.int .u64 0]) (t := 28) ?hr ?_;(case hd => rfl);(case hg => rfl);(case hr => exact Z515);intro gb228 hg w29 hbox hb;have n_ := jA (blk_below (g := gb218) (o := .cells #[.bool a0_0,.int .u64 a0_1,.int .u64 a0_2,.int .i64 a0_3] 30 (0,0)) Z547 hb) (jA (blk_below (g := gb219) (o := .cells #[.bool a1_0,.int .u64 a1_1,.int .u64 a1_2,.int .i64 a1_3] 30 (0,0)) Z552 hb) (jA (blk_below (g := gb227) (o := .cells #[.bool false,.int .u64 0,.int .u64 0] 28 (0,0)) Z576 hb) (jA (below_step Z426 hb) (jA (hbox) (jA ((Z96 : w.heap.size ≤ gb228)) (jA ((Z96 : w.heap.size ≤ gb228)) (jA ((Z288 : gb218 ≠ gb228)) (jA ((Z292 : gb228 ≠ gb218)) (jA ((Z299 : gb219 ≠ gb228)) (jA ((Z301 : gb228 ≠ gb219)) (jA ((Z373 : gb227 ≠ gb228)) (Aside0.mk ((Z376 : gb228 ≠ gb227))))))))))))));clear BK218 BK219 BK227 HB;obtain ⟨BK218,BK219,BK227,HB,BK228,GW228,GE228,NB218_228,NB228_218,NB219_228,NB228_219,NB227_228,NB228_227⟩ := n_;clear hb hbox hg;have hnb30 := NB227_218.out;have hnc30 := NB218_227.out;have hnb31 := NB227_219.out;have hnc31 := NB219_227.out;have hnb32 := NB227_228.out;have hnc32 := NB228_227.out;obtain ⟨hcz33_0,hcz33_1,hcz33_2,hfz33_0,hfz33_1,hfz33_2⟩ := spec_CompareFrac.cells3 BK227.out;have hnb34 := NB228_218.out;have hnc34 := NB218_228.out;have hnb35 := NB228_219.out;have hnc35 := NB219_228.out;obtain ⟨hcz36_0,hcz36_1,hcz36_2,hfz36_0,hfz36_1,hfz36_2⟩ := spec_CompareFrac.cells3 BK228.out))
    go_ret2
    exact ⟨Z400,Z98⟩

/-! ### spec_AddInt: function 75 -/
def spec_AddInt.f (a0 : Int) (a1 : Int) : Option (Int × Bool) := if a1 > 0 then (if a0 > (wrap64 (9223372036854775807 - a1)) then (some (0,false)) else (if a1 < 0 then (if a0 < (wrap64 ((-9223372036854775808) - a1)) then (some (0,false)) else (some (wrap64 (a0 + a1),true))) else (some (wrap64 (a0 + a1),true)))) else (if a1 < 0 then (if a0 < (wrap64 ((-9223372036854775808) - a1)) then (some (0,false)) else (some (wrap64 (a0 + a1),true))) else (some (wrap64 (a0 + a1),true)))
set_option maxHeartbeats 8000000 in
set_option maxRecDepth 100000 in
theorem spec_AddInt.calls (a0 : Int) (a1 : Int) (r1 : Int) (r2 : Bool) (w : World) (h : spec_AddInt.f a0 a1 = some (r1,r2)) :
    Calls Try.prog 75 #[.int .i64 a0,.int .i64 a1] w fun e w' => e = .returned (.tuple #[.int .i64 r1,.bool r2]) ∧ Drawn0 w w' := by
  have H : (if a1 > 0 then (if a0 > (wrap64 (9223372036854775807 - a1)) then (some (0,false)) else (if a1 < 0 then (if a0 < (wrap64 ((-9223372036854775808) - a1)) then (some (0,false)) else (some (wrap64 (a0 + a1),true))) else (some (wrap64 (a0 + a1),true)))) else (if a1 < 0 then (if a0 < (wrap64 ((-9223372036854775808) - a1)) then (some (0,false)) else (some (wrap64 (a0 + a1),true))) else (some (wrap64 (a0 + a1),true)))) = some (r1,r2) := h
  clear h
  by_cases c3 : a1 > 0
  · rw [if_pos c3] at H
    have c3b0 : decide (0 < a1) = true := decide_eq_true c3
    clear c3
    by_cases c4 : a0 > (wrap64 (9223372036854775807 - a1))
    · rw [if_pos c4] at H
      have c4b0 : decide ((wrap64 (9223372036854775807 - a1)) < a0) = true := decide_eq_true c4
      clear c4
      simp only [Option.some.injEq,Prod.mk.injEq] at H
      obtain ⟨rfl,rfl⟩ := H
      go_enter Try.func75,Try.ntmps75
      go_wp2
      go_ret2
      exact ⟨Z514,Z491⟩
    · rw [if_neg c4] at H
      have c4b0 : decide ((wrap64 (9223372036854775807 - a1)) < a0) = false := decide_eq_false c4
      clear c4
      by_cases c5 : a1 < 0
      · rw [if_pos c5] at H
        have c5b0 : decide (a1 < 0) = true := decide_eq_true c5
        clear c5
        by_cases c6 : a0 < (wrap64 ((-9223372036854775808) - a1))
        · rw [if_pos c6] at H
          have c6b0 : decide (a0 < (wrap64 ((-9223372036854775808) - a1))) = true := decide_eq_true c6
          clear c6
          simp only [Option.some.injEq,Prod.mk.injEq] at H
          obtain ⟨rfl,rfl⟩ := H
          go_enter Try.func75,Try.ntmps75
          go_wp2
          go_ret2
          exact ⟨Z514,Z491⟩
        · rw [if_neg c6] at H
          have c6b0 : decide (a0 < (wrap64 ((-9223372036854775808) - a1))) = false := decide_eq_false c6
          clear c6
          simp only [Option.some.injEq,Prod.mk.injEq] at H
          obtain ⟨rfl,rfl⟩ := H
          go_enter Try.func75,Try.ntmps75
          go_wp2
          go_ret2
          exact ⟨Z514,Z491⟩
      · rw [if_neg c5] at H
        have c5b0 : decide (a1 < 0) = false := decide_eq_false c5
        clear c5
        simp only [Option.some.injEq,Prod.mk.injEq] at H
        obtain ⟨rfl,rfl⟩ := H
        go_enter Try.func75,Try.ntmps75
        go_wp2
        go_ret2
        exact ⟨Z514,Z491⟩
  · rw [if_neg c3] at H
    have c3b0 : decide (0 < a1) = false := decide_eq_false c3
    clear c3
    by_cases c7 : a1 < 0
    · rw [if_pos c7] at H
      have c7b0 : decide (a1 < 0) = true := decide_eq_true c7
      clear c7
      by_cases c8 : a0 < (wrap64 ((-9223372036854775808) - a1))
      · rw [if_pos c8] at H
        have c8b0 : decide (a0 < (wrap64 ((-9223372036854775808) - a1))) = true := decide_eq_true c8
        clear c8
        simp only [Option.some.injEq,Prod.mk.injEq] at H
        obtain ⟨rfl,rfl⟩ := H
        go_enter Try.func75,Try.ntmps75
        go_wp2
        go_ret2
        exact ⟨Z514,Z491⟩
      · rw [if_neg c8] at H
        have c8b0 : decide (a0 < (wrap64 ((-9223372036854775808) - a1))) = false := decide_eq_false c8
        clear c8
        simp only [Option.some.injEq,Prod.mk.injEq] at H
        obtain ⟨rfl,rfl⟩ := H
        go_enter Try.func75,Try.ntmps75
        go_wp2
        go_ret2
        exact ⟨Z514,Z491⟩
    · rw [if_neg c7] at H
      have c7b0 : decide (a1 < 0) = false := decide_eq_false c7
      clear c7
      simp only [Option.some.injEq,Prod.mk.injEq] at H
      obtain ⟨rfl,rfl⟩ := H
      go_enter Try.func75,Try.ntmps75
      go_wp2
      go_ret2
      exact ⟨Z514,Z491⟩

end Go.Proofs.Ytjcjehnjbgklbaa.QFnImproves
