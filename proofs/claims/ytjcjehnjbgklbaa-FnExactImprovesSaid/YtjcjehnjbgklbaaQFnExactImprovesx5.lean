/- The machine side of FnExactImproves: what each Go function that it reaches comes to. Conditions: none. -/
import Derived.Test.YtjcjehnjbgklbaaQFnExactImprovesx0
import Derived.Test.YtjcjehnjbgklbaaQFnExactImprovesx1
import Derived.Test.YtjcjehnjbgklbaaQFnExactImprovesx2
import Derived.Test.YtjcjehnjbgklbaaQFnExactImprovesx3
import Derived.Test.YtjcjehnjbgklbaaQFnExactImprovesx4
namespace Go.Proofs.Ytjcjehnjbgklbaa.QFnExactImproves
open Go.RowKit Go.Proofs.YtjcjehnjbgklbaaW.PrintWords Go.Proofs.YtjcjehnjbgklbaaW.PrintLast Go.Proofs.YtjcjehnjbgklbaaW.PrintMore
attribute [local go_sem] max2_int min2_int max_two min_two max_three min_three max_four min_four   -- for this text's walks alone
set_option linter.unusedVariables false
set_option linter.unusedSimpArgs false

/-! ### spec_AddFrac: function 24 -/
theorem spec_AddFrac.cells3 {w : World} {g : Nat} {t : TypeId} {a0 a1 a2 : Value} (h : w.heap[g]? = some (.cells #[a0,a1,a2] t (0,0))) : w.cell? ⟨g,0,none⟩ = some a0 ∧ w.cell? ⟨g,1,none⟩ = some a1 ∧ w.cell? ⟨g,2,none⟩ = some a2 ∧ w.frozen? ⟨g,0,none⟩ = false ∧ w.frozen? ⟨g,1,none⟩ = false ∧ w.frozen? ⟨g,2,none⟩ = false := ⟨(blk_cell h 0).trans rfl,(blk_cell h 1).trans rfl,(blk_cell h 2).trans rfl,blk_frozen h 0,blk_frozen h 1,blk_frozen h 2⟩
theorem spec_AddFrac.cells4 {w : World} {g : Nat} {t : TypeId} {a0 a1 a2 a3 : Value} (h : w.heap[g]? = some (.cells #[a0,a1,a2,a3] t (0,0))) : w.cell? ⟨g,0,none⟩ = some a0 ∧ w.cell? ⟨g,1,none⟩ = some a1 ∧ w.cell? ⟨g,2,none⟩ = some a2 ∧ w.cell? ⟨g,3,none⟩ = some a3 ∧ w.frozen? ⟨g,0,none⟩ = false ∧ w.frozen? ⟨g,1,none⟩ = false ∧ w.frozen? ⟨g,2,none⟩ = false ∧ w.frozen? ⟨g,3,none⟩ = false := ⟨(blk_cell h 0).trans rfl,(blk_cell h 1).trans rfl,(blk_cell h 2).trans rfl,(blk_cell h 3).trans rfl,blk_frozen h 0,blk_frozen h 1,blk_frozen h 2,blk_frozen h 3⟩
def spec_AddFrac.f (k : Nat) (a0_0 : Bool) (a0_1 : Int) (a0_2 : Int) (a0_3 : Int) (a1_0 : Bool) (a1_1 : Int) (a1_2 : Int) (a1_3 : Int) : Option (Bool × Int × Int × Int × Bool) := (spec_l5Cross.f k a0_0 a0_1 a0_2 a0_3 a1_0 a1_1 a1_2 a1_3).bind fun bt183 => (if bt183.2.2.2.2.2.2 = true then ((spec_AddWide.f k bt183.1 bt183.2.1 bt183.2.2.1 bt183.2.2.2.1 bt183.2.2.2.2.1 bt183.2.2.2.2.2.1).bind fun bt192 => (if bt192.2.2.2 = true then ((spec_FracOk.f bt192.1 bt192.2.1 bt192.2.2.1 (wrap64 (a0_3 * a1_3))).bind fun t198 => (if t198 = true then (some (bt192.1,bt192.2.1,bt192.2.2.1,wrap64 (a0_3 * a1_3),true)) else (some (false,0,0,0,false)))) else (some (false,0,0,0,false)))) else (some (false,0,0,0,false)))
theorem spec_AddFrac.mono : ∀ a0 a1 a2 a3 a4 a5 a6 a7 k,LeO (spec_AddFrac.f k a0 a1 a2 a3 a4 a5 a6 a7) (spec_AddFrac.f (k + 1) a0 a1 a2 a3 a4 a5 a6 a7) := by
  intro a0 a1 a2 a3 a4 a5 a6 a7 k
  unfold spec_AddFrac.f
  repeat' first
      | (with_reducible exact spec_AddWide.mono _ _ _ _ _ _ _)
      | (with_reducible exact spec_l5Cross.mono _ _ _ _ _ _ _ _ _)
      | (with_reducible exact LeO.refl _)
      | (with_reducible exact LeO.none _)
      | (with_reducible refine LeO.ite ?_ ?_)
      | (with_reducible refine LeO.bind ?_ (fun _ => ?_))
      | exact spec_AddWide.mono _ _ _ _ _ _ _
      | exact spec_l5Cross.mono _ _ _ _ _ _ _ _ _
      | exact LeO.none _
      | refine LeO.ite ?_ ?_
      | refine LeO.bind ?_ (fun _ => ?_)
set_option maxHeartbeats 8000000 in
set_option maxRecDepth 100000 in
theorem spec_AddFrac.calls (k : Nat) (a0_0 : Bool) (a0_1 : Int) (a0_2 : Int) (a0_3 : Int) (a1_0 : Bool) (a1_1 : Int) (a1_2 : Int) (a1_3 : Int) (r1 : Bool) (r2 : Int) (r3 : Int) (r4 : Int) (r5 : Bool) (w : World) (h : spec_AddFrac.f k a0_0 a0_1 a0_2 a0_3 a1_0 a1_1 a1_2 a1_3 = some (r1,r2,r3,r4,r5)) :
    Calls Try.prog 24 #[.agg #[.bool a0_0,.int .u64 a0_1,.int .u64 a0_2,.int .i64 a0_3],.agg #[.bool a1_0,.int .u64 a1_1,.int .u64 a1_2,.int .i64 a1_3]] w fun e w' => e = .returned (.tuple #[.agg #[.bool r1,.int .u64 r2,.int .u64 r3,.int .i64 r4],.bool r5]) ∧ Below w.heap.size w w' := by
  have hu30 := Try.underlying30
  have hu28 := Try.underlying28
  have HB := Aside0.mk (Below.refl w.heap.size w)
  have H : ((spec_l5Cross.f k a0_0 a0_1 a0_2 a0_3 a1_0 a1_1 a1_2 a1_3).bind fun bt183 => (if bt183.2.2.2.2.2.2 = true then ((spec_AddWide.f k bt183.1 bt183.2.1 bt183.2.2.1 bt183.2.2.2.1 bt183.2.2.2.2.1 bt183.2.2.2.2.2.1).bind fun bt192 => (if bt192.2.2.2 = true then ((spec_FracOk.f bt192.1 bt192.2.1 bt192.2.2.1 (wrap64 (a0_3 * a1_3))).bind fun t198 => (if t198 = true then (some (bt192.1,bt192.2.1,bt192.2.2.1,wrap64 (a0_3 * a1_3),true)) else (some (false,0,0,0,false)))) else (some (false,0,0,0,false)))) else (some (false,0,0,0,false)))) = some (r1,r2,r3,r4,r5) := h
  clear h
  obtain ⟨⟨t183,t184,t185,t186,t187,t188,t189⟩,A30,H⟩ := Option.bind_eq_some_iff.mp H
  try dsimp only at H
  have A3 := Aside0.mk A30
  clear A30
  by_cases c4 : t189 = true
  · subst c4
    have H1 : ((spec_AddWide.f k t183 t184 t185 t186 t187 t188).bind fun bt192 => (if bt192.2.2.2 = true then ((spec_FracOk.f bt192.1 bt192.2.1 bt192.2.2.1 (wrap64 (a0_3 * a1_3))).bind fun t198 => (if t198 = true then (some (bt192.1,bt192.2.1,bt192.2.2.1,wrap64 (a0_3 * a1_3),true)) else (some (false,0,0,0,false)))) else (some (false,0,0,0,false)))) = some (r1,r2,r3,r4,r5) := by rw [if_pos rfl] at H;exact H
    clear H
    have H := H1
    clear H1
    obtain ⟨⟨t192,t193,t194,t195⟩,A50,H⟩ := Option.bind_eq_some_iff.mp H
    try dsimp only at H
    have A5 := Aside0.mk A50
    clear A50
    by_cases c6 : t195 = true
    · subst c6
      have H1 : ((spec_FracOk.f t192 t193 t194 (wrap64 (a0_3 * a1_3))).bind fun t198 => (if t198 = true then (some (t192,t193,t194,wrap64 (a0_3 * a1_3),true)) else (some (false,0,0,0,false)))) = some (r1,r2,r3,r4,r5) := by rw [if_pos rfl] at H;exact H
      clear H
      have H := H1
      clear H1
      obtain ⟨t198,A70,H⟩ := Option.bind_eq_some_iff.mp H
      have A7 := Aside0.mk A70
      clear A70
      by_cases c8 : t198 = true
      · subst c8
        have H1 : (some (t192,t193,t194,wrap64 (a0_3 * a1_3),true)) = some (r1,r2,r3,r4,r5) := by rw [if_pos rfl] at H;exact H
        clear H
        have H := H1
        clear H1
        simp only [Option.some.injEq,Prod.mk.injEq] at H
        obtain ⟨rfl,rfl,rfl,rfl,rfl⟩ := H
        go_enter Try.func24,Try.ntmps24
        go_wp2_with (first | ((with_reducible refine gate_dst (N := 2) rfl ?_);refine box_event ?hg (N := 2) ?hd (cs := #[.bool a0_0,.int .u64 a0_1,.int .u64 a0_2,.int .i64 a0_3]) (t := 30) ?hr ?_;(case hd => rfl);(case hg => rfl);(case hr => exact Z566);intro gb180 hg w9 hbox hb;have n_ := jA (below_step Z483 hb) (jA (hbox) (jA ((Z366 : w.heap.size ≤ gb180)) (Aside0.mk ((Z366 : w.heap.size ≤ gb180)))));clear HB;obtain ⟨HB,BK180,GW180,GE180⟩ := n_;clear hb hbox hg) | ((with_reducible refine gate_dst (N := 3) rfl ?_);refine box_event ?hg (N := 3) ?hd (cs := #[.bool a1_0,.int .u64 a1_1,.int .u64 a1_2,.int .i64 a1_3]) (t := 30) ?hr ?_;(case hd => rfl);(case hg => rfl);(case hr => exact Z566);intro gb181 hg w10 hbox hb;have n_ := jA (blk_below (g := gb180) (o := .cells #[.bool a0_0,.int .u64 a0_1,.int .u64 a0_2,.int .i64 a0_3] 30 (0,0)) Z485 hb) (jA (below_step Z457 hb) (jA (hbox) (jA ((Z335 : w.heap.size ≤ gb181)) (jA ((Z335 : w.heap.size ≤ gb181)) (jA ((Z188 : gb180 ≠ gb181)) (Aside0.mk ((Z189 : gb181 ≠ gb180))))))));clear BK180 HB;obtain ⟨BK180,HB,BK181,GW181,GE181,NB180_181,NB181_180⟩ := n_;clear hb hbox hg) | ((with_reducible refine gate_dst (N := 4) rfl ?_);refine box_event ?hg (N := 4) ?hd (cs := #[.bool false,.int .u64 0,.int .u64 0,.int .i64 0]) (t := 30) ?hr ?_;(case hd => rfl);(case hg => rfl);(case hr => exact Z566);intro gb182 hg w11 hbox hb;have n_ := jA (blk_below (g := gb180) (o := .cells #[.bool a0_0,.int .u64 a0_1,.int .u64 a0_2,.int .i64 a0_3] 30 (0,0)) Z485 hb) (jA (blk_below (g := gb181) (o := .cells #[.bool a1_0,.int .u64 a1_1,.int .u64 a1_2,.int .i64 a1_3] 30 (0,0)) Z490 hb) (jA (below_step Z440 hb) (jA (hbox) (jA ((Z225 : w.heap.size ≤ gb182)) (jA ((Z225 : w.heap.size ≤ gb182)) (jA ((Z188 : gb180 ≠ gb182)) (jA ((Z189 : gb182 ≠ gb180)) (jA ((Z190 : gb181 ≠ gb182)) (Aside0.mk ((Z191 : gb182 ≠ gb181)))))))))));clear BK180 BK181 HB;obtain ⟨BK180,BK181,HB,BK182,GW182,GE182,NB180_182,NB182_180,NB181_182,NB182_181⟩ := n_;clear hb hbox hg;have hnb12 := NB180_181.out;have hnc12 := NB181_180.out;have hnb13 := NB180_182.out;have hnc13 := NB182_180.out;obtain ⟨hcz14_0,hcz14_1,hcz14_2,hcz14_3,hfz14_0,hfz14_1,hfz14_2,hfz14_3⟩ := spec_AddFrac.cells4 BK180.out;have hnb15 := NB181_182.out;have hnc15 := NB182_181.out;obtain ⟨hcz16_0,hcz16_1,hcz16_2,hcz16_3,hfz16_0,hfz16_1,hfz16_2,hfz16_3⟩ := spec_AddFrac.cells4 BK181.out) | ((with_reducible refine gate_callee (f := 45) rfl ?_);refine goesL_ (some 15) rfl rfl Try.func45 Z569 rfl #[.agg #[.bool a0_0,.int .u64 a0_1,.int .u64 a0_2,.int .i64 a0_3],.agg #[.bool a1_0,.int .u64 a1_1,.int .u64 a1_2,.int .i64 a1_3]] rfl Z375 ?_;(with_reducible refine (spec_l5Cross.calls k a0_0 a0_1 a0_2 a0_3 a1_0 a1_1 a1_2 a1_3 t183 t184 t185 t186 t187 t188 true _ A3.out).mono ?_);rintro e w17 ⟨rfl,hb⟩;refine ⟨_,rfl,?_⟩;have n_ := jA (blk_below (g := gb180) (o := .cells #[.bool a0_0,.int .u64 a0_1,.int .u64 a0_2,.int .i64 a0_3] 30 (0,0)) Z485 hb) (jA (blk_below (g := gb181) (o := .cells #[.bool a1_0,.int .u64 a1_1,.int .u64 a1_2,.int .i64 a1_3] 30 (0,0)) Z490 hb) (jA (blk_below (g := gb182) (o := .cells #[.bool false,.int .u64 0,.int .u64 0,.int .i64 0] 30 (0,0)) Z494 hb) (Aside0.mk (below_step Z422 hb))));clear BK180 BK181 BK182 HB;obtain ⟨BK180,BK181,BK182,HB⟩ := n_;(try clear hb);(try clear hb2);(try clear hk);(try clear hi)) | ((with_reducible refine gate_dst (N := 6) rfl ?_);refine box_event ?hg (N := 6) ?hd (cs := #[.bool false,.int .u64 0,.int .u64 0]) (t := 28) ?hr ?_;(case hd => rfl);(case hg => rfl);(case hr => exact Z566);intro gb190 hg w18 hbox hb;have n_ := jA (blk_below (g := gb180) (o := .cells #[.bool a0_0,.int .u64 a0_1,.int .u64 a0_2,.int .i64 a0_3] 30 (0,0)) Z485 hb) (jA (blk_below (g := gb181) (o := .cells #[.bool a1_0,.int .u64 a1_1,.int .u64 a1_2,.int .i64 a1_3] 30 (0,0)) Z490 hb) (jA (blk_below (g := gb182) (o := .cells #[.bool false,.int .u64 0,.int .u64 0,.int .i64 0] 30 (0,0)) Z494 hb) (jA (below_step Z422 hb) (jA (hbox) (jA ((Z166 : w.heap.size ≤ gb190)) (jA ((Z166 : w.heap.size ≤ gb190)) (jA ((Z188 : gb180 ≠ gb190)) (jA ((Z189 : gb190 ≠ gb180)) (jA ((Z190 : gb181 ≠ gb190)) (jA ((Z191 : gb190 ≠ gb181)) (jA ((Z243 : gb182 ≠ gb190)) (Aside0.mk ((Z244 : gb190 ≠ gb182))))))))))))));clear BK180 BK181 BK182 HB;obtain ⟨BK180,BK181,BK182,HB,BK190,GW190,GE190,NB180_190,NB190_180,NB181_190,NB190_181,NB182_190,NB190_182⟩ := n_;clear hb hbox hg) | ((with_reducible refine gate_dst (N := 7) rfl ?_);refine box_event ?hg (N := 7) ?hd (cs := #[.bool false,.int .u64 0,.int .u64 0]) (t := 28) ?hr ?_;(case hd => rfl);(case hg => rfl);(case hr => exact Z566);intro gb191 hg w19 hbox hb;have n_ := jA (blk_below (g := gb180) (o := .cells #[.bool a0_0,.int .u64 a0_1,.int .u64 a0_2,.int .i64 a0_3] 30 (0,0)) Z485 hb) (jA (blk_below (g := gb181) (o := .cells #[.bool a1_0,.int .u64 a1_1,.int .u64 a1_2,.int .i64 a1_3] 30 (0,0)) Z490 hb) (jA (blk_below (g := gb182) (o := .cells #[.bool false,.int .u64 0,.int .u64 0,.int .i64 0] 30 (0,0)) Z494 hb) (jA (blk_below (g := gb190) (o := .cells #[.bool false,.int .u64 0,.int .u64 0] 28 (0,0)) Z516 hb) (jA (below_step Z415 hb) (jA (hbox) (jA ((Z146 : w.heap.size ≤ gb191)) (jA ((Z146 : w.heap.size ≤ gb191)) (jA ((Z188 : gb180 ≠ gb191)) (jA ((Z189 : gb191 ≠ gb180)) (jA ((Z190 : gb181 ≠ gb191)) (jA ((Z191 : gb191 ≠ gb181)) (jA ((Z243 : gb182 ≠ gb191)) (jA ((Z244 : gb191 ≠ gb182)) (jA ((Z295 : gb190 ≠ gb191)) (Aside0.mk ((Z299 : gb191 ≠ gb190)))))))))))))))));clear BK180 BK181 BK182 BK190 HB;obtain ⟨BK180,BK181,BK182,BK190,HB,BK191,GW191,GE191,NB180_191,NB191_180,NB181_191,NB191_181,NB182_191,NB191_182,NB190_191,NB191_190⟩ := n_;clear hb hbox hg;have hnb20 := NB190_180.out;have hnc20 := NB180_190.out;have hnb21 := NB190_181.out;have hnc21 := NB181_190.out;have hnb22 := NB190_182.out;have hnc22 := NB182_190.out;have hnb23 := NB190_191.out;have hnc23 := NB191_190.out;obtain ⟨hcz24_0,hcz24_1,hcz24_2,hfz24_0,hfz24_1,hfz24_2⟩ := spec_AddFrac.cells3 BK190.out;have hnb25 := NB191_180.out;have hnc25 := NB180_191.out;have hnb26 := NB191_181.out;have hnc26 := NB181_191.out;have hnb27 := NB191_182.out;have hnc27 := NB182_191.out;obtain ⟨hcz28_0,hcz28_1,hcz28_2,hfz28_0,hfz28_1,hfz28_2⟩ := spec_AddFrac.cells3 BK191.out) | ((with_reducible refine gate_callee (f := 46) rfl ?_);refine goesL_ (some 25) rfl rfl Try.func46 Z569 rfl #[.agg #[.bool t183,.int .u64 t184,.int .u64 t185],.agg #[.bool t186,.int .u64 t187,.int .u64 t188]] rfl Z375 ?_;(with_reducible refine (spec_AddWide.calls k t183 t184 t185 t186 t187 t188 t192 t193 t194 true _ A5.out).mono ?_);rintro e w29 ⟨rfl,hb⟩;refine ⟨_,rfl,?_⟩;have n_ := jA (blk_below (g := gb180) (o := .cells #[.bool a0_0,.int .u64 a0_1,.int .u64 a0_2,.int .i64 a0_3] 30 (0,0)) Z17 hb) (jA (blk_below (g := gb181) (o := .cells #[.bool a1_0,.int .u64 a1_1,.int .u64 a1_2,.int .i64 a1_3] 30 (0,0)) Z16 hb) (jA (blk_below (g := gb182) (o := .cells #[.bool false,.int .u64 0,.int .u64 0,.int .i64 0] 30 (0,0)) Z15 hb) (jA (blk_below (g := gb190) (o := .cells #[.bool t183,.int .u64 t184,.int .u64 t185] 28 (0,0)) Z5 hb) (jA (blk_below (g := gb191) (o := .cells #[.bool t186,.int .u64 t187,.int .u64 t188] 28 (0,0)) Z4 hb) (Aside0.mk (below_step Z408 hb))))));clear BK180 BK181 BK182 BK190 BK191 HB;obtain ⟨BK180,BK181,BK182,BK190,BK191,HB⟩ := n_;(try clear hb);(try clear hb2);(try clear hk);(try clear hi)) | ((with_reducible refine gate_dst (N := 9) rfl ?_);refine box_event ?hg (N := 9) ?hd (cs := #[.bool false,.int .u64 0,.int .u64 0]) (t := 28) ?hr ?_;(case hd => rfl);(case hg => rfl);(case hr => exact Z566);intro gb196 hg w30 hbox hb;have n_ := jA (blk_below (g := gb180) (o := .cells #[.bool a0_0,.int .u64 a0_1,.int .u64 a0_2,.int .i64 a0_3] 30 (0,0)) Z485 hb) (jA (blk_below (g := gb181) (o := .cells #[.bool a1_0,.int .u64 a1_1,.int .u64 a1_2,.int .i64 a1_3] 30 (0,0)) Z490 hb) (jA (blk_below (g := gb182) (o := .cells #[.bool false,.int .u64 0,.int .u64 0,.int .i64 0] 30 (0,0)) Z494 hb) (jA (blk_below (g := gb190) (o := .cells #[.bool t183,.int .u64 t184,.int .u64 t185] 28 (0,0)) Z516 hb) (jA (blk_below (g := gb191) (o := .cells #[.bool t186,.int .u64 t187,.int .u64 t188] 28 (0,0)) Z536 hb) (jA (below_step Z408 hb) (jA (hbox) (jA ((Z138 : w.heap.size ≤ gb196)) (jA ((Z138 : w.heap.size ≤ gb196)) (jA ((Z188 : gb180 ≠ gb196)) (jA ((Z189 : gb196 ≠ gb180)) (jA ((Z190 : gb181 ≠ gb196)) (jA ((Z191 : gb196 ≠ gb181)) (jA ((Z243 : gb182 ≠ gb196)) (jA ((Z244 : gb196 ≠ gb182)) (jA ((Z273 : gb190 ≠ gb196)) (jA ((Z276 : gb196 ≠ gb190)) (jA ((Z272 : gb191 ≠ gb196)) (Aside0.mk ((Z275 : gb196 ≠ gb191))))))))))))))))))));clear BK180 BK181 BK182 BK190 BK191 HB;obtain ⟨BK180,BK181,BK182,BK190,BK191,HB,BK196,GW196,GE196,NB180_196,NB196_180,NB181_196,NB196_181,NB182_196,NB196_182,NB190_196,NB196_190,NB191_196,NB196_191⟩ := n_;clear hb hbox hg;have hnb31 := NB196_180.out;have hnc31 := NB180_196.out;have hnb32 := NB196_181.out;have hnc32 := NB181_196.out;have hnb33 := NB196_182.out;have hnc33 := NB182_196.out;have hnb34 := NB196_190.out;have hnc34 := NB190_196.out;have hnb35 := NB196_191.out;have hnc35 := NB191_196.out;obtain ⟨hcz36_0,hcz36_1,hcz36_2,hfz36_0,hfz36_1,hfz36_2⟩ := spec_AddFrac.cells3 BK196.out;obtain ⟨hcz37_0,hcz37_1,hcz37_2,hcz37_3,hfz37_0,hfz37_1,hfz37_2,hfz37_3⟩ := spec_AddFrac.cells4 BK180.out;obtain ⟨hcz38_0,hcz38_1,hcz38_2,hcz38_3,hfz38_0,hfz38_1,hfz38_2,hfz38_3⟩ := spec_AddFrac.cells4 BK181.out) | ((with_reducible refine gate_dst (N := 11) rfl ?_);refine box_event ?hg (N := 11) ?hd (cs := #[.bool false,.int .u64 0,.int .u64 0,.int .i64 0]) (t := 30) ?hr ?_;(case hd => rfl);(case hg => rfl);(case hr => exact Z566);intro gb197 hg w39 hbox hb;have n_ := jA (blk_below (g := gb180) (o := .cells #[.bool a0_0,.int .u64 a0_1,.int .u64 a0_2,.int .i64 a0_3] 30 (0,0)) Z406 hb) (jA (blk_below (g := gb181) (o := .cells #[.bool a1_0,.int .u64 a1_1,.int .u64 a1_2,.int .i64 a1_3] 30 (0,0)) Z405 hb) (jA (blk_below (g := gb182) (o := .cells #[.bool false,.int .u64 0,.int .u64 0,.int .i64 0] 30 (0,0)) Z404 hb) (jA (blk_below (g := gb190) (o := .cells #[.bool t183,.int .u64 t184,.int .u64 t185] 28 (0,0)) Z403 hb) (jA (blk_below (g := gb191) (o := .cells #[.bool t186,.int .u64 t187,.int .u64 t188] 28 (0,0)) Z402 hb) (jA (blk_below (g := gb196) (o := .cells #[.bool t192,.int .u64 t193,.int .u64 t194] 28 (0,0)) Z401 hb) (jA (below_step Z407 hb) (jA (hbox) (jA ((Z129 : w.heap.size ≤ gb197)) (jA ((Z129 : w.heap.size ≤ gb197)) (jA ((Z38 : gb180 ≠ gb197)) (jA ((Z40 : gb197 ≠ gb180)) (jA ((Z37 : gb181 ≠ gb197)) (jA ((Z39 : gb197 ≠ gb181)) (jA ((Z41 : gb182 ≠ gb197)) (jA ((Z42 : gb197 ≠ gb182)) (jA ((Z44 : gb190 ≠ gb197)) (jA ((Z46 : gb197 ≠ gb190)) (jA ((Z43 : gb191 ≠ gb197)) (jA ((Z45 : gb197 ≠ gb191)) (jA ((Z31 : gb196 ≠ gb197)) (Aside0.mk ((Z32 : gb197 ≠ gb196)))))))))))))))))))))));clear BK180 BK181 BK182 BK190 BK191 BK196 HB;obtain ⟨BK180,BK181,BK182,BK190,BK191,BK196,HB,BK197,GW197,GE197,NB180_197,NB197_180,NB181_197,NB197_181,NB182_197,NB197_182,NB190_197,NB197_190,NB191_197,NB197_191,NB196_197,NB197_196⟩ := n_;clear hb hbox hg;have hnb40 := NB197_180.out;have hnc40 := NB180_197.out;have hnb41 := NB197_181.out;have hnc41 := NB181_197.out;have hnb42 := NB197_182.out;have hnc42 := NB182_197.out;have hnb43 := NB197_190.out;have hnc43 := NB190_197.out;have hnb44 := NB197_191.out;have hnc44 := NB191_197.out;have hnb45 := NB197_196.out;have hnc45 := NB196_197.out;obtain ⟨hcz46_0,hcz46_1,hcz46_2,hcz46_3,hfz46_0,hfz46_1,hfz46_2,hfz46_3⟩ := spec_AddFrac.cells4 BK197.out) | (go_at_call 47;(with_reducible refine (spec_FracOk.calls t192 t193 t194 (wrap64 (a0_3 * a1_3)) true _ A7.out).mono ?_);rintro e w47 ⟨rfl,hb⟩;have n_ := jA (blk_below (g := gb180) (o := .cells #[.bool a0_0,.int .u64 a0_1,.int .u64 a0_2,.int .i64 a0_3] 30 (0,0)) Z79 hb) (jA (blk_below (g := gb181) (o := .cells #[.bool a1_0,.int .u64 a1_1,.int .u64 a1_2,.int .i64 a1_3] 30 (0,0)) Z78 hb) (jA (blk_below (g := gb182) (o := .cells #[.bool false,.int .u64 0,.int .u64 0,.int .i64 0] 30 (0,0)) Z77 hb) (jA (blk_below (g := gb190) (o := .cells #[.bool t183,.int .u64 t184,.int .u64 t185] 28 (0,0)) Z76 hb) (jA (blk_below (g := gb191) (o := .cells #[.bool t186,.int .u64 t187,.int .u64 t188] 28 (0,0)) Z75 hb) (jA (blk_below (g := gb196) (o := .cells #[.bool t192,.int .u64 t193,.int .u64 t194] 28 (0,0)) Z74 hb) (jA (blk_below (g := gb197) (o := .cells #[.bool t192,.int .u64 t193,.int .u64 t194,.int .i64 (wrap64 (a0_3 * a1_3))] 30 (0,0)) Z27 hb) (Aside0.mk (below_step Z130 hb))))))));clear BK180 BK181 BK182 BK190 BK191 BK196 BK197 HB;obtain ⟨BK180,BK181,BK182,BK190,BK191,BK196,BK197,HB⟩ := n_;(try clear hb);(try clear hb2);(try clear hk);(try clear hi);obtain ⟨hcz48_0,hcz48_1,hcz48_2,hcz48_3,hfz48_0,hfz48_1,hfz48_2,hfz48_3⟩ := spec_AddFrac.cells4 BK197.out;obtain ⟨hcz49_0,hcz49_1,hcz49_2,hcz49_3,hfz49_0,hfz49_1,hfz49_2,hfz49_3⟩ := spec_AddFrac.cells4 BK182.out))
        refine bodyPost_ret (results_ct rfl _ _ gb182 30 #[.bool t192,.int .u64 t193,.int .u64 t194,.int .i64 (wrap64 (a0_3 * a1_3))] (0,0) _ rfl (by (with_reducible repeat (first | refine bA ?_ _ | refine bB ?_ | refine bC ?_ _));refine blk_put (cs := #[.bool t192,.int .u64 t193,.int .u64 t194,.int .i64 0]) ?_ 3 _ rfl;(with_reducible repeat (first | refine bA ?_ _ | refine bB ?_ | refine bC ?_ _));refine blk_put (cs := #[.bool t192,.int .u64 t193,.int .u64 0,.int .i64 0]) ?_ 2 _ rfl;(with_reducible repeat (first | refine bA ?_ _ | refine bB ?_ | refine bC ?_ _));refine blk_put (cs := #[.bool t192,.int .u64 0,.int .u64 0,.int .i64 0]) ?_ 1 _ rfl;(with_reducible repeat (first | refine bA ?_ _ | refine bB ?_ | refine bC ?_ _));refine blk_put (cs := #[.bool false,.int .u64 0,.int .u64 0,.int .i64 0]) ?_ 0 _ rfl;(with_reducible repeat (first | refine bA ?_ _ | refine bB ?_ | refine bC ?_ _));exact BK182.out) Try.underlying30 rfl Z569) rfl ?_
        exact ⟨Z558,Z130⟩
      · replace c8 := Bool.eq_false_iff.mpr c8
        subst c8
        have H1 : (some (false,0,0,0,false)) = some (r1,r2,r3,r4,r5) := by rw [if_neg (show ¬ (false = true) by decide)] at H;exact H
        clear H
        have H := H1
        clear H1
        simp only [Option.some.injEq,Prod.mk.injEq] at H
        obtain ⟨rfl,rfl,rfl,rfl,rfl⟩ := H
        go_enter Try.func24,Try.ntmps24
        go_wp2_with (first | ((with_reducible refine gate_dst (N := 2) rfl ?_);refine box_event ?hg (N := 2) ?hd (cs := #[.bool a0_0,.int .u64 a0_1,.int .u64 a0_2,.int .i64 a0_3]) (t := 30) ?hr ?_;(case hd => rfl);(case hg => rfl);(case hr => exact Z566);intro gb180 hg w50 hbox hb;have n_ := jA (below_step Z483 hb) (jA (hbox) (jA ((Z366 : w.heap.size ≤ gb180)) (Aside0.mk ((Z366 : w.heap.size ≤ gb180)))));clear HB;obtain ⟨HB,BK180,GW180,GE180⟩ := n_;clear hb hbox hg) | ((with_reducible refine gate_dst (N := 3) rfl ?_);refine box_event ?hg (N := 3) ?hd (cs := #[.bool a1_0,.int .u64 a1_1,.int .u64 a1_2,.int .i64 a1_3]) (t := 30) ?hr ?_;(case hd => rfl);(case hg => rfl);(case hr => exact Z566);intro gb181 hg w51 hbox hb;have n_ := jA (blk_below (g := gb180) (o := .cells #[.bool a0_0,.int .u64 a0_1,.int .u64 a0_2,.int .i64 a0_3] 30 (0,0)) Z485 hb) (jA (below_step Z457 hb) (jA (hbox) (jA ((Z335 : w.heap.size ≤ gb181)) (jA ((Z335 : w.heap.size ≤ gb181)) (jA ((Z188 : gb180 ≠ gb181)) (Aside0.mk ((Z189 : gb181 ≠ gb180))))))));clear BK180 HB;obtain ⟨BK180,HB,BK181,GW181,GE181,NB180_181,NB181_180⟩ := n_;clear hb hbox hg) | ((with_reducible refine gate_dst (N := 4) rfl ?_);refine box_event ?hg (N := 4) ?hd (cs := #[.bool false,.int .u64 0,.int .u64 0,.int .i64 0]) (t := 30) ?hr ?_;(case hd => rfl);(case hg => rfl);(case hr => exact Z566);intro gb182 hg w52 hbox hb;have n_ := jA (blk_below (g := gb180) (o := .cells #[.bool a0_0,.int .u64 a0_1,.int .u64 a0_2,.int .i64 a0_3] 30 (0,0)) Z485 hb) (jA (blk_below (g := gb181) (o := .cells #[.bool a1_0,.int .u64 a1_1,.int .u64 a1_2,.int .i64 a1_3] 30 (0,0)) Z490 hb) (jA (below_step Z440 hb) (jA (hbox) (jA ((Z225 : w.heap.size ≤ gb182)) (jA ((Z225 : w.heap.size ≤ gb182)) (jA ((Z188 : gb180 ≠ gb182)) (jA ((Z189 : gb182 ≠ gb180)) (jA ((Z190 : gb181 ≠ gb182)) (Aside0.mk ((Z191 : gb182 ≠ gb181)))))))))));clear BK180 BK181 HB;obtain ⟨BK180,BK181,HB,BK182,GW182,GE182,NB180_182,NB182_180,NB181_182,NB182_181⟩ := n_;clear hb hbox hg;have hnb53 := NB180_181.out;have hnc53 := NB181_180.out;have hnb54 := NB180_182.out;have hnc54 := NB182_180.out;obtain ⟨hcz55_0,hcz55_1,hcz55_2,hcz55_3,hfz55_0,hfz55_1,hfz55_2,hfz55_3⟩ := spec_AddFrac.cells4 BK180.out;have hnb56 := NB181_182.out;have hnc56 := NB182_181.out;obtain ⟨hcz57_0,hcz57_1,hcz57_2,hcz57_3,hfz57_0,hfz57_1,hfz57_2,hfz57_3⟩ := spec_AddFrac.cells4 BK181.out) | ((with_reducible refine gate_callee (f := 45) rfl ?_);refine goesL_ (some 15) rfl rfl Try.func45 Z569 rfl #[.agg #[.bool a0_0,.int .u64 a0_1,.int .u64 a0_2,.int .i64 a0_3],.agg #[.bool a1_0,.int .u64 a1_1,.int .u64 a1_2,.int .i64 a1_3]] rfl Z375 ?_;(with_reducible refine (spec_l5Cross.calls k a0_0 a0_1 a0_2 a0_3 a1_0 a1_1 a1_2 a1_3 t183 t184 t185 t186 t187 t188 true _ A3.out).mono ?_);rintro e w58 ⟨rfl,hb⟩;refine ⟨_,rfl,?_⟩;have n_ := jA (blk_below (g := gb180) (o := .cells #[.bool a0_0,.int .u64 a0_1,.int .u64 a0_2,.int .i64 a0_3] 30 (0,0)) Z485 hb) (jA (blk_below (g := gb181) (o := .cells #[.bool a1_0,.int .u64 a1_1,.int .u64 a1_2,.int .i64 a1_3] 30 (0,0)) Z490 hb) (jA (blk_below (g := gb182) (o := .cells #[.bool false,.int .u64 0,.int .u64 0,.int .i64 0] 30 (0,0)) Z494 hb) (Aside0.mk (below_step Z422 hb))));clear BK180 BK181 BK182 HB;obtain ⟨BK180,BK181,BK182,HB⟩ := n_;(try clear hb);(try clear hb2);(try clear hk);(try clear hi)) | ((with_reducible refine gate_dst (N := 6) rfl ?_);refine box_event ?hg (N := 6) ?hd (cs := #[.bool false,.int .u64 0,.int .u64 0]) (t := 28) ?hr ?_;(case hd => rfl);(case hg => rfl);(case hr => exact Z566);intro gb190 hg w59 hbox hb;have n_ := jA (blk_below (g := gb180) (o := .cells #[.bool a0_0,.int .u64 a0_1,.int .u64 a0_2,.int .i64 a0_3] 30 (0,0)) Z485 hb) (jA (blk_below (g := gb181) (o := .cells #[.bool a1_0,.int .u64 a1_1,.int .u64 a1_2,.int .i64 a1_3] 30 (0,0)) Z490 hb) (jA (blk_below (g := gb182) (o := .cells #[.bool false,.int .u64 0,.int .u64 0,.int .i64 0] 30 (0,0)) Z494 hb) (jA (below_step Z422 hb) (jA (hbox) (jA ((Z166 : w.heap.size ≤ gb190)) (jA ((Z166 : w.heap.size ≤ gb190)) (jA ((Z188 : gb180 ≠ gb190)) (jA ((Z189 : gb190 ≠ gb180)) (jA ((Z190 : gb181 ≠ gb190)) (jA ((Z191 : gb190 ≠ gb181)) (jA ((Z243 : gb182 ≠ gb190)) (Aside0.mk ((Z244 : gb190 ≠ gb182))))))))))))));clear BK180 BK181 BK182 HB;obtain ⟨BK180,BK181,BK182,HB,BK190,GW190,GE190,NB180_190,NB190_180,NB181_190,NB190_181,NB182_190,NB190_182⟩ := n_;clear hb hbox hg) | ((with_reducible refine gate_dst (N := 7) rfl ?_);refine box_event ?hg (N := 7) ?hd (cs := #[.bool false,.int .u64 0,.int .u64 0]) (t := 28) ?hr ?_;(case hd => rfl);(case hg => rfl);(case hr => exact Z566);intro gb191 hg w60 hbox hb;have n_ := jA (blk_below (g := gb180) (o := .cells #[.bool a0_0,.int .u64 a0_1,.int .u64 a0_2,.int .i64 a0_3] 30 (0,0)) Z485 hb) (jA (blk_below (g := gb181) (o := .cells #[.bool a1_0,.int .u64 a1_1,.int .u64 a1_2,.int .i64 a1_3] 30 (0,0)) Z490 hb) (jA (blk_below (g := gb182) (o := .cells #[.bool false,.int .u64 0,.int .u64 0,.int .i64 0] 30 (0,0)) Z494 hb) (jA (blk_below (g := gb190) (o := .cells #[.bool false,.int .u64 0,.int .u64 0] 28 (0,0)) Z516 hb) (jA (below_step Z415 hb) (jA (hbox) (jA ((Z146 : w.heap.size ≤ gb191)) (jA ((Z146 : w.heap.size ≤ gb191)) (jA ((Z188 : gb180 ≠ gb191)) (jA ((Z189 : gb191 ≠ gb180)) (jA ((Z190 : gb181 ≠ gb191)) (jA ((Z191 : gb191 ≠ gb181)) (jA ((Z243 : gb182 ≠ gb191)) (jA ((Z244 : gb191 ≠ gb182)) (jA ((Z295 : gb190 ≠ gb191)) (Aside0.mk ((Z299 : gb191 ≠ gb190)))))))))))))))));clear BK180 BK181 BK182 BK190 HB;obtain ⟨BK180,BK181,BK182,BK190,HB,BK191,GW191,GE191,NB180_191,NB191_180,NB181_191,NB191_181,NB182_191,NB191_182,NB190_191,NB191_190⟩ := n_;clear hb hbox hg;have hnb61 := NB190_180.out;have hnc61 := NB180_190.out;have hnb62 := NB190_181.out;have hnc62 := NB181_190.out;have hnb63 := NB190_182.out;have hnc63 := NB182_190.out;have hnb64 := NB190_191.out;have hnc64 := NB191_190.out;obtain ⟨hcz65_0,hcz65_1,hcz65_2,hfz65_0,hfz65_1,hfz65_2⟩ := spec_AddFrac.cells3 BK190.out;have hnb66 := NB191_180.out;have hnc66 := NB180_191.out;have hnb67 := NB191_181.out;have hnc67 := NB181_191.out;have hnb68 := NB191_182.out;have hnc68 := NB182_191.out;obtain ⟨hcz69_0,hcz69_1,hcz69_2,hfz69_0,hfz69_1,hfz69_2⟩ := spec_AddFrac.cells3 BK191.out) | ((with_reducible refine gate_callee (f := 46) rfl ?_);refine goesL_ (some 25) rfl rfl Try.func46 Z569 rfl #[.agg #[.bool t183,.int .u64 t184,.int .u64 t185],.agg #[.bool t186,.int .u64 t187,.int .u64 t188]] rfl Z375 ?_;(with_reducible refine (spec_AddWide.calls k t183 t184 t185 t186 t187 t188 t192 t193 t194 true _ A5.out).mono ?_);rintro e w70 ⟨rfl,hb⟩;refine ⟨_,rfl,?_⟩;have n_ := jA (blk_below (g := gb180) (o := .cells #[.bool a0_0,.int .u64 a0_1,.int .u64 a0_2,.int .i64 a0_3] 30 (0,0)) Z17 hb) (jA (blk_below (g := gb181) (o := .cells #[.bool a1_0,.int .u64 a1_1,.int .u64 a1_2,.int .i64 a1_3] 30 (0,0)) Z16 hb) (jA (blk_below (g := gb182) (o := .cells #[.bool false,.int .u64 0,.int .u64 0,.int .i64 0] 30 (0,0)) Z15 hb) (jA (blk_below (g := gb190) (o := .cells #[.bool t183,.int .u64 t184,.int .u64 t185] 28 (0,0)) Z5 hb) (jA (blk_below (g := gb191) (o := .cells #[.bool t186,.int .u64 t187,.int .u64 t188] 28 (0,0)) Z4 hb) (Aside0.mk (below_step Z408 hb))))));clear BK180 BK181 BK182 BK190 BK191 HB;obtain ⟨BK180,BK181,BK182,BK190,BK191,HB⟩ := n_;(try clear hb);(try clear hb2);(try clear hk);(try clear hi)) | ((with_reducible refine gate_dst (N := 9) rfl ?_);refine box_event ?hg (N := 9) ?hd (cs := #[.bool false,.int .u64 0,.int .u64 0]) (t := 28) ?hr ?_;(case hd => rfl);(case hg => rfl);(case hr => exact Z566);intro gb196 hg w71 hbox hb;have n_ := jA (blk_below (g := gb180) (o := .cells #[.bool a0_0,.int .u64 a0_1,.int .u64 a0_2,.int .i64 a0_3] 30 (0,0)) Z485 hb) (jA (blk_below (g := gb181) (o := .cells #[.bool a1_0,.int .u64 a1_1,.int .u64 a1_2,.int .i64 a1_3] 30 (0,0)) Z490 hb) (jA (blk_below (g := gb182) (o := .cells #[.bool false,.int .u64 0,.int .u64 0,.int .i64 0] 30 (0,0)) Z494 hb) (jA (blk_below (g := gb190) (o := .cells #[.bool t183,.int .u64 t184,.int .u64 t185] 28 (0,0)) Z516 hb) (jA (blk_below (g := gb191) (o := .cells #[.bool t186,.int .u64 t187,.int .u64 t188] 28 (0,0)) Z536 hb) (jA (below_step Z408 hb) (jA (hbox) (jA ((Z138 : w.heap.size ≤ gb196)) (jA ((Z138 : w.heap.size ≤ gb196)) (jA ((Z188 : gb180 ≠ gb196)) (jA ((Z189 : gb196 ≠ gb180)) (jA ((Z190 : gb181 ≠ gb196)) (jA ((Z191 : gb196 ≠ gb181)) (jA ((Z243 : gb182 ≠ gb196)) (jA ((Z244 : gb196 ≠ gb182)) (jA ((Z273 : gb190 ≠ gb196)) (jA ((Z276 : gb196 ≠ gb190)) (jA ((Z272 : gb191 ≠ gb196)) (Aside0.mk ((Z275 : gb196 ≠ gb191))))))))))))))))))));clear BK180 BK181 BK182 BK190 BK191 HB;obtain ⟨BK180,BK181,BK182,BK190,BK191,HB,BK196,GW196,GE196,NB180_196,NB196_180,NB181_196,NB196_181,NB182_196,NB196_182,NB190_196,NB196_190,NB191_196,NB196_191⟩ := n_;clear hb hbox hg;have hnb72 := NB196_180.out;have hnc72 := NB180_196.out;have hnb73 := NB196_181.out;have hnc73 := NB181_196.out;have hnb74 := NB196_182.out;have hnc74 := NB182_196.out;have hnb75 := NB196_190.out;have hnc75 := NB190_196.out;have hnb76 := NB196_191.out;have hnc76 := NB191_196.out;obtain ⟨hcz77_0,hcz77_1,hcz77_2,hfz77_0,hfz77_1,hfz77_2⟩ := spec_AddFrac.cells3 BK196.out;obtain ⟨hcz78_0,hcz78_1,hcz78_2,hcz78_3,hfz78_0,hfz78_1,hfz78_2,hfz78_3⟩ := spec_AddFrac.cells4 BK180.out;obtain ⟨hcz79_0,hcz79_1,hcz79_2,hcz79_3,hfz79_0,hfz79_1,hfz79_2,hfz79_3⟩ := spec_AddFrac.cells4 BK181.out) | ((with_reducible refine gate_dst (N := 11) rfl ?_);refine box_event ?hg (N := 11) ?hd (cs := #[.bool false,.int .u64 0,.int .u64 0,.int .i64 0]) (t := 30) ?hr ?_;(case hd => rfl);(case hg => rfl);(case hr => exact Z566);intro gb197 hg w80 hbox hb;have n_ := jA (blk_below (g := gb180) (o := .cells #[.bool a0_0,.int .u64 a0_1,.int .u64 a0_2,.int .i64 a0_3] 30 (0,0)) Z406 hb) (jA (blk_below (g := gb181) (o := .cells #[.bool a1_0,.int .u64 a1_1,.int .u64 a1_2,.int .i64 a1_3] 30 (0,0)) Z405 hb) (jA (blk_below (g := gb182) (o := .cells #[.bool false,.int .u64 0,.int .u64 0,.int .i64 0] 30 (0,0)) Z404 hb) (jA (blk_below (g := gb190) (o := .cells #[.bool t183,.int .u64 t184,.int .u64 t185] 28 (0,0)) Z403 hb) (jA (blk_below (g := gb191) (o := .cells #[.bool t186,.int .u64 t187,.int .u64 t188] 28 (0,0)) Z402 hb) (jA (blk_below (g := gb196) (o := .cells #[.bool t192,.int .u64 t193,.int .u64 t194] 28 (0,0)) Z401 hb) (jA (below_step Z407 hb) (jA (hbox) (jA ((Z129 : w.heap.size ≤ gb197)) (jA ((Z129 : w.heap.size ≤ gb197)) (jA ((Z38 : gb180 ≠ gb197)) (jA ((Z40 : gb197 ≠ gb180)) (jA ((Z37 : gb181 ≠ gb197)) (jA ((Z39 : gb197 ≠ gb181)) (jA ((Z41 : gb182 ≠ gb197)) (jA ((Z42 : gb197 ≠ gb182)) (jA ((Z44 : gb190 ≠ gb197)) (jA ((Z46 : gb197 ≠ gb190)) (jA ((Z43 : gb191 ≠ gb197)) (jA ((Z45 : gb197 ≠ gb191)) (jA ((Z31 : gb196 ≠ gb197)) (Aside0.mk ((Z32 : gb197 ≠ gb196)))))))))))))))))))))));clear BK180 BK181 BK182 BK190 BK191 BK196 HB;obtain ⟨BK180,BK181,BK182,BK190,BK191,BK196,HB,BK197,GW197,GE197,NB180_197,NB197_180,NB181_197,NB197_181,NB182_197,NB197_182,NB190_197,NB197_190,NB191_197,NB197_191,NB196_197,NB197_196⟩ := n_;clear hb hbox hg;have hnb81 := NB197_180.out;have hnc81 := NB180_197.out;have hnb82 := NB197_181.out;have hnc82 := NB181_197.out;have hnb83 := NB197_182.out;have hnc83 := NB182_197.out;have hnb84 := NB197_190.out;have hnc84 := NB190_197.out;have hnb85 := NB197_191.out;have hnc85 := NB191_197.out;have hnb86 := NB197_196.out;have hnc86 := NB196_197.out;obtain ⟨hcz87_0,hcz87_1,hcz87_2,hcz87_3,hfz87_0,hfz87_1,hfz87_2,hfz87_3⟩ := spec_AddFrac.cells4 BK197.out) | (go_at_call 47;(with_reducible refine (spec_FracOk.calls t192 t193 t194 (wrap64 (a0_3 * a1_3)) false _ A7.out).mono ?_);rintro e w88 ⟨rfl,hb⟩;have n_ := jA (blk_below (g := gb180) (o := .cells #[.bool a0_0,.int .u64 a0_1,.int .u64 a0_2,.int .i64 a0_3] 30 (0,0)) Z79 hb) (jA (blk_below (g := gb181) (o := .cells #[.bool a1_0,.int .u64 a1_1,.int .u64 a1_2,.int .i64 a1_3] 30 (0,0)) Z78 hb) (jA (blk_below (g := gb182) (o := .cells #[.bool false,.int .u64 0,.int .u64 0,.int .i64 0] 30 (0,0)) Z77 hb) (jA (blk_below (g := gb190) (o := .cells #[.bool t183,.int .u64 t184,.int .u64 t185] 28 (0,0)) Z76 hb) (jA (blk_below (g := gb191) (o := .cells #[.bool t186,.int .u64 t187,.int .u64 t188] 28 (0,0)) Z75 hb) (jA (blk_below (g := gb196) (o := .cells #[.bool t192,.int .u64 t193,.int .u64 t194] 28 (0,0)) Z74 hb) (jA (blk_below (g := gb197) (o := .cells #[.bool t192,.int .u64 t193,.int .u64 t194,.int .i64 (wrap64 (a0_3 * a1_3))] 30 (0,0)) Z27 hb) (Aside0.mk (below_step Z130 hb))))))));clear BK180 BK181 BK182 BK190 BK191 BK196 BK197 HB;obtain ⟨BK180,BK181,BK182,BK190,BK191,BK196,BK197,HB⟩ := n_;(try clear hb);(try clear hb2);(try clear hk);(try clear hi);obtain ⟨hcz89_0,hcz89_1,hcz89_2,hcz89_3,hfz89_0,hfz89_1,hfz89_2,hfz89_3⟩ := spec_AddFrac.cells4 BK182.out))
        refine bodyPost_ret (results_ct rfl _ _ gb182 30 #[.bool false,.int .u64 0,.int .u64 0,.int .i64 0] (0,0) _ rfl (by (with_reducible repeat (first | refine bA ?_ _ | refine bB ?_ | refine bC ?_ _));refine blk_put (cs := #[.bool false,.int .u64 0,.int .u64 0,.int .i64 0]) ?_ 3 _ rfl;(with_reducible repeat (first | refine bA ?_ _ | refine bB ?_ | refine bC ?_ _));refine blk_put (cs := #[.bool false,.int .u64 0,.int .u64 0,.int .i64 0]) ?_ 2 _ rfl;(with_reducible repeat (first | refine bA ?_ _ | refine bB ?_ | refine bC ?_ _));refine blk_put (cs := #[.bool false,.int .u64 0,.int .u64 0,.int .i64 0]) ?_ 1 _ rfl;(with_reducible repeat (first | refine bA ?_ _ | refine bB ?_ | refine bC ?_ _));refine blk_put (cs := #[.bool false,.int .u64 0,.int .u64 0,.int .i64 0]) ?_ 0 _ rfl;(with_reducible repeat (first | refine bA ?_ _ | refine bB ?_ | refine bC ?_ _));exact BK182.out) Try.underlying30 rfl Z569) rfl ?_
        exact ⟨Z558,Z130⟩
    · replace c6 := Bool.eq_false_iff.mpr c6
      subst c6
      have H1 : (some (false,0,0,0,false)) = some (r1,r2,r3,r4,r5) := by rw [if_neg (show ¬ (false = true) by decide)] at H;exact H
      clear H
      have H := H1
      clear H1
      simp only [Option.some.injEq,Prod.mk.injEq] at H
      obtain ⟨rfl,rfl,rfl,rfl,rfl⟩ := H
      go_enter Try.func24,Try.ntmps24
      go_wp2_with (first | ((with_reducible refine gate_dst (N := 2) rfl ?_);refine box_event ?hg (N := 2) ?hd (cs := #[.bool a0_0,.int .u64 a0_1,.int .u64 a0_2,.int .i64 a0_3]) (t := 30) ?hr ?_;(case hd => rfl);(case hg => rfl);(case hr => exact Z566);intro gb180 hg w90 hbox hb;have n_ := jA (below_step Z483 hb) (jA (hbox) (jA ((Z366 : w.heap.size ≤ gb180)) (Aside0.mk ((Z366 : w.heap.size ≤ gb180)))));clear HB;obtain ⟨HB,BK180,GW180,GE180⟩ := n_;clear hb hbox hg) | ((with_reducible refine gate_dst (N := 3) rfl ?_);refine box_event ?hg (N := 3) ?hd (cs := #[.bool a1_0,.int .u64 a1_1,.int .u64 a1_2,.int .i64 a1_3]) (t := 30) ?hr ?_;(case hd => rfl);(case hg => rfl);(case hr => exact Z566);intro gb181 hg w91 hbox hb;have n_ := jA (blk_below (g := gb180) (o := .cells #[.bool a0_0,.int .u64 a0_1,.int .u64 a0_2,.int .i64 a0_3] 30 (0,0)) Z485 hb) (jA (below_step Z457 hb) (jA (hbox) (jA ((Z335 : w.heap.size ≤ gb181)) (jA ((Z335 : w.heap.size ≤ gb181)) (jA ((Z188 : gb180 ≠ gb181)) (Aside0.mk ((Z189 : gb181 ≠ gb180))))))));clear BK180 HB;obtain ⟨BK180,HB,BK181,GW181,GE181,NB180_181,NB181_180⟩ := n_;clear hb hbox hg) | ((with_reducible refine gate_dst (N := 4) rfl ?_);refine box_event ?hg (N := 4) ?hd (cs := #[.bool false,.int .u64 0,.int .u64 0,.int .i64 0]) (t := 30) ?hr ?_;(case hd => rfl);(case hg => rfl);(case hr => exact Z566);intro gb182 hg w92 hbox hb;have n_ := jA (blk_below (g := gb180) (o := .cells #[.bool a0_0,.int .u64 a0_1,.int .u64 a0_2,.int .i64 a0_3] 30 (0,0)) Z485 hb) (jA (blk_below (g := gb181) (o := .cells #[.bool a1_0,.int .u64 a1_1,.int .u64 a1_2,.int .i64 a1_3] 30 (0,0)) Z490 hb) (jA (below_step Z440 hb) (jA (hbox) (jA ((Z225 : w.heap.size ≤ gb182)) (jA ((Z225 : w.heap.size ≤ gb182)) (jA ((Z188 : gb180 ≠ gb182)) (jA ((Z189 : gb182 ≠ gb180)) (jA ((Z190 : gb181 ≠ gb182)) (Aside0.mk ((Z191 : gb182 ≠ gb181)))))))))));clear BK180 BK181 HB;obtain ⟨BK180,BK181,HB,BK182,GW182,GE182,NB180_182,NB182_180,NB181_182,NB182_181⟩ := n_;clear hb hbox hg;have hnb93 := NB180_181.out;have hnc93 := NB181_180.out;have hnb94 := NB180_182.out;have hnc94 := NB182_180.out;obtain ⟨hcz95_0,hcz95_1,hcz95_2,hcz95_3,hfz95_0,hfz95_1,hfz95_2,hfz95_3⟩ := spec_AddFrac.cells4 BK180.out;have hnb96 := NB181_182.out;have hnc96 := NB182_181.out;obtain ⟨hcz97_0,hcz97_1,hcz97_2,hcz97_3,hfz97_0,hfz97_1,hfz97_2,hfz97_3⟩ := spec_AddFrac.cells4 BK181.out) | ((with_reducible refine gate_callee (f := 45) rfl ?_);refine goesL_ (some 15) rfl rfl Try.func45 Z569 rfl #[.agg #[.bool a0_0,.int .u64 a0_1,.int .u64 a0_2,.int .i64 a0_3],.agg #[.bool a1_0,.int .u64 a1_1,.int .u64 a1_2,.int .i64 a1_3]] rfl Z375 ?_;(with_reducible refine (spec_l5Cross.calls k a0_0 a0_1 a0_2 a0_3 a1_0 a1_1 a1_2 a1_3 t183 t184 t185 t186 t187 t188 true _ A3.out).mono ?_);rintro e w98 ⟨rfl,hb⟩;refine ⟨_,rfl,?_⟩;have n_ := jA (blk_below (g := gb180) (o := .cells #[.bool a0_0,.int .u64 a0_1,.int .u64 a0_2,.int .i64 a0_3] 30 (0,0)) Z485 hb) (jA (blk_below (g := gb181) (o := .cells #[.bool a1_0,.int .u64 a1_1,.int .u64 a1_2,.int .i64 a1_3] 30 (0,0)) Z490 hb) (jA (blk_below (g := gb182) (o := .cells #[.bool false,.int .u64 0,.int .u64 0,.int .i64 0] 30 (0,0)) Z494 hb) (Aside0.mk (below_step Z422 hb))));clear BK180 BK181 BK182 HB;obtain ⟨BK180,BK181,BK182,HB⟩ := n_;(try clear hb);(try clear hb2);(try clear hk);(try clear hi)) | ((with_reducible refine gate_dst (N := 6) rfl ?_);refine box_event ?hg (N := 6) ?hd (cs := #[.bool false,.int .u64 0,.int .u64 0]) (t := 28) ?hr ?_;(case hd => rfl);(case hg => rfl);(case hr => exact Z566);intro gb190 hg w99 hbox hb;have n_ := jA (blk_below (g := gb180) (o := .cells #[.bool a0_0,.int .u64 a0_1,.int .u64 a0_2,.int .i64 a0_3] 30 (0,0)) Z485 hb) (jA (blk_below (g := gb181) (o := .cells #[.bool a1_0,.int .u64 a1_1,.int .u64 a1_2,.int .i64 a1_3] 30 (0,0)) Z490 hb) (jA (blk_below (g := gb182) (o := .cells #[.bool false,.int .u64 0,.int .u64 0,.int .i64 0] 30 (0,0)) Z494 hb) (jA (below_step Z422 hb) (jA (hbox) (jA ((Z166 : w.heap.size ≤ gb190)) (jA ((Z166 : w.heap.size ≤ gb190)) (jA ((Z188 : gb180 ≠ gb190)) (jA ((Z189 : gb190 ≠ gb180)) (jA ((Z190 : gb181 ≠ gb190)) (jA ((Z191 : gb190 ≠ gb181)) (jA ((Z243 : gb182 ≠ gb190)) (Aside0.mk ((Z244 : gb190 ≠ gb182))))))))))))));clear BK180 BK181 BK182 HB;obtain ⟨BK180,BK181,BK182,HB,BK190,GW190,GE190,NB180_190,NB190_180,NB181_190,NB190_181,NB182_190,NB190_182⟩ := n_;clear hb hbox hg) | ((with_reducible refine gate_dst (N := 7) rfl ?_);refine box_event ?hg (N := 7) ?hd (cs := #[.bool false,.int .u64 0,.int .u64 0]) (t := 28) ?hr ?_;(case hd => rfl);(case hg => rfl);(case hr => exact Z566);intro gb191 hg w100 hbox hb;have n_ := jA (blk_below (g := gb180) (o := .cells #[.bool a0_0,.int .u64 a0_1,.int .u64 a0_2,.int .i64 a0_3] 30 (0,0)) Z485 hb) (jA (blk_below (g := gb181) (o := .cells #[.bool a1_0,.int .u64 a1_1,.int .u64 a1_2,.int .i64 a1_3] 30 (0,0)) Z490 hb) (jA (blk_below (g := gb182) (o := .cells #[.bool false,.int .u64 0,.int .u64 0,.int .i64 0] 30 (0,0)) Z494 hb) (jA (blk_below (g := gb190) (o := .cells #[.bool false,.int .u64 0,.int .u64 0] 28 (0,0)) Z516 hb) (jA (below_step Z415 hb) (jA (hbox) (jA ((Z146 : w.heap.size ≤ gb191)) (jA ((Z146 : w.heap.size ≤ gb191)) (jA ((Z188 : gb180 ≠ gb191)) (jA ((Z189 : gb191 ≠ gb180)) (jA ((Z190 : gb181 ≠ gb191)) (jA ((Z191 : gb191 ≠ gb181)) (jA ((Z243 : gb182 ≠ gb191)) (jA ((Z244 : gb191 ≠ gb182)) (jA ((Z295 : gb190 ≠ gb191)) (Aside0.mk ((Z299 : gb191 ≠ gb190)))))))))))))))));clear BK180 BK181 BK182 BK190 HB;obtain ⟨BK180,BK181,BK182,BK190,HB,BK191,GW191,GE191,NB180_191,NB191_180,NB181_191,NB191_181,NB182_191,NB191_182,NB190_191,NB191_190⟩ := n_;clear hb hbox hg;have hnb101 := NB190_180.out;have hnc101 := NB180_190.out;have hnb102 := NB190_181.out;have hnc102 := NB181_190.out;have hnb103 := NB190_182.out;have hnc103 := NB182_190.out;have hnb104 := NB190_191.out;have hnc104 := NB191_190.out;obtain ⟨hcz105_0,hcz105_1,hcz105_2,hfz105_0,hfz105_1,hfz105_2⟩ := spec_AddFrac.cells3 BK190.out;have hnb106 := NB191_180.out;have hnc106 := NB180_191.out;have hnb107 := NB191_181.out;have hnc107 := NB181_191.out;have hnb108 := NB191_182.out;have hnc108 := NB182_191.out;obtain ⟨hcz109_0,hcz109_1,hcz109_2,hfz109_0,hfz109_1,hfz109_2⟩ := spec_AddFrac.cells3 BK191.out) | ((with_reducible refine gate_callee (f := 46) rfl ?_);refine goesL_ (some 25) rfl rfl Try.func46 Z569 rfl #[.agg #[.bool t183,.int .u64 t184,.int .u64 t185],.agg #[.bool t186,.int .u64 t187,.int .u64 t188]] rfl Z375 ?_;(with_reducible refine (spec_AddWide.calls k t183 t184 t185 t186 t187 t188 t192 t193 t194 false _ A5.out).mono ?_);rintro e w110 ⟨rfl,hb⟩;refine ⟨_,rfl,?_⟩;have n_ := jA (blk_below (g := gb180) (o := .cells #[.bool a0_0,.int .u64 a0_1,.int .u64 a0_2,.int .i64 a0_3] 30 (0,0)) Z17 hb) (jA (blk_below (g := gb181) (o := .cells #[.bool a1_0,.int .u64 a1_1,.int .u64 a1_2,.int .i64 a1_3] 30 (0,0)) Z16 hb) (jA (blk_below (g := gb182) (o := .cells #[.bool false,.int .u64 0,.int .u64 0,.int .i64 0] 30 (0,0)) Z15 hb) (jA (blk_below (g := gb190) (o := .cells #[.bool t183,.int .u64 t184,.int .u64 t185] 28 (0,0)) Z5 hb) (jA (blk_below (g := gb191) (o := .cells #[.bool t186,.int .u64 t187,.int .u64 t188] 28 (0,0)) Z4 hb) (Aside0.mk (below_step Z408 hb))))));clear BK180 BK181 BK182 BK190 BK191 HB;obtain ⟨BK180,BK181,BK182,BK190,BK191,HB⟩ := n_;(try clear hb);(try clear hb2);(try clear hk);(try clear hi)) | ((with_reducible refine gate_dst (N := 9) rfl ?_);refine box_event ?hg (N := 9) ?hd (cs := #[.bool false,.int .u64 0,.int .u64 0]) (t := 28) ?hr ?_;(case hd => rfl);(case hg => rfl);(case hr => exact Z566);intro gb196 hg w111 hbox hb;have n_ := jA (blk_below (g := gb180) (o := .cells #[.bool a0_0,.int .u64 a0_1,.int .u64 a0_2,.int .i64 a0_3] 30 (0,0)) Z485 hb) (jA (blk_below (g := gb181) (o := .cells #[.bool a1_0,.int .u64 a1_1,.int .u64 a1_2,.int .i64 a1_3] 30 (0,0)) Z490 hb) (jA (blk_below (g := gb182) (o := .cells #[.bool false,.int .u64 0,.int .u64 0,.int .i64 0] 30 (0,0)) Z494 hb) (jA (blk_below (g := gb190) (o := .cells #[.bool t183,.int .u64 t184,.int .u64 t185] 28 (0,0)) Z516 hb) (jA (blk_below (g := gb191) (o := .cells #[.bool t186,.int .u64 t187,.int .u64 t188] 28 (0,0)) Z536 hb) (jA (below_step Z408 hb) (jA (hbox) (jA ((Z138 : w.heap.size ≤ gb196)) (jA ((Z138 : w.heap.size ≤ gb196)) (jA ((Z188 : gb180 ≠ gb196)) (jA ((Z189 : gb196 ≠ gb180)) (jA ((Z190 : gb181 ≠ gb196)) (jA ((Z191 : gb196 ≠ gb181)) (jA ((Z243 : gb182 ≠ gb196)) (jA ((Z244 : gb196 ≠ gb182)) (jA ((Z273 : gb190 ≠ gb196)) (jA ((Z276 : gb196 ≠ gb190)) (jA ((Z272 : gb191 ≠ gb196)) (Aside0.mk ((Z275 : gb196 ≠ gb191))))))))))))))))))));clear BK180 BK181 BK182 BK190 BK191 HB;obtain ⟨BK180,BK181,BK182,BK190,BK191,HB,BK196,GW196,GE196,NB180_196,NB196_180,NB181_196,NB196_181,NB182_196,NB196_182,NB190_196,NB196_190,NB191_196,NB196_191⟩ := n_;clear hb hbox hg;have hnb112 := NB196_180.out;have hnc112 := NB180_196.out;have hnb113 := NB196_181.out;have hnc113 := NB181_196.out;have hnb114 := NB196_182.out;have hnc114 := NB182_196.out;have hnb115 := NB196_190.out;have hnc115 := NB190_196.out;have hnb116 := NB196_191.out;have hnc116 := NB191_196.out;obtain ⟨hcz117_0,hcz117_1,hcz117_2,hfz117_0,hfz117_1,hfz117_2⟩ := spec_AddFrac.cells3 BK196.out;obtain ⟨hcz118_0,hcz118_1,hcz118_2,hcz118_3,hfz118_0,hfz118_1,hfz118_2,hfz118_3⟩ := spec_AddFrac.cells4 BK180.out;obtain ⟨hcz119_0,hcz119_1,hcz119_2,hcz119_3,hfz119_0,hfz119_1,hfz119_2,hfz119_3⟩ := spec_AddFrac.cells4 BK181.out) | ((with_reducible refine gate_dst (N := 11) rfl ?_);refine box_event ?hg (N := 11) ?hd (cs := #[.bool false,.int .u64 0,.int .u64 0,.int .i64 0]) (t := 30) ?hr ?_;(case hd => rfl);(case hg => rfl);(case hr => exact Z566);intro gb197 hg w120 hbox hb;have n_ := jA (blk_below (g := gb180) (o := .cells #[.bool a0_0,.int .u64 a0_1,.int .u64 a0_2,.int .i64 a0_3] 30 (0,0)) Z406 hb) (jA (blk_below (g := gb181) (o := .cells #[.bool a1_0,.int .u64 a1_1,.int .u64 a1_2,.int .i64 a1_3] 30 (0,0)) Z405 hb) (jA (blk_below (g := gb182) (o := .cells #[.bool false,.int .u64 0,.int .u64 0,.int .i64 0] 30 (0,0)) Z404 hb) (jA (blk_below (g := gb190) (o := .cells #[.bool t183,.int .u64 t184,.int .u64 t185] 28 (0,0)) Z403 hb) (jA (blk_below (g := gb191) (o := .cells #[.bool t186,.int .u64 t187,.int .u64 t188] 28 (0,0)) Z402 hb) (jA (blk_below (g := gb196) (o := .cells #[.bool t192,.int .u64 t193,.int .u64 t194] 28 (0,0)) Z401 hb) (jA (below_step Z407 hb) (jA (hbox) (jA ((Z129 : w.heap.size ≤ gb197)) (jA ((Z129 : w.heap.size ≤ gb197)) (jA ((Z38 : gb180 ≠ gb197)) (jA ((Z40 : gb197 ≠ gb180)) (jA ((Z37 : gb181 ≠ gb197)) (jA ((Z39 : gb197 ≠ gb181)) (jA ((Z41 : gb182 ≠ gb197)) (jA ((Z42 : gb197 ≠ gb182)) (jA ((Z44 : gb190 ≠ gb197)) (jA ((Z46 : gb197 ≠ gb190)) (jA ((Z43 : gb191 ≠ gb197)) (jA ((Z45 : gb197 ≠ gb191)) (jA ((Z31 : gb196 ≠ gb197)) (Aside0.mk ((Z32 : gb197 ≠ gb196)))))))))))))))))))))));clear BK180 BK181 BK182 BK190 BK191 BK196 HB;obtain ⟨BK180,BK181,BK182,BK190,BK191,BK196,HB,BK197,GW197,GE197,NB180_197,NB197_180,NB181_197,NB197_181,NB182_197,NB197_182,NB190_197,NB197_190,NB191_197,NB197_191,NB196_197,NB197_196⟩ := n_;clear hb hbox hg;have hnb121 := NB197_180.out;have hnc121 := NB180_197.out;have hnb122 := NB197_181.out;have hnc122 := NB181_197.out;have hnb123 := NB197_182.out;have hnc123 := NB182_197.out;have hnb124 := NB197_190.out;have hnc124 := NB190_197.out;have hnb125 := NB197_191.out;have hnc125 := NB191_197.out;have hnb126 := NB197_196.out;have hnc126 := NB196_197.out;obtain ⟨hcz127_0,hcz127_1,hcz127_2,hcz127_3,hfz127_0,hfz127_1,hfz127_2,hfz127_3⟩ := spec_AddFrac.cells4 BK197.out;obtain ⟨hcz128_0,hcz128_1,hcz128_2,hcz128_3,hfz128_0,hfz128_1,hfz128_2,hfz128_3⟩ := spec_AddFrac.cells4 BK182.out))
      refine bodyPost_ret (results_ct rfl _ _ gb182 30 #[.bool false,.int .u64 0,.int .u64 0,.int .i64 0] (0,0) _ rfl (by (with_reducible repeat (first | refine bA ?_ _ | refine bB ?_ | refine bC ?_ _));refine blk_put (cs := #[.bool false,.int .u64 0,.int .u64 0,.int .i64 0]) ?_ 3 _ rfl;(with_reducible repeat (first | refine bA ?_ _ | refine bB ?_ | refine bC ?_ _));refine blk_put (cs := #[.bool false,.int .u64 0,.int .u64 0,.int .i64 0]) ?_ 2 _ rfl;(with_reducible repeat (first | refine bA ?_ _ | refine bB ?_ | refine bC ?_ _));refine blk_put (cs := #[.bool false,.int .u64 0,.int .u64 0,.int .i64 0]) ?_ 1 _ rfl;(with_reducible repeat (first | refine bA ?_ _ | refine bB ?_ | refine bC ?_ _));refine blk_put (cs := #[.bool false,.int .u64 0,.int .u64 0,.int .i64 0]) ?_ 0 _ rfl;(with_reducible repeat (first | refine bA ?_ _ | refine bB ?_ | refine bC ?_ _));refine blk_far ?_ NB182_197.out _;(with_reducible repeat (first | refine bA ?_ _ | refine bB ?_ | refine bC ?_ _));refine blk_far ?_ NB182_197.out _;(with_reducible repeat (first | refine bA ?_ _ | refine bB ?_ | refine bC ?_ _));refine blk_far ?_ NB182_197.out _;(with_reducible repeat (first | refine bA ?_ _ | refine bB ?_ | refine bC ?_ _));refine blk_far ?_ NB182_197.out _;(with_reducible repeat (first | refine bA ?_ _ | refine bB ?_ | refine bC ?_ _));exact BK182.out) Try.underlying30 rfl Z569) rfl ?_
      exact ⟨Z558,Z130⟩
  · replace c4 := Bool.eq_false_iff.mpr c4
    subst c4
    have H1 : (some (false,0,0,0,false)) = some (r1,r2,r3,r4,r5) := by rw [if_neg (show ¬ (false = true) by decide)] at H;exact H
    clear H
    have H := H1
    clear H1
    simp only [Option.some.injEq,Prod.mk.injEq] at H
    obtain ⟨rfl,rfl,rfl,rfl,rfl⟩ := H
    go_enter Try.func24,Try.ntmps24
    go_wp2_with (first | ((with_reducible refine gate_dst (N := 2) rfl ?_);refine box_event ?hg (N := 2) ?hd (cs := #[.bool a0_0,.int .u64 a0_1,.int .u64 a0_2,.int .i64 a0_3]) (t := 30) ?hr ?_;(case hd => rfl);(case hg => rfl);(case hr => exact Z566);intro gb180 hg w129 hbox hb;have n_ := jA (below_step Z483 hb) (jA (hbox) (jA ((Z366 : w.heap.size ≤ gb180)) (Aside0.mk ((Z366 : w.heap.size ≤ gb180)))));clear HB;obtain ⟨HB,BK180,GW180,GE180⟩ := n_;clear hb hbox hg) | ((with_reducible refine gate_dst (N := 3) rfl ?_);refine box_event ?hg (N := 3) ?hd (cs := #[.bool a1_0,.int .u64 a1_1,.int .u64 a1_2,.int .i64 a1_3]) (t := 30) ?hr ?_;(case hd => rfl);(case hg => rfl);(case hr => exact Z566);intro gb181 hg w130 hbox hb;have n_ := jA (blk_below (g := gb180) (o := .cells #[.bool a0_0,.int .u64 a0_1,.int .u64 a0_2,.int .i64 a0_3] 30 (0,0)) Z485 hb) (jA (below_step Z457 hb) (jA (hbox) (jA ((Z335 : w.heap.size ≤ gb181)) (jA ((Z335 : w.heap.size ≤ gb181)) (jA ((Z188 : gb180 ≠ gb181)) (Aside0.mk ((Z189 : gb181 ≠ gb180))))))));clear BK180 HB;obtain ⟨BK180,HB,BK181,GW181,GE181,NB180_181,NB181_180⟩ := n_;clear hb hbox hg) | ((with_reducible refine gate_dst (N := 4) rfl ?_);refine box_event ?hg (N := 4) ?hd (cs := #[.bool false,.int .u64 0,.int .u64 0,.int .i64 0]) (t := 30) ?hr ?_;(case hd => rfl);(case hg => rfl);(case hr => exact Z566);intro gb182 hg w131 hbox hb;have n_ := jA (blk_below (g := gb180) (o := .cells #[.bool a0_0,.int .u64 a0_1,.int .u64 a0_2,.int .i64 a0_3] 30 (0,0)) Z485 hb) (jA (blk_below (g := gb181) (o := .cells #[.bool a1_0,.int .u64 a1_1,.int .u64 a1_2,.int .i64 a1_3] 30 (0,0)) Z490 hb) (jA (below_step Z440 hb) (jA (hbox) (jA ((Z225 : w.heap.size ≤ gb182)) (jA ((Z225 : w.heap.size ≤ gb182)) (jA ((Z188 : gb180 ≠ gb182)) (jA ((Z189 : gb182 ≠ gb180)) (jA ((Z190 : gb181 ≠ gb182)) (Aside0.mk ((Z191 : gb182 ≠ gb181)))))))))));clear BK180 BK181 HB;obtain ⟨BK180,BK181,HB,BK182,GW182,GE182,NB180_182,NB182_180,NB181_182,NB182_181⟩ := n_;clear hb hbox hg;have hnb132 := NB180_181.out;have hnc132 := NB181_180.out;have hnb133 := NB180_182.out;have hnc133 := NB182_180.out;obtain ⟨hcz134_0,hcz134_1,hcz134_2,hcz134_3,hfz134_0,hfz134_1,hfz134_2,hfz134_3⟩ := spec_AddFrac.cells4 BK180.out;have hnb135 := NB181_182.out;have hnc135 := NB182_181.out;obtain ⟨hcz136_0,hcz136_1,hcz136_2,hcz136_3,hfz136_0,hfz136_1,hfz136_2,hfz136_3⟩ := spec_AddFrac.cells4 BK181.out) | ((with_reducible refine gate_callee (f := 45) rfl ?_);refine goesL_ (some 15) rfl rfl Try.func45 Z569 rfl #[.agg #[.bool a0_0,.int .u64 a0_1,.int .u64 a0_2,.int .i64 a0_3],.agg #[.bool a1_0,.int .u64 a1_1,.int .u64 a1_2,.int .i64 a1_3]] rfl Z375 ?_;(with_reducible refine (spec_l5Cross.calls k a0_0 a0_1 a0_2 a0_3 a1_0 a1_1 a1_2 a1_3 t183 t184 t185 t186 t187 t188 false _ A3.out).mono ?_);rintro e w137 ⟨rfl,hb⟩;refine ⟨_,rfl,?_⟩;have n_ := jA (blk_below (g := gb180) (o := .cells #[.bool a0_0,.int .u64 a0_1,.int .u64 a0_2,.int .i64 a0_3] 30 (0,0)) Z485 hb) (jA (blk_below (g := gb181) (o := .cells #[.bool a1_0,.int .u64 a1_1,.int .u64 a1_2,.int .i64 a1_3] 30 (0,0)) Z490 hb) (jA (blk_below (g := gb182) (o := .cells #[.bool false,.int .u64 0,.int .u64 0,.int .i64 0] 30 (0,0)) Z494 hb) (Aside0.mk (below_step Z422 hb))));clear BK180 BK181 BK182 HB;obtain ⟨BK180,BK181,BK182,HB⟩ := n_;(try clear hb);(try clear hb2);(try clear hk);(try clear hi)) | ((with_reducible refine gate_dst (N := 6) rfl ?_);refine box_event ?hg (N := 6) ?hd (cs := #[.bool false,.int .u64 0,.int .u64 0]) (t := 28) ?hr ?_;(case hd => rfl);(case hg => rfl);(case hr => exact Z566);intro gb190 hg w138 hbox hb;have n_ := jA (blk_below (g := gb180) (o := .cells #[.bool a0_0,.int .u64 a0_1,.int .u64 a0_2,.int .i64 a0_3] 30 (0,0)) Z485 hb) (jA (blk_below (g := gb181) (o := .cells #[.bool a1_0,.int .u64 a1_1,.int .u64 a1_2,.int .i64 a1_3] 30 (0,0)) Z490 hb) (jA (blk_below (g := gb182) (o := .cells #[.bool false,.int .u64 0,.int .u64 0,.int .i64 0] 30 (0,0)) Z494 hb) (jA (below_step Z422 hb) (jA (hbox) (jA ((Z166 : w.heap.size ≤ gb190)) (jA ((Z166 : w.heap.size ≤ gb190)) (jA ((Z188 : gb180 ≠ gb190)) (jA ((Z189 : gb190 ≠ gb180)) (jA ((Z190 : gb181 ≠ gb190)) (jA ((Z191 : gb190 ≠ gb181)) (jA ((Z243 : gb182 ≠ gb190)) (Aside0.mk ((Z244 : gb190 ≠ gb182))))))))))))));clear BK180 BK181 BK182 HB;obtain ⟨BK180,BK181,BK182,HB,BK190,GW190,GE190,NB180_190,NB190_180,NB181_190,NB190_181,NB182_190,NB190_182⟩ := n_;clear hb hbox hg) | ((with_reducible refine gate_dst (N := 7) rfl ?_);refine box_event ?hg (N := 7) ?hd (cs := #[.bool false,.int .u64 0,.int .u64 0]) (t := 28) ?hr ?_;(case hd => rfl);(case hg => rfl);(case hr => exact Z566);intro gb191 hg w139 hbox hb;have n_ := jA (blk_below (g := gb180) (o := .cells #[.bool a0_0,.int .u64 a0_1,.int .u64 a0_2,.int .i64 a0_3] 30 (0,0)) Z485 hb) (jA (blk_below (g := gb181) (o := .cells #[.bool a1_0,.int .u64 a1_1,.int .u64 a1_2,.int .i64 a1_3] 30 (0,0)) Z490 hb) (jA (blk_below (g := gb182) (o := .cells #[.bool false,.int .u64 0,.int .u64 0,.int .i64 0] 30 (0,0)) Z494 hb) (jA (blk_below (g := gb190) (o := .cells #[.bool false,.int .u64 0,.int .u64 0] 28 (0,0)) Z516 hb) (jA (below_step Z415 hb) (jA (hbox) (jA ((Z146 : w.heap.size ≤ gb191)) (jA ((Z146 : w.heap.size ≤ gb191)) (jA ((Z188 : gb180 ≠ gb191)) (jA ((Z189 : gb191 ≠ gb180)) (jA ((Z190 : gb181 ≠ gb191)) (jA ((Z191 : gb191 ≠ gb181)) (jA ((Z243 : gb182 ≠ gb191)) (jA ((Z244 : gb191 ≠ gb182)) (jA ((Z295 : gb190 ≠ gb191)) (Aside0.mk ((Z299 : gb191 ≠ gb190)))))))))))))))));clear BK180 BK181 BK182 BK190 HB;obtain ⟨BK180,BK181,BK182,BK190,HB,BK191,GW191,GE191,NB180_191,NB191_180,NB181_191,NB191_181,NB182_191,NB191_182,NB190_191,NB191_190⟩ := n_;clear hb hbox hg;have hnb140 := NB190_180.out;have hnc140 := NB180_190.out;have hnb141 := NB190_181.out;have hnc141 := NB181_190.out;have hnb142 := NB190_182.out;have hnc142 := NB182_190.out;have hnb143 := NB190_191.out;have hnc143 := NB191_190.out;obtain ⟨hcz144_0,hcz144_1,hcz144_2,hfz144_0,hfz144_1,hfz144_2⟩ := spec_AddFrac.cells3 BK190.out;have hnb145 := NB191_180.out;have hnc145 := NB180_191.out;have hnb146 := NB191_181.out;have hnc146 := NB181_191.out;have hnb147 := NB191_182.out;have hnc147 := NB182_191.out;obtain ⟨hcz148_0,hcz148_1,hcz148_2,hfz148_0,hfz148_1,hfz148_2⟩ := spec_AddFrac.cells3 BK191.out;obtain ⟨hcz149_0,hcz149_1,hcz149_2,hcz149_3,hfz149_0,hfz149_1,hfz149_2,hfz149_3⟩ := spec_AddFrac.cells4 BK182.out))
    refine bodyPost_ret (results_ct rfl _ _ gb182 30 #[.bool false,.int .u64 0,.int .u64 0,.int .i64 0] (0,0) _ rfl (by (with_reducible repeat (first | refine bA ?_ _ | refine bB ?_ | refine bC ?_ _));refine blk_put (cs := #[.bool false,.int .u64 0,.int .u64 0,.int .i64 0]) ?_ 3 _ rfl;(with_reducible repeat (first | refine bA ?_ _ | refine bB ?_ | refine bC ?_ _));refine blk_put (cs := #[.bool false,.int .u64 0,.int .u64 0,.int .i64 0]) ?_ 2 _ rfl;(with_reducible repeat (first | refine bA ?_ _ | refine bB ?_ | refine bC ?_ _));refine blk_put (cs := #[.bool false,.int .u64 0,.int .u64 0,.int .i64 0]) ?_ 1 _ rfl;(with_reducible repeat (first | refine bA ?_ _ | refine bB ?_ | refine bC ?_ _));refine blk_put (cs := #[.bool false,.int .u64 0,.int .u64 0,.int .i64 0]) ?_ 0 _ rfl;(with_reducible repeat (first | refine bA ?_ _ | refine bB ?_ | refine bC ?_ _));refine blk_far ?_ NB182_191.out _;(with_reducible repeat (first | refine bA ?_ _ | refine bB ?_ | refine bC ?_ _));refine blk_far ?_ NB182_191.out _;(with_reducible repeat (first | refine bA ?_ _ | refine bB ?_ | refine bC ?_ _));refine blk_far ?_ NB182_191.out _;(with_reducible repeat (first | refine bA ?_ _ | refine bB ?_ | refine bC ?_ _));refine blk_far ?_ NB182_190.out _;(with_reducible repeat (first | refine bA ?_ _ | refine bB ?_ | refine bC ?_ _));refine blk_far ?_ NB182_190.out _;(with_reducible repeat (first | refine bA ?_ _ | refine bB ?_ | refine bC ?_ _));refine blk_far ?_ NB182_190.out _;(with_reducible repeat (first | refine bA ?_ _ | refine bB ?_ | refine bC ?_ _));exact BK182.out) Try.underlying30 rfl Z569) rfl ?_
    exact ⟨Z558,Z408⟩

/-! ### spec_GainOf: function 9 -/
theorem spec_GainOf.cells4 {w : World} {g : Nat} {t : TypeId} {a0 a1 a2 a3 : Value} (h : w.heap[g]? = some (.cells #[a0,a1,a2,a3] t (0,0))) : w.cell? ⟨g,0,none⟩ = some a0 ∧ w.cell? ⟨g,1,none⟩ = some a1 ∧ w.cell? ⟨g,2,none⟩ = some a2 ∧ w.cell? ⟨g,3,none⟩ = some a3 ∧ w.frozen? ⟨g,0,none⟩ = false ∧ w.frozen? ⟨g,1,none⟩ = false ∧ w.frozen? ⟨g,2,none⟩ = false ∧ w.frozen? ⟨g,3,none⟩ = false := ⟨(blk_cell h 0).trans rfl,(blk_cell h 1).trans rfl,(blk_cell h 2).trans rfl,(blk_cell h 3).trans rfl,blk_frozen h 0,blk_frozen h 1,blk_frozen h 2,blk_frozen h 3⟩
theorem spec_GainOf.cells6 {w : World} {g : Nat} {t : TypeId} {a0 a1 a2 a3 a4 a5 : Value} (h : w.heap[g]? = some (.cells #[a0,a1,a2,a3,a4,a5] t (0,0))) : w.cell? ⟨g,0,none⟩ = some a0 ∧ w.cell? ⟨g,1,none⟩ = some a1 ∧ w.cell? ⟨g,2,none⟩ = some a2 ∧ w.cell? ⟨g,3,none⟩ = some a3 ∧ w.cell? ⟨g,4,none⟩ = some a4 ∧ w.cell? ⟨g,5,none⟩ = some a5 ∧ w.frozen? ⟨g,0,none⟩ = false ∧ w.frozen? ⟨g,1,none⟩ = false ∧ w.frozen? ⟨g,2,none⟩ = false ∧ w.frozen? ⟨g,3,none⟩ = false ∧ w.frozen? ⟨g,4,none⟩ = false ∧ w.frozen? ⟨g,5,none⟩ = false := ⟨(blk_cell h 0).trans rfl,(blk_cell h 1).trans rfl,(blk_cell h 2).trans rfl,(blk_cell h 3).trans rfl,(blk_cell h 4).trans rfl,(blk_cell h 5).trans rfl,blk_frozen h 0,blk_frozen h 1,blk_frozen h 2,blk_frozen h 3,blk_frozen h 4,blk_frozen h 5⟩
def spec_GainOf.f (k : Nat) (a0_0 : Int) (a0_1 : Int) (a0_2 : Int) (a0_3 : Int) (a0_4 : Int) (a0_5 : Int) (a1 : Int) : Option (Bool × Int × Int × Int × Bool) := (spec_PlainGain.f a0_2 a0_3 a1).bind fun bt201 => ((spec_PlainGain.f a0_4 a0_5 a1).bind fun bt207 => (if bt201.2.2.2.2 = true then (if bt207.2.2.2.2 = true then ((spec_AddFrac.f k bt201.1 bt201.2.1 bt201.2.2.1 bt201.2.2.2.1 bt207.1 bt207.2.1 bt207.2.2.1 bt207.2.2.2.1).bind fun bt213 => (some (bt213.1,bt213.2.1,bt213.2.2.1,bt213.2.2.2.1,bt213.2.2.2.2))) else (some (false,0,0,0,false))) else (some (false,0,0,0,false))))
theorem spec_GainOf.mono : ∀ a0 a1 a2 a3 a4 a5 a6 k,LeO (spec_GainOf.f k a0 a1 a2 a3 a4 a5 a6) (spec_GainOf.f (k + 1) a0 a1 a2 a3 a4 a5 a6) := by
  intro a0 a1 a2 a3 a4 a5 a6 k
  unfold spec_GainOf.f
  repeat' first
      | (with_reducible exact spec_AddFrac.mono _ _ _ _ _ _ _ _ _)
      | (with_reducible exact LeO.refl _)
      | (with_reducible exact LeO.none _)
      | (with_reducible refine LeO.ite ?_ ?_)
      | (with_reducible refine LeO.bind ?_ (fun _ => ?_))
      | exact spec_AddFrac.mono _ _ _ _ _ _ _ _ _
      | exact LeO.none _
      | refine LeO.ite ?_ ?_
      | refine LeO.bind ?_ (fun _ => ?_)
set_option maxHeartbeats 8000000 in
set_option maxRecDepth 100000 in
theorem spec_GainOf.calls (k : Nat) (a0_0 : Int) (a0_1 : Int) (a0_2 : Int) (a0_3 : Int) (a0_4 : Int) (a0_5 : Int) (a1 : Int) (r1 : Bool) (r2 : Int) (r3 : Int) (r4 : Int) (r5 : Bool) (w : World) (h : spec_GainOf.f k a0_0 a0_1 a0_2 a0_3 a0_4 a0_5 a1 = some (r1,r2,r3,r4,r5)) :
    Calls Try.prog 9 #[.agg #[.int .i64 a0_0,.int .i64 a0_1,.int .i64 a0_2,.int .i64 a0_3,.int .i64 a0_4,.int .i64 a0_5],.int .i64 a1] w fun e w' => e = .returned (.tuple #[.agg #[.bool r1,.int .u64 r2,.int .u64 r3,.int .i64 r4],.bool r5]) ∧ Below w.heap.size w w' := by
  have hu35 := Try.underlying35
  have hu30 := Try.underlying30
  have hu33 := Try.underlying33
  have HB := Aside0.mk (Below.refl w.heap.size w)
  have H : ((spec_PlainGain.f a0_2 a0_3 a1).bind fun bt201 => ((spec_PlainGain.f a0_4 a0_5 a1).bind fun bt207 => (if bt201.2.2.2.2 = true then (if bt207.2.2.2.2 = true then ((spec_AddFrac.f k bt201.1 bt201.2.1 bt201.2.2.1 bt201.2.2.2.1 bt207.1 bt207.2.1 bt207.2.2.1 bt207.2.2.2.1).bind fun bt213 => (some (bt213.1,bt213.2.1,bt213.2.2.1,bt213.2.2.2.1,bt213.2.2.2.2))) else (some (false,0,0,0,false))) else (some (false,0,0,0,false))))) = some (r1,r2,r3,r4,r5) := h
  clear h
  obtain ⟨⟨t201,t202,t203,t204,t205⟩,A30,H⟩ := Option.bind_eq_some_iff.mp H
  try dsimp only at H
  have A3 := Aside0.mk A30
  clear A30
  obtain ⟨⟨t207,t208,t209,t210,t211⟩,A40,H⟩ := Option.bind_eq_some_iff.mp H
  try dsimp only at H
  have A4 := Aside0.mk A40
  clear A40
  by_cases c5 : t205 = true
  · subst c5
    have H1 : (if t211 = true then ((spec_AddFrac.f k t201 t202 t203 t204 t207 t208 t209 t210).bind fun bt213 => (some (bt213.1,bt213.2.1,bt213.2.2.1,bt213.2.2.2.1,bt213.2.2.2.2))) else (some (false,0,0,0,false))) = some (r1,r2,r3,r4,r5) := by rw [if_pos rfl] at H;exact H
    clear H
    have H := H1
    clear H1
    by_cases c6 : t211 = true
    · subst c6
      have H1 : ((spec_AddFrac.f k t201 t202 t203 t204 t207 t208 t209 t210).bind fun bt213 => (some (bt213.1,bt213.2.1,bt213.2.2.1,bt213.2.2.2.1,bt213.2.2.2.2))) = some (r1,r2,r3,r4,r5) := by rw [if_pos rfl] at H;exact H
      clear H
      have H := H1
      clear H1
      obtain ⟨⟨t213,t214,t215,t216,t217⟩,A70,H⟩ := Option.bind_eq_some_iff.mp H
      try dsimp only at H
      have A7 := Aside0.mk A70
      clear A70
      simp only [Option.some.injEq,Prod.mk.injEq] at H
      obtain ⟨rfl,rfl,rfl,rfl,rfl⟩ := H
      go_enter Try.func9,Try.ntmps9
      go_wp2_with (first | ((with_reducible refine gate_dst (N := 2) rfl ?_);refine box_event ?hg (N := 2) ?hd (cs := #[.int .i64 a0_0,.int .i64 a0_1,.int .i64 a0_2,.int .i64 a0_3,.int .i64 a0_4,.int .i64 a0_5]) (t := 35) ?hr ?_;(case hd => rfl);(case hg => rfl);(case hr => exact Z566);intro gb199 hg w8 hbox hb;have n_ := jA (below_step Z483 hb) (jA (hbox) (jA ((Z366 : w.heap.size ≤ gb199)) (Aside0.mk ((Z366 : w.heap.size ≤ gb199)))));clear HB;obtain ⟨HB,BK199,GW199,GE199⟩ := n_;clear hb hbox hg) | ((with_reducible refine gate_dst (N := 4) rfl ?_);refine box_event ?hg (N := 4) ?hd (cs := #[.bool false,.int .u64 0,.int .u64 0,.int .i64 0]) (t := 30) ?hr ?_;(case hd => rfl);(case hg => rfl);(case hr => exact Z566);intro gb200 hg w9 hbox hb;have n_ := jA (blk_below (g := gb199) (o := .cells #[.int .i64 a0_0,.int .i64 a0_1,.int .i64 a0_2,.int .i64 a0_3,.int .i64 a0_4,.int .i64 a0_5] 35 (0,0)) Z506 hb) (jA (below_step Z463 hb) (jA (hbox) (jA ((Z341 : w.heap.size ≤ gb200)) (jA ((Z341 : w.heap.size ≤ gb200)) (jA ((Z156 : gb199 ≠ gb200)) (Aside0.mk ((Z158 : gb200 ≠ gb199))))))));clear BK199 HB;obtain ⟨BK199,HB,BK200,GW200,GE200,NB199_200,NB200_199⟩ := n_;clear hb hbox hg;have hnb10 := NB199_200.out;have hnc10 := NB200_199.out;obtain ⟨hcz11_0,hcz11_1,hcz11_2,hcz11_3,hcz11_4,hcz11_5,hfz11_0,hfz11_1,hfz11_2,hfz11_3,hfz11_4,hfz11_5⟩ := spec_GainOf.cells6 BK199.out) | ((with_reducible refine gate_callee (f := 22) rfl ?_);refine goesL_ (some 14) rfl rfl Try.func22 Z569 rfl #[.agg #[.int .i64 a0_2,.int .i64 a0_3],.int .i64 a1] rfl Z375 ?_;(with_reducible refine (spec_PlainGain.calls a0_2 a0_3 a1 t201 t202 t203 t204 true _ A3.out).mono ?_);rintro e w12 ⟨rfl,hb⟩;refine ⟨_,rfl,?_⟩;have n_ := jA (blk_below (g := gb199) (o := .cells #[.int .i64 a0_0,.int .i64 a0_1,.int .i64 a0_2,.int .i64 a0_3,.int .i64 a0_4,.int .i64 a0_5] 35 (0,0)) Z506 hb) (jA (blk_below (g := gb200) (o := .cells #[.bool false,.int .u64 0,.int .u64 0,.int .i64 0] 30 (0,0)) Z515 hb) (Aside0.mk (below_step Z437 hb)));clear BK199 BK200 HB;obtain ⟨BK199,BK200,HB⟩ := n_;(try clear hb);(try clear hb2);(try clear hk);(try clear hi)) | ((with_reducible refine gate_dst (N := 6) rfl ?_);refine box_event ?hg (N := 6) ?hd (cs := #[.bool false,.int .u64 0,.int .u64 0,.int .i64 0]) (t := 30) ?hr ?_;(case hd => rfl);(case hg => rfl);(case hr => exact Z566);intro gb206 hg w13 hbox hb;have n_ := jA (blk_below (g := gb199) (o := .cells #[.int .i64 a0_0,.int .i64 a0_1,.int .i64 a0_2,.int .i64 a0_3,.int .i64 a0_4,.int .i64 a0_5] 35 (0,0)) Z506 hb) (jA (blk_below (g := gb200) (o := .cells #[.bool false,.int .u64 0,.int .u64 0,.int .i64 0] 30 (0,0)) Z515 hb) (jA (below_step Z437 hb) (jA (hbox) (jA ((Z231 : w.heap.size ≤ gb206)) (jA ((Z231 : w.heap.size ≤ gb206)) (jA ((Z156 : gb199 ≠ gb206)) (jA ((Z158 : gb206 ≠ gb199)) (jA ((Z248 : gb200 ≠ gb206)) (Aside0.mk ((Z250 : gb206 ≠ gb200)))))))))));clear BK199 BK200 HB;obtain ⟨BK199,BK200,HB,BK206,GW206,GE206,NB199_206,NB206_199,NB200_206,NB206_200⟩ := n_;clear hb hbox hg;have hnb14 := NB206_199.out;have hnc14 := NB199_206.out;have hnb15 := NB206_200.out;have hnc15 := NB200_206.out;obtain ⟨hcz16_0,hcz16_1,hcz16_2,hcz16_3,hfz16_0,hfz16_1,hfz16_2,hfz16_3⟩ := spec_GainOf.cells4 BK206.out;obtain ⟨hcz17_0,hcz17_1,hcz17_2,hcz17_3,hcz17_4,hcz17_5,hfz17_0,hfz17_1,hfz17_2,hfz17_3,hfz17_4,hfz17_5⟩ := spec_GainOf.cells6 BK199.out) | ((with_reducible refine gate_callee (f := 22) rfl ?_);refine goesL_ (some 21) rfl rfl Try.func22 Z569 rfl #[.agg #[.int .i64 a0_4,.int .i64 a0_5],.int .i64 a1] rfl Z375 ?_;(with_reducible refine (spec_PlainGain.calls a0_4 a0_5 a1 t207 t208 t209 t210 true _ A4.out).mono ?_);rintro e w18 ⟨rfl,hb⟩;refine ⟨_,rfl,?_⟩;have n_ := jA (blk_below (g := gb199) (o := .cells #[.int .i64 a0_0,.int .i64 a0_1,.int .i64 a0_2,.int .i64 a0_3,.int .i64 a0_4,.int .i64 a0_5] 35 (0,0)) Z68 hb) (jA (blk_below (g := gb200) (o := .cells #[.bool false,.int .u64 0,.int .u64 0,.int .i64 0] 30 (0,0)) Z67 hb) (jA (blk_below (g := gb206) (o := .cells #[.bool t201,.int .u64 t202,.int .u64 t203,.int .i64 t204] 30 (0,0)) Z25 hb) (Aside0.mk (below_step Z425 hb))));clear BK199 BK200 BK206 HB;obtain ⟨BK199,BK200,BK206,HB⟩ := n_;(try clear hb);(try clear hb2);(try clear hk);(try clear hi)) | ((with_reducible refine gate_dst (N := 8) rfl ?_);refine box_event ?hg (N := 8) ?hd (cs := #[.bool false,.int .u64 0,.int .u64 0,.int .i64 0]) (t := 30) ?hr ?_;(case hd => rfl);(case hg => rfl);(case hr => exact Z566);intro gb212 hg w19 hbox hb;have n_ := jA (blk_below (g := gb199) (o := .cells #[.int .i64 a0_0,.int .i64 a0_1,.int .i64 a0_2,.int .i64 a0_3,.int .i64 a0_4,.int .i64 a0_5] 35 (0,0)) Z506 hb) (jA (blk_below (g := gb200) (o := .cells #[.bool false,.int .u64 0,.int .u64 0,.int .i64 0] 30 (0,0)) Z515 hb) (jA (blk_below (g := gb206) (o := .cells #[.bool t201,.int .u64 t202,.int .u64 t203,.int .i64 t204] 30 (0,0)) Z535 hb) (jA (below_step Z425 hb) (jA (hbox) (jA ((Z170 : w.heap.size ≤ gb212)) (jA ((Z170 : w.heap.size ≤ gb212)) (jA ((Z156 : gb199 ≠ gb212)) (jA ((Z158 : gb212 ≠ gb199)) (jA ((Z248 : gb200 ≠ gb212)) (jA ((Z250 : gb212 ≠ gb200)) (jA ((Z217 : gb206 ≠ gb212)) (Aside0.mk ((Z219 : gb212 ≠ gb206))))))))))))));clear BK199 BK200 BK206 HB;obtain ⟨BK199,BK200,BK206,HB,BK212,GW212,GE212,NB199_212,NB212_199,NB200_212,NB212_200,NB206_212,NB212_206⟩ := n_;clear hb hbox hg;have hnb20 := NB212_199.out;have hnc20 := NB199_212.out;have hnb21 := NB212_200.out;have hnc21 := NB200_212.out;have hnb22 := NB212_206.out;have hnc22 := NB206_212.out;obtain ⟨hcz23_0,hcz23_1,hcz23_2,hcz23_3,hfz23_0,hfz23_1,hfz23_2,hfz23_3⟩ := spec_GainOf.cells4 BK212.out;obtain ⟨hcz24_0,hcz24_1,hcz24_2,hcz24_3,hfz24_0,hfz24_1,hfz24_2,hfz24_3⟩ := spec_GainOf.cells4 BK206.out) | ((with_reducible refine gate_callee (f := 24) rfl ?_);refine goesL_ (some 33) rfl rfl Try.func24 Z569 rfl #[.agg #[.bool t201,.int .u64 t202,.int .u64 t203,.int .i64 t204],.agg #[.bool t207,.int .u64 t208,.int .u64 t209,.int .i64 t210]] rfl Z375 ?_;(with_reducible refine (spec_AddFrac.calls k t201 t202 t203 t204 t207 t208 t209 t210 t213 t214 t215 t216 t217 _ A7.out).mono ?_);rintro e w25 ⟨rfl,hb⟩;refine ⟨_,rfl,?_⟩;have n_ := jA (blk_below (g := gb199) (o := .cells #[.int .i64 a0_0,.int .i64 a0_1,.int .i64 a0_2,.int .i64 a0_3,.int .i64 a0_4,.int .i64 a0_5] 35 (0,0)) (by (with_reducible repeat (first | refine bA ?_ _ | refine bB ?_ | refine bC ?_ _));refine blk_far ?_ NB199_212.out _;(with_reducible repeat (first | refine bA ?_ _ | refine bB ?_ | refine bC ?_ _));refine blk_far ?_ NB199_212.out _;(with_reducible repeat (first | refine bA ?_ _ | refine bB ?_ | refine bC ?_ _));refine blk_far ?_ NB199_212.out _;(with_reducible repeat (first | refine bA ?_ _ | refine bB ?_ | refine bC ?_ _));refine blk_far ?_ NB199_212.out _;(with_reducible repeat (first | refine bA ?_ _ | refine bB ?_ | refine bC ?_ _));exact BK199.out) hb) (jA (blk_below (g := gb200) (o := .cells #[.bool false,.int .u64 0,.int .u64 0,.int .i64 0] 30 (0,0)) (by (with_reducible repeat (first | refine bA ?_ _ | refine bB ?_ | refine bC ?_ _));refine blk_far ?_ NB200_212.out _;(with_reducible repeat (first | refine bA ?_ _ | refine bB ?_ | refine bC ?_ _));refine blk_far ?_ NB200_212.out _;(with_reducible repeat (first | refine bA ?_ _ | refine bB ?_ | refine bC ?_ _));refine blk_far ?_ NB200_212.out _;(with_reducible repeat (first | refine bA ?_ _ | refine bB ?_ | refine bC ?_ _));refine blk_far ?_ NB200_212.out _;(with_reducible repeat (first | refine bA ?_ _ | refine bB ?_ | refine bC ?_ _));exact BK200.out) hb) (jA (blk_below (g := gb206) (o := .cells #[.bool t201,.int .u64 t202,.int .u64 t203,.int .i64 t204] 30 (0,0)) (by (with_reducible repeat (first | refine bA ?_ _ | refine bB ?_ | refine bC ?_ _));refine blk_far ?_ NB206_212.out _;(with_reducible repeat (first | refine bA ?_ _ | refine bB ?_ | refine bC ?_ _));refine blk_far ?_ NB206_212.out _;(with_reducible repeat (first | refine bA ?_ _ | refine bB ?_ | refine bC ?_ _));refine blk_far ?_ NB206_212.out _;(with_reducible repeat (first | refine bA ?_ _ | refine bB ?_ | refine bC ?_ _));refine blk_far ?_ NB206_212.out _;(with_reducible repeat (first | refine bA ?_ _ | refine bB ?_ | refine bC ?_ _));exact BK206.out) hb) (jA (blk_below (g := gb212) (o := .cells #[.bool t207,.int .u64 t208,.int .u64 t209,.int .i64 t210] 30 (0,0)) (by (with_reducible repeat (first | refine bA ?_ _ | refine bB ?_ | refine bC ?_ _));refine blk_put (cs := #[.bool t207,.int .u64 t208,.int .u64 t209,.int .i64 0]) ?_ 3 _ rfl;(with_reducible repeat (first | refine bA ?_ _ | refine bB ?_ | refine bC ?_ _));refine blk_put (cs := #[.bool t207,.int .u64 t208,.int .u64 0,.int .i64 0]) ?_ 2 _ rfl;(with_reducible repeat (first | refine bA ?_ _ | refine bB ?_ | refine bC ?_ _));refine blk_put (cs := #[.bool t207,.int .u64 0,.int .u64 0,.int .i64 0]) ?_ 1 _ rfl;(with_reducible repeat (first | refine bA ?_ _ | refine bB ?_ | refine bC ?_ _));refine blk_put (cs := #[.bool false,.int .u64 0,.int .u64 0,.int .i64 0]) ?_ 0 _ rfl;(with_reducible repeat (first | refine bA ?_ _ | refine bB ?_ | refine bC ?_ _));exact BK212.out) hb) (Aside0.mk (below_step Z173 hb)))));clear BK199 BK200 BK206 BK212 HB;obtain ⟨BK199,BK200,BK206,BK212,HB⟩ := n_;(try clear hb);(try clear hb2);(try clear hk);(try clear hi);obtain ⟨hcz26_0,hcz26_1,hcz26_2,hcz26_3,hfz26_0,hfz26_1,hfz26_2,hfz26_3⟩ := spec_GainOf.cells4 BK200.out))
      refine bodyPost_ret (results_ct rfl _ _ gb200 30 #[.bool t213,.int .u64 t214,.int .u64 t215,.int .i64 t216] (0,0) _ rfl (by (with_reducible repeat (first | refine bA ?_ _ | refine bB ?_ | refine bC ?_ _));refine blk_put (cs := #[.bool t213,.int .u64 t214,.int .u64 t215,.int .i64 0]) ?_ 3 _ rfl;(with_reducible repeat (first | refine bA ?_ _ | refine bB ?_ | refine bC ?_ _));refine blk_put (cs := #[.bool t213,.int .u64 t214,.int .u64 0,.int .i64 0]) ?_ 2 _ rfl;(with_reducible repeat (first | refine bA ?_ _ | refine bB ?_ | refine bC ?_ _));refine blk_put (cs := #[.bool t213,.int .u64 0,.int .u64 0,.int .i64 0]) ?_ 1 _ rfl;(with_reducible repeat (first | refine bA ?_ _ | refine bB ?_ | refine bC ?_ _));refine blk_put (cs := #[.bool false,.int .u64 0,.int .u64 0,.int .i64 0]) ?_ 0 _ rfl;(with_reducible repeat (first | refine bA ?_ _ | refine bB ?_ | refine bC ?_ _));exact BK200.out) Try.underlying30 rfl Z569) rfl ?_
      exact ⟨Z558,Z173⟩
    · replace c6 := Bool.eq_false_iff.mpr c6
      subst c6
      have H1 : (some (false,0,0,0,false)) = some (r1,r2,r3,r4,r5) := by rw [if_neg (show ¬ (false = true) by decide)] at H;exact H
      clear H
      have H := H1
      clear H1
      simp only [Option.some.injEq,Prod.mk.injEq] at H
      obtain ⟨rfl,rfl,rfl,rfl,rfl⟩ := H
      go_enter Try.func9,Try.ntmps9
      go_wp2_with (first | ((with_reducible refine gate_dst (N := 2) rfl ?_);refine box_event ?hg (N := 2) ?hd (cs := #[.int .i64 a0_0,.int .i64 a0_1,.int .i64 a0_2,.int .i64 a0_3,.int .i64 a0_4,.int .i64 a0_5]) (t := 35) ?hr ?_;(case hd => rfl);(case hg => rfl);(case hr => exact Z566);intro gb199 hg w27 hbox hb;have n_ := jA (below_step Z483 hb) (jA (hbox) (jA ((Z366 : w.heap.size ≤ gb199)) (Aside0.mk ((Z366 : w.heap.size ≤ gb199)))));clear HB;obtain ⟨HB,BK199,GW199,GE199⟩ := n_;clear hb hbox hg) | ((with_reducible refine gate_dst (N := 4) rfl ?_);refine box_event ?hg (N := 4) ?hd (cs := #[.bool false,.int .u64 0,.int .u64 0,.int .i64 0]) (t := 30) ?hr ?_;(case hd => rfl);(case hg => rfl);(case hr => exact Z566);intro gb200 hg w28 hbox hb;have n_ := jA (blk_below (g := gb199) (o := .cells #[.int .i64 a0_0,.int .i64 a0_1,.int .i64 a0_2,.int .i64 a0_3,.int .i64 a0_4,.int .i64 a0_5] 35 (0,0)) Z506 hb) (jA (below_step Z463 hb) (jA (hbox) (jA ((Z341 : w.heap.size ≤ gb200)) (jA ((Z341 : w.heap.size ≤ gb200)) (jA ((Z156 : gb199 ≠ gb200)) (Aside0.mk ((Z158 : gb200 ≠ gb199))))))));clear BK199 HB;obtain ⟨BK199,HB,BK200,GW200,GE200,NB199_200,NB200_199⟩ := n_;clear hb hbox hg;have hnb29 := NB199_200.out;have hnc29 := NB200_199.out;obtain ⟨hcz30_0,hcz30_1,hcz30_2,hcz30_3,hcz30_4,hcz30_5,hfz30_0,hfz30_1,hfz30_2,hfz30_3,hfz30_4,hfz30_5⟩ := spec_GainOf.cells6 BK199.out) | ((with_reducible refine gate_callee (f := 22) rfl ?_);refine goesL_ (some 14) rfl rfl Try.func22 Z569 rfl #[.agg #[.int .i64 a0_2,.int .i64 a0_3],.int .i64 a1] rfl Z375 ?_;(with_reducible refine (spec_PlainGain.calls a0_2 a0_3 a1 t201 t202 t203 t204 true _ A3.out).mono ?_);rintro e w31 ⟨rfl,hb⟩;refine ⟨_,rfl,?_⟩;have n_ := jA (blk_below (g := gb199) (o := .cells #[.int .i64 a0_0,.int .i64 a0_1,.int .i64 a0_2,.int .i64 a0_3,.int .i64 a0_4,.int .i64 a0_5] 35 (0,0)) Z506 hb) (jA (blk_below (g := gb200) (o := .cells #[.bool false,.int .u64 0,.int .u64 0,.int .i64 0] 30 (0,0)) Z515 hb) (Aside0.mk (below_step Z437 hb)));clear BK199 BK200 HB;obtain ⟨BK199,BK200,HB⟩ := n_;(try clear hb);(try clear hb2);(try clear hk);(try clear hi)) | ((with_reducible refine gate_dst (N := 6) rfl ?_);refine box_event ?hg (N := 6) ?hd (cs := #[.bool false,.int .u64 0,.int .u64 0,.int .i64 0]) (t := 30) ?hr ?_;(case hd => rfl);(case hg => rfl);(case hr => exact Z566);intro gb206 hg w32 hbox hb;have n_ := jA (blk_below (g := gb199) (o := .cells #[.int .i64 a0_0,.int .i64 a0_1,.int .i64 a0_2,.int .i64 a0_3,.int .i64 a0_4,.int .i64 a0_5] 35 (0,0)) Z506 hb) (jA (blk_below (g := gb200) (o := .cells #[.bool false,.int .u64 0,.int .u64 0,.int .i64 0] 30 (0,0)) Z515 hb) (jA (below_step Z437 hb) (jA (hbox) (jA ((Z231 : w.heap.size ≤ gb206)) (jA ((Z231 : w.heap.size ≤ gb206)) (jA ((Z156 : gb199 ≠ gb206)) (jA ((Z158 : gb206 ≠ gb199)) (jA ((Z248 : gb200 ≠ gb206)) (Aside0.mk ((Z250 : gb206 ≠ gb200)))))))))));clear BK199 BK200 HB;obtain ⟨BK199,BK200,HB,BK206,GW206,GE206,NB199_206,NB206_199,NB200_206,NB206_200⟩ := n_;clear hb hbox hg;have hnb33 := NB206_199.out;have hnc33 := NB199_206.out;have hnb34 := NB206_200.out;have hnc34 := NB200_206.out;obtain ⟨hcz35_0,hcz35_1,hcz35_2,hcz35_3,hfz35_0,hfz35_1,hfz35_2,hfz35_3⟩ := spec_GainOf.cells4 BK206.out;obtain ⟨hcz36_0,hcz36_1,hcz36_2,hcz36_3,hcz36_4,hcz36_5,hfz36_0,hfz36_1,hfz36_2,hfz36_3,hfz36_4,hfz36_5⟩ := spec_GainOf.cells6 BK199.out) | ((with_reducible refine gate_callee (f := 22) rfl ?_);refine goesL_ (some 21) rfl rfl Try.func22 Z569 rfl #[.agg #[.int .i64 a0_4,.int .i64 a0_5],.int .i64 a1] rfl Z375 ?_;(with_reducible refine (spec_PlainGain.calls a0_4 a0_5 a1 t207 t208 t209 t210 false _ A4.out).mono ?_);rintro e w37 ⟨rfl,hb⟩;refine ⟨_,rfl,?_⟩;have n_ := jA (blk_below (g := gb199) (o := .cells #[.int .i64 a0_0,.int .i64 a0_1,.int .i64 a0_2,.int .i64 a0_3,.int .i64 a0_4,.int .i64 a0_5] 35 (0,0)) Z68 hb) (jA (blk_below (g := gb200) (o := .cells #[.bool false,.int .u64 0,.int .u64 0,.int .i64 0] 30 (0,0)) Z67 hb) (jA (blk_below (g := gb206) (o := .cells #[.bool t201,.int .u64 t202,.int .u64 t203,.int .i64 t204] 30 (0,0)) Z25 hb) (Aside0.mk (below_step Z425 hb))));clear BK199 BK200 BK206 HB;obtain ⟨BK199,BK200,BK206,HB⟩ := n_;(try clear hb);(try clear hb2);(try clear hk);(try clear hi)) | ((with_reducible refine gate_dst (N := 8) rfl ?_);refine box_event ?hg (N := 8) ?hd (cs := #[.bool false,.int .u64 0,.int .u64 0,.int .i64 0]) (t := 30) ?hr ?_;(case hd => rfl);(case hg => rfl);(case hr => exact Z566);intro gb212 hg w38 hbox hb;have n_ := jA (blk_below (g := gb199) (o := .cells #[.int .i64 a0_0,.int .i64 a0_1,.int .i64 a0_2,.int .i64 a0_3,.int .i64 a0_4,.int .i64 a0_5] 35 (0,0)) Z506 hb) (jA (blk_below (g := gb200) (o := .cells #[.bool false,.int .u64 0,.int .u64 0,.int .i64 0] 30 (0,0)) Z515 hb) (jA (blk_below (g := gb206) (o := .cells #[.bool t201,.int .u64 t202,.int .u64 t203,.int .i64 t204] 30 (0,0)) Z535 hb) (jA (below_step Z425 hb) (jA (hbox) (jA ((Z170 : w.heap.size ≤ gb212)) (jA ((Z170 : w.heap.size ≤ gb212)) (jA ((Z156 : gb199 ≠ gb212)) (jA ((Z158 : gb212 ≠ gb199)) (jA ((Z248 : gb200 ≠ gb212)) (jA ((Z250 : gb212 ≠ gb200)) (jA ((Z217 : gb206 ≠ gb212)) (Aside0.mk ((Z219 : gb212 ≠ gb206))))))))))))));clear BK199 BK200 BK206 HB;obtain ⟨BK199,BK200,BK206,HB,BK212,GW212,GE212,NB199_212,NB212_199,NB200_212,NB212_200,NB206_212,NB212_206⟩ := n_;clear hb hbox hg;have hnb39 := NB212_199.out;have hnc39 := NB199_212.out;have hnb40 := NB212_200.out;have hnc40 := NB200_212.out;have hnb41 := NB212_206.out;have hnc41 := NB206_212.out;obtain ⟨hcz42_0,hcz42_1,hcz42_2,hcz42_3,hfz42_0,hfz42_1,hfz42_2,hfz42_3⟩ := spec_GainOf.cells4 BK212.out;obtain ⟨hcz43_0,hcz43_1,hcz43_2,hcz43_3,hfz43_0,hfz43_1,hfz43_2,hfz43_3⟩ := spec_GainOf.cells4 BK200.out))
      refine bodyPost_ret (results_ct rfl _ _ gb200 30 #[.bool false,.int .u64 0,.int .u64 0,.int .i64 0] (0,0) _ rfl Z2 Try.underlying30 rfl Z569) rfl ?_
      exact ⟨Z558,Z173⟩
  · replace c5 := Bool.eq_false_iff.mpr c5
    subst c5
    have H1 : (some (false,0,0,0,false)) = some (r1,r2,r3,r4,r5) := by rw [if_neg (show ¬ (false = true) by decide)] at H;exact H
    clear H
    have H := H1
    clear H1
    simp only [Option.some.injEq,Prod.mk.injEq] at H
    obtain ⟨rfl,rfl,rfl,rfl,rfl⟩ := H
    go_enter Try.func9,Try.ntmps9
    go_wp2_with (first | ((with_reducible refine gate_dst (N := 2) rfl ?_);refine box_event ?hg (N := 2) ?hd (cs := #[.int .i64 a0_0,.int .i64 a0_1,.int .i64 a0_2,.int .i64 a0_3,.int .i64 a0_4,.int .i64 a0_5]) (t := 35) ?hr ?_;(case hd => rfl);(case hg => rfl);(case hr => exact Z566);intro gb199 hg w44 hbox hb;have n_ := jA (below_step Z483 hb) (jA (hbox) (jA ((Z366 : w.heap.size ≤ gb199)) (Aside0.mk ((Z366 : w.heap.size ≤ gb199)))));clear HB;obtain ⟨HB,BK199,GW199,GE199⟩ := n_;clear hb hbox hg) | ((with_reducible refine gate_dst (N := 4) rfl ?_);refine box_event ?hg (N := 4) ?hd (cs := #[.bool false,.int .u64 0,.int .u64 0,.int .i64 0]) (t := 30) ?hr ?_;(case hd => rfl);(case hg => rfl);(case hr => exact Z566);intro gb200 hg w45 hbox hb;have n_ := jA (blk_below (g := gb199) (o := .cells #[.int .i64 a0_0,.int .i64 a0_1,.int .i64 a0_2,.int .i64 a0_3,.int .i64 a0_4,.int .i64 a0_5] 35 (0,0)) Z506 hb) (jA (below_step Z463 hb) (jA (hbox) (jA ((Z341 : w.heap.size ≤ gb200)) (jA ((Z341 : w.heap.size ≤ gb200)) (jA ((Z156 : gb199 ≠ gb200)) (Aside0.mk ((Z158 : gb200 ≠ gb199))))))));clear BK199 HB;obtain ⟨BK199,HB,BK200,GW200,GE200,NB199_200,NB200_199⟩ := n_;clear hb hbox hg;have hnb46 := NB199_200.out;have hnc46 := NB200_199.out;obtain ⟨hcz47_0,hcz47_1,hcz47_2,hcz47_3,hcz47_4,hcz47_5,hfz47_0,hfz47_1,hfz47_2,hfz47_3,hfz47_4,hfz47_5⟩ := spec_GainOf.cells6 BK199.out) | ((with_reducible refine gate_callee (f := 22) rfl ?_);refine goesL_ (some 14) rfl rfl Try.func22 Z569 rfl #[.agg #[.int .i64 a0_2,.int .i64 a0_3],.int .i64 a1] rfl Z375 ?_;(with_reducible refine (spec_PlainGain.calls a0_2 a0_3 a1 t201 t202 t203 t204 false _ A3.out).mono ?_);rintro e w48 ⟨rfl,hb⟩;refine ⟨_,rfl,?_⟩;have n_ := jA (blk_below (g := gb199) (o := .cells #[.int .i64 a0_0,.int .i64 a0_1,.int .i64 a0_2,.int .i64 a0_3,.int .i64 a0_4,.int .i64 a0_5] 35 (0,0)) Z506 hb) (jA (blk_below (g := gb200) (o := .cells #[.bool false,.int .u64 0,.int .u64 0,.int .i64 0] 30 (0,0)) Z515 hb) (Aside0.mk (below_step Z437 hb)));clear BK199 BK200 HB;obtain ⟨BK199,BK200,HB⟩ := n_;(try clear hb);(try clear hb2);(try clear hk);(try clear hi)) | ((with_reducible refine gate_dst (N := 6) rfl ?_);refine box_event ?hg (N := 6) ?hd (cs := #[.bool false,.int .u64 0,.int .u64 0,.int .i64 0]) (t := 30) ?hr ?_;(case hd => rfl);(case hg => rfl);(case hr => exact Z566);intro gb206 hg w49 hbox hb;have n_ := jA (blk_below (g := gb199) (o := .cells #[.int .i64 a0_0,.int .i64 a0_1,.int .i64 a0_2,.int .i64 a0_3,.int .i64 a0_4,.int .i64 a0_5] 35 (0,0)) Z506 hb) (jA (blk_below (g := gb200) (o := .cells #[.bool false,.int .u64 0,.int .u64 0,.int .i64 0] 30 (0,0)) Z515 hb) (jA (below_step Z437 hb) (jA (hbox) (jA ((Z231 : w.heap.size ≤ gb206)) (jA ((Z231 : w.heap.size ≤ gb206)) (jA ((Z156 : gb199 ≠ gb206)) (jA ((Z158 : gb206 ≠ gb199)) (jA ((Z248 : gb200 ≠ gb206)) (Aside0.mk ((Z250 : gb206 ≠ gb200)))))))))));clear BK199 BK200 HB;obtain ⟨BK199,BK200,HB,BK206,GW206,GE206,NB199_206,NB206_199,NB200_206,NB206_200⟩ := n_;clear hb hbox hg;have hnb50 := NB206_199.out;have hnc50 := NB199_206.out;have hnb51 := NB206_200.out;have hnc51 := NB200_206.out;obtain ⟨hcz52_0,hcz52_1,hcz52_2,hcz52_3,hfz52_0,hfz52_1,hfz52_2,hfz52_3⟩ := spec_GainOf.cells4 BK206.out;obtain ⟨hcz53_0,hcz53_1,hcz53_2,hcz53_3,hcz53_4,hcz53_5,hfz53_0,hfz53_1,hfz53_2,hfz53_3,hfz53_4,hfz53_5⟩ := spec_GainOf.cells6 BK199.out) | ((with_reducible refine gate_callee (f := 22) rfl ?_);refine goesL_ (some 21) rfl rfl Try.func22 Z569 rfl #[.agg #[.int .i64 a0_4,.int .i64 a0_5],.int .i64 a1] rfl Z375 ?_;(with_reducible refine (spec_PlainGain.calls a0_4 a0_5 a1 t207 t208 t209 t210 t211 _ A4.out).mono ?_);rintro e w54 ⟨rfl,hb⟩;refine ⟨_,rfl,?_⟩;have n_ := jA (blk_below (g := gb199) (o := .cells #[.int .i64 a0_0,.int .i64 a0_1,.int .i64 a0_2,.int .i64 a0_3,.int .i64 a0_4,.int .i64 a0_5] 35 (0,0)) Z68 hb) (jA (blk_below (g := gb200) (o := .cells #[.bool false,.int .u64 0,.int .u64 0,.int .i64 0] 30 (0,0)) Z67 hb) (jA (blk_below (g := gb206) (o := .cells #[.bool t201,.int .u64 t202,.int .u64 t203,.int .i64 t204] 30 (0,0)) Z25 hb) (Aside0.mk (below_step Z425 hb))));clear BK199 BK200 BK206 HB;obtain ⟨BK199,BK200,BK206,HB⟩ := n_;(try clear hb);(try clear hb2);(try clear hk);(try clear hi)) | ((with_reducible refine gate_dst (N := 8) rfl ?_);refine box_event ?hg (N := 8) ?hd (cs := #[.bool false,.int .u64 0,.int .u64 0,.int .i64 0]) (t := 30) ?hr ?_;(case hd => rfl);(case hg => rfl);(case hr => exact Z566);intro gb212 hg w55 hbox hb;have n_ := jA (blk_below (g := gb199) (o := .cells #[.int .i64 a0_0,.int .i64 a0_1,.int .i64 a0_2,.int .i64 a0_3,.int .i64 a0_4,.int .i64 a0_5] 35 (0,0)) Z506 hb) (jA (blk_below (g := gb200) (o := .cells #[.bool false,.int .u64 0,.int .u64 0,.int .i64 0] 30 (0,0)) Z515 hb) (jA (blk_below (g := gb206) (o := .cells #[.bool t201,.int .u64 t202,.int .u64 t203,.int .i64 t204] 30 (0,0)) Z535 hb) (jA (below_step Z425 hb) (jA (hbox) (jA ((Z170 : w.heap.size ≤ gb212)) (jA ((Z170 : w.heap.size ≤ gb212)) (jA ((Z156 : gb199 ≠ gb212)) (jA ((Z158 : gb212 ≠ gb199)) (jA ((Z248 : gb200 ≠ gb212)) (jA ((Z250 : gb212 ≠ gb200)) (jA ((Z217 : gb206 ≠ gb212)) (Aside0.mk ((Z219 : gb212 ≠ gb206))))))))))))));clear BK199 BK200 BK206 HB;obtain ⟨BK199,BK200,BK206,HB,BK212,GW212,GE212,NB199_212,NB212_199,NB200_212,NB212_200,NB206_212,NB212_206⟩ := n_;clear hb hbox hg;have hnb56 := NB212_199.out;have hnc56 := NB199_212.out;have hnb57 := NB212_200.out;have hnc57 := NB200_212.out;have hnb58 := NB212_206.out;have hnc58 := NB206_212.out;obtain ⟨hcz59_0,hcz59_1,hcz59_2,hcz59_3,hfz59_0,hfz59_1,hfz59_2,hfz59_3⟩ := spec_GainOf.cells4 BK212.out;obtain ⟨hcz60_0,hcz60_1,hcz60_2,hcz60_3,hfz60_0,hfz60_1,hfz60_2,hfz60_3⟩ := spec_GainOf.cells4 BK200.out))
    refine bodyPost_ret (results_ct rfl _ _ gb200 30 #[.bool false,.int .u64 0,.int .u64 0,.int .i64 0] (0,0) _ rfl Z2 Try.underlying30 rfl Z569) rfl ?_
    exact ⟨Z558,Z173⟩

/-! ### spec_CompareWide: function 53 -/
theorem spec_CompareWide.cells3 {w : World} {g : Nat} {t : TypeId} {a0 a1 a2 : Value} (h : w.heap[g]? = some (.cells #[a0,a1,a2] t (0,0))) : w.cell? ⟨g,0,none⟩ = some a0 ∧ w.cell? ⟨g,1,none⟩ = some a1 ∧ w.cell? ⟨g,2,none⟩ = some a2 ∧ w.frozen? ⟨g,0,none⟩ = false ∧ w.frozen? ⟨g,1,none⟩ = false ∧ w.frozen? ⟨g,2,none⟩ = false := ⟨(blk_cell h 0).trans rfl,(blk_cell h 1).trans rfl,(blk_cell h 2).trans rfl,blk_frozen h 0,blk_frozen h 1,blk_frozen h 2⟩
mutual
def spec_CompareWide.j0 : Nat → Bool → Bool → Int → Int → Bool → Int → Int → Option (Int)
  | 0,_,_,_,_,_,_,_ => none
  | k + 1,x5,x219000,x219001,x219002,x220000,x220001,x220002 => if x220000 = true then ((spec_l3Zero.f x220000 x220001 x220002).bind fun t221 => (spec_CompareWide.j1 k x5 (!t221) x219000 x219001 x219002 x220000 x220001 x220002)) else (spec_CompareWide.j1 k x5 false x219000 x219001 x219002 x220000 x220001 x220002)
def spec_CompareWide.j1 : Nat → Bool → Bool → Bool → Int → Int → Bool → Int → Int → Option (Int)
  | 0,_,_,_,_,_,_,_,_ => none
  | k + 1,x5,x6,x219000,x219001,x219002,x220000,x220001,x220002 => if x5 = true then (spec_CompareWide.j2 k x5 x6 (!x6) x219000 x219001 x219002 x220000 x220001 x220002) else (spec_CompareWide.j2 k x5 x6 false x219000 x219001 x219002 x220000 x220001 x220002)
def spec_CompareWide.j2 : Nat → Bool → Bool → Bool → Bool → Int → Int → Bool → Int → Int → Option (Int)
  | 0,_,_,_,_,_,_,_,_,_ => none
  | k + 1,x5,x6,x21,x219000,x219001,x219002,x220000,x220001,x220002 => if x21 = true then (some (-1)) else (if x6 = true then (spec_CompareWide.j3 k x5 (!x5) x219000 x219001 x219002 x220000 x220001 x220002) else (spec_CompareWide.j3 k x5 false x219000 x219001 x219002 x220000 x220001 x220002))
def spec_CompareWide.j3 : Nat → Bool → Bool → Bool → Int → Int → Bool → Int → Int → Option (Int)
  | 0,_,_,_,_,_,_,_,_ => none
  | k + 1,x5,x27,x219000,x219001,x219002,x220000,x220001,x220002 => if x27 = true then (some 1) else (if x5 = true then ((spec_l3Order.f k x220000 x220001 x220002 x219000 x219001 x219002).bind fun t222 => (some t222)) else ((spec_l3Order.f k x219000 x219001 x219002 x220000 x220001 x220002).bind fun t223 => (some t223)))
end
def spec_CompareWide.f (k : Nat) (a0_0 : Bool) (a0_1 : Int) (a0_2 : Int) (a1_0 : Bool) (a1_1 : Int) (a1_2 : Int) : Option (Int) := if a0_0 = true then ((spec_l3Zero.f a0_0 a0_1 a0_2).bind fun t220 => (spec_CompareWide.j0 k (!t220) a0_0 a0_1 a0_2 a1_0 a1_1 a1_2)) else (spec_CompareWide.j0 k false a0_0 a0_1 a0_2 a1_0 a1_1 a1_2)
theorem spec_CompareWide.mono_l : ∀ k,(∀ y0 y1 y2 y3 y4 y5 y6,LeO (spec_CompareWide.j0 k y0 y1 y2 y3 y4 y5 y6) (spec_CompareWide.j0 (k + 1) y0 y1 y2 y3 y4 y5 y6)) ∧ (∀ y0 y1 y2 y3 y4 y5 y6 y7,LeO (spec_CompareWide.j1 k y0 y1 y2 y3 y4 y5 y6 y7) (spec_CompareWide.j1 (k + 1) y0 y1 y2 y3 y4 y5 y6 y7)) ∧ (∀ y0 y1 y2 y3 y4 y5 y6 y7 y8,LeO (spec_CompareWide.j2 k y0 y1 y2 y3 y4 y5 y6 y7 y8) (spec_CompareWide.j2 (k + 1) y0 y1 y2 y3 y4 y5 y6 y7 y8)) ∧ (∀ y0 y1 y2 y3 y4 y5 y6 y7,LeO (spec_CompareWide.j3 k y0 y1 y2 y3 y4 y5 y6 y7) (spec_CompareWide.j3 (k + 1) y0 y1 y2 y3 y4 y5 y6 y7))
  | 0 => ⟨fun _ _ _ _ _ _ _ r h => by simp [spec_CompareWide.j0] at h,fun _ _ _ _ _ _ _ _ r h => by simp [spec_CompareWide.j1] at h,fun _ _ _ _ _ _ _ _ _ r h => by simp [spec_CompareWide.j2] at h,fun _ _ _ _ _ _ _ _ r h => by simp [spec_CompareWide.j3] at h⟩
  | k + 1 => by
    obtain ⟨ih0,ih1,ih2,ih3⟩ := spec_CompareWide.mono_l k
    refine ⟨?_,?_,?_,?_⟩
    · intro y0 y1 y2 y3 y4 y5 y6
      unfold spec_CompareWide.j0
      repeat' first
      | (with_reducible exact ih0 _ _ _ _ _ _ _)
      | (with_reducible exact ih1 _ _ _ _ _ _ _ _)
      | (with_reducible exact ih2 _ _ _ _ _ _ _ _ _)
      | (with_reducible exact ih3 _ _ _ _ _ _ _ _)
      | (with_reducible exact spec_l3Order.mono _ _ _ _ _ _ _)
      | (with_reducible exact LeO.refl _)
      | (with_reducible exact LeO.none _)
      | (with_reducible refine LeO.ite ?_ ?_)
      | (with_reducible refine LeO.bind ?_ (fun _ => ?_))
      | exact ih0 _ _ _ _ _ _ _
      | exact ih1 _ _ _ _ _ _ _ _
      | exact ih2 _ _ _ _ _ _ _ _ _
      | exact ih3 _ _ _ _ _ _ _ _
      | exact spec_l3Order.mono _ _ _ _ _ _ _
      | exact LeO.none _
      | refine LeO.ite ?_ ?_
      | refine LeO.bind ?_ (fun _ => ?_)
    · intro y0 y1 y2 y3 y4 y5 y6 y7
      unfold spec_CompareWide.j1
      repeat' first
      | (with_reducible exact ih0 _ _ _ _ _ _ _)
      | (with_reducible exact ih1 _ _ _ _ _ _ _ _)
      | (with_reducible exact ih2 _ _ _ _ _ _ _ _ _)
      | (with_reducible exact ih3 _ _ _ _ _ _ _ _)
      | (with_reducible exact spec_l3Order.mono _ _ _ _ _ _ _)
      | (with_reducible exact LeO.refl _)
      | (with_reducible exact LeO.none _)
      | (with_reducible refine LeO.ite ?_ ?_)
      | (with_reducible refine LeO.bind ?_ (fun _ => ?_))
      | exact ih0 _ _ _ _ _ _ _
      | exact ih1 _ _ _ _ _ _ _ _
      | exact ih2 _ _ _ _ _ _ _ _ _
      | exact ih3 _ _ _ _ _ _ _ _
      | exact spec_l3Order.mono _ _ _ _ _ _ _
      | exact LeO.none _
      | refine LeO.ite ?_ ?_
      | refine LeO.bind ?_ (fun _ => ?_)
    · intro y0 y1 y2 y3 y4 y5 y6 y7 y8
      unfold spec_CompareWide.j2
      repeat' first
      | (with_reducible exact ih0 _ _ _ _ _ _ _)
      | (with_reducible exact ih1 _ _ _ _ _ _ _ _)
      | (with_reducible exact ih2 _ _ _ _ _ _ _ _ _)
      | (with_reducible exact ih3 _ _ _ _ _ _ _ _)
      | (with_reducible exact spec_l3Order.mono _ _ _ _ _ _ _)
      | (with_reducible exact LeO.refl _)
      | (with_reducible exact LeO.none _)
      | (with_reducible refine LeO.ite ?_ ?_)
      | (with_reducible refine LeO.bind ?_ (fun _ => ?_))
      | exact ih0 _ _ _ _ _ _ _
      | exact ih1 _ _ _ _ _ _ _ _
      | exact ih2 _ _ _ _ _ _ _ _ _
      | exact ih3 _ _ _ _ _ _ _ _
      | exact spec_l3Order.mono _ _ _ _ _ _ _
      | exact LeO.none _
      | refine LeO.ite ?_ ?_
      | refine LeO.bind ?_ (fun _ => ?_)
    · intro y0 y1 y2 y3 y4 y5 y6 y7
      unfold spec_CompareWide.j3
      repeat' first
      | (with_reducible exact ih0 _ _ _ _ _ _ _)
      | (with_reducible exact ih1 _ _ _ _ _ _ _ _)
      | (with_reducible exact ih2 _ _ _ _ _ _ _ _ _)
      | (with_reducible exact ih3 _ _ _ _ _ _ _ _)
      | (with_reducible exact spec_l3Order.mono _ _ _ _ _ _ _)
      | (with_reducible exact LeO.refl _)
      | (with_reducible exact LeO.none _)
      | (with_reducible refine LeO.ite ?_ ?_)
      | (with_reducible refine LeO.bind ?_ (fun _ => ?_))
      | exact ih0 _ _ _ _ _ _ _
      | exact ih1 _ _ _ _ _ _ _ _
      | exact ih2 _ _ _ _ _ _ _ _ _
      | exact ih3 _ _ _ _ _ _ _ _
      | exact spec_l3Order.mono _ _ _ _ _ _ _
      | exact LeO.none _
      | refine LeO.ite ?_ ?_
      | refine LeO.bind ?_ (fun _ => ?_)
theorem spec_CompareWide.mono : ∀ a0 a1 a2 a3 a4 a5 k,LeO (spec_CompareWide.f k a0 a1 a2 a3 a4 a5) (spec_CompareWide.f (k + 1) a0 a1 a2 a3 a4 a5) := by
  intro a0 a1 a2 a3 a4 a5 k
  obtain ⟨ih0,ih1,ih2,ih3⟩ := spec_CompareWide.mono_l k
  unfold spec_CompareWide.f
  repeat' first
      | (with_reducible exact ih0 _ _ _ _ _ _ _)
      | (with_reducible exact ih1 _ _ _ _ _ _ _ _)
      | (with_reducible exact ih2 _ _ _ _ _ _ _ _ _)
      | (with_reducible exact ih3 _ _ _ _ _ _ _ _)
      | (with_reducible exact spec_l3Order.mono _ _ _ _ _ _ _)
      | (with_reducible exact LeO.refl _)
      | (with_reducible exact LeO.none _)
      | (with_reducible refine LeO.ite ?_ ?_)
      | (with_reducible refine LeO.bind ?_ (fun _ => ?_))
      | exact ih0 _ _ _ _ _ _ _
      | exact ih1 _ _ _ _ _ _ _ _
      | exact ih2 _ _ _ _ _ _ _ _ _
      | exact ih3 _ _ _ _ _ _ _ _
      | exact spec_l3Order.mono _ _ _ _ _ _ _
      | exact LeO.none _
      | refine LeO.ite ?_ ?_
      | refine LeO.bind ?_ (fun _ => ?_)
set_option maxHeartbeats 8000000 in
set_option maxRecDepth 100000 in
theorem spec_CompareWide.calls (k : Nat) (a0_0 : Bool) (a0_1 : Int) (a0_2 : Int) (a1_0 : Bool) (a1_1 : Int) (a1_2 : Int) (r : Int) (w : World) (h : spec_CompareWide.f k a0_0 a0_1 a0_2 a1_0 a1_1 a1_2 = some r) :
    Calls Try.prog 53 #[.agg #[.bool a0_0,.int .u64 a0_1,.int .u64 a0_2],.agg #[.bool a1_0,.int .u64 a1_1,.int .u64 a1_2]] w fun e w' => e = .returned (.int .i64 r) ∧ Below w.heap.size w w' := by
  have hu28 := Try.underlying28
  have HB := Aside0.mk (Below.refl w.heap.size w)
  have H : (if a0_0 = true then ((spec_l3Zero.f a0_0 a0_1 a0_2).bind fun t220 => (spec_CompareWide.j0 k (!t220) a0_0 a0_1 a0_2 a1_0 a1_1 a1_2)) else (spec_CompareWide.j0 k false a0_0 a0_1 a0_2 a1_0 a1_1 a1_2)) = some r := h
  clear h
  have HC3 := Aside0.mk H
  clear H
  go_enter Try.func53,Try.ntmps53
  go_upto_region 1 with (first | ((with_reducible refine gate_dst (N := 2) rfl ?_);refine box_event ?hg (N := 2) ?hd (cs := #[.bool a0_0,.int .u64 a0_1,.int .u64 a0_2]) (t := 28) ?hr ?_;(case hd => rfl);(case hg => rfl);(case hr => exact Z566);intro gb218 hg w4 hbox hb;have n_ := jA (below_step Z483 hb) (jA (hbox) (jA ((Z366 : w.heap.size ≤ gb218)) (Aside0.mk ((Z366 : w.heap.size ≤ gb218)))));clear HB;obtain ⟨HB,BK218,GW218,GE218⟩ := n_;clear hb hbox hg) | ((with_reducible refine gate_dst (N := 3) rfl ?_);refine box_event ?hg (N := 3) ?hd (cs := #[.bool a1_0,.int .u64 a1_1,.int .u64 a1_2]) (t := 28) ?hr ?_;(case hd => rfl);(case hg => rfl);(case hr => exact Z566);intro gb219 hg w5 hbox hb;have n_ := jA (blk_below (g := gb218) (o := .cells #[.bool a0_0,.int .u64 a0_1,.int .u64 a0_2] 28 (0,0)) Z395 hb) (jA (below_step Z477 hb) (jA (hbox) (jA ((Z358 : w.heap.size ≤ gb219)) (jA ((Z358 : w.heap.size ≤ gb219)) (jA ((by rw [hg];exact Nat.ne_of_lt (blk_lt (g := gb218) (o := .cells #[.bool a0_0,.int .u64 a0_1,.int .u64 a0_2] 28 (0,0)) Z395) : gb218 ≠ gb219)) (Aside0.mk ((by rw [hg];exact Nat.ne_of_gt (blk_lt (g := gb218) (o := .cells #[.bool a0_0,.int .u64 a0_1,.int .u64 a0_2] 28 (0,0)) Z395) : gb219 ≠ gb218))))))));clear BK218 HB;obtain ⟨BK218,HB,BK219,GW219,GE219,NB218_219,NB219_218⟩ := n_;clear hb hbox hg))
  (try simp only [Act.put,List.setIfInBounds_toArray,List.set_cons_zero,List.set_cons_succ])
  go_cut [5] (fun v5 wc => ∃ (kq : Nat) (x5_2 : Bool),v5 = .bool x5_2 ∧ Aside0 (spec_CompareWide.j0 kq x5_2 a0_0 a0_1 a0_2 a1_0 a1_1 a1_2 = some r) ∧ Aside0 (kq ≤ k) ∧ Aside0 (wc.heap[gb218]? = some (.cells #[.bool a0_0,.int .u64 a0_1,.int .u64 a0_2] 28 (0,0))) ∧ Aside0 (wc.heap[gb219]? = some (.cells #[.bool a1_0,.int .u64 a1_1,.int .u64 a1_2] 28 (0,0))) ∧ Aside0 (Below w.heap.size w wc))
  case first =>
    have H := HC3.out
    clear HC3
    by_cases c6 : a0_0 = true
    · subst c6
      have H1 : ((spec_l3Zero.f true a0_1 a0_2).bind fun t220 => (spec_CompareWide.j0 k (!t220) true a0_1 a0_2 a1_0 a1_1 a1_2)) = some r := by rw [if_pos rfl] at H;exact H
      clear H
      have H := H1
      clear H1
      obtain ⟨t220,A70,H⟩ := Option.bind_eq_some_iff.mp H
      have A7 := Aside0.mk A70
      clear A70
      have H' := Aside0.mk H
      clear H
      have hnb8 := NB218_219.out
      have hnc8 := NB219_218.out
      obtain ⟨hcz9_0,hcz9_1,hcz9_2,hfz9_0,hfz9_1,hfz9_2⟩ := spec_CompareWide.cells3 BK218.out
      go_wp2_with (first | (go_at_call 67;(with_reducible refine (spec_l3Zero.calls true a0_1 a0_2 t220 _ A7.out).mono ?_);rintro e w10 ⟨rfl,hb⟩;have n_ := jA (blk_below (g := gb218) (o := .cells #[.bool true,.int .u64 a0_1,.int .u64 a0_2] 28 (0,0)) Z395 hb) (jA (blk_below (g := gb219) (o := .cells #[.bool a1_0,.int .u64 a1_1,.int .u64 a1_2] 28 (0,0)) Z396 hb) (Aside0.mk (below_step Z330 hb)));clear BK218 BK219 HB;obtain ⟨BK218,BK219,HB⟩ := n_;(try clear hb);(try clear hb2);(try clear hk);(try clear hi)))
      go_meet
      case rel => exact ⟨_,(!t220),Z565,H',⟨Z567⟩,⟨Z395⟩,⟨Z396⟩,⟨Z330⟩⟩
    · replace c6 := Bool.eq_false_iff.mpr c6
      subst c6
      have H1 : (spec_CompareWide.j0 k false false a0_1 a0_2 a1_0 a1_1 a1_2) = some r := by rw [if_neg (show ¬ (false = true) by decide)] at H;exact H
      clear H
      have H := H1
      clear H1
      have H' := Aside0.mk H
      clear H
      have hnb11 := NB218_219.out
      have hnc11 := NB219_218.out
      obtain ⟨hcz12_0,hcz12_1,hcz12_2,hfz12_0,hfz12_1,hfz12_2⟩ := spec_CompareWide.cells3 BK218.out
      go_wp2
      go_meet
      case rel => exact ⟨_,(false),Z565,H',⟨Z567⟩,⟨Z395⟩,⟨Z396⟩,⟨Z330⟩⟩
  case rest =>
    clear HC3
    try clear c1
    try clear p2
    try clear c5
    try clear c6
    try clear c8
    try clear c11
    try clear hcz12_0
    try clear hcz12_1
    try clear hcz12_2
    try clear hcz9_0
    try clear hcz9_1
    try clear hcz9_2
    try clear hfz12_0
    try clear hfz12_1
    try clear hfz12_2
    try clear hfz9_0
    try clear hfz9_1
    try clear hfz9_2
    obtain ⟨kq,x5_2,rfl,HA,HJ2,BK218,BK219,HB⟩ := hcut
    cases kq with
    | zero => exact absurd HA.out (by simp [spec_CompareWide.j0])
    | succ kj2 =>
      have H := HA.out
      clear HA
      simp only [spec_CompareWide.j0] at H
      have HC13 := Aside0.mk H
      clear H
      go_upto_region 2 with (fail)
      go_cut [6] (fun v6 wc => ∃ (kq : Nat) (x6_12 : Bool),v6 = .bool x6_12 ∧ Aside0 (spec_CompareWide.j1 kq x5_2 x6_12 a0_0 a0_1 a0_2 a1_0 a1_1 a1_2 = some r) ∧ Aside0 (kq ≤ kj2) ∧ Aside0 (wc.heap[gb218]? = some (.cells #[.bool a0_0,.int .u64 a0_1,.int .u64 a0_2] 28 (0,0))) ∧ Aside0 (wc.heap[gb219]? = some (.cells #[.bool a1_0,.int .u64 a1_1,.int .u64 a1_2] 28 (0,0))) ∧ Aside0 (Below w.heap.size w wc))
      case first =>
        have H := HC13.out
        clear HC13
        by_cases c14 : a1_0 = true
        · subst c14
          have H1 : ((spec_l3Zero.f true a1_1 a1_2).bind fun t221 => (spec_CompareWide.j1 kj2 x5_2 (!t221) a0_0 a0_1 a0_2 true a1_1 a1_2)) = some r := by rw [if_pos rfl] at H;exact H
          clear H
          have H := H1
          clear H1
          obtain ⟨t221,A150,H⟩ := Option.bind_eq_some_iff.mp H
          have A15 := Aside0.mk A150
          clear A150
          have H' := Aside0.mk H
          clear H
          have hnb16 := NB219_218.out
          have hnc16 := NB218_219.out
          obtain ⟨hcz17_0,hcz17_1,hcz17_2,hfz17_0,hfz17_1,hfz17_2⟩ := spec_CompareWide.cells3 BK219.out
          go_wp2_with (first | (go_at_call 67;(with_reducible refine (spec_l3Zero.calls true a1_1 a1_2 t221 _ A15.out).mono ?_);rintro e w18 ⟨rfl,hb⟩;have n_ := jA (blk_below (g := gb218) (o := .cells #[.bool a0_0,.int .u64 a0_1,.int .u64 a0_2] 28 (0,0)) Z395 hb) (jA (blk_below (g := gb219) (o := .cells #[.bool true,.int .u64 a1_1,.int .u64 a1_2] 28 (0,0)) Z396 hb) (Aside0.mk (below_step Z330 hb)));clear BK218 BK219 HB;obtain ⟨BK218,BK219,HB⟩ := n_;(try clear hb);(try clear hb2);(try clear hk);(try clear hi)))
          go_meet
          case rel => exact ⟨_,(!t221),Z565,H',⟨Z562⟩,⟨Z395⟩,⟨Z396⟩,⟨Z330⟩⟩
        · replace c14 := Bool.eq_false_iff.mpr c14
          subst c14
          have H1 : (spec_CompareWide.j1 kj2 x5_2 false a0_0 a0_1 a0_2 false a1_1 a1_2) = some r := by rw [if_neg (show ¬ (false = true) by decide)] at H;exact H
          clear H
          have H := H1
          clear H1
          have H' := Aside0.mk H
          clear H
          have hnb19 := NB219_218.out
          have hnc19 := NB218_219.out
          obtain ⟨hcz20_0,hcz20_1,hcz20_2,hfz20_0,hfz20_1,hfz20_2⟩ := spec_CompareWide.cells3 BK219.out
          go_wp2
          go_meet
          case rel => exact ⟨_,(false),Z565,H',⟨Z562⟩,⟨Z395⟩,⟨Z396⟩,⟨Z330⟩⟩
      case rest =>
        clear HC13
        try clear c1
        try clear p2
        try clear c5
        try clear c6
        try clear c8
        try clear c11
        try clear c14
        try clear c16
        try clear c19
        try clear hcz12_0
        try clear hcz12_1
        try clear hcz12_2
        try clear hcz17_0
        try clear hcz17_1
        try clear hcz17_2
        try clear hcz20_0
        try clear hcz20_1
        try clear hcz20_2
        try clear hcz9_0
        try clear hcz9_1
        try clear hcz9_2
        try clear hfz12_0
        try clear hfz12_1
        try clear hfz12_2
        try clear hfz17_0
        try clear hfz17_1
        try clear hfz17_2
        try clear hfz20_0
        try clear hfz20_1
        try clear hfz20_2
        try clear hfz9_0
        try clear hfz9_1
        try clear hfz9_2
        try clear p2
        obtain ⟨kq,x6_12,rfl,HA,HJ12,BK218,BK219,HB⟩ := hcut
        cases kq with
        | zero => exact absurd HA.out (by simp [spec_CompareWide.j1])
        | succ kj12 =>
          have H := HA.out
          clear HA
          simp only [spec_CompareWide.j1] at H
          have HC21 := Aside0.mk H
          clear H
          go_upto_region 3 with (fail)
          go_cut [21] (fun v21 wc => ∃ (kq : Nat) (x21_20 : Bool),v21 = .bool x21_20 ∧ Aside0 (spec_CompareWide.j2 kq x5_2 x6_12 x21_20 a0_0 a0_1 a0_2 a1_0 a1_1 a1_2 = some r) ∧ Aside0 (kq ≤ kj12) ∧ Aside0 (wc.heap[gb218]? = some (.cells #[.bool a0_0,.int .u64 a0_1,.int .u64 a0_2] 28 (0,0))) ∧ Aside0 (wc.heap[gb219]? = some (.cells #[.bool a1_0,.int .u64 a1_1,.int .u64 a1_2] 28 (0,0))) ∧ Aside0 (Below w.heap.size w wc))
          case first =>
            have H := HC21.out
            clear HC21
            by_cases c22 : x5_2 = true
            · subst c22
              have H1 : (spec_CompareWide.j2 kj12 true x6_12 (!x6_12) a0_0 a0_1 a0_2 a1_0 a1_1 a1_2) = some r := by rw [if_pos rfl] at H;exact H
              clear H
              have H := H1
              clear H1
              have H' := Aside0.mk H
              clear H
              go_wp2
              go_meet
              case rel => exact ⟨_,(!x6_12),Z565,H',⟨Z560⟩,⟨Z395⟩,⟨Z396⟩,⟨Z330⟩⟩
            · replace c22 := Bool.eq_false_iff.mpr c22
              subst c22
              have H1 : (spec_CompareWide.j2 kj12 false x6_12 false a0_0 a0_1 a0_2 a1_0 a1_1 a1_2) = some r := by rw [if_neg (show ¬ (false = true) by decide)] at H;exact H
              clear H
              have H := H1
              clear H1
              have H' := Aside0.mk H
              clear H
              go_wp2
              go_meet
              case rel => exact ⟨_,(false),Z565,H',⟨Z560⟩,⟨Z395⟩,⟨Z396⟩,⟨Z330⟩⟩
          case rest =>
            clear HC21
            try clear c1
            try clear c2
            try clear p2
            try clear c5
            try clear c6
            try clear c8
            try clear c11
            try clear c14
            try clear c16
            try clear c19
            try clear c22
            try clear hcz12_0
            try clear hcz12_1
            try clear hcz12_2
            try clear hcz17_0
            try clear hcz17_1
            try clear hcz17_2
            try clear hcz20_0
            try clear hcz20_1
            try clear hcz20_2
            try clear hcz9_0
            try clear hcz9_1
            try clear hcz9_2
            try clear hfz12_0
            try clear hfz12_1
            try clear hfz12_2
            try clear hfz17_0
            try clear hfz17_1
            try clear hfz17_2
            try clear hfz20_0
            try clear hfz20_1
            try clear hfz20_2
            try clear hfz9_0
            try clear hfz9_1
            try clear hfz9_2
            try clear p2
            obtain ⟨kq,x21_20,rfl,HA,HJ20,BK218,BK219,HB⟩ := hcut
            cases kq with
            | zero => exact absurd HA.out (by simp [spec_CompareWide.j2])
            | succ kj20 =>
              have H := HA.out
              clear HA
              simp only [spec_CompareWide.j2] at H
              by_cases c23 : x21_20 = true
              · subst c23
                have H1 : (some (-1)) = some r := by rw [if_pos rfl] at H;exact H
                clear H
                have H := H1
                clear H1
                obtain rfl := Option.some.inj H
                go_wp2
                go_ret
                exact ⟨Z558,Z330⟩
              · replace c23 := Bool.eq_false_iff.mpr c23
                subst c23
                have H1 : (if x6_12 = true then (spec_CompareWide.j3 kj20 x5_2 (!x5_2) a0_0 a0_1 a0_2 a1_0 a1_1 a1_2) else (spec_CompareWide.j3 kj20 x5_2 false a0_0 a0_1 a0_2 a1_0 a1_1 a1_2)) = some r := by rw [if_neg (show ¬ (false = true) by decide)] at H;exact H
                clear H
                have H := H1
                clear H1
                have HC24 := Aside0.mk H
                clear H
                go_upto_region 5 with (fail)
                go_cut [27] (fun v27 wc => ∃ (kq : Nat) (x27_23 : Bool),v27 = .bool x27_23 ∧ Aside0 (spec_CompareWide.j3 kq x5_2 x27_23 a0_0 a0_1 a0_2 a1_0 a1_1 a1_2 = some r) ∧ Aside0 (kq ≤ kj20) ∧ Aside0 (wc.heap[gb218]? = some (.cells #[.bool a0_0,.int .u64 a0_1,.int .u64 a0_2] 28 (0,0))) ∧ Aside0 (wc.heap[gb219]? = some (.cells #[.bool a1_0,.int .u64 a1_1,.int .u64 a1_2] 28 (0,0))) ∧ Aside0 (Below w.heap.size w wc))
                case first =>
                  have H := HC24.out
                  clear HC24
                  by_cases c25 : x6_12 = true
                  · subst c25
                    have H1 : (spec_CompareWide.j3 kj20 x5_2 (!x5_2) a0_0 a0_1 a0_2 a1_0 a1_1 a1_2) = some r := by rw [if_pos rfl] at H;exact H
                    clear H
                    have H := H1
                    clear H1
                    have H' := Aside0.mk H
                    clear H
                    go_wp2
                    go_meet
                    case rel => exact ⟨_,(!x5_2),Z565,H',⟨Z559⟩,⟨Z395⟩,⟨Z396⟩,⟨Z330⟩⟩
                  · replace c25 := Bool.eq_false_iff.mpr c25
                    subst c25
                    have H1 : (spec_CompareWide.j3 kj20 x5_2 false a0_0 a0_1 a0_2 a1_0 a1_1 a1_2) = some r := by rw [if_neg (show ¬ (false = true) by decide)] at H;exact H
                    clear H
                    have H := H1
                    clear H1
                    have H' := Aside0.mk H
                    clear H
                    go_wp2
                    go_meet
                    case rel => exact ⟨_,(false),Z565,H',⟨Z559⟩,⟨Z395⟩,⟨Z396⟩,⟨Z330⟩⟩
                case rest =>
                  clear HC24
                  try clear c1
                  try clear c2
                  try clear p2
                  try clear c5
                  try clear c6
                  try clear c8
                  try clear c11
                  try clear c14
                  try clear c16
                  try clear c19
                  try clear c22
                  try clear c23
                  try clear c25
                  try clear hcz12_0
                  try clear hcz12_1
                  try clear hcz12_2
                  try clear hcz17_0
                  try clear hcz17_1
                  try clear hcz17_2
                  try clear hcz20_0
                  try clear hcz20_1
                  try clear hcz20_2
                  try clear hcz9_0
                  try clear hcz9_1
                  try clear hcz9_2
                  try clear hfz12_0
                  try clear hfz12_1
                  try clear hfz12_2
                  try clear hfz17_0
                  try clear hfz17_1
                  try clear hfz17_2
                  try clear hfz20_0
                  try clear hfz20_1
                  try clear hfz20_2
                  try clear hfz9_0
                  try clear hfz9_1
                  try clear hfz9_2
                  try clear p2
                  obtain ⟨kq,x27_23,rfl,HA,HJ23,BK218,BK219,HB⟩ := hcut
                  cases kq with
                  | zero => exact absurd HA.out (by simp [spec_CompareWide.j3])
                  | succ kj23 =>
                    have H := HA.out
                    clear HA
                    simp only [spec_CompareWide.j3] at H
                    by_cases c26 : x27_23 = true
                    · subst c26
                      have H1 : (some 1) = some r := by rw [if_pos rfl] at H;exact H
                      clear H
                      have H := H1
                      clear H1
                      obtain rfl := Option.some.inj H
                      go_wp2
                      go_ret
                      exact ⟨Z558,Z330⟩
                    · replace c26 := Bool.eq_false_iff.mpr c26
                      subst c26
                      have H1 : (if x5_2 = true then ((spec_l3Order.f kj23 a1_0 a1_1 a1_2 a0_0 a0_1 a0_2).bind fun t222 => (some t222)) else ((spec_l3Order.f kj23 a0_0 a0_1 a0_2 a1_0 a1_1 a1_2).bind fun t223 => (some t223))) = some r := by rw [if_neg (show ¬ (false = true) by decide)] at H;exact H
                      clear H
                      have H := H1
                      clear H1
                      by_cases c27 : x5_2 = true
                      · subst c27
                        have H1 : ((spec_l3Order.f kj23 a1_0 a1_1 a1_2 a0_0 a0_1 a0_2).bind fun t222 => (some t222)) = some r := by rw [if_pos rfl] at H;exact H
                        clear H
                        have H := H1
                        clear H1
                        obtain ⟨t222,A280,H⟩ := Option.bind_eq_some_iff.mp H
                        have A28 := Aside0.mk A280
                        clear A280
                        obtain rfl := Option.some.inj H
                        have hnb29 := NB219_218.out
                        have hnc29 := NB218_219.out
                        obtain ⟨hcz30_0,hcz30_1,hcz30_2,hfz30_0,hfz30_1,hfz30_2⟩ := spec_CompareWide.cells3 BK219.out
                        obtain ⟨hcz31_0,hcz31_1,hcz31_2,hfz31_0,hfz31_1,hfz31_2⟩ := spec_CompareWide.cells3 BK218.out
                        go_wp2_with (first | ((with_reducible refine gate_callee (f := 66) rfl ?_);refine goesL_ (some 37) rfl rfl Try.func66 Z569 rfl #[.agg #[.bool a1_0,.int .u64 a1_1,.int .u64 a1_2],.agg #[.bool a0_0,.int .u64 a0_1,.int .u64 a0_2]] rfl Z375 ?_;(with_reducible refine (spec_l3Order.calls kj23 a1_0 a1_1 a1_2 a0_0 a0_1 a0_2 t222 _ A28.out).mono ?_);rintro e w32 ⟨rfl,hb⟩;refine ⟨_,rfl,?_⟩;have n_ := jA (blk_below (g := gb218) (o := .cells #[.bool a0_0,.int .u64 a0_1,.int .u64 a0_2] 28 (0,0)) Z395 hb) (jA (blk_below (g := gb219) (o := .cells #[.bool a1_0,.int .u64 a1_1,.int .u64 a1_2] 28 (0,0)) Z396 hb) (Aside0.mk (below_step Z330 hb)));clear BK218 BK219 HB;obtain ⟨BK218,BK219,HB⟩ := n_;(try clear hb);(try clear hb2);(try clear hk);(try clear hi)))
                        go_ret
                        exact ⟨Z558,Z330⟩
                      · replace c27 := Bool.eq_false_iff.mpr c27
                        subst c27
                        have H1 : ((spec_l3Order.f kj23 a0_0 a0_1 a0_2 a1_0 a1_1 a1_2).bind fun t223 => (some t223)) = some r := by rw [if_neg (show ¬ (false = true) by decide)] at H;exact H
                        clear H
                        have H := H1
                        clear H1
                        obtain ⟨t223,A330,H⟩ := Option.bind_eq_some_iff.mp H
                        have A33 := Aside0.mk A330
                        clear A330
                        obtain rfl := Option.some.inj H
                        have hnb34 := NB218_219.out
                        have hnc34 := NB219_218.out
                        obtain ⟨hcz35_0,hcz35_1,hcz35_2,hfz35_0,hfz35_1,hfz35_2⟩ := spec_CompareWide.cells3 BK218.out
                        obtain ⟨hcz36_0,hcz36_1,hcz36_2,hfz36_0,hfz36_1,hfz36_2⟩ := spec_CompareWide.cells3 BK219.out
                        go_wp2_with (first | ((with_reducible refine gate_callee (f := 66) rfl ?_);refine goesL_ (some 40) rfl rfl Try.func66 Z569 rfl #[.agg #[.bool a0_0,.int .u64 a0_1,.int .u64 a0_2],.agg #[.bool a1_0,.int .u64 a1_1,.int .u64 a1_2]] rfl Z375 ?_;(with_reducible refine (spec_l3Order.calls kj23 a0_0 a0_1 a0_2 a1_0 a1_1 a1_2 t223 _ A33.out).mono ?_);rintro e w37 ⟨rfl,hb⟩;refine ⟨_,rfl,?_⟩;have n_ := jA (blk_below (g := gb218) (o := .cells #[.bool a0_0,.int .u64 a0_1,.int .u64 a0_2] 28 (0,0)) Z395 hb) (jA (blk_below (g := gb219) (o := .cells #[.bool a1_0,.int .u64 a1_1,.int .u64 a1_2] 28 (0,0)) Z396 hb) (Aside0.mk (below_step Z330 hb)));clear BK218 BK219 HB;obtain ⟨BK218,BK219,HB⟩ := n_;(try clear hb);(try clear hb2);(try clear hk);(try clear hi)))
                        go_ret
                        exact ⟨Z558,Z330⟩

/-! ### spec_CompareFrac: function 33 -/
theorem spec_CompareFrac.cells3 {w : World} {g : Nat} {t : TypeId} {a0 a1 a2 : Value} (h : w.heap[g]? = some (.cells #[a0,a1,a2] t (0,0))) : w.cell? ⟨g,0,none⟩ = some a0 ∧ w.cell? ⟨g,1,none⟩ = some a1 ∧ w.cell? ⟨g,2,none⟩ = some a2 ∧ w.frozen? ⟨g,0,none⟩ = false ∧ w.frozen? ⟨g,1,none⟩ = false ∧ w.frozen? ⟨g,2,none⟩ = false := ⟨(blk_cell h 0).trans rfl,(blk_cell h 1).trans rfl,(blk_cell h 2).trans rfl,blk_frozen h 0,blk_frozen h 1,blk_frozen h 2⟩
theorem spec_CompareFrac.cells4 {w : World} {g : Nat} {t : TypeId} {a0 a1 a2 a3 : Value} (h : w.heap[g]? = some (.cells #[a0,a1,a2,a3] t (0,0))) : w.cell? ⟨g,0,none⟩ = some a0 ∧ w.cell? ⟨g,1,none⟩ = some a1 ∧ w.cell? ⟨g,2,none⟩ = some a2 ∧ w.cell? ⟨g,3,none⟩ = some a3 ∧ w.frozen? ⟨g,0,none⟩ = false ∧ w.frozen? ⟨g,1,none⟩ = false ∧ w.frozen? ⟨g,2,none⟩ = false ∧ w.frozen? ⟨g,3,none⟩ = false := ⟨(blk_cell h 0).trans rfl,(blk_cell h 1).trans rfl,(blk_cell h 2).trans rfl,(blk_cell h 3).trans rfl,blk_frozen h 0,blk_frozen h 1,blk_frozen h 2,blk_frozen h 3⟩
def spec_CompareFrac.f (k : Nat) (a0_0 : Bool) (a0_1 : Int) (a0_2 : Int) (a0_3 : Int) (a1_0 : Bool) (a1_1 : Int) (a1_2 : Int) (a1_3 : Int) : Option (Int × Bool) := (spec_l5Cross.f k a0_0 a0_1 a0_2 a0_3 a1_0 a1_1 a1_2 a1_3).bind fun bt226 => (if bt226.2.2.2.2.2.2 = true then ((spec_CompareWide.f k bt226.1 bt226.2.1 bt226.2.2.1 bt226.2.2.2.1 bt226.2.2.2.2.1 bt226.2.2.2.2.2.1).bind fun t235 => (some (t235,true))) else (some (0,false)))
theorem spec_CompareFrac.mono : ∀ a0 a1 a2 a3 a4 a5 a6 a7 k,LeO (spec_CompareFrac.f k a0 a1 a2 a3 a4 a5 a6 a7) (spec_CompareFrac.f (k + 1) a0 a1 a2 a3 a4 a5 a6 a7) := by
  intro a0 a1 a2 a3 a4 a5 a6 a7 k
  unfold spec_CompareFrac.f
  repeat' first
      | (with_reducible exact spec_CompareWide.mono _ _ _ _ _ _ _)
      | (with_reducible exact spec_l5Cross.mono _ _ _ _ _ _ _ _ _)
      | (with_reducible exact LeO.refl _)
      | (with_reducible exact LeO.none _)
      | (with_reducible refine LeO.ite ?_ ?_)
      | (with_reducible refine LeO.bind ?_ (fun _ => ?_))
      | exact spec_CompareWide.mono _ _ _ _ _ _ _
      | exact spec_l5Cross.mono _ _ _ _ _ _ _ _ _
      | exact LeO.none _
      | refine LeO.ite ?_ ?_
      | refine LeO.bind ?_ (fun _ => ?_)
set_option maxHeartbeats 8000000 in
set_option maxRecDepth 100000 in
theorem spec_CompareFrac.calls (k : Nat) (a0_0 : Bool) (a0_1 : Int) (a0_2 : Int) (a0_3 : Int) (a1_0 : Bool) (a1_1 : Int) (a1_2 : Int) (a1_3 : Int) (r1 : Int) (r2 : Bool) (w : World) (h : spec_CompareFrac.f k a0_0 a0_1 a0_2 a0_3 a1_0 a1_1 a1_2 a1_3 = some (r1,r2)) :
    Calls Try.prog 33 #[.agg #[.bool a0_0,.int .u64 a0_1,.int .u64 a0_2,.int .i64 a0_3],.agg #[.bool a1_0,.int .u64 a1_1,.int .u64 a1_2,.int .i64 a1_3]] w fun e w' => e = .returned (.tuple #[.int .i64 r1,.bool r2]) ∧ Below w.heap.size w w' := by
  have hu30 := Try.underlying30
  have hu28 := Try.underlying28
  have HB := Aside0.mk (Below.refl w.heap.size w)
  have H : ((spec_l5Cross.f k a0_0 a0_1 a0_2 a0_3 a1_0 a1_1 a1_2 a1_3).bind fun bt226 => (if bt226.2.2.2.2.2.2 = true then ((spec_CompareWide.f k bt226.1 bt226.2.1 bt226.2.2.1 bt226.2.2.2.1 bt226.2.2.2.2.1 bt226.2.2.2.2.2.1).bind fun t235 => (some (t235,true))) else (some (0,false)))) = some (r1,r2) := h
  clear h
  obtain ⟨⟨t226,t227,t228,t229,t230,t231,t232⟩,A30,H⟩ := Option.bind_eq_some_iff.mp H
  try dsimp only at H
  have A3 := Aside0.mk A30
  clear A30
  by_cases c4 : t232 = true
  · subst c4
    have H1 : ((spec_CompareWide.f k t226 t227 t228 t229 t230 t231).bind fun t235 => (some (t235,true))) = some (r1,r2) := by rw [if_pos rfl] at H;exact H
    clear H
    have H := H1
    clear H1
    obtain ⟨t235,A50,H⟩ := Option.bind_eq_some_iff.mp H
    have A5 := Aside0.mk A50
    clear A50
    simp only [Option.some.injEq,Prod.mk.injEq] at H
    obtain ⟨rfl,rfl⟩ := H
    go_enter Try.func33,Try.ntmps33
    go_wp2_with (first | ((with_reducible refine gate_dst (N := 2) rfl ?_);refine box_event ?hg (N := 2) ?hd (cs := #[.bool a0_0,.int .u64 a0_1,.int .u64 a0_2,.int .i64 a0_3]) (t := 30) ?hr ?_;(case hd => rfl);(case hg => rfl);(case hr => exact Z566);intro gb224 hg w6 hbox hb;have n_ := jA (below_step Z483 hb) (jA (hbox) (jA ((Z366 : w.heap.size ≤ gb224)) (Aside0.mk ((Z366 : w.heap.size ≤ gb224)))));clear HB;obtain ⟨HB,BK224,GW224,GE224⟩ := n_;clear hb hbox hg) | ((with_reducible refine gate_dst (N := 3) rfl ?_);refine box_event ?hg (N := 3) ?hd (cs := #[.bool a1_0,.int .u64 a1_1,.int .u64 a1_2,.int .i64 a1_3]) (t := 30) ?hr ?_;(case hd => rfl);(case hg => rfl);(case hr => exact Z566);intro gb225 hg w7 hbox hb;have n_ := jA (blk_below (g := gb224) (o := .cells #[.bool a0_0,.int .u64 a0_1,.int .u64 a0_2,.int .i64 a0_3] 30 (0,0)) Z518 hb) (jA (below_step Z469 hb) (jA (hbox) (jA ((Z347 : w.heap.size ≤ gb225)) (jA ((Z347 : w.heap.size ≤ gb225)) (jA ((Z204 : gb224 ≠ gb225)) (Aside0.mk ((Z208 : gb225 ≠ gb224))))))));clear BK224 HB;obtain ⟨BK224,HB,BK225,GW225,GE225,NB224_225,NB225_224⟩ := n_;clear hb hbox hg;have hnb8 := NB224_225.out;have hnc8 := NB225_224.out;obtain ⟨hcz9_0,hcz9_1,hcz9_2,hcz9_3,hfz9_0,hfz9_1,hfz9_2,hfz9_3⟩ := spec_CompareFrac.cells4 BK224.out;obtain ⟨hcz10_0,hcz10_1,hcz10_2,hcz10_3,hfz10_0,hfz10_1,hfz10_2,hfz10_3⟩ := spec_CompareFrac.cells4 BK225.out) | ((with_reducible refine gate_callee (f := 45) rfl ?_);refine goesL_ (some 12) rfl rfl Try.func45 Z569 rfl #[.agg #[.bool a0_0,.int .u64 a0_1,.int .u64 a0_2,.int .i64 a0_3],.agg #[.bool a1_0,.int .u64 a1_1,.int .u64 a1_2,.int .i64 a1_3]] rfl Z375 ?_;(with_reducible refine (spec_l5Cross.calls k a0_0 a0_1 a0_2 a0_3 a1_0 a1_1 a1_2 a1_3 t226 t227 t228 t229 t230 t231 true _ A3.out).mono ?_);rintro e w11 ⟨rfl,hb⟩;refine ⟨_,rfl,?_⟩;have n_ := jA (blk_below (g := gb224) (o := .cells #[.bool a0_0,.int .u64 a0_1,.int .u64 a0_2,.int .i64 a0_3] 30 (0,0)) Z518 hb) (jA (blk_below (g := gb225) (o := .cells #[.bool a1_0,.int .u64 a1_1,.int .u64 a1_2,.int .i64 a1_3] 30 (0,0)) Z523 hb) (Aside0.mk (below_step Z439 hb)));clear BK224 BK225 HB;obtain ⟨BK224,BK225,HB⟩ := n_;(try clear hb);(try clear hb2);(try clear hk);(try clear hi)) | ((with_reducible refine gate_dst (N := 6) rfl ?_);refine box_event ?hg (N := 6) ?hd (cs := #[.bool false,.int .u64 0,.int .u64 0]) (t := 28) ?hr ?_;(case hd => rfl);(case hg => rfl);(case hr => exact Z566);intro gb233 hg w12 hbox hb;have n_ := jA (blk_below (g := gb224) (o := .cells #[.bool a0_0,.int .u64 a0_1,.int .u64 a0_2,.int .i64 a0_3] 30 (0,0)) Z518 hb) (jA (blk_below (g := gb225) (o := .cells #[.bool a1_0,.int .u64 a1_1,.int .u64 a1_2,.int .i64 a1_3] 30 (0,0)) Z523 hb) (jA (below_step Z439 hb) (jA (hbox) (jA ((Z235 : w.heap.size ≤ gb233)) (jA ((Z235 : w.heap.size ≤ gb233)) (jA ((Z204 : gb224 ≠ gb233)) (jA ((Z208 : gb233 ≠ gb224)) (jA ((Z213 : gb225 ≠ gb233)) (Aside0.mk ((Z215 : gb233 ≠ gb225)))))))))));clear BK224 BK225 HB;obtain ⟨BK224,BK225,HB,BK233,GW233,GE233,NB224_233,NB233_224,NB225_233,NB233_225⟩ := n_;clear hb hbox hg) | ((with_reducible refine gate_dst (N := 7) rfl ?_);refine box_event ?hg (N := 7) ?hd (cs := #[.bool false,.int .u64 0,.int .u64 0]) (t := 28) ?hr ?_;(case hd => rfl);(case hg => rfl);(case hr => exact Z566);intro gb234 hg w13 hbox hb;have n_ := jA (blk_below (g := gb224) (o := .cells #[.bool a0_0,.int .u64 a0_1,.int .u64 a0_2,.int .i64 a0_3] 30 (0,0)) Z518 hb) (jA (blk_below (g := gb225) (o := .cells #[.bool a1_0,.int .u64 a1_1,.int .u64 a1_2,.int .i64 a1_3] 30 (0,0)) Z523 hb) (jA (blk_below (g := gb233) (o := .cells #[.bool false,.int .u64 0,.int .u64 0] 28 (0,0)) Z544 hb) (jA (below_step Z429 hb) (jA (hbox) (jA ((Z176 : w.heap.size ≤ gb234)) (jA ((Z176 : w.heap.size ≤ gb234)) (jA ((Z204 : gb224 ≠ gb234)) (jA ((Z208 : gb234 ≠ gb224)) (jA ((Z213 : gb225 ≠ gb234)) (jA ((Z215 : gb234 ≠ gb225)) (jA ((Z305 : gb233 ≠ gb234)) (Aside0.mk ((Z308 : gb234 ≠ gb233))))))))))))));clear BK224 BK225 BK233 HB;obtain ⟨BK224,BK225,BK233,HB,BK234,GW234,GE234,NB224_234,NB234_224,NB225_234,NB234_225,NB233_234,NB234_233⟩ := n_;clear hb hbox hg;have hnb14 := NB233_224.out;have hnc14 := NB224_233.out;have hnb15 := NB233_225.out;have hnc15 := NB225_233.out;have hnb16 := NB233_234.out;have hnc16 := NB234_233.out;obtain ⟨hcz17_0,hcz17_1,hcz17_2,hfz17_0,hfz17_1,hfz17_2⟩ := spec_CompareFrac.cells3 BK233.out;have hnb18 := NB234_224.out;have hnc18 := NB224_234.out;have hnb19 := NB234_225.out;have hnc19 := NB225_234.out;obtain ⟨hcz20_0,hcz20_1,hcz20_2,hfz20_0,hfz20_1,hfz20_2⟩ := spec_CompareFrac.cells3 BK234.out) | ((with_reducible refine gate_callee (f := 53) rfl ?_);refine goesL_ (some 20) rfl rfl Try.func53 Z569 rfl #[.agg #[.bool t226,.int .u64 t227,.int .u64 t228],.agg #[.bool t229,.int .u64 t230,.int .u64 t231]] rfl Z375 ?_;(with_reducible refine (spec_CompareWide.calls k t226 t227 t228 t229 t230 t231 t235 _ A5.out).mono ?_);rintro e w21 ⟨rfl,hb⟩;refine ⟨_,rfl,?_⟩;have n_ := jA (blk_below (g := gb224) (o := .cells #[.bool a0_0,.int .u64 a0_1,.int .u64 a0_2,.int .i64 a0_3] 30 (0,0)) (by (with_reducible repeat (first | refine bA ?_ _ | refine bB ?_ | refine bC ?_ _));refine blk_far ?_ NB224_234.out _;(with_reducible repeat (first | refine bA ?_ _ | refine bB ?_ | refine bC ?_ _));refine blk_far ?_ NB224_234.out _;(with_reducible repeat (first | refine bA ?_ _ | refine bB ?_ | refine bC ?_ _));refine blk_far ?_ NB224_234.out _;(with_reducible repeat (first | refine bA ?_ _ | refine bB ?_ | refine bC ?_ _));refine blk_far ?_ NB224_233.out _;(with_reducible repeat (first | refine bA ?_ _ | refine bB ?_ | refine bC ?_ _));refine blk_far ?_ NB224_233.out _;(with_reducible repeat (first | refine bA ?_ _ | refine bB ?_ | refine bC ?_ _));refine blk_far ?_ NB224_233.out _;(with_reducible repeat (first | refine bA ?_ _ | refine bB ?_ | refine bC ?_ _));exact BK224.out) hb) (jA (blk_below (g := gb225) (o := .cells #[.bool a1_0,.int .u64 a1_1,.int .u64 a1_2,.int .i64 a1_3] 30 (0,0)) (by (with_reducible repeat (first | refine bA ?_ _ | refine bB ?_ | refine bC ?_ _));refine blk_far ?_ NB225_234.out _;(with_reducible repeat (first | refine bA ?_ _ | refine bB ?_ | refine bC ?_ _));refine blk_far ?_ NB225_234.out _;(with_reducible repeat (first | refine bA ?_ _ | refine bB ?_ | refine bC ?_ _));refine blk_far ?_ NB225_234.out _;(with_reducible repeat (first | refine bA ?_ _ | refine bB ?_ | refine bC ?_ _));refine blk_far ?_ NB225_233.out _;(with_reducible repeat (first | refine bA ?_ _ | refine bB ?_ | refine bC ?_ _));refine blk_far ?_ NB225_233.out _;(with_reducible repeat (first | refine bA ?_ _ | refine bB ?_ | refine bC ?_ _));refine blk_far ?_ NB225_233.out _;(with_reducible repeat (first | refine bA ?_ _ | refine bB ?_ | refine bC ?_ _));exact BK225.out) hb) (jA (blk_below (g := gb233) (o := .cells #[.bool t226,.int .u64 t227,.int .u64 t228] 28 (0,0)) (by (with_reducible repeat (first | refine bA ?_ _ | refine bB ?_ | refine bC ?_ _));refine blk_far ?_ NB233_234.out _;(with_reducible repeat (first | refine bA ?_ _ | refine bB ?_ | refine bC ?_ _));refine blk_far ?_ NB233_234.out _;(with_reducible repeat (first | refine bA ?_ _ | refine bB ?_ | refine bC ?_ _));refine blk_far ?_ NB233_234.out _;(with_reducible repeat (first | refine bA ?_ _ | refine bB ?_ | refine bC ?_ _));refine blk_put (cs := #[.bool t226,.int .u64 t227,.int .u64 0]) ?_ 2 _ rfl;(with_reducible repeat (first | refine bA ?_ _ | refine bB ?_ | refine bC ?_ _));refine blk_put (cs := #[.bool t226,.int .u64 0,.int .u64 0]) ?_ 1 _ rfl;(with_reducible repeat (first | refine bA ?_ _ | refine bB ?_ | refine bC ?_ _));refine blk_put (cs := #[.bool false,.int .u64 0,.int .u64 0]) ?_ 0 _ rfl;(with_reducible repeat (first | refine bA ?_ _ | refine bB ?_ | refine bC ?_ _));exact BK233.out) hb) (jA (blk_below (g := gb234) (o := .cells #[.bool t229,.int .u64 t230,.int .u64 t231] 28 (0,0)) (by (with_reducible repeat (first | refine bA ?_ _ | refine bB ?_ | refine bC ?_ _));refine blk_put (cs := #[.bool t229,.int .u64 t230,.int .u64 0]) ?_ 2 _ rfl;(with_reducible repeat (first | refine bA ?_ _ | refine bB ?_ | refine bC ?_ _));refine blk_put (cs := #[.bool t229,.int .u64 0,.int .u64 0]) ?_ 1 _ rfl;(with_reducible repeat (first | refine bA ?_ _ | refine bB ?_ | refine bC ?_ _));refine blk_put (cs := #[.bool false,.int .u64 0,.int .u64 0]) ?_ 0 _ rfl;(with_reducible repeat (first | refine bA ?_ _ | refine bB ?_ | refine bC ?_ _));refine blk_far ?_ NB234_233.out _;(with_reducible repeat (first | refine bA ?_ _ | refine bB ?_ | refine bC ?_ _));refine blk_far ?_ NB234_233.out _;(with_reducible repeat (first | refine bA ?_ _ | refine bB ?_ | refine bC ?_ _));refine blk_far ?_ NB234_233.out _;(with_reducible repeat (first | refine bA ?_ _ | refine bB ?_ | refine bC ?_ _));exact BK234.out) hb) (Aside0.mk (below_step Z178 hb)))));clear BK224 BK225 BK233 BK234 HB;obtain ⟨BK224,BK225,BK233,BK234,HB⟩ := n_;(try clear hb);(try clear hb2);(try clear hk);(try clear hi)))
    go_ret2
    exact ⟨Z558,Z178⟩
  · replace c4 := Bool.eq_false_iff.mpr c4
    subst c4
    have H1 : (some (0,false)) = some (r1,r2) := by rw [if_neg (show ¬ (false = true) by decide)] at H;exact H
    clear H
    have H := H1
    clear H1
    simp only [Option.some.injEq,Prod.mk.injEq] at H
    obtain ⟨rfl,rfl⟩ := H
    go_enter Try.func33,Try.ntmps33
    go_wp2_with (first | ((with_reducible refine gate_dst (N := 2) rfl ?_);refine box_event ?hg (N := 2) ?hd (cs := #[.bool a0_0,.int .u64 a0_1,.int .u64 a0_2,.int .i64 a0_3]) (t := 30) ?hr ?_;(case hd => rfl);(case hg => rfl);(case hr => exact Z566);intro gb224 hg w22 hbox hb;have n_ := jA (below_step Z483 hb) (jA (hbox) (jA ((Z366 : w.heap.size ≤ gb224)) (Aside0.mk ((Z366 : w.heap.size ≤ gb224)))));clear HB;obtain ⟨HB,BK224,GW224,GE224⟩ := n_;clear hb hbox hg) | ((with_reducible refine gate_dst (N := 3) rfl ?_);refine box_event ?hg (N := 3) ?hd (cs := #[.bool a1_0,.int .u64 a1_1,.int .u64 a1_2,.int .i64 a1_3]) (t := 30) ?hr ?_;(case hd => rfl);(case hg => rfl);(case hr => exact Z566);intro gb225 hg w23 hbox hb;have n_ := jA (blk_below (g := gb224) (o := .cells #[.bool a0_0,.int .u64 a0_1,.int .u64 a0_2,.int .i64 a0_3] 30 (0,0)) Z518 hb) (jA (below_step Z469 hb) (jA (hbox) (jA ((Z347 : w.heap.size ≤ gb225)) (jA ((Z347 : w.heap.size ≤ gb225)) (jA ((Z204 : gb224 ≠ gb225)) (Aside0.mk ((Z208 : gb225 ≠ gb224))))))));clear BK224 HB;obtain ⟨BK224,HB,BK225,GW225,GE225,NB224_225,NB225_224⟩ := n_;clear hb hbox hg;have hnb24 := NB224_225.out;have hnc24 := NB225_224.out;obtain ⟨hcz25_0,hcz25_1,hcz25_2,hcz25_3,hfz25_0,hfz25_1,hfz25_2,hfz25_3⟩ := spec_CompareFrac.cells4 BK224.out;obtain ⟨hcz26_0,hcz26_1,hcz26_2,hcz26_3,hfz26_0,hfz26_1,hfz26_2,hfz26_3⟩ := spec_CompareFrac.cells4 BK225.out) | ((with_reducible refine gate_callee (f := 45) rfl ?_);refine goesL_ (some 12) rfl rfl Try.func45 Z569 rfl #[.agg #[.bool a0_0,.int .u64 a0_1,.int .u64 a0_2,.int .i64 a0_3],.agg #[.bool a1_0,.int .u64 a1_1,.int .u64 a1_2,.int .i64 a1_3]] rfl Z375 ?_;(with_reducible refine (spec_l5Cross.calls k a0_0 a0_1 a0_2 a0_3 a1_0 a1_1 a1_2 a1_3 t226 t227 t228 t229 t230 t231 false _ A3.out).mono ?_);rintro e w27 ⟨rfl,hb⟩;refine ⟨_,rfl,?_⟩;have n_ := jA (blk_below (g := gb224) (o := .cells #[.bool a0_0,.int .u64 a0_1,.int .u64 a0_2,.int .i64 a0_3] 30 (0,0)) Z518 hb) (jA (blk_below (g := gb225) (o := .cells #[.bool a1_0,.int .u64 a1_1,.int .u64 a1_2,.int .i64 a1_3] 30 (0,0)) Z523 hb) (Aside0.mk (below_step Z439 hb)));clear BK224 BK225 HB;obtain ⟨BK224,BK225,HB⟩ := n_;(try clear hb);(try clear hb2);(try clear hk);(try clear hi)) | ((with_reducible refine gate_dst (N := 6) rfl ?_);refine box_event ?hg (N := 6) ?hd (cs := #[.bool false,.int .u64 0,.int .u64 0]) (t := 28) ?hr ?_;(case hd => rfl);(case hg => rfl);(case hr => exact Z566);intro gb233 hg w28 hbox hb;have n_ := jA (blk_below (g := gb224) (o := .cells #[.bool a0_0,.int .u64 a0_1,.int .u64 a0_2,.int .i64 a0_3] 30 (0,0)) Z518 hb) (jA (blk_below (g := gb225) (o := .cells #[.bool a1_0,.int .u64 a1_1,.int .u64 a1_2,.int .i64 a1_3] 30 (0,0)) Z523 hb) (jA (below_step Z439 hb) (jA (hbox) (jA ((Z235 : w.heap.size ≤ gb233)) (jA ((Z235 : w.heap.size ≤ gb233)) (jA ((Z204 : gb224 ≠ gb233)) (jA ((Z208 : gb233 ≠ gb224)) (jA ((Z213 : gb225 ≠ gb233)) (Aside0.mk ((Z215 : gb233 ≠ gb225)))))))))));clear BK224 BK225 HB;obtain ⟨BK224,BK225,HB,BK233,GW233,GE233,NB224_233,NB233_224,NB225_233,NB233_225⟩ := n_;clear hb hbox hg) | ((with_reducible refine gate_dst (N := 7) rfl ?_);refine box_event ?hg (N := 7) ?hd (cs := #[.bool false,.int .u64 0,.int .u64 0]) (t := 28) ?hr ?_;(case hd => rfl);(case hg => rfl);(case hr => exact Z566);intro gb234 hg w29 hbox hb;have n_ := jA (blk_below (g := gb224) (o := .cells #[.bool a0_0,.int .u64 a0_1,.int .u64 a0_2,.int .i64 a0_3] 30 (0,0)) Z518 hb) (jA (blk_below (g := gb225) (o := .cells #[.bool a1_0,.int .u64 a1_1,.int .u64 a1_2,.int .i64 a1_3] 30 (0,0)) Z523 hb) (jA (blk_below (g := gb233) (o := .cells #[.bool false,.int .u64 0,.int .u64 0] 28 (0,0)) Z544 hb) (jA (below_step Z429 hb) (jA (hbox) (jA ((Z176 : w.heap.size ≤ gb234)) (jA ((Z176 : w.heap.size ≤ gb234)) (jA ((Z204 : gb224 ≠ gb234)) (jA ((Z208 : gb234 ≠ gb224)) (jA ((Z213 : gb225 ≠ gb234)) (jA ((Z215 : gb234 ≠ gb225)) (jA ((Z305 : gb233 ≠ gb234)) (Aside0.mk ((Z308 : gb234 ≠ gb233))))))))))))));clear BK224 BK225 BK233 HB;obtain ⟨BK224,BK225,BK233,HB,BK234,GW234,GE234,NB224_234,NB234_224,NB225_234,NB234_225,NB233_234,NB234_233⟩ := n_;clear hb hbox hg;have hnb30 := NB233_224.out;have hnc30 := NB224_233.out;have hnb31 := NB233_225.out;have hnc31 := NB225_233.out;have hnb32 := NB233_234.out;have hnc32 := NB234_233.out;obtain ⟨hcz33_0,hcz33_1,hcz33_2,hfz33_0,hfz33_1,hfz33_2⟩ := spec_CompareFrac.cells3 BK233.out;have hnb34 := NB234_224.out;have hnc34 := NB224_234.out;have hnb35 := NB234_225.out;have hnc35 := NB225_234.out;obtain ⟨hcz36_0,hcz36_1,hcz36_2,hfz36_0,hfz36_1,hfz36_2⟩ := spec_CompareFrac.cells3 BK234.out))
    go_ret2
    exact ⟨Z558,Z178⟩

/-! ### spec_AddInt: function 75 -/
def spec_AddInt.f (a0 : Int) (a1 : Int) : Option (Int × Bool) := if a1 > 0 then (if a0 > (wrap64 (9223372036854775807 - a1)) then (some (0,false)) else (if a1 < 0 then (if a0 < (wrap64 ((-9223372036854775808) - a1)) then (some (0,false)) else (some (wrap64 (a0 + a1),true))) else (some (wrap64 (a0 + a1),true)))) else (if a1 < 0 then (if a0 < (wrap64 ((-9223372036854775808) - a1)) then (some (0,false)) else (some (wrap64 (a0 + a1),true))) else (some (wrap64 (a0 + a1),true)))
set_option maxHeartbeats 8000000 in
set_option maxRecDepth 100000 in
theorem spec_AddInt.calls (a0 : Int) (a1 : Int) (r1 : Int) (r2 : Bool) (w : World) (h : spec_AddInt.f a0 a1 = some (r1,r2)) :
    Calls Try.prog 75 #[.int .i64 a0,.int .i64 a1] w fun e w' => e = .returned (.tuple #[.int .i64 r1,.bool r2]) ∧ Drawn0 w w' := by
  have H : (if a1 > 0 then (if a0 > (wrap64 (9223372036854775807 - a1)) then (some (0,false)) else (if a1 < 0 then (if a0 < (wrap64 ((-9223372036854775808) - a1)) then (some (0,false)) else (some (wrap64 (a0 + a1),true))) else (some (wrap64 (a0 + a1),true)))) else (if a1 < 0 then (if a0 < (wrap64 ((-9223372036854775808) - a1)) then (some (0,false)) else (some (wrap64 (a0 + a1),true))) else (some (wrap64 (a0 + a1),true)))) = some (r1,r2) := h
  clear h
  by_cases c3 : a1 > 0
  · rw [if_pos c3] at H
    have c3b0 : decide (0 < a1) = true := decide_eq_true c3
    clear c3
    by_cases c4 : a0 > (wrap64 (9223372036854775807 - a1))
    · rw [if_pos c4] at H
      have c4b0 : decide ((wrap64 (9223372036854775807 - a1)) < a0) = true := decide_eq_true c4
      clear c4
      simp only [Option.some.injEq,Prod.mk.injEq] at H
      obtain ⟨rfl,rfl⟩ := H
      go_enter Try.func75,Try.ntmps75
      go_wp2
      go_ret2
      exact ⟨Z565,Z561⟩
    · rw [if_neg c4] at H
      have c4b0 : decide ((wrap64 (9223372036854775807 - a1)) < a0) = false := decide_eq_false c4
      clear c4
      by_cases c5 : a1 < 0
      · rw [if_pos c5] at H
        have c5b0 : decide (a1 < 0) = true := decide_eq_true c5
        clear c5
        by_cases c6 : a0 < (wrap64 ((-9223372036854775808) - a1))
        · rw [if_pos c6] at H
          have c6b0 : decide (a0 < (wrap64 ((-9223372036854775808) - a1))) = true := decide_eq_true c6
          clear c6
          simp only [Option.some.injEq,Prod.mk.injEq] at H
          obtain ⟨rfl,rfl⟩ := H
          go_enter Try.func75,Try.ntmps75
          go_wp2
          go_ret2
          exact ⟨Z565,Z561⟩
        · rw [if_neg c6] at H
          have c6b0 : decide (a0 < (wrap64 ((-9223372036854775808) - a1))) = false := decide_eq_false c6
          clear c6
          simp only [Option.some.injEq,Prod.mk.injEq] at H
          obtain ⟨rfl,rfl⟩ := H
          go_enter Try.func75,Try.ntmps75
          go_wp2
          go_ret2
          exact ⟨Z565,Z561⟩
      · rw [if_neg c5] at H
        have c5b0 : decide (a1 < 0) = false := decide_eq_false c5
        clear c5
        simp only [Option.some.injEq,Prod.mk.injEq] at H
        obtain ⟨rfl,rfl⟩ := H
        go_enter Try.func75,Try.ntmps75
        go_wp2
        go_ret2
        exact ⟨Z565,Z561⟩
  · rw [if_neg c3] at H
    have c3b0 : decide (0 < a1) = false := decide_eq_false c3
    clear c3
    by_cases c7 : a1 < 0
    · rw [if_pos c7] at H
      have c7b0 : decide (a1 < 0) = true := decide_eq_true c7
      clear c7
      by_cases c8 : a0 < (wrap64 ((-9223372036854775808) - a1))
      · rw [if_pos c8] at H
        have c8b0 : decide (a0 < (wrap64 ((-9223372036854775808) - a1))) = true := decide_eq_true c8
        clear c8
        simp only [Option.some.injEq,Prod.mk.injEq] at H
        obtain ⟨rfl,rfl⟩ := H
        go_enter Try.func75,Try.ntmps75
        go_wp2
        go_ret2
        exact ⟨Z565,Z561⟩
      · rw [if_neg c8] at H
        have c8b0 : decide (a0 < (wrap64 ((-9223372036854775808) - a1))) = false := decide_eq_false c8
        clear c8
        simp only [Option.some.injEq,Prod.mk.injEq] at H
        obtain ⟨rfl,rfl⟩ := H
        go_enter Try.func75,Try.ntmps75
        go_wp2
        go_ret2
        exact ⟨Z565,Z561⟩
    · rw [if_neg c7] at H
      have c7b0 : decide (a1 < 0) = false := decide_eq_false c7
      clear c7
      simp only [Option.some.injEq,Prod.mk.injEq] at H
      obtain ⟨rfl,rfl⟩ := H
      go_enter Try.func75,Try.ntmps75
      go_wp2
      go_ret2
      exact ⟨Z565,Z561⟩

end Go.Proofs.Ytjcjehnjbgklbaa.QFnExactImproves
