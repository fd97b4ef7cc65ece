/- The machine side of this seat's laws: what each Go function that they reach comes to. Conditions: none. -/
import Derived.Test.YtohngimlmcdiiaaQx0
import Derived.Test.YtohngimlmcdiiaaQx52
import Derived.Test.YtohngimlmcdiiaaQx54
import Derived.Test.YtohngimlmcdiiaaQx55
import Derived.Test.YtohngimlmcdiiaaQx56
namespace Go.Proofs.Ytohngimlmcdiiaa.Q
open Go.RowKit Go.Proofs.YtohngimlmcdiiaaW.PrintWords Go.Proofs.YtohngimlmcdiiaaW.PrintLast Go.Proofs.YtohngimlmcdiiaaW.PrintMore
attribute [local go_sem] max2_int min2_int max_two min_two max_three min_three max_four min_four   -- for this text's walks alone
set_option linter.unusedVariables false
set_option linter.unusedSimpArgs false

/-! ### laws_FnExactSameTable: function 12 -/
def laws_FnExactSameTable.f (k : Nat) (l0_0 : List ByteArray) (a0_1 : ByteArray) (l0_2 : List (List Int)) (l0_3 : List Int) (l1_0 : List ByteArray) (a1_1 : ByteArray) (l1_2 : List (List Int)) (l1_3 : List Int) : Option (Bool) := (laws_szTable.f k l0_0 a0_1 l0_2 l0_3 1048576).bind fun t1256 => (if t1256 < 0 then (some true) else ((laws_szTable.f k l1_0 a1_1 l1_2 l1_3 t1256).bind fun t1257 => (if t1257 < 0 then (some true) else ((laws_toTable.f k l0_0 a0_1 l0_2 l0_3).bind fun bt1258 => ((laws_toTable.f k l1_0 a1_1 l1_2 l1_3).bind fun bt1268 => ((spec_SameTable.f k bt1258.1 bt1258.2.1 bt1258.2.2.1 bt1258.2.2.2 bt1268.1 bt1268.2.1 bt1268.2.2.1 bt1268.2.2.2).bind fun t1278 => ((laws_toTable.f k l0_0 a0_1 l0_2 l0_3).bind fun bt1279 => ((laws_toTable.f k l1_0 a1_1 l1_2 l1_3).bind fun bt1290 => ((impl_SameTable.f k bt1279.1 bt1279.2.1 bt1279.2.2.1 bt1279.2.2.2 bt1290.1 bt1290.2.1 bt1290.2.2.1 bt1290.2.2.2).bind fun t1301 => (if (t1301 != t1278) = true then (some false) else ((laws_toTable.f k l0_0 a0_1 l0_2 l0_3).bind fun bt1302 => ((laws_eqTable.f k bt1279.1 bt1279.2.1 bt1279.2.2.1 bt1279.2.2.2 bt1302.1 bt1302.2.1 bt1302.2.2.1 bt1302.2.2.2).bind fun t1312 => (if t1312 = true then ((laws_toTable.f k l1_0 a1_1 l1_2 l1_3).bind fun bt1313 => ((laws_eqTable.f k bt1290.1 bt1290.2.1 bt1290.2.2.1 bt1290.2.2.2 bt1313.1 bt1313.2.1 bt1313.2.2.1 bt1313.2.2.2).bind fun t1323 => (if t1323 = true then (some true) else (some false)))) else (some false))))))))))))))
theorem laws_FnExactSameTable.mono : ∀ a0 a1 a2 a3 a4 a5 a6 a7 k, LeO (laws_FnExactSameTable.f k a0 a1 a2 a3 a4 a5 a6 a7) (laws_FnExactSameTable.f (k + 1) a0 a1 a2 a3 a4 a5 a6 a7) := by
  intro a0 a1 a2 a3 a4 a5 a6 a7 k
  unfold laws_FnExactSameTable.f
  repeat' first
      | (with_reducible exact impl_SameTable.mono _ _ _ _ _ _ _ _ _)
      | (with_reducible exact laws_eqTable.mono _ _ _ _ _ _ _ _ _)
      | (with_reducible exact laws_szTable.mono _ _ _ _ _ _)
      | (with_reducible exact laws_toTable.mono _ _ _ _ _)
      | (with_reducible exact spec_SameTable.mono _ _ _ _ _ _ _ _ _)
      | (with_reducible exact LeO.refl _)
      | (with_reducible exact LeO.none _)
      | (with_reducible refine LeO.ite ?_ ?_)
      | (with_reducible refine LeO.bind ?_ (fun _ => ?_))
      | exact impl_SameTable.mono _ _ _ _ _ _ _ _ _
      | exact laws_eqTable.mono _ _ _ _ _ _ _ _ _
      | exact laws_szTable.mono _ _ _ _ _ _
      | exact laws_toTable.mono _ _ _ _ _
      | exact spec_SameTable.mono _ _ _ _ _ _ _ _ _
      | exact LeO.none _
      | refine LeO.ite ?_ ?_
      | refine LeO.bind ?_ (fun _ => ?_)
set_option maxHeartbeats 8000000 in
set_option maxRecDepth 100000 in
theorem laws_FnExactSameTable.calls (k : Nat) (A0_0 : Option Addr) (c0_0 : Nat) (l0_0 : List ByteArray) (a0_1 : ByteArray) (A0_2 : Option Addr) (c0_2 : Nat) (l0_2 : List (List Int)) (A0_3 : Option Addr) (c0_3 : Nat) (l0_3 : List Int) (A1_0 : Option Addr) (c1_0 : Nat) (l1_0 : List ByteArray) (a1_1 : ByteArray) (A1_2 : Option Addr) (c1_2 : Nat) (l1_2 : List (List Int)) (A1_3 : Option Addr) (c1_3 : Nat) (l1_3 : List Int) (r : Bool) (w : World) (hr0_0 : Kd.C Kd.string w A0_0 l0_0.length l0_0) (hc0_0 : l0_0.length ≤ c0_0) (hr0_2 : Kd.C (Kd.slice 3 (Kd.int .i64)) w A0_2 l0_2.length l0_2) (hc0_2 : l0_2.length ≤ c0_2) (hr0_3 : Kd.C (Kd.int .i64) w A0_3 l0_3.length l0_3) (hc0_3 : l0_3.length ≤ c0_3) (hr1_0 : Kd.C Kd.string w A1_0 l1_0.length l1_0) (hc1_0 : l1_0.length ≤ c1_0) (hr1_2 : Kd.C (Kd.slice 3 (Kd.int .i64)) w A1_2 l1_2.length l1_2) (hc1_2 : l1_2.length ≤ c1_2) (hr1_3 : Kd.C (Kd.int .i64) w A1_3 l1_3.length l1_3) (hc1_3 : l1_3.length ≤ c1_3) (h : laws_FnExactSameTable.f k l0_0 a0_1 l0_2 l0_3 l1_0 a1_1 l1_2 l1_3 = some r) (hr_ : r = true) :
    Calls Try.prog 12 #[.agg #[.slice A0_0 l0_0.length c0_0, .string a0_1, .slice A0_2 l0_2.length c0_2, .slice A0_3 l0_3.length c0_3], .agg #[.slice A1_0 l1_0.length c1_0, .string a1_1, .slice A1_2 l1_2.length c1_2, .slice A1_3 l1_3.length c1_3]] w fun e w' => e = .returned (.bool r) ∧ Below w.heap.size w w' := by
  have HRT := Aside0.mk hr_
  clear hr_
  have hu90 := Try.underlying90
  have hu85 := Try.underlying85
  have HR0_0 := Aside0.mk hr0_0
  have HC0_0 := Aside0.mk hc0_0
  clear hr0_0 hc0_0
  have HR0_2 := Aside0.mk hr0_2
  have HC0_2 := Aside0.mk hc0_2
  clear hr0_2 hc0_2
  have HR0_3 := Aside0.mk hr0_3
  have HC0_3 := Aside0.mk hc0_3
  clear hr0_3 hc0_3
  have HR1_0 := Aside0.mk hr1_0
  have HC1_0 := Aside0.mk hc1_0
  clear hr1_0 hc1_0
  have HR1_2 := Aside0.mk hr1_2
  have HC1_2 := Aside0.mk hc1_2
  clear hr1_2 hc1_2
  have HR1_3 := Aside0.mk hr1_3
  have HC1_3 := Aside0.mk hc1_3
  clear hr1_3 hc1_3
  have HB := Aside0.mk (Below.refl w.heap.size w)
  have H : ((laws_szTable.f k l0_0 a0_1 l0_2 l0_3 1048576).bind fun t1256 => (if t1256 < 0 then (some true) else ((laws_szTable.f k l1_0 a1_1 l1_2 l1_3 t1256).bind fun t1257 => (if t1257 < 0 then (some true) else ((laws_toTable.f k l0_0 a0_1 l0_2 l0_3).bind fun bt1258 => ((laws_toTable.f k l1_0 a1_1 l1_2 l1_3).bind fun bt1268 => ((spec_SameTable.f k bt1258.1 bt1258.2.1 bt1258.2.2.1 bt1258.2.2.2 bt1268.1 bt1268.2.1 bt1268.2.2.1 bt1268.2.2.2).bind fun t1278 => ((laws_toTable.f k l0_0 a0_1 l0_2 l0_3).bind fun bt1279 => ((laws_toTable.f k l1_0 a1_1 l1_2 l1_3).bind fun bt1290 => ((impl_SameTable.f k bt1279.1 bt1279.2.1 bt1279.2.2.1 bt1279.2.2.2 bt1290.1 bt1290.2.1 bt1290.2.2.1 bt1290.2.2.2).bind fun t1301 => (if (t1301 != t1278) = true then (some false) else ((laws_toTable.f k l0_0 a0_1 l0_2 l0_3).bind fun bt1302 => ((laws_eqTable.f k bt1279.1 bt1279.2.1 bt1279.2.2.1 bt1279.2.2.2 bt1302.1 bt1302.2.1 bt1302.2.2.1 bt1302.2.2.2).bind fun t1312 => (if t1312 = true then ((laws_toTable.f k l1_0 a1_1 l1_2 l1_3).bind fun bt1313 => ((laws_eqTable.f k bt1290.1 bt1290.2.1 bt1290.2.2.1 bt1290.2.2.2 bt1313.1 bt1313.2.1 bt1313.2.2.1 bt1313.2.2.2).bind fun t1323 => (if t1323 = true then (some true) else (some false)))) else (some false))))))))))))))) = some r := h
  clear h
  replace H := Option.bind_eq_some_iff.mp H
  obtain ⟨t1256, A30, H⟩ := H
  replace H : (if t1256 < 0 then (some true) else ((laws_szTable.f k l1_0 a1_1 l1_2 l1_3 t1256).bind fun t1257 => (if t1257 < 0 then (some true) else ((laws_toTable.f k l0_0 a0_1 l0_2 l0_3).bind fun bt1258 => ((laws_toTable.f k l1_0 a1_1 l1_2 l1_3).bind fun bt1268 => ((spec_SameTable.f k bt1258.1 bt1258.2.1 bt1258.2.2.1 bt1258.2.2.2 bt1268.1 bt1268.2.1 bt1268.2.2.1 bt1268.2.2.2).bind fun t1278 => ((laws_toTable.f k l0_0 a0_1 l0_2 l0_3).bind fun bt1279 => ((laws_toTable.f k l1_0 a1_1 l1_2 l1_3).bind fun bt1290 => ((impl_SameTable.f k bt1279.1 bt1279.2.1 bt1279.2.2.1 bt1279.2.2.2 bt1290.1 bt1290.2.1 bt1290.2.2.1 bt1290.2.2.2).bind fun t1301 => (if (t1301 != t1278) = true then (some false) else ((laws_toTable.f k l0_0 a0_1 l0_2 l0_3).bind fun bt1302 => ((laws_eqTable.f k bt1279.1 bt1279.2.1 bt1279.2.2.1 bt1279.2.2.2 bt1302.1 bt1302.2.1 bt1302.2.2.1 bt1302.2.2.2).bind fun t1312 => (if t1312 = true then ((laws_toTable.f k l1_0 a1_1 l1_2 l1_3).bind fun bt1313 => ((laws_eqTable.f k bt1290.1 bt1290.2.1 bt1290.2.2.1 bt1290.2.2.2 bt1313.1 bt1313.2.1 bt1313.2.2.1 bt1313.2.2.2).bind fun t1323 => (if t1323 = true then (some true) else (some false)))) else (some false)))))))))))))) = some r := H
  have A3 := Aside0.mk A30
  clear A30
  by_cases c4 : t1256 < 0
  · rw [if_pos c4] at H
    have c4b0 : decide (t1256 < 0) = true := decide_eq_true c4
    clear c4
    obtain rfl := Option.some.inj H
    go_enter Try.func12, Try.ntmps12
    go_wp2_with (first | ((with_reducible refine gate_dst (N := 2) rfl ?_); refine box_event ?hg (N := 2) ?hd (cs := #[.slice A0_0 l0_0.length c0_0, .string a0_1, .slice A0_2 l0_2.length c0_2, .slice A0_3 l0_3.length c0_3]) (t := 90) ?hr ?_; (case hd => rfl); (case hg => rfl); (case hr => first | (go_simp; done) | (go_simp; rfl)); intro gb1254 hg w5 hbox hb; have n0_ := Aside0.mk (below_step (by repeat (first | (with_reducible first | exact HB.out | apply below_alloc | apply pw_below_drewN | apply below_drew1) | exact HB.out)) hb); have n1_ := Aside0.mk (hbox); have n2_ := Aside0.mk ((by rw [hg]; exact (below_size (by repeat (first | (with_reducible first | exact HB.out | apply below_alloc | apply pw_below_drewN | apply below_drew1) | exact HB.out))) : w.heap.size ≤ gb1254)); have n3_ := Aside0.mk ((by rw [hg]; exact (below_size (by repeat (first | (with_reducible first | exact HB.out | apply below_alloc | apply pw_below_drewN | apply below_drew1) | exact HB.out))) : w.heap.size ≤ gb1254)); clear HB; have HB := n0_; have BK1254 := n1_; have GW1254 := n2_; have GE1254 := n3_; clear n0_ n1_ n2_ n3_; clear hb hbox hg) | ((with_reducible refine gate_dst (N := 3) rfl ?_); refine box_event ?hg (N := 3) ?hd (cs := #[.slice A1_0 l1_0.length c1_0, .string a1_1, .slice A1_2 l1_2.length c1_2, .slice A1_3 l1_3.length c1_3]) (t := 90) ?hr ?_; (case hd => rfl); (case hg => rfl); (case hr => first | (go_simp; done) | (go_simp; rfl)); intro gb1255 hg w6 hbox hb; have n0_ := Aside0.mk (blk_below (g := gb1254) (o := .cells #[.slice A0_0 l0_0.length c0_0, .string a0_1, .slice A0_2 l0_2.length c0_2, .slice A0_3 l0_3.length c0_3] 90 (0, 0)) (by (with_reducible repeat (first | refine blk_drewN ?_ _ | refine blk_drew ?_ | refine blk_alloc ?_ _)); exact BK1254.out) hb); have n1_ := Aside0.mk (below_step (by repeat (first | (with_reducible first | exact HB.out | apply below_alloc | apply pw_below_drewN | apply below_drew1 | refine below_set ?_ GE1254.out) | exact HB.out)) hb); have n2_ := Aside0.mk (hbox); have n3_ := Aside0.mk ((by rw [hg]; exact (below_size (by repeat (first | (with_reducible first | exact HB.out | apply below_alloc | apply pw_below_drewN | apply below_drew1 | refine below_set ?_ GE1254.out) | exact HB.out))) : w.heap.size ≤ gb1255)); have n4_ := Aside0.mk ((by rw [hg]; exact (below_size (by repeat (first | (with_reducible first | exact HB.out | apply below_alloc | apply pw_below_drewN | apply below_drew1 | refine below_set ?_ GE1254.out) | exact HB.out))) : w.heap.size ≤ gb1255)); have n5_ := Aside0.mk ((by rw [hg]; exact Nat.ne_of_lt (blk_lt (g := gb1254) (o := .cells #[.slice A0_0 l0_0.length c0_0, .string a0_1, .slice A0_2 l0_2.length c0_2, .slice A0_3 l0_3.length c0_3] 90 (0, 0)) (by (with_reducible repeat (first | refine blk_drewN ?_ _ | refine blk_drew ?_ | refine blk_alloc ?_ _)); exact BK1254.out)) : gb1254 ≠ gb1255)); have n6_ := Aside0.mk ((by rw [hg]; exact Nat.ne_of_gt (blk_lt (g := gb1254) (o := .cells #[.slice A0_0 l0_0.length c0_0, .string a0_1, .slice A0_2 l0_2.length c0_2, .slice A0_3 l0_3.length c0_3] 90 (0, 0)) (by (with_reducible repeat (first | refine blk_drewN ?_ _ | refine blk_drew ?_ | refine blk_alloc ?_ _)); exact BK1254.out)) : gb1255 ≠ gb1254)); clear BK1254; clear HB; have BK1254 := n0_; have HB := n1_; have BK1255 := n2_; have GW1255 := n3_; have GE1255 := n4_; have NB1254_1255 := n5_; have NB1255_1254 := n6_; clear n0_ n1_ n2_ n3_ n4_ n5_ n6_; clear hb hbox hg; have hnb7 := NB1254_1255.out; have hnc7 := NB1255_1254.out; have hcz8_0 : w6.cell? ⟨gb1254, 0, none⟩ = some (.slice A0_0 l0_0.length c0_0) := (blk_cell BK1254.out 0).trans rfl; have hcz8_1 : w6.cell? ⟨gb1254, 1, none⟩ = some (.string a0_1) := (blk_cell BK1254.out 1).trans rfl; have hcz8_2 : w6.cell? ⟨gb1254, 2, none⟩ = some (.slice A0_2 l0_2.length c0_2) := (blk_cell BK1254.out 2).trans rfl; have hcz8_3 : w6.cell? ⟨gb1254, 3, none⟩ = some (.slice A0_3 l0_3.length c0_3) := (blk_cell BK1254.out 3).trans rfl; have hfz8_0 := blk_frozen BK1254.out 0; have hfz8_1 := blk_frozen BK1254.out 1; have hfz8_2 := blk_frozen BK1254.out 2; have hfz8_3 := blk_frozen BK1254.out 3) | ((with_reducible refine gate_callee (f := 59) rfl ?_); refine goesL_ (some 12) rfl rfl Try.func59 (by kernel_rfl) rfl #[.agg #[.slice A0_0 l0_0.length c0_0, .string a0_1, .slice A0_2 l0_2.length c0_2, .slice A0_3 l0_3.length c0_3], .int .i64 1048576] rfl (by (try simp only [List.map_toArray, List.map_cons, List.map_nil]); first | done | rfl | (simp only [List.length_drop, List.length_take]; rfl)) ?_; (with_reducible refine (laws_szTable.calls k _ _ l0_0 a0_1 _ _ l0_2 _ _ l0_3 1048576 t1256 _ ?side1 ?side2 ?side3 ?side4 ?side5 ?side6 A3.out).mono ?_); (case side1 => repeat (first | exact (Kd.C_below HR0_0.out HB.out) | (with_reducible refine Kd.C_alloc ?_ _) | (with_reducible refine Kd.C_drewN ?_ _) | (with_reducible refine Kd.C_drew ?_))); (case side2 => exact HC0_0.out); (case side3 => repeat (first | exact (Kd.C_below HR0_2.out HB.out) | (with_reducible refine Kd.C_alloc ?_ _) | (with_reducible refine Kd.C_drewN ?_ _) | (with_reducible refine Kd.C_drew ?_))); (case side4 => exact HC0_2.out); (case side5 => repeat (first | exact (Kd.C_below HR0_3.out HB.out) | (with_reducible refine Kd.C_alloc ?_ _) | (with_reducible refine Kd.C_drewN ?_ _) | (with_reducible refine Kd.C_drew ?_))); (case side6 => exact HC0_3.out); rintro e w9 ⟨rfl, hb⟩; refine ⟨_, rfl, ?_⟩; have n0_ := Aside0.mk (blk_below (g := gb1254) (o := .cells #[.slice A0_0 l0_0.length c0_0, .string a0_1, .slice A0_2 l0_2.length c0_2, .slice A0_3 l0_3.length c0_3] 90 (0, 0)) (by (with_reducible repeat (first | refine blk_drewN ?_ _ | refine blk_drew ?_ | refine blk_alloc ?_ _)); exact BK1254.out) hb); have n1_ := Aside0.mk (blk_below (g := gb1255) (o := .cells #[.slice A1_0 l1_0.length c1_0, .string a1_1, .slice A1_2 l1_2.length c1_2, .slice A1_3 l1_3.length c1_3] 90 (0, 0)) (by (with_reducible repeat (first | refine blk_drewN ?_ _ | refine blk_drew ?_ | refine blk_alloc ?_ _)); exact BK1255.out) hb); have n2_ := Aside0.mk (below_step (by repeat (first | (with_reducible first | exact HB.out | apply below_alloc | apply pw_below_drewN | apply below_drew1 | refine below_set ?_ GE1254.out | refine below_set ?_ GE1255.out) | exact HB.out)) hb); clear BK1254; clear BK1255; clear HB; have BK1254 := n0_; have BK1255 := n1_; have HB := n2_; clear n0_ n1_ n2_; (try clear hb); (try clear hb2); (try clear hk); (try clear hi)))
    go_ret
    exact ⟨by first | rfl | (simp [errW_none, errW_some] <;> rfl) | (simp [*, errW_none, errW_some] <;> rfl), by repeat (first | (with_reducible first | exact HB.out | apply below_alloc | apply pw_below_drewN | apply below_drew1 | refine below_set ?_ GE1254.out | refine below_set ?_ GE1255.out) | exact HB.out)⟩
  · rw [if_neg c4] at H
    have c4b0 : decide (t1256 < 0) = false := decide_eq_false c4
    clear c4
    replace H := Option.bind_eq_some_iff.mp H
    obtain ⟨t1257, A100, H⟩ := H
    replace H : (if t1257 < 0 then (some true) else ((laws_toTable.f k l0_0 a0_1 l0_2 l0_3).bind fun bt1258 => ((laws_toTable.f k l1_0 a1_1 l1_2 l1_3).bind fun bt1268 => ((spec_SameTable.f k bt1258.1 bt1258.2.1 bt1258.2.2.1 bt1258.2.2.2 bt1268.1 bt1268.2.1 bt1268.2.2.1 bt1268.2.2.2).bind fun t1278 => ((laws_toTable.f k l0_0 a0_1 l0_2 l0_3).bind fun bt1279 => ((laws_toTable.f k l1_0 a1_1 l1_2 l1_3).bind fun bt1290 => ((impl_SameTable.f k bt1279.1 bt1279.2.1 bt1279.2.2.1 bt1279.2.2.2 bt1290.1 bt1290.2.1 bt1290.2.2.1 bt1290.2.2.2).bind fun t1301 => (if (t1301 != t1278) = true then (some false) else ((laws_toTable.f k l0_0 a0_1 l0_2 l0_3).bind fun bt1302 => ((laws_eqTable.f k bt1279.1 bt1279.2.1 bt1279.2.2.1 bt1279.2.2.2 bt1302.1 bt1302.2.1 bt1302.2.2.1 bt1302.2.2.2).bind fun t1312 => (if t1312 = true then ((laws_toTable.f k l1_0 a1_1 l1_2 l1_3).bind fun bt1313 => ((laws_eqTable.f k bt1290.1 bt1290.2.1 bt1290.2.2.1 bt1290.2.2.2 bt1313.1 bt1313.2.1 bt1313.2.2.1 bt1313.2.2.2).bind fun t1323 => (if t1323 = true then (some true) else (some false)))) else (some false)))))))))))) = some r := H
    have A10 := Aside0.mk A100
    clear A100
    by_cases c11 : t1257 < 0
    · rw [if_pos c11] at H
      have c11b0 : decide (t1257 < 0) = true := decide_eq_true c11
      clear c11
      obtain rfl := Option.some.inj H
      go_enter Try.func12, Try.ntmps12
      go_wp2_with (first | ((with_reducible refine gate_dst (N := 2) rfl ?_); refine box_event ?hg (N := 2) ?hd (cs := #[.slice A0_0 l0_0.length c0_0, .string a0_1, .slice A0_2 l0_2.length c0_2, .slice A0_3 l0_3.length c0_3]) (t := 90) ?hr ?_; (case hd => rfl); (case hg => rfl); (case hr => first | (go_simp; done) | (go_simp; rfl)); intro gb1254 hg w12 hbox hb; have n0_ := Aside0.mk (below_step (by repeat (first | (with_reducible first | exact HB.out | apply below_alloc | apply pw_below_drewN | apply below_drew1) | exact HB.out)) hb); have n1_ := Aside0.mk (hbox); have n2_ := Aside0.mk ((by rw [hg]; exact (below_size (by repeat (first | (with_reducible first | exact HB.out | apply below_alloc | apply pw_below_drewN | apply below_drew1) | exact HB.out))) : w.heap.size ≤ gb1254)); have n3_ := Aside0.mk ((by rw [hg]; exact (below_size (by repeat (first | (with_reducible first | exact HB.out | apply below_alloc | apply pw_below_drewN | apply below_drew1) | exact HB.out))) : w.heap.size ≤ gb1254)); clear HB; have HB := n0_; have BK1254 := n1_; have GW1254 := n2_; have GE1254 := n3_; clear n0_ n1_ n2_ n3_; clear hb hbox hg) | ((with_reducible refine gate_dst (N := 3) rfl ?_); refine box_event ?hg (N := 3) ?hd (cs := #[.slice A1_0 l1_0.length c1_0, .string a1_1, .slice A1_2 l1_2.length c1_2, .slice A1_3 l1_3.length c1_3]) (t := 90) ?hr ?_; (case hd => rfl); (case hg => rfl); (case hr => first | (go_simp; done) | (go_simp; rfl)); intro gb1255 hg w13 hbox hb; have n0_ := Aside0.mk (blk_below (g := gb1254) (o := .cells #[.slice A0_0 l0_0.length c0_0, .string a0_1, .slice A0_2 l0_2.length c0_2, .slice A0_3 l0_3.length c0_3] 90 (0, 0)) (by (with_reducible repeat (first | refine blk_drewN ?_ _ | refine blk_drew ?_ | refine blk_alloc ?_ _)); exact BK1254.out) hb); have n1_ := Aside0.mk (below_step (by repeat (first | (with_reducible first | exact HB.out | apply below_alloc | apply pw_below_drewN | apply below_drew1 | refine below_set ?_ GE1254.out) | exact HB.out)) hb); have n2_ := Aside0.mk (hbox); have n3_ := Aside0.mk ((by rw [hg]; exact (below_size (by repeat (first | (with_reducible first | exact HB.out | apply below_alloc | apply pw_below_drewN | apply below_drew1 | refine below_set ?_ GE1254.out) | exact HB.out))) : w.heap.size ≤ gb1255)); have n4_ := Aside0.mk ((by rw [hg]; exact (below_size (by repeat (first | (with_reducible first | exact HB.out | apply below_alloc | apply pw_below_drewN | apply below_drew1 | refine below_set ?_ GE1254.out) | exact HB.out))) : w.heap.size ≤ gb1255)); have n5_ := Aside0.mk ((by rw [hg]; exact Nat.ne_of_lt (blk_lt (g := gb1254) (o := .cells #[.slice A0_0 l0_0.length c0_0, .string a0_1, .slice A0_2 l0_2.length c0_2, .slice A0_3 l0_3.length c0_3] 90 (0, 0)) (by (with_reducible repeat (first | refine blk_drewN ?_ _ | refine blk_drew ?_ | refine blk_alloc ?_ _)); exact BK1254.out)) : gb1254 ≠ gb1255)); have n6_ := Aside0.mk ((by rw [hg]; exact Nat.ne_of_gt (blk_lt (g := gb1254) (o := .cells #[.slice A0_0 l0_0.length c0_0, .string a0_1, .slice A0_2 l0_2.length c0_2, .slice A0_3 l0_3.length c0_3] 90 (0, 0)) (by (with_reducible repeat (first | refine blk_drewN ?_ _ | refine blk_drew ?_ | refine blk_alloc ?_ _)); exact BK1254.out)) : gb1255 ≠ gb1254)); clear BK1254; clear HB; have BK1254 := n0_; have HB := n1_; have BK1255 := n2_; have GW1255 := n3_; have GE1255 := n4_; have NB1254_1255 := n5_; have NB1255_1254 := n6_; clear n0_ n1_ n2_ n3_ n4_ n5_ n6_; clear hb hbox hg; have hnb14 := NB1254_1255.out; have hnc14 := NB1255_1254.out; have hcz15_0 : w13.cell? ⟨gb1254, 0, none⟩ = some (.slice A0_0 l0_0.length c0_0) := (blk_cell BK1254.out 0).trans rfl; have hcz15_1 : w13.cell? ⟨gb1254, 1, none⟩ = some (.string a0_1) := (blk_cell BK1254.out 1).trans rfl; have hcz15_2 : w13.cell? ⟨gb1254, 2, none⟩ = some (.slice A0_2 l0_2.length c0_2) := (blk_cell BK1254.out 2).trans rfl; have hcz15_3 : w13.cell? ⟨gb1254, 3, none⟩ = some (.slice A0_3 l0_3.length c0_3) := (blk_cell BK1254.out 3).trans rfl; have hfz15_0 := blk_frozen BK1254.out 0; have hfz15_1 := blk_frozen BK1254.out 1; have hfz15_2 := blk_frozen BK1254.out 2; have hfz15_3 := blk_frozen BK1254.out 3) | ((with_reducible refine gate_callee (f := 59) rfl ?_); refine goesL_ (some 12) rfl rfl Try.func59 (by kernel_rfl) rfl #[.agg #[.slice A0_0 l0_0.length c0_0, .string a0_1, .slice A0_2 l0_2.length c0_2, .slice A0_3 l0_3.length c0_3], .int .i64 1048576] rfl (by (try simp only [List.map_toArray, List.map_cons, List.map_nil]); first | done | rfl | (simp only [List.length_drop, List.length_take]; rfl)) ?_; (with_reducible refine (laws_szTable.calls k _ _ l0_0 a0_1 _ _ l0_2 _ _ l0_3 1048576 t1256 _ ?side1 ?side2 ?side3 ?side4 ?side5 ?side6 A3.out).mono ?_); (case side1 => repeat (first | exact (Kd.C_below HR0_0.out HB.out) | (with_reducible refine Kd.C_alloc ?_ _) | (with_reducible refine Kd.C_drewN ?_ _) | (with_reducible refine Kd.C_drew ?_))); (case side2 => exact HC0_0.out); (case side3 => repeat (first | exact (Kd.C_below HR0_2.out HB.out) | (with_reducible refine Kd.C_alloc ?_ _) | (with_reducible refine Kd.C_drewN ?_ _) | (with_reducible refine Kd.C_drew ?_))); (case side4 => exact HC0_2.out); (case side5 => repeat (first | exact (Kd.C_below HR0_3.out HB.out) | (with_reducible refine Kd.C_alloc ?_ _) | (with_reducible refine Kd.C_drewN ?_ _) | (with_reducible refine Kd.C_drew ?_))); (case side6 => exact HC0_3.out); rintro e w16 ⟨rfl, hb⟩; refine ⟨_, rfl, ?_⟩; have n0_ := Aside0.mk (blk_below (g := gb1254) (o := .cells #[.slice A0_0 l0_0.length c0_0, .string a0_1, .slice A0_2 l0_2.length c0_2, .slice A0_3 l0_3.length c0_3] 90 (0, 0)) (by (with_reducible repeat (first | refine blk_drewN ?_ _ | refine blk_drew ?_ | refine blk_alloc ?_ _)); exact BK1254.out) hb); have n1_ := Aside0.mk (blk_below (g := gb1255) (o := .cells #[.slice A1_0 l1_0.length c1_0, .string a1_1, .slice A1_2 l1_2.length c1_2, .slice A1_3 l1_3.length c1_3] 90 (0, 0)) (by (with_reducible repeat (first | refine blk_drewN ?_ _ | refine blk_drew ?_ | refine blk_alloc ?_ _)); exact BK1255.out) hb); have n2_ := Aside0.mk (below_step (by repeat (first | (with_reducible first | exact HB.out | apply below_alloc | apply pw_below_drewN | apply below_drew1 | refine below_set ?_ GE1254.out | refine below_set ?_ GE1255.out) | exact HB.out)) hb); clear BK1254; clear BK1255; clear HB; have BK1254 := n0_; have BK1255 := n1_; have HB := n2_; clear n0_ n1_ n2_; (try clear hb); (try clear hb2); (try clear hk); (try clear hi); have hcz17_0 : w16.cell? ⟨gb1255, 0, none⟩ = some (.slice A1_0 l1_0.length c1_0) := (blk_cell BK1255.out 0).trans rfl; have hcz17_1 : w16.cell? ⟨gb1255, 1, none⟩ = some (.string a1_1) := (blk_cell BK1255.out 1).trans rfl; have hcz17_2 : w16.cell? ⟨gb1255, 2, none⟩ = some (.slice A1_2 l1_2.length c1_2) := (blk_cell BK1255.out 2).trans rfl; have hcz17_3 : w16.cell? ⟨gb1255, 3, none⟩ = some (.slice A1_3 l1_3.length c1_3) := (blk_cell BK1255.out 3).trans rfl; have hfz17_0 := blk_frozen BK1255.out 0; have hfz17_1 := blk_frozen BK1255.out 1; have hfz17_2 := blk_frozen BK1255.out 2; have hfz17_3 := blk_frozen BK1255.out 3) | ((with_reducible refine gate_callee (f := 59) rfl ?_); refine goesL_ (some 17) rfl rfl Try.func59 (by kernel_rfl) rfl #[.agg #[.slice A1_0 l1_0.length c1_0, .string a1_1, .slice A1_2 l1_2.length c1_2, .slice A1_3 l1_3.length c1_3], .int .i64 t1256] rfl (by (try simp only [List.map_toArray, List.map_cons, List.map_nil]); first | done | rfl | (simp only [List.length_drop, List.length_take]; rfl)) ?_; (with_reducible refine (laws_szTable.calls k _ _ l1_0 a1_1 _ _ l1_2 _ _ l1_3 t1256 t1257 _ ?side1 ?side2 ?side3 ?side4 ?side5 ?side6 A10.out).mono ?_); (case side1 => repeat (first | exact (Kd.C_below HR1_0.out HB.out) | (with_reducible refine Kd.C_alloc ?_ _) | (with_reducible refine Kd.C_drewN ?_ _) | (with_reducible refine Kd.C_drew ?_))); (case side2 => exact HC1_0.out); (case side3 => repeat (first | exact (Kd.C_below HR1_2.out HB.out) | (with_reducible refine Kd.C_alloc ?_ _) | (with_reducible refine Kd.C_drewN ?_ _) | (with_reducible refine Kd.C_drew ?_))); (case side4 => exact HC1_2.out); (case side5 => repeat (first | exact (Kd.C_below HR1_3.out HB.out) | (with_reducible refine Kd.C_alloc ?_ _) | (with_reducible refine Kd.C_drewN ?_ _) | (with_reducible refine Kd.C_drew ?_))); (case side6 => exact HC1_3.out); rintro e w18 ⟨rfl, hb⟩; refine ⟨_, rfl, ?_⟩; have n0_ := Aside0.mk (blk_below (g := gb1254) (o := .cells #[.slice A0_0 l0_0.length c0_0, .string a0_1, .slice A0_2 l0_2.length c0_2, .slice A0_3 l0_3.length c0_3] 90 (0, 0)) (by (with_reducible repeat (first | refine blk_drewN ?_ _ | refine blk_drew ?_ | refine blk_alloc ?_ _)); exact BK1254.out) hb); have n1_ := Aside0.mk (blk_below (g := gb1255) (o := .cells #[.slice A1_0 l1_0.length c1_0, .string a1_1, .slice A1_2 l1_2.length c1_2, .slice A1_3 l1_3.length c1_3] 90 (0, 0)) (by (with_reducible repeat (first | refine blk_drewN ?_ _ | refine blk_drew ?_ | refine blk_alloc ?_ _)); exact BK1255.out) hb); have n2_ := Aside0.mk (below_step (by repeat (first | (with_reducible first | exact HB.out | apply below_alloc | apply pw_below_drewN | apply below_drew1 | refine below_set ?_ GE1254.out | refine below_set ?_ GE1255.out) | exact HB.out)) hb); clear BK1254; clear BK1255; clear HB; have BK1254 := n0_; have BK1255 := n1_; have HB := n2_; clear n0_ n1_ n2_; (try clear hb); (try clear hb2); (try clear hk); (try clear hi)))
      go_ret
      exact ⟨by first | rfl | (simp [errW_none, errW_some] <;> rfl) | (simp [*, errW_none, errW_some] <;> rfl), by repeat (first | (with_reducible first | exact HB.out | apply below_alloc | apply pw_below_drewN | apply below_drew1 | refine below_set ?_ GE1254.out | refine below_set ?_ GE1255.out) | exact HB.out)⟩
    · rw [if_neg c11] at H
      have c11b0 : decide (t1257 < 0) = false := decide_eq_false c11
      clear c11
      replace H := Option.bind_eq_some_iff.mp H
      obtain ⟨⟨t1258, t1261, t1262, t1265⟩, A190, H⟩ := H
      replace H : ((laws_toTable.f k l1_0 a1_1 l1_2 l1_3).bind fun bt1268 => ((spec_SameTable.f k t1258 t1261 t1262 t1265 bt1268.1 bt1268.2.1 bt1268.2.2.1 bt1268.2.2.2).bind fun t1278 => ((laws_toTable.f k l0_0 a0_1 l0_2 l0_3).bind fun bt1279 => ((laws_toTable.f k l1_0 a1_1 l1_2 l1_3).bind fun bt1290 => ((impl_SameTable.f k bt1279.1 bt1279.2.1 bt1279.2.2.1 bt1279.2.2.2 bt1290.1 bt1290.2.1 bt1290.2.2.1 bt1290.2.2.2).bind fun t1301 => (if (t1301 != t1278) = true then (some false) else ((laws_toTable.f k l0_0 a0_1 l0_2 l0_3).bind fun bt1302 => ((laws_eqTable.f k bt1279.1 bt1279.2.1 bt1279.2.2.1 bt1279.2.2.2 bt1302.1 bt1302.2.1 bt1302.2.2.1 bt1302.2.2.2).bind fun t1312 => (if t1312 = true then ((laws_toTable.f k l1_0 a1_1 l1_2 l1_3).bind fun bt1313 => ((laws_eqTable.f k bt1290.1 bt1290.2.1 bt1290.2.2.1 bt1290.2.2.2 bt1313.1 bt1313.2.1 bt1313.2.2.1 bt1313.2.2.2).bind fun t1323 => (if t1323 = true then (some true) else (some false)))) else (some false)))))))))) = some r := H
      have A19 := Aside0.mk A190
      clear A190
      replace H := Option.bind_eq_some_iff.mp H
      obtain ⟨⟨t1268, t1271, t1272, t1275⟩, A200, H⟩ := H
      replace H : ((spec_SameTable.f k t1258 t1261 t1262 t1265 t1268 t1271 t1272 t1275).bind fun t1278 => ((laws_toTable.f k l0_0 a0_1 l0_2 l0_3).bind fun bt1279 => ((laws_toTable.f k l1_0 a1_1 l1_2 l1_3).bind fun bt1290 => ((impl_SameTable.f k bt1279.1 bt1279.2.1 bt1279.2.2.1 bt1279.2.2.2 bt1290.1 bt1290.2.1 bt1290.2.2.1 bt1290.2.2.2).bind fun t1301 => (if (t1301 != t1278) = true then (some false) else ((laws_toTable.f k l0_0 a0_1 l0_2 l0_3).bind fun bt1302 => ((laws_eqTable.f k bt1279.1 bt1279.2.1 bt1279.2.2.1 bt1279.2.2.2 bt1302.1 bt1302.2.1 bt1302.2.2.1 bt1302.2.2.2).bind fun t1312 => (if t1312 = true then ((laws_toTable.f k l1_0 a1_1 l1_2 l1_3).bind fun bt1313 => ((laws_eqTable.f k bt1290.1 bt1290.2.1 bt1290.2.2.1 bt1290.2.2.2 bt1313.1 bt1313.2.1 bt1313.2.2.1 bt1313.2.2.2).bind fun t1323 => (if t1323 = true then (some true) else (some false)))) else (some false))))))))) = some r := H
      have A20 := Aside0.mk A200
      clear A200
      replace H := Option.bind_eq_some_iff.mp H
      obtain ⟨t1278, A210, H⟩ := H
      replace H : ((laws_toTable.f k l0_0 a0_1 l0_2 l0_3).bind fun bt1279 => ((laws_toTable.f k l1_0 a1_1 l1_2 l1_3).bind fun bt1290 => ((impl_SameTable.f k bt1279.1 bt1279.2.1 bt1279.2.2.1 bt1279.2.2.2 bt1290.1 bt1290.2.1 bt1290.2.2.1 bt1290.2.2.2).bind fun t1301 => (if (t1301 != t1278) = true then (some false) else ((laws_toTable.f k l0_0 a0_1 l0_2 l0_3).bind fun bt1302 => ((laws_eqTable.f k bt1279.1 bt1279.2.1 bt1279.2.2.1 bt1279.2.2.2 bt1302.1 bt1302.2.1 bt1302.2.2.1 bt1302.2.2.2).bind fun t1312 => (if t1312 = true then ((laws_toTable.f k l1_0 a1_1 l1_2 l1_3).bind fun bt1313 => ((laws_eqTable.f k bt1290.1 bt1290.2.1 bt1290.2.2.1 bt1290.2.2.2 bt1313.1 bt1313.2.1 bt1313.2.2.1 bt1313.2.2.2).bind fun t1323 => (if t1323 = true then (some true) else (some false)))) else (some false)))))))) = some r := H
      have A21 := Aside0.mk A210
      clear A210
      replace H := Option.bind_eq_some_iff.mp H
      obtain ⟨⟨t1279, t1282, t1283, t1286⟩, A220, H⟩ := H
      replace H : ((laws_toTable.f k l1_0 a1_1 l1_2 l1_3).bind fun bt1290 => ((impl_SameTable.f k t1279 t1282 t1283 t1286 bt1290.1 bt1290.2.1 bt1290.2.2.1 bt1290.2.2.2).bind fun t1301 => (if (t1301 != t1278) = true then (some false) else ((laws_toTable.f k l0_0 a0_1 l0_2 l0_3).bind fun bt1302 => ((laws_eqTable.f k t1279 t1282 t1283 t1286 bt1302.1 bt1302.2.1 bt1302.2.2.1 bt1302.2.2.2).bind fun t1312 => (if t1312 = true then ((laws_toTable.f k l1_0 a1_1 l1_2 l1_3).bind fun bt1313 => ((laws_eqTable.f k bt1290.1 bt1290.2.1 bt1290.2.2.1 bt1290.2.2.2 bt1313.1 bt1313.2.1 bt1313.2.2.1 bt1313.2.2.2).bind fun t1323 => (if t1323 = true then (some true) else (some false)))) else (some false))))))) = some r := H
      have A22 := Aside0.mk A220
      clear A220
      replace H := Option.bind_eq_some_iff.mp H
      obtain ⟨⟨t1290, t1293, t1294, t1297⟩, A230, H⟩ := H
      replace H : ((impl_SameTable.f k t1279 t1282 t1283 t1286 t1290 t1293 t1294 t1297).bind fun t1301 => (if (t1301 != t1278) = true then (some false) else ((laws_toTable.f k l0_0 a0_1 l0_2 l0_3).bind fun bt1302 => ((laws_eqTable.f k t1279 t1282 t1283 t1286 bt1302.1 bt1302.2.1 bt1302.2.2.1 bt1302.2.2.2).bind fun t1312 => (if t1312 = true then ((laws_toTable.f k l1_0 a1_1 l1_2 l1_3).bind fun bt1313 => ((laws_eqTable.f k t1290 t1293 t1294 t1297 bt1313.1 bt1313.2.1 bt1313.2.2.1 bt1313.2.2.2).bind fun t1323 => (if t1323 = true then (some true) else (some false)))) else (some false)))))) = some r := H
      have A23 := Aside0.mk A230
      clear A230
      replace H := Option.bind_eq_some_iff.mp H
      obtain ⟨t1301, A240, H⟩ := H
      replace H : (if (t1301 != t1278) = true then (some false) else ((laws_toTable.f k l0_0 a0_1 l0_2 l0_3).bind fun bt1302 => ((laws_eqTable.f k t1279 t1282 t1283 t1286 bt1302.1 bt1302.2.1 bt1302.2.2.1 bt1302.2.2.2).bind fun t1312 => (if t1312 = true then ((laws_toTable.f k l1_0 a1_1 l1_2 l1_3).bind fun bt1313 => ((laws_eqTable.f k t1290 t1293 t1294 t1297 bt1313.1 bt1313.2.1 bt1313.2.2.1 bt1313.2.2.2).bind fun t1323 => (if t1323 = true then (some true) else (some false)))) else (some false))))) = some r := H
      have A24 := Aside0.mk A240
      clear A240
      by_cases c25 : (t1301 != t1278) = true
      · rw [if_pos c25] at H
        have c25b0 : (t1301 != t1278) = true := c25
        (try (have c25b1 : decide (t1301 = t1278) = false := by simpa using c25))
        (try (have c25b2 : (t1301 == t1278) = false := by simpa using c25))
        (try (have c25b3 : ¬ (t1301 = t1278) := by simpa using c25))
        clear c25
        exact absurd ((Option.some.inj H).trans HRT.out) (by decide)
      · rw [if_neg c25] at H
        have c25b0 : (t1301 != t1278) = false := by simpa using c25
        (try (have c25b1 : decide (t1301 = t1278) = true := by simpa using c25))
        (try (have c25b2 : (t1301 == t1278) = true := by simpa using c25))
        clear c25
        replace H := Option.bind_eq_some_iff.mp H
        obtain ⟨⟨t1302, t1305, t1306, t1309⟩, A260, H⟩ := H
        replace H : ((laws_eqTable.f k t1279 t1282 t1283 t1286 t1302 t1305 t1306 t1309).bind fun t1312 => (if t1312 = true then ((laws_toTable.f k l1_0 a1_1 l1_2 l1_3).bind fun bt1313 => ((laws_eqTable.f k t1290 t1293 t1294 t1297 bt1313.1 bt1313.2.1 bt1313.2.2.1 bt1313.2.2.2).bind fun t1323 => (if t1323 = true then (some true) else (some false)))) else (some false))) = some r := H
        have A26 := Aside0.mk A260
        clear A260
        replace H := Option.bind_eq_some_iff.mp H
        obtain ⟨t1312, A270, H⟩ := H
        replace H : (if t1312 = true then ((laws_toTable.f k l1_0 a1_1 l1_2 l1_3).bind fun bt1313 => ((laws_eqTable.f k t1290 t1293 t1294 t1297 bt1313.1 bt1313.2.1 bt1313.2.2.1 bt1313.2.2.2).bind fun t1323 => (if t1323 = true then (some true) else (some false)))) else (some false)) = some r := H
        have A27 := Aside0.mk A270
        clear A270
        by_cases c28 : t1312 = true
        · subst c28
          have H1 : ((laws_toTable.f k l1_0 a1_1 l1_2 l1_3).bind fun bt1313 => ((laws_eqTable.f k t1290 t1293 t1294 t1297 bt1313.1 bt1313.2.1 bt1313.2.2.1 bt1313.2.2.2).bind fun t1323 => (if t1323 = true then (some true) else (some false)))) = some r := by rw [if_pos rfl] at H; exact H
          clear H
          have H := H1
          clear H1
          replace H := Option.bind_eq_some_iff.mp H
          obtain ⟨⟨t1313, t1316, t1317, t1320⟩, A290, H⟩ := H
          replace H : ((laws_eqTable.f k t1290 t1293 t1294 t1297 t1313 t1316 t1317 t1320).bind fun t1323 => (if t1323 = true then (some true) else (some false))) = some r := H
          have A29 := Aside0.mk A290
          clear A290
          replace H := Option.bind_eq_some_iff.mp H
          obtain ⟨t1323, A300, H⟩ := H
          replace H : (if t1323 = true then (some true) else (some false)) = some r := H
          have A30 := Aside0.mk A300
          clear A300
          by_cases c31 : t1323 = true
          · subst c31
            have H1 : (some true) = some r := by rw [if_pos rfl] at H; exact H
            clear H
            have H := H1
            clear H1
            obtain rfl := Option.some.inj H
            go_enter Try.func12, Try.ntmps12
            try go_wp2_with (first | ((with_reducible refine gate_dst (N := 2) rfl ?_); refine box_event ?hg (N := 2) ?hd (cs := #[.slice A0_0 l0_0.length c0_0, .string a0_1, .slice A0_2 l0_2.length c0_2, .slice A0_3 l0_3.length c0_3]) (t := 90) ?hr ?_; (case hd => rfl); (case hg => rfl); (case hr => first | (go_simp; done) | (go_simp; rfl)); intro gb1254 hg w32 hbox hb; have n0_ := Aside0.mk (below_step (by repeat (first | (with_reducible first | exact HB.out | apply below_alloc | apply pw_below_drewN | apply below_drew1) | exact HB.out)) hb); have n1_ := Aside0.mk (hbox); have n2_ := Aside0.mk ((by rw [hg]; exact (below_size (by repeat (first | (with_reducible first | exact HB.out | apply below_alloc | apply pw_below_drewN | apply below_drew1) | exact HB.out))) : w.heap.size ≤ gb1254)); have n3_ := Aside0.mk ((by rw [hg]; exact (below_size (by repeat (first | (with_reducible first | exact HB.out | apply below_alloc | apply pw_below_drewN | apply below_drew1) | exact HB.out))) : w.heap.size ≤ gb1254)); clear HB; have HB := n0_; have BK1254 := n1_; have GW1254 := n2_; have GE1254 := n3_; clear n0_ n1_ n2_ n3_; clear hb hbox hg) | ((with_reducible refine gate_dst (N := 3) rfl ?_); refine box_event ?hg (N := 3) ?hd (cs := #[.slice A1_0 l1_0.length c1_0, .string a1_1, .slice A1_2 l1_2.length c1_2, .slice A1_3 l1_3.length c1_3]) (t := 90) ?hr ?_; (case hd => rfl); (case hg => rfl); (case hr => first | (go_simp; done) | (go_simp; rfl)); intro gb1255 hg w33 hbox hb; have n0_ := Aside0.mk (blk_below (g := gb1254) (o := .cells #[.slice A0_0 l0_0.length c0_0, .string a0_1, .slice A0_2 l0_2.length c0_2, .slice A0_3 l0_3.length c0_3] 90 (0, 0)) (by (with_reducible repeat (first | refine blk_drewN ?_ _ | refine blk_drew ?_ | refine blk_alloc ?_ _)); exact BK1254.out) hb); have n1_ := Aside0.mk (below_step (by repeat (first | (with_reducible first | exact HB.out | apply below_alloc | apply pw_below_drewN | apply below_drew1 | refine below_set ?_ GE1254.out) | exact HB.out)) hb); have n2_ := Aside0.mk (hbox); have n3_ := Aside0.mk ((by rw [hg]; exact (below_size (by repeat (first | (with_reducible first | exact HB.out | apply below_alloc | apply pw_below_drewN | apply below_drew1 | refine below_set ?_ GE1254.out) | exact HB.out))) : w.heap.size ≤ gb1255)); have n4_ := Aside0.mk ((by rw [hg]; exact (below_size (by repeat (first | (with_reducible first | exact HB.out | apply below_alloc | apply pw_below_drewN | apply below_drew1 | refine below_set ?_ GE1254.out) | exact HB.out))) : w.heap.size ≤ gb1255)); have n5_ := Aside0.mk ((by rw [hg]; exact Nat.ne_of_lt (blk_lt (g := gb1254) (o := .cells #[.slice A0_0 l0_0.length c0_0, .string a0_1, .slice A0_2 l0_2.length c0_2, .slice A0_3 l0_3.length c0_3] 90 (0, 0)) (by (with_reducible repeat (first | refine blk_drewN ?_ _ | refine blk_drew ?_ | refine blk_alloc ?_ _)); exact BK1254.out)) : gb1254 ≠ gb1255)); have n6_ := Aside0.mk ((by rw [hg]; exact Nat.ne_of_gt (blk_lt (g := gb1254) (o := .cells #[.slice A0_0 l0_0.length c0_0, .string a0_1, .slice A0_2 l0_2.length c0_2, .slice A0_3 l0_3.length c0_3] 90 (0, 0)) (by (with_reducible repeat (first | refine blk_drewN ?_ _ | refine blk_drew ?_ | refine blk_alloc ?_ _)); exact BK1254.out)) : gb1255 ≠ gb1254)); clear BK1254; clear HB; have BK1254 := n0_; have HB := n1_; have BK1255 := n2_; have GW1255 := n3_; have GE1255 := n4_; have NB1254_1255 := n5_; have NB1255_1254 := n6_; clear n0_ n1_ n2_ n3_ n4_ n5_ n6_; clear hb hbox hg; have hnb34 := NB1254_1255.out; have hnc34 := NB1255_1254.out; have hcz35_0 : w33.cell? ⟨gb1254, 0, none⟩ = some (.slice A0_0 l0_0.length c0_0) := (blk_cell BK1254.out 0).trans rfl; have hcz35_1 : w33.cell? ⟨gb1254, 1, none⟩ = some (.string a0_1) := (blk_cell BK1254.out 1).trans rfl; have hcz35_2 : w33.cell? ⟨gb1254, 2, none⟩ = some (.slice A0_2 l0_2.length c0_2) := (blk_cell BK1254.out 2).trans rfl; have hcz35_3 : w33.cell? ⟨gb1254, 3, none⟩ = some (.slice A0_3 l0_3.length c0_3) := (blk_cell BK1254.out 3).trans rfl; have hfz35_0 := blk_frozen BK1254.out 0; have hfz35_1 := blk_frozen BK1254.out 1; have hfz35_2 := blk_frozen BK1254.out 2; have hfz35_3 := blk_frozen BK1254.out 3) | ((with_reducible refine gate_callee (f := 59) rfl ?_); refine goesL_ (some 12) rfl rfl Try.func59 (by kernel_rfl) rfl #[.agg #[.slice A0_0 l0_0.length c0_0, .string a0_1, .slice A0_2 l0_2.length c0_2, .slice A0_3 l0_3.length c0_3], .int .i64 1048576] rfl (by (try simp only [List.map_toArray, List.map_cons, List.map_nil]); first | done | rfl | (simp only [List.length_drop, List.length_take]; rfl)) ?_; (with_reducible refine (laws_szTable.calls k _ _ l0_0 a0_1 _ _ l0_2 _ _ l0_3 1048576 t1256 _ ?side1 ?side2 ?side3 ?side4 ?side5 ?side6 A3.out).mono ?_); (case side1 => repeat (first | exact (Kd.C_below HR0_0.out HB.out) | (with_reducible refine Kd.C_alloc ?_ _) | (with_reducible refine Kd.C_drewN ?_ _) | (with_reducible refine Kd.C_drew ?_))); (case side2 => exact HC0_0.out); (case side3 => repeat (first | exact (Kd.C_below HR0_2.out HB.out) | (with_reducible refine Kd.C_alloc ?_ _) | (with_reducible refine Kd.C_drewN ?_ _) | (with_reducible refine Kd.C_drew ?_))); (case side4 => exact HC0_2.out); (case side5 => repeat (first | exact (Kd.C_below HR0_3.out HB.out) | (with_reducible refine Kd.C_alloc ?_ _) | (with_reducible refine Kd.C_drewN ?_ _) | (with_reducible refine Kd.C_drew ?_))); (case side6 => exact HC0_3.out); rintro e w36 ⟨rfl, hb⟩; refine ⟨_, rfl, ?_⟩; have n0_ := Aside0.mk (blk_below (g := gb1254) (o := .cells #[.slice A0_0 l0_0.length c0_0, .string a0_1, .slice A0_2 l0_2.length c0_2, .slice A0_3 l0_3.length c0_3] 90 (0, 0)) (by (with_reducible repeat (first | refine blk_drewN ?_ _ | refine blk_drew ?_ | refine blk_alloc ?_ _)); exact BK1254.out) hb); have n1_ := Aside0.mk (blk_below (g := gb1255) (o := .cells #[.slice A1_0 l1_0.length c1_0, .string a1_1, .slice A1_2 l1_2.length c1_2, .slice A1_3 l1_3.length c1_3] 90 (0, 0)) (by (with_reducible repeat (first | refine blk_drewN ?_ _ | refine blk_drew ?_ | refine blk_alloc ?_ _)); exact BK1255.out) hb); have n2_ := Aside0.mk (below_step (by repeat (first | (with_reducible first | exact HB.out | apply below_alloc | apply pw_below_drewN | apply below_drew1 | refine below_set ?_ GE1254.out | refine below_set ?_ GE1255.out) | exact HB.out)) hb); clear BK1254; clear BK1255; clear HB; have BK1254 := n0_; have BK1255 := n1_; have HB := n2_; clear n0_ n1_ n2_; (try clear hb); (try clear hb2); (try clear hk); (try clear hi); have hcz37_0 : w36.cell? ⟨gb1255, 0, none⟩ = some (.slice A1_0 l1_0.length c1_0) := (blk_cell BK1255.out 0).trans rfl; have hcz37_1 : w36.cell? ⟨gb1255, 1, none⟩ = some (.string a1_1) := (blk_cell BK1255.out 1).trans rfl; have hcz37_2 : w36.cell? ⟨gb1255, 2, none⟩ = some (.slice A1_2 l1_2.length c1_2) := (blk_cell BK1255.out 2).trans rfl; have hcz37_3 : w36.cell? ⟨gb1255, 3, none⟩ = some (.slice A1_3 l1_3.length c1_3) := (blk_cell BK1255.out 3).trans rfl; have hfz37_0 := blk_frozen BK1255.out 0; have hfz37_1 := blk_frozen BK1255.out 1; have hfz37_2 := blk_frozen BK1255.out 2; have hfz37_3 := blk_frozen BK1255.out 3) | ((with_reducible refine gate_callee (f := 59) rfl ?_); refine goesL_ (some 17) rfl rfl Try.func59 (by kernel_rfl) rfl #[.agg #[.slice A1_0 l1_0.length c1_0, .string a1_1, .slice A1_2 l1_2.length c1_2, .slice A1_3 l1_3.length c1_3], .int .i64 t1256] rfl (by (try simp only [List.map_toArray, List.map_cons, List.map_nil]); first | done | rfl | (simp only [List.length_drop, List.length_take]; rfl)) ?_; (with_reducible refine (laws_szTable.calls k _ _ l1_0 a1_1 _ _ l1_2 _ _ l1_3 t1256 t1257 _ ?side1 ?side2 ?side3 ?side4 ?side5 ?side6 A10.out).mono ?_); (case side1 => repeat (first | exact (Kd.C_below HR1_0.out HB.out) | (with_reducible refine Kd.C_alloc ?_ _) | (with_reducible refine Kd.C_drewN ?_ _) | (with_reducible refine Kd.C_drew ?_))); (case side2 => exact HC1_0.out); (case side3 => repeat (first | exact (Kd.C_below HR1_2.out HB.out) | (with_reducible refine Kd.C_alloc ?_ _) | (with_reducible refine Kd.C_drewN ?_ _) | (with_reducible refine Kd.C_drew ?_))); (case side4 => exact HC1_2.out); (case side5 => repeat (first | exact (Kd.C_below HR1_3.out HB.out) | (with_reducible refine Kd.C_alloc ?_ _) | (with_reducible refine Kd.C_drewN ?_ _) | (with_reducible refine Kd.C_drew ?_))); (case side6 => exact HC1_3.out); rintro e w38 ⟨rfl, hb⟩; refine ⟨_, rfl, ?_⟩; have n0_ := Aside0.mk (blk_below (g := gb1254) (o := .cells #[.slice A0_0 l0_0.length c0_0, .string a0_1, .slice A0_2 l0_2.length c0_2, .slice A0_3 l0_3.length c0_3] 90 (0, 0)) (by (with_reducible repeat (first | refine blk_drewN ?_ _ | refine blk_drew ?_ | refine blk_alloc ?_ _)); exact BK1254.out) hb); have n1_ := Aside0.mk (blk_below (g := gb1255) (o := .cells #[.slice A1_0 l1_0.length c1_0, .string a1_1, .slice A1_2 l1_2.length c1_2, .slice A1_3 l1_3.length c1_3] 90 (0, 0)) (by (with_reducible repeat (first | refine blk_drewN ?_ _ | refine blk_drew ?_ | refine blk_alloc ?_ _)); exact BK1255.out) hb); have n2_ := Aside0.mk (below_step (by repeat (first | (with_reducible first | exact HB.out | apply below_alloc | apply pw_below_drewN | apply below_drew1 | refine below_set ?_ GE1254.out | refine below_set ?_ GE1255.out) | exact HB.out)) hb); clear BK1254; clear BK1255; clear HB; have BK1254 := n0_; have BK1255 := n1_; have HB := n2_; clear n0_ n1_ n2_; (try clear hb); (try clear hb2); (try clear hk); (try clear hi)))
            have n0_ := Aside0.mk (blk_drew BK1254.out)
            have n1_ := Aside0.mk (blk_drew BK1255.out)
            have n2_ := Aside0.mk (below_drew1 HB.out)
            clear BK1254
            clear BK1255
            clear HB
            have BK1254 := n0_
            have BK1255 := n1_
            have HB := n2_
            clear n0_ n1_ n2_
            refine start_ (n := 6) (S := fun w' => w'.cell? ⟨gb1254, 0, none⟩ = some (.slice A0_0 l0_0.length c0_0) ∧ w'.cell? ⟨gb1254, 1, none⟩ = some (.string a0_1) ∧ w'.cell? ⟨gb1254, 2, none⟩ = some (.slice A0_2 l0_2.length c0_2) ∧ w'.cell? ⟨gb1254, 3, none⟩ = some (.slice A0_3 l0_3.length c0_3) ∧ w'.cell? ⟨gb1255, 0, none⟩ = some (.slice A1_0 l1_0.length c1_0) ∧ w'.cell? ⟨gb1255, 1, none⟩ = some (.string a1_1) ∧ w'.cell? ⟨gb1255, 2, none⟩ = some (.slice A1_2 l1_2.length c1_2) ∧ w'.cell? ⟨gb1255, 3, none⟩ = some (.slice A1_3 l1_3.length c1_3)) (ds := []) #[false, false, false, false, false, false] (by kernel_rfl) rfl rfl ⟨(blk_cell BK1254.out 0).trans rfl, (blk_cell BK1254.out 1).trans rfl, (blk_cell BK1254.out 2).trans rfl, (blk_cell BK1254.out 3).trans rfl, (blk_cell BK1255.out 0).trans rfl, (blk_cell BK1255.out 1).trans rfl, (blk_cell BK1255.out 2).trans rfl, (blk_cell BK1255.out 3).trans rfl⟩ (fun hHeld => ?_)
            generalize w38.drew = w39 at BK1254 BK1255 HB hHeld ⊢
            refine take_ (i := 0) (N := some 20) (v := ?_) (a' := ?_) #[true, false, false, false, false, false] rfl rfl (by kernel_rfl) (fun _ _ _ h => h) (Or.inl ⟨by rfl, ?_⟩) hHeld ?_ ?_
            rotate_left
            · rintro w' ⟨s0, s1, s2, s3, s4, s5, s6, s7⟩
              go_simp
              with_reducible rfl
            rotate_left
            · simp only [Act.put, List.setIfInBounds_toArray, List.set_cons_zero, List.set_cons_succ, i64_w, i32_w]
              rfl
            refine take_ (i := 2) (N := some 22) (v := ?_) (a' := ?_) #[true, false, true, false, false, false] rfl rfl (by kernel_rfl) (fun _ _ _ h => h) (Or.inl ⟨by rfl, ?_⟩) hHeld ?_ ?_
            rotate_left
            · rintro w' ⟨s0, s1, s2, s3, s4, s5, s6, s7⟩
              go_simp
              with_reducible rfl
            rotate_left
            · simp only [Act.put, List.setIfInBounds_toArray, List.set_cons_zero, List.set_cons_succ, i64_w, i32_w]
              rfl
            refine one_ (i := 1) (N := some 21) #[true, true, true, false, false, false] rfl rfl (by kernel_rfl) (by decide) (fun K hK => ?_)
            refine goes_ Try.func61 (by kernel_rfl) rfl #[.agg #[.slice A0_0 l0_0.length c0_0, .string a0_1, .slice A0_2 l0_2.length c0_2, .slice A0_3 l0_3.length c0_3]] (by rfl) rfl rfl (by (try simp only [List.map_toArray, List.map_cons, List.map_nil]); first | done | rfl | (simp only [List.length_drop, List.length_take]; rfl)) ?_
            with_reducible refine (laws_toTable.calls k _ _ l0_0 a0_1 _ _ l0_2 _ _ l0_3 t1258 t1261 t1262 t1265 _ ?side1 ?side2 ?side3 ?side4 ?side5 ?side6 A19.out).mono ?_
            (case side1 => repeat (first | exact (Kd.C_below HR0_0.out HB.out) | (with_reducible refine Kd.C_alloc ?_ _) | (with_reducible refine Kd.C_drewN ?_ _) | (with_reducible refine Kd.C_drew ?_)))
            (case side2 => exact HC0_0.out)
            (case side3 => repeat (first | exact (Kd.C_below HR0_2.out HB.out) | (with_reducible refine Kd.C_alloc ?_ _) | (with_reducible refine Kd.C_drewN ?_ _) | (with_reducible refine Kd.C_drew ?_)))
            (case side4 => exact HC0_2.out)
            (case side5 => repeat (first | exact (Kd.C_below HR0_3.out HB.out) | (with_reducible refine Kd.C_alloc ?_ _) | (with_reducible refine Kd.C_drewN ?_ _) | (with_reducible refine Kd.C_drew ?_)))
            (case side6 => exact HC0_3.out)
            rintro e w40 ⟨v1259, v1263, v1266, rfl, ho0, ho1, ho2, hb⟩
            refine ⟨_, rfl, ?_⟩
            have n0_ := Aside0.mk (Kd.R_lower ho0 (below_size (by repeat (first | (with_reducible first | exact HB.out | apply below_alloc | apply pw_below_drewN | apply below_drew1 | refine below_set ?_ GE1254.out | refine below_set ?_ GE1255.out) | exact HB.out))))
            have n1_ := Aside0.mk (Kd.S_lower ho1 (below_size (by repeat (first | (with_reducible first | exact HB.out | apply below_alloc | apply pw_below_drewN | apply below_drew1 | refine below_set ?_ GE1254.out | refine below_set ?_ GE1255.out) | exact HB.out))))
            have n2_ := Aside0.mk (Kd.R_lower ho2 (below_size (by repeat (first | (with_reducible first | exact HB.out | apply below_alloc | apply pw_below_drewN | apply below_drew1 | refine below_set ?_ GE1254.out | refine below_set ?_ GE1255.out) | exact HB.out))))
            have n3_ := Aside0.mk (blk_below (g := gb1254) (o := .cells #[.slice A0_0 l0_0.length c0_0, .string a0_1, .slice A0_2 l0_2.length c0_2, .slice A0_3 l0_3.length c0_3] 90 (0, 0)) (by (with_reducible repeat (first | refine blk_drewN ?_ _ | refine blk_drew ?_ | refine blk_alloc ?_ _)); exact BK1254.out) hb)
            have n4_ := Aside0.mk (blk_below (g := gb1255) (o := .cells #[.slice A1_0 l1_0.length c1_0, .string a1_1, .slice A1_2 l1_2.length c1_2, .slice A1_3 l1_3.length c1_3] 90 (0, 0)) (by (with_reducible repeat (first | refine blk_drewN ?_ _ | refine blk_drew ?_ | refine blk_alloc ?_ _)); exact BK1255.out) hb)
            have n5_ := Aside0.mk (below_step (by repeat (first | (with_reducible first | exact HB.out | apply below_alloc | apply pw_below_drewN | apply below_drew1 | refine below_set ?_ GE1254.out | refine below_set ?_ GE1255.out) | exact HB.out)) hb)
            clear BK1254
            clear BK1255
            clear HB
            have HO1260 := n0_
            have HO1264 := n1_
            have HO1267 := n2_
            have BK1254 := n3_
            have BK1255 := n4_
            have HB := n5_
            clear n0_ n1_ n2_ n3_ n4_ n5_
            (try clear hb)
            (try clear hb2)
            (try clear hk)
            (try clear hi)
            (try clear ho0)
            (try clear ho1)
            (try clear ho2)
            refine hK.out _ _ ⟨(blk_cell BK1254.out 0).trans rfl, (blk_cell BK1254.out 1).trans rfl, (blk_cell BK1254.out 2).trans rfl, (blk_cell BK1254.out 3).trans rfl, (blk_cell BK1255.out 0).trans rfl, (blk_cell BK1255.out 1).trans rfl, (blk_cell BK1255.out 2).trans rfl, (blk_cell BK1255.out 3).trans rfl⟩ (fun hHeld => ?_)
            clear hK K
            refine norm_ (a' := ?_) ?_ ?_
            rotate_left
            · show Act.put _ (some 21) _ = _
              simp only [Act.put, List.setIfInBounds_toArray, List.set_cons_zero, List.set_cons_succ, i64_w, i32_w]
              rfl
            refine one_ (i := 3) (N := some 23) #[true, true, true, true, false, false] rfl rfl (by kernel_rfl) (by decide) (fun K hK => ?_)
            refine goes_ Try.func61 (by kernel_rfl) rfl #[.agg #[.slice A1_0 l1_0.length c1_0, .string a1_1, .slice A1_2 l1_2.length c1_2, .slice A1_3 l1_3.length c1_3]] (by rfl) rfl rfl (by (try simp only [List.map_toArray, List.map_cons, List.map_nil]); first | done | rfl | (simp only [List.length_drop, List.length_take]; rfl)) ?_
            with_reducible refine (laws_toTable.calls k _ _ l1_0 a1_1 _ _ l1_2 _ _ l1_3 t1268 t1271 t1272 t1275 _ ?side1 ?side2 ?side3 ?side4 ?side5 ?side6 A20.out).mono ?_
            (case side1 => repeat (first | exact (Kd.C_below HR1_0.out HB.out) | (with_reducible refine Kd.C_alloc ?_ _) | (with_reducible refine Kd.C_drewN ?_ _) | (with_reducible refine Kd.C_drew ?_)))
            (case side2 => exact HC1_0.out)
            (case side3 => repeat (first | exact (Kd.C_below HR1_2.out HB.out) | (with_reducible refine Kd.C_alloc ?_ _) | (with_reducible refine Kd.C_drewN ?_ _) | (with_reducible refine Kd.C_drew ?_)))
            (case side4 => exact HC1_2.out)
            (case side5 => repeat (first | exact (Kd.C_below HR1_3.out HB.out) | (with_reducible refine Kd.C_alloc ?_ _) | (with_reducible refine Kd.C_drewN ?_ _) | (with_reducible refine Kd.C_drew ?_)))
            (case side6 => exact HC1_3.out)
            rintro e w41 ⟨v1269, v1273, v1276, rfl, ho0, ho1, ho2, hb⟩
            refine ⟨_, rfl, ?_⟩
            have n0_ := Aside0.mk (Kd.R_elder' (by (with_reducible repeat (first | apply Kd.R_alloc | apply Kd.R_drewN | apply Kd.R_drew)); exact HO1260.out) (Kd.R_base ho0) hb)
            have n1_ := Aside0.mk (Kd.S_mono (Kd.S_told (Kd.S_told (Kd.S_old (by (with_reducible repeat (first | apply Kd.S_alloc | apply Kd.S_drewN | apply Kd.S_drew)); exact HO1264.out) hb) (Kd.S_base ho1)) (Kd.R_base ho2)) (fun _ h_ => h_.1))
            have n2_ := Aside0.mk (Kd.R_elder' (by (with_reducible repeat (first | apply Kd.R_alloc | apply Kd.R_drewN | apply Kd.R_drew)); exact HO1267.out) (Kd.R_base ho2) hb)
            have n3_ := Aside0.mk (Kd.R_lower (Kd.R_new' ho0 (Kd.R_lt (by (with_reducible repeat (first | apply Kd.R_alloc | apply Kd.R_drewN | apply Kd.R_drew)); exact HO1260.out))) (below_size (by repeat (first | (with_reducible first | exact HB.out | apply below_alloc | apply pw_below_drewN | apply below_drew1 | refine below_set ?_ GE1254.out | refine below_set ?_ GE1255.out) | exact HB.out))))
            have n4_ := Aside0.mk (Kd.S_lower (Kd.S_new' (Kd.S_new' ho1 (Kd.S_lt (by (with_reducible repeat (first | apply Kd.S_alloc | apply Kd.S_drewN | apply Kd.S_drew)); exact HO1264.out))) (Kd.R_lt (by (with_reducible repeat (first | apply Kd.R_alloc | apply Kd.R_drewN | apply Kd.R_drew)); exact HO1267.out))) (below_size (by repeat (first | (with_reducible first | exact HB.out | apply below_alloc | apply pw_below_drewN | apply below_drew1 | refine below_set ?_ GE1254.out | refine below_set ?_ GE1255.out) | exact HB.out))))
            have n5_ := Aside0.mk (Kd.R_lower (Kd.R_new' ho2 (Kd.R_lt (by (with_reducible repeat (first | apply Kd.R_alloc | apply Kd.R_drewN | apply Kd.R_drew)); exact HO1267.out))) (below_size (by repeat (first | (with_reducible first | exact HB.out | apply below_alloc | apply pw_below_drewN | apply below_drew1 | refine below_set ?_ GE1254.out | refine below_set ?_ GE1255.out) | exact HB.out))))
            have n6_ := Aside0.mk (blk_below (g := gb1254) (o := .cells #[.slice A0_0 l0_0.length c0_0, .string a0_1, .slice A0_2 l0_2.length c0_2, .slice A0_3 l0_3.length c0_3] 90 (0, 0)) (by (with_reducible repeat (first | refine blk_drewN ?_ _ | refine blk_drew ?_ | refine blk_alloc ?_ _)); exact BK1254.out) hb)
            have n7_ := Aside0.mk (blk_below (g := gb1255) (o := .cells #[.slice A1_0 l1_0.length c1_0, .string a1_1, .slice A1_2 l1_2.length c1_2, .slice A1_3 l1_3.length c1_3] 90 (0, 0)) (by (with_reducible repeat (first | refine blk_drewN ?_ _ | refine blk_drew ?_ | refine blk_alloc ?_ _)); exact BK1255.out) hb)
            have n8_ := Aside0.mk (below_step (by repeat (first | (with_reducible first | exact HB.out | apply below_alloc | apply pw_below_drewN | apply below_drew1 | refine below_set ?_ GE1254.out | refine below_set ?_ GE1255.out) | exact HB.out)) hb)
            clear HO1260
            clear HO1264
            clear HO1267
            clear BK1254
            clear BK1255
            clear HB
            have HO1260 := n0_
            have HO1264 := n1_
            have HO1267 := n2_
            have HO1270 := n3_
            have HO1274 := n4_
            have HO1277 := n5_
            have BK1254 := n6_
            have BK1255 := n7_
            have HB := n8_
            clear n0_ n1_ n2_ n3_ n4_ n5_ n6_ n7_ n8_
            (try clear hb)
            (try clear hb2)
            (try clear hk)
            (try clear hi)
            (try clear ho0)
            (try clear ho1)
            (try clear ho2)
            obtain ⟨Ao42, co42, eo42⟩ := Kd.R_slice HO1260.out
            (first | subst eo42 | (injection eo42 with f1_ f2_ f3_; have f4_ := f1_.symm; have f5_ := f3_.symm; clear f1_ f2_ f3_; subst f4_; subst f5_))
            obtain ⟨Ao43, co43, eo43⟩ := Kd.S_slice HO1264.out
            (first | subst eo43 | (injection eo43 with f1_ f2_ f3_; have f4_ := f1_.symm; have f5_ := f3_.symm; clear f1_ f2_ f3_; subst f4_; subst f5_))
            obtain ⟨Ao44, co44, eo44⟩ := Kd.R_slice HO1267.out
            (first | subst eo44 | (injection eo44 with f1_ f2_ f3_; have f4_ := f1_.symm; have f5_ := f3_.symm; clear f1_ f2_ f3_; subst f4_; subst f5_))
            obtain ⟨Ao45, co45, eo45⟩ := Kd.R_slice HO1270.out
            (first | subst eo45 | (injection eo45 with f1_ f2_ f3_; have f4_ := f1_.symm; have f5_ := f3_.symm; clear f1_ f2_ f3_; subst f4_; subst f5_))
            obtain ⟨Ao46, co46, eo46⟩ := Kd.S_slice HO1274.out
            (first | subst eo46 | (injection eo46 with f1_ f2_ f3_; have f4_ := f1_.symm; have f5_ := f3_.symm; clear f1_ f2_ f3_; subst f4_; subst f5_))
            obtain ⟨Ao47, co47, eo47⟩ := Kd.R_slice HO1277.out
            (first | subst eo47 | (injection eo47 with f1_ f2_ f3_; have f4_ := f1_.symm; have f5_ := f3_.symm; clear f1_ f2_ f3_; subst f4_; subst f5_))
            refine hK.out _ _ ⟨(blk_cell BK1254.out 0).trans rfl, (blk_cell BK1254.out 1).trans rfl, (blk_cell BK1254.out 2).trans rfl, (blk_cell BK1254.out 3).trans rfl, (blk_cell BK1255.out 0).trans rfl, (blk_cell BK1255.out 1).trans rfl, (blk_cell BK1255.out 2).trans rfl, (blk_cell BK1255.out 3).trans rfl⟩ (fun hHeld => ?_)
            clear hK K
            refine norm_ (a' := ?_) ?_ ?_
            rotate_left
            · show Act.put _ (some 23) _ = _
              simp only [Act.put, List.setIfInBounds_toArray, List.set_cons_zero, List.set_cons_succ, i64_w, i32_w]
              rfl
            refine one_ (i := 4) (N := some 24) #[true, true, true, true, true, false] rfl rfl (by kernel_rfl) (by decide) (fun K hK => ?_)
            refine goes_ Try.func60 (by kernel_rfl) rfl #[.agg #[.slice Ao42 t1258.length co42, .string t1261, .slice Ao43 t1262.length co43, .slice Ao44 t1265.length co44], .agg #[.slice Ao45 t1268.length co45, .string t1271, .slice Ao46 t1272.length co46, .slice Ao47 t1275.length co47]] (by rfl) rfl rfl (by (try simp only [List.map_toArray, List.map_cons, List.map_nil]); first | done | rfl | (simp only [List.length_drop, List.length_take]; rfl)) ?_
            with_reducible refine (spec_SameTable.calls k _ _ t1258 t1261 _ _ t1262 _ _ t1265 _ _ t1268 t1271 _ _ t1272 _ _ t1275 t1278 _ ?side1 ?side2 ?side3 ?side4 ?side5 ?side6 ?side7 ?side8 ?side9 ?side10 ?side11 ?side12 A21.out).mono ?_
            (case side1 => repeat (first | exact (Kd.R_reads' HO1260.out).2.2 | (with_reducible refine Kd.C_alloc ?_ _) | (with_reducible refine Kd.C_drewN ?_ _) | (with_reducible refine Kd.C_drew ?_)))
            (case side2 => exact (Kd.R_reads' HO1260.out).2.1)
            (case side3 => repeat (first | exact (Kd.S_reads' HO1264.out).2.2 | (with_reducible refine Kd.C_alloc ?_ _) | (with_reducible refine Kd.C_drewN ?_ _) | (with_reducible refine Kd.C_drew ?_)))
            (case side4 => exact (Kd.S_reads' HO1264.out).2.1)
            (case side5 => repeat (first | exact (Kd.R_reads' HO1267.out).2.2 | (with_reducible refine Kd.C_alloc ?_ _) | (with_reducible refine Kd.C_drewN ?_ _) | (with_reducible refine Kd.C_drew ?_)))
            (case side6 => exact (Kd.R_reads' HO1267.out).2.1)
            (case side7 => repeat (first | exact (Kd.R_reads' HO1270.out).2.2 | (with_reducible refine Kd.C_alloc ?_ _) | (with_reducible refine Kd.C_drewN ?_ _) | (with_reducible refine Kd.C_drew ?_)))
            (case side8 => exact (Kd.R_reads' HO1270.out).2.1)
            (case side9 => repeat (first | exact (Kd.S_reads' HO1274.out).2.2 | (with_reducible refine Kd.C_alloc ?_ _) | (with_reducible refine Kd.C_drewN ?_ _) | (with_reducible refine Kd.C_drew ?_)))
            (case side10 => exact (Kd.S_reads' HO1274.out).2.1)
            (case side11 => repeat (first | exact (Kd.R_reads' HO1277.out).2.2 | (with_reducible refine Kd.C_alloc ?_ _) | (with_reducible refine Kd.C_drewN ?_ _) | (with_reducible refine Kd.C_drew ?_)))
            (case side12 => exact (Kd.R_reads' HO1277.out).2.1)
            rintro e w48 ⟨rfl, hb⟩
            refine ⟨_, rfl, ?_⟩
            have n0_ := Aside0.mk (Kd.R_below (by (with_reducible repeat (first | apply Kd.R_alloc | apply Kd.R_drewN | apply Kd.R_drew)); exact HO1260.out) hb)
            have n1_ := Aside0.mk (Kd.S_below (by (with_reducible repeat (first | apply Kd.S_alloc | apply Kd.S_drewN | apply Kd.S_drew)); exact HO1264.out) hb)
            have n2_ := Aside0.mk (Kd.R_below (by (with_reducible repeat (first | apply Kd.R_alloc | apply Kd.R_drewN | apply Kd.R_drew)); exact HO1267.out) hb)
            have n3_ := Aside0.mk (Kd.R_below (by (with_reducible repeat (first | apply Kd.R_alloc | apply Kd.R_drewN | apply Kd.R_drew)); exact HO1270.out) hb)
            have n4_ := Aside0.mk (Kd.S_below (by (with_reducible repeat (first | apply Kd.S_alloc | apply Kd.S_drewN | apply Kd.S_drew)); exact HO1274.out) hb)
            have n5_ := Aside0.mk (Kd.R_below (by (with_reducible repeat (first | apply Kd.R_alloc | apply Kd.R_drewN | apply Kd.R_drew)); exact HO1277.out) hb)
            have n6_ := Aside0.mk (blk_below (g := gb1254) (o := .cells #[.slice A0_0 l0_0.length c0_0, .string a0_1, .slice A0_2 l0_2.length c0_2, .slice A0_3 l0_3.length c0_3] 90 (0, 0)) (by (with_reducible repeat (first | refine blk_drewN ?_ _ | refine blk_drew ?_ | refine blk_alloc ?_ _)); exact BK1254.out) hb)
            have n7_ := Aside0.mk (blk_below (g := gb1255) (o := .cells #[.slice A1_0 l1_0.length c1_0, .string a1_1, .slice A1_2 l1_2.length c1_2, .slice A1_3 l1_3.length c1_3] 90 (0, 0)) (by (with_reducible repeat (first | refine blk_drewN ?_ _ | refine blk_drew ?_ | refine blk_alloc ?_ _)); exact BK1255.out) hb)
            have n8_ := Aside0.mk (below_step (by repeat (first | (with_reducible first | exact HB.out | apply below_alloc | apply pw_below_drewN | apply below_drew1 | refine below_set ?_ GE1254.out | refine below_set ?_ GE1255.out) | exact HB.out)) hb)
            clear HO1260
            clear HO1264
            clear HO1267
            clear HO1270
            clear HO1274
            clear HO1277
            clear BK1254
            clear BK1255
            clear HB
            have HO1260 := n0_
            have HO1264 := n1_
            have HO1267 := n2_
            have HO1270 := n3_
            have HO1274 := n4_
            have HO1277 := n5_
            have BK1254 := n6_
            have BK1255 := n7_
            have HB := n8_
            clear n0_ n1_ n2_ n3_ n4_ n5_ n6_ n7_ n8_
            (try clear hb)
            (try clear hb2)
            (try clear hk)
            (try clear hi)
            refine hK.out _ _ ⟨(blk_cell BK1254.out 0).trans rfl, (blk_cell BK1254.out 1).trans rfl, (blk_cell BK1254.out 2).trans rfl, (blk_cell BK1254.out 3).trans rfl, (blk_cell BK1255.out 0).trans rfl, (blk_cell BK1255.out 1).trans rfl, (blk_cell BK1255.out 2).trans rfl, (blk_cell BK1255.out 3).trans rfl⟩ (fun hHeld => ?_)
            clear hK K
            refine norm_ (a' := ?_) ?_ ?_
            rotate_left
            · show Act.put _ (some 24) _ = _
              simp only [Act.put, List.setIfInBounds_toArray, List.set_cons_zero, List.set_cons_succ, i64_w, i32_w]
              rfl
            refine pure_ (i := 5) (N := some 6) (v := ?_) (a' := ?_) #[true, true, true, true, true, true] rfl rfl (by kernel_rfl) (fun _ _ _ h => h) (Or.inl ⟨by rfl, ?_⟩) ?_ ?_
            rotate_left
            · intro w'
              go_simp
              with_reducible rfl
            rotate_left
            · simp only [Act.put, List.setIfInBounds_toArray, List.set_cons_zero, List.set_cons_succ, i64_w, i32_w]
              rfl
            refine done_ (by kernel_rfl) ?_
            have hcz49_0 : w48.cell? ⟨gb1254, 0, none⟩ = some (.slice A0_0 l0_0.length c0_0) := (blk_cell BK1254.out 0).trans rfl
            have hcz49_1 : w48.cell? ⟨gb1254, 1, none⟩ = some (.string a0_1) := (blk_cell BK1254.out 1).trans rfl
            have hcz49_2 : w48.cell? ⟨gb1254, 2, none⟩ = some (.slice A0_2 l0_2.length c0_2) := (blk_cell BK1254.out 2).trans rfl
            have hcz49_3 : w48.cell? ⟨gb1254, 3, none⟩ = some (.slice A0_3 l0_3.length c0_3) := (blk_cell BK1254.out 3).trans rfl
            have hfz49_0 := blk_frozen BK1254.out 0
            have hfz49_1 := blk_frozen BK1254.out 1
            have hfz49_2 := blk_frozen BK1254.out 2
            have hfz49_3 := blk_frozen BK1254.out 3
            try go_wp2_with (first | ((with_reducible refine gate_callee (f := 61) rfl ?_); refine goesL_ (some 26) rfl rfl Try.func61 (by kernel_rfl) rfl #[.agg #[.slice A0_0 l0_0.length c0_0, .string a0_1, .slice A0_2 l0_2.length c0_2, .slice A0_3 l0_3.length c0_3]] rfl (by (try simp only [List.map_toArray, List.map_cons, List.map_nil]); first | done | rfl | (simp only [List.length_drop, List.length_take]; rfl)) ?_; (with_reducible refine (laws_toTable.calls k _ _ l0_0 a0_1 _ _ l0_2 _ _ l0_3 t1279 t1282 t1283 t1286 _ ?side1 ?side2 ?side3 ?side4 ?side5 ?side6 A22.out).mono ?_); (case side1 => repeat (first | exact (Kd.C_below HR0_0.out HB.out) | (with_reducible refine Kd.C_alloc ?_ _) | (with_reducible refine Kd.C_drewN ?_ _) | (with_reducible refine Kd.C_drew ?_))); (case side2 => exact HC0_0.out); (case side3 => repeat (first | exact (Kd.C_below HR0_2.out HB.out) | (with_reducible refine Kd.C_alloc ?_ _) | (with_reducible refine Kd.C_drewN ?_ _) | (with_reducible refine Kd.C_drew ?_))); (case side4 => exact HC0_2.out); (case side5 => repeat (first | exact (Kd.C_below HR0_3.out HB.out) | (with_reducible refine Kd.C_alloc ?_ _) | (with_reducible refine Kd.C_drewN ?_ _) | (with_reducible refine Kd.C_drew ?_))); (case side6 => exact HC0_3.out); rintro e w50 ⟨v1280, v1284, v1287, rfl, ho0, ho1, ho2, hb⟩; refine ⟨_, rfl, ?_⟩; have n0_ := Aside0.mk (Kd.R_elder' (by (with_reducible repeat (first | apply Kd.R_alloc | apply Kd.R_drewN | apply Kd.R_drew)); exact HO1260.out) (Kd.R_base ho0) hb); have n1_ := Aside0.mk (Kd.S_mono (Kd.S_told (Kd.S_told (Kd.S_old (by (with_reducible repeat (first | apply Kd.S_alloc | apply Kd.S_drewN | apply Kd.S_drew)); exact HO1264.out) hb) (Kd.S_base ho1)) (Kd.R_base ho2)) (fun _ h_ => h_.1)); have n2_ := Aside0.mk (Kd.R_elder' (by (with_reducible repeat (first | apply Kd.R_alloc | apply Kd.R_drewN | apply Kd.R_drew)); exact HO1267.out) (Kd.R_base ho2) hb); have n3_ := Aside0.mk (Kd.R_elder' (by (with_reducible repeat (first | apply Kd.R_alloc | apply Kd.R_drewN | apply Kd.R_drew)); exact HO1270.out) (Kd.R_base ho0) hb); have n4_ := Aside0.mk (Kd.S_mono (Kd.S_told (Kd.S_told (Kd.S_old (by (with_reducible repeat (first | apply Kd.S_alloc | apply Kd.S_drewN | apply Kd.S_drew)); exact HO1274.out) hb) (Kd.S_base ho1)) (Kd.R_base ho2)) (fun _ h_ => h_.1)); have n5_ := Aside0.mk (Kd.R_elder' (by (with_reducible repeat (first | apply Kd.R_alloc | apply Kd.R_drewN | apply Kd.R_drew)); exact HO1277.out) (Kd.R_base ho2) hb); have n6_ := Aside0.mk (Kd.R_lower (Kd.R_new' (Kd.R_new' ho0 (Kd.R_lt (by (with_reducible repeat (first | apply Kd.R_alloc | apply Kd.R_drewN | apply Kd.R_drew)); exact HO1260.out))) (Kd.R_lt (by (with_reducible repeat (first | apply Kd.R_alloc | apply Kd.R_drewN | apply Kd.R_drew)); exact HO1270.out))) (below_size (by repeat (first | (with_reducible first | exact HB.out | apply below_alloc | apply pw_below_drewN | apply below_drew1 | refine below_set ?_ GE1254.out | refine below_set ?_ GE1255.out) | exact HB.out)))); have n7_ := Aside0.mk (Kd.S_lower (Kd.S_new' (Kd.S_new' (Kd.S_new' (Kd.S_new' ho1 (Kd.S_lt (by (with_reducible repeat (first | apply Kd.S_alloc | apply Kd.S_drewN | apply Kd.S_drew)); exact HO1264.out))) (Kd.R_lt (by (with_reducible repeat (first | apply Kd.R_alloc | apply Kd.R_drewN | apply Kd.R_drew)); exact HO1267.out))) (Kd.S_lt (by (with_reducible repeat (first | apply Kd.S_alloc | apply Kd.S_drewN | apply Kd.S_drew)); exact HO1274.out))) (Kd.R_lt (by (with_reducible repeat (first | apply Kd.R_alloc | apply Kd.R_drewN | apply Kd.R_drew)); exact HO1277.out))) (below_size (by repeat (first | (with_reducible first | exact HB.out | apply below_alloc | apply pw_below_drewN | apply below_drew1 | refine below_set ?_ GE1254.out | refine below_set ?_ GE1255.out) | exact HB.out)))); have n8_ := Aside0.mk (Kd.R_lower (Kd.R_new' (Kd.R_new' ho2 (Kd.R_lt (by (with_reducible repeat (first | apply Kd.R_alloc | apply Kd.R_drewN | apply Kd.R_drew)); exact HO1267.out))) (Kd.R_lt (by (with_reducible repeat (first | apply Kd.R_alloc | apply Kd.R_drewN | apply Kd.R_drew)); exact HO1277.out))) (below_size (by repeat (first | (with_reducible first | exact HB.out | apply below_alloc | apply pw_below_drewN | apply below_drew1 | refine below_set ?_ GE1254.out | refine below_set ?_ GE1255.out) | exact HB.out)))); have n9_ := Aside0.mk (blk_below (g := gb1254) (o := .cells #[.slice A0_0 l0_0.length c0_0, .string a0_1, .slice A0_2 l0_2.length c0_2, .slice A0_3 l0_3.length c0_3] 90 (0, 0)) (by (with_reducible repeat (first | refine blk_drewN ?_ _ | refine blk_drew ?_ | refine blk_alloc ?_ _)); exact BK1254.out) hb); have n10_ := Aside0.mk (blk_below (g := gb1255) (o := .cells #[.slice A1_0 l1_0.length c1_0, .string a1_1, .slice A1_2 l1_2.length c1_2, .slice A1_3 l1_3.length c1_3] 90 (0, 0)) (by (with_reducible repeat (first | refine blk_drewN ?_ _ | refine blk_drew ?_ | refine blk_alloc ?_ _)); exact BK1255.out) hb); have n11_ := Aside0.mk (below_step (by repeat (first | (with_reducible first | exact HB.out | apply below_alloc | apply pw_below_drewN | apply below_drew1 | refine below_set ?_ GE1254.out | refine below_set ?_ GE1255.out) | exact HB.out)) hb); clear HO1260; clear HO1264; clear HO1267; clear HO1270; clear HO1274; clear HO1277; clear BK1254; clear BK1255; clear HB; have HO1260 := n0_; have HO1264 := n1_; have HO1267 := n2_; have HO1270 := n3_; have HO1274 := n4_; have HO1277 := n5_; have HO1281 := n6_; have HO1285 := n7_; have HO1288 := n8_; have BK1254 := n9_; have BK1255 := n10_; have HB := n11_; clear n0_ n1_ n2_ n3_ n4_ n5_ n6_ n7_ n8_ n9_ n10_ n11_; (try clear hb); (try clear hb2); (try clear hk); (try clear hi); (try clear ho0); (try clear ho1); (try clear ho2)) | ((with_reducible refine gate_dst (N := 7) rfl ?_); refine box_event ?hg (N := 7) ?hd (cs := #[.slice none 0 0, .string (⟨#[]⟩ : ByteArray), .slice none 0 0, .slice none 0 0]) (t := 85) ?hr ?_; (case hd => rfl); (case hg => rfl); (case hr => first | (go_simp; done) | (go_simp; rfl)); intro gb1289 hg w51 hbox hb; have n0_ := Aside0.mk (Kd.R_below (by (with_reducible repeat (first | apply Kd.R_alloc | apply Kd.R_drewN | apply Kd.R_drew)); exact HO1260.out) hb); have n1_ := Aside0.mk (Kd.S_below (by (with_reducible repeat (first | apply Kd.S_alloc | apply Kd.S_drewN | apply Kd.S_drew)); exact HO1264.out) hb); have n2_ := Aside0.mk (Kd.R_below (by (with_reducible repeat (first | apply Kd.R_alloc | apply Kd.R_drewN | apply Kd.R_drew)); exact HO1267.out) hb); have n3_ := Aside0.mk (Kd.R_below (by (with_reducible repeat (first | apply Kd.R_alloc | apply Kd.R_drewN | apply Kd.R_drew)); exact HO1270.out) hb); have n4_ := Aside0.mk (Kd.S_below (by (with_reducible repeat (first | apply Kd.S_alloc | apply Kd.S_drewN | apply Kd.S_drew)); exact HO1274.out) hb); have n5_ := Aside0.mk (Kd.R_below (by (with_reducible repeat (first | apply Kd.R_alloc | apply Kd.R_drewN | apply Kd.R_drew)); exact HO1277.out) hb); have n6_ := Aside0.mk (Kd.R_below (by (with_reducible repeat (first | apply Kd.R_alloc | apply Kd.R_drewN | apply Kd.R_drew)); exact HO1281.out) hb); have n7_ := Aside0.mk (Kd.S_below (by (with_reducible repeat (first | apply Kd.S_alloc | apply Kd.S_drewN | apply Kd.S_drew)); exact HO1285.out) hb); have n8_ := Aside0.mk (Kd.R_below (by (with_reducible repeat (first | apply Kd.R_alloc | apply Kd.R_drewN | apply Kd.R_drew)); exact HO1288.out) hb); have n9_ := Aside0.mk (blk_below (g := gb1254) (o := .cells #[.slice A0_0 l0_0.length c0_0, .string a0_1, .slice A0_2 l0_2.length c0_2, .slice A0_3 l0_3.length c0_3] 90 (0, 0)) (by (with_reducible repeat (first | refine blk_drewN ?_ _ | refine blk_drew ?_ | refine blk_alloc ?_ _)); exact BK1254.out) hb); have n10_ := Aside0.mk (blk_below (g := gb1255) (o := .cells #[.slice A1_0 l1_0.length c1_0, .string a1_1, .slice A1_2 l1_2.length c1_2, .slice A1_3 l1_3.length c1_3] 90 (0, 0)) (by (with_reducible repeat (first | refine blk_drewN ?_ _ | refine blk_drew ?_ | refine blk_alloc ?_ _)); exact BK1255.out) hb); have n11_ := Aside0.mk (below_step (by repeat (first | (with_reducible first | exact HB.out | apply below_alloc | apply pw_below_drewN | apply below_drew1 | refine below_set ?_ GE1254.out | refine below_set ?_ GE1255.out) | exact HB.out)) hb); have n12_ := Aside0.mk (hbox); have n13_ := Aside0.mk ((by rw [hg]; exact (below_size (by repeat (first | (with_reducible first | exact HB.out | apply below_alloc | apply pw_below_drewN | apply below_drew1 | refine below_set ?_ GE1254.out | refine below_set ?_ GE1255.out) | exact HB.out))) : w.heap.size ≤ gb1289)); have n14_ := Aside0.mk ((by rw [hg]; exact (below_size (by repeat (first | (with_reducible first | exact HB.out | apply below_alloc | apply pw_below_drewN | apply below_drew1 | refine below_set ?_ GE1254.out | refine below_set ?_ GE1255.out) | exact HB.out))) : w.heap.size ≤ gb1289)); have n15_ := Aside0.mk ((by rw [hg]; exact Nat.ne_of_lt (blk_lt (g := gb1254) (o := .cells #[.slice A0_0 l0_0.length c0_0, .string a0_1, .slice A0_2 l0_2.length c0_2, .slice A0_3 l0_3.length c0_3] 90 (0, 0)) (by (with_reducible repeat (first | refine blk_drewN ?_ _ | refine blk_drew ?_ | refine blk_alloc ?_ _)); exact BK1254.out)) : gb1254 ≠ gb1289)); have n16_ := Aside0.mk ((by rw [hg]; exact Nat.ne_of_gt (blk_lt (g := gb1254) (o := .cells #[.slice A0_0 l0_0.length c0_0, .string a0_1, .slice A0_2 l0_2.length c0_2, .slice A0_3 l0_3.length c0_3] 90 (0, 0)) (by (with_reducible repeat (first | refine blk_drewN ?_ _ | refine blk_drew ?_ | refine blk_alloc ?_ _)); exact BK1254.out)) : gb1289 ≠ gb1254)); have n17_ := Aside0.mk ((by rw [hg]; exact Nat.ne_of_lt (blk_lt (g := gb1255) (o := .cells #[.slice A1_0 l1_0.length c1_0, .string a1_1, .slice A1_2 l1_2.length c1_2, .slice A1_3 l1_3.length c1_3] 90 (0, 0)) (by (with_reducible repeat (first | refine blk_drewN ?_ _ | refine blk_drew ?_ | refine blk_alloc ?_ _)); exact BK1255.out)) : gb1255 ≠ gb1289)); have n18_ := Aside0.mk ((by rw [hg]; exact Nat.ne_of_gt (blk_lt (g := gb1255) (o := .cells #[.slice A1_0 l1_0.length c1_0, .string a1_1, .slice A1_2 l1_2.length c1_2, .slice A1_3 l1_3.length c1_3] 90 (0, 0)) (by (with_reducible repeat (first | refine blk_drewN ?_ _ | refine blk_drew ?_ | refine blk_alloc ?_ _)); exact BK1255.out)) : gb1289 ≠ gb1255)); clear HO1260; clear HO1264; clear HO1267; clear HO1270; clear HO1274; clear HO1277; clear HO1281; clear HO1285; clear HO1288; clear BK1254; clear BK1255; clear HB; have HO1260 := n0_; have HO1264 := n1_; have HO1267 := n2_; have HO1270 := n3_; have HO1274 := n4_; have HO1277 := n5_; have HO1281 := n6_; have HO1285 := n7_; have HO1288 := n8_; have BK1254 := n9_; have BK1255 := n10_; have HB := n11_; have BK1289 := n12_; have GW1289 := n13_; have GE1289 := n14_; have NB1254_1289 := n15_; have NB1289_1254 := n16_; have NB1255_1289 := n17_; have NB1289_1255 := n18_; clear n0_ n1_ n2_ n3_ n4_ n5_ n6_ n7_ n8_ n9_ n10_ n11_ n12_ n13_ n14_ n15_ n16_ n17_ n18_; clear hb hbox hg; obtain ⟨Ao52, co52, eo52⟩ := Kd.R_slice HO1281.out; subst eo52; have hnb53 := NB1289_1254.out; have hnc53 := NB1254_1289.out; have hnb54 := NB1289_1255.out; have hnc54 := NB1255_1289.out; have hcz55_0 : w51.cell? ⟨gb1289, 0, none⟩ = some (.slice none 0 0) := (blk_cell BK1289.out 0).trans rfl; have hcz55_1 : w51.cell? ⟨gb1289, 1, none⟩ = some (.string (⟨#[]⟩ : ByteArray)) := (blk_cell BK1289.out 1).trans rfl; have hcz55_2 : w51.cell? ⟨gb1289, 2, none⟩ = some (.slice none 0 0) := (blk_cell BK1289.out 2).trans rfl; have hcz55_3 : w51.cell? ⟨gb1289, 3, none⟩ = some (.slice none 0 0) := (blk_cell BK1289.out 3).trans rfl; have hfz55_0 := blk_frozen BK1289.out 0; have hfz55_1 := blk_frozen BK1289.out 1; have hfz55_2 := blk_frozen BK1289.out 2; have hfz55_3 := blk_frozen BK1289.out 3; obtain ⟨Ao56, co56, eo56⟩ := Kd.S_slice HO1285.out; subst eo56; obtain ⟨Ao57, co57, eo57⟩ := Kd.R_slice HO1288.out; subst eo57; have hcz58_0 : w51.cell? ⟨gb1255, 0, none⟩ = some (.slice A1_0 l1_0.length c1_0) := (blk_cell BK1255.out 0).trans rfl; have hcz58_1 : w51.cell? ⟨gb1255, 1, none⟩ = some (.string a1_1) := (blk_cell BK1255.out 1).trans rfl; have hcz58_2 : w51.cell? ⟨gb1255, 2, none⟩ = some (.slice A1_2 l1_2.length c1_2) := (blk_cell BK1255.out 2).trans rfl; have hcz58_3 : w51.cell? ⟨gb1255, 3, none⟩ = some (.slice A1_3 l1_3.length c1_3) := (blk_cell BK1255.out 3).trans rfl; have hfz58_0 := blk_frozen BK1255.out 0; have hfz58_1 := blk_frozen BK1255.out 1; have hfz58_2 := blk_frozen BK1255.out 2; have hfz58_3 := blk_frozen BK1255.out 3) | ((with_reducible refine gate_callee (f := 61) rfl ?_); refine goesL_ (some 28) rfl rfl Try.func61 (by kernel_rfl) rfl #[.agg #[.slice A1_0 l1_0.length c1_0, .string a1_1, .slice A1_2 l1_2.length c1_2, .slice A1_3 l1_3.length c1_3]] rfl (by (try simp only [List.map_toArray, List.map_cons, List.map_nil]); first | done | rfl | (simp only [List.length_drop, List.length_take]; rfl)) ?_; (with_reducible refine (laws_toTable.calls k _ _ l1_0 a1_1 _ _ l1_2 _ _ l1_3 t1290 t1293 t1294 t1297 _ ?side1 ?side2 ?side3 ?side4 ?side5 ?side6 A23.out).mono ?_); (case side1 => exact Kd.C_below HR1_0.out (by repeat (first | (with_reducible first | exact HB.out | apply below_alloc | apply pw_below_drewN | apply below_drew1 | refine below_set ?_ GE1254.out | refine below_set ?_ GE1255.out | refine below_set ?_ GE1289.out) | exact HB.out))); (case side2 => exact HC1_0.out); (case side3 => exact Kd.C_below HR1_2.out (by repeat (first | (with_reducible first | exact HB.out | apply below_alloc | apply pw_below_drewN | apply below_drew1 | refine below_set ?_ GE1254.out | refine below_set ?_ GE1255.out | refine below_set ?_ GE1289.out) | exact HB.out))); (case side4 => exact HC1_2.out); (case side5 => exact Kd.C_below HR1_3.out (by repeat (first | (with_reducible first | exact HB.out | apply below_alloc | apply pw_below_drewN | apply below_drew1 | refine below_set ?_ GE1254.out | refine below_set ?_ GE1255.out | refine below_set ?_ GE1289.out) | exact HB.out))); (case side6 => exact HC1_3.out); rintro e w59 ⟨v1291, v1295, v1298, rfl, ho0, ho1, ho2, hb⟩; refine ⟨_, rfl, ?_⟩; have n0_ := Aside0.mk (Kd.R_elder' (by (with_reducible repeat (first | apply Kd.R_alloc | apply Kd.R_drewN | apply Kd.R_drew)); exact (Kd.R_mono (Kd.R_far (p := ⟨gb1289, 3, none⟩) (Kd.R_far (p := ⟨gb1289, 2, none⟩) (Kd.R_far (p := ⟨gb1289, 1, none⟩) (Kd.R_far (p := ⟨gb1289, 0, none⟩) (Kd.R_types HO1260.out BK1289.out (by decide)) (fun _ hk => hk.2) (.slice Ao52 t1279.length co52)) (fun _ hk => hk.2) (.string t1282)) (fun _ hk => hk.2) (.slice Ao56 t1283.length co56)) (fun _ hk => hk.2) (.slice Ao57 t1286.length co57)) (fun _ h_ => h_.1))) (Kd.R_base ho0) hb); have n1_ := Aside0.mk (Kd.S_mono (Kd.S_told (Kd.S_told (Kd.S_old (by (with_reducible repeat (first | apply Kd.S_alloc | apply Kd.S_drewN | apply Kd.S_drew)); exact (Kd.S_mono (Kd.S_far (p := ⟨gb1289, 3, none⟩) (Kd.S_far (p := ⟨gb1289, 2, none⟩) (Kd.S_far (p := ⟨gb1289, 1, none⟩) (Kd.S_far (p := ⟨gb1289, 0, none⟩) (Kd.S_types HO1264.out BK1289.out (by decide)) (fun _ hk => hk.2) (.slice Ao52 t1279.length co52)) (fun _ hk => hk.2) (.string t1282)) (fun _ hk => hk.2) (.slice Ao56 t1283.length co56)) (fun _ hk => hk.2) (.slice Ao57 t1286.length co57)) (fun _ h_ => h_.1))) hb) (Kd.S_base ho1)) (Kd.R_base ho2)) (fun _ h_ => h_.1)); have n2_ := Aside0.mk (Kd.R_elder' (by (with_reducible repeat (first | apply Kd.R_alloc | apply Kd.R_drewN | apply Kd.R_drew)); exact (Kd.R_mono (Kd.R_far (p := ⟨gb1289, 3, none⟩) (Kd.R_far (p := ⟨gb1289, 2, none⟩) (Kd.R_far (p := ⟨gb1289, 1, none⟩) (Kd.R_far (p := ⟨gb1289, 0, none⟩) (Kd.R_types HO1267.out BK1289.out (by decide)) (fun _ hk => hk.2) (.slice Ao52 t1279.length co52)) (fun _ hk => hk.2) (.string t1282)) (fun _ hk => hk.2) (.slice Ao56 t1283.length co56)) (fun _ hk => hk.2) (.slice Ao57 t1286.length co57)) (fun _ h_ => h_.1))) (Kd.R_base ho2) hb); have n3_ := Aside0.mk (Kd.R_elder' (by (with_reducible repeat (first | apply Kd.R_alloc | apply Kd.R_drewN | apply Kd.R_drew)); exact (Kd.R_mono (Kd.R_far (p := ⟨gb1289, 3, none⟩) (Kd.R_far (p := ⟨gb1289, 2, none⟩) (Kd.R_far (p := ⟨gb1289, 1, none⟩) (Kd.R_far (p := ⟨gb1289, 0, none⟩) (Kd.R_types HO1270.out BK1289.out (by decide)) (fun _ hk => hk.2) (.slice Ao52 t1279.length co52)) (fun _ hk => hk.2) (.string t1282)) (fun _ hk => hk.2) (.slice Ao56 t1283.length co56)) (fun _ hk => hk.2) (.slice Ao57 t1286.length co57)) (fun _ h_ => h_.1))) (Kd.R_base ho0) hb); have n4_ := Aside0.mk (Kd.S_mono (Kd.S_told (Kd.S_told (Kd.S_old (by (with_reducible repeat (first | apply Kd.S_alloc | apply Kd.S_drewN | apply Kd.S_drew)); exact (Kd.S_mono (Kd.S_far (p := ⟨gb1289, 3, none⟩) (Kd.S_far (p := ⟨gb1289, 2, none⟩) (Kd.S_far (p := ⟨gb1289, 1, none⟩) (Kd.S_far (p := ⟨gb1289, 0, none⟩) (Kd.S_types HO1274.out BK1289.out (by decide)) (fun _ hk => hk.2) (.slice Ao52 t1279.length co52)) (fun _ hk => hk.2) (.string t1282)) (fun _ hk => hk.2) (.slice Ao56 t1283.length co56)) (fun _ hk => hk.2) (.slice Ao57 t1286.length co57)) (fun _ h_ => h_.1))) hb) (Kd.S_base ho1)) (Kd.R_base ho2)) (fun _ h_ => h_.1)); have n5_ := Aside0.mk (Kd.R_elder' (by (with_reducible repeat (first | apply Kd.R_alloc | apply Kd.R_drewN | apply Kd.R_drew)); exact (Kd.R_mono (Kd.R_far (p := ⟨gb1289, 3, none⟩) (Kd.R_far (p := ⟨gb1289, 2, none⟩) (Kd.R_far (p := ⟨gb1289, 1, none⟩) (Kd.R_far (p := ⟨gb1289, 0, none⟩) (Kd.R_types HO1277.out BK1289.out (by decide)) (fun _ hk => hk.2) (.slice Ao52 t1279.length co52)) (fun _ hk => hk.2) (.string t1282)) (fun _ hk => hk.2) (.slice Ao56 t1283.length co56)) (fun _ hk => hk.2) (.slice Ao57 t1286.length co57)) (fun _ h_ => h_.1))) (Kd.R_base ho2) hb); have n6_ := Aside0.mk (Kd.R_elder' (by (with_reducible repeat (first | apply Kd.R_alloc | apply Kd.R_drewN | apply Kd.R_drew)); exact (Kd.R_mono (Kd.R_far (p := ⟨gb1289, 3, none⟩) (Kd.R_far (p := ⟨gb1289, 2, none⟩) (Kd.R_far (p := ⟨gb1289, 1, none⟩) (Kd.R_far (p := ⟨gb1289, 0, none⟩) (Kd.R_types HO1281.out BK1289.out (by decide)) (fun _ hk => hk.2) (.slice Ao52 t1279.length co52)) (fun _ hk => hk.2) (.string t1282)) (fun _ hk => hk.2) (.slice Ao56 t1283.length co56)) (fun _ hk => hk.2) (.slice Ao57 t1286.length co57)) (fun _ h_ => h_.1))) (Kd.R_base ho0) hb); have n7_ := Aside0.mk (Kd.S_mono (Kd.S_told (Kd.S_told (Kd.S_old (by (with_reducible repeat (first | apply Kd.S_alloc | apply Kd.S_drewN | apply Kd.S_drew)); exact (Kd.S_mono (Kd.S_far (p := ⟨gb1289, 3, none⟩) (Kd.S_far (p := ⟨gb1289, 2, none⟩) (Kd.S_far (p := ⟨gb1289, 1, none⟩) (Kd.S_far (p := ⟨gb1289, 0, none⟩) (Kd.S_types HO1285.out BK1289.out (by decide)) (fun _ hk => hk.2) (.slice Ao52 t1279.length co52)) (fun _ hk => hk.2) (.string t1282)) (fun _ hk => hk.2) (.slice Ao56 t1283.length co56)) (fun _ hk => hk.2) (.slice Ao57 t1286.length co57)) (fun _ h_ => h_.1))) hb) (Kd.S_base ho1)) (Kd.R_base ho2)) (fun _ h_ => h_.1)); have n8_ := Aside0.mk (Kd.R_elder' (by (with_reducible repeat (first | apply Kd.R_alloc | apply Kd.R_drewN | apply Kd.R_drew)); exact (Kd.R_mono (Kd.R_far (p := ⟨gb1289, 3, none⟩) (Kd.R_far (p := ⟨gb1289, 2, none⟩) (Kd.R_far (p := ⟨gb1289, 1, none⟩) (Kd.R_far (p := ⟨gb1289, 0, none⟩) (Kd.R_types HO1288.out BK1289.out (by decide)) (fun _ hk => hk.2) (.slice Ao52 t1279.length co52)) (fun _ hk => hk.2) (.string t1282)) (fun _ hk => hk.2) (.slice Ao56 t1283.length co56)) (fun _ hk => hk.2) (.slice Ao57 t1286.length co57)) (fun _ h_ => h_.1))) (Kd.R_base ho2) hb); have n9_ := Aside0.mk (Kd.R_lower (Kd.R_new' (Kd.R_new' (Kd.R_new' ho0 (Kd.R_lt (by (with_reducible repeat (first | apply Kd.R_alloc | apply Kd.R_drewN | apply Kd.R_drew)); exact (Kd.R_mono (Kd.R_far (p := ⟨gb1289, 3, none⟩) (Kd.R_far (p := ⟨gb1289, 2, none⟩) (Kd.R_far (p := ⟨gb1289, 1, none⟩) (Kd.R_far (p := ⟨gb1289, 0, none⟩) (Kd.R_types HO1260.out BK1289.out (by decide)) (fun _ hk => hk.2) (.slice Ao52 t1279.length co52)) (fun _ hk => hk.2) (.string t1282)) (fun _ hk => hk.2) (.slice Ao56 t1283.length co56)) (fun _ hk => hk.2) (.slice Ao57 t1286.length co57)) (fun _ h_ => h_.1))))) (Kd.R_lt (by (with_reducible repeat (first | apply Kd.R_alloc | apply Kd.R_drewN | apply Kd.R_drew)); exact (Kd.R_mono (Kd.R_far (p := ⟨gb1289, 3, none⟩) (Kd.R_far (p := ⟨gb1289, 2, none⟩) (Kd.R_far (p := ⟨gb1289, 1, none⟩) (Kd.R_far (p := ⟨gb1289, 0, none⟩) (Kd.R_types HO1270.out BK1289.out (by decide)) (fun _ hk => hk.2) (.slice Ao52 t1279.length co52)) (fun _ hk => hk.2) (.string t1282)) (fun _ hk => hk.2) (.slice Ao56 t1283.length co56)) (fun _ hk => hk.2) (.slice Ao57 t1286.length co57)) (fun _ h_ => h_.1))))) (Kd.R_lt (by (with_reducible repeat (first | apply Kd.R_alloc | apply Kd.R_drewN | apply Kd.R_drew)); exact (Kd.R_mono (Kd.R_far (p := ⟨gb1289, 3, none⟩) (Kd.R_far (p := ⟨gb1289, 2, none⟩) (Kd.R_far (p := ⟨gb1289, 1, none⟩) (Kd.R_far (p := ⟨gb1289, 0, none⟩) (Kd.R_types HO1281.out BK1289.out (by decide)) (fun _ hk => hk.2) (.slice Ao52 t1279.length co52)) (fun _ hk => hk.2) (.string t1282)) (fun _ hk => hk.2) (.slice Ao56 t1283.length co56)) (fun _ hk => hk.2) (.slice Ao57 t1286.length co57)) (fun _ h_ => h_.1))))) (below_size (by repeat (first | (with_reducible first | exact HB.out | apply below_alloc | apply pw_below_drewN | apply below_drew1 | refine below_set ?_ GE1254.out | refine below_set ?_ GE1255.out | refine below_set ?_ GE1289.out) | exact HB.out)))); have n10_ := Aside0.mk (Kd.S_lower (Kd.S_new' (Kd.S_new' (Kd.S_new' (Kd.S_new' (Kd.S_new' (Kd.S_new' ho1 (Kd.S_lt (by (with_reducible repeat (first | apply Kd.S_alloc | apply Kd.S_drewN | apply Kd.S_drew)); exact (Kd.S_mono (Kd.S_far (p := ⟨gb1289, 3, none⟩) (Kd.S_far (p := ⟨gb1289, 2, none⟩) (Kd.S_far (p := ⟨gb1289, 1, none⟩) (Kd.S_far (p := ⟨gb1289, 0, none⟩) (Kd.S_types HO1264.out BK1289.out (by decide)) (fun _ hk => hk.2) (.slice Ao52 t1279.length co52)) (fun _ hk => hk.2) (.string t1282)) (fun _ hk => hk.2) (.slice Ao56 t1283.length co56)) (fun _ hk => hk.2) (.slice Ao57 t1286.length co57)) (fun _ h_ => h_.1))))) (Kd.R_lt (by (with_reducible repeat (first | apply Kd.R_alloc | apply Kd.R_drewN | apply Kd.R_drew)); exact (Kd.R_mono (Kd.R_far (p := ⟨gb1289, 3, none⟩) (Kd.R_far (p := ⟨gb1289, 2, none⟩) (Kd.R_far (p := ⟨gb1289, 1, none⟩) (Kd.R_far (p := ⟨gb1289, 0, none⟩) (Kd.R_types HO1267.out BK1289.out (by decide)) (fun _ hk => hk.2) (.slice Ao52 t1279.length co52)) (fun _ hk => hk.2) (.string t1282)) (fun _ hk => hk.2) (.slice Ao56 t1283.length co56)) (fun _ hk => hk.2) (.slice Ao57 t1286.length co57)) (fun _ h_ => h_.1))))) (Kd.S_lt (by (with_reducible repeat (first | apply Kd.S_alloc | apply Kd.S_drewN | apply Kd.S_drew)); exact (Kd.S_mono (Kd.S_far (p := ⟨gb1289, 3, none⟩) (Kd.S_far (p := ⟨gb1289, 2, none⟩) (Kd.S_far (p := ⟨gb1289, 1, none⟩) (Kd.S_far (p := ⟨gb1289, 0, none⟩) (Kd.S_types HO1274.out BK1289.out (by decide)) (fun _ hk => hk.2) (.slice Ao52 t1279.length co52)) (fun _ hk => hk.2) (.string t1282)) (fun _ hk => hk.2) (.slice Ao56 t1283.length co56)) (fun _ hk => hk.2) (.slice Ao57 t1286.length co57)) (fun _ h_ => h_.1))))) (Kd.R_lt (by (with_reducible repeat (first | apply Kd.R_alloc | apply Kd.R_drewN | apply Kd.R_drew)); exact (Kd.R_mono (Kd.R_far (p := ⟨gb1289, 3, none⟩) (Kd.R_far (p := ⟨gb1289, 2, none⟩) (Kd.R_far (p := ⟨gb1289, 1, none⟩) (Kd.R_far (p := ⟨gb1289, 0, none⟩) (Kd.R_types HO1277.out BK1289.out (by decide)) (fun _ hk => hk.2) (.slice Ao52 t1279.length co52)) (fun _ hk => hk.2) (.string t1282)) (fun _ hk => hk.2) (.slice Ao56 t1283.length co56)) (fun _ hk => hk.2) (.slice Ao57 t1286.length co57)) (fun _ h_ => h_.1))))) (Kd.S_lt (by (with_reducible repeat (first | apply Kd.S_alloc | apply Kd.S_drewN | apply Kd.S_drew)); exact (Kd.S_mono (Kd.S_far (p := ⟨gb1289, 3, none⟩) (Kd.S_far (p := ⟨gb1289, 2, none⟩) (Kd.S_far (p := ⟨gb1289, 1, none⟩) (Kd.S_far (p := ⟨gb1289, 0, none⟩) (Kd.S_types HO1285.out BK1289.out (by decide)) (fun _ hk => hk.2) (.slice Ao52 t1279.length co52)) (fun _ hk => hk.2) (.string t1282)) (fun _ hk => hk.2) (.slice Ao56 t1283.length co56)) (fun _ hk => hk.2) (.slice Ao57 t1286.length co57)) (fun _ h_ => h_.1))))) (Kd.R_lt (by (with_reducible repeat (first | apply Kd.R_alloc | apply Kd.R_drewN | apply Kd.R_drew)); exact (Kd.R_mono (Kd.R_far (p := ⟨gb1289, 3, none⟩) (Kd.R_far (p := ⟨gb1289, 2, none⟩) (Kd.R_far (p := ⟨gb1289, 1, none⟩) (Kd.R_far (p := ⟨gb1289, 0, none⟩) (Kd.R_types HO1288.out BK1289.out (by decide)) (fun _ hk => hk.2) (.slice Ao52 t1279.length co52)) (fun _ hk => hk.2) (.string t1282)) (fun _ hk => hk.2) (.slice Ao56 t1283.length co56)) (fun _ hk => hk.2) (.slice Ao57 t1286.length co57)) (fun _ h_ => h_.1))))) (below_size (by repeat (first | (with_reducible first | exact HB.out | apply below_alloc | apply pw_below_drewN | apply below_drew1 | refine below_set ?_ GE1254.out | refine below_set ?_ GE1255.out | refine below_set ?_ GE1289.out) | exact HB.out)))); have n11_ := Aside0.mk (Kd.R_lower (Kd.R_new' (Kd.R_new' (Kd.R_new' ho2 (Kd.R_lt (by (with_reducible repeat (first | apply Kd.R_alloc | apply Kd.R_drewN | apply Kd.R_drew)); exact (Kd.R_mono (Kd.R_far (p := ⟨gb1289, 3, none⟩) (Kd.R_far (p := ⟨gb1289, 2, none⟩) (Kd.R_far (p := ⟨gb1289, 1, none⟩) (Kd.R_far (p := ⟨gb1289, 0, none⟩) (Kd.R_types HO1267.out BK1289.out (by decide)) (fun _ hk => hk.2) (.slice Ao52 t1279.length co52)) (fun _ hk => hk.2) (.string t1282)) (fun _ hk => hk.2) (.slice Ao56 t1283.length co56)) (fun _ hk => hk.2) (.slice Ao57 t1286.length co57)) (fun _ h_ => h_.1))))) (Kd.R_lt (by (with_reducible repeat (first | apply Kd.R_alloc | apply Kd.R_drewN | apply Kd.R_drew)); exact (Kd.R_mono (Kd.R_far (p := ⟨gb1289, 3, none⟩) (Kd.R_far (p := ⟨gb1289, 2, none⟩) (Kd.R_far (p := ⟨gb1289, 1, none⟩) (Kd.R_far (p := ⟨gb1289, 0, none⟩) (Kd.R_types HO1277.out BK1289.out (by decide)) (fun _ hk => hk.2) (.slice Ao52 t1279.length co52)) (fun _ hk => hk.2) (.string t1282)) (fun _ hk => hk.2) (.slice Ao56 t1283.length co56)) (fun _ hk => hk.2) (.slice Ao57 t1286.length co57)) (fun _ h_ => h_.1))))) (Kd.R_lt (by (with_reducible repeat (first | apply Kd.R_alloc | apply Kd.R_drewN | apply Kd.R_drew)); exact (Kd.R_mono (Kd.R_far (p := ⟨gb1289, 3, none⟩) (Kd.R_far (p := ⟨gb1289, 2, none⟩) (Kd.R_far (p := ⟨gb1289, 1, none⟩) (Kd.R_far (p := ⟨gb1289, 0, none⟩) (Kd.R_types HO1288.out BK1289.out (by decide)) (fun _ hk => hk.2) (.slice Ao52 t1279.length co52)) (fun _ hk => hk.2) (.string t1282)) (fun _ hk => hk.2) (.slice Ao56 t1283.length co56)) (fun _ hk => hk.2) (.slice Ao57 t1286.length co57)) (fun _ h_ => h_.1))))) (below_size (by repeat (first | (with_reducible first | exact HB.out | apply below_alloc | apply pw_below_drewN | apply below_drew1 | refine below_set ?_ GE1254.out | refine below_set ?_ GE1255.out | refine below_set ?_ GE1289.out) | exact HB.out)))); have n12_ := Aside0.mk (blk_below (g := gb1254) (o := .cells #[.slice A0_0 l0_0.length c0_0, .string a0_1, .slice A0_2 l0_2.length c0_2, .slice A0_3 l0_3.length c0_3] 90 (0, 0)) (by (with_reducible repeat (first | refine blk_drewN ?_ _ | refine blk_drew ?_ | refine blk_alloc ?_ _)); refine blk_far ?_ NB1254_1289.out _; (with_reducible repeat (first | refine blk_drewN ?_ _ | refine blk_drew ?_ | refine blk_alloc ?_ _)); refine blk_far ?_ NB1254_1289.out _; (with_reducible repeat (first | refine blk_drewN ?_ _ | refine blk_drew ?_ | refine blk_alloc ?_ _)); refine blk_far ?_ NB1254_1289.out _; (with_reducible repeat (first | refine blk_drewN ?_ _ | refine blk_drew ?_ | refine blk_alloc ?_ _)); refine blk_far ?_ NB1254_1289.out _; (with_reducible repeat (first | refine blk_drewN ?_ _ | refine blk_drew ?_ | refine blk_alloc ?_ _)); exact BK1254.out) hb); have n13_ := Aside0.mk (blk_below (g := gb1255) (o := .cells #[.slice A1_0 l1_0.length c1_0, .string a1_1, .slice A1_2 l1_2.length c1_2, .slice A1_3 l1_3.length c1_3] 90 (0, 0)) (by (with_reducible repeat (first | refine blk_drewN ?_ _ | refine blk_drew ?_ | refine blk_alloc ?_ _)); refine blk_far ?_ NB1255_1289.out _; (with_reducible repeat (first | refine blk_drewN ?_ _ | refine blk_drew ?_ | refine blk_alloc ?_ _)); refine blk_far ?_ NB1255_1289.out _; (with_reducible repeat (first | refine blk_drewN ?_ _ | refine blk_drew ?_ | refine blk_alloc ?_ _)); refine blk_far ?_ NB1255_1289.out _; (with_reducible repeat (first | refine blk_drewN ?_ _ | refine blk_drew ?_ | refine blk_alloc ?_ _)); refine blk_far ?_ NB1255_1289.out _; (with_reducible repeat (first | refine blk_drewN ?_ _ | refine blk_drew ?_ | refine blk_alloc ?_ _)); exact BK1255.out) hb); have n14_ := Aside0.mk (blk_below (g := gb1289) (o := .cells #[.slice Ao52 t1279.length co52, .string t1282, .slice Ao56 t1283.length co56, .slice Ao57 t1286.length co57] 85 (0, 0)) (by (with_reducible repeat (first | refine blk_drewN ?_ _ | refine blk_drew ?_ | refine blk_alloc ?_ _)); refine blk_put (cs := #[.slice Ao52 t1279.length co52, .string t1282, .slice Ao56 t1283.length co56, .slice none 0 0]) ?_ 3 _ rfl; (with_reducible repeat (first | refine blk_drewN ?_ _ | refine blk_drew ?_ | refine blk_alloc ?_ _)); refine blk_put (cs := #[.slice Ao52 t1279.length co52, .string t1282, .slice none 0 0, .slice none 0 0]) ?_ 2 _ rfl; (with_reducible repeat (first | refine blk_drewN ?_ _ | refine blk_drew ?_ | refine blk_alloc ?_ _)); refine blk_put (cs := #[.slice Ao52 t1279.length co52, .string (⟨#[]⟩ : ByteArray), .slice none 0 0, .slice none 0 0]) ?_ 1 _ rfl; (with_reducible repeat (first | refine blk_drewN ?_ _ | refine blk_drew ?_ | refine blk_alloc ?_ _)); refine blk_put (cs := #[.slice none 0 0, .string (⟨#[]⟩ : ByteArray), .slice none 0 0, .slice none 0 0]) ?_ 0 _ rfl; (with_reducible repeat (first | refine blk_drewN ?_ _ | refine blk_drew ?_ | refine blk_alloc ?_ _)); exact BK1289.out) hb); have n15_ := Aside0.mk (below_step (by repeat (first | (with_reducible first | exact HB.out | apply below_alloc | apply pw_below_drewN | apply below_drew1 | refine below_set ?_ GE1254.out | refine below_set ?_ GE1255.out | refine below_set ?_ GE1289.out) | exact HB.out)) hb); clear HO1260; clear HO1264; clear HO1267; clear HO1270; clear HO1274; clear HO1277; clear HO1281; clear HO1285; clear HO1288; clear BK1254; clear BK1255; clear BK1289; clear HB; have HO1260 := n0_; have HO1264 := n1_; have HO1267 := n2_; have HO1270 := n3_; have HO1274 := n4_; have HO1277 := n5_; have HO1281 := n6_; have HO1285 := n7_; have HO1288 := n8_; have HO1292 := n9_; have HO1296 := n10_; have HO1299 := n11_; have BK1254 := n12_; have BK1255 := n13_; have BK1289 := n14_; have HB := n15_; clear n0_ n1_ n2_ n3_ n4_ n5_ n6_ n7_ n8_ n9_ n10_ n11_ n12_ n13_ n14_ n15_; (try clear hb); (try clear hb2); (try clear hk); (try clear hi); (try clear ho0); (try clear ho1); (try clear ho2)) | ((with_reducible refine gate_dst (N := 8) rfl ?_); refine box_event ?hg (N := 8) ?hd (cs := #[.slice none 0 0, .string (⟨#[]⟩ : ByteArray), .slice none 0 0, .slice none 0 0]) (t := 85) ?hr ?_; (case hd => rfl); (case hg => rfl); (case hr => first | (go_simp; done) | (go_simp; rfl)); intro gb1300 hg w60 hbox hb; have n0_ := Aside0.mk (Kd.R_below (by (with_reducible repeat (first | apply Kd.R_alloc | apply Kd.R_drewN | apply Kd.R_drew)); exact HO1260.out) hb); have n1_ := Aside0.mk (Kd.S_below (by (with_reducible repeat (first | apply Kd.S_alloc | apply Kd.S_drewN | apply Kd.S_drew)); exact HO1264.out) hb); have n2_ := Aside0.mk (Kd.R_below (by (with_reducible repeat (first | apply Kd.R_alloc | apply Kd.R_drewN | apply Kd.R_drew)); exact HO1267.out) hb); have n3_ := Aside0.mk (Kd.R_below (by (with_reducible repeat (first | apply Kd.R_alloc | apply Kd.R_drewN | apply Kd.R_drew)); exact HO1270.out) hb); have n4_ := Aside0.mk (Kd.S_below (by (with_reducible repeat (first | apply Kd.S_alloc | apply Kd.S_drewN | apply Kd.S_drew)); exact HO1274.out) hb); have n5_ := Aside0.mk (Kd.R_below (by (with_reducible repeat (first | apply Kd.R_alloc | apply Kd.R_drewN | apply Kd.R_drew)); exact HO1277.out) hb); have n6_ := Aside0.mk (Kd.R_below (by (with_reducible repeat (first | apply Kd.R_alloc | apply Kd.R_drewN | apply Kd.R_drew)); exact HO1281.out) hb); have n7_ := Aside0.mk (Kd.S_below (by (with_reducible repeat (first | apply Kd.S_alloc | apply Kd.S_drewN | apply Kd.S_drew)); exact HO1285.out) hb); have n8_ := Aside0.mk (Kd.R_below (by (with_reducible repeat (first | apply Kd.R_alloc | apply Kd.R_drewN | apply Kd.R_drew)); exact HO1288.out) hb); have n9_ := Aside0.mk (Kd.R_below (by (with_reducible repeat (first | apply Kd.R_alloc | apply Kd.R_drewN | apply Kd.R_drew)); exact HO1292.out) hb); have n10_ := Aside0.mk (Kd.S_below (by (with_reducible repeat (first | apply Kd.S_alloc | apply Kd.S_drewN | apply Kd.S_drew)); exact HO1296.out) hb); have n11_ := Aside0.mk (Kd.R_below (by (with_reducible repeat (first | apply Kd.R_alloc | apply Kd.R_drewN | apply Kd.R_drew)); exact HO1299.out) hb); have n12_ := Aside0.mk (blk_below (g := gb1254) (o := .cells #[.slice A0_0 l0_0.length c0_0, .string a0_1, .slice A0_2 l0_2.length c0_2, .slice A0_3 l0_3.length c0_3] 90 (0, 0)) (by (with_reducible repeat (first | refine blk_drewN ?_ _ | refine blk_drew ?_ | refine blk_alloc ?_ _)); exact BK1254.out) hb); have n13_ := Aside0.mk (blk_below (g := gb1255) (o := .cells #[.slice A1_0 l1_0.length c1_0, .string a1_1, .slice A1_2 l1_2.length c1_2, .slice A1_3 l1_3.length c1_3] 90 (0, 0)) (by (with_reducible repeat (first | refine blk_drewN ?_ _ | refine blk_drew ?_ | refine blk_alloc ?_ _)); exact BK1255.out) hb); have n14_ := Aside0.mk (blk_below (g := gb1289) (o := .cells #[.slice Ao52 t1279.length co52, .string t1282, .slice Ao56 t1283.length co56, .slice Ao57 t1286.length co57] 85 (0, 0)) (by (with_reducible repeat (first | refine blk_drewN ?_ _ | refine blk_drew ?_ | refine blk_alloc ?_ _)); exact BK1289.out) hb); have n15_ := Aside0.mk (below_step (by repeat (first | (with_reducible first | exact HB.out | apply below_alloc | apply pw_below_drewN | apply below_drew1 | refine below_set ?_ GE1254.out | refine below_set ?_ GE1255.out | refine below_set ?_ GE1289.out) | exact HB.out)) hb); have n16_ := Aside0.mk (hbox); have n17_ := Aside0.mk ((by rw [hg]; exact (below_size (by repeat (first | (with_reducible first | exact HB.out | apply below_alloc | apply pw_below_drewN | apply below_drew1 | refine below_set ?_ GE1254.out | refine below_set ?_ GE1255.out | refine below_set ?_ GE1289.out) | exact HB.out))) : w.heap.size ≤ gb1300)); have n18_ := Aside0.mk ((by rw [hg]; exact (below_size (by repeat (first | (with_reducible first | exact HB.out | apply below_alloc | apply pw_below_drewN | apply below_drew1 | refine below_set ?_ GE1254.out | refine below_set ?_ GE1255.out | refine below_set ?_ GE1289.out) | exact HB.out))) : w.heap.size ≤ gb1300)); have n19_ := Aside0.mk ((by rw [hg]; exact Nat.ne_of_lt (blk_lt (g := gb1254) (o := .cells #[.slice A0_0 l0_0.length c0_0, .string a0_1, .slice A0_2 l0_2.length c0_2, .slice A0_3 l0_3.length c0_3] 90 (0, 0)) (by (with_reducible repeat (first | refine blk_drewN ?_ _ | refine blk_drew ?_ | refine blk_alloc ?_ _)); exact BK1254.out)) : gb1254 ≠ gb1300)); have n20_ := Aside0.mk ((by rw [hg]; exact Nat.ne_of_gt (blk_lt (g := gb1254) (o := .cells #[.slice A0_0 l0_0.length c0_0, .string a0_1, .slice A0_2 l0_2.length c0_2, .slice A0_3 l0_3.length c0_3] 90 (0, 0)) (by (with_reducible repeat (first | refine blk_drewN ?_ _ | refine blk_drew ?_ | refine blk_alloc ?_ _)); exact BK1254.out)) : gb1300 ≠ gb1254)); have n21_ := Aside0.mk ((by rw [hg]; exact Nat.ne_of_lt (blk_lt (g := gb1255) (o := .cells #[.slice A1_0 l1_0.length c1_0, .string a1_1, .slice A1_2 l1_2.length c1_2, .slice A1_3 l1_3.length c1_3] 90 (0, 0)) (by (with_reducible repeat (first | refine blk_drewN ?_ _ | refine blk_drew ?_ | refine blk_alloc ?_ _)); exact BK1255.out)) : gb1255 ≠ gb1300)); have n22_ := Aside0.mk ((by rw [hg]; exact Nat.ne_of_gt (blk_lt (g := gb1255) (o := .cells #[.slice A1_0 l1_0.length c1_0, .string a1_1, .slice A1_2 l1_2.length c1_2, .slice A1_3 l1_3.length c1_3] 90 (0, 0)) (by (with_reducible repeat (first | refine blk_drewN ?_ _ | refine blk_drew ?_ | refine blk_alloc ?_ _)); exact BK1255.out)) : gb1300 ≠ gb1255)); have n23_ := Aside0.mk ((by rw [hg]; exact Nat.ne_of_lt (blk_lt (g := gb1289) (o := .cells #[.slice Ao52 t1279.length co52, .string t1282, .slice Ao56 t1283.length co56, .slice Ao57 t1286.length co57] 85 (0, 0)) (by (with_reducible repeat (first | refine blk_drewN ?_ _ | refine blk_drew ?_ | refine blk_alloc ?_ _)); exact BK1289.out)) : gb1289 ≠ gb1300)); have n24_ := Aside0.mk ((by rw [hg]; exact Nat.ne_of_gt (blk_lt (g := gb1289) (o := .cells #[.slice Ao52 t1279.length co52, .string t1282, .slice Ao56 t1283.length co56, .slice Ao57 t1286.length co57] 85 (0, 0)) (by (with_reducible repeat (first | refine blk_drewN ?_ _ | refine blk_drew ?_ | refine blk_alloc ?_ _)); exact BK1289.out)) : gb1300 ≠ gb1289)); clear HO1260; clear HO1264; clear HO1267; clear HO1270; clear HO1274; clear HO1277; clear HO1281; clear HO1285; clear HO1288; clear HO1292; clear HO1296; clear HO1299; clear BK1254; clear BK1255; clear BK1289; clear HB; have HO1260 := n0_; have HO1264 := n1_; have HO1267 := n2_; have HO1270 := n3_; have HO1274 := n4_; have HO1277 := n5_; have HO1281 := n6_; have HO1285 := n7_; have HO1288 := n8_; have HO1292 := n9_; have HO1296 := n10_; have HO1299 := n11_; have BK1254 := n12_; have BK1255 := n13_; have BK1289 := n14_; have HB := n15_; have BK1300 := n16_; have GW1300 := n17_; have GE1300 := n18_; have NB1254_1300 := n19_; have NB1300_1254 := n20_; have NB1255_1300 := n21_; have NB1300_1255 := n22_; have NB1289_1300 := n23_; have NB1300_1289 := n24_; clear n0_ n1_ n2_ n3_ n4_ n5_ n6_ n7_ n8_ n9_ n10_ n11_ n12_ n13_ n14_ n15_ n16_ n17_ n18_ n19_ n20_ n21_ n22_ n23_ n24_; clear hb hbox hg; obtain ⟨Ao61, co61, eo61⟩ := Kd.R_slice HO1292.out; subst eo61; have hnb62 := NB1300_1254.out; have hnc62 := NB1254_1300.out; have hnb63 := NB1300_1255.out; have hnc63 := NB1255_1300.out; have hnb64 := NB1300_1289.out; have hnc64 := NB1289_1300.out; have hcz65_0 : w60.cell? ⟨gb1300, 0, none⟩ = some (.slice none 0 0) := (blk_cell BK1300.out 0).trans rfl; have hcz65_1 : w60.cell? ⟨gb1300, 1, none⟩ = some (.string (⟨#[]⟩ : ByteArray)) := (blk_cell BK1300.out 1).trans rfl; have hcz65_2 : w60.cell? ⟨gb1300, 2, none⟩ = some (.slice none 0 0) := (blk_cell BK1300.out 2).trans rfl; have hcz65_3 : w60.cell? ⟨gb1300, 3, none⟩ = some (.slice none 0 0) := (blk_cell BK1300.out 3).trans rfl; have hfz65_0 := blk_frozen BK1300.out 0; have hfz65_1 := blk_frozen BK1300.out 1; have hfz65_2 := blk_frozen BK1300.out 2; have hfz65_3 := blk_frozen BK1300.out 3; obtain ⟨Ao66, co66, eo66⟩ := Kd.S_slice HO1296.out; subst eo66; obtain ⟨Ao67, co67, eo67⟩ := Kd.R_slice HO1299.out; subst eo67; have hcz68_0 : w60.cell? ⟨gb1289, 0, none⟩ = some (.slice Ao52 t1279.length co52) := (blk_cell BK1289.out 0).trans rfl; have hcz68_1 : w60.cell? ⟨gb1289, 1, none⟩ = some (.string t1282) := (blk_cell BK1289.out 1).trans rfl; have hcz68_2 : w60.cell? ⟨gb1289, 2, none⟩ = some (.slice Ao56 t1283.length co56) := (blk_cell BK1289.out 2).trans rfl; have hcz68_3 : w60.cell? ⟨gb1289, 3, none⟩ = some (.slice Ao57 t1286.length co57) := (blk_cell BK1289.out 3).trans rfl; have hfz68_0 := blk_frozen BK1289.out 0; have hfz68_1 := blk_frozen BK1289.out 1; have hfz68_2 := blk_frozen BK1289.out 2; have hfz68_3 := blk_frozen BK1289.out 3) | ((with_reducible refine gate_callee (f := 62) rfl ?_); refine goesL_ (some 31) rfl rfl Try.func62 (by kernel_rfl) rfl #[.agg #[.slice Ao52 t1279.length co52, .string t1282, .slice Ao56 t1283.length co56, .slice Ao57 t1286.length co57], .agg #[.slice Ao61 t1290.length co61, .string t1293, .slice Ao66 t1294.length co66, .slice Ao67 t1297.length co67]] rfl (by (try simp only [List.map_toArray, List.map_cons, List.map_nil]); first | done | rfl | (simp only [List.length_drop, List.length_take]; rfl)) ?_; (with_reducible refine (impl_SameTable.calls k _ _ t1279 t1282 _ _ t1283 _ _ t1286 _ _ t1290 t1293 _ _ t1294 _ _ t1297 t1301 _ ?side1 ?side2 ?side3 ?side4 ?side5 ?side6 ?side7 ?side8 ?side9 ?side10 ?side11 ?side12 A24.out).mono ?_); (case side1 => refine (Kd.R_reads' (e := 9) (base := w.heap.size) (ok := fun k_ => (((True ∧ some k_ ≠ (.slice Ao42 t1258.length co42 : Value).ownBlock) ∧ some k_ ≠ (.slice Ao45 t1268.length co45 : Value).ownBlock) ∧ some k_ ≠ (.slice Ao61 t1290.length co61 : Value).ownBlock)) (n := t1279.length) (c := co52) ?_).2.2; exact (by (with_reducible repeat (first | apply Kd.R_alloc | apply Kd.R_drewN | apply Kd.R_drew)); exact (Kd.R_mono (Kd.R_far (p := ⟨gb1300, 3, none⟩) (Kd.R_far (p := ⟨gb1300, 2, none⟩) (Kd.R_far (p := ⟨gb1300, 1, none⟩) (Kd.R_far (p := ⟨gb1300, 0, none⟩) (Kd.R_types HO1281.out BK1300.out (by decide)) (fun _ hk => hk.2) (.slice Ao61 t1290.length co61)) (fun _ hk => hk.2) (.string t1293)) (fun _ hk => hk.2) (.slice Ao66 t1294.length co66)) (fun _ hk => hk.2) (.slice Ao67 t1297.length co67)) (fun _ h_ => h_.1)))); (case side2 => exact (Kd.R_reads' HO1281.out).2.1); (case side3 => refine (Kd.S_reads' (e := 48) (base := w.heap.size) (ok := fun k_ => ((((((some k_ ≠ (.slice Ao57 t1286.length co57 : Value).ownBlock ∧ some k_ ≠ (.slice Ao43 t1262.length co43 : Value).ownBlock) ∧ some k_ ≠ (.slice Ao44 t1265.length co44 : Value).ownBlock) ∧ some k_ ≠ (.slice Ao46 t1272.length co46 : Value).ownBlock) ∧ some k_ ≠ (.slice Ao47 t1275.length co47 : Value).ownBlock) ∧ some k_ ≠ (.slice Ao66 t1294.length co66 : Value).ownBlock) ∧ some k_ ≠ (.slice Ao67 t1297.length co67 : Value).ownBlock)) (n := t1283.length) (c := co56) ?_).2.2; exact (by (with_reducible repeat (first | apply Kd.S_alloc | apply Kd.S_drewN | apply Kd.S_drew)); exact (Kd.S_mono (Kd.S_far (p := ⟨gb1300, 3, none⟩) (Kd.S_far (p := ⟨gb1300, 2, none⟩) (Kd.S_far (p := ⟨gb1300, 1, none⟩) (Kd.S_far (p := ⟨gb1300, 0, none⟩) (Kd.S_types HO1285.out BK1300.out (by decide)) (fun _ hk => hk.2) (.slice Ao61 t1290.length co61)) (fun _ hk => hk.2) (.string t1293)) (fun _ hk => hk.2) (.slice Ao66 t1294.length co66)) (fun _ hk => hk.2) (.slice Ao67 t1297.length co67)) (fun _ h_ => h_.1)))); (case side4 => exact (Kd.S_reads' HO1285.out).2.1); (case side5 => refine (Kd.R_reads' (e := 3) (base := w.heap.size) (ok := fun k_ => (((True ∧ some k_ ≠ (.slice Ao44 t1265.length co44 : Value).ownBlock) ∧ some k_ ≠ (.slice Ao47 t1275.length co47 : Value).ownBlock) ∧ some k_ ≠ (.slice Ao67 t1297.length co67 : Value).ownBlock)) (n := t1286.length) (c := co57) ?_).2.2; exact (by (with_reducible repeat (first | apply Kd.R_alloc | apply Kd.R_drewN | apply Kd.R_drew)); exact (Kd.R_mono (Kd.R_far (p := ⟨gb1300, 3, none⟩) (Kd.R_far (p := ⟨gb1300, 2, none⟩) (Kd.R_far (p := ⟨gb1300, 1, none⟩) (Kd.R_far (p := ⟨gb1300, 0, none⟩) (Kd.R_types HO1288.out BK1300.out (by decide)) (fun _ hk => hk.2) (.slice Ao61 t1290.length co61)) (fun _ hk => hk.2) (.string t1293)) (fun _ hk => hk.2) (.slice Ao66 t1294.length co66)) (fun _ hk => hk.2) (.slice Ao67 t1297.length co67)) (fun _ h_ => h_.1)))); (case side6 => exact (Kd.R_reads' HO1288.out).2.1); (case side7 => refine (Kd.R_reads' (e := 9) (base := w.heap.size) (ok := fun k_ => (((True ∧ some k_ ≠ (.slice Ao42 t1258.length co42 : Value).ownBlock) ∧ some k_ ≠ (.slice Ao45 t1268.length co45 : Value).ownBlock) ∧ some k_ ≠ (.slice Ao52 t1279.length co52 : Value).ownBlock)) (n := t1290.length) (c := co61) ?_).2.2; exact (by (with_reducible repeat (first | apply Kd.R_alloc | apply Kd.R_drewN | apply Kd.R_drew)); exact (Kd.R_mono (Kd.R_far (p := ⟨gb1300, 3, none⟩) (Kd.R_far (p := ⟨gb1300, 2, none⟩) (Kd.R_far (p := ⟨gb1300, 1, none⟩) (Kd.R_far (p := ⟨gb1300, 0, none⟩) (Kd.R_types HO1292.out BK1300.out (by decide)) (fun _ hk => hk.2) (.slice Ao61 t1290.length co61)) (fun _ hk => hk.2) (.string t1293)) (fun _ hk => hk.2) (.slice Ao66 t1294.length co66)) (fun _ hk => hk.2) (.slice Ao67 t1297.length co67)) (fun _ h_ => h_.1)))); (case side8 => exact (Kd.R_reads' HO1292.out).2.1); (case side9 => refine (Kd.S_reads' (e := 48) (base := w.heap.size) (ok := fun k_ => ((((((some k_ ≠ (.slice Ao67 t1297.length co67 : Value).ownBlock ∧ some k_ ≠ (.slice Ao43 t1262.length co43 : Value).ownBlock) ∧ some k_ ≠ (.slice Ao44 t1265.length co44 : Value).ownBlock) ∧ some k_ ≠ (.slice Ao46 t1272.length co46 : Value).ownBlock) ∧ some k_ ≠ (.slice Ao47 t1275.length co47 : Value).ownBlock) ∧ some k_ ≠ (.slice Ao56 t1283.length co56 : Value).ownBlock) ∧ some k_ ≠ (.slice Ao57 t1286.length co57 : Value).ownBlock)) (n := t1294.length) (c := co66) ?_).2.2; exact (by (with_reducible repeat (first | apply Kd.S_alloc | apply Kd.S_drewN | apply Kd.S_drew)); exact (Kd.S_mono (Kd.S_far (p := ⟨gb1300, 3, none⟩) (Kd.S_far (p := ⟨gb1300, 2, none⟩) (Kd.S_far (p := ⟨gb1300, 1, none⟩) (Kd.S_far (p := ⟨gb1300, 0, none⟩) (Kd.S_types HO1296.out BK1300.out (by decide)) (fun _ hk => hk.2) (.slice Ao61 t1290.length co61)) (fun _ hk => hk.2) (.string t1293)) (fun _ hk => hk.2) (.slice Ao66 t1294.length co66)) (fun _ hk => hk.2) (.slice Ao67 t1297.length co67)) (fun _ h_ => h_.1)))); (case side10 => exact (Kd.S_reads' HO1296.out).2.1); (case side11 => refine (Kd.R_reads' (e := 3) (base := w.heap.size) (ok := fun k_ => (((True ∧ some k_ ≠ (.slice Ao44 t1265.length co44 : Value).ownBlock) ∧ some k_ ≠ (.slice Ao47 t1275.length co47 : Value).ownBlock) ∧ some k_ ≠ (.slice Ao57 t1286.length co57 : Value).ownBlock)) (n := t1297.length) (c := co67) ?_).2.2; exact (by (with_reducible repeat (first | apply Kd.R_alloc | apply Kd.R_drewN | apply Kd.R_drew)); exact (Kd.R_mono (Kd.R_far (p := ⟨gb1300, 3, none⟩) (Kd.R_far (p := ⟨gb1300, 2, none⟩) (Kd.R_far (p := ⟨gb1300, 1, none⟩) (Kd.R_far (p := ⟨gb1300, 0, none⟩) (Kd.R_types HO1299.out BK1300.out (by decide)) (fun _ hk => hk.2) (.slice Ao61 t1290.length co61)) (fun _ hk => hk.2) (.string t1293)) (fun _ hk => hk.2) (.slice Ao66 t1294.length co66)) (fun _ hk => hk.2) (.slice Ao67 t1297.length co67)) (fun _ h_ => h_.1)))); (case side12 => exact (Kd.R_reads' HO1299.out).2.1); rintro e w69 ⟨rfl, hb⟩; refine ⟨_, rfl, ?_⟩; have n0_ := Aside0.mk (Kd.R_below (by (with_reducible repeat (first | apply Kd.R_alloc | apply Kd.R_drewN | apply Kd.R_drew)); exact (Kd.R_mono (Kd.R_far (p := ⟨gb1300, 3, none⟩) (Kd.R_far (p := ⟨gb1300, 2, none⟩) (Kd.R_far (p := ⟨gb1300, 1, none⟩) (Kd.R_far (p := ⟨gb1300, 0, none⟩) (Kd.R_types HO1260.out BK1300.out (by decide)) (fun _ hk => hk.2) (.slice Ao61 t1290.length co61)) (fun _ hk => hk.2) (.string t1293)) (fun _ hk => hk.2) (.slice Ao66 t1294.length co66)) (fun _ hk => hk.2) (.slice Ao67 t1297.length co67)) (fun _ h_ => h_.1))) hb); have n1_ := Aside0.mk (Kd.S_below (by (with_reducible repeat (first | apply Kd.S_alloc | apply Kd.S_drewN | apply Kd.S_drew)); exact (Kd.S_mono (Kd.S_far (p := ⟨gb1300, 3, none⟩) (Kd.S_far (p := ⟨gb1300, 2, none⟩) (Kd.S_far (p := ⟨gb1300, 1, none⟩) (Kd.S_far (p := ⟨gb1300, 0, none⟩) (Kd.S_types HO1264.out BK1300.out (by decide)) (fun _ hk => hk.2) (.slice Ao61 t1290.length co61)) (fun _ hk => hk.2) (.string t1293)) (fun _ hk => hk.2) (.slice Ao66 t1294.length co66)) (fun _ hk => hk.2) (.slice Ao67 t1297.length co67)) (fun _ h_ => h_.1))) hb); have n2_ := Aside0.mk (Kd.R_below (by (with_reducible repeat (first | apply Kd.R_alloc | apply Kd.R_drewN | apply Kd.R_drew)); exact (Kd.R_mono (Kd.R_far (p := ⟨gb1300, 3, none⟩) (Kd.R_far (p := ⟨gb1300, 2, none⟩) (Kd.R_far (p := ⟨gb1300, 1, none⟩) (Kd.R_far (p := ⟨gb1300, 0, none⟩) (Kd.R_types HO1267.out BK1300.out (by decide)) (fun _ hk => hk.2) (.slice Ao61 t1290.length co61)) (fun _ hk => hk.2) (.string t1293)) (fun _ hk => hk.2) (.slice Ao66 t1294.length co66)) (fun _ hk => hk.2) (.slice Ao67 t1297.length co67)) (fun _ h_ => h_.1))) hb); have n3_ := Aside0.mk (Kd.R_below (by (with_reducible repeat (first | apply Kd.R_alloc | apply Kd.R_drewN | apply Kd.R_drew)); exact (Kd.R_mono (Kd.R_far (p := ⟨gb1300, 3, none⟩) (Kd.R_far (p := ⟨gb1300, 2, none⟩) (Kd.R_far (p := ⟨gb1300, 1, none⟩) (Kd.R_far (p := ⟨gb1300, 0, none⟩) (Kd.R_types HO1270.out BK1300.out (by decide)) (fun _ hk => hk.2) (.slice Ao61 t1290.length co61)) (fun _ hk => hk.2) (.string t1293)) (fun _ hk => hk.2) (.slice Ao66 t1294.length co66)) (fun _ hk => hk.2) (.slice Ao67 t1297.length co67)) (fun _ h_ => h_.1))) hb); have n4_ := Aside0.mk (Kd.S_below (by (with_reducible repeat (first | apply Kd.S_alloc | apply Kd.S_drewN | apply Kd.S_drew)); exact (Kd.S_mono (Kd.S_far (p := ⟨gb1300, 3, none⟩) (Kd.S_far (p := ⟨gb1300, 2, none⟩) (Kd.S_far (p := ⟨gb1300, 1, none⟩) (Kd.S_far (p := ⟨gb1300, 0, none⟩) (Kd.S_types HO1274.out BK1300.out (by decide)) (fun _ hk => hk.2) (.slice Ao61 t1290.length co61)) (fun _ hk => hk.2) (.string t1293)) (fun _ hk => hk.2) (.slice Ao66 t1294.length co66)) (fun _ hk => hk.2) (.slice Ao67 t1297.length co67)) (fun _ h_ => h_.1))) hb); have n5_ := Aside0.mk (Kd.R_below (by (with_reducible repeat (first | apply Kd.R_alloc | apply Kd.R_drewN | apply Kd.R_drew)); exact (Kd.R_mono (Kd.R_far (p := ⟨gb1300, 3, none⟩) (Kd.R_far (p := ⟨gb1300, 2, none⟩) (Kd.R_far (p := ⟨gb1300, 1, none⟩) (Kd.R_far (p := ⟨gb1300, 0, none⟩) (Kd.R_types HO1277.out BK1300.out (by decide)) (fun _ hk => hk.2) (.slice Ao61 t1290.length co61)) (fun _ hk => hk.2) (.string t1293)) (fun _ hk => hk.2) (.slice Ao66 t1294.length co66)) (fun _ hk => hk.2) (.slice Ao67 t1297.length co67)) (fun _ h_ => h_.1))) hb); have n6_ := Aside0.mk (Kd.R_below (by (with_reducible repeat (first | apply Kd.R_alloc | apply Kd.R_drewN | apply Kd.R_drew)); exact (Kd.R_mono (Kd.R_far (p := ⟨gb1300, 3, none⟩) (Kd.R_far (p := ⟨gb1300, 2, none⟩) (Kd.R_far (p := ⟨gb1300, 1, none⟩) (Kd.R_far (p := ⟨gb1300, 0, none⟩) (Kd.R_types HO1281.out BK1300.out (by decide)) (fun _ hk => hk.2) (.slice Ao61 t1290.length co61)) (fun _ hk => hk.2) (.string t1293)) (fun _ hk => hk.2) (.slice Ao66 t1294.length co66)) (fun _ hk => hk.2) (.slice Ao67 t1297.length co67)) (fun _ h_ => h_.1))) hb); have n7_ := Aside0.mk (Kd.S_below (by (with_reducible repeat (first | apply Kd.S_alloc | apply Kd.S_drewN | apply Kd.S_drew)); exact (Kd.S_mono (Kd.S_far (p := ⟨gb1300, 3, none⟩) (Kd.S_far (p := ⟨gb1300, 2, none⟩) (Kd.S_far (p := ⟨gb1300, 1, none⟩) (Kd.S_far (p := ⟨gb1300, 0, none⟩) (Kd.S_types HO1285.out BK1300.out (by decide)) (fun _ hk => hk.2) (.slice Ao61 t1290.length co61)) (fun _ hk => hk.2) (.string t1293)) (fun _ hk => hk.2) (.slice Ao66 t1294.length co66)) (fun _ hk => hk.2) (.slice Ao67 t1297.length co67)) (fun _ h_ => h_.1))) hb); have n8_ := Aside0.mk (Kd.R_below (by (with_reducible repeat (first | apply Kd.R_alloc | apply Kd.R_drewN | apply Kd.R_drew)); exact (Kd.R_mono (Kd.R_far (p := ⟨gb1300, 3, none⟩) (Kd.R_far (p := ⟨gb1300, 2, none⟩) (Kd.R_far (p := ⟨gb1300, 1, none⟩) (Kd.R_far (p := ⟨gb1300, 0, none⟩) (Kd.R_types HO1288.out BK1300.out (by decide)) (fun _ hk => hk.2) (.slice Ao61 t1290.length co61)) (fun _ hk => hk.2) (.string t1293)) (fun _ hk => hk.2) (.slice Ao66 t1294.length co66)) (fun _ hk => hk.2) (.slice Ao67 t1297.length co67)) (fun _ h_ => h_.1))) hb); have n9_ := Aside0.mk (Kd.R_below (by (with_reducible repeat (first | apply Kd.R_alloc | apply Kd.R_drewN | apply Kd.R_drew)); exact (Kd.R_mono (Kd.R_far (p := ⟨gb1300, 3, none⟩) (Kd.R_far (p := ⟨gb1300, 2, none⟩) (Kd.R_far (p := ⟨gb1300, 1, none⟩) (Kd.R_far (p := ⟨gb1300, 0, none⟩) (Kd.R_types HO1292.out BK1300.out (by decide)) (fun _ hk => hk.2) (.slice Ao61 t1290.length co61)) (fun _ hk => hk.2) (.string t1293)) (fun _ hk => hk.2) (.slice Ao66 t1294.length co66)) (fun _ hk => hk.2) (.slice Ao67 t1297.length co67)) (fun _ h_ => h_.1))) hb); have n10_ := Aside0.mk (Kd.S_below (by (with_reducible repeat (first | apply Kd.S_alloc | apply Kd.S_drewN | apply Kd.S_drew)); exact (Kd.S_mono (Kd.S_far (p := ⟨gb1300, 3, none⟩) (Kd.S_far (p := ⟨gb1300, 2, none⟩) (Kd.S_far (p := ⟨gb1300, 1, none⟩) (Kd.S_far (p := ⟨gb1300, 0, none⟩) (Kd.S_types HO1296.out BK1300.out (by decide)) (fun _ hk => hk.2) (.slice Ao61 t1290.length co61)) (fun _ hk => hk.2) (.string t1293)) (fun _ hk => hk.2) (.slice Ao66 t1294.length co66)) (fun _ hk => hk.2) (.slice Ao67 t1297.length co67)) (fun _ h_ => h_.1))) hb); have n11_ := Aside0.mk (Kd.R_below (by (with_reducible repeat (first | apply Kd.R_alloc | apply Kd.R_drewN | apply Kd.R_drew)); exact (Kd.R_mono (Kd.R_far (p := ⟨gb1300, 3, none⟩) (Kd.R_far (p := ⟨gb1300, 2, none⟩) (Kd.R_far (p := ⟨gb1300, 1, none⟩) (Kd.R_far (p := ⟨gb1300, 0, none⟩) (Kd.R_types HO1299.out BK1300.out (by decide)) (fun _ hk => hk.2) (.slice Ao61 t1290.length co61)) (fun _ hk => hk.2) (.string t1293)) (fun _ hk => hk.2) (.slice Ao66 t1294.length co66)) (fun _ hk => hk.2) (.slice Ao67 t1297.length co67)) (fun _ h_ => h_.1))) hb); have n12_ := Aside0.mk (blk_below (g := gb1254) (o := .cells #[.slice A0_0 l0_0.length c0_0, .string a0_1, .slice A0_2 l0_2.length c0_2, .slice A0_3 l0_3.length c0_3] 90 (0, 0)) (by (with_reducible repeat (first | refine blk_drewN ?_ _ | refine blk_drew ?_ | refine blk_alloc ?_ _)); refine blk_far ?_ NB1254_1300.out _; (with_reducible repeat (first | refine blk_drewN ?_ _ | refine blk_drew ?_ | refine blk_alloc ?_ _)); refine blk_far ?_ NB1254_1300.out _; (with_reducible repeat (first | refine blk_drewN ?_ _ | refine blk_drew ?_ | refine blk_alloc ?_ _)); refine blk_far ?_ NB1254_1300.out _; (with_reducible repeat (first | refine blk_drewN ?_ _ | refine blk_drew ?_ | refine blk_alloc ?_ _)); refine blk_far ?_ NB1254_1300.out _; (with_reducible repeat (first | refine blk_drewN ?_ _ | refine blk_drew ?_ | refine blk_alloc ?_ _)); exact BK1254.out) hb); have n13_ := Aside0.mk (blk_below (g := gb1255) (o := .cells #[.slice A1_0 l1_0.length c1_0, .string a1_1, .slice A1_2 l1_2.length c1_2, .slice A1_3 l1_3.length c1_3] 90 (0, 0)) (by (with_reducible repeat (first | refine blk_drewN ?_ _ | refine blk_drew ?_ | refine blk_alloc ?_ _)); refine blk_far ?_ NB1255_1300.out _; (with_reducible repeat (first | refine blk_drewN ?_ _ | refine blk_drew ?_ | refine blk_alloc ?_ _)); refine blk_far ?_ NB1255_1300.out _; (with_reducible repeat (first | refine blk_drewN ?_ _ | refine blk_drew ?_ | refine blk_alloc ?_ _)); refine blk_far ?_ NB1255_1300.out _; (with_reducible repeat (first | refine blk_drewN ?_ _ | refine blk_drew ?_ | refine blk_alloc ?_ _)); refine blk_far ?_ NB1255_1300.out _; (with_reducible repeat (first | refine blk_drewN ?_ _ | refine blk_drew ?_ | refine blk_alloc ?_ _)); exact BK1255.out) hb); have n14_ := Aside0.mk (blk_below (g := gb1289) (o := .cells #[.slice Ao52 t1279.length co52, .string t1282, .slice Ao56 t1283.length co56, .slice Ao57 t1286.length co57] 85 (0, 0)) (by (with_reducible repeat (first | refine blk_drewN ?_ _ | refine blk_drew ?_ | refine blk_alloc ?_ _)); refine blk_far ?_ NB1289_1300.out _; (with_reducible repeat (first | refine blk_drewN ?_ _ | refine blk_drew ?_ | refine blk_alloc ?_ _)); refine blk_far ?_ NB1289_1300.out _; (with_reducible repeat (first | refine blk_drewN ?_ _ | refine blk_drew ?_ | refine blk_alloc ?_ _)); refine blk_far ?_ NB1289_1300.out _; (with_reducible repeat (first | refine blk_drewN ?_ _ | refine blk_drew ?_ | refine blk_alloc ?_ _)); refine blk_far ?_ NB1289_1300.out _; (with_reducible repeat (first | refine blk_drewN ?_ _ | refine blk_drew ?_ | refine blk_alloc ?_ _)); exact BK1289.out) hb); have n15_ := Aside0.mk (blk_below (g := gb1300) (o := .cells #[.slice Ao61 t1290.length co61, .string t1293, .slice Ao66 t1294.length co66, .slice Ao67 t1297.length co67] 85 (0, 0)) (by (with_reducible repeat (first | refine blk_drewN ?_ _ | refine blk_drew ?_ | refine blk_alloc ?_ _)); refine blk_put (cs := #[.slice Ao61 t1290.length co61, .string t1293, .slice Ao66 t1294.length co66, .slice none 0 0]) ?_ 3 _ rfl; (with_reducible repeat (first | refine blk_drewN ?_ _ | refine blk_drew ?_ | refine blk_alloc ?_ _)); refine blk_put (cs := #[.slice Ao61 t1290.length co61, .string t1293, .slice none 0 0, .slice none 0 0]) ?_ 2 _ rfl; (with_reducible repeat (first | refine blk_drewN ?_ _ | refine blk_drew ?_ | refine blk_alloc ?_ _)); refine blk_put (cs := #[.slice Ao61 t1290.length co61, .string (⟨#[]⟩ : ByteArray), .slice none 0 0, .slice none 0 0]) ?_ 1 _ rfl; (with_reducible repeat (first | refine blk_drewN ?_ _ | refine blk_drew ?_ | refine blk_alloc ?_ _)); refine blk_put (cs := #[.slice none 0 0, .string (⟨#[]⟩ : ByteArray), .slice none 0 0, .slice none 0 0]) ?_ 0 _ rfl; (with_reducible repeat (first | refine blk_drewN ?_ _ | refine blk_drew ?_ | refine blk_alloc ?_ _)); exact BK1300.out) hb); have n16_ := Aside0.mk (below_step (by repeat (first | (with_reducible first | exact HB.out | apply below_alloc | apply pw_below_drewN | apply below_drew1 | refine below_set ?_ GE1254.out | refine below_set ?_ GE1255.out | refine below_set ?_ GE1289.out | refine below_set ?_ GE1300.out) | exact HB.out)) hb); clear HO1260; clear HO1264; clear HO1267; clear HO1270; clear HO1274; clear HO1277; clear HO1281; clear HO1285; clear HO1288; clear HO1292; clear HO1296; clear HO1299; clear BK1254; clear BK1255; clear BK1289; clear BK1300; clear HB; have HO1260 := n0_; have HO1264 := n1_; have HO1267 := n2_; have HO1270 := n3_; have HO1274 := n4_; have HO1277 := n5_; have HO1281 := n6_; have HO1285 := n7_; have HO1288 := n8_; have HO1292 := n9_; have HO1296 := n10_; have HO1299 := n11_; have BK1254 := n12_; have BK1255 := n13_; have BK1289 := n14_; have BK1300 := n15_; have HB := n16_; clear n0_ n1_ n2_ n3_ n4_ n5_ n6_ n7_ n8_ n9_ n10_ n11_ n12_ n13_ n14_ n15_ n16_; (try clear hb); (try clear hb2); (try clear hk); (try clear hi)))
            have n0_ := Aside0.mk (Kd.R_drew HO1260.out)
            have n1_ := Aside0.mk (Kd.S_drew HO1264.out)
            have n2_ := Aside0.mk (Kd.R_drew HO1267.out)
            have n3_ := Aside0.mk (Kd.R_drew HO1270.out)
            have n4_ := Aside0.mk (Kd.S_drew HO1274.out)
            have n5_ := Aside0.mk (Kd.R_drew HO1277.out)
            have n6_ := Aside0.mk (Kd.R_drew HO1281.out)
            have n7_ := Aside0.mk (Kd.S_drew HO1285.out)
            have n8_ := Aside0.mk (Kd.R_drew HO1288.out)
            have n9_ := Aside0.mk (Kd.R_drew HO1292.out)
            have n10_ := Aside0.mk (Kd.S_drew HO1296.out)
            have n11_ := Aside0.mk (Kd.R_drew HO1299.out)
            have n12_ := Aside0.mk (blk_drew BK1254.out)
            have n13_ := Aside0.mk (blk_drew BK1255.out)
            have n14_ := Aside0.mk (blk_drew BK1289.out)
            have n15_ := Aside0.mk (blk_drew BK1300.out)
            have n16_ := Aside0.mk (below_drew1 HB.out)
            clear HO1260
            clear HO1264
            clear HO1267
            clear HO1270
            clear HO1274
            clear HO1277
            clear HO1281
            clear HO1285
            clear HO1288
            clear HO1292
            clear HO1296
            clear HO1299
            clear BK1254
            clear BK1255
            clear BK1289
            clear BK1300
            clear HB
            have HO1260 := n0_
            have HO1264 := n1_
            have HO1267 := n2_
            have HO1270 := n3_
            have HO1274 := n4_
            have HO1277 := n5_
            have HO1281 := n6_
            have HO1285 := n7_
            have HO1288 := n8_
            have HO1292 := n9_
            have HO1296 := n10_
            have HO1299 := n11_
            have BK1254 := n12_
            have BK1255 := n13_
            have BK1289 := n14_
            have BK1300 := n15_
            have HB := n16_
            clear n0_ n1_ n2_ n3_ n4_ n5_ n6_ n7_ n8_ n9_ n10_ n11_ n12_ n13_ n14_ n15_ n16_
            refine start_ (n := 5) (S := fun w' => w'.cell? ⟨gb1289, 0, none⟩ = some (.slice Ao52 t1279.length co52) ∧ w'.cell? ⟨gb1289, 1, none⟩ = some (.string t1282) ∧ w'.cell? ⟨gb1289, 2, none⟩ = some (.slice Ao56 t1283.length co56) ∧ w'.cell? ⟨gb1289, 3, none⟩ = some (.slice Ao57 t1286.length co57) ∧ w'.cell? ⟨gb1254, 0, none⟩ = some (.slice A0_0 l0_0.length c0_0) ∧ w'.cell? ⟨gb1254, 1, none⟩ = some (.string a0_1) ∧ w'.cell? ⟨gb1254, 2, none⟩ = some (.slice A0_2 l0_2.length c0_2) ∧ w'.cell? ⟨gb1254, 3, none⟩ = some (.slice A0_3 l0_3.length c0_3)) (ds := []) #[false, false, false, false, false] (by kernel_rfl) rfl rfl ⟨(blk_cell BK1289.out 0).trans rfl, (blk_cell BK1289.out 1).trans rfl, (blk_cell BK1289.out 2).trans rfl, (blk_cell BK1289.out 3).trans rfl, (blk_cell BK1254.out 0).trans rfl, (blk_cell BK1254.out 1).trans rfl, (blk_cell BK1254.out 2).trans rfl, (blk_cell BK1254.out 3).trans rfl⟩ (fun hHeld => ?_)
            generalize w69.drew = w70 at HO1260 HO1264 HO1267 HO1270 HO1274 HO1277 HO1281 HO1285 HO1288 HO1292 HO1296 HO1299 BK1254 BK1255 BK1289 BK1300 HB hHeld ⊢
            refine take_ (i := 0) (N := some 35) (v := ?_) (a' := ?_) #[true, false, false, false, false] rfl rfl (by kernel_rfl) (fun _ _ _ h => h) (Or.inl ⟨by rfl, ?_⟩) hHeld ?_ ?_
            rotate_left
            · rintro w' ⟨s0, s1, s2, s3, s4, s5, s6, s7⟩
              go_simp
              with_reducible rfl
            rotate_left
            · simp only [Act.put, List.setIfInBounds_toArray, List.set_cons_zero, List.set_cons_succ, i64_w, i32_w]
              rfl
            refine take_ (i := 1) (N := some 36) (v := ?_) (a' := ?_) #[true, true, false, false, false] rfl rfl (by kernel_rfl) (fun _ _ _ h => h) (Or.inl ⟨by rfl, ?_⟩) hHeld ?_ ?_
            rotate_left
            · rintro w' ⟨s0, s1, s2, s3, s4, s5, s6, s7⟩
              go_simp
              with_reducible rfl
            rotate_left
            · simp only [Act.put, List.setIfInBounds_toArray, List.set_cons_zero, List.set_cons_succ, i64_w, i32_w]
              rfl
            refine one_ (i := 2) (N := some 37) #[true, true, true, false, false] rfl rfl (by kernel_rfl) (by decide) (fun K hK => ?_)
            refine goes_ Try.func61 (by kernel_rfl) rfl #[.agg #[.slice A0_0 l0_0.length c0_0, .string a0_1, .slice A0_2 l0_2.length c0_2, .slice A0_3 l0_3.length c0_3]] (by rfl) rfl rfl (by (try simp only [List.map_toArray, List.map_cons, List.map_nil]); first | done | rfl | (simp only [List.length_drop, List.length_take]; rfl)) ?_
            with_reducible refine (laws_toTable.calls k _ _ l0_0 a0_1 _ _ l0_2 _ _ l0_3 t1302 t1305 t1306 t1309 _ ?side1 ?side2 ?side3 ?side4 ?side5 ?side6 A26.out).mono ?_
            (case side1 => repeat (first | exact (Kd.C_below HR0_0.out HB.out) | (with_reducible refine Kd.C_alloc ?_ _) | (with_reducible refine Kd.C_drewN ?_ _) | (with_reducible refine Kd.C_drew ?_)))
            (case side2 => exact HC0_0.out)
            (case side3 => repeat (first | exact (Kd.C_below HR0_2.out HB.out) | (with_reducible refine Kd.C_alloc ?_ _) | (with_reducible refine Kd.C_drewN ?_ _) | (with_reducible refine Kd.C_drew ?_)))
            (case side4 => exact HC0_2.out)
            (case side5 => repeat (first | exact (Kd.C_below HR0_3.out HB.out) | (with_reducible refine Kd.C_alloc ?_ _) | (with_reducible refine Kd.C_drewN ?_ _) | (with_reducible refine Kd.C_drew ?_)))
            (case side6 => exact HC0_3.out)
            rintro e w71 ⟨v1303, v1307, v1310, rfl, ho0, ho1, ho2, hb⟩
            refine ⟨_, rfl, ?_⟩
            have n0_ := Aside0.mk (Kd.R_elder' (by (with_reducible repeat (first | apply Kd.R_alloc | apply Kd.R_drewN | apply Kd.R_drew)); exact HO1260.out) (Kd.R_base ho0) hb)
            have n1_ := Aside0.mk (Kd.S_mono (Kd.S_told (Kd.S_told (Kd.S_old (by (with_reducible repeat (first | apply Kd.S_alloc | apply Kd.S_drewN | apply Kd.S_drew)); exact HO1264.out) hb) (Kd.S_base ho1)) (Kd.R_base ho2)) (fun _ h_ => h_.1))
            have n2_ := Aside0.mk (Kd.R_elder' (by (with_reducible repeat (first | apply Kd.R_alloc | apply Kd.R_drewN | apply Kd.R_drew)); exact HO1267.out) (Kd.R_base ho2) hb)
            have n3_ := Aside0.mk (Kd.R_elder' (by (with_reducible repeat (first | apply Kd.R_alloc | apply Kd.R_drewN | apply Kd.R_drew)); exact HO1270.out) (Kd.R_base ho0) hb)
            have n4_ := Aside0.mk (Kd.S_mono (Kd.S_told (Kd.S_told (Kd.S_old (by (with_reducible repeat (first | apply Kd.S_alloc | apply Kd.S_drewN | apply Kd.S_drew)); exact HO1274.out) hb) (Kd.S_base ho1)) (Kd.R_base ho2)) (fun _ h_ => h_.1))
            have n5_ := Aside0.mk (Kd.R_elder' (by (with_reducible repeat (first | apply Kd.R_alloc | apply Kd.R_drewN | apply Kd.R_drew)); exact HO1277.out) (Kd.R_base ho2) hb)
            have n6_ := Aside0.mk (Kd.R_elder' (by (with_reducible repeat (first | apply Kd.R_alloc | apply Kd.R_drewN | apply Kd.R_drew)); exact HO1281.out) (Kd.R_base ho0) hb)
            have n7_ := Aside0.mk (Kd.S_mono (Kd.S_told (Kd.S_told (Kd.S_old (by (with_reducible repeat (first | apply Kd.S_alloc | apply Kd.S_drewN | apply Kd.S_drew)); exact HO1285.out) hb) (Kd.S_base ho1)) (Kd.R_base ho2)) (fun _ h_ => h_.1))
            have n8_ := Aside0.mk (Kd.R_elder' (by (with_reducible repeat (first | apply Kd.R_alloc | apply Kd.R_drewN | apply Kd.R_drew)); exact HO1288.out) (Kd.R_base ho2) hb)
            have n9_ := Aside0.mk (Kd.R_elder' (by (with_reducible repeat (first | apply Kd.R_alloc | apply Kd.R_drewN | apply Kd.R_drew)); exact HO1292.out) (Kd.R_base ho0) hb)
            have n10_ := Aside0.mk (Kd.S_mono (Kd.S_told (Kd.S_told (Kd.S_old (by (with_reducible repeat (first | apply Kd.S_alloc | apply Kd.S_drewN | apply Kd.S_drew)); exact HO1296.out) hb) (Kd.S_base ho1)) (Kd.R_base ho2)) (fun _ h_ => h_.1))
            have n11_ := Aside0.mk (Kd.R_elder' (by (with_reducible repeat (first | apply Kd.R_alloc | apply Kd.R_drewN | apply Kd.R_drew)); exact HO1299.out) (Kd.R_base ho2) hb)
            have n12_ := Aside0.mk (Kd.R_lower (Kd.R_new' (Kd.R_new' (Kd.R_new' (Kd.R_new' ho0 (Kd.R_lt (by (with_reducible repeat (first | apply Kd.R_alloc | apply Kd.R_drewN | apply Kd.R_drew)); exact HO1260.out))) (Kd.R_lt (by (with_reducible repeat (first | apply Kd.R_alloc | apply Kd.R_drewN | apply Kd.R_drew)); exact HO1270.out))) (Kd.R_lt (by (with_reducible repeat (first | apply Kd.R_alloc | apply Kd.R_drewN | apply Kd.R_drew)); exact HO1281.out))) (Kd.R_lt (by (with_reducible repeat (first | apply Kd.R_alloc | apply Kd.R_drewN | apply Kd.R_drew)); exact HO1292.out))) (below_size (by repeat (first | (with_reducible first | exact HB.out | apply below_alloc | apply pw_below_drewN | apply below_drew1 | refine below_set ?_ GE1254.out | refine below_set ?_ GE1255.out | refine below_set ?_ GE1289.out | refine below_set ?_ GE1300.out) | exact HB.out))))
            have n13_ := Aside0.mk (Kd.S_lower (Kd.S_new' (Kd.S_new' (Kd.S_new' (Kd.S_new' (Kd.S_new' (Kd.S_new' (Kd.S_new' (Kd.S_new' ho1 (Kd.S_lt (by (with_reducible repeat (first | apply Kd.S_alloc | apply Kd.S_drewN | apply Kd.S_drew)); exact HO1264.out))) (Kd.R_lt (by (with_reducible repeat (first | apply Kd.R_alloc | apply Kd.R_drewN | apply Kd.R_drew)); exact HO1267.out))) (Kd.S_lt (by (with_reducible repeat (first | apply Kd.S_alloc | apply Kd.S_drewN | apply Kd.S_drew)); exact HO1274.out))) (Kd.R_lt (by (with_reducible repeat (first | apply Kd.R_alloc | apply Kd.R_drewN | apply Kd.R_drew)); exact HO1277.out))) (Kd.S_lt (by (with_reducible repeat (first | apply Kd.S_alloc | apply Kd.S_drewN | apply Kd.S_drew)); exact HO1285.out))) (Kd.R_lt (by (with_reducible repeat (first | apply Kd.R_alloc | apply Kd.R_drewN | apply Kd.R_drew)); exact HO1288.out))) (Kd.S_lt (by (with_reducible repeat (first | apply Kd.S_alloc | apply Kd.S_drewN | apply Kd.S_drew)); exact HO1296.out))) (Kd.R_lt (by (with_reducible repeat (first | apply Kd.R_alloc | apply Kd.R_drewN | apply Kd.R_drew)); exact HO1299.out))) (below_size (by repeat (first | (with_reducible first | exact HB.out | apply below_alloc | apply pw_below_drewN | apply below_drew1 | refine below_set ?_ GE1254.out | refine below_set ?_ GE1255.out | refine below_set ?_ GE1289.out | refine below_set ?_ GE1300.out) | exact HB.out))))
            have n14_ := Aside0.mk (Kd.R_lower (Kd.R_new' (Kd.R_new' (Kd.R_new' (Kd.R_new' ho2 (Kd.R_lt (by (with_reducible repeat (first | apply Kd.R_alloc | apply Kd.R_drewN | apply Kd.R_drew)); exact HO1267.out))) (Kd.R_lt (by (with_reducible repeat (first | apply Kd.R_alloc | apply Kd.R_drewN | apply Kd.R_drew)); exact HO1277.out))) (Kd.R_lt (by (with_reducible repeat (first | apply Kd.R_alloc | apply Kd.R_drewN | apply Kd.R_drew)); exact HO1288.out))) (Kd.R_lt (by (with_reducible repeat (first | apply Kd.R_alloc | apply Kd.R_drewN | apply Kd.R_drew)); exact HO1299.out))) (below_size (by repeat (first | (with_reducible first | exact HB.out | apply below_alloc | apply pw_below_drewN | apply below_drew1 | refine below_set ?_ GE1254.out | refine below_set ?_ GE1255.out | refine below_set ?_ GE1289.out | refine below_set ?_ GE1300.out) | exact HB.out))))
            have n15_ := Aside0.mk (blk_below (g := gb1254) (o := .cells #[.slice A0_0 l0_0.length c0_0, .string a0_1, .slice A0_2 l0_2.length c0_2, .slice A0_3 l0_3.length c0_3] 90 (0, 0)) (by (with_reducible repeat (first | refine blk_drewN ?_ _ | refine blk_drew ?_ | refine blk_alloc ?_ _)); exact BK1254.out) hb)
            have n16_ := Aside0.mk (blk_below (g := gb1255) (o := .cells #[.slice A1_0 l1_0.length c1_0, .string a1_1, .slice A1_2 l1_2.length c1_2, .slice A1_3 l1_3.length c1_3] 90 (0, 0)) (by (with_reducible repeat (first | refine blk_drewN ?_ _ | refine blk_drew ?_ | refine blk_alloc ?_ _)); exact BK1255.out) hb)
            have n17_ := Aside0.mk (blk_below (g := gb1289) (o := .cells #[.slice Ao52 t1279.length co52, .string t1282, .slice Ao56 t1283.length co56, .slice Ao57 t1286.length co57] 85 (0, 0)) (by (with_reducible repeat (first | refine blk_drewN ?_ _ | refine blk_drew ?_ | refine blk_alloc ?_ _)); exact BK1289.out) hb)
            have n18_ := Aside0.mk (blk_below (g := gb1300) (o := .cells #[.slice Ao61 t1290.length co61, .string t1293, .slice Ao66 t1294.length co66, .slice Ao67 t1297.length co67] 85 (0, 0)) (by (with_reducible repeat (first | refine blk_drewN ?_ _ | refine blk_drew ?_ | refine blk_alloc ?_ _)); exact BK1300.out) hb)
            have n19_ := Aside0.mk (below_step (by repeat (first | (with_reducible first | exact HB.out | apply below_alloc | apply pw_below_drewN | apply below_drew1 | refine below_set ?_ GE1254.out | refine below_set ?_ GE1255.out | refine below_set ?_ GE1289.out | refine below_set ?_ GE1300.out) | exact HB.out)) hb)
            clear HO1260
            clear HO1264
            clear HO1267
            clear HO1270
            clear HO1274
            clear HO1277
            clear HO1281
            clear HO1285
            clear HO1288
            clear HO1292
            clear HO1296
            clear HO1299
            clear BK1254
            clear BK1255
            clear BK1289
            clear BK1300
            clear HB
            have HO1260 := n0_
            have HO1264 := n1_
            have HO1267 := n2_
            have HO1270 := n3_
            have HO1274 := n4_
            have HO1277 := n5_
            have HO1281 := n6_
            have HO1285 := n7_
            have HO1288 := n8_
            have HO1292 := n9_
            have HO1296 := n10_
            have HO1299 := n11_
            have HO1304 := n12_
            have HO1308 := n13_
            have HO1311 := n14_
            have BK1254 := n15_
            have BK1255 := n16_
            have BK1289 := n17_
            have BK1300 := n18_
            have HB := n19_
            clear n0_ n1_ n2_ n3_ n4_ n5_ n6_ n7_ n8_ n9_ n10_ n11_ n12_ n13_ n14_ n15_ n16_ n17_ n18_ n19_
            (try clear hb)
            (try clear hb2)
            (try clear hk)
            (try clear hi)
            (try clear ho0)
            (try clear ho1)
            (try clear ho2)
            obtain ⟨Ao72, co72, eo72⟩ := Kd.R_slice HO1304.out
            (first | subst eo72 | (injection eo72 with f1_ f2_ f3_; have f4_ := f1_.symm; have f5_ := f3_.symm; clear f1_ f2_ f3_; subst f4_; subst f5_))
            obtain ⟨Ao73, co73, eo73⟩ := Kd.S_slice HO1308.out
            (first | subst eo73 | (injection eo73 with f1_ f2_ f3_; have f4_ := f1_.symm; have f5_ := f3_.symm; clear f1_ f2_ f3_; subst f4_; subst f5_))
            obtain ⟨Ao74, co74, eo74⟩ := Kd.R_slice HO1311.out
            (first | subst eo74 | (injection eo74 with f1_ f2_ f3_; have f4_ := f1_.symm; have f5_ := f3_.symm; clear f1_ f2_ f3_; subst f4_; subst f5_))
            refine hK.out _ _ ⟨(blk_cell BK1289.out 0).trans rfl, (blk_cell BK1289.out 1).trans rfl, (blk_cell BK1289.out 2).trans rfl, (blk_cell BK1289.out 3).trans rfl, (blk_cell BK1254.out 0).trans rfl, (blk_cell BK1254.out 1).trans rfl, (blk_cell BK1254.out 2).trans rfl, (blk_cell BK1254.out 3).trans rfl⟩ (fun hHeld => ?_)
            clear hK K
            refine norm_ (a' := ?_) ?_ ?_
            rotate_left
            · show Act.put _ (some 37) _ = _
              simp only [Act.put, List.setIfInBounds_toArray, List.set_cons_zero, List.set_cons_succ, i64_w, i32_w]
              rfl
            refine one_ (i := 3) (N := some 38) #[true, true, true, true, false] rfl rfl (by kernel_rfl) (by decide) (fun K hK => ?_)
            refine goes_ Try.func63 (by kernel_rfl) rfl #[.agg #[.slice Ao52 t1279.length co52, .string t1282, .slice Ao56 t1283.length co56, .slice Ao57 t1286.length co57], .agg #[.slice Ao72 t1302.length co72, .string t1305, .slice Ao73 t1306.length co73, .slice Ao74 t1309.length co74]] (by rfl) rfl rfl (by (try simp only [List.map_toArray, List.map_cons, List.map_nil]); first | done | rfl | (simp only [List.length_drop, List.length_take]; rfl)) ?_
            with_reducible refine (laws_eqTable.calls k _ _ t1279 t1282 _ _ t1283 _ _ t1286 _ _ t1302 t1305 _ _ t1306 _ _ t1309 true _ ?side1 ?side2 ?side3 ?side4 ?side5 ?side6 ?side7 ?side8 ?side9 ?side10 ?side11 ?side12 A27.out).mono ?_
            (case side1 => repeat (first | exact (Kd.R_reads' HO1281.out).2.2 | (with_reducible refine Kd.C_alloc ?_ _) | (with_reducible refine Kd.C_drewN ?_ _) | (with_reducible refine Kd.C_drew ?_)))
            (case side2 => exact (Kd.R_reads' HO1281.out).2.1)
            (case side3 => repeat (first | exact (Kd.S_reads' HO1285.out).2.2 | (with_reducible refine Kd.C_alloc ?_ _) | (with_reducible refine Kd.C_drewN ?_ _) | (with_reducible refine Kd.C_drew ?_)))
            (case side4 => exact (Kd.S_reads' HO1285.out).2.1)
            (case side5 => repeat (first | exact (Kd.R_reads' HO1288.out).2.2 | (with_reducible refine Kd.C_alloc ?_ _) | (with_reducible refine Kd.C_drewN ?_ _) | (with_reducible refine Kd.C_drew ?_)))
            (case side6 => exact (Kd.R_reads' HO1288.out).2.1)
            (case side7 => repeat (first | exact (Kd.R_reads' HO1304.out).2.2 | (with_reducible refine Kd.C_alloc ?_ _) | (with_reducible refine Kd.C_drewN ?_ _) | (with_reducible refine Kd.C_drew ?_)))
            (case side8 => exact (Kd.R_reads' HO1304.out).2.1)
            (case side9 => repeat (first | exact (Kd.S_reads' HO1308.out).2.2 | (with_reducible refine Kd.C_alloc ?_ _) | (with_reducible refine Kd.C_drewN ?_ _) | (with_reducible refine Kd.C_drew ?_)))
            (case side10 => exact (Kd.S_reads' HO1308.out).2.1)
            (case side11 => repeat (first | exact (Kd.R_reads' HO1311.out).2.2 | (with_reducible refine Kd.C_alloc ?_ _) | (with_reducible refine Kd.C_drewN ?_ _) | (with_reducible refine Kd.C_drew ?_)))
            (case side12 => exact (Kd.R_reads' HO1311.out).2.1)
            rintro e w75 ⟨rfl, hb⟩
            refine ⟨_, rfl, ?_⟩
            have n0_ := Aside0.mk (Kd.R_below (by (with_reducible repeat (first | apply Kd.R_alloc | apply Kd.R_drewN | apply Kd.R_drew)); exact HO1260.out) hb)
            have n1_ := Aside0.mk (Kd.S_below (by (with_reducible repeat (first | apply Kd.S_alloc | apply Kd.S_drewN | apply Kd.S_drew)); exact HO1264.out) hb)
            have n2_ := Aside0.mk (Kd.R_below (by (with_reducible repeat (first | apply Kd.R_alloc | apply Kd.R_drewN | apply Kd.R_drew)); exact HO1267.out) hb)
            have n3_ := Aside0.mk (Kd.R_below (by (with_reducible repeat (first | apply Kd.R_alloc | apply Kd.R_drewN | apply Kd.R_drew)); exact HO1270.out) hb)
            have n4_ := Aside0.mk (Kd.S_below (by (with_reducible repeat (first | apply Kd.S_alloc | apply Kd.S_drewN | apply Kd.S_drew)); exact HO1274.out) hb)
            have n5_ := Aside0.mk (Kd.R_below (by (with_reducible repeat (first | apply Kd.R_alloc | apply Kd.R_drewN | apply Kd.R_drew)); exact HO1277.out) hb)
            have n6_ := Aside0.mk (Kd.R_below (by (with_reducible repeat (first | apply Kd.R_alloc | apply Kd.R_drewN | apply Kd.R_drew)); exact HO1281.out) hb)
            have n7_ := Aside0.mk (Kd.S_below (by (with_reducible repeat (first | apply Kd.S_alloc | apply Kd.S_drewN | apply Kd.S_drew)); exact HO1285.out) hb)
            have n8_ := Aside0.mk (Kd.R_below (by (with_reducible repeat (first | apply Kd.R_alloc | apply Kd.R_drewN | apply Kd.R_drew)); exact HO1288.out) hb)
            have n9_ := Aside0.mk (Kd.R_below (by (with_reducible repeat (first | apply Kd.R_alloc | apply Kd.R_drewN | apply Kd.R_drew)); exact HO1292.out) hb)
            have n10_ := Aside0.mk (Kd.S_below (by (with_reducible repeat (first | apply Kd.S_alloc | apply Kd.S_drewN | apply Kd.S_drew)); exact HO1296.out) hb)
            have n11_ := Aside0.mk (Kd.R_below (by (with_reducible repeat (first | apply Kd.R_alloc | apply Kd.R_drewN | apply Kd.R_drew)); exact HO1299.out) hb)
            have n12_ := Aside0.mk (Kd.R_below (by (with_reducible repeat (first | apply Kd.R_alloc | apply Kd.R_drewN | apply Kd.R_drew)); exact HO1304.out) hb)
            have n13_ := Aside0.mk (Kd.S_below (by (with_reducible repeat (first | apply Kd.S_alloc | apply Kd.S_drewN | apply Kd.S_drew)); exact HO1308.out) hb)
            have n14_ := Aside0.mk (Kd.R_below (by (with_reducible repeat (first | apply Kd.R_alloc | apply Kd.R_drewN | apply Kd.R_drew)); exact HO1311.out) hb)
            have n15_ := Aside0.mk (blk_below (g := gb1254) (o := .cells #[.slice A0_0 l0_0.length c0_0, .string a0_1, .slice A0_2 l0_2.length c0_2, .slice A0_3 l0_3.length c0_3] 90 (0, 0)) (by (with_reducible repeat (first | refine blk_drewN ?_ _ | refine blk_drew ?_ | refine blk_alloc ?_ _)); exact BK1254.out) hb)
            have n16_ := Aside0.mk (blk_below (g := gb1255) (o := .cells #[.slice A1_0 l1_0.length c1_0, .string a1_1, .slice A1_2 l1_2.length c1_2, .slice A1_3 l1_3.length c1_3] 90 (0, 0)) (by (with_reducible repeat (first | refine blk_drewN ?_ _ | refine blk_drew ?_ | refine blk_alloc ?_ _)); exact BK1255.out) hb)
            have n17_ := Aside0.mk (blk_below (g := gb1289) (o := .cells #[.slice Ao52 t1279.length co52, .string t1282, .slice Ao56 t1283.length co56, .slice Ao57 t1286.length co57] 85 (0, 0)) (by (with_reducible repeat (first | refine blk_drewN ?_ _ | refine blk_drew ?_ | refine blk_alloc ?_ _)); exact BK1289.out) hb)
            have n18_ := Aside0.mk (blk_below (g := gb1300) (o := .cells #[.slice Ao61 t1290.length co61, .string t1293, .slice Ao66 t1294.length co66, .slice Ao67 t1297.length co67] 85 (0, 0)) (by (with_reducible repeat (first | refine blk_drewN ?_ _ | refine blk_drew ?_ | refine blk_alloc ?_ _)); exact BK1300.out) hb)
            have n19_ := Aside0.mk (below_step (by repeat (first | (with_reducible first | exact HB.out | apply below_alloc | apply pw_below_drewN | apply below_drew1 | refine below_set ?_ GE1254.out | refine below_set ?_ GE1255.out | refine below_set ?_ GE1289.out | refine below_set ?_ GE1300.out) | exact HB.out)) hb)
            clear HO1260
            clear HO1264
            clear HO1267
            clear HO1270
            clear HO1274
            clear HO1277
            clear HO1281
            clear HO1285
            clear HO1288
            clear HO1292
            clear HO1296
            clear HO1299
            clear HO1304
            clear HO1308
            clear HO1311
            clear BK1254
            clear BK1255
            clear BK1289
            clear BK1300
            clear HB
            have HO1260 := n0_
            have HO1264 := n1_
            have HO1267 := n2_
            have HO1270 := n3_
            have HO1274 := n4_
            have HO1277 := n5_
            have HO1281 := n6_
            have HO1285 := n7_
            have HO1288 := n8_
            have HO1292 := n9_
            have HO1296 := n10_
            have HO1299 := n11_
            have HO1304 := n12_
            have HO1308 := n13_
            have HO1311 := n14_
            have BK1254 := n15_
            have BK1255 := n16_
            have BK1289 := n17_
            have BK1300 := n18_
            have HB := n19_
            clear n0_ n1_ n2_ n3_ n4_ n5_ n6_ n7_ n8_ n9_ n10_ n11_ n12_ n13_ n14_ n15_ n16_ n17_ n18_ n19_
            (try clear hb)
            (try clear hb2)
            (try clear hk)
            (try clear hi)
            refine hK.out _ _ ⟨(blk_cell BK1289.out 0).trans rfl, (blk_cell BK1289.out 1).trans rfl, (blk_cell BK1289.out 2).trans rfl, (blk_cell BK1289.out 3).trans rfl, (blk_cell BK1254.out 0).trans rfl, (blk_cell BK1254.out 1).trans rfl, (blk_cell BK1254.out 2).trans rfl, (blk_cell BK1254.out 3).trans rfl⟩ (fun hHeld => ?_)
            clear hK K
            refine norm_ (a' := ?_) ?_ ?_
            rotate_left
            · show Act.put _ (some 38) _ = _
              simp only [Act.put, List.setIfInBounds_toArray, List.set_cons_zero, List.set_cons_succ, i64_w, i32_w]
              rfl
            refine pure_ (i := 4) (N := some 39) (v := ?_) (a' := ?_) #[true, true, true, true, true] rfl rfl (by kernel_rfl) (fun _ _ _ h => h) (Or.inl ⟨by rfl, ?_⟩) ?_ ?_
            rotate_left
            · intro w'
              go_simp
              with_reducible rfl
            rotate_left
            · simp only [Act.put, List.setIfInBounds_toArray, List.set_cons_zero, List.set_cons_succ, i64_w, i32_w]
              rfl
            refine done_ (by kernel_rfl) ?_
            try go_wp2
            have n0_ := Aside0.mk (Kd.R_drew HO1260.out)
            have n1_ := Aside0.mk (Kd.S_drew HO1264.out)
            have n2_ := Aside0.mk (Kd.R_drew HO1267.out)
            have n3_ := Aside0.mk (Kd.R_drew HO1270.out)
            have n4_ := Aside0.mk (Kd.S_drew HO1274.out)
            have n5_ := Aside0.mk (Kd.R_drew HO1277.out)
            have n6_ := Aside0.mk (Kd.R_drew HO1281.out)
            have n7_ := Aside0.mk (Kd.S_drew HO1285.out)
            have n8_ := Aside0.mk (Kd.R_drew HO1288.out)
            have n9_ := Aside0.mk (Kd.R_drew HO1292.out)
            have n10_ := Aside0.mk (Kd.S_drew HO1296.out)
            have n11_ := Aside0.mk (Kd.R_drew HO1299.out)
            have n12_ := Aside0.mk (Kd.R_drew HO1304.out)
            have n13_ := Aside0.mk (Kd.S_drew HO1308.out)
            have n14_ := Aside0.mk (Kd.R_drew HO1311.out)
            have n15_ := Aside0.mk (blk_drew BK1254.out)
            have n16_ := Aside0.mk (blk_drew BK1255.out)
            have n17_ := Aside0.mk (blk_drew BK1289.out)
            have n18_ := Aside0.mk (blk_drew BK1300.out)
            have n19_ := Aside0.mk (below_drew1 HB.out)
            clear HO1260
            clear HO1264
            clear HO1267
            clear HO1270
            clear HO1274
            clear HO1277
            clear HO1281
            clear HO1285
            clear HO1288
            clear HO1292
            clear HO1296
            clear HO1299
            clear HO1304
            clear HO1308
            clear HO1311
            clear BK1254
            clear BK1255
            clear BK1289
            clear BK1300
            clear HB
            have HO1260 := n0_
            have HO1264 := n1_
            have HO1267 := n2_
            have HO1270 := n3_
            have HO1274 := n4_
            have HO1277 := n5_
            have HO1281 := n6_
            have HO1285 := n7_
            have HO1288 := n8_
            have HO1292 := n9_
            have HO1296 := n10_
            have HO1299 := n11_
            have HO1304 := n12_
            have HO1308 := n13_
            have HO1311 := n14_
            have BK1254 := n15_
            have BK1255 := n16_
            have BK1289 := n17_
            have BK1300 := n18_
            have HB := n19_
            clear n0_ n1_ n2_ n3_ n4_ n5_ n6_ n7_ n8_ n9_ n10_ n11_ n12_ n13_ n14_ n15_ n16_ n17_ n18_ n19_
            refine start_ (n := 5) (S := fun w' => w'.cell? ⟨gb1300, 0, none⟩ = some (.slice Ao61 t1290.length co61) ∧ w'.cell? ⟨gb1300, 1, none⟩ = some (.string t1293) ∧ w'.cell? ⟨gb1300, 2, none⟩ = some (.slice Ao66 t1294.length co66) ∧ w'.cell? ⟨gb1300, 3, none⟩ = some (.slice Ao67 t1297.length co67) ∧ w'.cell? ⟨gb1255, 0, none⟩ = some (.slice A1_0 l1_0.length c1_0) ∧ w'.cell? ⟨gb1255, 1, none⟩ = some (.string a1_1) ∧ w'.cell? ⟨gb1255, 2, none⟩ = some (.slice A1_2 l1_2.length c1_2) ∧ w'.cell? ⟨gb1255, 3, none⟩ = some (.slice A1_3 l1_3.length c1_3)) (ds := []) #[false, false, false, false, false] (by kernel_rfl) rfl rfl ⟨(blk_cell BK1300.out 0).trans rfl, (blk_cell BK1300.out 1).trans rfl, (blk_cell BK1300.out 2).trans rfl, (blk_cell BK1300.out 3).trans rfl, (blk_cell BK1255.out 0).trans rfl, (blk_cell BK1255.out 1).trans rfl, (blk_cell BK1255.out 2).trans rfl, (blk_cell BK1255.out 3).trans rfl⟩ (fun hHeld => ?_)
            generalize w75.drew = w76 at HO1260 HO1264 HO1267 HO1270 HO1274 HO1277 HO1281 HO1285 HO1288 HO1292 HO1296 HO1299 HO1304 HO1308 HO1311 BK1254 BK1255 BK1289 BK1300 HB hHeld ⊢
            refine take_ (i := 0) (N := some 40) (v := ?_) (a' := ?_) #[true, false, false, false, false] rfl rfl (by kernel_rfl) (fun _ _ _ h => h) (Or.inl ⟨by rfl, ?_⟩) hHeld ?_ ?_
            rotate_left
            · rintro w' ⟨s0, s1, s2, s3, s4, s5, s6, s7⟩
              go_simp
              with_reducible rfl
            rotate_left
            · simp only [Act.put, List.setIfInBounds_toArray, List.set_cons_zero, List.set_cons_succ, i64_w, i32_w]
              rfl
            refine take_ (i := 1) (N := some 41) (v := ?_) (a' := ?_) #[true, true, false, false, false] rfl rfl (by kernel_rfl) (fun _ _ _ h => h) (Or.inl ⟨by rfl, ?_⟩) hHeld ?_ ?_
            rotate_left
            · rintro w' ⟨s0, s1, s2, s3, s4, s5, s6, s7⟩
              go_simp
              with_reducible rfl
            rotate_left
            · simp only [Act.put, List.setIfInBounds_toArray, List.set_cons_zero, List.set_cons_succ, i64_w, i32_w]
              rfl
            refine one_ (i := 2) (N := some 42) #[true, true, true, false, false] rfl rfl (by kernel_rfl) (by decide) (fun K hK => ?_)
            refine goes_ Try.func61 (by kernel_rfl) rfl #[.agg #[.slice A1_0 l1_0.length c1_0, .string a1_1, .slice A1_2 l1_2.length c1_2, .slice A1_3 l1_3.length c1_3]] (by rfl) rfl rfl (by (try simp only [List.map_toArray, List.map_cons, List.map_nil]); first | done | rfl | (simp only [List.length_drop, List.length_take]; rfl)) ?_
            with_reducible refine (laws_toTable.calls k _ _ l1_0 a1_1 _ _ l1_2 _ _ l1_3 t1313 t1316 t1317 t1320 _ ?side1 ?side2 ?side3 ?side4 ?side5 ?side6 A29.out).mono ?_
            (case side1 => repeat (first | exact (Kd.C_below HR1_0.out HB.out) | (with_reducible refine Kd.C_alloc ?_ _) | (with_reducible refine Kd.C_drewN ?_ _) | (with_reducible refine Kd.C_drew ?_)))
            (case side2 => exact HC1_0.out)
            (case side3 => repeat (first | exact (Kd.C_below HR1_2.out HB.out) | (with_reducible refine Kd.C_alloc ?_ _) | (with_reducible refine Kd.C_drewN ?_ _) | (with_reducible refine Kd.C_drew ?_)))
            (case side4 => exact HC1_2.out)
            (case side5 => repeat (first | exact (Kd.C_below HR1_3.out HB.out) | (with_reducible refine Kd.C_alloc ?_ _) | (with_reducible refine Kd.C_drewN ?_ _) | (with_reducible refine Kd.C_drew ?_)))
            (case side6 => exact HC1_3.out)
            rintro e w77 ⟨v1314, v1318, v1321, rfl, ho0, ho1, ho2, hb⟩
            refine ⟨_, rfl, ?_⟩
            have n0_ := Aside0.mk (Kd.R_elder' (by (with_reducible repeat (first | apply Kd.R_alloc | apply Kd.R_drewN | apply Kd.R_drew)); exact HO1260.out) (Kd.R_base ho0) hb)
            have n1_ := Aside0.mk (Kd.S_mono (Kd.S_told (Kd.S_told (Kd.S_old (by (with_reducible repeat (first | apply Kd.S_alloc | apply Kd.S_drewN | apply Kd.S_drew)); exact HO1264.out) hb) (Kd.S_base ho1)) (Kd.R_base ho2)) (fun _ h_ => h_.1))
            have n2_ := Aside0.mk (Kd.R_elder' (by (with_reducible repeat (first | apply Kd.R_alloc | apply Kd.R_drewN | apply Kd.R_drew)); exact HO1267.out) (Kd.R_base ho2) hb)
            have n3_ := Aside0.mk (Kd.R_elder' (by (with_reducible repeat (first | apply Kd.R_alloc | apply Kd.R_drewN | apply Kd.R_drew)); exact HO1270.out) (Kd.R_base ho0) hb)
            have n4_ := Aside0.mk (Kd.S_mono (Kd.S_told (Kd.S_told (Kd.S_old (by (with_reducible repeat (first | apply Kd.S_alloc | apply Kd.S_drewN | apply Kd.S_drew)); exact HO1274.out) hb) (Kd.S_base ho1)) (Kd.R_base ho2)) (fun _ h_ => h_.1))
            have n5_ := Aside0.mk (Kd.R_elder' (by (with_reducible repeat (first | apply Kd.R_alloc | apply Kd.R_drewN | apply Kd.R_drew)); exact HO1277.out) (Kd.R_base ho2) hb)
            have n6_ := Aside0.mk (Kd.R_elder' (by (with_reducible repeat (first | apply Kd.R_alloc | apply Kd.R_drewN | apply Kd.R_drew)); exact HO1281.out) (Kd.R_base ho0) hb)
            have n7_ := Aside0.mk (Kd.S_mono (Kd.S_told (Kd.S_told (Kd.S_old (by (with_reducible repeat (first | apply Kd.S_alloc | apply Kd.S_drewN | apply Kd.S_drew)); exact HO1285.out) hb) (Kd.S_base ho1)) (Kd.R_base ho2)) (fun _ h_ => h_.1))
            have n8_ := Aside0.mk (Kd.R_elder' (by (with_reducible repeat (first | apply Kd.R_alloc | apply Kd.R_drewN | apply Kd.R_drew)); exact HO1288.out) (Kd.R_base ho2) hb)
            have n9_ := Aside0.mk (Kd.R_elder' (by (with_reducible repeat (first | apply Kd.R_alloc | apply Kd.R_drewN | apply Kd.R_drew)); exact HO1292.out) (Kd.R_base ho0) hb)
            have n10_ := Aside0.mk (Kd.S_mono (Kd.S_told (Kd.S_told (Kd.S_old (by (with_reducible repeat (first | apply Kd.S_alloc | apply Kd.S_drewN | apply Kd.S_drew)); exact HO1296.out) hb) (Kd.S_base ho1)) (Kd.R_base ho2)) (fun _ h_ => h_.1))
            have n11_ := Aside0.mk (Kd.R_elder' (by (with_reducible repeat (first | apply Kd.R_alloc | apply Kd.R_drewN | apply Kd.R_drew)); exact HO1299.out) (Kd.R_base ho2) hb)
            have n12_ := Aside0.mk (Kd.R_elder' (by (with_reducible repeat (first | apply Kd.R_alloc | apply Kd.R_drewN | apply Kd.R_drew)); exact HO1304.out) (Kd.R_base ho0) hb)
            have n13_ := Aside0.mk (Kd.S_mono (Kd.S_told (Kd.S_told (Kd.S_old (by (with_reducible repeat (first | apply Kd.S_alloc | apply Kd.S_drewN | apply Kd.S_drew)); exact HO1308.out) hb) (Kd.S_base ho1)) (Kd.R_base ho2)) (fun _ h_ => h_.1))
            have n14_ := Aside0.mk (Kd.R_elder' (by (with_reducible repeat (first | apply Kd.R_alloc | apply Kd.R_drewN | apply Kd.R_drew)); exact HO1311.out) (Kd.R_base ho2) hb)
            have n15_ := Aside0.mk (Kd.R_lower (Kd.R_new' (Kd.R_new' (Kd.R_new' (Kd.R_new' (Kd.R_new' ho0 (Kd.R_lt (by (with_reducible repeat (first | apply Kd.R_alloc | apply Kd.R_drewN | apply Kd.R_drew)); exact HO1260.out))) (Kd.R_lt (by (with_reducible repeat (first | apply Kd.R_alloc | apply Kd.R_drewN | apply Kd.R_drew)); exact HO1270.out))) (Kd.R_lt (by (with_reducible repeat (first | apply Kd.R_alloc | apply Kd.R_drewN | apply Kd.R_drew)); exact HO1281.out))) (Kd.R_lt (by (with_reducible repeat (first | apply Kd.R_alloc | apply Kd.R_drewN | apply Kd.R_drew)); exact HO1292.out))) (Kd.R_lt (by (with_reducible repeat (first | apply Kd.R_alloc | apply Kd.R_drewN | apply Kd.R_drew)); exact HO1304.out))) (below_size (by repeat (first | (with_reducible first | exact HB.out | apply below_alloc | apply pw_below_drewN | apply below_drew1 | refine below_set ?_ GE1254.out | refine below_set ?_ GE1255.out | refine below_set ?_ GE1289.out | refine below_set ?_ GE1300.out) | exact HB.out))))
            have n16_ := Aside0.mk (Kd.S_lower (Kd.S_new' (Kd.S_new' (Kd.S_new' (Kd.S_new' (Kd.S_new' (Kd.S_new' (Kd.S_new' (Kd.S_new' (Kd.S_new' (Kd.S_new' ho1 (Kd.S_lt (by (with_reducible repeat (first | apply Kd.S_alloc | apply Kd.S_drewN | apply Kd.S_drew)); exact HO1264.out))) (Kd.R_lt (by (with_reducible repeat (first | apply Kd.R_alloc | apply Kd.R_drewN | apply Kd.R_drew)); exact HO1267.out))) (Kd.S_lt (by (with_reducible repeat (first | apply Kd.S_alloc | apply Kd.S_drewN | apply Kd.S_drew)); exact HO1274.out))) (Kd.R_lt (by (with_reducible repeat (first | apply Kd.R_alloc | apply Kd.R_drewN | apply Kd.R_drew)); exact HO1277.out))) (Kd.S_lt (by (with_reducible repeat (first | apply Kd.S_alloc | apply Kd.S_drewN | apply Kd.S_drew)); exact HO1285.out))) (Kd.R_lt (by (with_reducible repeat (first | apply Kd.R_alloc | apply Kd.R_drewN | apply Kd.R_drew)); exact HO1288.out))) (Kd.S_lt (by (with_reducible repeat (first | apply Kd.S_alloc | apply Kd.S_drewN | apply Kd.S_drew)); exact HO1296.out))) (Kd.R_lt (by (with_reducible repeat (first | apply Kd.R_alloc | apply Kd.R_drewN | apply Kd.R_drew)); exact HO1299.out))) (Kd.S_lt (by (with_reducible repeat (first | apply Kd.S_alloc | apply Kd.S_drewN | apply Kd.S_drew)); exact HO1308.out))) (Kd.R_lt (by (with_reducible repeat (first | apply Kd.R_alloc | apply Kd.R_drewN | apply Kd.R_drew)); exact HO1311.out))) (below_size (by repeat (first | (with_reducible first | exact HB.out | apply below_alloc | apply pw_below_drewN | apply below_drew1 | refine below_set ?_ GE1254.out | refine below_set ?_ GE1255.out | refine below_set ?_ GE1289.out | refine below_set ?_ GE1300.out) | exact HB.out))))
            have n17_ := Aside0.mk (Kd.R_lower (Kd.R_new' (Kd.R_new' (Kd.R_new' (Kd.R_new' (Kd.R_new' ho2 (Kd.R_lt (by (with_reducible repeat (first | apply Kd.R_alloc | apply Kd.R_drewN | apply Kd.R_drew)); exact HO1267.out))) (Kd.R_lt (by (with_reducible repeat (first | apply Kd.R_alloc | apply Kd.R_drewN | apply Kd.R_drew)); exact HO1277.out))) (Kd.R_lt (by (with_reducible repeat (first | apply Kd.R_alloc | apply Kd.R_drewN | apply Kd.R_drew)); exact HO1288.out))) (Kd.R_lt (by (with_reducible repeat (first | apply Kd.R_alloc | apply Kd.R_drewN | apply Kd.R_drew)); exact HO1299.out))) (Kd.R_lt (by (with_reducible repeat (first | apply Kd.R_alloc | apply Kd.R_drewN | apply Kd.R_drew)); exact HO1311.out))) (below_size (by repeat (first | (with_reducible first | exact HB.out | apply below_alloc | apply pw_below_drewN | apply below_drew1 | refine below_set ?_ GE1254.out | refine below_set ?_ GE1255.out | refine below_set ?_ GE1289.out | refine below_set ?_ GE1300.out) | exact HB.out))))
            have n18_ := Aside0.mk (blk_below (g := gb1254) (o := .cells #[.slice A0_0 l0_0.length c0_0, .string a0_1, .slice A0_2 l0_2.length c0_2, .slice A0_3 l0_3.length c0_3] 90 (0, 0)) (by (with_reducible repeat (first | refine blk_drewN ?_ _ | refine blk_drew ?_ | refine blk_alloc ?_ _)); exact BK1254.out) hb)
            have n19_ := Aside0.mk (blk_below (g := gb1255) (o := .cells #[.slice A1_0 l1_0.length c1_0, .string a1_1, .slice A1_2 l1_2.length c1_2, .slice A1_3 l1_3.length c1_3] 90 (0, 0)) (by (with_reducible repeat (first | refine blk_drewN ?_ _ | refine blk_drew ?_ | refine blk_alloc ?_ _)); exact BK1255.out) hb)
            have n20_ := Aside0.mk (blk_below (g := gb1289) (o := .cells #[.slice Ao52 t1279.length co52, .string t1282, .slice Ao56 t1283.length co56, .slice Ao57 t1286.length co57] 85 (0, 0)) (by (with_reducible repeat (first | refine blk_drewN ?_ _ | refine blk_drew ?_ | refine blk_alloc ?_ _)); exact BK1289.out) hb)
            have n21_ := Aside0.mk (blk_below (g := gb1300) (o := .cells #[.slice Ao61 t1290.length co61, .string t1293, .slice Ao66 t1294.length co66, .slice Ao67 t1297.length co67] 85 (0, 0)) (by (with_reducible repeat (first | refine blk_drewN ?_ _ | refine blk_drew ?_ | refine blk_alloc ?_ _)); exact BK1300.out) hb)
            have n22_ := Aside0.mk (below_step (by repeat (first | (with_reducible first | exact HB.out | apply below_alloc | apply pw_below_drewN | apply below_drew1 | refine below_set ?_ GE1254.out | refine below_set ?_ GE1255.out | refine below_set ?_ GE1289.out | refine below_set ?_ GE1300.out) | exact HB.out)) hb)
            clear HO1260
            clear HO1264
            clear HO1267
            clear HO1270
            clear HO1274
            clear HO1277
            clear HO1281
            clear HO1285
            clear HO1288
            clear HO1292
            clear HO1296
            clear HO1299
            clear HO1304
            clear HO1308
            clear HO1311
            clear BK1254
            clear BK1255
            clear BK1289
            clear BK1300
            clear HB
            have HO1260 := n0_
            have HO1264 := n1_
            have HO1267 := n2_
            have HO1270 := n3_
            have HO1274 := n4_
            have HO1277 := n5_
            have HO1281 := n6_
            have HO1285 := n7_
            have HO1288 := n8_
            have HO1292 := n9_
            have HO1296 := n10_
            have HO1299 := n11_
            have HO1304 := n12_
            have HO1308 := n13_
            have HO1311 := n14_
            have HO1315 := n15_
            have HO1319 := n16_
            have HO1322 := n17_
            have BK1254 := n18_
            have BK1255 := n19_
            have BK1289 := n20_
            have BK1300 := n21_
            have HB := n22_
            clear n0_ n1_ n2_ n3_ n4_ n5_ n6_ n7_ n8_ n9_ n10_ n11_ n12_ n13_ n14_ n15_ n16_ n17_ n18_ n19_ n20_ n21_ n22_
            (try clear hb)
            (try clear hb2)
            (try clear hk)
            (try clear hi)
            (try clear ho0)
            (try clear ho1)
            (try clear ho2)
            obtain ⟨Ao78, co78, eo78⟩ := Kd.R_slice HO1315.out
            (first | subst eo78 | (injection eo78 with f1_ f2_ f3_; have f4_ := f1_.symm; have f5_ := f3_.symm; clear f1_ f2_ f3_; subst f4_; subst f5_))
            obtain ⟨Ao79, co79, eo79⟩ := Kd.S_slice HO1319.out
            (first | subst eo79 | (injection eo79 with f1_ f2_ f3_; have f4_ := f1_.symm; have f5_ := f3_.symm; clear f1_ f2_ f3_; subst f4_; subst f5_))
            obtain ⟨Ao80, co80, eo80⟩ := Kd.R_slice HO1322.out
            (first | subst eo80 | (injection eo80 with f1_ f2_ f3_; have f4_ := f1_.symm; have f5_ := f3_.symm; clear f1_ f2_ f3_; subst f4_; subst f5_))
            refine hK.out _ _ ⟨(blk_cell BK1300.out 0).trans rfl, (blk_cell BK1300.out 1).trans rfl, (blk_cell BK1300.out 2).trans rfl, (blk_cell BK1300.out 3).trans rfl, (blk_cell BK1255.out 0).trans rfl, (blk_cell BK1255.out 1).trans rfl, (blk_cell BK1255.out 2).trans rfl, (blk_cell BK1255.out 3).trans rfl⟩ (fun hHeld => ?_)
            clear hK K
            refine norm_ (a' := ?_) ?_ ?_
            rotate_left
            · show Act.put _ (some 42) _ = _
              simp only [Act.put, List.setIfInBounds_toArray, List.set_cons_zero, List.set_cons_succ, i64_w, i32_w]
              rfl
            refine one_ (i := 3) (N := some 43) #[true, true, true, true, false] rfl rfl (by kernel_rfl) (by decide) (fun K hK => ?_)
            refine goes_ Try.func63 (by kernel_rfl) rfl #[.agg #[.slice Ao61 t1290.length co61, .string t1293, .slice Ao66 t1294.length co66, .slice Ao67 t1297.length co67], .agg #[.slice Ao78 t1313.length co78, .string t1316, .slice Ao79 t1317.length co79, .slice Ao80 t1320.length co80]] (by rfl) rfl rfl (by (try simp only [List.map_toArray, List.map_cons, List.map_nil]); first | done | rfl | (simp only [List.length_drop, List.length_take]; rfl)) ?_
            with_reducible refine (laws_eqTable.calls k _ _ t1290 t1293 _ _ t1294 _ _ t1297 _ _ t1313 t1316 _ _ t1317 _ _ t1320 true _ ?side1 ?side2 ?side3 ?side4 ?side5 ?side6 ?side7 ?side8 ?side9 ?side10 ?side11 ?side12 A30.out).mono ?_
            (case side1 => repeat (first | exact (Kd.R_reads' HO1292.out).2.2 | (with_reducible refine Kd.C_alloc ?_ _) | (with_reducible refine Kd.C_drewN ?_ _) | (with_reducible refine Kd.C_drew ?_)))
            (case side2 => exact (Kd.R_reads' HO1292.out).2.1)
            (case side3 => repeat (first | exact (Kd.S_reads' HO1296.out).2.2 | (with_reducible refine Kd.C_alloc ?_ _) | (with_reducible refine Kd.C_drewN ?_ _) | (with_reducible refine Kd.C_drew ?_)))
            (case side4 => exact (Kd.S_reads' HO1296.out).2.1)
            (case side5 => repeat (first | exact (Kd.R_reads' HO1299.out).2.2 | (with_reducible refine Kd.C_alloc ?_ _) | (with_reducible refine Kd.C_drewN ?_ _) | (with_reducible refine Kd.C_drew ?_)))
            (case side6 => exact (Kd.R_reads' HO1299.out).2.1)
            (case side7 => repeat (first | exact (Kd.R_reads' HO1315.out).2.2 | (with_reducible refine Kd.C_alloc ?_ _) | (with_reducible refine Kd.C_drewN ?_ _) | (with_reducible refine Kd.C_drew ?_)))
            (case side8 => exact (Kd.R_reads' HO1315.out).2.1)
            (case side9 => repeat (first | exact (Kd.S_reads' HO1319.out).2.2 | (with_reducible refine Kd.C_alloc ?_ _) | (with_reducible refine Kd.C_drewN ?_ _) | (with_reducible refine Kd.C_drew ?_)))
            (case side10 => exact (Kd.S_reads' HO1319.out).2.1)
            (case side11 => repeat (first | exact (Kd.R_reads' HO1322.out).2.2 | (with_reducible refine Kd.C_alloc ?_ _) | (with_reducible refine Kd.C_drewN ?_ _) | (with_reducible refine Kd.C_drew ?_)))
            (case side12 => exact (Kd.R_reads' HO1322.out).2.1)
            rintro e w81 ⟨rfl, hb⟩
            refine ⟨_, rfl, ?_⟩
            have n0_ := Aside0.mk (Kd.R_below (by (with_reducible repeat (first | apply Kd.R_alloc | apply Kd.R_drewN | apply Kd.R_drew)); exact HO1260.out) hb)
            have n1_ := Aside0.mk (Kd.S_below (by (with_reducible repeat (first | apply Kd.S_alloc | apply Kd.S_drewN | apply Kd.S_drew)); exact HO1264.out) hb)
            have n2_ := Aside0.mk (Kd.R_below (by (with_reducible repeat (first | apply Kd.R_alloc | apply Kd.R_drewN | apply Kd.R_drew)); exact HO1267.out) hb)
            have n3_ := Aside0.mk (Kd.R_below (by (with_reducible repeat (first | apply Kd.R_alloc | apply Kd.R_drewN | apply Kd.R_drew)); exact HO1270.out) hb)
            have n4_ := Aside0.mk (Kd.S_below (by (with_reducible repeat (first | apply Kd.S_alloc | apply Kd.S_drewN | apply Kd.S_drew)); exact HO1274.out) hb)
            have n5_ := Aside0.mk (Kd.R_below (by (with_reducible repeat (first | apply Kd.R_alloc | apply Kd.R_drewN | apply Kd.R_drew)); exact HO1277.out) hb)
            have n6_ := Aside0.mk (Kd.R_below (by (with_reducible repeat (first | apply Kd.R_alloc | apply Kd.R_drewN | apply Kd.R_drew)); exact HO1281.out) hb)
            have n7_ := Aside0.mk (Kd.S_below (by (with_reducible repeat (first | apply Kd.S_alloc | apply Kd.S_drewN | apply Kd.S_drew)); exact HO1285.out) hb)
            have n8_ := Aside0.mk (Kd.R_below (by (with_reducible repeat (first | apply Kd.R_alloc | apply Kd.R_drewN | apply Kd.R_drew)); exact HO1288.out) hb)
            have n9_ := Aside0.mk (Kd.R_below (by (with_reducible repeat (first | apply Kd.R_alloc | apply Kd.R_drewN | apply Kd.R_drew)); exact HO1292.out) hb)
            have n10_ := Aside0.mk (Kd.S_below (by (with_reducible repeat (first | apply Kd.S_alloc | apply Kd.S_drewN | apply Kd.S_drew)); exact HO1296.out) hb)
            have n11_ := Aside0.mk (Kd.R_below (by (with_reducible repeat (first | apply Kd.R_alloc | apply Kd.R_drewN | apply Kd.R_drew)); exact HO1299.out) hb)
            have n12_ := Aside0.mk (Kd.R_below (by (with_reducible repeat (first | apply Kd.R_alloc | apply Kd.R_drewN | apply Kd.R_drew)); exact HO1304.out) hb)
            have n13_ := Aside0.mk (Kd.S_below (by (with_reducible repeat (first | apply Kd.S_alloc | apply Kd.S_drewN | apply Kd.S_drew)); exact HO1308.out) hb)
            have n14_ := Aside0.mk (Kd.R_below (by (with_reducible repeat (first | apply Kd.R_alloc | apply Kd.R_drewN | apply Kd.R_drew)); exact HO1311.out) hb)
            have n15_ := Aside0.mk (Kd.R_below (by (with_reducible repeat (first | apply Kd.R_alloc | apply Kd.R_drewN | apply Kd.R_drew)); exact HO1315.out) hb)
            have n16_ := Aside0.mk (Kd.S_below (by (with_reducible repeat (first | apply Kd.S_alloc | apply Kd.S_drewN | apply Kd.S_drew)); exact HO1319.out) hb)
            have n17_ := Aside0.mk (Kd.R_below (by (with_reducible repeat (first | apply Kd.R_alloc | apply Kd.R_drewN | apply Kd.R_drew)); exact HO1322.out) hb)
            have n18_ := Aside0.mk (blk_below (g := gb1254) (o := .cells #[.slice A0_0 l0_0.length c0_0, .string a0_1, .slice A0_2 l0_2.length c0_2, .slice A0_3 l0_3.length c0_3] 90 (0, 0)) (by (with_reducible repeat (first | refine blk_drewN ?_ _ | refine blk_drew ?_ | refine blk_alloc ?_ _)); exact BK1254.out) hb)
            have n19_ := Aside0.mk (blk_below (g := gb1255) (o := .cells #[.slice A1_0 l1_0.length c1_0, .string a1_1, .slice A1_2 l1_2.length c1_2, .slice A1_3 l1_3.length c1_3] 90 (0, 0)) (by (with_reducible repeat (first | refine blk_drewN ?_ _ | refine blk_drew ?_ | refine blk_alloc ?_ _)); exact BK1255.out) hb)
            have n20_ := Aside0.mk (blk_below (g := gb1289) (o := .cells #[.slice Ao52 t1279.length co52, .string t1282, .slice Ao56 t1283.length co56, .slice Ao57 t1286.length co57] 85 (0, 0)) (by (with_reducible repeat (first | refine blk_drewN ?_ _ | refine blk_drew ?_ | refine blk_alloc ?_ _)); exact BK1289.out) hb)
            have n21_ := Aside0.mk (blk_below (g := gb1300) (o := .cells #[.slice Ao61 t1290.length co61, .string t1293, .slice Ao66 t1294.length co66, .slice Ao67 t1297.length co67] 85 (0, 0)) (by (with_reducible repeat (first | refine blk_drewN ?_ _ | refine blk_drew ?_ | refine blk_alloc ?_ _)); exact BK1300.out) hb)
            have n22_ := Aside0.mk (below_step (by repeat (first | (with_reducible first | exact HB.out | apply below_alloc | apply pw_below_drewN | apply below_drew1 | refine below_set ?_ GE1254.out | refine below_set ?_ GE1255.out | refine below_set ?_ GE1289.out | refine below_set ?_ GE1300.out) | exact HB.out)) hb)
            clear HO1260
            clear HO1264
            clear HO1267
            clear HO1270
            clear HO1274
            clear HO1277
            clear HO1281
            clear HO1285
            clear HO1288
            clear HO1292
            clear HO1296
            clear HO1299
            clear HO1304
            clear HO1308
            clear HO1311
            clear HO1315
            clear HO1319
            clear HO1322
            clear BK1254
            clear BK1255
            clear BK1289
            clear BK1300
            clear HB
            have HO1260 := n0_
            have HO1264 := n1_
            have HO1267 := n2_
            have HO1270 := n3_
            have HO1274 := n4_
            have HO1277 := n5_
            have HO1281 := n6_
            have HO1285 := n7_
            have HO1288 := n8_
            have HO1292 := n9_
            have HO1296 := n10_
            have HO1299 := n11_
            have HO1304 := n12_
            have HO1308 := n13_
            have HO1311 := n14_
            have HO1315 := n15_
            have HO1319 := n16_
            have HO1322 := n17_
            have BK1254 := n18_
            have BK1255 := n19_
            have BK1289 := n20_
            have BK1300 := n21_
            have HB := n22_
            clear n0_ n1_ n2_ n3_ n4_ n5_ n6_ n7_ n8_ n9_ n10_ n11_ n12_ n13_ n14_ n15_ n16_ n17_ n18_ n19_ n20_ n21_ n22_
            (try clear hb)
            (try clear hb2)
            (try clear hk)
            (try clear hi)
            refine hK.out _ _ ⟨(blk_cell BK1300.out 0).trans rfl, (blk_cell BK1300.out 1).trans rfl, (blk_cell BK1300.out 2).trans rfl, (blk_cell BK1300.out 3).trans rfl, (blk_cell BK1255.out 0).trans rfl, (blk_cell BK1255.out 1).trans rfl, (blk_cell BK1255.out 2).trans rfl, (blk_cell BK1255.out 3).trans rfl⟩ (fun hHeld => ?_)
            clear hK K
            refine norm_ (a' := ?_) ?_ ?_
            rotate_left
            · show Act.put _ (some 43) _ = _
              simp only [Act.put, List.setIfInBounds_toArray, List.set_cons_zero, List.set_cons_succ, i64_w, i32_w]
              rfl
            refine pure_ (i := 4) (N := some 44) (v := ?_) (a' := ?_) #[true, true, true, true, true] rfl rfl (by kernel_rfl) (fun _ _ _ h => h) (Or.inl ⟨by rfl, ?_⟩) ?_ ?_
            rotate_left
            · intro w'
              go_simp
              with_reducible rfl
            rotate_left
            · simp only [Act.put, List.setIfInBounds_toArray, List.set_cons_zero, List.set_cons_succ, i64_w, i32_w]
              rfl
            refine done_ (by kernel_rfl) ?_
            try go_wp2
            go_ret
            exact ⟨by first | rfl | (simp [errW_none, errW_some] <;> rfl) | (simp [*, errW_none, errW_some] <;> rfl), by repeat (first | (with_reducible first | exact HB.out | apply below_alloc | apply pw_below_drewN | apply below_drew1 | refine below_set ?_ GE1254.out | refine below_set ?_ GE1255.out | refine below_set ?_ GE1289.out | refine below_set ?_ GE1300.out) | exact HB.out)⟩
          · replace c31 := Bool.eq_false_iff.mpr c31
            subst c31
            have H1 : (some false) = some r := by rw [if_neg (show ¬ (false = true) by decide)] at H; exact H
            clear H
            have H := H1
            clear H1
            exact absurd ((Option.some.inj H).trans HRT.out) (by decide)
        · replace c28 := Bool.eq_false_iff.mpr c28
          subst c28
          have H1 : (some false) = some r := by rw [if_neg (show ¬ (false = true) by decide)] at H; exact H
          clear H
          have H := H1
          clear H1
          exact absurd ((Option.some.inj H).trans HRT.out) (by decide)

end Go.Proofs.Ytohngimlmcdiiaa.Q
