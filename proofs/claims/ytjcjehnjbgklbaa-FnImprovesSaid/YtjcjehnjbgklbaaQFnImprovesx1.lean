/- The machine side of FnImproves: what each Go function that it reaches comes to. Conditions: none. -/
import Derived.Test.YtjcjehnjbgklbaaQFnImprovesx0
namespace Go.Proofs.Ytjcjehnjbgklbaa.QFnImproves
open Go.RowKit Go.Proofs.YtjcjehnjbgklbaaW.PrintWords Go.Proofs.YtjcjehnjbgklbaaW.PrintLast Go.Proofs.YtjcjehnjbgklbaaW.PrintMore
attribute [local go_sem] max2_int min2_int max_two min_two max_three min_three max_four min_four   -- for this text's walks alone
set_option linter.unusedVariables false
set_option linter.unusedSimpArgs false

/-! ### laws_big: function 13 -/
def laws_big.f (l0 : List Int) : Option (Bool) := some (decide ((l0.length : Int) > 1048576))
set_option maxHeartbeats 8000000 in
set_option maxRecDepth 100000 in
theorem laws_big.calls (A0 : Option Addr) (c0 : Nat) (l0 : List Int) (r : Bool) (w : World) (hr0 : Kd.C (Kd.int .u8) w A0 l0.length l0) (hc0 : l0.length ≤ c0) (h : laws_big.f l0 = some r) :
    Calls Try.prog 13 #[.slice A0 l0.length c0] w fun e w' => e = .returned (.bool r) ∧ Drawn0 w w' := by
  have HR0 := Aside0.mk hr0
  have HC0 := Aside0.mk hc0
  clear hr0 hc0
  have H : (some (decide ((l0.length : Int) > 1048576))) = some r := h
  clear h
  obtain rfl := Option.some.inj H
  go_enter Try.func13,Try.ntmps13
  go_wp2
  go_ret
  exact ⟨Z514,Z491⟩

/-! ### impl_WideOk: function 31 -/
theorem impl_WideOk.cells3 {w : World} {g : Nat} {t : TypeId} {a0 a1 a2 : Value} (h : w.heap[g]? = some (.cells #[a0,a1,a2] t (0,0))) : w.cell? ⟨g,0,none⟩ = some a0 ∧ w.cell? ⟨g,1,none⟩ = some a1 ∧ w.cell? ⟨g,2,none⟩ = some a2 ∧ w.frozen? ⟨g,0,none⟩ = false ∧ w.frozen? ⟨g,1,none⟩ = false ∧ w.frozen? ⟨g,2,none⟩ = false := ⟨(blk_cell h 0).trans rfl,(blk_cell h 1).trans rfl,(blk_cell h 2).trans rfl,blk_frozen h 0,blk_frozen h 1,blk_frozen h 2⟩
def impl_WideOk.f (a0_0 : Bool) (a0_1 : Int) (a0_2 : Int) : Option (Bool) := if a0_1 < 9223372036854775808 then (if a0_0 = true then (if a0_1 > 0 then (some true) else (some (decide (a0_2 > 0)))) else (some true)) else (some false)
set_option maxHeartbeats 8000000 in
set_option maxRecDepth 100000 in
theorem impl_WideOk.calls (a0_0 : Bool) (a0_1 : Int) (a0_2 : Int) (r : Bool) (w : World) (h : impl_WideOk.f a0_0 a0_1 a0_2 = some r) :
    Calls Try.prog 31 #[.agg #[.bool a0_0,.int .u64 a0_1,.int .u64 a0_2]] w fun e w' => e = .returned (.bool r) ∧ Below w.heap.size w w' := by
  have hu28 := Try.underlying28
  have HB := Aside0.mk (Below.refl w.heap.size w)
  have H : (if a0_1 < 9223372036854775808 then (if a0_0 = true then (if a0_1 > 0 then (some true) else (some (decide (a0_2 > 0)))) else (some true)) else (some false)) = some r := h
  clear h
  by_cases c2 : a0_1 < 9223372036854775808
  · rw [if_pos c2] at H
    have c2b0 : decide (a0_1 < 9223372036854775808) = true := decide_eq_true c2
    clear c2
    by_cases c3 : a0_0 = true
    · subst c3
      have H1 : (if a0_1 > 0 then (some true) else (some (decide (a0_2 > 0)))) = some r := by rw [if_pos rfl] at H;exact H
      clear H
      have H := H1
      clear H1
      by_cases c4 : a0_1 > 0
      · rw [if_pos c4] at H
        have c4b0 : decide (0 < a0_1) = true := decide_eq_true c4
        clear c4
        obtain rfl := Option.some.inj H
        go_enter Try.func31,Try.ntmps31
        go_wp2_with (first | ((with_reducible refine gate_dst (N := 1) rfl ?_);refine box_event ?hg (N := 1) ?hd (cs := #[.bool true,.int .u64 a0_1,.int .u64 a0_2]) (t := 28) ?hr ?_;(case hd => rfl);(case hg => rfl);(case hr => exact Z515);intro gb101 hg w5 hbox hb;have n_ := jA (below_step Z486 hb) (jA (hbox) (jA ((Z271 : w.heap.size ≤ gb101)) (Aside0.mk ((Z271 : w.heap.size ≤ gb101)))));clear HB;obtain ⟨HB,BK101,GW101,GE101⟩ := n_;clear hb hbox hg;obtain ⟨hcz6_0,hcz6_1,hcz6_2,hfz6_0,hfz6_1,hfz6_2⟩ := impl_WideOk.cells3 BK101.out))
        go_ret
        exact ⟨Z400,Z303⟩
      · rw [if_neg c4] at H
        have c4b0 : decide (0 < a0_1) = false := decide_eq_false c4
        clear c4
        obtain rfl := Option.some.inj H
        go_enter Try.func31,Try.ntmps31
        go_wp2_with (first | ((with_reducible refine gate_dst (N := 1) rfl ?_);refine box_event ?hg (N := 1) ?hd (cs := #[.bool true,.int .u64 a0_1,.int .u64 a0_2]) (t := 28) ?hr ?_;(case hd => rfl);(case hg => rfl);(case hr => exact Z515);intro gb101 hg w7 hbox hb;have n_ := jA (below_step Z486 hb) (jA (hbox) (jA ((Z271 : w.heap.size ≤ gb101)) (Aside0.mk ((Z271 : w.heap.size ≤ gb101)))));clear HB;obtain ⟨HB,BK101,GW101,GE101⟩ := n_;clear hb hbox hg;obtain ⟨hcz8_0,hcz8_1,hcz8_2,hfz8_0,hfz8_1,hfz8_2⟩ := impl_WideOk.cells3 BK101.out))
        go_ret
        exact ⟨Z400,Z303⟩
    · replace c3 := Bool.eq_false_iff.mpr c3
      subst c3
      have H1 : (some true) = some r := by rw [if_neg (show ¬ (false = true) by decide)] at H;exact H
      clear H
      have H := H1
      clear H1
      obtain rfl := Option.some.inj H
      go_enter Try.func31,Try.ntmps31
      go_wp2_with (first | ((with_reducible refine gate_dst (N := 1) rfl ?_);refine box_event ?hg (N := 1) ?hd (cs := #[.bool false,.int .u64 a0_1,.int .u64 a0_2]) (t := 28) ?hr ?_;(case hd => rfl);(case hg => rfl);(case hr => exact Z515);intro gb101 hg w9 hbox hb;have n_ := jA (below_step Z486 hb) (jA (hbox) (jA ((Z271 : w.heap.size ≤ gb101)) (Aside0.mk ((Z271 : w.heap.size ≤ gb101)))));clear HB;obtain ⟨HB,BK101,GW101,GE101⟩ := n_;clear hb hbox hg;obtain ⟨hcz10_0,hcz10_1,hcz10_2,hfz10_0,hfz10_1,hfz10_2⟩ := impl_WideOk.cells3 BK101.out))
      go_ret
      exact ⟨Z400,Z303⟩
  · rw [if_neg c2] at H
    have c2b0 : decide (a0_1 < 9223372036854775808) = false := decide_eq_false c2
    clear c2
    obtain rfl := Option.some.inj H
    go_enter Try.func31,Try.ntmps31
    go_wp2_with (first | ((with_reducible refine gate_dst (N := 1) rfl ?_);refine box_event ?hg (N := 1) ?hd (cs := #[.bool a0_0,.int .u64 a0_1,.int .u64 a0_2]) (t := 28) ?hr ?_;(case hd => rfl);(case hg => rfl);(case hr => exact Z515);intro gb101 hg w11 hbox hb;have n_ := jA (below_step Z486 hb) (jA (hbox) (jA ((Z271 : w.heap.size ≤ gb101)) (Aside0.mk ((Z271 : w.heap.size ≤ gb101)))));clear HB;obtain ⟨HB,BK101,GW101,GE101⟩ := n_;clear hb hbox hg;obtain ⟨hcz12_0,hcz12_1,hcz12_2,hfz12_0,hfz12_1,hfz12_2⟩ := impl_WideOk.cells3 BK101.out))
    go_ret
    exact ⟨Z400,Z303⟩

/-! ### impl_within: function 32 -/
def impl_within.f (a0 : Int) (a1 : Int) (a2 : Int) : Option (Bool) := if a0 ≥ a1 then (some (decide (a0 ≤ a2))) else (some false)
set_option maxHeartbeats 8000000 in
set_option maxRecDepth 100000 in
theorem impl_within.calls (a0 : Int) (a1 : Int) (a2 : Int) (r : Bool) (w : World) (h : impl_within.f a0 a1 a2 = some r) :
    Calls Try.prog 32 #[.int .i64 a0,.int .i64 a1,.int .i64 a2] w fun e w' => e = .returned (.bool r) ∧ Drawn0 w w' := by
  have H : (if a0 ≥ a1 then (some (decide (a0 ≤ a2))) else (some false)) = some r := h
  clear h
  by_cases c4 : a0 ≥ a1
  · rw [if_pos c4] at H
    have c4b0 : decide (a1 ≤ a0) = true := decide_eq_true c4
    clear c4
    obtain rfl := Option.some.inj H
    go_enter Try.func32,Try.ntmps32
    go_wp2
    go_ret
    exact ⟨Z514,Z491⟩
  · rw [if_neg c4] at H
    have c4b0 : decide (a1 ≤ a0) = false := decide_eq_false c4
    clear c4
    obtain rfl := Option.some.inj H
    go_enter Try.func32,Try.ntmps32
    go_wp2
    go_ret
    exact ⟨Z514,Z491⟩

/-! ### impl_FracOk: function 15 -/
theorem impl_FracOk.cells4 {w : World} {g : Nat} {t : TypeId} {a0 a1 a2 a3 : Value} (h : w.heap[g]? = some (.cells #[a0,a1,a2,a3] t (0,0))) : w.cell? ⟨g,0,none⟩ = some a0 ∧ w.cell? ⟨g,1,none⟩ = some a1 ∧ w.cell? ⟨g,2,none⟩ = some a2 ∧ w.cell? ⟨g,3,none⟩ = some a3 ∧ w.frozen? ⟨g,0,none⟩ = false ∧ w.frozen? ⟨g,1,none⟩ = false ∧ w.frozen? ⟨g,2,none⟩ = false ∧ w.frozen? ⟨g,3,none⟩ = false := ⟨(blk_cell h 0).trans rfl,(blk_cell h 1).trans rfl,(blk_cell h 2).trans rfl,(blk_cell h 3).trans rfl,blk_frozen h 0,blk_frozen h 1,blk_frozen h 2,blk_frozen h 3⟩
def impl_FracOk.f (a0_0 : Bool) (a0_1 : Int) (a0_2 : Int) (a0_3 : Int) : Option (Bool) := (impl_WideOk.f a0_0 a0_1 a0_2).bind fun t103 => (if t103 = true then ((impl_within.f a0_3 1 1000000).bind fun t104 => (some t104)) else (some false))
set_option maxHeartbeats 8000000 in
set_option maxRecDepth 100000 in
theorem impl_FracOk.calls (a0_0 : Bool) (a0_1 : Int) (a0_2 : Int) (a0_3 : Int) (r : Bool) (w : World) (h : impl_FracOk.f a0_0 a0_1 a0_2 a0_3 = some r) :
    Calls Try.prog 15 #[.agg #[.bool a0_0,.int .u64 a0_1,.int .u64 a0_2,.int .i64 a0_3]] w fun e w' => e = .returned (.bool r) ∧ Below w.heap.size w w' := by
  have hu30 := Try.underlying30
  have hu28 := Try.underlying28
  have HB := Aside0.mk (Below.refl w.heap.size w)
  have H : ((impl_WideOk.f a0_0 a0_1 a0_2).bind fun t103 => (if t103 = true then ((impl_within.f a0_3 1 1000000).bind fun t104 => (some t104)) else (some false))) = some r := h
  clear h
  obtain ⟨t103,A20,H⟩ := Option.bind_eq_some_iff.mp H
  have A2 := Aside0.mk A20
  clear A20
  by_cases c3 : t103 = true
  · subst c3
    have H1 : ((impl_within.f a0_3 1 1000000).bind fun t104 => (some t104)) = some r := by rw [if_pos rfl] at H;exact H
    clear H
    have H := H1
    clear H1
    obtain ⟨t104,A40,H⟩ := Option.bind_eq_some_iff.mp H
    have A4 := Aside0.mk A40
    clear A40
    obtain rfl := Option.some.inj H
    go_enter Try.func15,Try.ntmps15
    go_wp2_with (first | ((with_reducible refine gate_dst (N := 1) rfl ?_);refine box_event ?hg (N := 1) ?hd (cs := #[.bool a0_0,.int .u64 a0_1,.int .u64 a0_2,.int .i64 a0_3]) (t := 30) ?hr ?_;(case hd => rfl);(case hg => rfl);(case hr => exact Z515);intro gb102 hg w5 hbox hb;have n_ := jA (below_step Z486 hb) (jA (hbox) (jA ((Z271 : w.heap.size ≤ gb102)) (Aside0.mk ((Z271 : w.heap.size ≤ gb102)))));clear HB;obtain ⟨HB,BK102,GW102,GE102⟩ := n_;clear hb hbox hg;obtain ⟨hcz6_0,hcz6_1,hcz6_2,hcz6_3,hfz6_0,hfz6_1,hfz6_2,hfz6_3⟩ := impl_FracOk.cells4 BK102.out) | ((with_reducible refine gate_callee (f := 31) rfl ?_);refine goesL_ (some 5) rfl rfl Try.func31 Z580 rfl #[.agg #[.bool a0_0,.int .u64 a0_1,.int .u64 a0_2]] rfl Z395 ?_;(with_reducible refine (impl_WideOk.calls a0_0 a0_1 a0_2 true _ A2.out).mono ?_);rintro e w7 ⟨rfl,hb⟩;refine ⟨_,rfl,?_⟩;have n_ := jA (blk_below (g := gb102) (o := .cells #[.bool a0_0,.int .u64 a0_1,.int .u64 a0_2,.int .i64 a0_3] 30 (0,0)) (by refine bP ?_;exact BK102.out) hb) (Aside0.mk (below_step Z297 hb));clear BK102 HB;obtain ⟨BK102,HB⟩ := n_;(try clear hb);(try clear hb2);(try clear hk);(try clear hi);obtain ⟨hcz8_0,hcz8_1,hcz8_2,hcz8_3,hfz8_0,hfz8_1,hfz8_2,hfz8_3⟩ := impl_FracOk.cells4 BK102.out) | (go_at_call 32;(with_reducible refine (impl_within.calls a0_3 1 1000000 t104 _ A4.out).mono ?_);rintro e w' ⟨rfl,⟨nd,rfl⟩⟩))
    go_ret
    exact ⟨Z400,Z297⟩
  · replace c3 := Bool.eq_false_iff.mpr c3
    subst c3
    have H1 : (some false) = some r := by rw [if_neg (show ¬ (false = true) by decide)] at H;exact H
    clear H
    have H := H1
    clear H1
    obtain rfl := Option.some.inj H
    go_enter Try.func15,Try.ntmps15
    go_wp2_with (first | ((with_reducible refine gate_dst (N := 1) rfl ?_);refine box_event ?hg (N := 1) ?hd (cs := #[.bool a0_0,.int .u64 a0_1,.int .u64 a0_2,.int .i64 a0_3]) (t := 30) ?hr ?_;(case hd => rfl);(case hg => rfl);(case hr => exact Z515);intro gb102 hg w9 hbox hb;have n_ := jA (below_step Z486 hb) (jA (hbox) (jA ((Z271 : w.heap.size ≤ gb102)) (Aside0.mk ((Z271 : w.heap.size ≤ gb102)))));clear HB;obtain ⟨HB,BK102,GW102,GE102⟩ := n_;clear hb hbox hg;obtain ⟨hcz10_0,hcz10_1,hcz10_2,hcz10_3,hfz10_0,hfz10_1,hfz10_2,hfz10_3⟩ := impl_FracOk.cells4 BK102.out) | ((with_reducible refine gate_callee (f := 31) rfl ?_);refine goesL_ (some 5) rfl rfl Try.func31 Z580 rfl #[.agg #[.bool a0_0,.int .u64 a0_1,.int .u64 a0_2]] rfl Z395 ?_;(with_reducible refine (impl_WideOk.calls a0_0 a0_1 a0_2 false _ A2.out).mono ?_);rintro e w11 ⟨rfl,hb⟩;refine ⟨_,rfl,?_⟩;have n_ := jA (blk_below (g := gb102) (o := .cells #[.bool a0_0,.int .u64 a0_1,.int .u64 a0_2,.int .i64 a0_3] 30 (0,0)) (by refine bP ?_;exact BK102.out) hb) (Aside0.mk (below_step Z297 hb));clear BK102 HB;obtain ⟨BK102,HB⟩ := n_;(try clear hb);(try clear hb2);(try clear hk);(try clear hi)))
    go_ret
    exact ⟨Z400,Z297⟩

/-! ### spec_l1In: function 41 -/
def spec_l1In.f (a0 : Int) (a1 : Int) (a2 : Int) : Option (Bool) := if a0 ≥ a1 then (some (decide (a0 ≤ a2))) else (some false)
set_option maxHeartbeats 8000000 in
set_option maxRecDepth 100000 in
theorem spec_l1In.calls (a0 : Int) (a1 : Int) (a2 : Int) (r : Bool) (w : World) (h : spec_l1In.f a0 a1 a2 = some r) :
    Calls Try.prog 41 #[.int .i64 a0,.int .i64 a1,.int .i64 a2] w fun e w' => e = .returned (.bool r) ∧ Drawn0 w w' := by
  have H : (if a0 ≥ a1 then (some (decide (a0 ≤ a2))) else (some false)) = some r := h
  clear h
  by_cases c4 : a0 ≥ a1
  · rw [if_pos c4] at H
    have c4b0 : decide (a1 ≤ a0) = true := decide_eq_true c4
    clear c4
    obtain rfl := Option.some.inj H
    go_enter Try.func41,Try.ntmps41
    go_wp2
    go_ret
    exact ⟨Z514,Z491⟩
  · rw [if_neg c4] at H
    have c4b0 : decide (a1 ≤ a0) = false := decide_eq_false c4
    clear c4
    obtain rfl := Option.some.inj H
    go_enter Try.func41,Try.ntmps41
    go_wp2
    go_ret
    exact ⟨Z514,Z491⟩

/-! ### spec_WideOk: function 65 -/
theorem spec_WideOk.cells3 {w : World} {g : Nat} {t : TypeId} {a0 a1 a2 : Value} (h : w.heap[g]? = some (.cells #[a0,a1,a2] t (0,0))) : w.cell? ⟨g,0,none⟩ = some a0 ∧ w.cell? ⟨g,1,none⟩ = some a1 ∧ w.cell? ⟨g,2,none⟩ = some a2 ∧ w.frozen? ⟨g,0,none⟩ = false ∧ w.frozen? ⟨g,1,none⟩ = false ∧ w.frozen? ⟨g,2,none⟩ = false := ⟨(blk_cell h 0).trans rfl,(blk_cell h 1).trans rfl,(blk_cell h 2).trans rfl,blk_frozen h 0,blk_frozen h 1,blk_frozen h 2⟩
def spec_WideOk.f (a0_0 : Bool) (a0_1 : Int) (a0_2 : Int) : Option (Bool) := if a0_1 < 9223372036854775808 then (if a0_0 = true then (if a0_1 > 0 then (some true) else (some (decide (a0_2 > 0)))) else (some true)) else (some false)
set_option maxHeartbeats 8000000 in
set_option maxRecDepth 100000 in
theorem spec_WideOk.calls (a0_0 : Bool) (a0_1 : Int) (a0_2 : Int) (r : Bool) (w : World) (h : spec_WideOk.f a0_0 a0_1 a0_2 = some r) :
    Calls Try.prog 65 #[.agg #[.bool a0_0,.int .u64 a0_1,.int .u64 a0_2]] w fun e w' => e = .returned (.bool r) ∧ Below w.heap.size w w' := by
  have hu28 := Try.underlying28
  have HB := Aside0.mk (Below.refl w.heap.size w)
  have H : (if a0_1 < 9223372036854775808 then (if a0_0 = true then (if a0_1 > 0 then (some true) else (some (decide (a0_2 > 0)))) else (some true)) else (some false)) = some r := h
  clear h
  by_cases c2 : a0_1 < 9223372036854775808
  · rw [if_pos c2] at H
    have c2b0 : decide (a0_1 < 9223372036854775808) = true := decide_eq_true c2
    clear c2
    by_cases c3 : a0_0 = true
    · subst c3
      have H1 : (if a0_1 > 0 then (some true) else (some (decide (a0_2 > 0)))) = some r := by rw [if_pos rfl] at H;exact H
      clear H
      have H := H1
      clear H1
      by_cases c4 : a0_1 > 0
      · rw [if_pos c4] at H
        have c4b0 : decide (0 < a0_1) = true := decide_eq_true c4
        clear c4
        obtain rfl := Option.some.inj H
        go_enter Try.func65,Try.ntmps65
        go_wp2_with (first | ((with_reducible refine gate_dst (N := 1) rfl ?_);refine box_event ?hg (N := 1) ?hd (cs := #[.bool true,.int .u64 a0_1,.int .u64 a0_2]) (t := 28) ?hr ?_;(case hd => rfl);(case hg => rfl);(case hr => exact Z515);intro gb105 hg w5 hbox hb;have n_ := jA (below_step Z486 hb) (jA (hbox) (jA ((Z271 : w.heap.size ≤ gb105)) (Aside0.mk ((Z271 : w.heap.size ≤ gb105)))));clear HB;obtain ⟨HB,BK105,GW105,GE105⟩ := n_;clear hb hbox hg;obtain ⟨hcz6_0,hcz6_1,hcz6_2,hfz6_0,hfz6_1,hfz6_2⟩ := spec_WideOk.cells3 BK105.out))
        go_ret
        exact ⟨Z400,Z302⟩
      · rw [if_neg c4] at H
        have c4b0 : decide (0 < a0_1) = false := decide_eq_false c4
        clear c4
        obtain rfl := Option.some.inj H
        go_enter Try.func65,Try.ntmps65
        go_wp2_with (first | ((with_reducible refine gate_dst (N := 1) rfl ?_);refine box_event ?hg (N := 1) ?hd (cs := #[.bool true,.int .u64 a0_1,.int .u64 a0_2]) (t := 28) ?hr ?_;(case hd => rfl);(case hg => rfl);(case hr => exact Z515);intro gb105 hg w7 hbox hb;have n_ := jA (below_step Z486 hb) (jA (hbox) (jA ((Z271 : w.heap.size ≤ gb105)) (Aside0.mk ((Z271 : w.heap.size ≤ gb105)))));clear HB;obtain ⟨HB,BK105,GW105,GE105⟩ := n_;clear hb hbox hg;obtain ⟨hcz8_0,hcz8_1,hcz8_2,hfz8_0,hfz8_1,hfz8_2⟩ := spec_WideOk.cells3 BK105.out))
        go_ret
        exact ⟨Z400,Z302⟩
    · replace c3 := Bool.eq_false_iff.mpr c3
      subst c3
      have H1 : (some true) = some r := by rw [if_neg (show ¬ (false = true) by decide)] at H;exact H
      clear H
      have H := H1
      clear H1
      obtain rfl := Option.some.inj H
      go_enter Try.func65,Try.ntmps65
      go_wp2_with (first | ((with_reducible refine gate_dst (N := 1) rfl ?_);refine box_event ?hg (N := 1) ?hd (cs := #[.bool false,.int .u64 a0_1,.int .u64 a0_2]) (t := 28) ?hr ?_;(case hd => rfl);(case hg => rfl);(case hr => exact Z515);intro gb105 hg w9 hbox hb;have n_ := jA (below_step Z486 hb) (jA (hbox) (jA ((Z271 : w.heap.size ≤ gb105)) (Aside0.mk ((Z271 : w.heap.size ≤ gb105)))));clear HB;obtain ⟨HB,BK105,GW105,GE105⟩ := n_;clear hb hbox hg;obtain ⟨hcz10_0,hcz10_1,hcz10_2,hfz10_0,hfz10_1,hfz10_2⟩ := spec_WideOk.cells3 BK105.out))
      go_ret
      exact ⟨Z400,Z302⟩
  · rw [if_neg c2] at H
    have c2b0 : decide (a0_1 < 9223372036854775808) = false := decide_eq_false c2
    clear c2
    obtain rfl := Option.some.inj H
    go_enter Try.func65,Try.ntmps65
    go_wp2_with (first | ((with_reducible refine gate_dst (N := 1) rfl ?_);refine box_event ?hg (N := 1) ?hd (cs := #[.bool a0_0,.int .u64 a0_1,.int .u64 a0_2]) (t := 28) ?hr ?_;(case hd => rfl);(case hg => rfl);(case hr => exact Z515);intro gb105 hg w11 hbox hb;have n_ := jA (below_step Z486 hb) (jA (hbox) (jA ((Z271 : w.heap.size ≤ gb105)) (Aside0.mk ((Z271 : w.heap.size ≤ gb105)))));clear HB;obtain ⟨HB,BK105,GW105,GE105⟩ := n_;clear hb hbox hg;obtain ⟨hcz12_0,hcz12_1,hcz12_2,hfz12_0,hfz12_1,hfz12_2⟩ := spec_WideOk.cells3 BK105.out))
    go_ret
    exact ⟨Z400,Z302⟩

/-! ### spec_FracOk: function 47 -/
theorem spec_FracOk.cells4 {w : World} {g : Nat} {t : TypeId} {a0 a1 a2 a3 : Value} (h : w.heap[g]? = some (.cells #[a0,a1,a2,a3] t (0,0))) : w.cell? ⟨g,0,none⟩ = some a0 ∧ w.cell? ⟨g,1,none⟩ = some a1 ∧ w.cell? ⟨g,2,none⟩ = some a2 ∧ w.cell? ⟨g,3,none⟩ = some a3 ∧ w.frozen? ⟨g,0,none⟩ = false ∧ w.frozen? ⟨g,1,none⟩ = false ∧ w.frozen? ⟨g,2,none⟩ = false ∧ w.frozen? ⟨g,3,none⟩ = false := ⟨(blk_cell h 0).trans rfl,(blk_cell h 1).trans rfl,(blk_cell h 2).trans rfl,(blk_cell h 3).trans rfl,blk_frozen h 0,blk_frozen h 1,blk_frozen h 2,blk_frozen h 3⟩
def spec_FracOk.f (a0_0 : Bool) (a0_1 : Int) (a0_2 : Int) (a0_3 : Int) : Option (Bool) := (spec_WideOk.f a0_0 a0_1 a0_2).bind fun t107 => (if t107 = true then ((spec_l1In.f a0_3 1 1000000).bind fun t108 => (some t108)) else (some false))
set_option maxHeartbeats 8000000 in
set_option maxRecDepth 100000 in
theorem spec_FracOk.calls (a0_0 : Bool) (a0_1 : Int) (a0_2 : Int) (a0_3 : Int) (r : Bool) (w : World) (h : spec_FracOk.f a0_0 a0_1 a0_2 a0_3 = some r) :
    Calls Try.prog 47 #[.agg #[.bool a0_0,.int .u64 a0_1,.int .u64 a0_2,.int .i64 a0_3]] w fun e w' => e = .returned (.bool r) ∧ Below w.heap.size w w' := by
  have hu30 := Try.underlying30
  have hu28 := Try.underlying28
  have HB := Aside0.mk (Below.refl w.heap.size w)
  have H : ((spec_WideOk.f a0_0 a0_1 a0_2).bind fun t107 => (if t107 = true then ((spec_l1In.f a0_3 1 1000000).bind fun t108 => (some t108)) else (some false))) = some r := h
  clear h
  obtain ⟨t107,A20,H⟩ := Option.bind_eq_some_iff.mp H
  have A2 := Aside0.mk A20
  clear A20
  by_cases c3 : t107 = true
  · subst c3
    have H1 : ((spec_l1In.f a0_3 1 1000000).bind fun t108 => (some t108)) = some r := by rw [if_pos rfl] at H;exact H
    clear H
    have H := H1
    clear H1
    obtain ⟨t108,A40,H⟩ := Option.bind_eq_some_iff.mp H
    have A4 := Aside0.mk A40
    clear A40
    obtain rfl := Option.some.inj H
    go_enter Try.func47,Try.ntmps47
    go_wp2_with (first | ((with_reducible refine gate_dst (N := 1) rfl ?_);refine box_event ?hg (N := 1) ?hd (cs := #[.bool a0_0,.int .u64 a0_1,.int .u64 a0_2,.int .i64 a0_3]) (t := 30) ?hr ?_;(case hd => rfl);(case hg => rfl);(case hr => exact Z515);intro gb106 hg w5 hbox hb;have n_ := jA (below_step Z486 hb) (jA (hbox) (jA ((Z271 : w.heap.size ≤ gb106)) (Aside0.mk ((Z271 : w.heap.size ≤ gb106)))));clear HB;obtain ⟨HB,BK106,GW106,GE106⟩ := n_;clear hb hbox hg;obtain ⟨hcz6_0,hcz6_1,hcz6_2,hcz6_3,hfz6_0,hfz6_1,hfz6_2,hfz6_3⟩ := spec_FracOk.cells4 BK106.out) | ((with_reducible refine gate_callee (f := 65) rfl ?_);refine goesL_ (some 5) rfl rfl Try.func65 Z580 rfl #[.agg #[.bool a0_0,.int .u64 a0_1,.int .u64 a0_2]] rfl Z395 ?_;(with_reducible refine (spec_WideOk.calls a0_0 a0_1 a0_2 true _ A2.out).mono ?_);rintro e w7 ⟨rfl,hb⟩;refine ⟨_,rfl,?_⟩;have n_ := jA (blk_below (g := gb106) (o := .cells #[.bool a0_0,.int .u64 a0_1,.int .u64 a0_2,.int .i64 a0_3] 30 (0,0)) (by refine bP ?_;exact BK106.out) hb) (Aside0.mk (below_step Z296 hb));clear BK106 HB;obtain ⟨BK106,HB⟩ := n_;(try clear hb);(try clear hb2);(try clear hk);(try clear hi);obtain ⟨hcz8_0,hcz8_1,hcz8_2,hcz8_3,hfz8_0,hfz8_1,hfz8_2,hfz8_3⟩ := spec_FracOk.cells4 BK106.out) | (go_at_call 41;(with_reducible refine (spec_l1In.calls a0_3 1 1000000 t108 _ A4.out).mono ?_);rintro e w' ⟨rfl,⟨nd,rfl⟩⟩))
    go_ret
    exact ⟨Z400,Z296⟩
  · replace c3 := Bool.eq_false_iff.mpr c3
    subst c3
    have H1 : (some false) = some r := by rw [if_neg (show ¬ (false = true) by decide)] at H;exact H
    clear H
    have H := H1
    clear H1
    obtain rfl := Option.some.inj H
    go_enter Try.func47,Try.ntmps47
    go_wp2_with (first | ((with_reducible refine gate_dst (N := 1) rfl ?_);refine box_event ?hg (N := 1) ?hd (cs := #[.bool a0_0,.int .u64 a0_1,.int .u64 a0_2,.int .i64 a0_3]) (t := 30) ?hr ?_;(case hd => rfl);(case hg => rfl);(case hr => exact Z515);intro gb106 hg w9 hbox hb;have n_ := jA (below_step Z486 hb) (jA (hbox) (jA ((Z271 : w.heap.size ≤ gb106)) (Aside0.mk ((Z271 : w.heap.size ≤ gb106)))));clear HB;obtain ⟨HB,BK106,GW106,GE106⟩ := n_;clear hb hbox hg;obtain ⟨hcz10_0,hcz10_1,hcz10_2,hcz10_3,hfz10_0,hfz10_1,hfz10_2,hfz10_3⟩ := spec_FracOk.cells4 BK106.out) | ((with_reducible refine gate_callee (f := 65) rfl ?_);refine goesL_ (some 5) rfl rfl Try.func65 Z580 rfl #[.agg #[.bool a0_0,.int .u64 a0_1,.int .u64 a0_2]] rfl Z395 ?_;(with_reducible refine (spec_WideOk.calls a0_0 a0_1 a0_2 false _ A2.out).mono ?_);rintro e w11 ⟨rfl,hb⟩;refine ⟨_,rfl,?_⟩;have n_ := jA (blk_below (g := gb106) (o := .cells #[.bool a0_0,.int .u64 a0_1,.int .u64 a0_2,.int .i64 a0_3] 30 (0,0)) (by refine bP ?_;exact BK106.out) hb) (Aside0.mk (below_step Z296 hb));clear BK106 HB;obtain ⟨BK106,HB⟩ := n_;(try clear hb);(try clear hb2);(try clear hk);(try clear hi)))
    go_ret
    exact ⟨Z400,Z296⟩

/-! ### spec_l3Product: function 79 -/
def spec_l3Product.f (a0 : Int) (a1 : Int) : Option (Int × Int) := some (IntKind.u64.wrap ((IntKind.u64.wrap ((IntKind.u64.wrap ((a0 / 4294967296) * (a1 / 4294967296))) + ((IntKind.u64.wrap ((IntKind.u64.wrap ((a0 / 4294967296) * (Go.bits .and .u64 a1 4294967295))) + ((IntKind.u64.wrap ((Go.bits .and .u64 a0 4294967295) * (Go.bits .and .u64 a1 4294967295))) / 4294967296))) / 4294967296))) + ((IntKind.u64.wrap ((IntKind.u64.wrap ((Go.bits .and .u64 a0 4294967295) * (a1 / 4294967296))) + (Go.bits .and .u64 (IntKind.u64.wrap ((IntKind.u64.wrap ((a0 / 4294967296) * (Go.bits .and .u64 a1 4294967295))) + ((IntKind.u64.wrap ((Go.bits .and .u64 a0 4294967295) * (Go.bits .and .u64 a1 4294967295))) / 4294967296))) 4294967295))) / 4294967296)),IntKind.u64.wrap ((IntKind.u64.wrap ((IntKind.u64.wrap ((IntKind.u64.wrap ((Go.bits .and .u64 a0 4294967295) * (a1 / 4294967296))) + (Go.bits .and .u64 (IntKind.u64.wrap ((IntKind.u64.wrap ((a0 / 4294967296) * (Go.bits .and .u64 a1 4294967295))) + ((IntKind.u64.wrap ((Go.bits .and .u64 a0 4294967295) * (Go.bits .and .u64 a1 4294967295))) / 4294967296))) 4294967295))) * 4294967296)) + (Go.bits .and .u64 (IntKind.u64.wrap ((Go.bits .and .u64 a0 4294967295) * (Go.bits .and .u64 a1 4294967295))) 4294967295)))
set_option maxHeartbeats 8000000 in
set_option maxRecDepth 100000 in
theorem spec_l3Product.calls (a0 : Int) (a1 : Int) (r1 : Int) (r2 : Int) (w : World) (h : spec_l3Product.f a0 a1 = some (r1,r2)) :
    Calls Try.prog 79 #[.int .u64 a0,.int .u64 a1] w fun e w' => e = .returned (.tuple #[.int .u64 r1,.int .u64 r2]) ∧ Drawn0 w w' := by
  have H : (some (IntKind.u64.wrap ((IntKind.u64.wrap ((IntKind.u64.wrap ((a0 / 4294967296) * (a1 / 4294967296))) + ((IntKind.u64.wrap ((IntKind.u64.wrap ((a0 / 4294967296) * (Go.bits .and .u64 a1 4294967295))) + ((IntKind.u64.wrap ((Go.bits .and .u64 a0 4294967295) * (Go.bits .and .u64 a1 4294967295))) / 4294967296))) / 4294967296))) + ((IntKind.u64.wrap ((IntKind.u64.wrap ((Go.bits .and .u64 a0 4294967295) * (a1 / 4294967296))) + (Go.bits .and .u64 (IntKind.u64.wrap ((IntKind.u64.wrap ((a0 / 4294967296) * (Go.bits .and .u64 a1 4294967295))) + ((IntKind.u64.wrap ((Go.bits .and .u64 a0 4294967295) * (Go.bits .and .u64 a1 4294967295))) / 4294967296))) 4294967295))) / 4294967296)),IntKind.u64.wrap ((IntKind.u64.wrap ((IntKind.u64.wrap ((IntKind.u64.wrap ((Go.bits .and .u64 a0 4294967295) * (a1 / 4294967296))) + (Go.bits .and .u64 (IntKind.u64.wrap ((IntKind.u64.wrap ((a0 / 4294967296) * (Go.bits .and .u64 a1 4294967295))) + ((IntKind.u64.wrap ((Go.bits .and .u64 a0 4294967295) * (Go.bits .and .u64 a1 4294967295))) / 4294967296))) 4294967295))) * 4294967296)) + (Go.bits .and .u64 (IntKind.u64.wrap ((Go.bits .and .u64 a0 4294967295) * (Go.bits .and .u64 a1 4294967295))) 4294967295)))) = some (r1,r2) := h
  clear h
  simp only [Option.some.injEq,Prod.mk.injEq] at H
  obtain ⟨rfl,rfl⟩ := H
  go_enter Try.func79,Try.ntmps79
  go_wp2
  go_ret2
  exact ⟨Z514,Z491⟩

/-! ### spec_l3Abs: function 80 -/
def spec_l3Abs.f (a0 : Int) : Option (Int) := if a0 < 0 then (some (IntKind.u64.wrap ((IntKind.u64.wrap (wrap64 (-(wrap64 (a0 + 1))))) + 1))) else (some (IntKind.u64.wrap (a0)))
set_option maxHeartbeats 8000000 in
set_option maxRecDepth 100000 in
theorem spec_l3Abs.calls (a0 : Int) (r : Int) (w : World) (h : spec_l3Abs.f a0 = some r) :
    Calls Try.prog 80 #[.int .i64 a0] w fun e w' => e = .returned (.int .u64 r) ∧ Drawn0 w w' := by
  have H : (if a0 < 0 then (some (IntKind.u64.wrap ((IntKind.u64.wrap (wrap64 (-(wrap64 (a0 + 1))))) + 1))) else (some (IntKind.u64.wrap (a0)))) = some r := h
  clear h
  by_cases c2 : a0 < 0
  · rw [if_pos c2] at H
    have c2b0 : decide (a0 < 0) = true := decide_eq_true c2
    clear c2
    obtain rfl := Option.some.inj H
    go_enter Try.func80,Try.ntmps80
    go_wp2
    go_ret
    exact ⟨Z514,Z491⟩
  · rw [if_neg c2] at H
    have c2b0 : decide (a0 < 0) = false := decide_eq_false c2
    clear c2
    obtain rfl := Option.some.inj H
    go_enter Try.func80,Try.ntmps80
    go_wp2
    go_ret
    exact ⟨Z514,Z491⟩

/-! ### spec_MulWide: function 60 -/
theorem spec_MulWide.cells3 {w : World} {g : Nat} {t : TypeId} {a0 a1 a2 : Value} (h : w.heap[g]? = some (.cells #[a0,a1,a2] t (0,0))) : w.cell? ⟨g,0,none⟩ = some a0 ∧ w.cell? ⟨g,1,none⟩ = some a1 ∧ w.cell? ⟨g,2,none⟩ = some a2 ∧ w.frozen? ⟨g,0,none⟩ = false ∧ w.frozen? ⟨g,1,none⟩ = false ∧ w.frozen? ⟨g,2,none⟩ = false := ⟨(blk_cell h 0).trans rfl,(blk_cell h 1).trans rfl,(blk_cell h 2).trans rfl,blk_frozen h 0,blk_frozen h 1,blk_frozen h 2⟩
def spec_MulWide.f (a0 : Int) (a1 : Int) : Option (Bool × Int × Int) := (spec_l3Abs.f a0).bind fun t110 => ((spec_l3Abs.f a1).bind fun t111 => ((spec_l3Product.f t110 t111).bind fun bt112 => (if ((decide (a0 < 0)) != (decide (a1 < 0))) = true then (if a0 = 0 then (some (false,bt112.1,bt112.2)) else (some ((a1 != 0),bt112.1,bt112.2))) else (some (false,bt112.1,bt112.2)))))
set_option maxHeartbeats 8000000 in
set_option maxRecDepth 100000 in
theorem spec_MulWide.calls (a0 : Int) (a1 : Int) (r1 : Bool) (r2 : Int) (r3 : Int) (w : World) (h : spec_MulWide.f a0 a1 = some (r1,r2,r3)) :
    Calls Try.prog 60 #[.int .i64 a0,.int .i64 a1] w fun e w' => e = .returned (.agg #[.bool r1,.int .u64 r2,.int .u64 r3]) ∧ Below w.heap.size w w' := by
  have hu28 := Try.underlying28
  have HB := Aside0.mk (Below.refl w.heap.size w)
  have H : ((spec_l3Abs.f a0).bind fun t110 => ((spec_l3Abs.f a1).bind fun t111 => ((spec_l3Product.f t110 t111).bind fun bt112 => (if ((decide (a0 < 0)) != (decide (a1 < 0))) = true then (if a0 = 0 then (some (false,bt112.1,bt112.2)) else (some ((a1 != 0),bt112.1,bt112.2))) else (some (false,bt112.1,bt112.2)))))) = some (r1,r2,r3) := h
  clear h
  obtain ⟨t110,A30,H⟩ := Option.bind_eq_some_iff.mp H
  have A3 := Aside0.mk A30
  clear A30
  obtain ⟨t111,A40,H⟩ := Option.bind_eq_some_iff.mp H
  have A4 := Aside0.mk A40
  clear A40
  obtain ⟨⟨t112,t113⟩,A50,H⟩ := Option.bind_eq_some_iff.mp H
  try dsimp only at H
  have A5 := Aside0.mk A50
  clear A50
  by_cases c6 : ((decide (a0 < 0)) != (decide (a1 < 0))) = true
  · rw [if_pos c6] at H
    have c6b0 : ((decide (a0 < 0)) != (decide (a1 < 0))) = true := c6
    (try (have c6b1 : decide ((decide (a0 < 0)) = (decide (a1 < 0))) = false := by simpa using c6))
    (try (have c6b2 : ((decide (a0 < 0)) == (decide (a1 < 0))) = false := by simpa using c6))
    (try (have c6b3 : ¬ ((decide (a0 < 0)) = (decide (a1 < 0))) := by simpa using c6))
    clear c6
    by_cases c7 : a0 = 0
    · rw [if_pos c7] at H
      have c7b0 : (a0 == 0) = true := beq_iff_eq.mpr c7
      have c7b1 : (a0 != 0) = false := bne_eq_false_iff_eq.mpr c7
      clear c7
      simp only [Option.some.injEq,Prod.mk.injEq] at H
      obtain ⟨rfl,rfl,rfl⟩ := H
      go_enter Try.func60,Try.ntmps60
      go_wp2_with (first | ((with_reducible refine gate_dst (N := 4) rfl ?_);refine box_event ?hg (N := 4) ?hd (cs := #[.bool false,.int .u64 0,.int .u64 0]) (t := 28) ?hr ?_;(case hd => rfl);(case hg => rfl);(case hr => exact Z515);intro gb109 hg w8 hbox hb;have n_ := jA (below_step Z486 hb) (jA (hbox) (jA ((Z271 : w.heap.size ≤ gb109)) (Aside0.mk ((Z271 : w.heap.size ≤ gb109)))));clear HB;obtain ⟨HB,BK109,GW109,GE109⟩ := n_;clear hb hbox hg) | ((with_reducible refine gate_callee (f := 80) rfl ?_);refine goesL_ (some 9) rfl rfl Try.func80 Z580 rfl #[.int .i64 a0] rfl Z395 ?_;(with_reducible refine (spec_l3Abs.calls a0 t110 _ A3.out).mono ?_);rintro e w' ⟨rfl,⟨nd,rfl⟩⟩;refine ⟨_,rfl,?_⟩;(iterate 4 (try (rw [drewN_self w8];generalize hq_ : World.drewN w8 _ = w8;have n0_ : Aside0 (w8.heap[gb109]? = some (.cells #[.bool false,.int .u64 0,.int .u64 0] 28 (0,0))) := ⟨Z496⟩;have n1_ : Aside0 (Below w.heap.size w w8) := ⟨Z218⟩;clear BK109 HB hq_;have BK109 := n0_;have HB := n1_;clear n0_ n1_)))) | ((with_reducible refine gate_callee (f := 80) rfl ?_);refine goesL_ (some 11) rfl rfl Try.func80 Z580 rfl #[.int .i64 a1] rfl Z395 ?_;(with_reducible refine (spec_l3Abs.calls a1 t111 _ A4.out).mono ?_);rintro e w' ⟨rfl,⟨nd,rfl⟩⟩;refine ⟨_,rfl,?_⟩;(iterate 4 (try (rw [drewN_self w8];generalize hq_ : World.drewN w8 _ = w8;have n0_ : Aside0 (w8.heap[gb109]? = some (.cells #[.bool false,.int .u64 0,.int .u64 0] 28 (0,0))) := ⟨Z496⟩;have n1_ : Aside0 (Below w.heap.size w w8) := ⟨Z218⟩;clear BK109 HB hq_;have BK109 := n0_;have HB := n1_;clear n0_ n1_)))) | ((with_reducible refine gate_callee (f := 79) rfl ?_);refine goesL_ (some 12) rfl rfl Try.func79 Z580 rfl #[.int .u64 t110,.int .u64 t111] rfl Z395 ?_;(with_reducible refine (spec_l3Product.calls t110 t111 t112 t113 _ A5.out).mono ?_);rintro e w' ⟨rfl,⟨nd,rfl⟩⟩;refine ⟨_,rfl,?_⟩;(iterate 4 (try (rw [drewN_self w8];generalize hq_ : World.drewN w8 _ = w8;have n0_ : Aside0 (w8.heap[gb109]? = some (.cells #[.bool false,.int .u64 0,.int .u64 0] 28 (0,0))) := ⟨Z496⟩;have n1_ : Aside0 (Below w.heap.size w w8) := ⟨Z218⟩;clear BK109 HB hq_;have BK109 := n0_;have HB := n1_;clear n0_ n1_)));obtain ⟨hcz9_0,hcz9_1,hcz9_2,hfz9_0,hfz9_1,hfz9_2⟩ := spec_MulWide.cells3 BK109.out))
      refine bodyPost_ret (results_cell_row rfl _ _ gb109 28 #[.bool false,.int .u64 t112,.int .u64 t113] (0,0) _ rfl Z69 Try.underlying28 rfl Z580) rfl ?_
      exact ⟨Z400,Z468⟩
    · rw [if_neg c7] at H
      have c7b0 : (a0 == 0) = false := beq_eq_false_iff_ne.mpr c7
      have c7b1 : (a0 != 0) = true := bne_iff_ne.mpr c7
      simp only [Option.some.injEq,Prod.mk.injEq] at H
      obtain ⟨rfl,rfl,rfl⟩ := H
      go_enter Try.func60,Try.ntmps60
      go_wp2_with (first | ((with_reducible refine gate_dst (N := 4) rfl ?_);refine box_event ?hg (N := 4) ?hd (cs := #[.bool false,.int .u64 0,.int .u64 0]) (t := 28) ?hr ?_;(case hd => rfl);(case hg => rfl);(case hr => exact Z515);intro gb109 hg w10 hbox hb;have n_ := jA (below_step Z486 hb) (jA (hbox) (jA ((Z271 : w.heap.size ≤ gb109)) (Aside0.mk ((Z271 : w.heap.size ≤ gb109)))));clear HB;obtain ⟨HB,BK109,GW109,GE109⟩ := n_;clear hb hbox hg) | ((with_reducible refine gate_callee (f := 80) rfl ?_);refine goesL_ (some 9) rfl rfl Try.func80 Z580 rfl #[.int .i64 a0] rfl Z395 ?_;(with_reducible refine (spec_l3Abs.calls a0 t110 _ A3.out).mono ?_);rintro e w' ⟨rfl,⟨nd,rfl⟩⟩;refine ⟨_,rfl,?_⟩;(iterate 4 (try (rw [drewN_self w10];generalize hq_ : World.drewN w10 _ = w10;have n0_ : Aside0 (w10.heap[gb109]? = some (.cells #[.bool false,.int .u64 0,.int .u64 0] 28 (0,0))) := ⟨Z496⟩;have n1_ : Aside0 (Below w.heap.size w w10) := ⟨Z218⟩;clear BK109 HB hq_;have BK109 := n0_;have HB := n1_;clear n0_ n1_)))) | ((with_reducible refine gate_callee (f := 80) rfl ?_);refine goesL_ (some 11) rfl rfl Try.func80 Z580 rfl #[.int .i64 a1] rfl Z395 ?_;(with_reducible refine (spec_l3Abs.calls a1 t111 _ A4.out).mono ?_);rintro e w' ⟨rfl,⟨nd,rfl⟩⟩;refine ⟨_,rfl,?_⟩;(iterate 4 (try (rw [drewN_self w10];generalize hq_ : World.drewN w10 _ = w10;have n0_ : Aside0 (w10.heap[gb109]? = some (.cells #[.bool false,.int .u64 0,.int .u64 0] 28 (0,0))) := ⟨Z496⟩;have n1_ : Aside0 (Below w.heap.size w w10) := ⟨Z218⟩;clear BK109 HB hq_;have BK109 := n0_;have HB := n1_;clear n0_ n1_)))) | ((with_reducible refine gate_callee (f := 79) rfl ?_);refine goesL_ (some 12) rfl rfl Try.func79 Z580 rfl #[.int .u64 t110,.int .u64 t111] rfl Z395 ?_;(with_reducible refine (spec_l3Product.calls t110 t111 t112 t113 _ A5.out).mono ?_);rintro e w' ⟨rfl,⟨nd,rfl⟩⟩;refine ⟨_,rfl,?_⟩;(iterate 4 (try (rw [drewN_self w10];generalize hq_ : World.drewN w10 _ = w10;have n0_ : Aside0 (w10.heap[gb109]? = some (.cells #[.bool false,.int .u64 0,.int .u64 0] 28 (0,0))) := ⟨Z496⟩;have n1_ : Aside0 (Below w.heap.size w w10) := ⟨Z218⟩;clear BK109 HB hq_;have BK109 := n0_;have HB := n1_;clear n0_ n1_)));obtain ⟨hcz11_0,hcz11_1,hcz11_2,hfz11_0,hfz11_1,hfz11_2⟩ := spec_MulWide.cells3 BK109.out))
      refine bodyPost_ret (results_cell_row rfl _ _ gb109 28 #[.bool (a1 != 0),.int .u64 t112,.int .u64 t113] (0,0) _ rfl (by refine bP ?_;refine blk_put (cs := #[.bool (a1 != 0),.int .u64 t112,.int .u64 0]) ?_ 2 _ rfl;refine bP ?_;refine blk_put (cs := #[.bool (a1 != 0),.int .u64 0,.int .u64 0]) ?_ 1 _ rfl;refine bP ?_;refine blk_put (cs := #[.bool false,.int .u64 0,.int .u64 0]) ?_ 0 _ rfl;refine bP ?_;exact BK109.out) Try.underlying28 rfl Z580) rfl ?_
      exact ⟨Z400,Z468⟩
  · rw [if_neg c6] at H
    have c6b0 : ((decide (a0 < 0)) != (decide (a1 < 0))) = false := by simpa using c6
    (try (have c6b1 : decide ((decide (a0 < 0)) = (decide (a1 < 0))) = true := by simpa using c6))
    (try (have c6b2 : ((decide (a0 < 0)) == (decide (a1 < 0))) = true := by simpa using c6))
    clear c6
    simp only [Option.some.injEq,Prod.mk.injEq] at H
    obtain ⟨rfl,rfl,rfl⟩ := H
    go_enter Try.func60,Try.ntmps60
    go_wp2_with (first | ((with_reducible refine gate_dst (N := 4) rfl ?_);refine box_event ?hg (N := 4) ?hd (cs := #[.bool false,.int .u64 0,.int .u64 0]) (t := 28) ?hr ?_;(case hd => rfl);(case hg => rfl);(case hr => exact Z515);intro gb109 hg w12 hbox hb;have n_ := jA (below_step Z486 hb) (jA (hbox) (jA ((Z271 : w.heap.size ≤ gb109)) (Aside0.mk ((Z271 : w.heap.size ≤ gb109)))));clear HB;obtain ⟨HB,BK109,GW109,GE109⟩ := n_;clear hb hbox hg) | ((with_reducible refine gate_callee (f := 80) rfl ?_);refine goesL_ (some 9) rfl rfl Try.func80 Z580 rfl #[.int .i64 a0] rfl Z395 ?_;(with_reducible refine (spec_l3Abs.calls a0 t110 _ A3.out).mono ?_);rintro e w' ⟨rfl,⟨nd,rfl⟩⟩;refine ⟨_,rfl,?_⟩;(iterate 4 (try (rw [drewN_self w12];generalize hq_ : World.drewN w12 _ = w12;have n0_ : Aside0 (w12.heap[gb109]? = some (.cells #[.bool false,.int .u64 0,.int .u64 0] 28 (0,0))) := ⟨Z496⟩;have n1_ : Aside0 (Below w.heap.size w w12) := ⟨Z218⟩;clear BK109 HB hq_;have BK109 := n0_;have HB := n1_;clear n0_ n1_)))) | ((with_reducible refine gate_callee (f := 80) rfl ?_);refine goesL_ (some 11) rfl rfl Try.func80 Z580 rfl #[.int .i64 a1] rfl Z395 ?_;(with_reducible refine (spec_l3Abs.calls a1 t111 _ A4.out).mono ?_);rintro e w' ⟨rfl,⟨nd,rfl⟩⟩;refine ⟨_,rfl,?_⟩;(iterate 4 (try (rw [drewN_self w12];generalize hq_ : World.drewN w12 _ = w12;have n0_ : Aside0 (w12.heap[gb109]? = some (.cells #[.bool false,.int .u64 0,.int .u64 0] 28 (0,0))) := ⟨Z496⟩;have n1_ : Aside0 (Below w.heap.size w w12) := ⟨Z218⟩;clear BK109 HB hq_;have BK109 := n0_;have HB := n1_;clear n0_ n1_)))) | ((with_reducible refine gate_callee (f := 79) rfl ?_);refine goesL_ (some 12) rfl rfl Try.func79 Z580 rfl #[.int .u64 t110,.int .u64 t111] rfl Z395 ?_;(with_reducible refine (spec_l3Product.calls t110 t111 t112 t113 _ A5.out).mono ?_);rintro e w' ⟨rfl,⟨nd,rfl⟩⟩;refine ⟨_,rfl,?_⟩;(iterate 4 (try (rw [drewN_self w12];generalize hq_ : World.drewN w12 _ = w12;have n0_ : Aside0 (w12.heap[gb109]? = some (.cells #[.bool false,.int .u64 0,.int .u64 0] 28 (0,0))) := ⟨Z496⟩;have n1_ : Aside0 (Below w.heap.size w w12) := ⟨Z218⟩;clear BK109 HB hq_;have BK109 := n0_;have HB := n1_;clear n0_ n1_)));obtain ⟨hcz13_0,hcz13_1,hcz13_2,hfz13_0,hfz13_1,hfz13_2⟩ := spec_MulWide.cells3 BK109.out))
    refine bodyPost_ret (results_cell_row rfl _ _ gb109 28 #[.bool false,.int .u64 t112,.int .u64 t113] (0,0) _ rfl Z69 Try.underlying28 rfl Z580) rfl ?_
    exact ⟨Z400,Z468⟩

/-! ### spec_SquareOver: function 42 -/
theorem spec_SquareOver.cells4 {w : World} {g : Nat} {t : TypeId} {a0 a1 a2 a3 : Value} (h : w.heap[g]? = some (.cells #[a0,a1,a2,a3] t (0,0))) : w.cell? ⟨g,0,none⟩ = some a0 ∧ w.cell? ⟨g,1,none⟩ = some a1 ∧ w.cell? ⟨g,2,none⟩ = some a2 ∧ w.cell? ⟨g,3,none⟩ = some a3 ∧ w.frozen? ⟨g,0,none⟩ = false ∧ w.frozen? ⟨g,1,none⟩ = false ∧ w.frozen? ⟨g,2,none⟩ = false ∧ w.frozen? ⟨g,3,none⟩ = false := ⟨(blk_cell h 0).trans rfl,(blk_cell h 1).trans rfl,(blk_cell h 2).trans rfl,(blk_cell h 3).trans rfl,blk_frozen h 0,blk_frozen h 1,blk_frozen h 2,blk_frozen h 3⟩
def spec_SquareOver.f (a0 : Int) (a1 : Int) : Option (Bool × Int × Int × Int × Bool) := (spec_MulWide.f a0 a0).bind fun bt115 => ((spec_FracOk.f bt115.1 bt115.2.1 bt115.2.2 a1).bind fun t119 => (if t119 = true then (some (bt115.1,bt115.2.1,bt115.2.2,a1,true)) else (some (false,0,0,0,false))))
set_option maxHeartbeats 8000000 in
set_option maxRecDepth 100000 in
theorem spec_SquareOver.calls (a0 : Int) (a1 : Int) (r1 : Bool) (r2 : Int) (r3 : Int) (r4 : Int) (r5 : Bool) (w : World) (h : spec_SquareOver.f a0 a1 = some (r1,r2,r3,r4,r5)) :
    Calls Try.prog 42 #[.int .i64 a0,.int .i64 a1] w fun e w' => e = .returned (.tuple #[.agg #[.bool r1,.int .u64 r2,.int .u64 r3,.int .i64 r4],.bool r5]) ∧ Below w.heap.size w w' := by
  have hu30 := Try.underlying30
  have HB := Aside0.mk (Below.refl w.heap.size w)
  have H : ((spec_MulWide.f a0 a0).bind fun bt115 => ((spec_FracOk.f bt115.1 bt115.2.1 bt115.2.2 a1).bind fun t119 => (if t119 = true then (some (bt115.1,bt115.2.1,bt115.2.2,a1,true)) else (some (false,0,0,0,false))))) = some (r1,r2,r3,r4,r5) := h
  clear h
  obtain ⟨⟨t115,t116,t117⟩,A30,H⟩ := Option.bind_eq_some_iff.mp H
  try dsimp only at H
  have A3 := Aside0.mk A30
  clear A30
  obtain ⟨t119,A40,H⟩ := Option.bind_eq_some_iff.mp H
  have A4 := Aside0.mk A40
  clear A40
  by_cases c5 : t119 = true
  · subst c5
    have H1 : (some (t115,t116,t117,a1,true)) = some (r1,r2,r3,r4,r5) := by rw [if_pos rfl] at H;exact H
    clear H
    have H := H1
    clear H1
    simp only [Option.some.injEq,Prod.mk.injEq] at H
    obtain ⟨rfl,rfl,rfl,rfl,rfl⟩ := H
    go_enter Try.func42,Try.ntmps42
    go_wp2_with (first | ((with_reducible refine gate_dst (N := 4) rfl ?_);refine box_event ?hg (N := 4) ?hd (cs := #[.bool false,.int .u64 0,.int .u64 0,.int .i64 0]) (t := 30) ?hr ?_;(case hd => rfl);(case hg => rfl);(case hr => exact Z515);intro gb114 hg w6 hbox hb;have n_ := jA (below_step Z486 hb) (jA (hbox) (jA ((Z271 : w.heap.size ≤ gb114)) (Aside0.mk ((Z271 : w.heap.size ≤ gb114)))));clear HB;obtain ⟨HB,BK114,GW114,GE114⟩ := n_;clear hb hbox hg) | ((with_reducible refine gate_callee (f := 60) rfl ?_);refine goesL_ (some 9) rfl rfl Try.func60 Z580 rfl #[.int .i64 a0,.int .i64 a0] rfl Z395 ?_;(with_reducible refine (spec_MulWide.calls a0 a0 t115 t116 t117 _ A3.out).mono ?_);rintro e w7 ⟨rfl,hb⟩;refine ⟨_,rfl,?_⟩;have n_ := jA (blk_below (g := gb114) (o := .cells #[.bool false,.int .u64 0,.int .u64 0,.int .i64 0] 30 (0,0)) Z561 hb) (Aside0.mk (below_step Z460 hb));clear BK114 HB;obtain ⟨BK114,HB⟩ := n_;(try clear hb);(try clear hb2);(try clear hk);(try clear hi)) | ((with_reducible refine gate_dst (N := 6) rfl ?_);refine box_event ?hg (N := 6) ?hd (cs := #[.bool false,.int .u64 0,.int .u64 0,.int .i64 0]) (t := 30) ?hr ?_;(case hd => rfl);(case hg => rfl);(case hr => exact Z515);intro gb118 hg w8 hbox hb;have n_ := jA (blk_below (g := gb114) (o := .cells #[.bool false,.int .u64 0,.int .u64 0,.int .i64 0] 30 (0,0)) Z561 hb) (jA (below_step Z460 hb) (jA (hbox) (jA ((Z203 : w.heap.size ≤ gb118)) (jA ((Z203 : w.heap.size ≤ gb118)) (jA ((Z323 : gb114 ≠ gb118)) (Aside0.mk ((Z325 : gb118 ≠ gb114))))))));clear BK114 HB;obtain ⟨BK114,HB,BK118,GW118,GE118,NB114_118,NB118_114⟩ := n_;clear hb hbox hg;have hnb9 := NB118_114.out;have hnc9 := NB114_118.out;obtain ⟨hcz10_0,hcz10_1,hcz10_2,hcz10_3,hfz10_0,hfz10_1,hfz10_2,hfz10_3⟩ := spec_SquareOver.cells4 BK118.out) | ((with_reducible refine gate_callee (f := 47) rfl ?_);refine goesL_ (some 13) rfl rfl Try.func47 Z580 rfl #[.agg #[.bool t115,.int .u64 t116,.int .u64 t117,.int .i64 a1]] rfl Z395 ?_;(with_reducible refine (spec_FracOk.calls t115 t116 t117 a1 true _ A4.out).mono ?_);rintro e w11 ⟨rfl,hb⟩;refine ⟨_,rfl,?_⟩;have n_ := jA (blk_below (g := gb114) (o := .cells #[.bool false,.int .u64 0,.int .u64 0,.int .i64 0] 30 (0,0)) Z162 hb) (jA (blk_below (g := gb118) (o := .cells #[.bool t115,.int .u64 t116,.int .u64 t117,.int .i64 a1] 30 (0,0)) Z24 hb) (Aside0.mk (below_step Z198 hb)));clear BK114 BK118 HB;obtain ⟨BK114,BK118,HB⟩ := n_;(try clear hb);(try clear hb2);(try clear hk);(try clear hi);obtain ⟨hcz12_0,hcz12_1,hcz12_2,hcz12_3,hfz12_0,hfz12_1,hfz12_2,hfz12_3⟩ := spec_SquareOver.cells4 BK118.out;obtain ⟨hcz13_0,hcz13_1,hcz13_2,hcz13_3,hfz13_0,hfz13_1,hfz13_2,hfz13_3⟩ := spec_SquareOver.cells4 BK114.out))
    refine bodyPost_ret (results_ct rfl _ _ gb114 30 #[.bool t115,.int .u64 t116,.int .u64 t117,.int .i64 a1] (0,0) _ rfl (by refine bP ?_;refine blk_put (cs := #[.bool t115,.int .u64 t116,.int .u64 t117,.int .i64 0]) ?_ 3 _ rfl;refine bP ?_;refine blk_put (cs := #[.bool t115,.int .u64 t116,.int .u64 0,.int .i64 0]) ?_ 2 _ rfl;refine bP ?_;refine blk_put (cs := #[.bool t115,.int .u64 0,.int .u64 0,.int .i64 0]) ?_ 1 _ rfl;refine bP ?_;refine blk_put (cs := #[.bool false,.int .u64 0,.int .u64 0,.int .i64 0]) ?_ 0 _ rfl;refine bP ?_;exact BK114.out) Try.underlying30 rfl Z580) rfl ?_
    exact ⟨Z400,Z198⟩
  · replace c5 := Bool.eq_false_iff.mpr c5
    subst c5
    have H1 : (some (false,0,0,0,false)) = some (r1,r2,r3,r4,r5) := by rw [if_neg (show ¬ (false = true) by decide)] at H;exact H
    clear H
    have H := H1
    clear H1
    simp only [Option.some.injEq,Prod.mk.injEq] at H
    obtain ⟨rfl,rfl,rfl,rfl,rfl⟩ := H
    go_enter Try.func42,Try.ntmps42
    go_wp2_with (first | ((with_reducible refine gate_dst (N := 4) rfl ?_);refine box_event ?hg (N := 4) ?hd (cs := #[.bool false,.int .u64 0,.int .u64 0,.int .i64 0]) (t := 30) ?hr ?_;(case hd => rfl);(case hg => rfl);(case hr => exact Z515);intro gb114 hg w14 hbox hb;have n_ := jA (below_step Z486 hb) (jA (hbox) (jA ((Z271 : w.heap.size ≤ gb114)) (Aside0.mk ((Z271 : w.heap.size ≤ gb114)))));clear HB;obtain ⟨HB,BK114,GW114,GE114⟩ := n_;clear hb hbox hg) | ((with_reducible refine gate_callee (f := 60) rfl ?_);refine goesL_ (some 9) rfl rfl Try.func60 Z580 rfl #[.int .i64 a0,.int .i64 a0] rfl Z395 ?_;(with_reducible refine (spec_MulWide.calls a0 a0 t115 t116 t117 _ A3.out).mono ?_);rintro e w15 ⟨rfl,hb⟩;refine ⟨_,rfl,?_⟩;have n_ := jA (blk_below (g := gb114) (o := .cells #[.bool false,.int .u64 0,.int .u64 0,.int .i64 0] 30 (0,0)) Z561 hb) (Aside0.mk (below_step Z460 hb));clear BK114 HB;obtain ⟨BK114,HB⟩ := n_;(try clear hb);(try clear hb2);(try clear hk);(try clear hi)) | ((with_reducible refine gate_dst (N := 6) rfl ?_);refine box_event ?hg (N := 6) ?hd (cs := #[.bool false,.int .u64 0,.int .u64 0,.int .i64 0]) (t := 30) ?hr ?_;(case hd => rfl);(case hg => rfl);(case hr => exact Z515);intro gb118 hg w16 hbox hb;have n_ := jA (blk_below (g := gb114) (o := .cells #[.bool false,.int .u64 0,.int .u64 0,.int .i64 0] 30 (0,0)) Z561 hb) (jA (below_step Z460 hb) (jA (hbox) (jA ((Z203 : w.heap.size ≤ gb118)) (jA ((Z203 : w.heap.size ≤ gb118)) (jA ((Z323 : gb114 ≠ gb118)) (Aside0.mk ((Z325 : gb118 ≠ gb114))))))));clear BK114 HB;obtain ⟨BK114,HB,BK118,GW118,GE118,NB114_118,NB118_114⟩ := n_;clear hb hbox hg;have hnb17 := NB118_114.out;have hnc17 := NB114_118.out;obtain ⟨hcz18_0,hcz18_1,hcz18_2,hcz18_3,hfz18_0,hfz18_1,hfz18_2,hfz18_3⟩ := spec_SquareOver.cells4 BK118.out) | ((with_reducible refine gate_callee (f := 47) rfl ?_);refine goesL_ (some 13) rfl rfl Try.func47 Z580 rfl #[.agg #[.bool t115,.int .u64 t116,.int .u64 t117,.int .i64 a1]] rfl Z395 ?_;(with_reducible refine (spec_FracOk.calls t115 t116 t117 a1 false _ A4.out).mono ?_);rintro e w19 ⟨rfl,hb⟩;refine ⟨_,rfl,?_⟩;have n_ := jA (blk_below (g := gb114) (o := .cells #[.bool false,.int .u64 0,.int .u64 0,.int .i64 0] 30 (0,0)) Z162 hb) (jA (blk_below (g := gb118) (o := .cells #[.bool t115,.int .u64 t116,.int .u64 t117,.int .i64 a1] 30 (0,0)) Z24 hb) (Aside0.mk (below_step Z198 hb)));clear BK114 BK118 HB;obtain ⟨BK114,BK118,HB⟩ := n_;(try clear hb);(try clear hb2);(try clear hk);(try clear hi);obtain ⟨hcz20_0,hcz20_1,hcz20_2,hcz20_3,hfz20_0,hfz20_1,hfz20_2,hfz20_3⟩ := spec_SquareOver.cells4 BK114.out))
    refine bodyPost_ret (results_ct rfl _ _ gb114 30 #[.bool false,.int .u64 0,.int .u64 0,.int .i64 0] (0,0) _ rfl (by refine bP ?_;refine blk_put (cs := #[.bool false,.int .u64 0,.int .u64 0,.int .i64 0]) ?_ 3 _ rfl;refine bP ?_;refine blk_put (cs := #[.bool false,.int .u64 0,.int .u64 0,.int .i64 0]) ?_ 2 _ rfl;refine bP ?_;refine blk_put (cs := #[.bool false,.int .u64 0,.int .u64 0,.int .i64 0]) ?_ 1 _ rfl;refine bP ?_;refine blk_put (cs := #[.bool false,.int .u64 0,.int .u64 0,.int .i64 0]) ?_ 0 _ rfl;refine bP ?_;exact BK114.out) Try.underlying30 rfl Z580) rfl ?_
    exact ⟨Z400,Z198⟩

/-! ### spec_PlainGain: function 22 -/
theorem spec_PlainGain.cells2 {w : World} {g : Nat} {t : TypeId} {a0 a1 : Value} (h : w.heap[g]? = some (.cells #[a0,a1] t (0,0))) : w.cell? ⟨g,0,none⟩ = some a0 ∧ w.cell? ⟨g,1,none⟩ = some a1 ∧ w.frozen? ⟨g,0,none⟩ = false ∧ w.frozen? ⟨g,1,none⟩ = false := ⟨(blk_cell h 0).trans rfl,(blk_cell h 1).trans rfl,blk_frozen h 0,blk_frozen h 1⟩
theorem spec_PlainGain.cells4 {w : World} {g : Nat} {t : TypeId} {a0 a1 a2 a3 : Value} (h : w.heap[g]? = some (.cells #[a0,a1,a2,a3] t (0,0))) : w.cell? ⟨g,0,none⟩ = some a0 ∧ w.cell? ⟨g,1,none⟩ = some a1 ∧ w.cell? ⟨g,2,none⟩ = some a2 ∧ w.cell? ⟨g,3,none⟩ = some a3 ∧ w.frozen? ⟨g,0,none⟩ = false ∧ w.frozen? ⟨g,1,none⟩ = false ∧ w.frozen? ⟨g,2,none⟩ = false ∧ w.frozen? ⟨g,3,none⟩ = false := ⟨(blk_cell h 0).trans rfl,(blk_cell h 1).trans rfl,(blk_cell h 2).trans rfl,(blk_cell h 3).trans rfl,blk_frozen h 0,blk_frozen h 1,blk_frozen h 2,blk_frozen h 3⟩
def spec_PlainGain.f (a0_0 : Int) (a0_1 : Int) (a1 : Int) : Option (Bool × Int × Int × Int × Bool) := (spec_l1In.f a0_0 0 40).bind fun t122 => (if t122 = true then ((spec_l1In.f a1 1 100).bind fun t123 => (if t123 = true then ((spec_SquareOver.f a0_1 (wrap64 (a0_0 + a1))).bind fun bt124 => (some (bt124.1,bt124.2.1,bt124.2.2.1,bt124.2.2.2.1,bt124.2.2.2.2))) else (some (false,0,0,0,false)))) else (some (false,0,0,0,false)))
set_option maxHeartbeats 8000000 in
set_option maxRecDepth 100000 in
theorem spec_PlainGain.calls (a0_0 : Int) (a0_1 : Int) (a1 : Int) (r1 : Bool) (r2 : Int) (r3 : Int) (r4 : Int) (r5 : Bool) (w : World) (h : spec_PlainGain.f a0_0 a0_1 a1 = some (r1,r2,r3,r4,r5)) :
    Calls Try.prog 22 #[.agg #[.int .i64 a0_0,.int .i64 a0_1],.int .i64 a1] w fun e w' => e = .returned (.tuple #[.agg #[.bool r1,.int .u64 r2,.int .u64 r3,.int .i64 r4],.bool r5]) ∧ Below w.heap.size w w' := by
  have hu33 := Try.underlying33
  have hu30 := Try.underlying30
  have HB := Aside0.mk (Below.refl w.heap.size w)
  have H : ((spec_l1In.f a0_0 0 40).bind fun t122 => (if t122 = true then ((spec_l1In.f a1 1 100).bind fun t123 => (if t123 = true then ((spec_SquareOver.f a0_1 (wrap64 (a0_0 + a1))).bind fun bt124 => (some (bt124.1,bt124.2.1,bt124.2.2.1,bt124.2.2.2.1,bt124.2.2.2.2))) else (some (false,0,0,0,false)))) else (some (false,0,0,0,false)))) = some (r1,r2,r3,r4,r5) := h
  clear h
  obtain ⟨t122,A30,H⟩ := Option.bind_eq_some_iff.mp H
  have A3 := Aside0.mk A30
  clear A30
  by_cases c4 : t122 = true
  · subst c4
    have H1 : ((spec_l1In.f a1 1 100).bind fun t123 => (if t123 = true then ((spec_SquareOver.f a0_1 (wrap64 (a0_0 + a1))).bind fun bt124 => (some (bt124.1,bt124.2.1,bt124.2.2.1,bt124.2.2.2.1,bt124.2.2.2.2))) else (some (false,0,0,0,false)))) = some (r1,r2,r3,r4,r5) := by rw [if_pos rfl] at H;exact H
    clear H
    have H := H1
    clear H1
    obtain ⟨t123,A50,H⟩ := Option.bind_eq_some_iff.mp H
    have A5 := Aside0.mk A50
    clear A50
    by_cases c6 : t123 = true
    · subst c6
      have H1 : ((spec_SquareOver.f a0_1 (wrap64 (a0_0 + a1))).bind fun bt124 => (some (bt124.1,bt124.2.1,bt124.2.2.1,bt124.2.2.2.1,bt124.2.2.2.2))) = some (r1,r2,r3,r4,r5) := by rw [if_pos rfl] at H;exact H
      clear H
      have H := H1
      clear H1
      obtain ⟨⟨t124,t125,t126,t127,t128⟩,A70,H⟩ := Option.bind_eq_some_iff.mp H
      try dsimp only at H
      have A7 := Aside0.mk A70
      clear A70
      simp only [Option.some.injEq,Prod.mk.injEq] at H
      obtain ⟨rfl,rfl,rfl,rfl,rfl⟩ := H
      go_enter Try.func22,Try.ntmps22
      go_wp2_with (first | ((with_reducible refine gate_dst (N := 2) rfl ?_);refine box_event ?hg (N := 2) ?hd (cs := #[.int .i64 a0_0,.int .i64 a0_1]) (t := 33) ?hr ?_;(case hd => rfl);(case hg => rfl);(case hr => exact Z515);intro gb120 hg w8 hbox hb;have n_ := jA (below_step Z486 hb) (jA (hbox) (jA ((Z271 : w.heap.size ≤ gb120)) (Aside0.mk ((Z271 : w.heap.size ≤ gb120)))));clear HB;obtain ⟨HB,BK120,GW120,GE120⟩ := n_;clear hb hbox hg) | ((with_reducible refine gate_dst (N := 4) rfl ?_);refine box_event ?hg (N := 4) ?hd (cs := #[.bool false,.int .u64 0,.int .u64 0,.int .i64 0]) (t := 30) ?hr ?_;(case hd => rfl);(case hg => rfl);(case hr => exact Z515);intro gb121 hg w9 hbox hb;have n_ := jA (blk_below (g := gb120) (o := .cells #[.int .i64 a0_0,.int .i64 a0_1] 33 (0,0)) Z592 hb) (jA (below_step Z467 hb) (jA (hbox) (jA ((Z197 : w.heap.size ≤ gb121)) (jA ((Z197 : w.heap.size ≤ gb121)) (jA ((Z388 : gb120 ≠ gb121)) (Aside0.mk ((Z392 : gb121 ≠ gb120))))))));clear BK120 HB;obtain ⟨BK120,HB,BK121,GW121,GE121,NB120_121,NB121_120⟩ := n_;clear hb hbox hg;have hnb10 := NB120_121.out;have hnc10 := NB121_120.out;obtain ⟨hcz11_0,hcz11_1,hfz11_0,hfz11_1⟩ := spec_PlainGain.cells2 BK120.out) | ((with_reducible refine gate_callee (f := 41) rfl ?_);refine goesL_ (some 8) rfl rfl Try.func41 Z580 rfl #[.int .i64 a0_0,.int .i64 0,.int .i64 40] rfl Z395 ?_;(with_reducible refine (spec_l1In.calls a0_0 0 40 true _ A3.out).mono ?_);rintro e w' ⟨rfl,⟨nd,rfl⟩⟩;refine ⟨_,rfl,?_⟩;(iterate 4 (try (rw [drewN_self w9];generalize hq_ : World.drewN w9 _ = w9;have n0_ : Aside0 (w9.heap[gb120]? = some (.cells #[.int .i64 a0_0,.int .i64 a0_1] 33 (0,0))) := ⟨Z507⟩;have n1_ : Aside0 (w9.heap[gb121]? = some (.cells #[.bool false,.int .u64 0,.int .u64 0,.int .i64 0] 30 (0,0))) := ⟨Z506⟩;have n2_ : Aside0 (Below w.heap.size w w9) := ⟨Z131⟩;clear BK120 BK121 HB hq_;have BK120 := n0_;have BK121 := n1_;have HB := n2_;clear n0_ n1_ n2_)));(try (obtain ⟨hcz11_0,hcz11_1,hfz11_0,hfz11_1⟩ := spec_PlainGain.cells2 BK120.out))) | (go_at_call 41;(with_reducible refine (spec_l1In.calls a1 1 100 true _ A5.out).mono ?_);rintro e w' ⟨rfl,⟨nd,rfl⟩⟩;(iterate 4 (try (rw [drewN_self w9];generalize hq_ : World.drewN w9 _ = w9;have n0_ : Aside0 (w9.heap[gb120]? = some (.cells #[.int .i64 a0_0,.int .i64 a0_1] 33 (0,0))) := ⟨Z507⟩;have n1_ : Aside0 (w9.heap[gb121]? = some (.cells #[.bool false,.int .u64 0,.int .u64 0,.int .i64 0] 30 (0,0))) := ⟨Z506⟩;have n2_ : Aside0 (Below w.heap.size w w9) := ⟨Z131⟩;clear BK120 BK121 HB hq_;have BK120 := n0_;have BK121 := n1_;have HB := n2_;clear n0_ n1_ n2_)));(try (obtain ⟨hcz11_0,hcz11_1,hfz11_0,hfz11_1⟩ := spec_PlainGain.cells2 BK120.out))) | ((with_reducible refine gate_callee (f := 42) rfl ?_);refine goesL_ (some 22) rfl rfl Try.func42 Z580 rfl #[.int .i64 a0_1,.int .i64 (wrap64 (a0_0 + a1))] rfl Z395 ?_;(with_reducible refine (spec_SquareOver.calls a0_1 (wrap64 (a0_0 + a1)) t124 t125 t126 t127 t128 _ A7.out).mono ?_);rintro e w12 ⟨rfl,hb⟩;refine ⟨_,rfl,?_⟩;have n_ := jA (blk_below (g := gb120) (o := .cells #[.int .i64 a0_0,.int .i64 a0_1] 33 (0,0)) Z592 hb) (jA (blk_below (g := gb121) (o := .cells #[.bool false,.int .u64 0,.int .u64 0,.int .i64 0] 30 (0,0)) (by refine bP ?_;exact BK121.out) hb) (Aside0.mk (below_step Z438 hb)));clear BK120 BK121 HB;obtain ⟨BK120,BK121,HB⟩ := n_;(try clear hb);(try clear hb2);(try clear hk);(try clear hi);obtain ⟨hcz13_0,hcz13_1,hcz13_2,hcz13_3,hfz13_0,hfz13_1,hfz13_2,hfz13_3⟩ := spec_PlainGain.cells4 BK121.out))
      refine bodyPost_ret (results_ct rfl _ _ gb121 30 #[.bool t124,.int .u64 t125,.int .u64 t126,.int .i64 t127] (0,0) _ rfl (by refine bP ?_;refine blk_put (cs := #[.bool t124,.int .u64 t125,.int .u64 t126,.int .i64 0]) ?_ 3 _ rfl;refine bP ?_;refine blk_put (cs := #[.bool t124,.int .u64 t125,.int .u64 0,.int .i64 0]) ?_ 2 _ rfl;refine bP ?_;refine blk_put (cs := #[.bool t124,.int .u64 0,.int .u64 0,.int .i64 0]) ?_ 1 _ rfl;refine bP ?_;refine blk_put (cs := #[.bool false,.int .u64 0,.int .u64 0,.int .i64 0]) ?_ 0 _ rfl;refine bP ?_;exact BK121.out) Try.underlying30 rfl Z580) rfl ?_
      exact ⟨Z400,Z438⟩
    · replace c6 := Bool.eq_false_iff.mpr c6
      subst c6
      have H1 : (some (false,0,0,0,false)) = some (r1,r2,r3,r4,r5) := by rw [if_neg (show ¬ (false = true) by decide)] at H;exact H
      clear H
      have H := H1
      clear H1
      simp only [Option.some.injEq,Prod.mk.injEq] at H
      obtain ⟨rfl,rfl,rfl,rfl,rfl⟩ := H
      go_enter Try.func22,Try.ntmps22
      go_wp2_with (first | ((with_reducible refine gate_dst (N := 2) rfl ?_);refine box_event ?hg (N := 2) ?hd (cs := #[.int .i64 a0_0,.int .i64 a0_1]) (t := 33) ?hr ?_;(case hd => rfl);(case hg => rfl);(case hr => exact Z515);intro gb120 hg w14 hbox hb;have n_ := jA (below_step Z486 hb) (jA (hbox) (jA ((Z271 : w.heap.size ≤ gb120)) (Aside0.mk ((Z271 : w.heap.size ≤ gb120)))));clear HB;obtain ⟨HB,BK120,GW120,GE120⟩ := n_;clear hb hbox hg) | ((with_reducible refine gate_dst (N := 4) rfl ?_);refine box_event ?hg (N := 4) ?hd (cs := #[.bool false,.int .u64 0,.int .u64 0,.int .i64 0]) (t := 30) ?hr ?_;(case hd => rfl);(case hg => rfl);(case hr => exact Z515);intro gb121 hg w15 hbox hb;have n_ := jA (blk_below (g := gb120) (o := .cells #[.int .i64 a0_0,.int .i64 a0_1] 33 (0,0)) Z592 hb) (jA (below_step Z467 hb) (jA (hbox) (jA ((Z197 : w.heap.size ≤ gb121)) (jA ((Z197 : w.heap.size ≤ gb121)) (jA ((Z388 : gb120 ≠ gb121)) (Aside0.mk ((Z392 : gb121 ≠ gb120))))))));clear BK120 HB;obtain ⟨BK120,HB,BK121,GW121,GE121,NB120_121,NB121_120⟩ := n_;clear hb hbox hg;have hnb16 := NB120_121.out;have hnc16 := NB121_120.out;obtain ⟨hcz17_0,hcz17_1,hfz17_0,hfz17_1⟩ := spec_PlainGain.cells2 BK120.out) | ((with_reducible refine gate_callee (f := 41) rfl ?_);refine goesL_ (some 8) rfl rfl Try.func41 Z580 rfl #[.int .i64 a0_0,.int .i64 0,.int .i64 40] rfl Z395 ?_;(with_reducible refine (spec_l1In.calls a0_0 0 40 true _ A3.out).mono ?_);rintro e w' ⟨rfl,⟨nd,rfl⟩⟩;refine ⟨_,rfl,?_⟩;(iterate 4 (try (rw [drewN_self w15];generalize hq_ : World.drewN w15 _ = w15;have n0_ : Aside0 (w15.heap[gb120]? = some (.cells #[.int .i64 a0_0,.int .i64 a0_1] 33 (0,0))) := ⟨Z507⟩;have n1_ : Aside0 (w15.heap[gb121]? = some (.cells #[.bool false,.int .u64 0,.int .u64 0,.int .i64 0] 30 (0,0))) := ⟨Z506⟩;have n2_ : Aside0 (Below w.heap.size w w15) := ⟨Z131⟩;clear BK120 BK121 HB hq_;have BK120 := n0_;have BK121 := n1_;have HB := n2_;clear n0_ n1_ n2_)));(try (obtain ⟨hcz17_0,hcz17_1,hfz17_0,hfz17_1⟩ := spec_PlainGain.cells2 BK120.out))) | (go_at_call 41;(with_reducible refine (spec_l1In.calls a1 1 100 false _ A5.out).mono ?_);rintro e w' ⟨rfl,⟨nd,rfl⟩⟩;(iterate 4 (try (rw [drewN_self w15];generalize hq_ : World.drewN w15 _ = w15;have n0_ : Aside0 (w15.heap[gb120]? = some (.cells #[.int .i64 a0_0,.int .i64 a0_1] 33 (0,0))) := ⟨Z507⟩;have n1_ : Aside0 (w15.heap[gb121]? = some (.cells #[.bool false,.int .u64 0,.int .u64 0,.int .i64 0] 30 (0,0))) := ⟨Z506⟩;have n2_ : Aside0 (Below w.heap.size w w15) := ⟨Z131⟩;clear BK120 BK121 HB hq_;have BK120 := n0_;have BK121 := n1_;have HB := n2_;clear n0_ n1_ n2_)));(try (obtain ⟨hcz17_0,hcz17_1,hfz17_0,hfz17_1⟩ := spec_PlainGain.cells2 BK120.out));obtain ⟨hcz18_0,hcz18_1,hcz18_2,hcz18_3,hfz18_0,hfz18_1,hfz18_2,hfz18_3⟩ := spec_PlainGain.cells4 BK121.out))
      refine bodyPost_ret (results_ct rfl _ _ gb121 30 #[.bool false,.int .u64 0,.int .u64 0,.int .i64 0] (0,0) _ rfl Z27 Try.underlying30 rfl Z580) rfl ?_
      exact ⟨Z400,Z438⟩
  · replace c4 := Bool.eq_false_iff.mpr c4
    subst c4
    have H1 : (some (false,0,0,0,false)) = some (r1,r2,r3,r4,r5) := by rw [if_neg (show ¬ (false = true) by decide)] at H;exact H
    clear H
    have H := H1
    clear H1
    simp only [Option.some.injEq,Prod.mk.injEq] at H
    obtain ⟨rfl,rfl,rfl,rfl,rfl⟩ := H
    go_enter Try.func22,Try.ntmps22
    go_wp2_with (first | ((with_reducible refine gate_dst (N := 2) rfl ?_);refine box_event ?hg (N := 2) ?hd (cs := #[.int .i64 a0_0,.int .i64 a0_1]) (t := 33) ?hr ?_;(case hd => rfl);(case hg => rfl);(case hr => exact Z515);intro gb120 hg w19 hbox hb;have n_ := jA (below_step Z486 hb) (jA (hbox) (jA ((Z271 : w.heap.size ≤ gb120)) (Aside0.mk ((Z271 : w.heap.size ≤ gb120)))));clear HB;obtain ⟨HB,BK120,GW120,GE120⟩ := n_;clear hb hbox hg) | ((with_reducible refine gate_dst (N := 4) rfl ?_);refine box_event ?hg (N := 4) ?hd (cs := #[.bool false,.int .u64 0,.int .u64 0,.int .i64 0]) (t := 30) ?hr ?_;(case hd => rfl);(case hg => rfl);(case hr => exact Z515);intro gb121 hg w20 hbox hb;have n_ := jA (blk_below (g := gb120) (o := .cells #[.int .i64 a0_0,.int .i64 a0_1] 33 (0,0)) Z592 hb) (jA (below_step Z467 hb) (jA (hbox) (jA ((Z197 : w.heap.size ≤ gb121)) (jA ((Z197 : w.heap.size ≤ gb121)) (jA ((Z388 : gb120 ≠ gb121)) (Aside0.mk ((Z392 : gb121 ≠ gb120))))))));clear BK120 HB;obtain ⟨BK120,HB,BK121,GW121,GE121,NB120_121,NB121_120⟩ := n_;clear hb hbox hg;have hnb21 := NB120_121.out;have hnc21 := NB121_120.out;obtain ⟨hcz22_0,hcz22_1,hfz22_0,hfz22_1⟩ := spec_PlainGain.cells2 BK120.out) | ((with_reducible refine gate_callee (f := 41) rfl ?_);refine goesL_ (some 8) rfl rfl Try.func41 Z580 rfl #[.int .i64 a0_0,.int .i64 0,.int .i64 40] rfl Z395 ?_;(with_reducible refine (spec_l1In.calls a0_0 0 40 false _ A3.out).mono ?_);rintro e w' ⟨rfl,⟨nd,rfl⟩⟩;refine ⟨_,rfl,?_⟩;(iterate 4 (try (rw [drewN_self w20];generalize hq_ : World.drewN w20 _ = w20;have n0_ : Aside0 (w20.heap[gb120]? = some (.cells #[.int .i64 a0_0,.int .i64 a0_1] 33 (0,0))) := ⟨Z507⟩;have n1_ : Aside0 (w20.heap[gb121]? = some (.cells #[.bool false,.int .u64 0,.int .u64 0,.int .i64 0] 30 (0,0))) := ⟨Z506⟩;have n2_ : Aside0 (Below w.heap.size w w20) := ⟨Z131⟩;clear BK120 BK121 HB hq_;have BK120 := n0_;have BK121 := n1_;have HB := n2_;clear n0_ n1_ n2_)));(try (obtain ⟨hcz22_0,hcz22_1,hfz22_0,hfz22_1⟩ := spec_PlainGain.cells2 BK120.out));obtain ⟨hcz23_0,hcz23_1,hcz23_2,hcz23_3,hfz23_0,hfz23_1,hfz23_2,hfz23_3⟩ := spec_PlainGain.cells4 BK121.out))
    refine bodyPost_ret (results_ct rfl _ _ gb121 30 #[.bool false,.int .u64 0,.int .u64 0,.int .i64 0] (0,0) _ rfl Z27 Try.underlying30 rfl Z580) rfl ?_
    exact ⟨Z400,Z438⟩

/-! ### spec_l3Zero: function 67 -/
theorem spec_l3Zero.cells3 {w : World} {g : Nat} {t : TypeId} {a0 a1 a2 : Value} (h : w.heap[g]? = some (.cells #[a0,a1,a2] t (0,0))) : w.cell? ⟨g,0,none⟩ = some a0 ∧ w.cell? ⟨g,1,none⟩ = some a1 ∧ w.cell? ⟨g,2,none⟩ = some a2 ∧ w.frozen? ⟨g,0,none⟩ = false ∧ w.frozen? ⟨g,1,none⟩ = false ∧ w.frozen? ⟨g,2,none⟩ = false := ⟨(blk_cell h 0).trans rfl,(blk_cell h 1).trans rfl,(blk_cell h 2).trans rfl,blk_frozen h 0,blk_frozen h 1,blk_frozen h 2⟩
def spec_l3Zero.f (a0_0 : Bool) (a0_1 : Int) (a0_2 : Int) : Option (Bool) := if a0_1 = 0 then (some (a0_2 == 0)) else (some false)
set_option maxHeartbeats 8000000 in
set_option maxRecDepth 100000 in
theorem spec_l3Zero.calls (a0_0 : Bool) (a0_1 : Int) (a0_2 : Int) (r : Bool) (w : World) (h : spec_l3Zero.f a0_0 a0_1 a0_2 = some r) :
    Calls Try.prog 67 #[.agg #[.bool a0_0,.int .u64 a0_1,.int .u64 a0_2]] w fun e w' => e = .returned (.bool r) ∧ Below w.heap.size w w' := by
  have hu28 := Try.underlying28
  have HB := Aside0.mk (Below.refl w.heap.size w)
  have H : (if a0_1 = 0 then (some (a0_2 == 0)) else (some false)) = some r := h
  clear h
  by_cases c2 : a0_1 = 0
  · rw [if_pos c2] at H
    have c2b0 : (a0_1 == 0) = true := beq_iff_eq.mpr c2
    have c2b1 : (a0_1 != 0) = false := bne_eq_false_iff_eq.mpr c2
    clear c2
    obtain rfl := Option.some.inj H
    go_enter Try.func67,Try.ntmps67
    go_wp2_with (first | ((with_reducible refine gate_dst (N := 1) rfl ?_);refine box_event ?hg (N := 1) ?hd (cs := #[.bool a0_0,.int .u64 a0_1,.int .u64 a0_2]) (t := 28) ?hr ?_;(case hd => rfl);(case hg => rfl);(case hr => exact Z515);intro gb129 hg w3 hbox hb;have n_ := jA (below_step Z486 hb) (jA (hbox) (jA ((Z271 : w.heap.size ≤ gb129)) (Aside0.mk ((Z271 : w.heap.size ≤ gb129)))));clear HB;obtain ⟨HB,BK129,GW129,GE129⟩ := n_;clear hb hbox hg;obtain ⟨hcz4_0,hcz4_1,hcz4_2,hfz4_0,hfz4_1,hfz4_2⟩ := spec_l3Zero.cells3 BK129.out))
    go_ret
    exact ⟨Z400,Z313⟩
  · rw [if_neg c2] at H
    have c2b0 : (a0_1 == 0) = false := beq_eq_false_iff_ne.mpr c2
    have c2b1 : (a0_1 != 0) = true := bne_iff_ne.mpr c2
    obtain rfl := Option.some.inj H
    go_enter Try.func67,Try.ntmps67
    go_wp2_with (first | ((with_reducible refine gate_dst (N := 1) rfl ?_);refine box_event ?hg (N := 1) ?hd (cs := #[.bool a0_0,.int .u64 a0_1,.int .u64 a0_2]) (t := 28) ?hr ?_;(case hd => rfl);(case hg => rfl);(case hr => exact Z515);intro gb129 hg w5 hbox hb;have n_ := jA (below_step Z486 hb) (jA (hbox) (jA ((Z271 : w.heap.size ≤ gb129)) (Aside0.mk ((Z271 : w.heap.size ≤ gb129)))));clear HB;obtain ⟨HB,BK129,GW129,GE129⟩ := n_;clear hb hbox hg;obtain ⟨hcz6_0,hcz6_1,hcz6_2,hfz6_0,hfz6_1,hfz6_2⟩ := spec_l3Zero.cells3 BK129.out))
    go_ret
    exact ⟨Z400,Z313⟩

/-! ### spec_ScaleWide: function 64 -/
theorem spec_ScaleWide.cells3 {w : World} {g : Nat} {t : TypeId} {a0 a1 a2 : Value} (h : w.heap[g]? = some (.cells #[a0,a1,a2] t (0,0))) : w.cell? ⟨g,0,none⟩ = some a0 ∧ w.cell? ⟨g,1,none⟩ = some a1 ∧ w.cell? ⟨g,2,none⟩ = some a2 ∧ w.frozen? ⟨g,0,none⟩ = false ∧ w.frozen? ⟨g,1,none⟩ = false ∧ w.frozen? ⟨g,2,none⟩ = false := ⟨(blk_cell h 0).trans rfl,(blk_cell h 1).trans rfl,(blk_cell h 2).trans rfl,blk_frozen h 0,blk_frozen h 1,blk_frozen h 2⟩
def spec_ScaleWide.f (a0_0 : Bool) (a0_1 : Int) (a0_2 : Int) (a1 : Int) : Option (Bool × Int × Int × Bool) := (spec_WideOk.f a0_0 a0_1 a0_2).bind fun t132 => (if t132 = true then ((spec_l3Abs.f a1).bind fun t133 => ((spec_l3Product.f a0_1 t133).bind fun bt134 => ((spec_l3Product.f a0_2 t133).bind fun bt136 => ((spec_l3Zero.f (a0_0 != (decide (a1 < 0))) (IntKind.u64.wrap (bt134.2 + bt136.1)) bt136.2).bind fun t139 => (if t139 = true then (if bt134.1 > 0 then (some (false,0,0,false)) else (if (IntKind.u64.wrap (bt134.2 + bt136.1)) < bt134.2 then (some (false,0,0,false)) else ((spec_WideOk.f false (IntKind.u64.wrap (bt134.2 + bt136.1)) bt136.2).bind fun t140 => (if t140 = true then (some (false,IntKind.u64.wrap (bt134.2 + bt136.1),bt136.2,true)) else (some (false,0,0,false)))))) else (if bt134.1 > 0 then (some (false,0,0,false)) else (if (IntKind.u64.wrap (bt134.2 + bt136.1)) < bt134.2 then (some (false,0,0,false)) else ((spec_WideOk.f (a0_0 != (decide (a1 < 0))) (IntKind.u64.wrap (bt134.2 + bt136.1)) bt136.2).bind fun t141 => (if t141 = true then (some ((a0_0 != (decide (a1 < 0))),IntKind.u64.wrap (bt134.2 + bt136.1),bt136.2,true)) else (some (false,0,0,false))))))))))) else (some (false,0,0,false)))
set_option maxHeartbeats 8000000 in
set_option maxRecDepth 100000 in
theorem spec_ScaleWide.calls (a0_0 : Bool) (a0_1 : Int) (a0_2 : Int) (a1 : Int) (r1 : Bool) (r2 : Int) (r3 : Int) (r4 : Bool) (w : World) (h : spec_ScaleWide.f a0_0 a0_1 a0_2 a1 = some (r1,r2,r3,r4)) :
    Calls Try.prog 64 #[.agg #[.bool a0_0,.int .u64 a0_1,.int .u64 a0_2],.int .i64 a1] w fun e w' => e = .returned (.tuple #[.agg #[.bool r1,.int .u64 r2,.int .u64 r3],.bool r4]) ∧ Below w.heap.size w w' := by
  have hu28 := Try.underlying28
  have HB := Aside0.mk (Below.refl w.heap.size w)
  have H : ((spec_WideOk.f a0_0 a0_1 a0_2).bind fun t132 => (if t132 = true then ((spec_l3Abs.f a1).bind fun t133 => ((spec_l3Product.f a0_1 t133).bind fun bt134 => ((spec_l3Product.f a0_2 t133).bind fun bt136 => ((spec_l3Zero.f (a0_0 != (decide (a1 < 0))) (IntKind.u64.wrap (bt134.2 + bt136.1)) bt136.2).bind fun t139 => (if t139 = true then (if bt134.1 > 0 then (some (false,0,0,false)) else (if (IntKind.u64.wrap (bt134.2 + bt136.1)) < bt134.2 then (some (false,0,0,false)) else ((spec_WideOk.f false (IntKind.u64.wrap (bt134.2 + bt136.1)) bt136.2).bind fun t140 => (if t140 = true then (some (false,IntKind.u64.wrap (bt134.2 + bt136.1),bt136.2,true)) else (some (false,0,0,false)))))) else (if bt134.1 > 0 then (some (false,0,0,false)) else (if (IntKind.u64.wrap (bt134.2 + bt136.1)) < bt134.2 then (some (false,0,0,false)) else ((spec_WideOk.f (a0_0 != (decide (a1 < 0))) (IntKind.u64.wrap (bt134.2 + bt136.1)) bt136.2).bind fun t141 => (if t141 = true then (some ((a0_0 != (decide (a1 < 0))),IntKind.u64.wrap (bt134.2 + bt136.1),bt136.2,true)) else (some (false,0,0,false))))))))))) else (some (false,0,0,false)))) = some (r1,r2,r3,r4) := h
  clear h
  obtain ⟨t132,A30,H⟩ := Option.bind_eq_some_iff.mp H
  have A3 := Aside0.mk A30
  clear A30
  by_cases c4 : t132 = true
  · subst c4
    have H1 : ((spec_l3Abs.f a1).bind fun t133 => ((spec_l3Product.f a0_1 t133).bind fun bt134 => ((spec_l3Product.f a0_2 t133).bind fun bt136 => ((spec_l3Zero.f (a0_0 != (decide (a1 < 0))) (IntKind.u64.wrap (bt134.2 + bt136.1)) bt136.2).bind fun t139 => (if t139 = true then (if bt134.1 > 0 then (some (false,0,0,false)) else (if (IntKind.u64.wrap (bt134.2 + bt136.1)) < bt134.2 then (some (false,0,0,false)) else ((spec_WideOk.f false (IntKind.u64.wrap (bt134.2 + bt136.1)) bt136.2).bind fun t140 => (if t140 = true then (some (false,IntKind.u64.wrap (bt134.2 + bt136.1),bt136.2,true)) else (some (false,0,0,false)))))) else (if bt134.1 > 0 then (some (false,0,0,false)) else (if (IntKind.u64.wrap (bt134.2 + bt136.1)) < bt134.2 then (some (false,0,0,false)) else ((spec_WideOk.f (a0_0 != (decide (a1 < 0))) (IntKind.u64.wrap (bt134.2 + bt136.1)) bt136.2).bind fun t141 => (if t141 = true then (some ((a0_0 != (decide (a1 < 0))),IntKind.u64.wrap (bt134.2 + bt136.1),bt136.2,true)) else (some (false,0,0,false))))))))))) = some (r1,r2,r3,r4) := by rw [if_pos rfl] at H;exact H
    clear H
    have H := H1
    clear H1
    obtain ⟨t133,A50,H⟩ := Option.bind_eq_some_iff.mp H
    have A5 := Aside0.mk A50
    clear A50
    obtain ⟨⟨t134,t135⟩,A60,H⟩ := Option.bind_eq_some_iff.mp H
    try dsimp only at H
    have A6 := Aside0.mk A60
    clear A60
    obtain ⟨⟨t136,t137⟩,A70,H⟩ := Option.bind_eq_some_iff.mp H
    try dsimp only at H
    have A7 := Aside0.mk A70
    clear A70
    obtain ⟨t139,A80,H⟩ := Option.bind_eq_some_iff.mp H
    have A8 := Aside0.mk A80
    clear A80
    by_cases c9 : t139 = true
    · subst c9
      have H1 : (if t134 > 0 then (some (false,0,0,false)) else (if (IntKind.u64.wrap (t135 + t136)) < t135 then (some (false,0,0,false)) else ((spec_WideOk.f false (IntKind.u64.wrap (t135 + t136)) t137).bind fun t140 => (if t140 = true then (some (false,IntKind.u64.wrap (t135 + t136),t137,true)) else (some (false,0,0,false)))))) = some (r1,r2,r3,r4) := by rw [if_pos rfl] at H;exact H
      clear H
      have H := H1
      clear H1
      by_cases c10 : t134 > 0
      · rw [if_pos c10] at H
        have c10b0 : decide (0 < t134) = true := decide_eq_true c10
        clear c10
        simp only [Option.some.injEq,Prod.mk.injEq] at H
        obtain ⟨rfl,rfl,rfl,rfl⟩ := H
        go_enter Try.func64,Try.ntmps64
        go_wp2_with (first | ((with_reducible refine gate_dst (N := 2) rfl ?_);refine box_event ?hg (N := 2) ?hd (cs := #[.bool a0_0,.int .u64 a0_1,.int .u64 a0_2]) (t := 28) ?hr ?_;(case hd => rfl);(case hg => rfl);(case hr => exact Z515);intro gb130 hg w11 hbox hb;have n_ := jA (below_step Z486 hb) (jA (hbox) (jA ((Z271 : w.heap.size ≤ gb130)) (Aside0.mk ((Z271 : w.heap.size ≤ gb130)))));clear HB;obtain ⟨HB,BK130,GW130,GE130⟩ := n_;clear hb hbox hg) | ((with_reducible refine gate_dst (N := 4) rfl ?_);refine box_event ?hg (N := 4) ?hd (cs := #[.bool false,.int .u64 0,.int .u64 0]) (t := 28) ?hr ?_;(case hd => rfl);(case hg => rfl);(case hr => exact Z515);intro gb131 hg w12 hbox hb;have n_ := jA (blk_below (g := gb130) (o := .cells #[.bool a0_0,.int .u64 a0_1,.int .u64 a0_2] 28 (0,0)) Z583 hb) (jA (below_step Z457 hb) (jA (hbox) (jA ((Z184 : w.heap.size ≤ gb131)) (jA ((Z184 : w.heap.size ≤ gb131)) (jA ((Z327 : gb130 ≠ gb131)) (Aside0.mk ((Z328 : gb131 ≠ gb130))))))));clear BK130 HB;obtain ⟨BK130,HB,BK131,GW131,GE131,NB130_131,NB131_130⟩ := n_;clear hb hbox hg;have hnb13 := NB130_131.out;have hnc13 := NB131_130.out;obtain ⟨hcz14_0,hcz14_1,hcz14_2,hfz14_0,hfz14_1,hfz14_2⟩ := spec_ScaleWide.cells3 BK130.out) | ((with_reducible refine gate_callee (f := 65) rfl ?_);refine goesL_ (some 14) rfl rfl Try.func65 Z580 rfl #[.agg #[.bool a0_0,.int .u64 a0_1,.int .u64 a0_2]] rfl Z395 ?_;(with_reducible refine (spec_WideOk.calls a0_0 a0_1 a0_2 true _ A3.out).mono ?_);rintro e w15 ⟨rfl,hb⟩;refine ⟨_,rfl,?_⟩;have n_ := jA (blk_below (g := gb130) (o := .cells #[.bool a0_0,.int .u64 a0_1,.int .u64 a0_2] 28 (0,0)) Z583 hb) (jA (blk_below (g := gb131) (o := .cells #[.bool false,.int .u64 0,.int .u64 0] 28 (0,0)) Z584 hb) (Aside0.mk (below_step Z429 hb)));clear BK130 BK131 HB;obtain ⟨BK130,BK131,HB⟩ := n_;(try clear hb);(try clear hb2);(try clear hk);(try clear hi)) | ((with_reducible refine gate_callee (f := 80) rfl ?_);refine goesL_ (some 18) rfl rfl Try.func80 Z580 rfl #[.int .i64 a1] rfl Z395 ?_;(with_reducible refine (spec_l3Abs.calls a1 t133 _ A5.out).mono ?_);rintro e w' ⟨rfl,⟨nd,rfl⟩⟩;refine ⟨_,rfl,?_⟩;(iterate 4 (try (rw [drewN_self w15];generalize hq_ : World.drewN w15 _ = w15;have n0_ : Aside0 (w15.heap[gb130]? = some (.cells #[.bool a0_0,.int .u64 a0_1,.int .u64 a0_2] 28 (0,0))) := ⟨Z493⟩;have n1_ : Aside0 (w15.heap[gb131]? = some (.cells #[.bool false,.int .u64 0,.int .u64 0] 28 (0,0))) := ⟨Z492⟩;have n2_ : Aside0 (Below w.heap.size w w15) := ⟨Z129⟩;clear BK130 BK131 HB hq_;have BK130 := n0_;have BK131 := n1_;have HB := n2_;clear n0_ n1_ n2_)));obtain ⟨hcz16_0,hcz16_1,hcz16_2,hfz16_0,hfz16_1,hfz16_2⟩ := spec_ScaleWide.cells3 BK130.out) | ((with_reducible refine gate_callee (f := 79) rfl ?_);refine goesL_ (some 23) rfl rfl Try.func79 Z580 rfl #[.int .u64 a0_1,.int .u64 t133] rfl Z395 ?_;(with_reducible refine (spec_l3Product.calls a0_1 t133 t134 t135 _ A6.out).mono ?_);rintro e w' ⟨rfl,⟨nd,rfl⟩⟩;refine ⟨_,rfl,?_⟩;(iterate 4 (try (rw [drewN_self w15];generalize hq_ : World.drewN w15 _ = w15;have n0_ : Aside0 (w15.heap[gb130]? = some (.cells #[.bool a0_0,.int .u64 a0_1,.int .u64 a0_2] 28 (0,0))) := ⟨Z493⟩;have n1_ : Aside0 (w15.heap[gb131]? = some (.cells #[.bool false,.int .u64 0,.int .u64 0] 28 (0,0))) := ⟨Z492⟩;have n2_ : Aside0 (Below w.heap.size w w15) := ⟨Z129⟩;clear BK130 BK131 HB hq_;have BK130 := n0_;have BK131 := n1_;have HB := n2_;clear n0_ n1_ n2_)));(try (obtain ⟨hcz16_0,hcz16_1,hcz16_2,hfz16_0,hfz16_1,hfz16_2⟩ := spec_ScaleWide.cells3 BK130.out))) | ((with_reducible refine gate_callee (f := 79) rfl ?_);refine goesL_ (some 30) rfl rfl Try.func79 Z580 rfl #[.int .u64 a0_2,.int .u64 t133] rfl Z395 ?_;(with_reducible refine (spec_l3Product.calls a0_2 t133 t136 t137 _ A7.out).mono ?_);rintro e w' ⟨rfl,⟨nd,rfl⟩⟩;refine ⟨_,rfl,?_⟩;(iterate 4 (try (rw [drewN_self w15];generalize hq_ : World.drewN w15 _ = w15;have n0_ : Aside0 (w15.heap[gb130]? = some (.cells #[.bool a0_0,.int .u64 a0_1,.int .u64 a0_2] 28 (0,0))) := ⟨Z493⟩;have n1_ : Aside0 (w15.heap[gb131]? = some (.cells #[.bool false,.int .u64 0,.int .u64 0] 28 (0,0))) := ⟨Z492⟩;have n2_ : Aside0 (Below w.heap.size w w15) := ⟨Z129⟩;clear BK130 BK131 HB hq_;have BK130 := n0_;have BK131 := n1_;have HB := n2_;clear n0_ n1_ n2_)));(try (obtain ⟨hcz16_0,hcz16_1,hcz16_2,hfz16_0,hfz16_1,hfz16_2⟩ := spec_ScaleWide.cells3 BK130.out))) | ((with_reducible refine gate_dst (N := 12) rfl ?_);refine box_event ?hg (N := 12) ?hd (cs := #[.bool false,.int .u64 0,.int .u64 0]) (t := 28) ?hr ?_;(case hd => rfl);(case hg => rfl);(case hr => exact Z515);intro gb138 hg w17 hbox hb;have n_ := jA (blk_below (g := gb130) (o := .cells #[.bool a0_0,.int .u64 a0_1,.int .u64 a0_2] 28 (0,0)) Z583 hb) (jA (blk_below (g := gb131) (o := .cells #[.bool false,.int .u64 0,.int .u64 0] 28 (0,0)) Z584 hb) (jA (below_step Z429 hb) (jA (hbox) (jA ((Z109 : w.heap.size ≤ gb138)) (jA ((Z109 : w.heap.size ≤ gb138)) (jA ((Z327 : gb130 ≠ gb138)) (jA ((Z328 : gb138 ≠ gb130)) (jA ((Z355 : gb131 ≠ gb138)) (Aside0.mk ((Z356 : gb138 ≠ gb131)))))))))));clear BK130 BK131 HB;obtain ⟨BK130,BK131,HB,BK138,GW138,GE138,NB130_138,NB138_130,NB131_138,NB138_131⟩ := n_;clear hb hbox hg;have hnb18 := NB138_130.out;have hnc18 := NB130_138.out;have hnb19 := NB138_131.out;have hnc19 := NB131_138.out;obtain ⟨hcz20_0,hcz20_1,hcz20_2,hfz20_0,hfz20_1,hfz20_2⟩ := spec_ScaleWide.cells3 BK138.out) | ((with_reducible refine gate_callee (f := 67) rfl ?_);refine goesL_ (some 45) rfl rfl Try.func67 Z580 rfl #[.agg #[.bool (a0_0 != (decide (a1 < 0))),.int .u64 (IntKind.u64.wrap (t135 + t136)),.int .u64 t137]] rfl Z395 ?_;(with_reducible refine (spec_l3Zero.calls (a0_0 != (decide (a1 < 0))) (IntKind.u64.wrap (t135 + t136)) t137 true _ A8.out).mono ?_);rintro e w21 ⟨rfl,hb⟩;refine ⟨_,rfl,?_⟩;have n_ := jA (blk_below (g := gb130) (o := .cells #[.bool a0_0,.int .u64 a0_1,.int .u64 a0_2] 28 (0,0)) Z231 hb) (jA (blk_below (g := gb131) (o := .cells #[.bool false,.int .u64 0,.int .u64 0] 28 (0,0)) Z230 hb) (jA (blk_below (g := gb138) (o := .cells #[.bool (a0_0 != (decide (a1 < 0))),.int .u64 (IntKind.u64.wrap (t135 + t136)),.int .u64 t137] 28 (0,0)) Z30 hb) (Aside0.mk (below_step Z108 hb))));clear BK130 BK131 BK138 HB;obtain ⟨BK130,BK131,BK138,HB⟩ := n_;(try clear hb);(try clear hb2);(try clear hk);(try clear hi);obtain ⟨hcz22_0,hcz22_1,hcz22_2,hfz22_0,hfz22_1,hfz22_2⟩ := spec_ScaleWide.cells3 BK138.out;obtain ⟨hcz23_0,hcz23_1,hcz23_2,hfz23_0,hfz23_1,hfz23_2⟩ := spec_ScaleWide.cells3 BK131.out))
        refine bodyPost_ret (results_ct rfl _ _ gb131 28 #[.bool false,.int .u64 0,.int .u64 0] (0,0) _ rfl Z34 Try.underlying28 rfl Z580) rfl ?_
        exact ⟨Z400,Z108⟩
      · rw [if_neg c10] at H
        have c10b0 : decide (0 < t134) = false := decide_eq_false c10
        clear c10
        by_cases c24 : (IntKind.u64.wrap (t135 + t136)) < t135
        · rw [if_pos c24] at H
          have c24b0 : decide ((IntKind.u64.wrap (t135 + t136)) < t135) = true := decide_eq_true c24
          clear c24
          simp only [Option.some.injEq,Prod.mk.injEq] at H
          obtain ⟨rfl,rfl,rfl,rfl⟩ := H
          go_enter Try.func64,Try.ntmps64
          go_wp2_with (first | ((with_reducible refine gate_dst (N := 2) rfl ?_);refine box_event ?hg (N := 2) ?hd (cs := #[.bool a0_0,.int .u64 a0_1,.int .u64 a0_2]) (t := 28) ?hr ?_;(case hd => rfl);(case hg => rfl);(case hr => exact Z515);intro gb130 hg w25 hbox hb;have n_ := jA (below_step Z486 hb) (jA (hbox) (jA ((Z271 : w.heap.size ≤ gb130)) (Aside0.mk ((Z271 : w.heap.size ≤ gb130)))));clear HB;obtain ⟨HB,BK130,GW130,GE130⟩ := n_;clear hb hbox hg) | ((with_reducible refine gate_dst (N := 4) rfl ?_);refine box_event ?hg (N := 4) ?hd (cs := #[.bool false,.int .u64 0,.int .u64 0]) (t := 28) ?hr ?_;(case hd => rfl);(case hg => rfl);(case hr => exact Z515);intro gb131 hg w26 hbox hb;have n_ := jA (blk_below (g := gb130) (o := .cells #[.bool a0_0,.int .u64 a0_1,.int .u64 a0_2] 28 (0,0)) Z583 hb) (jA (below_step Z457 hb) (jA (hbox) (jA ((Z184 : w.heap.size ≤ gb131)) (jA ((Z184 : w.heap.size ≤ gb131)) (jA ((Z327 : gb130 ≠ gb131)) (Aside0.mk ((Z328 : gb131 ≠ gb130))))))));clear BK130 HB;obtain ⟨BK130,HB,BK131,GW131,GE131,NB130_131,NB131_130⟩ := n_;clear hb hbox hg;have hnb27 := NB130_131.out;have hnc27 := NB131_130.out;obtain ⟨hcz28_0,hcz28_1,hcz28_2,hfz28_0,hfz28_1,hfz28_2⟩ := spec_ScaleWide.cells3 BK130.out) | ((with_reducible refine gate_callee (f := 65) rfl ?_);refine goesL_ (some 14) rfl rfl Try.func65 Z580 rfl #[.agg #[.bool a0_0,.int .u64 a0_1,.int .u64 a0_2]] rfl Z395 ?_;(with_reducible refine (spec_WideOk.calls a0_0 a0_1 a0_2 true _ A3.out).mono ?_);rintro e w29 ⟨rfl,hb⟩;refine ⟨_,rfl,?_⟩;have n_ := jA (blk_below (g := gb130) (o := .cells #[.bool a0_0,.int .u64 a0_1,.int .u64 a0_2] 28 (0,0)) Z583 hb) (jA (blk_below (g := gb131) (o := .cells #[.bool false,.int .u64 0,.int .u64 0] 28 (0,0)) Z584 hb) (Aside0.mk (below_step Z429 hb)));clear BK130 BK131 HB;obtain ⟨BK130,BK131,HB⟩ := n_;(try clear hb);(try clear hb2);(try clear hk);(try clear hi)) | ((with_reducible refine gate_callee (f := 80) rfl ?_);refine goesL_ (some 18) rfl rfl Try.func80 Z580 rfl #[.int .i64 a1] rfl Z395 ?_;(with_reducible refine (spec_l3Abs.calls a1 t133 _ A5.out).mono ?_);rintro e w' ⟨rfl,⟨nd,rfl⟩⟩;refine ⟨_,rfl,?_⟩;(iterate 4 (try (rw [drewN_self w29];generalize hq_ : World.drewN w29 _ = w29;have n0_ : Aside0 (w29.heap[gb130]? = some (.cells #[.bool a0_0,.int .u64 a0_1,.int .u64 a0_2] 28 (0,0))) := ⟨Z493⟩;have n1_ : Aside0 (w29.heap[gb131]? = some (.cells #[.bool false,.int .u64 0,.int .u64 0] 28 (0,0))) := ⟨Z492⟩;have n2_ : Aside0 (Below w.heap.size w w29) := ⟨Z129⟩;clear BK130 BK131 HB hq_;have BK130 := n0_;have BK131 := n1_;have HB := n2_;clear n0_ n1_ n2_)));obtain ⟨hcz30_0,hcz30_1,hcz30_2,hfz30_0,hfz30_1,hfz30_2⟩ := spec_ScaleWide.cells3 BK130.out) | ((with_reducible refine gate_callee (f := 79) rfl ?_);refine goesL_ (some 23) rfl rfl Try.func79 Z580 rfl #[.int .u64 a0_1,.int .u64 t133] rfl Z395 ?_;(with_reducible refine (spec_l3Product.calls a0_1 t133 t134 t135 _ A6.out).mono ?_);rintro e w' ⟨rfl,⟨nd,rfl⟩⟩;refine ⟨_,rfl,?_⟩;(iterate 4 (try (rw [drewN_self w29];generalize hq_ : World.drewN w29 _ = w29;have n0_ : Aside0 (w29.heap[gb130]? = some (.cells #[.bool a0_0,.int .u64 a0_1,.int .u64 a0_2] 28 (0,0))) := ⟨Z493⟩;have n1_ : Aside0 (w29.heap[gb131]? = some (.cells #[.bool false,.int .u64 0,.int .u64 0] 28 (0,0))) := ⟨Z492⟩;have n2_ : Aside0 (Below w.heap.size w w29) := ⟨Z129⟩;clear BK130 BK131 HB hq_;have BK130 := n0_;have BK131 := n1_;have HB := n2_;clear n0_ n1_ n2_)));(try (obtain ⟨hcz30_0,hcz30_1,hcz30_2,hfz30_0,hfz30_1,hfz30_2⟩ := spec_ScaleWide.cells3 BK130.out))) | ((with_reducible refine gate_callee (f := 79) rfl ?_);refine goesL_ (some 30) rfl rfl Try.func79 Z580 rfl #[.int .u64 a0_2,.int .u64 t133] rfl Z395 ?_;(with_reducible refine (spec_l3Product.calls a0_2 t133 t136 t137 _ A7.out).mono ?_);rintro e w' ⟨rfl,⟨nd,rfl⟩⟩;refine ⟨_,rfl,?_⟩;(iterate 4 (try (rw [drewN_self w29];generalize hq_ : World.drewN w29 _ = w29;have n0_ : Aside0 (w29.heap[gb130]? = some (.cells #[.bool a0_0,.int .u64 a0_1,.int .u64 a0_2] 28 (0,0))) := ⟨Z493⟩;have n1_ : Aside0 (w29.heap[gb131]? = some (.cells #[.bool false,.int .u64 0,.int .u64 0] 28 (0,0))) := ⟨Z492⟩;have n2_ : Aside0 (Below w.heap.size w w29) := ⟨Z129⟩;clear BK130 BK131 HB hq_;have BK130 := n0_;have BK131 := n1_;have HB := n2_;clear n0_ n1_ n2_)));(try (obtain ⟨hcz30_0,hcz30_1,hcz30_2,hfz30_0,hfz30_1,hfz30_2⟩ := spec_ScaleWide.cells3 BK130.out))) | ((with_reducible refine gate_dst (N := 12) rfl ?_);refine box_event ?hg (N := 12) ?hd (cs := #[.bool false,.int .u64 0,.int .u64 0]) (t := 28) ?hr ?_;(case hd => rfl);(case hg => rfl);(case hr => exact Z515);intro gb138 hg w31 hbox hb;have n_ := jA (blk_below (g := gb130) (o := .cells #[.bool a0_0,.int .u64 a0_1,.int .u64 a0_2] 28 (0,0)) Z583 hb) (jA (blk_below (g := gb131) (o := .cells #[.bool false,.int .u64 0,.int .u64 0] 28 (0,0)) Z584 hb) (jA (below_step Z429 hb) (jA (hbox) (jA ((Z109 : w.heap.size ≤ gb138)) (jA ((Z109 : w.heap.size ≤ gb138)) (jA ((Z327 : gb130 ≠ gb138)) (jA ((Z328 : gb138 ≠ gb130)) (jA ((Z355 : gb131 ≠ gb138)) (Aside0.mk ((Z356 : gb138 ≠ gb131)))))))))));clear BK130 BK131 HB;obtain ⟨BK130,BK131,HB,BK138,GW138,GE138,NB130_138,NB138_130,NB131_138,NB138_131⟩ := n_;clear hb hbox hg;have hnb32 := NB138_130.out;have hnc32 := NB130_138.out;have hnb33 := NB138_131.out;have hnc33 := NB131_138.out;obtain ⟨hcz34_0,hcz34_1,hcz34_2,hfz34_0,hfz34_1,hfz34_2⟩ := spec_ScaleWide.cells3 BK138.out) | ((with_reducible refine gate_callee (f := 67) rfl ?_);refine goesL_ (some 45) rfl rfl Try.func67 Z580 rfl #[.agg #[.bool (a0_0 != (decide (a1 < 0))),.int .u64 (IntKind.u64.wrap (t135 + t136)),.int .u64 t137]] rfl Z395 ?_;(with_reducible refine (spec_l3Zero.calls (a0_0 != (decide (a1 < 0))) (IntKind.u64.wrap (t135 + t136)) t137 true _ A8.out).mono ?_);rintro e w35 ⟨rfl,hb⟩;refine ⟨_,rfl,?_⟩;have n_ := jA (blk_below (g := gb130) (o := .cells #[.bool a0_0,.int .u64 a0_1,.int .u64 a0_2] 28 (0,0)) Z231 hb) (jA (blk_below (g := gb131) (o := .cells #[.bool false,.int .u64 0,.int .u64 0] 28 (0,0)) Z230 hb) (jA (blk_below (g := gb138) (o := .cells #[.bool (a0_0 != (decide (a1 < 0))),.int .u64 (IntKind.u64.wrap (t135 + t136)),.int .u64 t137] 28 (0,0)) Z30 hb) (Aside0.mk (below_step Z108 hb))));clear BK130 BK131 BK138 HB;obtain ⟨BK130,BK131,BK138,HB⟩ := n_;(try clear hb);(try clear hb2);(try clear hk);(try clear hi);obtain ⟨hcz36_0,hcz36_1,hcz36_2,hfz36_0,hfz36_1,hfz36_2⟩ := spec_ScaleWide.cells3 BK138.out;obtain ⟨hcz37_0,hcz37_1,hcz37_2,hfz37_0,hfz37_1,hfz37_2⟩ := spec_ScaleWide.cells3 BK131.out))
          refine bodyPost_ret (results_ct rfl _ _ gb131 28 #[.bool false,.int .u64 0,.int .u64 0] (0,0) _ rfl Z34 Try.underlying28 rfl Z580) rfl ?_
          exact ⟨Z400,Z108⟩
        · rw [if_neg c24] at H
          have c24b0 : decide ((IntKind.u64.wrap (t135 + t136)) < t135) = false := decide_eq_false c24
          clear c24
          obtain ⟨t140,A380,H⟩ := Option.bind_eq_some_iff.mp H
          have A38 := Aside0.mk A380
          clear A380
          by_cases c39 : t140 = true
          · subst c39
            have H1 : (some (false,IntKind.u64.wrap (t135 + t136),t137,true)) = some (r1,r2,r3,r4) := by rw [if_pos rfl] at H;exact H
            clear H
            have H := H1
            clear H1
            simp only [Option.some.injEq,Prod.mk.injEq] at H
            obtain ⟨rfl,rfl,rfl,rfl⟩ := H
            go_enter Try.func64,Try.ntmps64
            go_wp2_with (first | ((with_reducible refine gate_dst (N := 2) rfl ?_);refine box_event ?hg (N := 2) ?hd (cs := #[.bool a0_0,.int .u64 a0_1,.int .u64 a0_2]) (t := 28) ?hr ?_;(case hd => rfl);(case hg => rfl);(case hr => exact Z515);intro gb130 hg w40 hbox hb;have n_ := jA (below_step Z486 hb) (jA (hbox) (jA ((Z271 : w.heap.size ≤ gb130)) (Aside0.mk ((Z271 : w.heap.size ≤ gb130)))));clear HB;obtain ⟨HB,BK130,GW130,GE130⟩ := n_;clear hb hbox hg) | ((with_reducible refine gate_dst (N := 4) rfl ?_);refine box_event ?hg (N := 4) ?hd (cs := #[.bool false,.int .u64 0,.int .u64 0]) (t := 28) ?hr ?_;(case hd => rfl);(case hg => rfl);(case hr => exact Z515);intro gb131 hg w41 hbox hb;have n_ := jA (blk_below (g := gb130) (o := .cells #[.bool a0_0,.int .u64 a0_1,.int .u64 a0_2] 28 (0,0)) Z583 hb) (jA (below_step Z457 hb) (jA (hbox) (jA ((Z184 : w.heap.size ≤ gb131)) (jA ((Z184 : w.heap.size ≤ gb131)) (jA ((Z327 : gb130 ≠ gb131)) (Aside0.mk ((Z328 : gb131 ≠ gb130))))))));clear BK130 HB;obtain ⟨BK130,HB,BK131,GW131,GE131,NB130_131,NB131_130⟩ := n_;clear hb hbox hg;have hnb42 := NB130_131.out;have hnc42 := NB131_130.out;obtain ⟨hcz43_0,hcz43_1,hcz43_2,hfz43_0,hfz43_1,hfz43_2⟩ := spec_ScaleWide.cells3 BK130.out) | ((with_reducible refine gate_callee (f := 65) rfl ?_);refine goesL_ (some 14) rfl rfl Try.func65 Z580 rfl #[.agg #[.bool a0_0,.int .u64 a0_1,.int .u64 a0_2]] rfl Z395 ?_;(with_reducible refine (spec_WideOk.calls a0_0 a0_1 a0_2 true _ A3.out).mono ?_);rintro e w44 ⟨rfl,hb⟩;refine ⟨_,rfl,?_⟩;have n_ := jA (blk_below (g := gb130) (o := .cells #[.bool a0_0,.int .u64 a0_1,.int .u64 a0_2] 28 (0,0)) Z583 hb) (jA (blk_below (g := gb131) (o := .cells #[.bool false,.int .u64 0,.int .u64 0] 28 (0,0)) Z584 hb) (Aside0.mk (below_step Z429 hb)));clear BK130 BK131 HB;obtain ⟨BK130,BK131,HB⟩ := n_;(try clear hb);(try clear hb2);(try clear hk);(try clear hi)) | ((with_reducible refine gate_callee (f := 80) rfl ?_);refine goesL_ (some 18) rfl rfl Try.func80 Z580 rfl #[.int .i64 a1] rfl Z395 ?_;(with_reducible refine (spec_l3Abs.calls a1 t133 _ A5.out).mono ?_);rintro e w' ⟨rfl,⟨nd,rfl⟩⟩;refine ⟨_,rfl,?_⟩;(iterate 4 (try (rw [drewN_self w44];generalize hq_ : World.drewN w44 _ = w44;have n0_ : Aside0 (w44.heap[gb130]? = some (.cells #[.bool a0_0,.int .u64 a0_1,.int .u64 a0_2] 28 (0,0))) := ⟨Z493⟩;have n1_ : Aside0 (w44.heap[gb131]? = some (.cells #[.bool false,.int .u64 0,.int .u64 0] 28 (0,0))) := ⟨Z492⟩;have n2_ : Aside0 (Below w.heap.size w w44) := ⟨Z129⟩;clear BK130 BK131 HB hq_;have BK130 := n0_;have BK131 := n1_;have HB := n2_;clear n0_ n1_ n2_)));obtain ⟨hcz45_0,hcz45_1,hcz45_2,hfz45_0,hfz45_1,hfz45_2⟩ := spec_ScaleWide.cells3 BK130.out) | ((with_reducible refine gate_callee (f := 79) rfl ?_);refine goesL_ (some 23) rfl rfl Try.func79 Z580 rfl #[.int .u64 a0_1,.int .u64 t133] rfl Z395 ?_;(with_reducible refine (spec_l3Product.calls a0_1 t133 t134 t135 _ A6.out).mono ?_);rintro e w' ⟨rfl,⟨nd,rfl⟩⟩;refine ⟨_,rfl,?_⟩;(iterate 4 (try (rw [drewN_self w44];generalize hq_ : World.drewN w44 _ = w44;have n0_ : Aside0 (w44.heap[gb130]? = some (.cells #[.bool a0_0,.int .u64 a0_1,.int .u64 a0_2] 28 (0,0))) := ⟨Z493⟩;have n1_ : Aside0 (w44.heap[gb131]? = some (.cells #[.bool false,.int .u64 0,.int .u64 0] 28 (0,0))) := ⟨Z492⟩;have n2_ : Aside0 (Below w.heap.size w w44) := ⟨Z129⟩;clear BK130 BK131 HB hq_;have BK130 := n0_;have BK131 := n1_;have HB := n2_;clear n0_ n1_ n2_)));(try (obtain ⟨hcz45_0,hcz45_1,hcz45_2,hfz45_0,hfz45_1,hfz45_2⟩ := spec_ScaleWide.cells3 BK130.out))) | ((with_reducible refine gate_callee (f := 79) rfl ?_);refine goesL_ (some 30) rfl rfl Try.func79 Z580 rfl #[.int .u64 a0_2,.int .u64 t133] rfl Z395 ?_;(with_reducible refine (spec_l3Product.calls a0_2 t133 t136 t137 _ A7.out).mono ?_);rintro e w' ⟨rfl,⟨nd,rfl⟩⟩;refine ⟨_,rfl,?_⟩;(iterate 4 (try (rw [drewN_self w44];generalize hq_ : World.drewN w44 _ = w44;have n0_ : Aside0 (w44.heap[gb130]? = some (.cells #[.bool a0_0,.int .u64 a0_1,.int .u64 a0_2] 28 (0,0))) := ⟨Z493⟩;have n1_ : Aside0 (w44.heap[gb131]? = some (.cells #[.bool false,.int .u64 0,.int .u64 0] 28 (0,0))) := ⟨Z492⟩;have n2_ : Aside0 (Below w.heap.size w w44) := ⟨Z129⟩;clear BK130 BK131 HB hq_;have BK130 := n0_;have BK131 := n1_;have HB := n2_;clear n0_ n1_ n2_)));(try (obtain ⟨hcz45_0,hcz45_1,hcz45_2,hfz45_0,hfz45_1,hfz45_2⟩ := spec_ScaleWide.cells3 BK130.out))) | ((with_reducible refine gate_dst (N := 12) rfl ?_);refine box_event ?hg (N := 12) ?hd (cs := #[.bool false,.int .u64 0,.int .u64 0]) (t := 28) ?hr ?_;(case hd => rfl);(case hg => rfl);(case hr => exact Z515);intro gb138 hg w46 hbox hb;have n_ := jA (blk_below (g := gb130) (o := .cells #[.bool a0_0,.int .u64 a0_1,.int .u64 a0_2] 28 (0,0)) Z583 hb) (jA (blk_below (g := gb131) (o := .cells #[.bool false,.int .u64 0,.int .u64 0] 28 (0,0)) Z584 hb) (jA (below_step Z429 hb) (jA (hbox) (jA ((Z109 : w.heap.size ≤ gb138)) (jA ((Z109 : w.heap.size ≤ gb138)) (jA ((Z327 : gb130 ≠ gb138)) (jA ((Z328 : gb138 ≠ gb130)) (jA ((Z355 : gb131 ≠ gb138)) (Aside0.mk ((Z356 : gb138 ≠ gb131)))))))))));clear BK130 BK131 HB;obtain ⟨BK130,BK131,HB,BK138,GW138,GE138,NB130_138,NB138_130,NB131_138,NB138_131⟩ := n_;clear hb hbox hg;have hnb47 := NB138_130.out;have hnc47 := NB130_138.out;have hnb48 := NB138_131.out;have hnc48 := NB131_138.out;obtain ⟨hcz49_0,hcz49_1,hcz49_2,hfz49_0,hfz49_1,hfz49_2⟩ := spec_ScaleWide.cells3 BK138.out) | ((with_reducible refine gate_callee (f := 67) rfl ?_);refine goesL_ (some 45) rfl rfl Try.func67 Z580 rfl #[.agg #[.bool (a0_0 != (decide (a1 < 0))),.int .u64 (IntKind.u64.wrap (t135 + t136)),.int .u64 t137]] rfl Z395 ?_;(with_reducible refine (spec_l3Zero.calls (a0_0 != (decide (a1 < 0))) (IntKind.u64.wrap (t135 + t136)) t137 true _ A8.out).mono ?_);rintro e w50 ⟨rfl,hb⟩;refine ⟨_,rfl,?_⟩;have n_ := jA (blk_below (g := gb130) (o := .cells #[.bool a0_0,.int .u64 a0_1,.int .u64 a0_2] 28 (0,0)) Z231 hb) (jA (blk_below (g := gb131) (o := .cells #[.bool false,.int .u64 0,.int .u64 0] 28 (0,0)) Z230 hb) (jA (blk_below (g := gb138) (o := .cells #[.bool (a0_0 != (decide (a1 < 0))),.int .u64 (IntKind.u64.wrap (t135 + t136)),.int .u64 t137] 28 (0,0)) Z30 hb) (Aside0.mk (below_step Z108 hb))));clear BK130 BK131 BK138 HB;obtain ⟨BK130,BK131,BK138,HB⟩ := n_;(try clear hb);(try clear hb2);(try clear hk);(try clear hi);obtain ⟨hcz51_0,hcz51_1,hcz51_2,hfz51_0,hfz51_1,hfz51_2⟩ := spec_ScaleWide.cells3 BK138.out) | (go_at_call 65;(with_reducible refine (spec_WideOk.calls false (IntKind.u64.wrap (t135 + t136)) t137 true _ A38.out).mono ?_);rintro e w52 ⟨rfl,hb⟩;have n_ := jA (blk_below (g := gb130) (o := .cells #[.bool a0_0,.int .u64 a0_1,.int .u64 a0_2] 28 (0,0)) Z489 hb) (jA (blk_below (g := gb131) (o := .cells #[.bool false,.int .u64 0,.int .u64 0] 28 (0,0)) Z488 hb) (jA (blk_below (g := gb138) (o := .cells #[.bool false,.int .u64 (IntKind.u64.wrap (t135 + t136)),.int .u64 t137] 28 (0,0)) Z229 hb) (Aside0.mk (below_step Z108 hb))));clear BK130 BK131 BK138 HB;obtain ⟨BK130,BK131,BK138,HB⟩ := n_;(try clear hb);(try clear hb2);(try clear hk);(try clear hi);obtain ⟨hcz53_0,hcz53_1,hcz53_2,hfz53_0,hfz53_1,hfz53_2⟩ := spec_ScaleWide.cells3 BK138.out;obtain ⟨hcz54_0,hcz54_1,hcz54_2,hfz54_0,hfz54_1,hfz54_2⟩ := spec_ScaleWide.cells3 BK131.out))
            refine bodyPost_ret (results_ct rfl _ _ gb131 28 #[.bool false,.int .u64 (IntKind.u64.wrap (t135 + t136)),.int .u64 t137] (0,0) _ rfl (by refine bP ?_;refine blk_put (cs := #[.bool false,.int .u64 (IntKind.u64.wrap (t135 + t136)),.int .u64 0]) ?_ 2 _ rfl;refine bP ?_;refine blk_put (cs := #[.bool false,.int .u64 0,.int .u64 0]) ?_ 1 _ rfl;refine bP ?_;refine blk_put (cs := #[.bool false,.int .u64 0,.int .u64 0]) ?_ 0 _ rfl;refine bP ?_;exact BK131.out) Try.underlying28 rfl Z580) rfl ?_
            exact ⟨Z400,Z108⟩
          · replace c39 := Bool.eq_false_iff.mpr c39
            subst c39
            have H1 : (some (false,0,0,false)) = some (r1,r2,r3,r4) := by rw [if_neg (show ¬ (false = true) by decide)] at H;exact H
            clear H
            have H := H1
            clear H1
            simp only [Option.some.injEq,Prod.mk.injEq] at H
            obtain ⟨rfl,rfl,rfl,rfl⟩ := H
            go_enter Try.func64,Try.ntmps64
            go_wp2_with (first | ((with_reducible refine gate_dst (N := 2) rfl ?_);refine box_event ?hg (N := 2) ?hd (cs := #[.bool a0_0,.int .u64 a0_1,.int .u64 a0_2]) (t := 28) ?hr ?_;(case hd => rfl);(case hg => rfl);(case hr => exact Z515);intro gb130 hg w55 hbox hb;have n_ := jA (below_step Z486 hb) (jA (hbox) (jA ((Z271 : w.heap.size ≤ gb130)) (Aside0.mk ((Z271 : w.heap.size ≤ gb130)))));clear HB;obtain ⟨HB,BK130,GW130,GE130⟩ := n_;clear hb hbox hg) | ((with_reducible refine gate_dst (N := 4) rfl ?_);refine box_event ?hg (N := 4) ?hd (cs := #[.bool false,.int .u64 0,.int .u64 0]) (t := 28) ?hr ?_;(case hd => rfl);(case hg => rfl);(case hr => exact Z515);intro gb131 hg w56 hbox hb;have n_ := jA (blk_below (g := gb130) (o := .cells #[.bool a0_0,.int .u64 a0_1,.int .u64 a0_2] 28 (0,0)) Z583 hb) (jA (below_step Z457 hb) (jA (hbox) (jA ((Z184 : w.heap.size ≤ gb131)) (jA ((Z184 : w.heap.size ≤ gb131)) (jA ((Z327 : gb130 ≠ gb131)) (Aside0.mk ((Z328 : gb131 ≠ gb130))))))));clear BK130 HB;obtain ⟨BK130,HB,BK131,GW131,GE131,NB130_131,NB131_130⟩ := n_;clear hb hbox hg;have hnb57 := NB130_131.out;have hnc57 := NB131_130.out;obtain ⟨hcz58_0,hcz58_1,hcz58_2,hfz58_0,hfz58_1,hfz58_2⟩ := spec_ScaleWide.cells3 BK130.out) | ((with_reducible refine gate_callee (f := 65) rfl ?_);refine goesL_ (some 14) rfl rfl Try.func65 Z580 rfl #[.agg #[.bool a0_0,.int .u64 a0_1,.int .u64 a0_2]] rfl Z395 ?_;(with_reducible refine (spec_WideOk.calls a0_0 a0_1 a0_2 true _ A3.out).mono ?_);rintro e w59 ⟨rfl,hb⟩;refine ⟨_,rfl,?_⟩;have n_ := jA (blk_below (g := gb130) (o := .cells #[.bool a0_0,.int .u64 a0_1,.int .u64 a0_2] 28 (0,0)) Z583 hb) (jA (blk_below (g := gb131) (o := .cells #[.bool false,.int .u64 0,.int .u64 0] 28 (0,0)) Z584 hb) (Aside0.mk (below_step Z429 hb)));clear BK130 BK131 HB;obtain ⟨BK130,BK131,HB⟩ := n_;(try clear hb);(try clear hb2);(try clear hk);(try clear hi)) | ((with_reducible refine gate_callee (f := 80) rfl ?_);refine goesL_ (some 18) rfl rfl Try.func80 Z580 rfl #[.int .i64 a1] rfl Z395 ?_;(with_reducible refine (spec_l3Abs.calls a1 t133 _ A5.out).mono ?_);rintro e w' ⟨rfl,⟨nd,rfl⟩⟩;refine ⟨_,rfl,?_⟩;(iterate 4 (try (rw [drewN_self w59];generalize hq_ : World.drewN w59 _ = w59;have n0_ : Aside0 (w59.heap[gb130]? = some (.cells #[.bool a0_0,.int .u64 a0_1,.int .u64 a0_2] 28 (0,0))) := ⟨Z493⟩;have n1_ : Aside0 (w59.heap[gb131]? = some (.cells #[.bool false,.int .u64 0,.int .u64 0] 28 (0,0))) := ⟨Z492⟩;have n2_ : Aside0 (Below w.heap.size w w59) := ⟨Z129⟩;clear BK130 BK131 HB hq_;have BK130 := n0_;have BK131 := n1_;have HB := n2_;clear n0_ n1_ n2_)));obtain ⟨hcz60_0,hcz60_1,hcz60_2,hfz60_0,hfz60_1,hfz60_2⟩ := spec_ScaleWide.cells3 BK130.out) | ((with_reducible refine gate_callee (f := 79) rfl ?_);refine goesL_ (some 23) rfl rfl Try.func79 Z580 rfl #[.int .u64 a0_1,.int .u64 t133] rfl Z395 ?_;(with_reducible refine (spec_l3Product.calls a0_1 t133 t134 t135 _ A6.out).mono ?_);rintro e w' ⟨rfl,⟨nd,rfl⟩⟩;refine ⟨_,rfl,?_⟩;(iterate 4 (try (rw [drewN_self w59];generalize hq_ : World.drewN w59 _ = w59;have n0_ : Aside0 (w59.heap[gb130]? = some (.cells #[.bool a0_0,.int .u64 a0_1,.int .u64 a0_2] 28 (0,0))) := ⟨Z493⟩;have n1_ : Aside0 (w59.heap[gb131]? = some (.cells #[.bool false,.int .u64 0,.int .u64 0] 28 (0,0))) := ⟨Z492⟩;have n2_ : Aside0 (Below w.heap.size w w59) := ⟨Z129⟩;clear BK130 BK131 HB hq_;have BK130 := n0_;have BK131 := n1_;have HB := n2_;clear n0_ n1_ n2_)));(try (obtain ⟨hcz60_0,hcz60_1,hcz60_2,hfz60_0,hfz60_1,hfz60_2⟩ := spec_ScaleWide.cells3 BK130.out))) | ((with_reducible refine gate_callee (f := 79) rfl ?_);refine goesL_ (some 30) rfl rfl Try.func79 Z580 rfl #[.int .u64 a0_2,.int .u64 t133] rfl Z395 ?_;(with_reducible refine (spec_l3Product.calls a0_2 t133 t136 t137 _ A7.out).mono ?_);rintro e w' ⟨rfl,⟨nd,rfl⟩⟩;refine ⟨_,rfl,?_⟩;(iterate 4 (try (rw [drewN_self w59];generalize hq_ : World.drewN w59 _ = w59;have n0_ : Aside0 (w59.heap[gb130]? = some (.cells #[.bool a0_0,.int .u64 a0_1,.int .u64 a0_2] 28 (0,0))) := ⟨Z493⟩;have n1_ : Aside0 (w59.heap[gb131]? = some (.cells #[.bool false,.int .u64 0,.int .u64 0] 28 (0,0))) := ⟨Z492⟩;have n2_ : Aside0 (Below w.heap.size w w59) := ⟨Z129⟩;clear BK130 BK131 HB hq_;have BK130 := n0_;have BK131 := n1_;have HB := n2_;clear n0_ n1_ n2_)));(try (obtain ⟨hcz60_0,hcz60_1,hcz60_2,hfz60_0,hfz60_1,hfz60_2⟩ := spec_ScaleWide.cells3 BK130.out))) | ((with_reducible refine gate_dst (N := 12) rfl ?_);refine box_event ?hg (N := 12) ?hd (cs := #[.bool false,.int .u64 0,.int .u64 0]) (t := 28) ?hr ?_;(case hd => rfl);(case hg => rfl);(case hr => exact Z515);intro gb138 hg w61 hbox hb;have n_ := jA (blk_below (g := gb130) (o := .cells #[.bool a0_0,.int .u64 a0_1,.int .u64 a0_2] 28 (0,0)) Z583 hb) (jA (blk_below (g := gb131) (o := .cells #[.bool false,.int .u64 0,.int .u64 0] 28 (0,0)) Z584 hb) (jA (below_step Z429 hb) (jA (hbox) (jA ((Z109 : w.heap.size ≤ gb138)) (jA ((Z109 : w.heap.size ≤ gb138)) (jA ((Z327 : gb130 ≠ gb138)) (jA ((Z328 : gb138 ≠ gb130)) (jA ((Z355 : gb131 ≠ gb138)) (Aside0.mk ((Z356 : gb138 ≠ gb131)))))))))));clear BK130 BK131 HB;obtain ⟨BK130,BK131,HB,BK138,GW138,GE138,NB130_138,NB138_130,NB131_138,NB138_131⟩ := n_;clear hb hbox hg;have hnb62 := NB138_130.out;have hnc62 := NB130_138.out;have hnb63 := NB138_131.out;have hnc63 := NB131_138.out;obtain ⟨hcz64_0,hcz64_1,hcz64_2,hfz64_0,hfz64_1,hfz64_2⟩ := spec_ScaleWide.cells3 BK138.out) | ((with_reducible refine gate_callee (f := 67) rfl ?_);refine goesL_ (some 45) rfl rfl Try.func67 Z580 rfl #[.agg #[.bool (a0_0 != (decide (a1 < 0))),.int .u64 (IntKind.u64.wrap (t135 + t136)),.int .u64 t137]] rfl Z395 ?_;(with_reducible refine (spec_l3Zero.calls (a0_0 != (decide (a1 < 0))) (IntKind.u64.wrap (t135 + t136)) t137 true _ A8.out).mono ?_);rintro e w65 ⟨rfl,hb⟩;refine ⟨_,rfl,?_⟩;have n_ := jA (blk_below (g := gb130) (o := .cells #[.bool a0_0,.int .u64 a0_1,.int .u64 a0_2] 28 (0,0)) Z231 hb) (jA (blk_below (g := gb131) (o := .cells #[.bool false,.int .u64 0,.int .u64 0] 28 (0,0)) Z230 hb) (jA (blk_below (g := gb138) (o := .cells #[.bool (a0_0 != (decide (a1 < 0))),.int .u64 (IntKind.u64.wrap (t135 + t136)),.int .u64 t137] 28 (0,0)) Z30 hb) (Aside0.mk (below_step Z108 hb))));clear BK130 BK131 BK138 HB;obtain ⟨BK130,BK131,BK138,HB⟩ := n_;(try clear hb);(try clear hb2);(try clear hk);(try clear hi);obtain ⟨hcz66_0,hcz66_1,hcz66_2,hfz66_0,hfz66_1,hfz66_2⟩ := spec_ScaleWide.cells3 BK138.out) | (go_at_call 65;(with_reducible refine (spec_WideOk.calls false (IntKind.u64.wrap (t135 + t136)) t137 false _ A38.out).mono ?_);rintro e w67 ⟨rfl,hb⟩;have n_ := jA (blk_below (g := gb130) (o := .cells #[.bool a0_0,.int .u64 a0_1,.int .u64 a0_2] 28 (0,0)) Z489 hb) (jA (blk_below (g := gb131) (o := .cells #[.bool false,.int .u64 0,.int .u64 0] 28 (0,0)) Z488 hb) (jA (blk_below (g := gb138) (o := .cells #[.bool false,.int .u64 (IntKind.u64.wrap (t135 + t136)),.int .u64 t137] 28 (0,0)) Z229 hb) (Aside0.mk (below_step Z108 hb))));clear BK130 BK131 BK138 HB;obtain ⟨BK130,BK131,BK138,HB⟩ := n_;(try clear hb);(try clear hb2);(try clear hk);(try clear hi);obtain ⟨hcz68_0,hcz68_1,hcz68_2,hfz68_0,hfz68_1,hfz68_2⟩ := spec_ScaleWide.cells3 BK131.out))
            refine bodyPost_ret (results_ct rfl _ _ gb131 28 #[.bool false,.int .u64 0,.int .u64 0] (0,0) _ rfl Z77 Try.underlying28 rfl Z580) rfl ?_
            exact ⟨Z400,Z108⟩
    · replace c9 := Bool.eq_false_iff.mpr c9
      subst c9
      have H1 : (if t134 > 0 then (some (false,0,0,false)) else (if (IntKind.u64.wrap (t135 + t136)) < t135 then (some (false,0,0,false)) else ((spec_WideOk.f (a0_0 != (decide (a1 < 0))) (IntKind.u64.wrap (t135 + t136)) t137).bind fun t141 => (if t141 = true then (some ((a0_0 != (decide (a1 < 0))),IntKind.u64.wrap (t135 + t136),t137,true)) else (some (false,0,0,false)))))) = some (r1,r2,r3,r4) := by rw [if_neg (show ¬ (false = true) by decide)] at H;exact H
      clear H
      have H := H1
      clear H1
      by_cases c69 : t134 > 0
      · rw [if_pos c69] at H
        have c69b0 : decide (0 < t134) = true := decide_eq_true c69
        clear c69
        simp only [Option.some.injEq,Prod.mk.injEq] at H
        obtain ⟨rfl,rfl,rfl,rfl⟩ := H
        go_enter Try.func64,Try.ntmps64
        go_wp2_with (first | ((with_reducible refine gate_dst (N := 2) rfl ?_);refine box_event ?hg (N := 2) ?hd (cs := #[.bool a0_0,.int .u64 a0_1,.int .u64 a0_2]) (t := 28) ?hr ?_;(case hd => rfl);(case hg => rfl);(case hr => exact Z515);intro gb130 hg w70 hbox hb;have n_ := jA (below_step Z486 hb) (jA (hbox) (jA ((Z271 : w.heap.size ≤ gb130)) (Aside0.mk ((Z271 : w.heap.size ≤ gb130)))));clear HB;obtain ⟨HB,BK130,GW130,GE130⟩ := n_;clear hb hbox hg) | ((with_reducible refine gate_dst (N := 4) rfl ?_);refine box_event ?hg (N := 4) ?hd (cs := #[.bool false,.int .u64 0,.int .u64 0]) (t := 28) ?hr ?_;(case hd => rfl);(case hg => rfl);(case hr => exact Z515);intro gb131 hg w71 hbox hb;have n_ := jA (blk_below (g := gb130) (o := .cells #[.bool a0_0,.int .u64 a0_1,.int .u64 a0_2] 28 (0,0)) Z583 hb) (jA (below_step Z457 hb) (jA (hbox) (jA ((Z184 : w.heap.size ≤ gb131)) (jA ((Z184 : w.heap.size ≤ gb131)) (jA ((Z327 : gb130 ≠ gb131)) (Aside0.mk ((Z328 : gb131 ≠ gb130))))))));clear BK130 HB;obtain ⟨BK130,HB,BK131,GW131,GE131,NB130_131,NB131_130⟩ := n_;clear hb hbox hg;have hnb72 := NB130_131.out;have hnc72 := NB131_130.out;obtain ⟨hcz73_0,hcz73_1,hcz73_2,hfz73_0,hfz73_1,hfz73_2⟩ := spec_ScaleWide.cells3 BK130.out) | ((with_reducible refine gate_callee (f := 65) rfl ?_);refine goesL_ (some 14) rfl rfl Try.func65 Z580 rfl #[.agg #[.bool a0_0,.int .u64 a0_1,.int .u64 a0_2]] rfl Z395 ?_;(with_reducible refine (spec_WideOk.calls a0_0 a0_1 a0_2 true _ A3.out).mono ?_);rintro e w74 ⟨rfl,hb⟩;refine ⟨_,rfl,?_⟩;have n_ := jA (blk_below (g := gb130) (o := .cells #[.bool a0_0,.int .u64 a0_1,.int .u64 a0_2] 28 (0,0)) Z583 hb) (jA (blk_below (g := gb131) (o := .cells #[.bool false,.int .u64 0,.int .u64 0] 28 (0,0)) Z584 hb) (Aside0.mk (below_step Z429 hb)));clear BK130 BK131 HB;obtain ⟨BK130,BK131,HB⟩ := n_;(try clear hb);(try clear hb2);(try clear hk);(try clear hi)) | ((with_reducible refine gate_callee (f := 80) rfl ?_);refine goesL_ (some 18) rfl rfl Try.func80 Z580 rfl #[.int .i64 a1] rfl Z395 ?_;(with_reducible refine (spec_l3Abs.calls a1 t133 _ A5.out).mono ?_);rintro e w' ⟨rfl,⟨nd,rfl⟩⟩;refine ⟨_,rfl,?_⟩;(iterate 4 (try (rw [drewN_self w74];generalize hq_ : World.drewN w74 _ = w74;have n0_ : Aside0 (w74.heap[gb130]? = some (.cells #[.bool a0_0,.int .u64 a0_1,.int .u64 a0_2] 28 (0,0))) := ⟨Z493⟩;have n1_ : Aside0 (w74.heap[gb131]? = some (.cells #[.bool false,.int .u64 0,.int .u64 0] 28 (0,0))) := ⟨Z492⟩;have n2_ : Aside0 (Below w.heap.size w w74) := ⟨Z129⟩;clear BK130 BK131 HB hq_;have BK130 := n0_;have BK131 := n1_;have HB := n2_;clear n0_ n1_ n2_)));obtain ⟨hcz75_0,hcz75_1,hcz75_2,hfz75_0,hfz75_1,hfz75_2⟩ := spec_ScaleWide.cells3 BK130.out) | ((with_reducible refine gate_callee (f := 79) rfl ?_);refine goesL_ (some 23) rfl rfl Try.func79 Z580 rfl #[.int .u64 a0_1,.int .u64 t133] rfl Z395 ?_;(with_reducible refine (spec_l3Product.calls a0_1 t133 t134 t135 _ A6.out).mono ?_);rintro e w' ⟨rfl,⟨nd,rfl⟩⟩;refine ⟨_,rfl,?_⟩;(iterate 4 (try (rw [drewN_self w74];generalize hq_ : World.drewN w74 _ = w74;have n0_ : Aside0 (w74.heap[gb130]? = some (.cells #[.bool a0_0,.int .u64 a0_1,.int .u64 a0_2] 28 (0,0))) := ⟨Z493⟩;have n1_ : Aside0 (w74.heap[gb131]? = some (.cells #[.bool false,.int .u64 0,.int .u64 0] 28 (0,0))) := ⟨Z492⟩;have n2_ : Aside0 (Below w.heap.size w w74) := ⟨Z129⟩;clear BK130 BK131 HB hq_;have BK130 := n0_;have BK131 := n1_;have HB := n2_;clear n0_ n1_ n2_)));(try (obtain ⟨hcz75_0,hcz75_1,hcz75_2,hfz75_0,hfz75_1,hfz75_2⟩ := spec_ScaleWide.cells3 BK130.out))) | ((with_reducible refine gate_callee (f := 79) rfl ?_);refine goesL_ (some 30) rfl rfl Try.func79 Z580 rfl #[.int .u64 a0_2,.int .u64 t133] rfl Z395 ?_;(with_reducible refine (spec_l3Product.calls a0_2 t133 t136 t137 _ A7.out).mono ?_);rintro e w' ⟨rfl,⟨nd,rfl⟩⟩;refine ⟨_,rfl,?_⟩;(iterate 4 (try (rw [drewN_self w74];generalize hq_ : World.drewN w74 _ = w74;have n0_ : Aside0 (w74.heap[gb130]? = some (.cells #[.bool a0_0,.int .u64 a0_1,.int .u64 a0_2] 28 (0,0))) := ⟨Z493⟩;have n1_ : Aside0 (w74.heap[gb131]? = some (.cells #[.bool false,.int .u64 0,.int .u64 0] 28 (0,0))) := ⟨Z492⟩;have n2_ : Aside0 (Below w.heap.size w w74) := ⟨Z129⟩;clear BK130 BK131 HB hq_;have BK130 := n0_;have BK131 := n1_;have HB := n2_;clear n0_ n1_ n2_)));(try (obtain ⟨hcz75_0,hcz75_1,hcz75_2,hfz75_0,hfz75_1,hfz75_2⟩ := spec_ScaleWide.cells3 BK130.out))) | ((with_reducible refine gate_dst (N := 12) rfl ?_);refine box_event ?hg (N := 12) ?hd (cs := #[.bool false,.int .u64 0,.int .u64 0]) (t := 28) ?hr ?_;(case hd => rfl);(case hg => rfl);(case hr => exact Z515);intro gb138 hg w76 hbox hb;have n_ := jA (blk_below (g := gb130) (o := .cells #[.bool a0_0,.int .u64 a0_1,.int .u64 a0_2] 28 (0,0)) Z583 hb) (jA (blk_below (g := gb131) (o := .cells #[.bool false,.int .u64 0,.int .u64 0] 28 (0,0)) Z584 hb) (jA (below_step Z429 hb) (jA (hbox) (jA ((Z109 : w.heap.size ≤ gb138)) (jA ((Z109 : w.heap.size ≤ gb138)) (jA ((Z327 : gb130 ≠ gb138)) (jA ((Z328 : gb138 ≠ gb130)) (jA ((Z355 : gb131 ≠ gb138)) (Aside0.mk ((Z356 : gb138 ≠ gb131)))))))))));clear BK130 BK131 HB;obtain ⟨BK130,BK131,HB,BK138,GW138,GE138,NB130_138,NB138_130,NB131_138,NB138_131⟩ := n_;clear hb hbox hg;have hnb77 := NB138_130.out;have hnc77 := NB130_138.out;have hnb78 := NB138_131.out;have hnc78 := NB131_138.out;obtain ⟨hcz79_0,hcz79_1,hcz79_2,hfz79_0,hfz79_1,hfz79_2⟩ := spec_ScaleWide.cells3 BK138.out) | ((with_reducible refine gate_callee (f := 67) rfl ?_);refine goesL_ (some 45) rfl rfl Try.func67 Z580 rfl #[.agg #[.bool (a0_0 != (decide (a1 < 0))),.int .u64 (IntKind.u64.wrap (t135 + t136)),.int .u64 t137]] rfl Z395 ?_;(with_reducible refine (spec_l3Zero.calls (a0_0 != (decide (a1 < 0))) (IntKind.u64.wrap (t135 + t136)) t137 false _ A8.out).mono ?_);rintro e w80 ⟨rfl,hb⟩;refine ⟨_,rfl,?_⟩;have n_ := jA (blk_below (g := gb130) (o := .cells #[.bool a0_0,.int .u64 a0_1,.int .u64 a0_2] 28 (0,0)) Z231 hb) (jA (blk_below (g := gb131) (o := .cells #[.bool false,.int .u64 0,.int .u64 0] 28 (0,0)) Z230 hb) (jA (blk_below (g := gb138) (o := .cells #[.bool (a0_0 != (decide (a1 < 0))),.int .u64 (IntKind.u64.wrap (t135 + t136)),.int .u64 t137] 28 (0,0)) Z30 hb) (Aside0.mk (below_step Z108 hb))));clear BK130 BK131 BK138 HB;obtain ⟨BK130,BK131,BK138,HB⟩ := n_;(try clear hb);(try clear hb2);(try clear hk);(try clear hi);obtain ⟨hcz81_0,hcz81_1,hcz81_2,hfz81_0,hfz81_1,hfz81_2⟩ := spec_ScaleWide.cells3 BK131.out))
        refine bodyPost_ret (results_ct rfl _ _ gb131 28 #[.bool false,.int .u64 0,.int .u64 0] (0,0) _ rfl Z77 Try.underlying28 rfl Z580) rfl ?_
        exact ⟨Z400,Z108⟩
      · rw [if_neg c69] at H
        have c69b0 : decide (0 < t134) = false := decide_eq_false c69
        clear c69
        by_cases c82 : (IntKind.u64.wrap (t135 + t136)) < t135
        · rw [if_pos c82] at H
          have c82b0 : decide ((IntKind.u64.wrap (t135 + t136)) < t135) = true := decide_eq_true c82
          clear c82
          simp only [Option.some.injEq,Prod.mk.injEq] at H
          obtain ⟨rfl,rfl,rfl,rfl⟩ := H
          go_enter Try.func64,Try.ntmps64
          go_wp2_with (first | ((with_reducible refine gate_dst (N := 2) rfl ?_);refine box_event ?hg (N := 2) ?hd (cs := #[.bool a0_0,.int .u64 a0_1,.int .u64 a0_2]) (t := 28) ?hr ?_;(case hd => rfl);(case hg => rfl);(case hr => exact Z515);intro gb130 hg w83 hbox hb;have n_ := jA (below_step Z486 hb) (jA (hbox) (jA ((Z271 : w.heap.size ≤ gb130)) (Aside0.mk ((Z271 : w.heap.size ≤ gb130)))));clear HB;obtain ⟨HB,BK130,GW130,GE130⟩ := n_;clear hb hbox hg) | ((with_reducible refine gate_dst (N := 4) rfl ?_);refine box_event ?hg (N := 4) ?hd (cs := #[.bool false,.int .u64 0,.int .u64 0]) (t := 28) ?hr ?_;(case hd => rfl);(case hg => rfl);(case hr => exact Z515);intro gb131 hg w84 hbox hb;have n_ := jA (blk_below (g := gb130) (o := .cells #[.bool a0_0,.int .u64 a0_1,.int .u64 a0_2] 28 (0,0)) Z583 hb) (jA (below_step Z457 hb) (jA (hbox) (jA ((Z184 : w.heap.size ≤ gb131)) (jA ((Z184 : w.heap.size ≤ gb131)) (jA ((Z327 : gb130 ≠ gb131)) (Aside0.mk ((Z328 : gb131 ≠ gb130))))))));clear BK130 HB;obtain ⟨BK130,HB,BK131,GW131,GE131,NB130_131,NB131_130⟩ := n_;clear hb hbox hg;have hnb85 := NB130_131.out;have hnc85 := NB131_130.out;obtain ⟨hcz86_0,hcz86_1,hcz86_2,hfz86_0,hfz86_1,hfz86_2⟩ := spec_ScaleWide.cells3 BK130.out) | ((with_reducible refine gate_callee (f := 65) rfl ?_);refine goesL_ (some 14) rfl rfl Try.func65 Z580 rfl #[.agg #[.bool a0_0,.int .u64 a0_1,.int .u64 a0_2]] rfl Z395 ?_;(with_reducible refine (spec_WideOk.calls a0_0 a0_1 a0_2 true _ A3.out).mono ?_);rintro e w87 ⟨rfl,hb⟩;refine ⟨_,rfl,?_⟩;have n_ := jA (blk_below (g := gb130) (o := .cells #[.bool a0_0,.int .u64 a0_1,.int .u64 a0_2] 28 (0,0)) Z583 hb) (jA (blk_below (g := gb131) (o := .cells #[.bool false,.int .u64 0,.int .u64 0] 28 (0,0)) Z584 hb) (Aside0.mk (below_step Z429 hb)));clear BK130 BK131 HB;obtain ⟨BK130,BK131,HB⟩ := n_;(try clear hb);(try clear hb2);(try clear hk);(try clear hi)) | ((with_reducible refine gate_callee (f := 80) rfl ?_);refine goesL_ (some 18) rfl rfl Try.func80 Z580 rfl #[.int .i64 a1] rfl Z395 ?_;(with_reducible refine (spec_l3Abs.calls a1 t133 _ A5.out).mono ?_);rintro e w' ⟨rfl,⟨nd,rfl⟩⟩;refine ⟨_,rfl,?_⟩;(iterate 4 (try (rw [drewN_self w87];generalize hq_ : World.drewN w87 _ = w87;have n0_ : Aside0 (w87.heap[gb130]? = some (.cells #[.bool a0_0,.int .u64 a0_1,.int .u64 a0_2] 28 (0,0))) := ⟨Z493⟩;have n1_ : Aside0 (w87.heap[gb131]? = some (.cells #[.bool false,.int .u64 0,.int .u64 0] 28 (0,0))) := ⟨Z492⟩;have n2_ : Aside0 (Below w.heap.size w w87) := ⟨Z129⟩;clear BK130 BK131 HB hq_;have BK130 := n0_;have BK131 := n1_;have HB := n2_;clear n0_ n1_ n2_)));obtain ⟨hcz88_0,hcz88_1,hcz88_2,hfz88_0,hfz88_1,hfz88_2⟩ := spec_ScaleWide.cells3 BK130.out) | ((with_reducible refine gate_callee (f := 79) rfl ?_);refine goesL_ (some 23) rfl rfl Try.func79 Z580 rfl #[.int .u64 a0_1,.int .u64 t133] rfl Z395 ?_;(with_reducible refine (spec_l3Product.calls a0_1 t133 t134 t135 _ A6.out).mono ?_);rintro e w' ⟨rfl,⟨nd,rfl⟩⟩;refine ⟨_,rfl,?_⟩;(iterate 4 (try (rw [drewN_self w87];generalize hq_ : World.drewN w87 _ = w87;have n0_ : Aside0 (w87.heap[gb130]? = some (.cells #[.bool a0_0,.int .u64 a0_1,.int .u64 a0_2] 28 (0,0))) := ⟨Z493⟩;have n1_ : Aside0 (w87.heap[gb131]? = some (.cells #[.bool false,.int .u64 0,.int .u64 0] 28 (0,0))) := ⟨Z492⟩;have n2_ : Aside0 (Below w.heap.size w w87) := ⟨Z129⟩;clear BK130 BK131 HB hq_;have BK130 := n0_;have BK131 := n1_;have HB := n2_;clear n0_ n1_ n2_)));(try (obtain ⟨hcz88_0,hcz88_1,hcz88_2,hfz88_0,hfz88_1,hfz88_2⟩ := spec_ScaleWide.cells3 BK130.out))) | ((with_reducible refine gate_callee (f := 79) rfl ?_);refine goesL_ (some 30) rfl rfl Try.func79 Z580 rfl #[.int .u64 a0_2,.int .u64 t133] rfl Z395 ?_;(with_reducible refine (spec_l3Product.calls a0_2 t133 t136 t137 _ A7.out).mono ?_);rintro e w' ⟨rfl,⟨nd,rfl⟩⟩;refine ⟨_,rfl,?_⟩;(iterate 4 (try (rw [drewN_self w87];generalize hq_ : World.drewN w87 _ = w87;have n0_ : Aside0 (w87.heap[gb130]? = some (.cells #[.bool a0_0,.int .u64 a0_1,.int .u64 a0_2] 28 (0,0))) := ⟨Z493⟩;have n1_ : Aside0 (w87.heap[gb131]? = some (.cells #[.bool false,.int .u64 0,.int .u64 0] 28 (0,0))) := ⟨Z492⟩;have n2_ : Aside0 (Below w.heap.size w w87) := ⟨Z129⟩;clear BK130 BK131 HB hq_;have BK130 := n0_;have BK131 := n1_;have HB := n2_;clear n0_ n1_ n2_)));(try (obtain ⟨hcz88_0,hcz88_1,hcz88_2,hfz88_0,hfz88_1,hfz88_2⟩ := spec_ScaleWide.cells3 BK130.out))) | ((with_reducible refine gate_dst (N := 12) rfl ?_);refine box_event ?hg (N := 12) ?hd (cs := #[.bool false,.int .u64 0,.int .u64 0]) (t := 28) ?hr ?_;(case hd => rfl);(case hg => rfl);(case hr => exact Z515);intro gb138 hg w89 hbox hb;have n_ := jA (blk_below (g := gb130) (o := .cells #[.bool a0_0,.int .u64 a0_1,.int .u64 a0_2] 28 (0,0)) Z583 hb) (jA (blk_below (g := gb131) (o := .cells #[.bool false,.int .u64 0,.int .u64 0] 28 (0,0)) Z584 hb) (jA (below_step Z429 hb) (jA (hbox) (jA ((Z109 : w.heap.size ≤ gb138)) (jA ((Z109 : w.heap.size ≤ gb138)) (jA ((Z327 : gb130 ≠ gb138)) (jA ((Z328 : gb138 ≠ gb130)) (jA ((Z355 : gb131 ≠ gb138)) (Aside0.mk ((Z356 : gb138 ≠ gb131)))))))))));clear BK130 BK131 HB;obtain ⟨BK130,BK131,HB,BK138,GW138,GE138,NB130_138,NB138_130,NB131_138,NB138_131⟩ := n_;clear hb hbox hg;have hnb90 := NB138_130.out;have hnc90 := NB130_138.out;have hnb91 := NB138_131.out;have hnc91 := NB131_138.out;obtain ⟨hcz92_0,hcz92_1,hcz92_2,hfz92_0,hfz92_1,hfz92_2⟩ := spec_ScaleWide.cells3 BK138.out) | ((with_reducible refine gate_callee (f := 67) rfl ?_);refine goesL_ (some 45) rfl rfl Try.func67 Z580 rfl #[.agg #[.bool (a0_0 != (decide (a1 < 0))),.int .u64 (IntKind.u64.wrap (t135 + t136)),.int .u64 t137]] rfl Z395 ?_;(with_reducible refine (spec_l3Zero.calls (a0_0 != (decide (a1 < 0))) (IntKind.u64.wrap (t135 + t136)) t137 false _ A8.out).mono ?_);rintro e w93 ⟨rfl,hb⟩;refine ⟨_,rfl,?_⟩;have n_ := jA (blk_below (g := gb130) (o := .cells #[.bool a0_0,.int .u64 a0_1,.int .u64 a0_2] 28 (0,0)) Z231 hb) (jA (blk_below (g := gb131) (o := .cells #[.bool false,.int .u64 0,.int .u64 0] 28 (0,0)) Z230 hb) (jA (blk_below (g := gb138) (o := .cells #[.bool (a0_0 != (decide (a1 < 0))),.int .u64 (IntKind.u64.wrap (t135 + t136)),.int .u64 t137] 28 (0,0)) Z30 hb) (Aside0.mk (below_step Z108 hb))));clear BK130 BK131 BK138 HB;obtain ⟨BK130,BK131,BK138,HB⟩ := n_;(try clear hb);(try clear hb2);(try clear hk);(try clear hi);obtain ⟨hcz94_0,hcz94_1,hcz94_2,hfz94_0,hfz94_1,hfz94_2⟩ := spec_ScaleWide.cells3 BK131.out))
          refine bodyPost_ret (results_ct rfl _ _ gb131 28 #[.bool false,.int .u64 0,.int .u64 0] (0,0) _ rfl Z77 Try.underlying28 rfl Z580) rfl ?_
          exact ⟨Z400,Z108⟩
        · rw [if_neg c82] at H
          have c82b0 : decide ((IntKind.u64.wrap (t135 + t136)) < t135) = false := decide_eq_false c82
          clear c82
          obtain ⟨t141,A950,H⟩ := Option.bind_eq_some_iff.mp H
          have A95 := Aside0.mk A950
          clear A950
          by_cases c96 : t141 = true
          · subst c96
            have H1 : (some ((a0_0 != (decide (a1 < 0))),IntKind.u64.wrap (t135 + t136),t137,true)) = some (r1,r2,r3,r4) := by rw [if_pos rfl] at H;exact H
            clear H
            have H := H1
            clear H1
            simp only [Option.some.injEq,Prod.mk.injEq] at H
            obtain ⟨rfl,rfl,rfl,rfl⟩ := H
            go_enter Try.func64,Try.ntmps64
            go_wp2_with (first | ((with_reducible refine gate_dst (N := 2) rfl ?_);refine box_event ?hg (N := 2) ?hd (cs := #[.bool a0_0,.int .u64 a0_1,.int .u64 a0_2]) (t := 28) ?hr ?_;(case hd => rfl);(case hg => rfl);(case hr => exact Z515);intro gb130 hg w97 hbox hb;have n_ := jA (below_step Z486 hb) (jA (hbox) (jA ((Z271 : w.heap.size ≤ gb130)) (Aside0.mk ((Z271 : w.heap.size ≤ gb130)))));clear HB;obtain ⟨HB,BK130,GW130,GE130⟩ := n_;clear hb hbox hg) | ((with_reducible refine gate_dst (N := 4) rfl ?_);refine box_event ?hg (N := 4) ?hd (cs := #[.bool false,.int .u64 0,.int .u64 0]) (t := 28) ?hr ?_;(case hd => rfl);(case hg => rfl);(case hr => exact Z515);intro gb131 hg w98 hbox hb;have n_ := jA (blk_below (g := gb130) (o := .cells #[.bool a0_0,.int .u64 a0_1,.int .u64 a0_2] 28 (0,0)) Z583 hb) (jA (below_step Z457 hb) (jA (hbox) (jA ((Z184 : w.heap.size ≤ gb131)) (jA ((Z184 : w.heap.size ≤ gb131)) (jA ((Z327 : gb130 ≠ gb131)) (Aside0.mk ((Z328 : gb131 ≠ gb130))))))));clear BK130 HB;obtain ⟨BK130,HB,BK131,GW131,GE131,NB130_131,NB131_130⟩ := n_;clear hb hbox hg;have hnb99 := NB130_131.out;have hnc99 := NB131_130.out;obtain ⟨hcz100_0,hcz100_1,hcz100_2,hfz100_0,hfz100_1,hfz100_2⟩ := spec_ScaleWide.cells3 BK130.out) | ((with_reducible refine gate_callee (f := 65) rfl ?_);refine goesL_ (some 14) rfl rfl Try.func65 Z580 rfl #[.agg #[.bool a0_0,.int .u64 a0_1,.int .u64 a0_2]] rfl Z395 ?_;(with_reducible refine (spec_WideOk.calls a0_0 a0_1 a0_2 true _ A3.out).mono ?_);rintro e w101 ⟨rfl,hb⟩;refine ⟨_,rfl,?_⟩;have n_ := jA (blk_below (g := gb130) (o := .cells #[.bool a0_0,.int .u64 a0_1,.int .u64 a0_2] 28 (0,0)) Z583 hb) (jA (blk_below (g := gb131) (o := .cells #[.bool false,.int .u64 0,.int .u64 0] 28 (0,0)) Z584 hb) (Aside0.mk (below_step Z429 hb)));clear BK130 BK131 HB;obtain ⟨BK130,BK131,HB⟩ := n_;(try clear hb);(try clear hb2);(try clear hk);(try clear hi)) | ((with_reducible refine gate_callee (f := 80) rfl ?_);refine goesL_ (some 18) rfl rfl Try.func80 Z580 rfl #[.int .i64 a1] rfl Z395 ?_;(with_reducible refine (spec_l3Abs.calls a1 t133 _ A5.out).mono ?_);rintro e w' ⟨rfl,⟨nd,rfl⟩⟩;refine ⟨_,rfl,?_⟩;(iterate 4 (try (rw [drewN_self w101];generalize hq_ : World.drewN w101 _ = w101;have n0_ : Aside0 (w101.heap[gb130]? = some (.cells #[.bool a0_0,.int .u64 a0_1,.int .u64 a0_2] 28 (0,0))) := ⟨Z493⟩;have n1_ : Aside0 (w101.heap[gb131]? = some (.cells #[.bool false,.int .u64 0,.int .u64 0] 28 (0,0))) := ⟨Z492⟩;have n2_ : Aside0 (Below w.heap.size w w101) := ⟨Z129⟩;clear BK130 BK131 HB hq_;have BK130 := n0_;have BK131 := n1_;have HB := n2_;clear n0_ n1_ n2_)));obtain ⟨hcz102_0,hcz102_1,hcz102_2,hfz102_0,hfz102_1,hfz102_2⟩ := spec_ScaleWide.cells3 BK130.out) | ((with_reducible refine gate_callee (f := 79) rfl ?_);refine goesL_ (some 23) rfl rfl Try.func79 Z580 rfl #[.int .u64 a0_1,.int .u64 t133] rfl Z395 ?_;(with_reducible refine (spec_l3Product.calls a0_1 t133 t134 t135 _ A6.out).mono ?_);rintro e w' ⟨rfl,⟨nd,rfl⟩⟩;refine ⟨_,rfl,?_⟩;(iterate 4 (try (rw [drewN_self w101];generalize hq_ : World.drewN w101 _ = w101;have n0_ : Aside0 (w101.heap[gb130]? = some (.cells #[.bool a0_0,.int .u64 a0_1,.int .u64 a0_2] 28 (0,0))) := ⟨Z493⟩;have n1_ : Aside0 (w101.heap[gb131]? = some (.cells #[.bool false,.int .u64 0,.int .u64 0] 28 (0,0))) := ⟨Z492⟩;have n2_ : Aside0 (Below w.heap.size w w101) := ⟨Z129⟩;clear BK130 BK131 HB hq_;have BK130 := n0_;have BK131 := n1_;have HB := n2_;clear n0_ n1_ n2_)));(try (obtain ⟨hcz102_0,hcz102_1,hcz102_2,hfz102_0,hfz102_1,hfz102_2⟩ := spec_ScaleWide.cells3 BK130.out))) | ((with_reducible refine gate_callee (f := 79) rfl ?_);refine goesL_ (some 30) rfl rfl Try.func79 Z580 rfl #[.int .u64 a0_2,.int .u64 t133] rfl Z395 ?_;(with_reducible refine (spec_l3Product.calls a0_2 t133 t136 t137 _ A7.out).mono ?_);rintro e w' ⟨rfl,⟨nd,rfl⟩⟩;refine ⟨_,rfl,?_⟩;(iterate 4 (try (rw [drewN_self w101];generalize hq_ : World.drewN w101 _ = w101;have n0_ : Aside0 (w101.heap[gb130]? = some (.cells #[.bool a0_0,.int .u64 a0_1,.int .u64 a0_2] 28 (0,0))) := ⟨Z493⟩;have n1_ : Aside0 (w101.heap[gb131]? = some (.cells #[.bool false,.int .u64 0,.int .u64 0] 28 (0,0))) := ⟨Z492⟩;have n2_ : Aside0 (Below w.heap.size w w101) := ⟨Z129⟩;clear BK130 BK131 HB hq_;have BK130 := n0_;have BK131 := n1_;have HB := n2_;clear n0_ n1_ n2_)));(try (obtain ⟨hcz102_0,hcz102_1,hcz102_2,hfz102_0,hfz102_1,hfz102_2⟩ := spec_ScaleWide.cells3 BK130.out))) | ((with_reducible refine gate_dst (N := 12) rfl ?_);refine box_event ?hg (N := 12) ?hd (cs := #[.bool false,.int .u64 0,.int .u64 0]) (t := 28) ?hr ?_;(case hd => rfl);(case hg => rfl);(case hr => exact Z515);intro gb138 hg w103 hbox hb;have n_ := jA (blk_below (g := gb130) (o := .cells #[.bool a0_0,.int .u64 a0_1,.int .u64 a0_2] 28 (0,0)) Z583 hb) (jA (blk_below (g := gb131) (o := .cells #[.bool false,.int .u64 0,.int .u64 0] 28 (0,0)) Z584 hb) (jA (below_step Z429 hb) (jA (hbox) (jA ((Z109 : w.heap.size ≤ gb138)) (jA ((Z109 : w.heap.size ≤ gb138)) (jA ((Z327 : gb130 ≠ gb138)) (jA ((Z328 : gb138 ≠ gb130)) (jA ((Z355 : gb131 ≠ gb138)) (Aside0.mk ((Z356 : gb138 ≠ gb131)))))))))));clear BK130 BK131 HB;obtain ⟨BK130,BK131,HB,BK138,GW138,GE138,NB130_138,NB138_130,NB131_138,NB138_131⟩ := n_;clear hb hbox hg;have hnb104 := NB138_130.out;have hnc104 := NB130_138.out;have hnb105 := NB138_131.out;have hnc105 := NB131_138.out;obtain ⟨hcz106_0,hcz106_1,hcz106_2,hfz106_0,hfz106_1,hfz106_2⟩ := spec_ScaleWide.cells3 BK138.out) | ((with_reducible refine gate_callee (f := 67) rfl ?_);refine goesL_ (some 45) rfl rfl Try.func67 Z580 rfl #[.agg #[.bool (a0_0 != (decide (a1 < 0))),.int .u64 (IntKind.u64.wrap (t135 + t136)),.int .u64 t137]] rfl Z395 ?_;(with_reducible refine (spec_l3Zero.calls (a0_0 != (decide (a1 < 0))) (IntKind.u64.wrap (t135 + t136)) t137 false _ A8.out).mono ?_);rintro e w107 ⟨rfl,hb⟩;refine ⟨_,rfl,?_⟩;have n_ := jA (blk_below (g := gb130) (o := .cells #[.bool a0_0,.int .u64 a0_1,.int .u64 a0_2] 28 (0,0)) Z231 hb) (jA (blk_below (g := gb131) (o := .cells #[.bool false,.int .u64 0,.int .u64 0] 28 (0,0)) Z230 hb) (jA (blk_below (g := gb138) (o := .cells #[.bool (a0_0 != (decide (a1 < 0))),.int .u64 (IntKind.u64.wrap (t135 + t136)),.int .u64 t137] 28 (0,0)) Z30 hb) (Aside0.mk (below_step Z108 hb))));clear BK130 BK131 BK138 HB;obtain ⟨BK130,BK131,BK138,HB⟩ := n_;(try clear hb);(try clear hb2);(try clear hk);(try clear hi);obtain ⟨hcz108_0,hcz108_1,hcz108_2,hfz108_0,hfz108_1,hfz108_2⟩ := spec_ScaleWide.cells3 BK138.out) | (go_at_call 65;(with_reducible refine (spec_WideOk.calls (a0_0 != (decide (a1 < 0))) (IntKind.u64.wrap (t135 + t136)) t137 true _ A95.out).mono ?_);rintro e w109 ⟨rfl,hb⟩;have n_ := jA (blk_below (g := gb130) (o := .cells #[.bool a0_0,.int .u64 a0_1,.int .u64 a0_2] 28 (0,0)) Z583 hb) (jA (blk_below (g := gb131) (o := .cells #[.bool false,.int .u64 0,.int .u64 0] 28 (0,0)) Z584 hb) (jA (blk_below (g := gb138) (o := .cells #[.bool (a0_0 != (decide (a1 < 0))),.int .u64 (IntKind.u64.wrap (t135 + t136)),.int .u64 t137] 28 (0,0)) (by refine bP ?_;exact BK138.out) hb) (Aside0.mk (below_step Z108 hb))));clear BK130 BK131 BK138 HB;obtain ⟨BK130,BK131,BK138,HB⟩ := n_;(try clear hb);(try clear hb2);(try clear hk);(try clear hi);obtain ⟨hcz110_0,hcz110_1,hcz110_2,hfz110_0,hfz110_1,hfz110_2⟩ := spec_ScaleWide.cells3 BK138.out;obtain ⟨hcz111_0,hcz111_1,hcz111_2,hfz111_0,hfz111_1,hfz111_2⟩ := spec_ScaleWide.cells3 BK131.out))
            refine bodyPost_ret (results_ct rfl _ _ gb131 28 #[.bool (a0_0 != (decide (a1 < 0))),.int .u64 (IntKind.u64.wrap (t135 + t136)),.int .u64 t137] (0,0) _ rfl (by refine bP ?_;refine blk_put (cs := #[.bool (a0_0 != (decide (a1 < 0))),.int .u64 (IntKind.u64.wrap (t135 + t136)),.int .u64 0]) ?_ 2 _ rfl;refine bP ?_;refine blk_put (cs := #[.bool (a0_0 != (decide (a1 < 0))),.int .u64 0,.int .u64 0]) ?_ 1 _ rfl;refine bP ?_;refine blk_put (cs := #[.bool false,.int .u64 0,.int .u64 0]) ?_ 0 _ rfl;refine bP ?_;exact BK131.out) Try.underlying28 rfl Z580) rfl ?_
            exact ⟨Z400,Z108⟩
          · replace c96 := Bool.eq_false_iff.mpr c96
            subst c96
            have H1 : (some (false,0,0,false)) = some (r1,r2,r3,r4) := by rw [if_neg (show ¬ (false = true) by decide)] at H;exact H
            clear H
            have H := H1
            clear H1
            simp only [Option.some.injEq,Prod.mk.injEq] at H
            obtain ⟨rfl,rfl,rfl,rfl⟩ := H
            go_enter Try.func64,Try.ntmps64
            go_wp2_with (first | ((with_reducible refine gate_dst (N := 2) rfl ?_);refine box_event ?hg (N := 2) ?hd (cs := #[.bool a0_0,.int .u64 a0_1,.int .u64 a0_2]) (t := 28) ?hr ?_;(case hd => rfl);(case hg => rfl);(case hr => exact Z515);intro gb130 hg w112 hbox hb;have n_ := jA (below_step Z486 hb) (jA (hbox) (jA ((Z271 : w.heap.size ≤ gb130)) (Aside0.mk ((Z271 : w.heap.size ≤ gb130)))));clear HB;obtain ⟨HB,BK130,GW130,GE130⟩ := n_;clear hb hbox hg) | ((with_reducible refine gate_dst (N := 4) rfl ?_);refine box_event ?hg (N := 4) ?hd (cs := #[.bool false,.int .u64 0,.int .u64 0]) (t := 28) ?hr ?_;(case hd => rfl);(case hg => rfl);(case hr => exact Z515);intro gb131 hg w113 hbox hb;have n_ := jA (blk_below (g := gb130) (o := .cells #[.bool a0_0,.int .u64 a0_1,.int .u64 a0_2] 28 (0,0)) Z583 hb) (jA (below_step Z457 hb) (jA (hbox) (jA ((Z184 : w.heap.size ≤ gb131)) (jA ((Z184 : w.heap.size ≤ gb131)) (jA ((Z327 : gb130 ≠ gb131)) (Aside0.mk ((Z328 : gb131 ≠ gb130))))))));clear BK130 HB;obtain ⟨BK130,HB,BK131,GW131,GE131,NB130_131,NB131_130⟩ := n_;clear hb hbox hg;have hnb114 := NB130_131.out;have hnc114 := NB131_130.out;obtain ⟨hcz115_0,hcz115_1,hcz115_2,hfz115_0,hfz115_1,hfz115_2⟩ := spec_ScaleWide.cells3 BK130.out) | ((with_reducible refine gate_callee (f := 65) rfl ?_);refine goesL_ (some 14) rfl rfl Try.func65 Z580 rfl #[.agg #[.bool a0_0,.int .u64 a0_1,.int .u64 a0_2]] rfl Z395 ?_;(with_reducible refine (spec_WideOk.calls a0_0 a0_1 a0_2 true _ A3.out).mono ?_);rintro e w116 ⟨rfl,hb⟩;refine ⟨_,rfl,?_⟩;have n_ := jA (blk_below (g := gb130) (o := .cells #[.bool a0_0,.int .u64 a0_1,.int .u64 a0_2] 28 (0,0)) Z583 hb) (jA (blk_below (g := gb131) (o := .cells #[.bool false,.int .u64 0,.int .u64 0] 28 (0,0)) Z584 hb) (Aside0.mk (below_step Z429 hb)));clear BK130 BK131 HB;obtain ⟨BK130,BK131,HB⟩ := n_;(try clear hb);(try clear hb2);(try clear hk);(try clear hi)) | ((with_reducible refine gate_callee (f := 80) rfl ?_);refine goesL_ (some 18) rfl rfl Try.func80 Z580 rfl #[.int .i64 a1] rfl Z395 ?_;(with_reducible refine (spec_l3Abs.calls a1 t133 _ A5.out).mono ?_);rintro e w' ⟨rfl,⟨nd,rfl⟩⟩;refine ⟨_,rfl,?_⟩;(iterate 4 (try (rw [drewN_self w116];generalize hq_ : World.drewN w116 _ = w116;have n0_ : Aside0 (w116.heap[gb130]? = some (.cells #[.bool a0_0,.int .u64 a0_1,.int .u64 a0_2] 28 (0,0))) := ⟨Z493⟩;have n1_ : Aside0 (w116.heap[gb131]? = some (.cells #[.bool false,.int .u64 0,.int .u64 0] 28 (0,0))) := ⟨Z492⟩;have n2_ : Aside0 (Below w.heap.size w w116) := ⟨Z129⟩;clear BK130 BK131 HB hq_;have BK130 := n0_;have BK131 := n1_;have HB := n2_;clear n0_ n1_ n2_)));obtain ⟨hcz117_0,hcz117_1,hcz117_2,hfz117_0,hfz117_1,hfz117_2⟩ := spec_ScaleWide.cells3 BK130.out) | ((with_reducible refine gate_callee (f := 79) rfl ?_);refine goesL_ (some 23) rfl rfl Try.func79 Z580 rfl #[.int .u64 a0_1,.int .u64 t133] rfl Z395 ?_;(with_reducible refine (spec_l3Product.calls a0_1 t133 t134 t135 _ A6.out).mono ?_);rintro e w' ⟨rfl,⟨nd,rfl⟩⟩;refine ⟨_,rfl,?_⟩;(iterate 4 (try (rw [drewN_self w116];generalize hq_ : World.drewN w116 _ = w116;have n0_ : Aside0 (w116.heap[gb130]? = some (.cells #[.bool a0_0,.int .u64 a0_1,.int .u64 a0_2] 28 (0,0))) := ⟨Z493⟩;have n1_ : Aside0 (w116.heap[gb131]? = some (.cells #[.bool false,.int .u64 0,.int .u64 0] 28 (0,0))) := ⟨Z492⟩;have n2_ : Aside0 (Below w.heap.size w w116) := ⟨Z129⟩;clear BK130 BK131 HB hq_;have BK130 := n0_;have BK131 := n1_;have HB := n2_;clear n0_ n1_ n2_)));(try (obtain ⟨hcz117_0,hcz117_1,hcz117_2,hfz117_0,hfz117_1,hfz117_2⟩ := spec_ScaleWide.cells3 BK130.out))) | ((with_reducible refine gate_callee (f := 79) rfl ?_);refine goesL_ (some 30) rfl rfl Try.func79 Z580 rfl #[.int .u64 a0_2,.int .u64 t133] rfl Z395 ?_;(with_reducible refine (spec_l3Product.calls a0_2 t133 t136 t137 _ A7.out).mono ?_);rintro e w' ⟨rfl,⟨nd,rfl⟩⟩;refine ⟨_,rfl,?_⟩;(iterate 4 (try (rw [drewN_self w116];generalize hq_ : World.drewN w116 _ = w116;have n0_ : Aside0 (w116.heap[gb130]? = some (.cells #[.bool a0_0,.int .u64 a0_1,.int .u64 a0_2] 28 (0,0))) := ⟨Z493⟩;have n1_ : Aside0 (w116.heap[gb131]? = some (.cells #[.bool false,.int .u64 0,.int .u64 0] 28 (0,0))) := ⟨Z492⟩;have n2_ : Aside0 (Below w.heap.size w w116) := ⟨Z129⟩;clear BK130 BK131 HB hq_;have BK130 := n0_;have BK131 := n1_;have HB := n2_;clear n0_ n1_ n2_)));(try (obtain ⟨hcz117_0,hcz117_1,hcz117_2,hfz117_0,hfz117_1,hfz117_2⟩ := spec_ScaleWide.cells3 BK130.out))) | ((with_reducible refine gate_dst (N := 12) rfl ?_);refine box_event ?hg (N := 12) ?hd (cs := #[.bool false,.int .u64 0,.int .u64 0]) (t := 28) ?hr ?_;(case hd => rfl);(case hg => rfl);(case hr => exact Z515);intro gb138 hg w118 hbox hb;have n_ := jA (blk_below (g := gb130) (o := .cells #[.bool a0_0,.int .u64 a0_1,.int .u64 a0_2] 28 (0,0)) Z583 hb) (jA (blk_below (g := gb131) (o := .cells #[.bool false,.int .u64 0,.int .u64 0] 28 (0,0)) Z584 hb) (jA (below_step Z429 hb) (jA (hbox) (jA ((Z109 : w.heap.size ≤ gb138)) (jA ((Z109 : w.heap.size ≤ gb138)) (jA ((Z327 : gb130 ≠ gb138)) (jA ((Z328 : gb138 ≠ gb130)) (jA ((Z355 : gb131 ≠ gb138)) (Aside0.mk ((Z356 : gb138 ≠ gb131)))))))))));clear BK130 BK131 HB;obtain ⟨BK130,BK131,HB,BK138,GW138,GE138,NB130_138,NB138_130,NB131_138,NB138_131⟩ := n_;clear hb hbox hg;have hnb119 := NB138_130.out;have hnc119 := NB130_138.out;have hnb120 := NB138_131.out;have hnc120 := NB131_138.out;obtain ⟨hcz121_0,hcz121_1,hcz121_2,hfz121_0,hfz121_1,hfz121_2⟩ := spec_ScaleWide.cells3 BK138.out) | ((with_reducible refine gate_callee (f := 67) rfl ?_);refine goesL_ (some 45) rfl rfl Try.func67 Z580 rfl #[.agg #[.bool (a0_0 != (decide (a1 < 0))),.int .u64 (IntKind.u64.wrap (t135 + t136)),.int .u64 t137]] rfl Z395 ?_;(with_reducible refine (spec_l3Zero.calls (a0_0 != (decide (a1 < 0))) (IntKind.u64.wrap (t135 + t136)) t137 false _ A8.out).mono ?_);rintro e w122 ⟨rfl,hb⟩;refine ⟨_,rfl,?_⟩;have n_ := jA (blk_below (g := gb130) (o := .cells #[.bool a0_0,.int .u64 a0_1,.int .u64 a0_2] 28 (0,0)) Z231 hb) (jA (blk_below (g := gb131) (o := .cells #[.bool false,.int .u64 0,.int .u64 0] 28 (0,0)) Z230 hb) (jA (blk_below (g := gb138) (o := .cells #[.bool (a0_0 != (decide (a1 < 0))),.int .u64 (IntKind.u64.wrap (t135 + t136)),.int .u64 t137] 28 (0,0)) Z30 hb) (Aside0.mk (below_step Z108 hb))));clear BK130 BK131 BK138 HB;obtain ⟨BK130,BK131,BK138,HB⟩ := n_;(try clear hb);(try clear hb2);(try clear hk);(try clear hi);obtain ⟨hcz123_0,hcz123_1,hcz123_2,hfz123_0,hfz123_1,hfz123_2⟩ := spec_ScaleWide.cells3 BK138.out) | (go_at_call 65;(with_reducible refine (spec_WideOk.calls (a0_0 != (decide (a1 < 0))) (IntKind.u64.wrap (t135 + t136)) t137 false _ A95.out).mono ?_);rintro e w124 ⟨rfl,hb⟩;have n_ := jA (blk_below (g := gb130) (o := .cells #[.bool a0_0,.int .u64 a0_1,.int .u64 a0_2] 28 (0,0)) Z583 hb) (jA (blk_below (g := gb131) (o := .cells #[.bool false,.int .u64 0,.int .u64 0] 28 (0,0)) Z584 hb) (jA (blk_below (g := gb138) (o := .cells #[.bool (a0_0 != (decide (a1 < 0))),.int .u64 (IntKind.u64.wrap (t135 + t136)),.int .u64 t137] 28 (0,0)) (by refine bP ?_;exact BK138.out) hb) (Aside0.mk (below_step Z108 hb))));clear BK130 BK131 BK138 HB;obtain ⟨BK130,BK131,BK138,HB⟩ := n_;(try clear hb);(try clear hb2);(try clear hk);(try clear hi);obtain ⟨hcz125_0,hcz125_1,hcz125_2,hfz125_0,hfz125_1,hfz125_2⟩ := spec_ScaleWide.cells3 BK131.out))
            refine bodyPost_ret (results_ct rfl _ _ gb131 28 #[.bool false,.int .u64 0,.int .u64 0] (0,0) _ rfl Z77 Try.underlying28 rfl Z580) rfl ?_
            exact ⟨Z400,Z108⟩
  · replace c4 := Bool.eq_false_iff.mpr c4
    subst c4
    have H1 : (some (false,0,0,false)) = some (r1,r2,r3,r4) := by rw [if_neg (show ¬ (false = true) by decide)] at H;exact H
    clear H
    have H := H1
    clear H1
    simp only [Option.some.injEq,Prod.mk.injEq] at H
    obtain ⟨rfl,rfl,rfl,rfl⟩ := H
    go_enter Try.func64,Try.ntmps64
    go_wp2_with (first | ((with_reducible refine gate_dst (N := 2) rfl ?_);refine box_event ?hg (N := 2) ?hd (cs := #[.bool a0_0,.int .u64 a0_1,.int .u64 a0_2]) (t := 28) ?hr ?_;(case hd => rfl);(case hg => rfl);(case hr => exact Z515);intro gb130 hg w126 hbox hb;have n_ := jA (below_step Z486 hb) (jA (hbox) (jA ((Z271 : w.heap.size ≤ gb130)) (Aside0.mk ((Z271 : w.heap.size ≤ gb130)))));clear HB;obtain ⟨HB,BK130,GW130,GE130⟩ := n_;clear hb hbox hg) | ((with_reducible refine gate_dst (N := 4) rfl ?_);refine box_event ?hg (N := 4) ?hd (cs := #[.bool false,.int .u64 0,.int .u64 0]) (t := 28) ?hr ?_;(case hd => rfl);(case hg => rfl);(case hr => exact Z515);intro gb131 hg w127 hbox hb;have n_ := jA (blk_below (g := gb130) (o := .cells #[.bool a0_0,.int .u64 a0_1,.int .u64 a0_2] 28 (0,0)) Z583 hb) (jA (below_step Z457 hb) (jA (hbox) (jA ((Z184 : w.heap.size ≤ gb131)) (jA ((Z184 : w.heap.size ≤ gb131)) (jA ((Z327 : gb130 ≠ gb131)) (Aside0.mk ((Z328 : gb131 ≠ gb130))))))));clear BK130 HB;obtain ⟨BK130,HB,BK131,GW131,GE131,NB130_131,NB131_130⟩ := n_;clear hb hbox hg;have hnb128 := NB130_131.out;have hnc128 := NB131_130.out;obtain ⟨hcz129_0,hcz129_1,hcz129_2,hfz129_0,hfz129_1,hfz129_2⟩ := spec_ScaleWide.cells3 BK130.out) | ((with_reducible refine gate_callee (f := 65) rfl ?_);refine goesL_ (some 14) rfl rfl Try.func65 Z580 rfl #[.agg #[.bool a0_0,.int .u64 a0_1,.int .u64 a0_2]] rfl Z395 ?_;(with_reducible refine (spec_WideOk.calls a0_0 a0_1 a0_2 false _ A3.out).mono ?_);rintro e w130 ⟨rfl,hb⟩;refine ⟨_,rfl,?_⟩;have n_ := jA (blk_below (g := gb130) (o := .cells #[.bool a0_0,.int .u64 a0_1,.int .u64 a0_2] 28 (0,0)) Z583 hb) (jA (blk_below (g := gb131) (o := .cells #[.bool false,.int .u64 0,.int .u64 0] 28 (0,0)) Z584 hb) (Aside0.mk (below_step Z429 hb)));clear BK130 BK131 HB;obtain ⟨BK130,BK131,HB⟩ := n_;(try clear hb);(try clear hb2);(try clear hk);(try clear hi);obtain ⟨hcz131_0,hcz131_1,hcz131_2,hfz131_0,hfz131_1,hfz131_2⟩ := spec_ScaleWide.cells3 BK131.out))
    refine bodyPost_ret (results_ct rfl _ _ gb131 28 #[.bool false,.int .u64 0,.int .u64 0] (0,0) _ rfl Z77 Try.underlying28 rfl Z580) rfl ?_
    exact ⟨Z400,Z429⟩

end Go.Proofs.Ytjcjehnjbgklbaa.QFnImproves
